import PyProof.Rows.All
import Wide.All
import OpenK.AllK
import Wide.FinOn
import KE.KStateDown
import KE.SortData
import HandS.ForMost
import HandS.ForExc
import HandS.Flow
import HandS.Style
import HandS.TupAny
import HandS.TupMul
import HandS.TupLe
import HandS.Deep
import HandS.Conv
import HandS.IsInst
import HandS.Zip
import HandS.Star
import HandS.More
import KE.GoesEnum
import HandS.Defaults
import HandS.SortInts
import HandS.Text
import HandS.Iter
import HandS.HeadHook2
import KE.DataCmp
import KE.SortCalls
import KE.KTupSum
import PyProof.P3In
import KE.KDictDisplayH
import KE.KDictSum
import PyProof.Rows.ChunkLeaf
import PySem.Challenge.RW_barscut_k83_splits_and_stops_bent
import HandS.Words
import HandS.WordsExc
import HandS.Head0
import HandS.Head1
import HandS.Head2
import HandS.HeadEnd
import HandS.HeadHook1
import Lean
set_option Elab.async false
set_option linter.all false
set_option maxRecDepth 100000
set_option maxHeartbeats 0
/-! ### Ev: data values, what they mean on the heap, states of bodies -/
namespace Ev
open PySem PySem.Spec PyProof.Rows L2

/-- data: what a value is worth, whatever its address. obj: a finished instance (class's name, fields); mref: the i-th changing object; scr: the script -/
inductive D where
  | non | bl (b : Bool) | int (i : Int) | str (x : Str)
  | tup (xs : List D) | lst (xs : List D) | obj (c : Str) (fs : List (Str × D)) | mref (i : Nat) | scr (ns : List Int)
/-- a changing object: a dict with keys that are ints, texts; one with keys that are tuples of them (locked while a loop walks it) -/
inductive MO where
  | k (kds : List (Key × D))
  | t (lk : Bool) (kds : List (List Key × D))
abbrev Sto := List MO
inductive Res (α : Type) where
  | ok (a : α) (s : Sto)
  | bad
abbrev M (α : Type) := Sto → Res α
def Res.then {α β : Type} (r : Res α) (k : α → Sto → Res β) : Res β := match r with
  | .ok a s => k a s
  | .bad => .bad
@[simp] theorem Res.then_ok {α β : Type} (a : α) (s : Sto) (k : α → Sto → Res β) : (Res.ok a s).then k = k a s := rfl
@[simp] theorem Res.then_bad {α β : Type} (k : α → Sto → Res β) : (Res.bad : Res α).then k = .bad := rfl
def Res.post {α : Type} (r : Res α) (P : α → Sto → Prop) : Prop := match r with
  | .ok a s => P a s
  | .bad => False
@[simp] theorem Res.post_ok {α : Type} (a : α) (s : Sto) (P : α → Sto → Prop) : (Res.ok a s).post P = P a s := rfl
@[simp] theorem Res.post_bad {α : Type} (P : α → Sto → Prop) : (Res.bad : Res α).post P = False := rfl
theorem Res.post_ex {α : Type} {r : Res α} {P : α → Sto → Prop} (h : r.post P) : ∃ a s, r = .ok a s ∧ P a s := by
  cases r with
  | ok a s => exact ⟨a, s, rfl, h⟩
  | bad => exact h.elim
theorem Res.then_ex {α β : Type} {r : Res α} {k : α → Sto → Res β} {b : β} {s' : Sto} (h : r.then k = .ok b s') : ∃ a s, r = .ok a s ∧ k a s = .ok b s' := by
  cases r with
  | ok a s => exact ⟨a, s, rfl, h⟩
  | bad => cases h
theorem Res.post_then {α β : Type} {r : Res α} {k : α → Sto → Res β} {P : β → Sto → Prop} : (r.then k).post P ↔ r.post fun a s => (k a s).post P := by
  cases r <;> rfl
theorem Res.post_mono {α : Type} {r : Res α} {P P' : α → Sto → Prop} (h : r.post P) (f : ∀ a s, P a s → P' a s) : r.post P' := by
  cases r with
  | ok a s => exact f _ _ h
  | bad => exact h.elim
def optR {α : Type} (o : Option α) (s : Sto) : Res α := match o with
  | some a => .ok a s
  | none => .bad
@[simp] theorem optR_some {α : Type} (a : α) (s : Sto) : optR (some a) s = .ok a s := rfl
@[simp] theorem optR_none {α : Type} (s : Sto) : optR (none : Option α) s = .bad := rfl
theorem optR_ex {α : Type} {o : Option α} {s s' : Sto} {a : α} (h : optR o s = .ok a s') : o = some a ∧ s = s' := by
  cases o with
  | some b => cases h; exact ⟨rfl, rfl⟩
  | none => cases h

/-- the ghost: what stands for good; where the changing objects are -/
structure Gh where
  F : Hp
  as : List Addr
  me : Addr

section
variable (K : PySem.W.Frag) (mg : Str → Option Value)
mutual
inductive Rep (g : Gh) : V → D → Prop
  | non : Rep g .non .non
  | bl (b : Bool) : Rep g (.bl b) (.bl b)
  | int (i : Int) : Rep g (.int i) (.int i)
  | str (x : Str) : Rep g (.str x) (.str x)
  | tup {a : Addr} {vs : List V} {ds : List D} : g.F a = some (.tup vs) → Reps g vs ds → Rep g (.ref a) (.tup ds)
  | lst {a : Addr} {vs : List V} {ds : List D} : g.F a = some (.lst vs) → Reps g vs ds → Rep g (.ref a) (.lst ds)
  | obj {a C dx : Addr} {fvs : List (Str × V)} {c : Str} {fs : List (Str × D)} : mg c = some (.ref C) → g.F a = some (.ins C dx fvs) → g.F dx = some (.own a) → FReps g fvs fs → Rep g (.ref a) (.obj c fs)
  | mref {i : Nat} {a : Addr} : g.as[i]? = some a → Rep g (.ref a) (.mref i)
  | scr {a : Addr} {ns : List Int} : SqL K g.F a (ns.map V.int) → Rep g (.ref a) (.scr ns)
inductive Reps (g : Gh) : List V → List D → Prop
  | nil : Reps g [] []
  | cons {v : V} {d : D} {vs : List V} {ds : List D} : Rep g v d → Reps g vs ds → Reps g (v :: vs) (d :: ds)
inductive FReps (g : Gh) : List (Str × V) → List (Str × D) → Prop
  | nil : FReps g [] []
  | cons {x : Str} {v : V} {d : D} {vs : List (Str × V)} {ds : List (Str × D)} : Rep g v d → FReps g vs ds → FReps g ((x, v) :: vs) ((x, d) :: ds)
end
end
section
variable {K : PySem.W.Frag} {mg : Str → Option Value} {g g' : Gh} {H H' : Hp} {S S' : Sto}
structure GLe (g g' : Gh) : Prop where
  F : Same g.F g'.F
  as : ∀ (i : Nat) (a : Addr), g.as[i]? = some a → g'.as[i]? = some a
  me : g'.me = g.me
theorem GLe.refl (g : Gh) : GLe g g := ⟨Same.refl _, fun _ _ h => h, rfl⟩
theorem GLe.trans {g1 g2 g3 : Gh} (a : GLe g1 g2) (b : GLe g2 g3) : GLe g1 g3 := ⟨a.F.trans b.F, fun i x h => b.as i x (a.as i x h), b.me.trans a.me⟩
mutual
theorem Rep.mono0 (lF : Same g.F g'.F) (la : ∀ (i : Nat) (a : Addr), g.as[i]? = some a → g'.as[i]? = some a) : ∀ {v : V} {d : D}, Rep K mg g v d → Rep K mg g' v d
  | _, _, .non => .non
  | _, _, .bl b => .bl b
  | _, _, .int i => .int i
  | _, _, .str x => .str x
  | _, _, .tup h r => .tup (lF _ _ h) (Reps.mono0 lF la r)
  | _, _, .lst h r => .lst (lF _ _ h) (Reps.mono0 lF la r)
  | _, _, .obj m h h2 r => .obj m (lF _ _ h) (lF _ _ h2) (FReps.mono0 lF la r)
  | _, _, .mref h => .mref (la _ _ h)
  | _, _, .scr h => .scr (lF.seq h)
theorem Reps.mono0 (lF : Same g.F g'.F) (la : ∀ (i : Nat) (a : Addr), g.as[i]? = some a → g'.as[i]? = some a) : ∀ {vs : List V} {ds : List D}, Reps K mg g vs ds → Reps K mg g' vs ds
  | _, _, .nil => .nil
  | _, _, .cons h r => .cons (Rep.mono0 lF la h) (Reps.mono0 lF la r)
theorem FReps.mono0 (lF : Same g.F g'.F) (la : ∀ (i : Nat) (a : Addr), g.as[i]? = some a → g'.as[i]? = some a) : ∀ {vs : List (Str × V)} {ds : List (Str × D)}, FReps K mg g vs ds → FReps K mg g' vs ds
  | _, _, .nil => .nil
  | _, _, .cons h r => .cons (Rep.mono0 lF la h) (FReps.mono0 lF la r)
end
theorem Rep.mono (l : GLe g g') {v : V} {d : D} (r : Rep K mg g v d) : Rep K mg g' v d := r.mono0 l.F l.as
theorem Reps.mono (l : GLe g g') {vs : List V} {ds : List D} (r : Reps K mg g vs ds) : Reps K mg g' vs ds := r.mono0 l.F l.as
theorem FReps.mono (l : GLe g g') {vs : List (Str × V)} {ds : List (Str × D)} (r : FReps K mg g vs ds) : FReps K mg g' vs ds := r.mono0 l.F l.as
theorem Reps.length : ∀ {vs : List V} {ds : List D}, Reps K mg g vs ds → vs.length = ds.length
  | _, _, .nil => rfl
  | _, _, .cons _ r => congrArg (· + 1) (Reps.length r)
theorem Reps.get : ∀ {vs : List V} {ds : List D} {i : Nat} {d : D}, Reps K mg g vs ds → ds[i]? = some d → ∃ v, vs[i]? = some v ∧ Rep K mg g v d
  | _, _, _, _, .nil, h => by simp at h
  | _, _, 0, _, .cons r _, h => by simp at h; subst h; exact ⟨_, rfl, r⟩
  | _, _, i + 1, _, .cons _ r, h => by
    obtain ⟨v, h1, h2⟩ := Reps.get (i := i) r (by simpa using h)
    exact ⟨v, by simpa using h1, h2⟩
theorem Reps.getV : ∀ {vs : List V} {ds : List D} {i : Nat} {v : V}, Reps K mg g vs ds → vs[i]? = some v → ∃ d, ds[i]? = some d ∧ Rep K mg g v d
  | _, _, _, _, .nil, h => by simp at h
  | _, _, 0, _, .cons r _, h => by simp at h; subst h; exact ⟨_, rfl, r⟩
  | _, _, i + 1, _, .cons _ r, h => by
    obtain ⟨v, h1, h2⟩ := Reps.getV (i := i) r (by simpa using h)
    exact ⟨v, by simpa using h1, h2⟩
theorem Reps.append : ∀ {vs ws : List V} {ds es : List D}, Reps K mg g vs ds → Reps K mg g ws es → Reps K mg g (vs ++ ws) (ds ++ es)
  | _, _, _, _, .nil, r => r
  | _, _, _, _, .cons h r, q => .cons h (Reps.append r q)
theorem Reps.one {v : V} {d : D} (h : Rep K mg g v d) : Reps K mg g [v] [d] := .cons h .nil
theorem Reps.set {v : V} {d : D} (h : Rep K mg g v d) : ∀ {vs : List V} {ds : List D} (i : Nat), Reps K mg g vs ds → Reps K mg g (vs.set i v) (ds.set i d)
  | _, _, _, .nil => .nil
  | _, _, 0, .cons _ r => .cons h r
  | _, _, i + 1, .cons q r => .cons q (Reps.set h i r)
theorem Reps.take : ∀ {vs : List V} {ds : List D} (n : Nat), Reps K mg g vs ds → Reps K mg g (vs.take n) (ds.take n)
  | _, _, 0, _ => .nil
  | _, _, _ + 1, .nil => .nil
  | _, _, n + 1, .cons h r => .cons h (Reps.take n r)
theorem Reps.drop : ∀ {vs : List V} {ds : List D} (n : Nat), Reps K mg g vs ds → Reps K mg g (vs.drop n) (ds.drop n)
  | _, _, 0, h => h
  | _, _, _ + 1, .nil => .nil
  | _, _, n + 1, .cons _ r => Reps.drop n r
theorem Reps.eraseIdx : ∀ {vs : List V} {ds : List D} (n : Nat), Reps K mg g vs ds → Reps K mg g (vs.eraseIdx n) (ds.eraseIdx n)
  | _, _, _, .nil => .nil
  | _, _, 0, .cons _ r => r
  | _, _, n + 1, .cons h r => .cons h (Reps.eraseIdx n r)
theorem Reps.dropLast : ∀ {vs : List V} {ds : List D}, Reps K mg g vs ds → Reps K mg g vs.dropLast ds.dropLast
  | _, _, .nil => .nil
  | _, _, .cons h .nil => .nil
  | _, _, .cons h (.cons h2 r) => .cons h (Reps.dropLast (.cons h2 r))
theorem Reps.rep {vs : List V} {ds : List D} (h : Reps K mg g vs ds) : ∀ k : Nat, Reps K mg g (List.replicate k vs).flatten (List.replicate k ds).flatten
  | 0 => .nil
  | k + 1 => by
    rw [List.replicate_succ, List.replicate_succ, List.flatten_cons, List.flatten_cons]
    exact h.append (Reps.rep h k)
theorem FReps.look : ∀ {vs : List (Str × V)} {ds : List (Str × D)} {f : Str} {d : D}, FReps K mg g vs ds → ds.lookup f = some d → ∃ v, vs.lookup f = some v ∧ Rep K mg g v d
  | _, _, _, _, .nil, h => by simp at h
  | _, _, f, d, .cons (x := x) r q, h => by
    by_cases e : (f == x) = true
    · simp only [List.lookup_cons, e] at h ⊢
      cases h
      exact ⟨_, rfl, r⟩
    · have e' : (f == x) = false := by simpa using e
      simp only [List.lookup_cons, e'] at h ⊢
      exact FReps.look q h
theorem FReps.length : ∀ {vs : List (Str × V)} {ds : List (Str × D)}, FReps K mg g vs ds → vs.length = ds.length
  | _, _, .nil => rfl
  | _, _, .cons _ r => congrArg (· + 1) (FReps.length r)
def putD (f : Str) (d : D) : List (Str × D) → List (Str × D)
  | [] => [(f, d)]
  | (x, e) :: r => if x = f then (f, d) :: r else (x, e) :: putD f d r
theorem FReps.put {f : Str} {v : V} {d : D} (h : Rep K mg g v d) : ∀ {vs : List (Str × V)} {ds : List (Str × D)}, FReps K mg g vs ds → FReps K mg g (putF f v vs) (putD f d ds)
  | _, _, .nil => .cons h .nil
  | _, _, .cons (x := x) r q => by
    unfold putF putD
    by_cases e : x = f
    · subst e
      simp only [if_true]
      exact .cons h q
    · simp only [if_neg e]
      exact .cons r (FReps.put h q)

/-- a dict's pairs -/
inductive KReps {κ : Type} (K : PySem.W.Frag) (mg : Str → Option Value) (g : Gh) : List (κ × V) → List (κ × D) → Prop
  | nil : KReps K mg g [] []
  | cons {k : κ} {v : V} {d : D} {vs : List (κ × V)} {ds : List (κ × D)} : Rep K mg g v d → KReps K mg g vs ds → KReps K mg g ((k, v) :: vs) ((k, d) :: ds)
theorem KReps.mono {κ : Type} (l : GLe g g') : ∀ {vs : List (κ × V)} {ds : List (κ × D)}, KReps K mg g vs ds → KReps K mg g' vs ds
  | _, _, .nil => .nil
  | _, _, .cons h r => .cons (h.mono l) (KReps.mono l r)
theorem KReps.mono0 {κ : Type} (lF : Same g.F g'.F) (la : ∀ (i : Nat) (a : Addr), g.as[i]? = some a → g'.as[i]? = some a) : ∀ {vs : List (κ × V)} {ds : List (κ × D)}, KReps K mg g vs ds → KReps K mg g' vs ds
  | _, _, .nil => .nil
  | _, _, .cons h r => .cons (h.mono0 lF la) (KReps.mono0 lF la r)
/-- a changing object as it stands -/
inductive MOk (K : PySem.W.Frag) (mg : Str → Option Value) (g : Gh) (a : Addr) : HO → MO → Prop
  | k {kvs : List (Key × V)} {kds : List (Key × D)} : KReps K mg g kvs kds → MOk K mg g a (.dK kvs) (.k kds)
  | t {kvs : List (List Key × V)} {kds : List (List Key × D)} : KReps K mg g kvs kds → MOk K mg g a (.dT kvs) (.t false kds)
  | l {o : Obj} {kvs : List (List Key × V)} {kds : List (List Key × D)} : g.F a = some (.frz o (.dT kvs)) → KReps K mg g kvs kds → MOk K mg g a (.frz o (.dT kvs)) (.t true kds)
theorem MOk.mono0 {a : Addr} (lF : Same g.F g'.F) (la : ∀ (i : Nat) (a : Addr), g.as[i]? = some a → g'.as[i]? = some a) {o : HO} {m : MO} (h : MOk K mg g a o m) : MOk K mg g' a o m := by
  cases h with
  | k r => exact .k (r.mono0 lF la)
  | t r => exact .t (r.mono0 lF la)
  | l hF r => exact .l (lF _ _ hF) (r.mono0 lF la)
theorem MOk.mono {a : Addr} (l : GLe g g') {o : HO} {m : MO} (h : MOk K mg g a o m) : MOk K mg g' a o m := h.mono0 l.F l.as
theorem MOk.ne_tup {a : Addr} {o : HO} {m : MO} (h : MOk K mg g a o m) (xs : List V) : o ≠ .tup xs := by
  cases h <;> exact fun z => nomatch z
theorem MOk.ne_lst {a : Addr} {o : HO} {m : MO} (h : MOk K mg g a o m) (xs : List V) : o ≠ .lst xs := by
  cases h <;> exact fun z => nomatch z
/-- a changing object's place in what stands for good: nothing, or the object while it is locked -/
def Lkd (o : Option HO) : Prop := o = none ∨ ∃ ob kvs, o = some (.frz ob (.dT kvs))

/-- the ghost is true of a heap -/
structure GOk (K : PySem.W.Frag) (mg : Str → Option Value) (g : Gh) (H : Hp) (S : Sto) : Prop where
  sub : Same g.F H
  nd : g.as.Nodup
  len : S.length = g.as.length
  nf : ∀ a ∈ g.as, Lkd (g.F a)
  st : ∀ (i : Nat) (a : Addr), g.as[i]? = some a → ∃ o m, H a = some o ∧ S[i]? = some m ∧ MOk K mg g a o m
/-- from one state to a later one -/
structure Stp (g : Gh) (H : Hp) (g' : Gh) (H' : Hp) : Prop where
  le : GLe g g'
  keep : ∀ a o, H a = some o → a ∉ g.as → H' a = some o
  there : ∀ a, H a ≠ none → H' a ≠ none
  newF : ∀ a, g'.F a ≠ none → g.F a ≠ none ∨ H a = none ∨ a ∈ g.as ∨ ∃ xs, H a = some (.tup xs)
  newA : ∀ a ∈ g'.as, a ∈ g.as ∨ H a = none
theorem Stp.refl : Stp g H g H := ⟨.refl _, fun _ _ h _ => h, fun _ h => h, fun _ h => .inl h, fun _ h => .inl h⟩
/-- what is neither for good nor a tuple nor a changing object stays so -/
theorem Stp.stay (s : Stp g H g' H') {q : Addr} {ob : HO} (hq : H q = some ob) (hF : g.F q = none) (hA : q ∉ g.as) (ht : ∀ xs, ob ≠ .tup xs) : g'.F q = none ∧ q ∉ g'.as := by
  refine ⟨?_, fun z => ?_⟩
  · cases e : g'.F q with
    | none => rfl
    | some u =>
      rcases s.newF q (by rw [e]; exact fun z => nomatch z) with z | z | z | ⟨xs, z⟩
      · exact absurd hF z
      · rw [hq] at z; cases z
      · exact absurd z hA
      · rw [hq] at z; cases z; exact absurd rfl (ht xs)
  · rcases s.newA q z with z | z
    · exact hA z
    · rw [hq] at z; cases z
theorem Stp.trans {g1 g2 g3 : Gh} {H1 H2 H3 : Hp} (a : Stp g1 H1 g2 H2) (b : Stp g2 H2 g3 H3) : Stp g1 H1 g3 H3 where
  le := a.le.trans b.le
  keep := fun x o h n => b.keep x o (a.keep x o h n) fun q => (a.newA x q).elim n fun z => by rw [z] at h; cases h
  there := fun x h => b.there x (a.there x h)
  newF := fun x h => by
    rcases b.newF x h with z | z | z | ⟨xs, z⟩
    · exact a.newF x z
    · refine .inr (.inl ?_)
      cases q : H1 x with
      | none => rfl
      | some o => exact absurd z (a.there x (by rw [q]; exact fun z => nomatch z))
    · rcases a.newA x z with y | y
      · exact .inr (.inr (.inl y))
      · exact .inr (.inl y)
    · cases q : H1 x with
      | none => exact .inr (.inl rfl)
      | some o =>
        by_cases hA : x ∈ g1.as
        · exact .inr (.inr (.inl hA))
        · have := a.keep x o q hA
          rw [z] at this
          cases this
          exact .inr (.inr (.inr ⟨xs, rfl⟩))
  newA := fun x h => (b.newA x h).elim (a.newA x) fun z => .inr (by
    cases q : H1 x with
    | none => rfl
    | some o => exact absurd z (a.there x (by rw [q]; exact fun z => nomatch z)))
/-- a new object, for good -/
def Gh.add (g : Gh) (p : Addr) (o : HO) : Gh := ⟨upd g.F p o, g.as, g.me⟩
theorem GOk.nfree (G : GOk K mg g H S) {p : Addr} (h : H p = none) : g.F p = none := G.sub.free h
theorem GOk.notin (G : GOk K mg g H S) {p : Addr} (h : H p = none) : p ∉ g.as := fun q => by
  obtain ⟨i, hi, e⟩ := List.mem_iff_getElem.mp q
  obtain ⟨_, _, h1, _⟩ := G.st i p (by rw [List.getElem?_eq_getElem hi, e])
  rw [h] at h1; cases h1
theorem gle_add {p : Addr} {o : HO} (h : g.F p = none) : GLe g (g.add p o) := ⟨fun b u e => by
  show upd g.F p o b = some u
  rw [upd_ne (ne_of_none e h)]; exact e, fun _ _ h => h, rfl⟩
theorem GOk.add (G : GOk K mg g H S) {p : Addr} {o : HO} (h : H p = none) : GOk K mg (g.add p o) (upd H p o) S := by
  have hf := G.nfree h
  refine ⟨fun b u e => ?_, G.nd, G.len, fun a ha => ?_, fun i a e => ?_⟩
  · have e' : upd g.F p o b = some u := e
    by_cases hb : b = p
    · subst hb; rw [upd_same] at e' ⊢; exact e'
    · rw [upd_ne hb] at e' ⊢; exact G.sub _ _ e'
  · show Lkd (upd g.F p o a)
    rw [upd_ne (fun z : a = p => G.notin h (z ▸ ha))]; exact G.nf a ha
  · obtain ⟨kvs, kds, h1, h2, h3⟩ := G.st i a e
    exact ⟨kvs, kds, by rw [upd_ne (ne_of_none h1 h)]; exact h1, h2, h3.mono (gle_add hf)⟩
theorem stp_add (G : GOk K mg g H S) {p : Addr} {o : HO} (h : H p = none) : Stp g H (g.add p o) (upd H p o) := by
  refine ⟨gle_add (G.nfree h), fun b u e _ => by rw [upd_ne (ne_of_none e h)]; exact e, fun b e => ?_, fun b e => ?_, fun b e => .inl e⟩
  · by_cases hb : b = p
    · subst hb; rw [upd_same]; exact fun z => nomatch z
    · rw [upd_ne hb]; exact e
  · by_cases hb : b = p
    · subst hb; exact .inr (.inl h)
    · have e' : upd g.F p o b ≠ Option.none := e
      rw [upd_ne hb] at e'; exact .inl e'
/-- a new object that is not for good yet -/
theorem GOk.fresh (G : GOk K mg g H S) {p : Addr} {o : HO} (h : H p = none) : GOk K mg g (upd H p o) S := by
  refine ⟨fun b u e => ?_, G.nd, G.len, G.nf, fun i a e => ?_⟩
  · rw [upd_ne (ne_of_none (G.sub _ _ e) h)]; exact G.sub _ _ e
  · obtain ⟨kvs, kds, h1, h2, h3⟩ := G.st i a e
    exact ⟨kvs, kds, by rw [upd_ne (ne_of_none h1 h)]; exact h1, h2, h3⟩
theorem stp_fresh {p : Addr} {o : HO} (h : H p = none) : Stp g H g (upd H p o) := by
  refine ⟨.refl _, fun b u e _ => by rw [upd_ne (ne_of_none e h)]; exact e, fun b e => ?_, fun b e => .inl e, fun b e => .inl e⟩
  by_cases hb : b = p
  · subst hb; rw [upd_same]; exact fun z => nomatch z
  · rw [upd_ne hb]; exact e
/-- an object that stands is for good from now on -/
theorem GOk.freeze (G : GOk K mg g H S) {p : Addr} {o : HO} (h : H p = some o) (hf : g.F p = none) (ha : p ∉ g.as) : GOk K mg (g.add p o) H S := by
  refine ⟨fun b u e => ?_, G.nd, G.len, fun a q => ?_, fun i a e => ?_⟩
  · have e' : upd g.F p o b = some u := e
    by_cases hb : b = p
    · subst hb; rw [upd_same] at e'; rw [h]; exact e'
    · rw [upd_ne hb] at e'; exact G.sub _ _ e'
  · show Lkd (upd g.F p o a)
    rw [upd_ne (fun z : a = p => ha (z ▸ q))]; exact G.nf a q
  · obtain ⟨kvs, kds, h1, h2, h3⟩ := G.st i a e
    exact ⟨kvs, kds, h1, h2, h3.mono (gle_add hf)⟩

/-- read: for good, or a list of the body's own that stands -/
def RepR (K : PySem.W.Frag) (mg : Str → Option Value) (g : Gh) (H : Hp) (v : V) (d : D) : Prop :=
  Rep K mg g v d ∨ ∃ p vs ds, v = .ref p ∧ d = .lst ds ∧ H p = some (.lst vs) ∧ p ∉ g.as ∧ Reps K mg g vs ds
theorem RepR.step {v : V} {d : D} (r : RepR K mg g H v d) (s : Stp g H g' H') : RepR K mg g' H' v d := by
  rcases r with r | ⟨p, vs, ds, e1, e2, h, n, r⟩
  · exact .inl (r.mono s.le)
  · refine .inr ⟨p, vs, ds, e1, e2, s.keep _ _ h n, fun q => ?_, r.mono s.le⟩
    rcases s.newA p q with z | z
    · exact n z
    · rw [h] at z; cases z
theorem RepR.lst {v : V} {ds : List D} (G : GOk K mg g H S) (r : RepR K mg g H v (.lst ds)) : ∃ p vs, v = .ref p ∧ H p = some (.lst vs) ∧ Reps K mg g vs ds := by
  rcases r with r | ⟨p, vs, ds', e1, e2, h, n, r⟩
  · cases r with
    | lst h r => exact ⟨_, _, rfl, G.sub _ _ h, r⟩
  · cases e2
    exact ⟨p, vs, e1, h, r⟩
theorem RepR.tup {v : V} {ds : List D} (G : GOk K mg g H S) (r : RepR K mg g H v (.tup ds)) : ∃ p vs, v = .ref p ∧ H p = some (.tup vs) ∧ Reps K mg g vs ds := by
  rcases r with r | ⟨p, vs, ds', e1, e2, h, n, r⟩
  · cases r with
    | tup h r => exact ⟨_, _, rfl, G.sub _ _ h, r⟩
  · cases e2
theorem RepR.rep {v : V} {d : D} (r : RepR K mg g H v d) (h : ∀ ds, d ≠ .lst ds) : Rep K mg g v d := by
  rcases r with r | ⟨p, vs, ds', e1, e2, _⟩
  · exact r
  · exact absurd e2 (h _)
theorem RepR.int {v : V} {i : Int} (r : RepR K mg g H v (.int i)) : v = .int i := by
  cases r.rep (fun _ e => nomatch e); rfl
theorem RepR.str {v : V} {x : Str} (r : RepR K mg g H v (.str x)) : v = .str x := by
  cases r.rep (fun _ e => nomatch e); rfl
theorem RepR.bl {v : V} {b : Bool} (r : RepR K mg g H v (.bl b)) : v = .bl b := by
  cases r.rep (fun _ e => nomatch e); rfl
theorem RepR.non {v : V} (r : RepR K mg g H v .non) : v = .non := by
  cases r.rep (fun _ e => nomatch e); rfl
inductive RepRs (K : PySem.W.Frag) (mg : Str → Option Value) (g : Gh) (H : Hp) : List V → List D → Prop
  | nil : RepRs K mg g H [] []
  | cons {v : V} {d : D} {vs : List V} {ds : List D} : RepR K mg g H v d → RepRs K mg g H vs ds → RepRs K mg g H (v :: vs) (d :: ds)
theorem Reps.r {vs : List V} {ds : List D} (h : Reps K mg g vs ds) : RepRs K mg g H vs ds := by
  induction vs generalizing ds with
  | nil => cases h; exact .nil
  | cons v vs ih => cases h with
    | cons h1 h2 => exact .cons (.inl h1) (ih h2)
end

abbrev DEnv := List (Option D)
/-- what the body owns at a slot: a list or an instance that is being made -/
def Owned (K : PySem.W.Frag) (mg : Str → Option Value) (g : Gh) (H H0 : Hp) (p : Addr) (d : D) : Prop :=
  g.F p = none ∧ p ∉ g.as ∧ H0 p = none ∧
  ((∃ vs ds, d = .lst ds ∧ H p = some (.lst vs) ∧ Reps K mg g vs ds) ∨
   (∃ C dx c fvs fs, (p = g.me ∧ d = .obj c fs) ∧ mg c = some (.ref C) ∧ H p = some (.ins C dx fvs) ∧ H dx = some (.own p) ∧ g.F dx = none ∧ dx ∉ g.as ∧ H0 dx = none ∧ FReps K mg g fvs fs))
/-- a body's state -/
structure EnvOk (K : PySem.W.Frag) (mg : Str → Option Value) (g0 : Gh) (H0 : Hp) (own : List Nat) (ρ : DEnv) (σ : L2.St) (g : Gh) (H : Hp) (S : Sto) : Prop where
  gok : GOk K mg g H S
  stp : Stp g0 H0 g H
  len : ρ.length = σ.length
  fro : ∀ (i : Nat) (d : D), ρ[i]? = some (some d) → i ∉ own → ∃ v, σ[i]? = some (some v) ∧ Rep K mg g v d
  ow : ∀ i ∈ own, ∃ p d, ρ[i]? = some (some d) ∧ σ[i]? = some (some (.ref p)) ∧ Owned K mg g H H0 p d
  dis : ∀ i ∈ own, ∀ j ∈ own, i ≠ j → σ[i]? ≠ σ[j]?
section
variable {K : PySem.W.Frag} {mg : Str → Option Value} {g0 g g' : Gh} {H0 H H' : Hp} {S S' : Sto} {own : List Nat} {ρ : DEnv} {σ : L2.St}
theorem Owned.step {p : Addr} {d : D} (o : Owned K mg g H H0 p d) (s : Stp g H g' H') : Owned K mg g' H' H0 p d := by
  obtain ⟨h1, h2, h3, h4⟩ := o
  rcases h4 with ⟨vs, ds, e, h, r⟩ | ⟨C, dx, c, fvs, fs, e, hm, h, hd, f1, f2, f3, r⟩
  · obtain ⟨q1, q2⟩ := s.stay h h1 h2 fun _ z => nomatch z
    exact ⟨q1, q2, h3, .inl ⟨vs, ds, e, s.keep _ _ h h2, r.mono s.le⟩⟩
  · obtain ⟨q1, q2⟩ := s.stay h h1 h2 fun _ z => nomatch z
    obtain ⟨q3, q4⟩ := s.stay hd f1 f2 fun _ z => nomatch z
    exact ⟨q1, q2, h3, .inr ⟨C, dx, c, fvs, fs, ⟨e.1.trans s.le.me.symm, e.2⟩, hm, s.keep _ _ h h2, s.keep _ _ hd f2, q3, q4, f3, r.mono s.le⟩⟩
/-- behind something that changes nothing of the body's own -/
theorem EnvOk.step (E : EnvOk K mg g0 H0 own ρ σ g H S) (G : GOk K mg g' H' S') (s : Stp g H g' H') : EnvOk K mg g0 H0 own ρ σ g' H' S' where
  gok := G
  stp := E.stp.trans s
  len := E.len
  fro := fun i d h n => by
    obtain ⟨v, h1, h2⟩ := E.fro i d h n
    exact ⟨v, h1, h2.mono s.le⟩
  ow := fun i hi => by
    obtain ⟨p, d, h1, h2, h3⟩ := E.ow i hi
    exact ⟨p, d, h1, h2, h3.step s⟩
  dis := E.dis
theorem EnvOk.read (E : EnvOk K mg g0 H0 own ρ σ g H S) {i : Nat} {d : D} (h : ρ[i]? = some (some d)) (hd : ∀ c fs, i ∈ own → d ≠ .obj c fs) : ∃ v, σ[i]? = some (some v) ∧ RepR K mg g H v d := by
  by_cases hi : i ∈ own
  · obtain ⟨p, d', h1, h2, h3, h4, _, h5⟩ := E.ow i hi
    rw [h] at h1; cases h1
    rcases h5 with ⟨vs, ds, e, hh, r⟩ | ⟨C, dx, c, fvs, fs, e, _⟩
    · exact ⟨_, h2, .inr ⟨p, vs, ds, rfl, e, hh, h4, r⟩⟩
    · exact absurd e.2 (hd c fs hi)
  · obtain ⟨v, h1, h2⟩ := E.fro i d h hi
    exact ⟨v, h1, .inl h2⟩
end
end Ev
namespace Ev
open PySem PySem.Spec PyProof.Rows L2
abbrev SE := DEnv → M D
abbrev SB := DEnv → M Bool
section
variable (X : Cx) (own : List Nat)
/-- an expression's value, for good | to be read | a new list -/
def tE (se : SE) : TE := fun σ H Q => ∃ g0 H0 ρ g S, EnvOk X.K X.mg g0 H0 own ρ σ g H S ∧ (se ρ S).post fun d S' => ∀ v g' H', GOk X.K X.mg g' H' S' → Stp g H g' H' → Rep X.K X.mg g' v d → Q v H'
def tR (se : SE) : TE := fun σ H Q => ∃ g0 H0 ρ g S, EnvOk X.K X.mg g0 H0 own ρ σ g H S ∧ (se ρ S).post fun d S' => ∀ v g' H', GOk X.K X.mg g' H' S' → Stp g H g' H' → RepR X.K X.mg g' H' v d → Q v H'
def tF (se : SE) : TE := fun σ H Q => ∃ g0 H0 ρ g S, EnvOk X.K X.mg g0 H0 own ρ σ g H S ∧ (se ρ S).post fun d S' => ∃ ds, d = .lst ds ∧ ∀ p vs g' H', GOk X.K X.mg g' H' S' → Stp g H g' H' → H' p = some (.lst vs) → g'.F p = none → p ∉ g'.as → H p = none → Reps X.K X.mg g' vs ds → Q (.ref p) H'
def tB (sb : SB) : TT := fun σ H Q => ∃ g0 H0 ρ g S, EnvOk X.K X.mg g0 H0 own ρ σ g H S ∧ (sb ρ S).post fun b S' => ∀ g' H', GOk X.K X.mg g' H' S' → Stp g H g' H' → Q b H'
def SimE (e : Expr) (se : SE) : Prop := PE X e (tE X own se)
def SimR (e : Expr) (se : SE) : Prop := PE X e (tR X own se)
def SimF (e : Expr) (se : SE) : Prop := PE X e (tF X own se)
def SimT (e : Expr) (sb : SB) : Prop := PT X e (tB X own sb)
def SimW (e : Expr) (sb : SB) : Prop := PW X e (tB X own sb)
end
theorem pe_weak {X : Cx} {e : Expr} {t t' : TE} (h : PE X e t) (w : ∀ σ H Q, t' σ H Q → t σ H Q) : PE X e t' := ⟨fun pins s σ H Q I q => h.run pins s σ H Q I (w σ H Q q)⟩
theorem pt_weak {X : Cx} {e : Expr} {t t' : TT} (h : PT X e t) (w : ∀ σ H Q, t' σ H Q → t σ H Q) : PT X e t' := ⟨fun pins s σ H Q I q => h.run pins s σ H Q I (w σ H Q q)⟩
theorem pw_weak {X : Cx} {e : Expr} {t t' : TT} (h : PW X e t) (w : ∀ σ H Q, t' σ H Q → t σ H Q) : PW X e t' := ⟨fun wh pins s σ H Q I q => h.run wh pins s σ H Q I (w σ H Q q)⟩
section
variable {X : Cx} {own : List Nat} {e a b c : Expr} {se sa sb sc : SE} {pos : Pos}
theorem SimE.r (h : SimE X own e se) : SimR X own e se := pe_weak h fun σ H Q ⟨g0, H0, ρ, g, S, E, q⟩ =>
  ⟨g0, H0, ρ, g, S, E, Res.post_mono q fun d S' k v g' H' G s r => k v g' H' G s (.inl r)⟩
theorem SimF.r (h : SimF X own e se) (hl : ∀ ρ S d S', se ρ S = .ok d S' → ∃ ds, d = .lst ds) : SimR X own e se := pe_weak h fun σ H Q ⟨g0, H0, ρ, g, S, E, q⟩ => by
  obtain ⟨d, S', e1, k⟩ := Res.post_ex q
  obtain ⟨ds, rfl⟩ := hl _ _ _ _ e1
  refine ⟨g0, H0, ρ, g, S, E, ?_⟩
  rw [e1]
  exact ⟨ds, rfl, fun p vs g' H' G s h1 h2 h3 h4 r => k _ g' H' G s (.inr ⟨p, vs, ds, rfl, rfl, h1, h3, r⟩)⟩
theorem SimF.ev (h : SimF X own e se) (hl : ∀ ρ S d S', se ρ S = .ok d S' → ∃ ds, d = .lst ds) : SimE X own e se := pe_weak h fun σ H Q ⟨g0, H0, ρ, g, S, E, q⟩ => by
  obtain ⟨d, S', e1, k⟩ := Res.post_ex q
  obtain ⟨ds, rfl⟩ := hl _ _ _ _ e1
  refine ⟨g0, H0, ρ, g, S, E, ?_⟩
  rw [e1]
  refine ⟨ds, rfl, fun p vs g' H' G s h1 h2 h3 h4 r => ?_⟩
  have le := gle_add (o := .lst vs) h2
  refine k _ (g'.add p (.lst vs)) H' (G.freeze h1 h2 h3) ⟨s.le.trans le, s.keep, s.there, fun a ha => ?_, s.newA⟩ (.lst (by exact upd_same) (r.mono le))
  by_cases e : a = p
  · subst e; exact .inr (.inl h4)
  · have ha' : upd g'.F p (.lst vs) a ≠ none := ha
    rw [upd_ne e] at ha'
    exact s.newF a ha'

/-! ### names, constants -/
def sVar (i : Nat) : SE := fun ρ S => match ρ[i]? with
  | some (some d) => .ok d S
  | _ => .bad
def sC (d : D) : SE := fun _ S => .ok d S
theorem sVar_ex {i : Nat} {ρ : DEnv} {S : Sto} {P : D → Sto → Prop} (h : (sVar i ρ S).post P) : ∃ d, ρ[i]? = some (some d) ∧ P d S := by
  unfold sVar at h
  split at h
  · exact ⟨_, ‹_›, h⟩
  · exact h.elim
theorem sim_var {i : Nat} {x : Str} (h : PE X (.Name x pos) (tVar i)) (hi : i ∉ own) : SimE X own (.Name x pos) (sVar i) := pe_weak h fun σ H Q ⟨g0, H0, ρ, g, S, E, q⟩ => by
  obtain ⟨d, h1, k⟩ := sVar_ex q
  obtain ⟨v, h2, r⟩ := E.fro i d h1 hi
  exact ⟨v, h2, k v g H E.gok .refl r⟩
/-- a name that is read where it stands: a list of the body's own, too (not an instance in the making) -/
def noObj : D → Bool
  | .obj _ _ => false
  | _ => true
def sVarR (i : Nat) : SE := fun ρ S => match ρ[i]? with
  | some (some d) => if noObj d then .ok d S else .bad
  | _ => .bad
theorem sim_varR {i : Nat} {x : Str} (h : PE X (.Name x pos) (tVar i)) : SimR X own (.Name x pos) (sVarR i) := pe_weak h fun σ H Q ⟨g0, H0, ρ, g, S, E, q⟩ => by
  unfold sVarR at q
  split at q
  · rename_i d h1
    split at q
    · rename_i hn
      obtain ⟨v, h2, r⟩ := E.read h1 fun c fs _ e => by subst e; cases hn
      exact ⟨v, h2, q v g H E.gok .refl r⟩
    · exact q.elim
  · exact q.elim
theorem sim_c {v : V} {d : D} (h : PE X e (tC v)) (r : ∀ g, Rep X.K X.mg g v d) : SimE X own e (sC d) := pe_weak h fun σ H Q ⟨g0, H0, ρ, g, S, E, q⟩ => q v g H E.gok .refl (r g)
theorem sim_int {i j} : SimE X own (.Constant (.int i) j pos) (sC (.int i)) := sim_c pe_int fun _ => .int i
theorem sim_bl {b j} : SimE X own (.Constant (.bool b) j pos) (sC (.bl b)) := sim_c pe_bl fun _ => .bl b
theorem sim_non {j} : SimE X own (.Constant .none j pos) (sC .non) := sim_c pe_non fun _ => .non
theorem sim_str {x j} : SimE X own (.Constant (.str x) j pos) (sC (.str x)) := sim_c pe_str fun _ => .str x
theorem sim_gint {x : Str} {i : Int} (hg : Gl X x) (hm : ∃ t, X.mg x = some (.int i t)) (hd : (x == ("__debug__" : Str)) = false := by decide) : SimE X own (.Name x pos) (sC (.int i)) := by
  obtain ⟨t, ht⟩ := hm
  exact sim_c (pe_glob hg ht (v := .int i) ⟨t, rfl⟩ hd) fun _ => .int i
theorem sim_gstr {x z : Str} (hg : Gl X x) (hm : ∃ t, X.mg x = some (.str z t)) (hd : (x == ("__debug__" : Str)) = false := by decide) : SimE X own (.Name x pos) (sC (.str z)) := by
  obtain ⟨t, ht⟩ := hm
  exact sim_c (pe_glob hg ht (v := .str z) ⟨t, rfl⟩ hd) fun _ => .str z

/-! ### operations on values -/
def sOp2 (f : D → D → Option D) (sa sb : SE) : SE := fun ρ S => (sa ρ S).then fun x S1 => (sb ρ S1).then fun y S2 => optR (f x y) S2
def sOp1 (f : D → Option D) (sa : SE) : SE := fun ρ S => (sa ρ S).then fun x S1 => optR (f x) S1
def Op2 (X : Cx) (f : D → D → Option D) (r : R2) : Prop := ∀ (g : Gh) (H : Hp) (S : Sto) (x y : V) (a b d : D) (Q : VK), GOk X.K X.mg g H S → RepR X.K X.mg g H x a → RepR X.K X.mg g H y b → f a b = some d →
  (∀ v g' H', GOk X.K X.mg g' H' S → Stp g H g' H' → Rep X.K X.mg g' v d → Q v H') → r x y H Q
def Op1 (X : Cx) (f : D → Option D) (r : V → Hp → VK → Prop) : Prop := ∀ (g : Gh) (H : Hp) (S : Sto) (x : V) (a d : D) (Q : VK), GOk X.K X.mg g H S → RepR X.K X.mg g H x a → f a = some d →
  (∀ v g' H', GOk X.K X.mg g' H' S → Stp g H g' H' → Rep X.K X.mg g' v d → Q v H') → r x H Q
theorem two_of {f : D → D → Option D} {r : R2} (hf : Op2 X f r) {σ : L2.St} {H : Hp} {Q : VK} (h : tE X own (sOp2 f sa sb) σ H Q) : tOp r (tR X own sa) (tR X own sb) σ H Q := by
  obtain ⟨g0, H0, ρ, g, S, E, q⟩ := h
  obtain ⟨d, S', e1, k⟩ := Res.post_ex q
  obtain ⟨x, S1, e2, e1⟩ := Res.then_ex e1
  obtain ⟨y, S2, e3, e1⟩ := Res.then_ex e1
  obtain ⟨e4, rfl⟩ := optR_ex e1
  refine ⟨g0, H0, ρ, g, S, E, ?_⟩
  rw [e2]
  intro v g1 H1 G1 s1 r1
  refine ⟨g0, H0, ρ, g1, S1, E.step G1 s1, ?_⟩
  rw [e3]
  intro v2 g2 H2 G2 s2 r2
  exact hf g2 H2 S2 v v2 x y d Q G2 (r1.step s2) r2 e4 fun v3 g3 H3 G3 s3 r3 => k v3 g3 H3 G3 ((s1.trans s2).trans s3) r3
theorem sim_op {op : Operator} {f : D → D → Option D} {r : R2} (ho : OpR X (binaryOp op) r) (hf : Op2 X f r) (ha : SimR X own a sa) (hb : SimR X own b sb) : SimE X own (.BinOp a op b pos) (sOp2 f sa sb) :=
  pe_weak (pe_op ho ha hb) fun _ _ _ h => two_of hf h
theorem sim_cmp {op : CmpOp} {f : D → D → Option D} {r : R2} (ho : OpR X (compareOp op) r) (hf : Op2 X f r) (ha : SimR X own a sa) (hb : SimR X own b sb) (hm : behindInMarks op b = false) : SimE X own (.Compare a [op] [b] pos) (sOp2 f sa sb) :=
  pe_weak (pe_cmpR ho ha hb hm) fun _ _ _ h => two_of hf h
def sBool (se : SE) : SB := fun ρ S => (se ρ S).then fun d S' => match d with
  | .bl b => .ok b S'
  | _ => .bad
theorem sBool_of {σ : L2.St} {H : Hp} {Q : Bool → Hp → Prop} (h : tB X own (sBool se) σ H Q) : tE X own se σ H fun v H' => ∃ k, v = .bl k ∧ Q k H' := by
  obtain ⟨g0, H0, ρ, g, S, E, q⟩ := h
  obtain ⟨b, S', e1, k⟩ := Res.post_ex q
  obtain ⟨d, S1, e2, e1⟩ := Res.then_ex e1
  refine ⟨g0, H0, ρ, g, S, E, ?_⟩
  rw [e2]
  intro v g' H' G s r
  cases d with
  | bl x =>
    cases e1
    cases r
    exact ⟨b, rfl, k g' H' G s⟩
  | _ => cases e1
theorem sim_cmpT {op : CmpOp} {f : D → D → Option D} {r : R2} (ho : OpR X (compareOp op) r) (hf : Op2 X f r) (ha : SimR X own a sa) (hb : SimR X own b sb) (hm : behindInMarks op b = false) : SimT X own (.Compare a [op] [b] pos) (sBool (sOp2 f sa sb)) :=
  pt_weak (pt_cmpR ho ha hb hm) fun _ _ _ h => two_of hf (sBool_of h)
theorem sim_un {op : UnaryOp} {f : D → Option D} {r : V → Hp → VK → Prop} (ho : UnR X (unaryOp op) r) (hf : Op1 X f r) (ha : SimR X own a sa) : SimE X own (.UnaryOp op a pos) (sOp1 f sa) :=
  pe_weak (pe_un ho ha) fun σ H Q ⟨g0, H0, ρ, g, S, E, q⟩ => by
    obtain ⟨d, S', e1, k⟩ := Res.post_ex q
    obtain ⟨x, S1, e2, e1⟩ := Res.then_ex e1
    obtain ⟨e4, rfl⟩ := optR_ex e1
    refine ⟨g0, H0, ρ, g, S, E, ?_⟩
    rw [e2]
    intro v g1 H1 G1 s1 r1
    exact hf g1 H1 S1 v x d Q G1 r1 e4 fun v3 g3 H3 G3 s3 r3 => k v3 g3 H3 G3 (s1.trans s3) r3
/-- a < b < c -/
def sChain (f f' : D → D → Option D) (sa sb sc : SE) : SE := fun ρ S => (sa ρ S).then fun x S1 => (sb ρ S1).then fun y S2 => (optR (f x y) S2).then fun z S3 => match z with
  | .bl true => (sc ρ S3).then fun w S4 => optR (f' y w) S4
  | .bl false => .ok (.bl false) S3
  | _ => .bad

/-! ### tests -/
def dTruth : D → Option Bool
  | .non => some false
  | .bl b => some b
  | .int i => some (i != 0)
  | .str x => if x.length ≤ sizeLine then some ((x.length : Int) != 0) else none
  | .tup xs => some (!xs.isEmpty)
  | .lst xs => some (!xs.isEmpty)
  | _ => none
theorem reps_empty {K : PySem.W.Frag} {mg : Str → Option Value} {g : Gh} {vs : List V} {ds : List D} (r : Reps K mg g vs ds) : (!vs.isEmpty) = !ds.isEmpty := by cases r <;> rfl
theorem tru_of {g : Gh} {H : Hp} {S : Sto} {v : V} {d : D} {k : Bool} (G : GOk X.K X.mg g H S) (r : RepR X.K X.mg g H v d) (h : dTruth d = some k) : TruV X.K v H k := by
  cases d with
  | non => cases r.non; cases h; rfl
  | bl b => cases r.bl; cases h; rfl
  | int i => cases r.int; cases h; rfl
  | str x =>
    cases r.str
    have h' : (if x.length ≤ sizeLine then some ((x.length : Int) != 0) else none) = some k := h
    split at h'
    · cases h'; exact ⟨‹_›, rfl⟩
    · cases h'
  | tup xs =>
    obtain ⟨p, vs, rfl, hp, rs⟩ := r.tup G
    cases h
    exact .inr (.inl ⟨vs, SqT.of hp, (reps_empty rs).symm⟩)
  | lst xs =>
    obtain ⟨p, vs, rfl, hp, rs⟩ := r.lst G
    cases h
    exact .inl ⟨vs, SqL.of hp, (reps_empty rs).symm⟩
  | _ => cases h
def sTru (se : SE) : SB := fun ρ S => (se ρ S).then fun d S' => optR (dTruth d) S'
theorem sim_truth (ha : SimR X own a sa) (he : ∀ whole, isTrue a X.env whole = (do let v ← whole; standAt a.pos; holding [v] (truthy v)) := by intro _; rfl) : SimT X own a (sTru sa) :=
  pt_weak (pt_truth ha he) fun σ H Q ⟨g0, H0, ρ, g, S, E, q⟩ => by
    obtain ⟨b, S', e1, k⟩ := Res.post_ex q
    obtain ⟨d, S1, e2, e1⟩ := Res.then_ex e1
    obtain ⟨e3, rfl⟩ := optR_ex e1
    refine ⟨g0, H0, ρ, g, S, E, ?_⟩
    rw [e2]
    exact fun v g' H' G s r => ⟨b, tru_of G r e3, k g' H' G s⟩
def sNotB (sb : SB) : SB := fun ρ S => (sb ρ S).then fun b S' => .ok (!b) S'
def sAndB (sb sc : SB) : SB := fun ρ S => (sb ρ S).then fun b S' => if b then sc ρ S' else .ok false S'
def sOrB (sb sc : SB) : SB := fun ρ S => (sb ρ S).then fun b S' => if b then .ok true S' else sc ρ S'
variable {ba bb : SB} {rest : List Expr}
theorem sim_notT (h : SimT X own a ba) : SimT X own (.UnaryOp .Not a pos) (sNotB ba) := pt_weak (pt_not h) fun σ H Q ⟨g0, H0, ρ, g, S, E, q⟩ => by
  obtain ⟨b, S', e1, k⟩ := Res.post_ex q
  obtain ⟨d, S1, e2, e1⟩ := Res.then_ex e1
  cases e1
  refine ⟨g0, H0, ρ, g, S, E, ?_⟩
  rw [e2]
  exact k
theorem sim_and1 (h : SimT X own a ba) : SimW X own (.BoolOp .And [a] pos) ba := pw_and1 h
theorem sim_or1 (h : SimT X own a ba) : SimW X own (.BoolOp .Or [a] pos) ba := pw_or1 h
theorem sim_andW (h : SimT X own a ba) (h2 : SimW X own (.BoolOp .And (b :: rest) pos) bb) : SimW X own (.BoolOp .And (a :: b :: rest) pos) (sAndB ba bb) := pw_weak (pw_and h h2) fun σ H Q ⟨g0, H0, ρ, g, S, E, q⟩ => by
  obtain ⟨c, S', e1, k⟩ := Res.post_ex q
  obtain ⟨d, S1, e2, e1⟩ := Res.then_ex e1
  refine ⟨g0, H0, ρ, g, S, E, ?_⟩
  rw [e2]
  intro g' H' G s
  cases d with
  | true =>
    refine ⟨g0, H0, ρ, g', S1, E.step G s, ?_⟩
    have e1' : bb ρ S1 = .ok c S' := e1
    rw [e1']
    exact fun g2 H2 G2 s2 => k g2 H2 G2 (s.trans s2)
  | false =>
    have e1' : (Res.ok false S1 : Res Bool) = .ok c S' := e1
    cases e1'
    exact k g' H' G s
theorem sim_orW (h : SimT X own a ba) (h2 : SimW X own (.BoolOp .Or (b :: rest) pos) bb) : SimW X own (.BoolOp .Or (a :: b :: rest) pos) (sOrB ba bb) := pw_weak (pw_or h h2) fun σ H Q ⟨g0, H0, ρ, g, S, E, q⟩ => by
  obtain ⟨c, S', e1, k⟩ := Res.post_ex q
  obtain ⟨d, S1, e2, e1⟩ := Res.then_ex e1
  refine ⟨g0, H0, ρ, g, S, E, ?_⟩
  rw [e2]
  intro g' H' G s
  cases d with
  | false =>
    refine ⟨g0, H0, ρ, g', S1, E.step G s, ?_⟩
    have e1' : bb ρ S1 = .ok c S' := e1
    rw [e1']
    exact fun g2 H2 G2 s2 => k g2 H2 G2 (s.trans s2)
  | true =>
    have e1' : (Res.ok true S1 : Res Bool) = .ok c S' := e1
    cases e1'
    exact k g' H' G s
theorem SimW.t {ba : SB} (h : SimW X own e ba) : SimT X own e ba := PW.pt h
/-- and, or, not as values -/
def sAndV (sa sb : SE) : SE := fun ρ S => (sBool sa ρ S).then fun b S' => if b then sb ρ S' else .ok (.bl false) S'
def sOrV (sa sb : SE) : SE := fun ρ S => (sBool sa ρ S).then fun b S' => if b then .ok (.bl true) S' else sb ρ S'
def sNotV (sb : SB) : SE := fun ρ S => (sb ρ S).then fun b S' => .ok (.bl (!b)) S'
theorem sBool_run {ρ : DEnv} {S S1 : Sto} {b : Bool} (e : sBool sa ρ S = .ok b S1) : sa ρ S = .ok (.bl b) S1 := by
  obtain ⟨d, S2, e2, e1⟩ := Res.then_ex e
  cases d with
  | bl x => cases e1; exact e2
  | _ => cases e1
theorem sim_one {op} (h : SimE X own a sa) : SimE X own (.BoolOp op [a] pos) sa := pe_one h
theorem sim_andV (h : SimE X own a sa) (h2 : SimE X own (.BoolOp .And (b :: rest) pos) sb) : SimE X own (.BoolOp .And (a :: b :: rest) pos) (sAndV sa sb) := pe_weak (pe_and h h2) fun σ H Q ⟨g0, H0, ρ, g, S, E, q⟩ => by
  obtain ⟨c, S', e1, k⟩ := Res.post_ex q
  obtain ⟨d, S1, e2, e1⟩ := Res.then_ex e1
  refine ⟨g0, H0, ρ, g, S, E, ?_⟩
  rw [sBool_run e2]
  intro v g' H' G s r
  cases r
  refine ⟨d, rfl, ?_⟩
  cases d with
  | true =>
    rw [if_pos rfl]
    refine ⟨g0, H0, ρ, g', S1, E.step G s, ?_⟩
    have e1' : sb ρ S1 = .ok c S' := e1
    rw [e1']
    exact fun v2 g2 H2 G2 s2 r2 => k v2 g2 H2 G2 (s.trans s2) r2
  | false =>
    rw [if_neg Bool.false_ne_true]
    have e1' : (Res.ok (.bl false) S1 : Res D) = .ok c S' := e1
    cases e1'
    exact k _ g' H' G s (.bl false)
theorem sim_orV (h : SimE X own a sa) (h2 : SimE X own (.BoolOp .Or (b :: rest) pos) sb) : SimE X own (.BoolOp .Or (a :: b :: rest) pos) (sOrV sa sb) := pe_weak (pe_or h h2) fun σ H Q ⟨g0, H0, ρ, g, S, E, q⟩ => by
  obtain ⟨c, S', e1, k⟩ := Res.post_ex q
  obtain ⟨d, S1, e2, e1⟩ := Res.then_ex e1
  refine ⟨g0, H0, ρ, g, S, E, ?_⟩
  rw [sBool_run e2]
  intro v g' H' G s r
  cases r
  refine ⟨d, rfl, ?_⟩
  cases d with
  | false =>
    rw [if_neg Bool.false_ne_true]
    refine ⟨g0, H0, ρ, g', S1, E.step G s, ?_⟩
    have e1' : sb ρ S1 = .ok c S' := e1
    rw [e1']
    exact fun v2 g2 H2 G2 s2 r2 => k v2 g2 H2 G2 (s.trans s2) r2
  | true =>
    rw [if_pos rfl]
    have e1' : (Res.ok (.bl true) S1 : Res D) = .ok c S' := e1
    cases e1'
    exact k _ g' H' G s (.bl true)
theorem sim_notV (h : SimR X own a sa) : SimE X own (.UnaryOp .Not a pos) (sNotV (sTru sa)) := pe_weak (pe_notT h) fun σ H Q ⟨g0, H0, ρ, g, S, E, q⟩ => by
  obtain ⟨c, S', e1, k⟩ := Res.post_ex q
  obtain ⟨d, S1, e2, e1⟩ := Res.then_ex e1
  obtain ⟨x, S2, e3, e2⟩ := Res.then_ex e2
  obtain ⟨e4, rfl⟩ := optR_ex e2
  cases e1
  refine ⟨g0, H0, ρ, g, S, E, ?_⟩
  rw [e3]
  exact fun v g' H' G s r => ⟨d, tru_of G r e4, k _ g' H' G s (.bl _)⟩
/-- a if t else b -/
def sIfE (st : SB) (sa sb : SE) : SE := fun ρ S => (st ρ S).then fun c S' => if c then sa ρ S' else sb ρ S'
theorem sim_if {t : Expr} {st : SB} (h : SimT X own t st) (ha : SimE X own a sa) (hb : SimE X own b sb) : SimE X own (.IfExp t a b pos) (sIfE st sa sb) := pe_weak (pe_ifExp h ha hb) fun σ H Q ⟨g0, H0, ρ, g, S, E, q⟩ => by
  obtain ⟨c, S', e1, k⟩ := Res.post_ex q
  obtain ⟨d, S1, e2, e1⟩ := Res.then_ex e1
  refine ⟨g0, H0, ρ, g, S, E, ?_⟩
  rw [e2]
  intro g' H' G s
  cases d with
  | true =>
    rw [if_pos rfl]
    refine ⟨g0, H0, ρ, g', S1, E.step G s, ?_⟩
    have e1' : sa ρ S1 = .ok c S' := e1
    rw [e1']
    exact fun v2 g2 H2 G2 s2 r2 => k v2 g2 H2 G2 (s.trans s2) r2
  | false =>
    rw [if_neg Bool.false_ne_true]
    refine ⟨g0, H0, ρ, g', S1, E.step G s, ?_⟩
    have e1' : sb ρ S1 = .ok c S' := e1
    rw [e1']
    exact fun v2 g2 H2 G2 s2 r2 => k v2 g2 H2 G2 (s.trans s2) r2
theorem chain_of {f f' : D → D → Option D} {r r' : R2} (hf : Op2 X f r) (hf' : Op2 X f' r') {σ : L2.St} {H : Hp} {Q : VK} (h : tE X own (sChain f f' sa sb sc) σ H Q) : tChain r r' (tR X own sa) (tR X own sb) (tR X own sc) σ H Q := by
  obtain ⟨g0, H0, ρ, g, S, E, q⟩ := h
  obtain ⟨d, S', e1, k⟩ := Res.post_ex q
  obtain ⟨x, S1, e2, e1⟩ := Res.then_ex e1
  obtain ⟨y, S2, e3, e1⟩ := Res.then_ex e1
  obtain ⟨z, S3, e4, e1⟩ := Res.then_ex e1
  obtain ⟨e4', eS⟩ := optR_ex e4
  subst eS
  refine ⟨g0, H0, ρ, g, S, E, ?_⟩
  rw [e2]
  intro v g1 H1 G1 s1 r1
  refine ⟨g0, H0, ρ, g1, S1, E.step G1 s1, ?_⟩
  rw [e3]
  intro v2 g2 H2 G2 s2 r2
  refine hf g2 H2 S2 v v2 x y z _ G2 (r1.step s2) r2 e4' fun v3 g3 H3 G3 s3 r3 => ?_
  cases z with
  | bl bz =>
    cases r3
    refine ⟨bz, rfl, ?_⟩
    cases bz with
    | false =>
      rw [if_neg Bool.false_ne_true]
      have e1' : (Res.ok (.bl false) S2 : Res D) = .ok d S' := e1
      cases e1'
      exact k _ g3 H3 G3 ((s1.trans s2).trans s3) (.bl false)
    | true =>
      rw [if_pos rfl]
      have e1' : ((sc ρ S2).then fun w S4 => optR (f' y w) S4) = .ok d S' := e1
      obtain ⟨w, S4, e5, e6⟩ := Res.then_ex e1'
      obtain ⟨e6', eS⟩ := optR_ex e6
      subst eS
      refine ⟨g0, H0, ρ, g3, S2, E.step G3 ((s1.trans s2).trans s3), ?_⟩
      rw [e5]
      intro v4 g4 H4 G4 s4 r4
      exact hf' g4 H4 S4 v2 v4 y w d Q G4 ((r2.step s3).step s4) r4 e6' fun v5 g5 H5 G5 s5 r5 => k v5 g5 H5 G5 ((((s1.trans s2).trans s3).trans s4).trans s5) r5
  | _ => cases e1
theorem sim_chain {op op' : CmpOp} {f f' : D → D → Option D} {r r' : R2} (ho : OpR X (compareOp op) r) (ho' : OpR X (compareOp op') r') (hf : Op2 X f r) (hf' : Op2 X f' r') (ha : SimR X own a sa) (hb : SimR X own b sb) (hc : SimR X own c sc)
    (hm : lastMarks [op, op'] [b, c] = false := by with_unfolding_all rfl) : SimE X own (.Compare a [op, op'] [b, c] pos) (sChain f f' sa sb sc) :=
  pe_weak (pe_chain ho ho' ha hb hc hm) fun _ _ _ h => chain_of hf hf' h
theorem sim_chainT {op op' : CmpOp} {f f' : D → D → Option D} {r r' : R2} (ho : OpR X (compareOp op) r) (ho' : OpR X (compareOp op') r') (hf : Op2 X f r) (hf' : Op2 X f' r') (ha : SimR X own a sa) (hb : SimR X own b sb) (hc : SimR X own c sc)
    (hm : lastMarks [op, op'] [b, c] = false := by with_unfolding_all rfl) : SimT X own (.Compare a [op, op'] [b, c] pos) (sBool (sChain f f' sa sb sc)) :=
  pt_weak (pt_chain ho ho' ha hb hc hm) fun _ _ _ h => chain_of hf hf' (sBool_of h)
end
end Ev
namespace Ev
open PySem PySem.Spec PyProof.Rows L2
section
variable {K : PySem.W.Frag} {mg : Str → Option Value} {g : Gh} {H : Hp} {S : Sto} {p : Addr} {vs : List V} {ds : List D}
theorem Rep.newT (G : GOk K mg g H S) (h : H p = none) (r : Reps K mg g vs ds) : Rep K mg (g.add p (.tup vs)) (.ref p) (.tup ds) := .tup upd_same (r.mono (gle_add (G.nfree h)))
theorem Rep.newL (G : GOk K mg g H S) (h : H p = none) (r : Reps K mg g vs ds) : Rep K mg (g.add p (.lst vs)) (.ref p) (.lst ds) := .lst upd_same (r.mono (gle_add (G.nfree h)))
end
/-! ### operators -/
def dAdd : D → D → Option D
  | .int i, .int j => some (.int (i + j))
  | .str x, .str y => if x.length + y.length ≤ sizeLine then some (.str (x ++ y)) else none
  | .tup xs, .tup ys => if xs.length + ys.length ≤ sizeLine then some (.tup (xs ++ ys)) else none
  | .lst xs, .lst ys => if xs.length + ys.length ≤ sizeLine then some (.lst (xs ++ ys)) else none
  | _, _ => none
def dSub : D → D → Option D
  | .int i, .int j => some (.int (i - j))
  | _, _ => none
theorem lg_lt {n k : Nat} (h : n.log2 < k) : n < 2 ^ k := by
  by_cases z : n = 0
  · subst z; exact Nat.two_pow_pos k
  · exact (Nat.log2_lt z).mp h
theorem lt_lg {n k : Nat} (hk : 0 < k) (h : n < 2 ^ k) : n.log2 < k := by
  by_cases z : n = 0
  · subst z; simpa using hk
  · exact (Nat.log2_lt z).mpr h
/-- guards: sizes by their logarithms -/
@[irreducible] def cMul (i j : Int) : Bool := decide (i.natAbs.log2 < 64) || decide (j.natAbs.log2 < 64)
@[irreducible] def fdOk (j : Int) : Bool := decide (j ≠ 0 ∧ j.natAbs.log2 < 30)
theorem fdOk_ok {j : Int} (h : fdOk j = true) : j ≠ 0 ∧ j.natAbs < 1073741824 := by
  unfold fdOk at h
  have h := of_decide_eq_true h
  exact ⟨h.1, lg_lt h.2⟩
theorem fdOk_of {j : Int} (h : j ≠ 0) (h2 : j.natAbs < 1073741824) : fdOk j = true := by
  unfold fdOk
  exact decide_eq_true ⟨h, lt_lg (by decide) h2⟩
@[irreducible] def pwOk (i j : Int) : Bool := decide (0 ≤ j ∧ j.natAbs.log2 < 19 ∧ i.natAbs.log2 < 64)
theorem pwOk_ok {i j : Int} (h : pwOk i j = true) : 0 ≤ j ∧ j ≤ 1000000 ∧ i.natAbs < 18446744073709551616 := by
  unfold pwOk at h
  have h := of_decide_eq_true h
  have h2 := lg_lt h.2.1
  have e : (2 : Nat) ^ 19 = 524288 := by decide
  exact ⟨h.1, by omega, lg_lt h.2.2⟩
theorem pwOk_of {i j : Int} (h : 0 ≤ j) (h1 : j < 524288) (h2 : i.natAbs < 18446744073709551616) : pwOk i j = true := by
  unfold pwOk
  have e : (2 : Nat) ^ 19 = 524288 := by decide
  exact decide_eq_true ⟨h, lt_lg (by decide) (by omega), lt_lg (by decide) h2⟩
@[irreducible] def rpOk (n : Nat) (k : Int) : Bool := decide (k.natAbs.log2 < 63 ∧ n * k.toNat ≤ sizeLine)
theorem rpOk_ok {n : Nat} {k : Int} (h : rpOk n k = true) : -9223372036854775808 ≤ k ∧ k < 9223372036854775808 ∧ n * k.toNat ≤ sizeLine := by
  unfold rpOk at h
  have h := of_decide_eq_true h
  have h2 := lg_lt h.1
  have e : (2 : Nat) ^ 63 = 9223372036854775808 := by decide
  exact ⟨by omega, by omega, h.2⟩
theorem rpOk_of {n : Nat} {k : Int} (h : k.natAbs < 9223372036854775808) (h2 : n * k.toNat ≤ sizeLine) : rpOk n k = true := by
  unfold rpOk
  exact decide_eq_true ⟨lt_lg (by decide) h, h2⟩
def dMul : D → D → Option D
  | .int i, .int j => if cMul i j then some (.int (i * j)) else none
  | .lst xs, .int k => if rpOk xs.length k then some (.lst (List.replicate k.toNat xs).flatten) else none
  | _, _ => none
def dFdiv : D → D → Option D
  | .int i, .int j => if fdOk j then some (.int (i.fdiv j)) else none
  | _, _ => none
def dMod : D → D → Option D
  | .int i, .int j => if j ≠ 0 then some (.int (i.fmod j)) else none
  | _, _ => none
def dPow : D → D → Option D
  | .int i, .int j => if pwOk i j then some (.int (i ^ j.toNat)) else none
  | _, _ => none
def dNeg : D → Option D
  | .int i => some (.int (-i))
  | _ => none
section
variable {X : Cx}
theorem op2_add : Op2 X dAdd (fun x y H Q => (rI0 (fun i j => .int (i + j)) x y H Q ∨ (∃ i j, x = .str i ∧ y = .str j ∧ i.length + j.length ≤ sizeLine ∧ Q (.str (i ++ j)) H)) ∨ (rCatA X.K x y H Q ∨ rCat x y H Q)) := by
  intro g H S x y a b d Q G ra rb e k
  unfold dAdd at e
  split at e
  · cases e
    cases ra.int
    cases rb.int
    exact .inl (.inl ⟨_, _, rfl, rfl, k _ g H G .refl (.int _)⟩)
  · split at e
    · cases e
      cases ra.str
      cases rb.str
      exact .inl (.inr ⟨_, _, rfl, rfl, by assumption, k _ g H G .refl (.str _)⟩)
    · cases e
  · split at e
    · rename_i xs ys hz
      cases e
      have fa := ra.rep (fun _ e => nomatch e)
      have fb := rb.rep (fun _ e => nomatch e)
      obtain ⟨p, vs, rfl, hp, rs⟩ := ra.tup G
      obtain ⟨q, ws, rfl, hq, rt⟩ := rb.tup G
      refine .inr (.inl ⟨p, q, vs, ws, rfl, rfl, SqT.of hp, SqT.of hq, by rw [rs.length, rt.length]; exact hz, fun e => ?_, fun _ e => ?_, fun _ _ l hl => ?_⟩)
      · subst e
        cases rs
        exact k _ g H G .refl fb
      · subst e
        cases rt
        rw [List.append_nil] at k
        exact k _ g H G .refl fa
      · exact k _ _ _ (G.add hl) (stp_add G hl) (.newT G hl (rs.append rt))
    · cases e
  · split at e
    · rename_i xs ys hz
      cases e
      obtain ⟨p, vs, rfl, hp, rs⟩ := ra.lst G
      obtain ⟨q, ws, rfl, hq, rt⟩ := rb.lst G
      refine .inr (.inr ⟨p, q, vs, ws, rfl, rfl, hp, hq, by rw [rs.length, rt.length]; exact hz, fun l hl => ?_⟩)
      exact k _ _ _ (G.add hl) (stp_add G hl) (.newL G hl (rs.append rt))
    · cases e
  · cases e
theorem opr_add : OpR X (binaryOp .Add) (fun x y H Q => (rI0 (fun i j => .int (i + j)) x y H Q ∨ (∃ i j, x = .str i ∧ y = .str j ∧ i.length + j.length ≤ sizeLine ∧ Q (.str (i ++ j)) H)) ∨ (rCatA X.K x y H Q ∨ rCat x y H Q)) :=
  (op_add.or op_add_str).or (op_catA.or op_cat)
theorem op2_sub : Op2 X dSub (rI0 fun i j => .int (i - j)) := by
  intro g H S x y a b d Q G ra rb e k
  unfold dSub at e
  split at e
  · cases e
    cases ra.int
    cases rb.int
    exact ⟨_, _, rfl, rfl, k _ g H G .refl (.int _)⟩
  · cases e
theorem cMul_ok {i j : Int} (h : cMul i j = true) : CMul i j := by
  unfold cMul at h
  rw [Bool.or_eq_true, decide_eq_true_eq, decide_eq_true_eq] at h
  have e : (2 : Int) ^ 64 = 18446744073709551616 := by decide
  have e2 : (2 : Nat) ^ 64 = 18446744073709551616 := by decide
  unfold CMul
  rw [e]
  rcases h with h | h
  · have := lg_lt h
    omega
  · have := lg_lt h
    omega
theorem cMul_of {i j : Int} (h : i.natAbs < 18446744073709551616 ∨ j.natAbs < 18446744073709551616) : cMul i j = true := by
  unfold cMul
  rw [Bool.or_eq_true, decide_eq_true_eq, decide_eq_true_eq]
  exact h.imp (lt_lg (by decide)) (lt_lg (by decide))
theorem op2_mul : Op2 X dMul (fun x y H Q => rI CMul (fun i j => .int (i * j)) x y H Q ∨ rRep x y H Q) := by
  intro g H S x y a b d Q G ra rb e k
  unfold dMul at e
  split at e
  · split at e
    · cases e
      cases ra.int
      cases rb.int
      exact .inl ⟨_, _, rfl, rfl, cMul_ok (by assumption), k _ g H G .refl (.int _)⟩
    · cases e
  · split at e
    · rename_i hz
      replace hz := rpOk_ok hz
      cases e
      cases rb.int
      obtain ⟨p, vs, rfl, hp, rs⟩ := ra.lst G
      have e63 : (2 : Int) ^ 63 = 9223372036854775808 := by decide
      refine .inr ⟨p, _, vs, rfl, rfl, hp, by rw [e63]; exact hz.1, by rw [e63]; exact hz.2.1, by rw [rs.length]; exact hz.2.2, fun l hl => ?_⟩
      exact k _ _ _ (G.add hl) (stp_add G hl) (.newL G hl (rs.rep _))
    · cases e
  · cases e
theorem opr_mul : OpR X (binaryOp .Mult) (fun x y H Q => rI CMul (fun i j => .int (i * j)) x y H Q ∨ rRep x y H Q) := op_mul.or op_rep
theorem op2_fdiv : Op2 X dFdiv (rI CDivN fun i j => .int (i.fdiv j)) := by
  intro g H S x y a b d Q G ra rb e k
  unfold dFdiv at e
  split at e
  · split at e
    · cases e
      cases ra.int
      cases rb.int
      exact ⟨_, _, rfl, rfl, fdOk_ok (by assumption), k _ g H G .refl (.int _)⟩
    · cases e
  · cases e
theorem op2_mod : Op2 X dMod (rI (fun _ j => j ≠ 0) fun i j => .int (i.fmod j)) := by
  intro g H S x y a b d Q G ra rb e k
  unfold dMod at e
  split at e
  · split at e
    · cases e
      cases ra.int
      cases rb.int
      exact ⟨_, _, rfl, rfl, by assumption, k _ g H G .refl (.int _)⟩
    · cases e
  · cases e
theorem op2_pow : Op2 X dPow (rI CPow fun i j => .int (i ^ j.toNat)) := by
  intro g H S x y a b d Q G ra rb e k
  unfold dPow at e
  split at e
  · split at e
    · cases e
      cases ra.int
      cases rb.int
      exact ⟨_, _, rfl, rfl, pwOk_ok (by assumption), k _ g H G .refl (.int _)⟩
    · cases e
  · cases e
theorem op1_neg : Op1 X dNeg (rU fun i => .int (-i)) := by
  intro g H S x a d Q G ra e k
  unfold dNeg at e
  split at e
  · cases e
    cases ra.int
    exact ⟨_, rfl, k _ g H G .refl (.int _)⟩
  · cases e
/-! ### comparisons -/
def dI2 (f : Int → Int → Bool) : D → D → Option D
  | .int i, .int j => some (.bl (f i j))
  | _, _ => none
theorem op2_i2 (f : Int → Int → Bool) : Op2 X (dI2 f) (rI0 fun i j => .bl (f i j)) := by
  intro g H S x y a b d Q G ra rb e k
  unfold dI2 at e
  split at e
  · cases e
    cases ra.int
    cases rb.int
    exact ⟨_, _, rfl, rfl, k _ g H G .refl (.bl _)⟩
  · cases e
abbrev dLt : D → D → Option D := dI2 fun i j => decide (i < j)
abbrev dLe : D → D → Option D := dI2 fun i j => decide (i ≤ j)
abbrev dGt : D → D → Option D := dI2 fun i j => decide (j < i)
abbrev dGe : D → D → Option D := dI2 fun i j => decide (j ≤ i)
mutual
def D.py : D → Option PyData
  | .non => some .none
  | .bl b => some (.bool b)
  | .int i => some (.int i)
  | .str x => some (.str x)
  | .tup xs => (pyAll xs).map .tuple
  | .lst xs => (pyAll xs).map .list
  | _ => none
def pyAll : List D → Option (List PyData)
  | [] => some []
  | d :: ds => match d.py, pyAll ds with
    | some x, some xs => some (x :: xs)
    | _, _ => none
end
section
variable {K : PySem.W.Frag} {mg : Str → Option Value} {g : Gh} {H : Hp}
mutual
theorem dp_of (hs : Same g.F H) : ∀ {v : V} {d : D} {x : PyData}, Rep K mg g v d → d.py = some x → Dp K H v x
  | _, _, _, .non, e => by cases (show some PyData.none = some _ from e); exact .non
  | _, _, _, .bl b, e => by cases (show some (PyData.bool b) = some _ from e); exact .bl b
  | _, _, _, .int i, e => by cases (show some (PyData.int i) = some _ from e); exact .int i
  | _, _, _, .str x, e => by cases (show some (PyData.str x) = some _ from e); exact .str x
  | _, _, _, .tup (ds := ds) h r, e => by
    have e' : (pyAll ds).map PyData.tuple = some _ := e
    cases q : pyAll ds with
    | none => rw [q] at e'; cases e'
    | some xs => rw [q] at e'; cases e'; exact .tup (SqT.of (hs _ _ h)) (dpAll_of hs r q)
  | _, _, _, .lst (ds := ds) h r, e => by
    have e' : (pyAll ds).map PyData.list = some _ := e
    cases q : pyAll ds with
    | none => rw [q] at e'; cases e'
    | some xs => rw [q] at e'; cases e'; exact .lst (SqL.of (hs _ _ h)) (dpAll_of hs r q)
  | _, _, _, .obj .., e => by cases (show (none : Option PyData) = some _ from e)
  | _, _, _, .mref _, e => by cases (show (none : Option PyData) = some _ from e)
  | _, _, _, .scr _, e => by cases (show (none : Option PyData) = some _ from e)
theorem dpAll_of (hs : Same g.F H) : ∀ {vs : List V} {ds : List D} {xs : List PyData}, Reps K mg g vs ds → pyAll ds = some xs → DpAll K H vs xs
  | _, _, _, .nil, e => by cases (show some ([] : List PyData) = some _ from e); exact .nil
  | _, _, xs, .cons (d := d) (ds := ds) h r, e => by
    have e' : (match d.py, pyAll ds with
      | some x, some xs => some (x :: xs)
      | _, _ => none) = some xs := e
    cases q : d.py with
    | none => rw [q] at e'; cases e'
    | some x => cases q2 : pyAll ds with
      | none => rw [q, q2] at e'; cases e'
      | some ys => rw [q, q2] at e'; cases e'; exact .cons (dp_of hs h q) (dpAll_of hs r q2)
end
theorem dp_read {S : Sto} {v : V} {d : D} {x : PyData} (G : GOk K mg g H S) (r : RepR K mg g H v d) (e : d.py = some x) : Dp K H v x := by
  rcases r with r | ⟨p, vs, ds, rfl, rfl, hp, _, r⟩
  · exact dp_of G.sub r e
  · have e' : (pyAll ds).map PyData.list = some _ := e
    cases q : pyAll ds with
    | none => rw [q] at e'; cases e'
    | some xs => rw [q] at e'; cases e'; exact .lst (SqL.of hp) (dpAll_of G.sub r q)
end
def dEqv (neg : Bool) (a b : D) : Option D := match a.py, b.py with
  | some x, some y => if (SeqAt.shaped x && SeqAt.shaped y) = true then some (.bl (if neg then !PyData.eqv x y else PyData.eqv x y)) else none
  | _, _ => none
abbrev dEq := dEqv false
abbrev dNe := dEqv true
theorem op2_eq : Op2 X dEq (rEqD X.K) := by
  intro g H S x y a b d Q G ra rb e k
  unfold dEq dEqv at e
  split at e
  · rename_i u w q1 q2
    split at e
    · rename_i hz
      cases e
      obtain ⟨h1, h2⟩ := Bool.and_eq_true_iff.mp hz
      exact ⟨u, w, dp_read G ra q1, dp_read G rb q2, h1, h2, k _ g H G .refl (.bl _)⟩
    · cases e
  · cases e
theorem op2_ne : Op2 X dNe (rNeD X.K) := by
  intro g H S x y a b d Q G ra rb e k
  unfold dNe dEqv at e
  split at e
  · rename_i u w q1 q2
    split at e
    · rename_i hz
      cases e
      obtain ⟨h1, h2⟩ := Bool.and_eq_true_iff.mp hz
      exact ⟨u, w, dp_read G ra q1, dp_read G rb q2, h1, h2, k _ g H G .refl (.bl _)⟩
    · cases e
  · cases e
/-- is None, is not None -/
def dIsN (neg : Bool) : D → D → Option D
  | a, .non => some (.bl (match a with
    | .non => !neg
    | _ => neg))
  | _, _ => none
theorem rep_non {K : PySem.W.Frag} {mg : Str → Option Value} {g : Gh} {H : Hp} {v : V} {d : D} (r : RepR K mg g H v d) : decide (v = .non) = (match d with
    | .non => true
    | _ => false) := by
  rcases r with r | ⟨p, vs, ds, rfl, rfl, _⟩
  · cases r <;> rfl
  · rfl
theorem op2_isN : Op2 X (dIsN false) (fun x y H Q => y = .non ∧ Q (.bl (decide (x = .non))) H) := by
  intro g H S x y a b d Q G ra rb e k
  unfold dIsN at e
  split at e
  · cases e
    refine ⟨rb.non, k _ g H G .refl ?_⟩
    rw [rep_non ra]
    cases a <;> exact .bl _
  · cases e
theorem op2_notN : Op2 X (dIsN true) (fun x y H Q => y = .non ∧ Q (.bl (!decide (x = .non))) H) := by
  intro g H S x y a b d Q G ra rb e k
  unfold dIsN at e
  split at e
  · cases e
    refine ⟨rb.non, k _ g H G .refl ?_⟩
    rw [rep_non ra]
    cases a <;> exact .bl _
  · cases e
/-- is True, is not True, of truth values -/
def dIsB (neg : Bool) : D → D → Option D
  | .bl a, .bl b => some (.bl (if neg then !decide (a = b) else decide (a = b)))
  | _, _ => none
theorem op2_isB : Op2 X (dIsB false) rIsB := by
  intro g H S x y a b d Q G ra rb e k
  unfold dIsB at e
  split at e
  · cases e
    cases ra.bl
    cases rb.bl
    exact ⟨_, _, rfl, rfl, k _ g H G .refl (.bl _)⟩
  · cases e
theorem op2_notB : Op2 X (dIsB true) rNotB := by
  intro g H S x y a b d Q G ra rb e k
  unfold dIsB at e
  split at e
  · cases e
    cases ra.bl
    cases rb.bl
    exact ⟨_, _, rfl, rfl, k _ g H G .refl (.bl _)⟩
  · cases e
/-- x in s, texts; x in a list of data -/
def dInS (x y : Str) : Bool := !(Builtin.Str.occurrences y x 0 y.length 1).isEmpty
def dIn (neg : Bool) (a b : D) : Option D := match a, b with
  | .str x, .str y => some (.bl (if neg then !dInS x y else dInS x y))
  | a, .lst ys => (match a.py, pyAll ys with
    | some x, some zs => if (SeqAt.shaped x && SeqAt.shaped (.list zs)) = true then some (.bl (if neg then !zs.any fun z => PyData.eqv z x else zs.any fun z => PyData.eqv z x)) else none
    | _, _ => none)
  | _, _ => none
theorem op2_in : Op2 X (dIn false) (fun x y H Q => (∃ i j, x = .str i ∧ y = .str j ∧ Q (.bl (!(Builtin.Str.occurrences j i 0 j.length 1).isEmpty)) H) ∨ rInD X.K x y H Q) := by
  intro g H S x y a b d Q G ra rb e k
  unfold dIn at e
  split at e
  · cases e
    cases ra.str
    cases rb.str
    exact .inl ⟨_, _, rfl, rfl, k _ g H G .refl (.bl _)⟩
  · rename_i ys
    split at e
    · rename_i u zs q1 q2
      split at e
      · rename_i hz
        cases e
        obtain ⟨h1, h2⟩ := Bool.and_eq_true_iff.mp hz
        refine .inr ⟨u, zs, dp_read G ra q1, dp_read G rb ?_, h1, h2, k _ g H G .refl (.bl _)⟩
        show (pyAll ys).map PyData.list = _
        rw [q2] <;> rfl
      · cases e
    · cases e
  · cases e
theorem op2_notIn : Op2 X (dIn true) (fun x y H Q => (∃ i j, x = .str i ∧ y = .str j ∧ Q (.bl (!(!(Builtin.Str.occurrences j i 0 j.length 1).isEmpty))) H) ∨ rNotInD X.K x y H Q) := by
  intro g H S x y a b d Q G ra rb e k
  unfold dIn at e
  split at e
  · cases e
    cases ra.str
    cases rb.str
    exact .inl ⟨_, _, rfl, rfl, k _ g H G .refl (.bl _)⟩
  · rename_i ys
    split at e
    · rename_i u zs q1 q2
      split at e
      · rename_i hz
        cases e
        obtain ⟨h1, h2⟩ := Bool.and_eq_true_iff.mp hz
        refine .inr ⟨u, zs, dp_read G ra q1, dp_read G rb ?_, h1, h2, k _ g H G .refl (.bl _)⟩
        show (pyAll ys).map PyData.list = _
        rw [q2] <;> rfl
      · cases e
    · cases e
  · cases e
theorem opr_in {k : Nat} (hr : Room k X.A) : OpR X (compareOp .In) (fun x y H Q => (∃ i j, x = .str i ∧ y = .str j ∧ Q (.bl (!(Builtin.Str.occurrences j i 0 j.length 1).isEmpty)) H) ∨ rInD X.K x y H Q) := op_in_str.or (op_inD (by have := hr.un; omega))
theorem opr_notIn {k : Nat} (hr : Room k X.A) : OpR X (compareOp .NotIn) (fun x y H Q => (∃ i j, x = .str i ∧ y = .str j ∧ Q (.bl (!(!(Builtin.Str.occurrences j i 0 j.length 1).isEmpty))) H) ∨ rNotInD X.K x y H Q) := op_notin_str.or (op_notInD (by have := hr.un; omega))

/-! ### subscripts -/
def dIx : D → D → Option D
  | .lst xs, .int i => atI xs i
  | .tup xs, .int i => atI xs i
  | .str z, .int i => if z.length ≤ sizeLine then (atI z.cps.toList i).map fun c => .str ⟨#[c]⟩ else none
  | _, _ => none
theorem atI_reps {K : PySem.W.Frag} {mg : Str → Option Value} {g : Gh} {vs : List V} {ds : List D} {i : Int} {d : D} (r : Reps K mg g vs ds) (e : atI ds i = some d) : ∃ v, atI vs i = some v ∧ Rep K mg g v d := by
  unfold atI at e ⊢
  rw [r.length]
  cases q : ixN ds.length i with
  | none => rw [q] at e; cases e
  | some j =>
    rw [q] at e
    exact r.get e
theorem op2_ix : Op2 X dIx (rIx X.K) := by
  intro g H S x y a b d Q G ra rb e k
  unfold dIx at e
  split at e
  · cases rb.int
    obtain ⟨p, vs, rfl, hp, rs⟩ := ra.lst G
    obtain ⟨v, h1, h2⟩ := atI_reps rs e
    exact .inl ⟨p, vs, _, v, rfl, rfl, SqL.of hp, h1, k v g H G .refl h2⟩
  · cases rb.int
    obtain ⟨p, vs, rfl, hp, rs⟩ := ra.tup G
    obtain ⟨v, h1, h2⟩ := atI_reps rs e
    exact .inr (.inl ⟨p, vs, _, v, rfl, rfl, SqT.of hp, h1, k v g H G .refl h2⟩)
  · cases ra.str
    cases rb.int
    split at e
    · rename_i z i hz
      cases q : atI z.cps.toList i with
      | none => rw [q] at e; cases e
      | some c =>
        rw [q] at e
        cases e
        exact .inr (.inr ⟨_, _, c, rfl, rfl, hz, q, k _ g H G .refl (.str _)⟩)
    · cases e
  · cases e
section
variable {own : List Nat} {e a b : Expr} {se sa sb : SE} {pos p2 : Pos}
theorem sim_ix (ha : SimR X own a sa) (hb : SimR X own b sb) (hs : PlainIx b) : SimE X own (.Subscript a b pos) (sOp2 dIx sa sb) := pe_weak (pe_ix ix_seq ha hb hs) fun _ _ _ h => two_of op2_ix h
/-- a slice's end -/
abbrev SO := DEnv → M (Option Int)
def tO (X : Cx) (own : List Nat) (so : SO) : TO := fun σ H Q => ∃ g0 H0 ρ g S, EnvOk X.K X.mg g0 H0 own ρ σ g H S ∧ (so ρ S).post fun o S' => ∀ g' H', GOk X.K X.mg g' H' S' → Stp g H g' H' → Q o H'
def SimO (X : Cx) (own : List Nat) (e : Option Expr) (so : SO) : Prop := PO X e (tO X own so)
def sNoPart : SO := fun _ S => .ok none S
def sPart (se : SE) : SO := fun ρ S => (se ρ S).then fun d S' => match d with
  | .int i => .ok (some i) S'
  | _ => .bad
theorem po_weak {o : Option Expr} {t t' : TO} (h : PO X o t) (w : ∀ σ H Q, t' σ H Q → t σ H Q) : PO X o t' := ⟨fun pins s σ H Q I q => h.run pins s σ H Q I (w σ H Q q)⟩
theorem sim_noPart : SimO X own none sNoPart := po_weak po_none fun σ H Q ⟨g0, H0, ρ, g, S, E, q⟩ => q g H E.gok .refl
theorem sim_part (h : SimE X own e se) : SimO X own (some e) (sPart se) := po_weak (po_some h) fun σ H Q ⟨g0, H0, ρ, g, S, E, q⟩ => by
  obtain ⟨o, S', e1, k⟩ := Res.post_ex q
  obtain ⟨d, S1, e2, e1⟩ := Res.then_ex e1
  refine ⟨g0, H0, ρ, g, S, E, ?_⟩
  rw [e2]
  intro v g' H' G s r
  cases d with
  | int i => cases e1; cases r; exact ⟨i, rfl, k g' H' G s⟩
  | _ => cases e1
def cutD (xs : List D) (lo hi : Option Int) : List D := (xs.drop (HT.sIx xs.length 0 lo)).take (HT.sIx xs.length xs.length hi - HT.sIx xs.length 0 lo)
theorem Reps.cut {K : PySem.W.Frag} {mg : Str → Option Value} {g : Gh} {vs : List V} {ds : List D} (r : Reps K mg g vs ds) (lo hi : Option Int) : Reps K mg g (cutV vs lo hi) (cutD ds lo hi) := by
  unfold cutV cutD
  rw [r.length]
  exact (r.drop _).take _
def sSlice (sa : SE) (sl sh : SO) : SE := fun ρ S => (sa ρ S).then fun x S1 => (sl ρ S1).then fun lo S2 => (sh ρ S2).then fun hi S3 => match x with
  | .tup xs => .ok (.tup (cutD xs lo hi)) S3
  | .lst xs => .ok (.lst (cutD xs lo hi)) S3
  | _ => .bad
theorem cut_whole {xs : List D} {lo hi : Option Int} (h : HT.sIx xs.length 0 lo = 0 ∧ HT.sIx xs.length xs.length hi = xs.length) : cutD xs lo hi = xs := by
  unfold cutD
  rw [h.1, h.2]
  simp
variable {lo hi : Option Expr} {sl sh : SO}
theorem sim_slice (ha : SimR X own a sa) (hl : SimO X own lo sl) (hh : SimO X own hi sh) : SimE X own (.Subscript a (.Slice lo hi none p2) pos) (sSlice sa sl sh) :=
  pe_weak (pe_slice (r := fun x lo hi H Q => rSlA X.K x lo hi H Q ∨ rSlL X.K x lo hi H Q) (sl_tupA.or sl_list) ha hl hh) fun σ H Q ⟨g0, H0, ρ, g, S, E, q⟩ => by
    obtain ⟨d, S', e1, k⟩ := Res.post_ex q
    obtain ⟨x, S1, e2, e1⟩ := Res.then_ex e1
    obtain ⟨l, S2, e3, e1⟩ := Res.then_ex e1
    obtain ⟨h, S3, e4, e1⟩ := Res.then_ex e1
    refine ⟨g0, H0, ρ, g, S, E, ?_⟩
    rw [e2]
    intro v g1 H1 G1 s1 r1
    refine ⟨g0, H0, ρ, g1, S1, E.step G1 s1, ?_⟩
    rw [e3]
    intro g2 H2 G2 s2
    refine ⟨g0, H0, ρ, g2, S2, E.step G2 (s1.trans s2), ?_⟩
    rw [e4]
    intro g3 H3 G3 s3
    have r3 := (r1.step s2).step s3
    cases x with
    | tup xs =>
      cases e1
      have f3 := r3.rep (fun _ e => nomatch e)
      obtain ⟨p, vs, rfl, hp, rs⟩ := r3.tup G3
      refine .inl ⟨p, vs, rfl, SqT.of hp, fun z => ?_, fun z l hl => ?_⟩
      · rw [rs.length] at z
        rw [cut_whole z] at k
        exact k _ g3 H3 G3 ((s1.trans s2).trans s3) f3
      · exact k _ _ _ (G3.add hl) (((s1.trans s2).trans s3).trans (stp_add G3 hl)) (.newT G3 hl (rs.cut _ _))
    | lst xs =>
      cases e1
      obtain ⟨p, vs, rfl, hp, rs⟩ := r3.lst G3
      refine .inr ⟨p, vs, rfl, SqL.of hp, fun l hl => ?_⟩
      exact k _ _ _ (G3.add hl) (((s1.trans s2).trans s3).trans (stp_add G3 hl)) (.newL G3 hl (rs.cut _ _))
    | _ => cases e1
end

/-! ### arguments, displays -/
section
variable {own : List Nat} {e : Expr} {es : List Expr} {se : SE} {pos : Pos}
def sArgs : List (Bool × SE) → DEnv → M (List D)
  | [], _ => fun S => .ok [] S
  | (star, a) :: as, ρ => fun S => (a ρ S).then fun d S1 => (match star, d with
    | false, d => some [d]
    | true, .tup xs => some xs
    | true, .lst xs => some xs
    | _, _ => none : Option (List D)).elim .bad fun xs => (sArgs as ρ S1).then fun ds S2 => .ok (xs ++ ds) S2
def tA (X : Cx) (own : List Nat) (sa : List (Bool × SE)) : TA := fun σ H Q => ∃ g0 H0 ρ g S, EnvOk X.K X.mg g0 H0 own ρ σ g H S ∧ (sArgs sa ρ S).post fun ds S' => ∀ vs g' H', GOk X.K X.mg g' H' S' → Stp g H g' H' → Reps X.K X.mg g' vs ds → Q vs H'
def tAR (X : Cx) (own : List Nat) (sa : List (Bool × SE)) : TA := fun σ H Q => ∃ g0 H0 ρ g S, EnvOk X.K X.mg g0 H0 own ρ σ g H S ∧ (sArgs sa ρ S).post fun ds S' => ∀ vs g' H', GOk X.K X.mg g' H' S' → Stp g H g' H' → RepRs X.K X.mg g' H' vs ds → Q vs H'
def SimA (X : Cx) (own : List Nat) (es : List Expr) (sa : List (Bool × SE)) : Prop := PA X es (tA X own sa)
def SimAR (X : Cx) (own : List Nat) (es : List Expr) (sa : List (Bool × SE)) : Prop := PA X es (tAR X own sa)
theorem pa_weak {es : List Expr} {t t' : TA} (h : PA X es t) (w : ∀ σ H Q, t' σ H Q → t σ H Q) : PA X es t' := ⟨fun pos pins s σ H Q I q => h.run pos pins s σ H Q I (w σ H Q q)⟩
variable {sas : List (Bool × SE)}
theorem sima_nil : SimA X own [] [] := pa_weak pa_nil fun σ H Q ⟨g0, H0, ρ, g, S, E, q⟩ => q [] g H E.gok .refl .nil
theorem sima_cons (h : SimE X own e se) (hr : SimA X own es sas) (hs : starEach (e :: es) X.env = (false, eval e X.env) :: starEach es X.env := by rfl) : SimA X own (e :: es) ((false, se) :: sas) := pa_weak (pa_cons h hr hs) fun σ H Q ⟨g0, H0, ρ, g, S, E, q⟩ => by
  obtain ⟨ds, S', e1, k⟩ := Res.post_ex q
  obtain ⟨d, S1, e2, e1⟩ := Res.then_ex e1
  obtain ⟨es', S2, e3, e1⟩ := Res.then_ex e1
  cases e1
  refine ⟨g0, H0, ρ, g, S, E, ?_⟩
  rw [e2]
  intro v g1 H1 G1 s1 r1
  refine ⟨g0, H0, ρ, g1, S1, E.step G1 s1, ?_⟩
  rw [e3]
  intro vs g2 H2 G2 s2 r2
  exact k (v :: vs) g2 H2 G2 (s1.trans s2) (.cons (r1.mono s2.le) r2)
theorem sima_star {sp : Pos} (h : SimR X own e se) (hr : SimA X own es sas) (hs : starEach (.Starred e sp :: es) X.env = (true, eval e X.env) :: starEach es X.env := by rfl) : SimA X own (.Starred e sp :: es) ((true, se) :: sas) := pa_weak (StX.pa_star h hr hs) fun σ H Q ⟨g0, H0, ρ, g, S, E, q⟩ => by
  obtain ⟨ds, S', e1, k⟩ := Res.post_ex q
  obtain ⟨d, S1, e2, e1⟩ := Res.then_ex e1
  refine ⟨g0, H0, ρ, g, S, E, ?_⟩
  rw [e2]
  intro v g1 H1 G1 s1 r1
  cases d with
  | tup xs =>
    obtain ⟨es', S2, e3, e1⟩ := Res.then_ex e1
    cases e1
    obtain ⟨p, vs, rfl, hp, rs⟩ := r1.tup G1
    refine ⟨p, vs, rfl, .inl (SqT.of hp), ?_⟩
    refine ⟨g0, H0, ρ, g1, S1, E.step G1 s1, ?_⟩
    rw [e3]
    intro ws g2 H2 G2 s2 r2
    exact k (vs ++ ws) g2 H2 G2 (s1.trans s2) ((rs.mono s2.le).append r2)
  | lst xs =>
    obtain ⟨es', S2, e3, e1⟩ := Res.then_ex e1
    cases e1
    obtain ⟨p, vs, rfl, hp, rs⟩ := r1.lst G1
    refine ⟨p, vs, rfl, .inr (SqL.of hp), ?_⟩
    refine ⟨g0, H0, ρ, g1, S1, E.step G1 s1, ?_⟩
    rw [e3]
    intro ws g2 H2 G2 s2 r2
    exact k (vs ++ ws) g2 H2 G2 (s1.trans s2) ((rs.mono s2.le).append r2)
  | _ => cases e1
theorem RepRs.step {g g' : Gh} {H H' : Hp} {vs : List V} {ds : List D} (r : RepRs X.K X.mg g H vs ds) (s : Stp g H g' H') : RepRs X.K X.mg g' H' vs ds := by
  induction r with
  | nil => exact .nil
  | cons h _ ih => exact .cons (h.step s) ih
theorem simr_nil : SimAR X own [] [] := pa_weak pa_nil fun σ H Q ⟨g0, H0, ρ, g, S, E, q⟩ => q [] g H E.gok .refl .nil
theorem simr_cons (h : SimR X own e se) (hr : SimAR X own es sas) (hs : starEach (e :: es) X.env = (false, eval e X.env) :: starEach es X.env := by rfl) : SimAR X own (e :: es) ((false, se) :: sas) := pa_weak (pa_cons h hr hs) fun σ H Q ⟨g0, H0, ρ, g, S, E, q⟩ => by
  obtain ⟨ds, S', e1, k⟩ := Res.post_ex q
  obtain ⟨d, S1, e2, e1⟩ := Res.then_ex e1
  obtain ⟨es', S2, e3, e1⟩ := Res.then_ex e1
  cases e1
  refine ⟨g0, H0, ρ, g, S, E, ?_⟩
  rw [e2]
  intro v g1 H1 G1 s1 r1
  refine ⟨g0, H0, ρ, g1, S1, E.step G1 s1, ?_⟩
  rw [e3]
  intro vs g2 H2 G2 s2 r2
  exact k (v :: vs) g2 H2 G2 (s1.trans s2) (.cons (r1.step s2) r2)
def sTup (sas : List (Bool × SE)) : SE := fun ρ S => (sArgs sas ρ S).then fun ds S' => if ds.length ≤ sizeLine then .ok (.tup ds) S' else .bad
def sLst (sas : List (Bool × SE)) : SE := fun ρ S => (sArgs sas ρ S).then fun ds S' => if ds.length ≤ sizeLine then .ok (.lst ds) S' else .bad
theorem sim_tup {x1} (h : SimA X own es sas) : SimE X own (.Tuple es x1 pos) (sTup sas) := pe_weak (pe_tup h) fun σ H Q ⟨g0, H0, ρ, g, S, E, q⟩ => by
  obtain ⟨d, S', e1, k⟩ := Res.post_ex q
  obtain ⟨ds, S1, e2, e1⟩ := Res.then_ex e1
  split at e1
  · cases e1
    refine ⟨g0, H0, ρ, g, S, E, ?_⟩
    rw [e2]
    intro vs g1 H1 G1 s1 r1
    exact ⟨by rw [r1.length]; assumption, fun p hp => k _ _ _ (G1.add hp) (s1.trans (stp_add G1 hp)) (.newT G1 hp r1)⟩
  · cases e1
theorem sLst_lst {ρ : DEnv} {S S' : Sto} {d : D} (e : sLst sas ρ S = .ok d S') : ∃ ds, d = .lst ds := by
  obtain ⟨ds, S1, _, e1⟩ := Res.then_ex e
  split at e1
  · cases e1; exact ⟨ds, rfl⟩
  · cases e1
/-- from a rule for a new list: its end -/
theorem fresh_end {g g1 : Gh} {H H1 : Hp} {S1 : Sto} {p : Addr} {vs : List V} {ds : List D} (G1 : GOk X.K X.mg g1 H1 S1) (s1 : Stp g H g1 H1) (hp : H1 p = none) (r1 : Reps X.K X.mg g1 vs ds) {Q : VK}
    (k : ∀ p vs g' H', GOk X.K X.mg g' H' S1 → Stp g H g' H' → H' p = some (.lst vs) → g'.F p = none → p ∉ g'.as → H p = none → Reps X.K X.mg g' vs ds → Q (.ref p) H') : Q (.ref p) (upd H1 p (.lst vs)) := by
  refine k p vs g1 _ (G1.fresh hp) (s1.trans (stp_fresh hp)) upd_same (G1.nfree hp) (G1.notin hp) ?_ r1
  cases q : H p with
  | none => rfl
  | some o => exact absurd hp (s1.there p (by rw [q]; exact fun z => nomatch z))
theorem sim_lst (h : SimA X own es sas) : SimF X own (.List es pos) (sLst sas) := pe_weak (pe_lst h) fun σ H Q ⟨g0, H0, ρ, g, S, E, q⟩ => by
  obtain ⟨d, S', e1, k⟩ := Res.post_ex q
  obtain ⟨ds, S1, e2, e1⟩ := Res.then_ex e1
  split at e1
  · cases e1
    obtain ⟨ds', e, k⟩ := k
    cases e
    refine ⟨g0, H0, ρ, g, S, E, ?_⟩
    rw [e2]
    intro vs g1 H1 G1 s1 r1
    exact ⟨by rw [r1.length]; assumption, fun p hp => fresh_end G1 s1 hp r1 k⟩
  · cases e1
end
end
end Ev
namespace Ev
open PySem PySem.Spec PyProof.Rows L2
/-! ### calls of built-ins -/
def sCallN (f : List D → Option D) (sas : List (Bool × SE)) : SE := fun ρ S => (sArgs sas ρ S).then fun ds S' => optR (f ds) S'
def OpN (X : Cx) (f : List D → Option D) (r : List V → Hp → VK → Prop) : Prop := ∀ (g : Gh) (H : Hp) (S : Sto) (xs : List V) (ds : List D) (d : D) (Q : VK), GOk X.K X.mg g H S → RepRs X.K X.mg g H xs ds → f ds = some d →
  (∀ v g' H', GOk X.K X.mg g' H' S → Stp g H g' H' → Rep X.K X.mg g' v d → Q v H') → r xs H Q
/-- .. that give a new list -/
def OpF (X : Cx) (f : List D → Option D) (r : List V → Hp → VK → Prop) : Prop := ∀ (g : Gh) (H : Hp) (S : Sto) (xs : List V) (ds : List D) (d : D) (Q : VK), GOk X.K X.mg g H S → RepRs X.K X.mg g H xs ds → f ds = some d →
  ∃ es, d = .lst es ∧ ((∀ p vs, H p = none → Reps X.K X.mg g vs es → Q (.ref p) (upd H p (.lst vs))) → r xs H Q)
section
variable {X : Cx} {own : List Nat} {e : Expr} {es : List Expr} {se : SE} {sas : List (Bool × SE)} {pos p : Pos} {x : Str} {f : List D → Option D} {r : List V → Hp → VK → Prop}
theorem callN_of (hf : OpN X f r) {σ : L2.St} {H : Hp} {Q : VK} (h : tE X own (sCallN f sas) σ H Q) : tCB r (tAR X own sas) σ H Q := by
  obtain ⟨g0, H0, ρ, g, S, E, q⟩ := h
  obtain ⟨d, S', e1, k⟩ := Res.post_ex q
  obtain ⟨ds, S1, e2, e1⟩ := Res.then_ex e1
  obtain ⟨e3, eS⟩ := optR_ex e1
  subst eS
  refine ⟨g0, H0, ρ, g, S, E, ?_⟩
  rw [e2]
  intro vs g1 H1 G1 s1 r1
  exact hf g1 H1 S1 vs ds d Q G1 r1 e3 fun v g2 H2 G2 s2 r2 => k v g2 H2 G2 (s1.trans s2) r2
theorem callF_of (hf : OpF X f r) {σ : L2.St} {H : Hp} {Q : VK} (h : tF X own (sCallN f sas) σ H Q) : tCB r (tAR X own sas) σ H Q := by
  obtain ⟨g0, H0, ρ, g, S, E, q⟩ := h
  obtain ⟨d, S', e1, k⟩ := Res.post_ex q
  obtain ⟨ds, S1, e2, e1⟩ := Res.then_ex e1
  obtain ⟨e3, eS⟩ := optR_ex e1
  subst eS
  refine ⟨g0, H0, ρ, g, S, E, ?_⟩
  rw [e2]
  intro vs g1 H1 G1 s1 r1
  obtain ⟨es, ed, kr⟩ := hf g1 H1 S1 vs ds d Q G1 r1 e3
  obtain ⟨es', ed', k⟩ := k
  rw [ed] at ed'
  cases ed'
  exact kr fun p vs hp rs => fresh_end G1 s1 hp rs k
theorem sim_callB {id : String} (hc : CallR X (.builtin id) r) (hf : OpN X f r) (hg : Gl X x) (hm : X.mg x = none) (hv : bootBuiltins x = some (.builtin id)) (ha : SimAR X own (e :: es) sas) (hn : x ≠ "__name__" := by decide) (hdb : (x == ("__debug__" : Str)) = false := by decide)
    (he : starEach (e :: es) X.env = (false, eval e X.env) :: starEach es X.env := by rfl) (hpl : (backTo pos (starEach es X.env)).any (·.1) = false := by rfl) : SimE X own (.Call (.Name x p) (e :: es) [] pos) (sCallN f sas) :=
  pe_weak (pe_callB hc hg hm hv ha hn hdb he hpl) fun _ _ _ h => callN_of hf h
theorem sim_callTy {id : String} (hc : CallR X (.type id) r) (hf : OpN X f r) (hg : Gl X x) (hm : X.mg x = none) (hv : bootBuiltins x = some (.type id)) (ha : SimAR X own (e :: es) sas) (hn : x ≠ "__name__" := by decide) (hdb : (x == ("__debug__" : Str)) = false := by decide)
    (he : starEach (e :: es) X.env = (false, eval e X.env) :: starEach es X.env := by rfl) (hpl : (backTo pos (starEach es X.env)).any (·.1) = false := by rfl) : SimE X own (.Call (.Name x p) (e :: es) [] pos) (sCallN f sas) :=
  pe_weak (pe_callTy hc hg hm hv ha hn hdb he hpl) fun _ _ _ h => callN_of hf h
theorem simf_callB {id : String} (hc : CallR X (.builtin id) r) (hf : OpF X f r) (hg : Gl X x) (hm : X.mg x = none) (hv : bootBuiltins x = some (.builtin id)) (ha : SimAR X own (e :: es) sas) (hn : x ≠ "__name__" := by decide) (hdb : (x == ("__debug__" : Str)) = false := by decide)
    (he : starEach (e :: es) X.env = (false, eval e X.env) :: starEach es X.env := by rfl) (hpl : (backTo pos (starEach es X.env)).any (·.1) = false := by rfl) : SimF X own (.Call (.Name x p) (e :: es) [] pos) (sCallN f sas) :=
  pe_weak (pe_callB hc hg hm hv ha hn hdb he hpl) fun _ _ _ h => callF_of hf h
theorem simf_callTy {id : String} (hc : CallR X (.type id) r) (hf : OpF X f r) (hg : Gl X x) (hm : X.mg x = none) (hv : bootBuiltins x = some (.type id)) (ha : SimAR X own (e :: es) sas) (hn : x ≠ "__name__" := by decide) (hdb : (x == ("__debug__" : Str)) = false := by decide)
    (he : starEach (e :: es) X.env = (false, eval e X.env) :: starEach es X.env := by rfl) (hpl : (backTo pos (starEach es X.env)).any (·.1) = false := by rfl) : SimF X own (.Call (.Name x p) (e :: es) [] pos) (sCallN f sas) :=
  pe_weak (pe_callTy hc hg hm hv ha hn hdb he hpl) fun _ _ _ h => callF_of hf h
end
section
variable {X : Cx}
theorem rr1 {g : Gh} {H : Hp} {xs : List V} {a : D} (r : RepRs X.K X.mg g H xs [a]) : ∃ x, xs = [x] ∧ RepR X.K X.mg g H x a := by
  cases r with
  | cons h r => cases r; exact ⟨_, rfl, h⟩
theorem rr2 {g : Gh} {H : Hp} {xs : List V} {a b : D} (r : RepRs X.K X.mg g H xs [a, b]) : ∃ x y, xs = [x, y] ∧ RepR X.K X.mg g H x a ∧ RepR X.K X.mg g H y b := by
  cases r with
  | cons h r => cases r with
    | cons h2 r => cases r; exact ⟨_, _, rfl, h, h2⟩
def dLen : List D → Option D
  | [.str x] => if x.length ≤ sizeLine then some (.int x.length) else none
  | [.tup xs] => some (.int xs.length)
  | [.lst xs] => some (.int xs.length)
  | [.scr ns] => some (.int ns.length)
  | _ => none
theorem opN_len : OpN X dLen (fun xs H Q => ∃ x n, xs = [x] ∧ LenV X.K x H n ∧ Q (.int n) H) := by
  intro g H S xs ds d Q G r e k
  unfold dLen at e
  split at e
  · split at e
    · cases e
      obtain ⟨x, rfl, h⟩ := rr1 r
      cases h.str
      exact ⟨_, _, rfl, ⟨by assumption, rfl⟩, k _ g H G .refl (.int _)⟩
    · cases e
  · cases e
    obtain ⟨x, rfl, h⟩ := rr1 r
    obtain ⟨p, vs, rfl, hp, rs⟩ := h.tup G
    exact ⟨_, _, rfl, .inr ⟨vs, SqT.of hp, rs.length.symm⟩, k _ g H G .refl (.int _)⟩
  · cases e
    obtain ⟨x, rfl, h⟩ := rr1 r
    obtain ⟨p, vs, rfl, hp, rs⟩ := h.lst G
    exact ⟨_, _, rfl, .inl ⟨vs, SqL.of hp, rs.length.symm⟩, k _ g H G .refl (.int _)⟩
  · rename_i ns
    cases e
    obtain ⟨x, rfl, h⟩ := rr1 r
    cases h.rep (fun _ e => nomatch e) with
    | scr hs => exact ⟨_, _, rfl, .inl ⟨_, G.sub.seq hs, (List.length_map _).symm⟩, k _ g H G .refl (.int _)⟩
  · cases e
def dIntOf : List D → Option D
  | [.int i] => some (.int i)
  | [.bl b] => some (.int (if b then 1 else 0))
  | _ => none
theorem opN_int : OpN X dIntOf (fun xs H Q => (∃ i, xs = [.int i] ∧ Q (.int i) H) ∨ ∃ k, xs = [.bl k] ∧ Q (.int (if k then 1 else 0)) H) := by
  intro g H S xs ds d Q G r e k
  unfold dIntOf at e
  split at e
  · cases e
    obtain ⟨x, rfl, h⟩ := rr1 r
    cases h.int
    exact .inl ⟨_, rfl, k _ g H G .refl (.int _)⟩
  · cases e
    obtain ⟨x, rfl, h⟩ := rr1 r
    cases h.bl
    exact .inr ⟨_, rfl, k _ g H G .refl (.int _)⟩
  · cases e
def dStrOf : List D → Option D
  | [.int i] => if i.natAbs.log2 < 1920 then some (.str (toString i)) else none
  | _ => none
theorem opN_str : OpN X dStrOf (fun xs H Q => ∃ i, xs = [.int i] ∧ i.natAbs.log2 < 1920 ∧ Q (.str (toString i)) H) := by
  intro g H S xs ds d Q G r e k
  unfold dStrOf at e
  split at e
  · split at e
    · cases e
      obtain ⟨x, rfl, h⟩ := rr1 r
      cases h.int
      exact ⟨_, rfl, by assumption, k _ g H G .refl (.str _)⟩
    · cases e
  · cases e
def dTupOf : List D → Option D
  | [.tup xs] => some (.tup xs)
  | [.lst xs] => some (.tup xs)
  | _ => none
theorem opN_tup : OpN X dTupOf (fun xs H Q => ∃ p ys, xs = [.ref p] ∧ ((SqL X.K H p ys ∧ ∀ l, H l = none → Q (.ref l) (upd H l (.tup ys))) ∨ (SqT X.K H p ys ∧ Q (.ref p) H))) := by
  intro g H S xs ds d Q G r e k
  unfold dTupOf at e
  split at e
  · cases e
    obtain ⟨x, rfl, h⟩ := rr1 r
    have f := h.rep (fun _ e => nomatch e)
    obtain ⟨p, vs, rfl, hp, rs⟩ := h.tup G
    exact ⟨p, vs, rfl, .inr ⟨SqT.of hp, k _ g H G .refl f⟩⟩
  · cases e
    obtain ⟨x, rfl, h⟩ := rr1 r
    obtain ⟨p, vs, rfl, hp, rs⟩ := h.lst G
    exact ⟨p, vs, rfl, .inl ⟨SqL.of hp, fun l hl => k _ _ _ (G.add hl) (stp_add G hl) (.newT G hl rs)⟩⟩
  · cases e
def dLstOf : List D → Option D
  | [.tup xs] => some (.lst xs)
  | [.lst xs] => some (.lst xs)
  | [.scr ns] => some (.lst (ns.map .int))
  | _ => none
theorem reps_ints {K : PySem.W.Frag} {mg : Str → Option Value} {g : Gh} : ∀ ns : List Int, Reps K mg g (ns.map V.int) (ns.map D.int)
  | [] => .nil
  | n :: r => .cons (.int n) (reps_ints r)
theorem opF_lst : OpF X dLstOf (fun xs H Q => ∃ p ys, xs = [.ref p] ∧ (SqL X.K H p ys ∨ SqT X.K H p ys) ∧ ∀ l, H l = none → Q (.ref l) (upd H l (.lst ys))) := by
  intro g H S xs ds d Q G r e
  unfold dLstOf at e
  split at e
  · cases e
    refine ⟨_, rfl, fun k => ?_⟩
    obtain ⟨x, rfl, h⟩ := rr1 r
    obtain ⟨p, vs, rfl, hp, rs⟩ := h.tup G
    exact ⟨p, vs, rfl, .inr (SqT.of hp), fun l hl => k l vs hl rs⟩
  · cases e
    refine ⟨_, rfl, fun k => ?_⟩
    obtain ⟨x, rfl, h⟩ := rr1 r
    obtain ⟨p, vs, rfl, hp, rs⟩ := h.lst G
    exact ⟨p, vs, rfl, .inl (SqL.of hp), fun l hl => k l vs hl rs⟩
  · cases e
    refine ⟨_, rfl, fun k => ?_⟩
    obtain ⟨x, rfl, h⟩ := rr1 r
    cases h.rep (fun _ e => nomatch e) with
    | scr hs => exact ⟨_, _, rfl, .inl (G.sub.seq hs), fun l hl => k l _ hl (reps_ints _)⟩
  · cases e
/-- lists of ints, of truth values -/
def intsD : List D → Option (List Int)
  | [] => some []
  | .int i :: r => (intsD r).map (i :: ·)
  | _ => none
def blsD : List D → Option (List Bool)
  | [] => some []
  | .bl b :: r => (blsD r).map (b :: ·)
  | _ => none
theorem ints_of {K : PySem.W.Frag} {mg : Str → Option Value} {g : Gh} : ∀ {ds : List D} {vs : List V} {ns : List Int}, Reps K mg g vs ds → intsD ds = some ns → vs = ns.map V.int
  | [], _, _, .nil, e => by cases (show some ([] : List Int) = some _ from e); rfl
  | .int i :: ds, _, ns, .cons h r, e => by
    cases h
    have e' : (intsD ds).map (i :: ·) = some ns := e
    cases q : intsD ds with
    | none => rw [q] at e'; cases e'
    | some ms => rw [q] at e'; cases e'; rw [ints_of r q] <;> rfl
  | .non :: _, _, _, _, e => by cases (show (none : Option (List Int)) = some _ from e)
  | .bl _ :: _, _, _, _, e => by cases (show (none : Option (List Int)) = some _ from e)
  | .str _ :: _, _, _, _, e => by cases (show (none : Option (List Int)) = some _ from e)
  | .tup _ :: _, _, _, _, e => by cases (show (none : Option (List Int)) = some _ from e)
  | .lst _ :: _, _, _, _, e => by cases (show (none : Option (List Int)) = some _ from e)
  | .obj _ _ :: _, _, _, _, e => by cases (show (none : Option (List Int)) = some _ from e)
  | .mref _ :: _, _, _, _, e => by cases (show (none : Option (List Int)) = some _ from e)
  | .scr _ :: _, _, _, _, e => by cases (show (none : Option (List Int)) = some _ from e)
theorem bls_of {K : PySem.W.Frag} {mg : Str → Option Value} {g : Gh} : ∀ {ds : List D} {vs : List V} {ns : List Bool}, Reps K mg g vs ds → blsD ds = some ns → vs = ns.map V.bl
  | [], _, _, .nil, e => by cases (show some ([] : List Bool) = some _ from e); rfl
  | .bl i :: ds, _, ns, .cons h r, e => by
    cases h
    have e' : (blsD ds).map (i :: ·) = some ns := e
    cases q : blsD ds with
    | none => rw [q] at e'; cases e'
    | some ms => rw [q] at e'; cases e'; rw [bls_of r q] <;> rfl
  | .non :: _, _, _, _, e => by cases (show (none : Option (List Bool)) = some _ from e)
  | .int _ :: _, _, _, _, e => by cases (show (none : Option (List Bool)) = some _ from e)
  | .str _ :: _, _, _, _, e => by cases (show (none : Option (List Bool)) = some _ from e)
  | .tup _ :: _, _, _, _, e => by cases (show (none : Option (List Bool)) = some _ from e)
  | .lst _ :: _, _, _, _, e => by cases (show (none : Option (List Bool)) = some _ from e)
  | .obj _ _ :: _, _, _, _, e => by cases (show (none : Option (List Bool)) = some _ from e)
  | .mref _ :: _, _, _, _, e => by cases (show (none : Option (List Bool)) = some _ from e)
  | .scr _ :: _, _, _, _, e => by cases (show (none : Option (List Bool)) = some _ from e)
@[simp] theorem intsD_map (ns : List Int) : intsD (ns.map .int) = some ns := by
  induction ns with
  | nil => rfl
  | cons n r ih =>
    show (intsD (r.map .int)).map (n :: ·) = _
    rw [ih] <;> rfl
@[simp] theorem blsD_map (ns : List Bool) : blsD (ns.map .bl) = some ns := by
  induction ns with
  | nil => rfl
  | cons n r ih =>
    show (blsD (r.map .bl)).map (n :: ·) = _
    rw [ih] <;> rfl
def dSum : List D → Option D
  | [.lst xs] => (intsD xs).map fun ns => .int ns.sum
  | _ => none
theorem opN_sum : OpN X dSum (rSum X.K) := by
  intro g H S xs ds d Q G r e k
  unfold dSum at e
  split at e
  · rename_i ys
    cases q : intsD ys with
    | none => rw [q] at e; cases e
    | some ns =>
      rw [q] at e
      cases e
      obtain ⟨x, rfl, h⟩ := rr1 r
      obtain ⟨p, vs, rfl, hp, rs⟩ := h.lst G
      cases ints_of rs q
      exact ⟨p, ns, rfl, SqL.of hp, k _ g H G .refl (.int _)⟩
  · cases e
def dAny : List D → Option D
  | [.lst xs] => (blsD xs).map fun ns => .bl (ns.any id)
  | _ => none
def dAll : List D → Option D
  | [.lst xs] => (blsD xs).map fun ns => .bl (ns.all id)
  | _ => none
theorem opN_any : OpN X dAny (rAny X.K) := by
  intro g H S xs ds d Q G r e k
  unfold dAny at e
  split at e
  · rename_i ys
    cases q : blsD ys with
    | none => rw [q] at e; cases e
    | some ns =>
      rw [q] at e
      cases e
      obtain ⟨x, rfl, h⟩ := rr1 r
      obtain ⟨p, vs, rfl, hp, rs⟩ := h.lst G
      cases bls_of rs q
      exact ⟨p, ns, rfl, SqL.of hp, k _ g H G .refl (.bl _)⟩
  · cases e
theorem opN_all : OpN X dAll (rAll X.K) := by
  intro g H S xs ds d Q G r e k
  unfold dAll at e
  split at e
  · rename_i ys
    cases q : blsD ys with
    | none => rw [q] at e; cases e
    | some ns =>
      rw [q] at e
      cases e
      obtain ⟨x, rfl, h⟩ := rr1 r
      obtain ⟨p, vs, rfl, hp, rs⟩ := h.lst G
      cases bls_of rs q
      exact ⟨p, ns, rfl, SqL.of hp, k _ g H G .refl (.bl _)⟩
  · cases e
def maxI : List Int → Int
  | [] => 0
  | [x] => x
  | x :: y :: r => maxI ((if y > x then y else x) :: r)
termination_by l => l.length
def minI : List Int → Int
  | [] => 0
  | [x] => x
  | x :: y :: r => minI ((if y < x then y else x) :: r)
termination_by l => l.length
theorem maxI_spec : ∀ (l : List Int), l ≠ [] → maxI l ∈ l ∧ ∀ y ∈ l, y ≤ maxI l
  | [], h => absurd rfl h
  | [x], _ => by unfold maxI; simp
  | x :: y :: r, _ => by
    unfold maxI
    obtain ⟨h1, h2⟩ := maxI_spec ((if y > x then y else x) :: r) (by simp)
    have hm := h2 _ List.mem_cons_self
    refine ⟨?_, fun z hz => ?_⟩
    · rcases List.mem_cons.mp h1 with e | e
      · rw [e]
        split <;> simp
      · simp [e]
    · rcases List.mem_cons.mp hz with rfl | hz
      · refine Int.le_trans ?_ hm
        split <;> omega
      · rcases List.mem_cons.mp hz with rfl | hz
        · refine Int.le_trans ?_ hm
          split <;> omega
        · exact h2 z (List.mem_cons_of_mem _ hz)
termination_by l => l.length
theorem minI_spec : ∀ (l : List Int), l ≠ [] → minI l ∈ l ∧ ∀ y ∈ l, minI l ≤ y
  | [], h => absurd rfl h
  | [x], _ => by unfold minI; simp
  | x :: y :: r, _ => by
    unfold minI
    obtain ⟨h1, h2⟩ := minI_spec ((if y < x then y else x) :: r) (by simp)
    have hm := h2 _ List.mem_cons_self
    refine ⟨?_, fun z hz => ?_⟩
    · rcases List.mem_cons.mp h1 with e | e
      · rw [e]
        split <;> simp
      · simp [e]
    · rcases List.mem_cons.mp hz with rfl | hz
      · refine Int.le_trans hm ?_
        split <;> omega
      · rcases List.mem_cons.mp hz with rfl | hz
        · refine Int.le_trans hm ?_
          split <;> omega
        · exact h2 z (List.mem_cons_of_mem _ hz)
termination_by l => l.length
def dMax : List D → Option D
  | [.int i, .int j] => some (.int (if j > i then j else i))
  | [.lst xs] => (intsD xs).bind fun ns => if ns.isEmpty then none else some (.int (maxI ns))
  | _ => none
def dMin : List D → Option D
  | [.int i, .int j] => some (.int (if j < i then j else i))
  | [.lst xs] => (intsD xs).bind fun ns => if ns.isEmpty then none else some (.int (minI ns))
  | _ => none
theorem ne_len {α : Type} {l : List α} (h : ¬ l.isEmpty = true) : l ≠ [] ∧ 0 < l.length := by
  cases l with
  | nil => exact absurd rfl h
  | cons a r => exact ⟨by simp, by simp⟩
theorem opN_max : OpN X dMax (fun xs H Q => (∃ i j, xs = [.int i, .int j] ∧ Q (.int (if j > i then j else i)) H) ∨ rMax X.K xs H Q) := by
  intro g H S xs ds d Q G r e k
  unfold dMax at e
  split at e
  · cases e
    obtain ⟨x, y, rfl, h, h2⟩ := rr2 r
    cases h.int
    cases h2.int
    exact .inl ⟨_, _, rfl, k _ g H G .refl (.int _)⟩
  · rename_i ys
    cases q : intsD ys with
    | none => rw [q] at e; cases e
    | some ns =>
      rw [q] at e
      have e' : (if ns.isEmpty then none else some (D.int (maxI ns))) = some d := e
      split at e'
      · cases e'
      · rename_i hne
        cases e'
        obtain ⟨x, rfl, h⟩ := rr1 r
        obtain ⟨p, vs, rfl, hp, rs⟩ := h.lst G
        cases ints_of rs q
        obtain ⟨h1, h2⟩ := ne_len hne
        refine .inr ⟨p, ns, rfl, SqL.of hp, h2, fun m hm hle => ?_⟩
        obtain ⟨z1, z2⟩ := maxI_spec ns h1
        have e3 : m = maxI ns := Int.le_antisymm (z2 m hm) (hle _ z1)
        rw [e3]
        exact k _ g H G .refl (.int _)
  · cases e
theorem opN_min : OpN X dMin (fun xs H Q => (∃ i j, xs = [.int i, .int j] ∧ Q (.int (if j < i then j else i)) H) ∨ rMin X.K xs H Q) := by
  intro g H S xs ds d Q G r e k
  unfold dMin at e
  split at e
  · cases e
    obtain ⟨x, y, rfl, h, h2⟩ := rr2 r
    cases h.int
    cases h2.int
    exact .inl ⟨_, _, rfl, k _ g H G .refl (.int _)⟩
  · rename_i ys
    cases q : intsD ys with
    | none => rw [q] at e; cases e
    | some ns =>
      rw [q] at e
      have e' : (if ns.isEmpty then none else some (D.int (minI ns))) = some d := e
      split at e'
      · cases e'
      · rename_i hne
        cases e'
        obtain ⟨x, rfl, h⟩ := rr1 r
        obtain ⟨p, vs, rfl, hp, rs⟩ := h.lst G
        cases ints_of rs q
        obtain ⟨h1, h2⟩ := ne_len hne
        refine .inr ⟨p, ns, rfl, SqL.of hp, h2, fun m hm hle => ?_⟩
        obtain ⟨z1, z2⟩ := minI_spec ns h1
        have e3 : m = minI ns := Int.le_antisymm (hle _ z1) (z2 m hm)
        rw [e3]
        exact k _ g H G .refl (.int _)
  · cases e
theorem call_maxA (hc : X.calm = true) : CallR X (.builtin "max") (fun xs H Q => (∃ i j, xs = [.int i, .int j] ∧ Q (.int (if j > i then j else i)) H) ∨ rMax X.K xs H Q) := (call_max2 hc).or (cr_max hc)
theorem call_minA (hc : X.calm = true) : CallR X (.builtin "min") (fun xs H Q => (∃ i j, xs = [.int i, .int j] ∧ Q (.int (if j < i then j else i)) H) ∨ rMin X.K xs H Q) := (call_min2 hc).or (cr_min hc)
/-! ### isinstance of built-in types -/
def tyD : D → Option String
  | .non => some "NoneType"
  | .bl _ => some "bool"
  | .int _ => some "int"
  | .str _ => some "str"
  | .tup _ => some "tuple"
  | .lst _ => some "list"
  | _ => none
def isTyS (t T : String) : Bool := t == T || (t == "bool" && T == "int")
def sIsi (Ts : List String) (sa : SE) : SE := fun ρ S => (sa ρ S).then fun d S' => match tyD d with
  | some t => .ok (.bl (Ts.any fun T => isTyS t T)) S'
  | none => .bad
theorem tyx_of {g : Gh} {H : Hp} {S : Sto} {v : V} {d : D} {t : String} (G : GOk X.K X.mg g H S) (r : RepR X.K X.mg g H v d) (e : tyD d = some t) : TyX X.K H v (.type t) := by
  cases d with
  | non => cases r.non; cases e; exact .base .non
  | bl b => cases r.bl; cases e; exact .base (.bl b)
  | int i => cases r.int; cases e; exact .base (.int i)
  | str x => cases r.str; cases e; exact .base (.str x)
  | tup xs =>
    obtain ⟨p, vs, rfl, hp, rs⟩ := r.tup G
    cases e
    exact .base (.tup hp)
  | lst xs =>
    obtain ⟨p, vs, rfl, hp, rs⟩ := r.lst G
    cases e
    exact .base (.lst hp)
  | _ => cases e
/-- the table of answers: seen once, by running -/
def tyNames : List String := ["NoneType", "bool", "int", "str", "tuple", "list"]
theorem ty_mem {d : D} {t : String} (e : tyD d = some t) : t ∈ tyNames := by
  cases d <;> cases e <;> decide
theorem kit_tab : ∀ t ∈ tyNames, ∀ T ∈ (["int", "bool", "str", "tuple", "list"] : List String), kitB t T = some (isTyS t T) := by decide +kernel
def isTypes : List String := ["int", "bool", "str", "tuple", "list"]
theorem kit_any {K : PySem.W.Frag} {t : String} (ht : t ∈ tyNames) : ∀ {Ts : List String}, (∀ T ∈ Ts, T ∈ isTypes) → PySem.W.kitAny K (.type t) (Ts.map Value.type) = some (Ts.any fun T => isTyS t T)
  | [], _ => rfl
  | T :: r, h => by
    have h1 := kit_ty (K := K) (kit_tab t ht T (h T List.mem_cons_self))
    have h2 := kit_any (K := K) ht (Ts := r) fun T hT => h T (List.mem_cons_of_mem _ hT)
    show PySem.W.kitAny K (.type t) (Value.type T :: r.map Value.type) = _
    unfold PySem.W.kitAny
    rw [h1, List.any_cons]
    cases isTyS t T with
    | true => rfl
    | false => simpa using h2
section
variable {own : List Nat} {a : Expr} {sa : SE} {pos p p2 p3 : Pos} {T T2 x1 x2 : Str}
theorem sim_isi {n : String} (hg : Gl X "isinstance") (hm : X.mg "isinstance" = none) (hg2 : Gl X T) (hm2 : X.mg T = none) (hv : bootBuiltins T = some (.type n)) (hT : n ∈ isTypes) (ha : SimR X own a sa) (hn : T ≠ "__name__" := by decide) (hdb : (T == ("__debug__" : Str)) = false := by decide)
    (he : starEach [a, .Name T p2] X.env = (false, eval a X.env) :: starEach [.Name T p2] X.env := by rfl) (hpl : (backTo pos (starEach [.Name T p2] X.env)).any (·.1) = false := by rfl) :
    SimE X own (.Call (.Name "isinstance" p) [a, .Name T p2] [] pos) (sIsi [n] sa) :=
  pe_weak (pe_callB call_isi hg hm (by decide +kernel) (pa_cons ha (pa_cons (pe_bltn (v := .ty n) hg2 hm2 hv rfl hn hdb) pa_nil) he) (by decide) (by decide) he hpl) fun σ H Q ⟨g0, H0, ρ, g, S, E, q⟩ => by
    obtain ⟨d, S', e1, k⟩ := Res.post_ex q
    obtain ⟨x, S1, e2, e1⟩ := Res.then_ex e1
    refine ⟨g0, H0, ρ, g, S, E, ?_⟩
    rw [e2]
    intro v g1 H1 G1 s1 r1
    cases q : tyD x with
    | none => rw [q] at e1; cases e1
    | some t =>
      rw [q] at e1
      have e1' : (Res.ok (.bl ([n].any fun T => isTyS t T)) S1 : Res D) = .ok d S' := e1
      cases e1'
      refine ⟨v, .ty n, .type t, .type n, _, rfl, .ty n, tyx_of G1 r1 q, kit_ty (kit_tab t (ty_mem q) n hT), k _ g1 H1 G1 s1 ?_⟩
      have e : ([n].any fun T => isTyS t T) = isTyS t n := by simp
      rw [e]
      exact .bl _
theorem sim_isi2 {n n2 : String} {x3} (hg : Gl X "isinstance") (hm : X.mg "isinstance" = none) (hg1 : Gl X T) (hm1 : X.mg T = none) (hv1 : bootBuiltins T = some (.type n)) (hT1 : n ∈ isTypes) (hg2 : Gl X T2) (hm2 : X.mg T2 = none) (hv2 : bootBuiltins T2 = some (.type n2)) (hT2 : n2 ∈ isTypes) (ha : SimR X own a sa)
    (hn : T ≠ "__name__" := by decide) (hdb : (T == ("__debug__" : Str)) = false := by decide) (hn2 : T2 ≠ "__name__" := by decide) (hdb2 : (T2 == ("__debug__" : Str)) = false := by decide)
    (he : starEach [a, .Tuple [.Name T p2, .Name T2 p3] x3 pos] X.env = (false, eval a X.env) :: starEach [.Tuple [.Name T p2, .Name T2 p3] x3 pos] X.env := by rfl) {pos2 : Pos} (hpl : (backTo pos2 (starEach [.Tuple [.Name T p2, .Name T2 p3] x3 pos] X.env)).any (·.1) = false := by rfl) :
    SimE X own (.Call (.Name "isinstance" p) [a, .Tuple [.Name T p2, .Name T2 p3] x3 pos] [] pos2) (sIsi [n, n2] sa) :=
  pe_weak (pe_callB call_isiT hg hm (by decide +kernel) (pa_cons ha (pa_cons (pe_tup (pa_cons (pe_bltn (v := .ty n) hg1 hm1 hv1 rfl hn hdb) (pa_cons (pe_bltn (v := .ty n2) hg2 hm2 hv2 rfl hn2 hdb2) pa_nil))) pa_nil) he) (by decide) (by decide) he hpl) fun σ H Q ⟨g0, H0, ρ, g, S, E, q⟩ => by
    obtain ⟨d, S', e1, k⟩ := Res.post_ex q
    obtain ⟨x, S1, e2, e1⟩ := Res.then_ex e1
    refine ⟨g0, H0, ρ, g, S, E, ?_⟩
    rw [e2]
    intro v g1 H1 G1 s1 r1
    refine ⟨by show 2 ≤ sizeLine; decide, fun l hl => ?_⟩
    cases q : tyD x with
    | none => rw [q] at e1; cases e1
    | some t =>
      rw [q] at e1
      have e1' : (Res.ok (.bl ([n, n2].any fun T => isTyS t T)) S1 : Res D) = .ok d S' := e1
      cases e1'
      have r2 := r1.step (stp_fresh (o := .tup [.ty n, .ty n2]) hl)
      have G2 := G1.fresh (o := .tup [.ty n, .ty n2]) hl
      refine ⟨v, l, [.ty n, .ty n2], .type t, [.type n, .type n2], _, rfl, upd_same, .cons (.ty n) (.cons (.ty n2) .nil), tyx_of G2 r2 q, kit_any (Ts := [n, n2]) (ty_mem q) (fun T hT => ?_), k _ g1 _ G2 (s1.trans (stp_fresh hl)) (.bl _)⟩
      rcases List.mem_cons.mp hT with rfl | hT
      · exact hT1
      · rcases List.mem_cons.mp hT with rfl | hT
        · exact hT2
        · cases hT
end
end
end Ev
namespace Ev
open PySem PySem.Spec PyProof.Rows L2
/-! ### calls of the text's own defs -/
def spOf (K : PySem.W.Frag) (mg : Str → Option Value) (n : Nat) (m : List D → M D) : Sp := fun vs H Q _ => ∃ g ds S, GOk K mg g H S ∧ Reps K mg g vs ds ∧ ds.length = n ∧ (m ds S).post fun d S' => ∀ v g' H', GOk K mg g' H' S' → Stp g H g' H' → Rep K mg g' v d → Q v H'
structure GF (P : Program) (w : World) (K : PySem.W.Frag) (mg : Str → Option Value) (base : Heap) (k : Nat) (x : Str) (n : Nat) (m : List D → M D) : Prop where
  ex : ∃ f fd ps, mg x = some (.ref f) ∧ PySem.W.keepIn K (.ref f) = true ∧ Binds K fd ps [] ∧ FnOk P w K mg base CX0 k f fd ps (spOf K mg n m)
def sCall (m : List D → M D) (sas : List (Bool × SE)) : SE := fun ρ S => (sArgs sas ρ S).then m
theorem sArgs_len : ∀ {sas : List (Bool × SE)} {ρ : DEnv} {S S' : Sto} {ds : List D}, (sas.all fun a => !a.1) = true → sArgs sas ρ S = .ok ds S' → ds.length = sas.length
  | [], _, _, _, _, _, e => by cases e; rfl
  | (true, _) :: _, _, _, _, _, h, _ => by simp at h
  | (false, a) :: as, ρ, S, S', ds, h, e => by
    obtain ⟨d, S1, _, e1⟩ := Res.then_ex e
    obtain ⟨es, S2, e3, e1⟩ := Res.then_ex (r := sArgs as ρ S1) (k := fun ds S2 => Res.ok ([d] ++ ds) S2) e1
    cases e1
    have := sArgs_len (sas := as) (by simpa using h) e3
    simp [this]
section
variable {X : Cx} {own : List Nat} {e : Expr} {es : List Expr} {se : SE} {sas : List (Bool × SE)} {pos p : Pos} {x : Str} {m : List D → M D} {n k : Nat}
theorem sim_call (F : GF X.prog X.w X.K X.mg X.base k x n m) (hr : Room k X.A) (hg : Gl X x) (ha : SimA X own (e :: es) sas) (hn : sas.length = n := by rfl) (hst : (sas.all fun a => !a.1) = true := by rfl) (hdb : (x == ("__debug__" : Str)) = false := by decide)
    (he : starEach (e :: es) X.env = (false, eval e X.env) :: starEach es X.env := by rfl) (hpl : (backTo pos (starEach es X.env)).any (·.1) = false := by rfl) : SimE X own (.Call (.Name x p) (e :: es) [] pos) (sCall m sas) := by
  obtain ⟨f, fd, ps, hm, hk, hb, F⟩ := F.ex
  refine pe_weak (pe_call F hr hg hm hk hb .nil pass0 ha hdb he hpl) fun σ H Q ⟨g0, H0, ρ, g, S, E, q⟩ => ?_
  obtain ⟨d, S', e1, k⟩ := Res.post_ex q
  obtain ⟨ds, S1, e2, e1⟩ := Res.then_ex e1
  refine ⟨g0, H0, ρ, g, S, E, ?_⟩
  have hl := sArgs_len hst e2
  rw [e2]
  intro vs g1 H1 G1 s1 r1
  rw [List.append_nil]
  refine ⟨g1, ds, S1, G1, r1, by rw [hl, hn], ?_⟩
  rw [e1]
  exact fun v g2 H2 G2 s2 r2 => k v g2 H2 G2 (s1.trans s2) r2
/-! ### fields -/
def sAttr (cs : List Str) (f : Str) (se : SE) : SE := fun ρ S => (se ρ S).then fun d S' => match d with
  | .obj c fs => if c ∈ cs then optR (fs.lookup f) S' else .bad
  | _ => .bad
def AttrOk (K : PySem.W.Frag) (mg : Str → Option Value) (cs : List Str) (f : Str) : Prop := ∀ c ∈ cs, ∀ C, mg c = some (.ref C) → Cls K C ∧ NoAttr K C f
theorem sim_attr {cs : List Str} {f : Str} (h : SimE X own e se) (hA : AttrOk X.K X.mg cs f) (hb : attributeBase e f X.env (eval e X.env) = eval e X.env := by rfl) : SimE X own (.Attribute e f pos) (sAttr cs f se) := pe_weak (pe_fld h hb) fun σ H Q ⟨g0, H0, ρ, g, S, E, q⟩ => by
  obtain ⟨d, S', e1, k⟩ := Res.post_ex q
  obtain ⟨d1, S1, e2, e1⟩ := Res.then_ex e1
  refine ⟨g0, H0, ρ, g, S, E, ?_⟩
  rw [e2]
  intro v g1 H1 G1 s1 r1
  cases d1 with
  | obj c fs =>
    have e1' : (if c ∈ cs then optR (fs.lookup f) S1 else .bad) = Res.ok d S' := e1
    split at e1'
    · rename_i hc
      obtain ⟨e3, eS⟩ := optR_ex e1'
      subst eS
      cases r1 with
      | obj hm h1 h2 rf =>
        obtain ⟨hcl, hna⟩ := hA c hc _ hm
        obtain ⟨v, hv, rv⟩ := rf.look e3
        exact ⟨_, _, _, _, v, rfl, G1.sub _ _ h1, hcl, hna, hv, k v g1 H1 G1 s1 rv⟩
    · cases e1'
  | _ => cases e1
end

/-! ### dicts that change (the pen) -/
def valK {κ : Type} [DecidableEq κ] (kds : List (κ × D)) (k : κ) : Option D := (kds.find? fun kv => decide (kv.1 = k)).map (·.2)
def putKD {κ : Type} [DecidableEq κ] (kds : List (κ × D)) (k : κ) (d : D) : List (κ × D) :=
  if (kds.any fun kv => decide (kv.1 = k)) = true then kds.map (fun kv => if kv.1 = k then (kv.1, d) else kv) else kds ++ [(k, d)]
def keyD : D → Option Key
  | .int i => some (.inl i)
  | .str x => some (.inr x)
  | _ => none
section
variable {K : PySem.W.Frag} {mg : Str → Option Value} {g : Gh}
theorem KReps.val {κ : Type} [DecidableEq κ] : ∀ {vs : List (κ × V)} {ds : List (κ × D)} {k : κ} {d : D}, KReps K mg g vs ds → valK ds k = some d → ∃ v, valV vs k = some v ∧ Rep K mg g v d
  | _, _, _, _, .nil, h => by cases h
  | _, _, k, d, .cons (k := k') (v := v') (vs := vs) (ds := ds) (d := d') r q, h => by
    unfold valK at h
    unfold valV
    simp only [List.find?_cons] at h ⊢
    by_cases e : k' = k
    · simp only [decide_eq_true e, Option.map_some, Option.some.injEq] at h ⊢
      subst h
      exact ⟨_, rfl, r⟩
    · simp only [decide_eq_false e] at h ⊢
      exact KReps.val (ds := ds) q h
theorem KReps.any {κ : Type} [DecidableEq κ] : ∀ {vs : List (κ × V)} {ds : List (κ × D)} {k : κ}, KReps K mg g vs ds → (vs.any fun kv => decide (kv.1 = k)) = ds.any fun kv => decide (kv.1 = k)
  | _, _, _, .nil => rfl
  | _, _, _, .cons r q => by
    rw [List.any_cons, List.any_cons, KReps.any q]
theorem KReps.len {κ : Type} : ∀ {vs : List (κ × V)} {ds : List (κ × D)}, KReps K mg g vs ds → vs.length = ds.length
  | _, _, .nil => rfl
  | _, _, .cons r q => congrArg (· + 1) (KReps.len q)
theorem KReps.map {κ : Type} [DecidableEq κ] {k : κ} {v : V} {d : D} (r : Rep K mg g v d) : ∀ {vs : List (κ × V)} {ds : List (κ × D)}, KReps K mg g vs ds → KReps K mg g (vs.map fun kv => if kv.1 = k then (kv.1, v) else kv) (ds.map fun kv => if kv.1 = k then (kv.1, d) else kv)
  | _, _, .nil => .nil
  | _, _, .cons (k := k') r' q => by
    rw [List.map_cons, List.map_cons]
    by_cases e : k' = k
    · simp only [if_pos e]
      exact .cons r (KReps.map r q)
    · simp only [if_neg e]
      exact .cons r' (KReps.map r q)
theorem KReps.app {κ : Type} [DecidableEq κ] {k : κ} {v : V} {d : D} (r : Rep K mg g v d) : ∀ {vs : List (κ × V)} {ds : List (κ × D)}, KReps K mg g vs ds → KReps K mg g (vs ++ [(k, v)]) (ds ++ [(k, d)])
  | _, _, .nil => .cons r .nil
  | _, _, .cons r' q => .cons r' (KReps.app r q)
theorem KReps.put {κ : Type} [DecidableEq κ] {k : κ} {v : V} {d : D} {vs : List (κ × V)} {ds : List (κ × D)} (r : Rep K mg g v d) (q : KReps K mg g vs ds) : KReps K mg g (putK vs k v) (putKD ds k d) := by
  unfold putK putKD
  rw [KReps.any q]
  split
  · exact q.map r
  · exact q.app r
end
def keysL : List D → Option (List Key)
  | [] => some []
  | d :: ds => (match keyD d, keysL ds with
    | some k, some ks => some (k :: ks)
    | _, _ => none)
def keysD : D → Option (List Key)
  | .tup ds => keysL ds
  | _ => none
/-- what a changing object holds at a key -/
def getM : MO → D → Option D
  | .k kds, k => (keyD k).bind (valK kds)
  | .t _ kds, k => (keysD k).bind (valK kds)
def okM : MO → D → Bool
  | .k _, k => (keyD k).isSome
  | .t _ _, k => (keysD k).isSome
def getO (S : Sto) : D → D → Option D
  | .mref i, k => S[i]?.bind fun m => getM m k
  | _, _ => none
def sGet (so sk : SE) : SE := fun ρ S => (so ρ S).then fun o S1 => (sk ρ S1).then fun k S2 => optR (getO S2 o k) S2
theorem rep_key {K : PySem.W.Frag} {mg : Str → Option Value} {g : Gh} {v : V} {d : D} {k : Key} (r : Rep K mg g v d) (e : keyD d = some k) : v = kV k := by
  cases r with
  | int i => cases e; rfl
  | str x => cases e; rfl
  | _ => cases e
theorem reps_keys {K : PySem.W.Frag} {mg : Str → Option Value} {g : Gh} : ∀ {vs : List V} {ds : List D} {ks : List Key}, Reps K mg g vs ds → keysL ds = some ks → vs = ks.map kV
  | _, _, _, .nil, e => by cases e; rfl
  | _, _, ks, .cons (d := d) (ds := ds) r rs, e => by
    have e' : (match keyD d, keysL ds with
      | some k, some ks => some (k :: ks)
      | _, _ => none) = some ks := e
    cases q1 : keyD d with
    | none => rw [q1] at e'; cases e'
    | some k =>
      cases q2 : keysL ds with
      | none => rw [q1, q2] at e'; cases e'
      | some ks' =>
        rw [q1, q2] at e'
        cases e'
        rw [rep_key r q1, reps_keys rs q2]
        rfl
theorem rep_keys {K : PySem.W.Frag} {mg : Str → Option Value} {g : Gh} {v : V} {d : D} {ks : List Key} (r : Rep K mg g v d) (e : keysD d = some ks) : ∃ b, v = .ref b ∧ g.F b = some (.tup (ks.map kV)) := by
  cases r with
  | tup h rs =>
    refine ⟨_, rfl, ?_⟩
    rw [h, reps_keys rs e]
  | _ => cases e
/-- the kit's reading of a key, there or not -/
theorem dget_of {K : PySem.W.Frag} {mg : Str → Option Value} {g : Gh} {H : Hp} {S : Sto} (G : GOk K mg g H S) {j : Nat} {a : Addr} (ha : g.as[j]? = some a) {m : MO} (hm : S[j]? = some m) {v : V} {k : D} (r : Rep K mg g v k) (hk : okM m k = true) : ∃ o, DGet H a v o ∧ (match getM m k, o with
      | some d, some u => Rep K mg g u d
      | none, none => True
      | _, _ => False) := by
  obtain ⟨o, m', h1, h2, h3⟩ := G.st j a ha
  rw [hm] at h2
  cases h2
  have fin : ∀ {κ : Type} [DecidableEq κ] {vs : List (κ × V)} {ds : List (κ × D)} {k : κ}, KReps K mg g vs ds → (match valK ds k, valV vs k with
      | some d, some u => Rep K mg g u d
      | none, none => True
      | _, _ => False) := fun {κ} _ {vs ds k} r => by
    cases q : valK ds k with
    | some d =>
      obtain ⟨u, e, ru⟩ := r.val q
      rw [e]
      exact ru
    | none =>
      have : valV vs k = none := by
        have ha := r.any (k := k)
        unfold valK at q
        have q' := Option.map_eq_none_iff.mp q
        unfold valV
        rw [Option.map_eq_none_iff, List.find?_eq_none]
        rw [List.find?_eq_none] at q'
        have hd : (ds.any fun kv => decide (kv.1 = k)) = false := by
          rw [List.any_eq_false]
          exact fun x hx => q' x hx
        rw [hd, List.any_eq_false] at ha
        exact fun x hx => ha x hx
      rw [this]
      trivial
  cases h3 with
  | k r3 =>
    have hk' : (keyD k).isSome = true := hk
    cases q : keyD k with
    | none => rw [q] at hk'; cases hk'
    | some key =>
      rw [rep_key r q]
      refine ⟨_, DGet.k h1, ?_⟩
      show (match (keyD k).bind (valK _), _ with
        | some d, some u => Rep K mg g u d
        | none, none => True
        | _, _ => False)
      rw [q]
      exact fin r3
  | t r3 =>
    have hk' : (keysD k).isSome = true := hk
    cases q : keysD k with
    | none => rw [q] at hk'; cases hk'
    | some key =>
      obtain ⟨b, e, hb⟩ := rep_keys r q
      rw [e]
      refine ⟨_, .inr ⟨_, key, b, .inl h1, rfl, G.sub _ _ hb, rfl⟩, ?_⟩
      show (match (keysD k).bind (valK _), _ with
        | some d, some u => Rep K mg g u d
        | none, none => True
        | _, _ => False)
      rw [q]
      exact fin r3
  | l _ r3 =>
    have hk' : (keysD k).isSome = true := hk
    cases q : keysD k with
    | none => rw [q] at hk'; cases hk'
    | some key =>
      obtain ⟨b, e, hb⟩ := rep_keys r q
      rw [e]
      refine ⟨_, .inr ⟨_, key, b, .inr ⟨_, h1⟩, rfl, G.sub _ _ hb, rfl⟩, ?_⟩
      show (match (keysD k).bind (valK _), _ with
        | some d, some u => Rep K mg g u d
        | none, none => True
        | _, _ => False)
      rw [q]
      exact fin r3
theorem getM_key {m : MO} {k d : D} (h : getM m k = some d) : okM m k = true := by
  cases m with
  | k kds =>
    have h' : (keyD k).bind (valK kds) = some d := h
    show (keyD k).isSome = true
    cases q : keyD k with
    | none => rw [q] at h'; cases h'
    | some _ => rfl
  | t lk kds =>
    have h' : (keysD k).bind (valK kds) = some d := h
    show (keysD k).isSome = true
    cases q : keysD k with
    | none => rw [q] at h'; cases h'
    | some _ => rfl
section
variable {X : Cx} {own : List Nat} {o i e : Expr} {so sk sv se : SE} {pos pos' : Pos} {k : Nat}
theorem sim_get (hr : Room k X.A) (ho : SimE X own o so) (hi : SimE X own i sk) (hs : NoSl i := by exact fun _ _ => rfl) : SimE X own (.Subscript o i pos) (sGet so sk) := pe_weak (pe_dget (hu_of hr) ho hi hs) fun σ H Q ⟨g0, H0, ρ, g, S, E, q⟩ => by
  obtain ⟨d, S', e1, k⟩ := Res.post_ex q
  obtain ⟨od, S1, e2, e1⟩ := Res.then_ex e1
  obtain ⟨kd, S2, e3, e1⟩ := Res.then_ex e1
  refine ⟨g0, H0, ρ, g, S, E, ?_⟩
  rw [e2]
  intro v g1 H1 G1 s1 r1
  refine ⟨g0, H0, ρ, g1, S1, E.step G1 s1, ?_⟩
  rw [e3]
  intro v2 g2 H2 G2 s2 r2
  obtain ⟨e4, eS⟩ := optR_ex e1
  subst eS
  cases od with
  | mref j =>
    have e5 : S2[j]?.bind (fun m => getM m kd) = some d := e4
    cases q5 : S2[j]? with
    | none => rw [q5] at e5; cases e5
    | some m =>
      rw [q5] at e5
      have e6 : getM m kd = some d := e5
      cases r1.mono s2.le with
      | mref ha =>
        obtain ⟨o, hg, hv⟩ := dget_of G2 ha q5 r2 (getM_key e6)
        rw [e6] at hv
        cases o with
        | none => exact hv.elim
        | some u => exact ⟨_, u, rfl, hg, k u g2 H2 G2 (s1.trans s2) hv⟩
  | _ => cases e4
/-- a changing object is written -/
theorem GOk.put {K : PySem.W.Frag} {mg : Str → Option Value} {g : Gh} {H : Hp} {S : Sto} (G : GOk K mg g H S) {j : Nat} {a : Addr} (ha : g.as[j]? = some a) {o : HO} {m : MO} (hF : g.F a = none) (r : MOk K mg g a o m) : GOk K mg g (upd H a o) (S.set j m) := by
  have hj := (List.getElem?_eq_some_iff.mp ha).1
  refine ⟨fun b u e => ?_, G.nd, by rw [List.length_set, G.len], G.nf, fun i b e => ?_⟩
  · rw [upd_ne (fun z : b = a => by
      rw [z, hF] at e; cases e)]
    exact G.sub _ _ e
  · by_cases hb : i = j
    · subst hb
      rw [ha] at e; cases e
      exact ⟨o, m, upd_same, by rw [List.getElem?_set_self (by rw [G.len]; exact hj)], r⟩
    · obtain ⟨kv, kd, h1, h2, h3⟩ := G.st i b e
      refine ⟨kv, kd, ?_, by rw [List.getElem?_set_ne (Ne.symm hb)]; exact h2, h3⟩
      rw [upd_ne (fun z : b = a => hb (nd_ix G.nd e (z ▸ ha)))]
      exact h1
theorem stp_put {g : Gh} {H : Hp} {a : Addr} {o : HO} (ha : a ∈ g.as) : Stp g H g (upd H a o) := by
  refine ⟨.refl _, fun b u e n => by rw [upd_ne (fun z : b = a => n (z ▸ ha))]; exact e, fun b e => ?_, fun _ h => .inl h, fun _ h => .inl h⟩
  by_cases hb : b = a
  · subst hb; rw [upd_same]; exact fun z => nomatch z
  · rw [upd_ne hb]; exact e

/-! ### statements -/
inductive Out where
  | nx (ρ : DEnv) | rt (d : D) | bk (ρ : DEnv) | ct (ρ : DEnv)
abbrev SS := DEnv → M Out
def OutOk (X : Cx) (g0 : Gh) (H0 : Hp) (gE : Gh) (own' ob : List Nat) (D : Ends) (S : Sto) : Out → Prop
  | .nx ρ => ∀ σ g H, GLe gE g → EnvOk X.K X.mg g0 H0 own' ρ σ g H S → D.nx σ H
  | .rt d => ∀ v g H, GOk X.K X.mg g H S → Stp g0 H0 g H → Rep X.K X.mg g v d → D.rt v H
  | .bk ρ => ∀ σ g H, GLe gE g → EnvOk X.K X.mg g0 H0 ob ρ σ g H S → D.bk σ H
  | .ct ρ => ∀ σ g H, GLe gE g → EnvOk X.K X.mg g0 H0 ob ρ σ g H S → D.ct σ H
theorem OutOk.mono {X : Cx} {g0 gE gE' : Gh} {H0 : Hp} {own' ob : List Nat} {D : Ends} {S : Sto} {o : Out} (h : OutOk X g0 H0 gE own' ob D S o) (l : GLe gE gE') : OutOk X g0 H0 gE' own' ob D S o := by
  cases o with
  | nx ρ => exact fun σ g H l2 E => h σ g H (l.trans l2) E
  | rt d => exact h
  | bk ρ => exact fun σ g H l2 E => h σ g H (l.trans l2) E
  | ct ρ => exact fun σ g H l2 E => h σ g H (l.trans l2) E
def tS (X : Cx) (own own' ob : List Nat) (ss : SS) : TS := fun D σ H => ∃ g0 H0 ρ g S, EnvOk X.K X.mg g0 H0 own ρ σ g H S ∧ (ss ρ S).post fun o S' => OutOk X g0 H0 g own' ob D S' o
def SimS (X : Cx) (own own' ob : List Nat) (st : Stmt) (ss : SS) : Prop := PS X st (tS X own own' ob ss)
def SimB (X : Cx) (own own' ob : List Nat) (st : List Stmt) (ss : SS) : Prop := PSs X st (tS X own own' ob ss)
theorem ps_weak {st : Stmt} {t t' : TS} (h : PS X st t) (w : ∀ D σ H, t' D σ H → t D σ H) : PS X st t' := ⟨fun pins s σ H D I q => h.run pins s σ H D I (w D σ H q)⟩
theorem pss_weak {st : List Stmt} {t t' : TS} (h : PSs X st t) (w : ∀ D σ H, t' D σ H → t D σ H) : PSs X st t' := ⟨fun pins s σ H D I q => h.run pins s σ H D I (w D σ H q)⟩
def sNext : SS := fun ρ S => .ok (.nx ρ) S
def sSeq (s t : SS) : SS := fun ρ S => (s ρ S).then fun o S' => match o with
  | .nx ρ' => t ρ' S'
  | o => .ok o S'
def sBad : SS := fun _ _ => .bad
variable {own1 own' own2 ob : List Nat} {st : Stmt} {sts : List Stmt} {ss tt uu : SS}
theorem simb_nil : SimB X own own ob [] sNext := pss_weak pss_nil fun D σ H ⟨g0, H0, ρ, g, S, E, q⟩ => q σ g H (.refl _) E
theorem simb_cons (h : SimS X own own1 ob st ss) (h2 : SimB X own1 own' ob sts tt) : SimB X own own' ob (st :: sts) (sSeq ss tt) := pss_weak (pss_cons h h2) fun D σ H ⟨g0, H0, ρ, g, S, E, q⟩ => by
  obtain ⟨o, S', e1, k⟩ := Res.post_ex q
  obtain ⟨o1, S1, e2, e1⟩ := Res.then_ex e1
  refine ⟨g0, H0, ρ, g, S, E, ?_⟩
  rw [e2]
  cases o1 with
  | nx ρ1 =>
    intro σ1 g1 H1 l1 E1
    have e1' : tt ρ1 S1 = .ok o S' := e1
    exact ⟨g0, H0, ρ1, g1, S1, E1, by rw [e1']; exact k.mono l1⟩
  | rt d => cases e1; exact k
  | bk ρ => cases e1; exact k
  | ct ρ => cases e1; exact k
theorem simb_one (h : SimS X own own' ob st ss) : SimB X own own' ob [st] ss := pss_one h
theorem sim_never : SimS X own own' ob st sBad := ps_weak ps_never fun D σ H ⟨g0, H0, ρ, g, S, E, q⟩ => q
theorem simb_never : SimB X own own' ob sts sBad := pss_weak pss_never fun D σ H ⟨g0, H0, ρ, g, S, E, q⟩ => q
theorem sim_pass : SimS X own own ob (.Pass pos) sNext := ps_weak ps_pass fun D σ H ⟨g0, H0, ρ, g, S, E, q⟩ => q σ g H (.refl _) E
def sBreak : SS := fun ρ S => .ok (.bk ρ) S
def sCont : SS := fun ρ S => .ok (.ct ρ) S
theorem sim_break : SimS X own own' own (.Break pos) sBreak := ps_weak ps_break fun D σ H ⟨g0, H0, ρ, g, S, E, q⟩ => q σ g H (.refl _) E
theorem sim_continue : SimS X own own' own (.Continue pos) sCont := ps_weak ps_continue fun D σ H ⟨g0, H0, ρ, g, S, E, q⟩ => q σ g H (.refl _) E
def sRet (se : SE) : SS := fun ρ S => (se ρ S).then fun d S' => .ok (.rt d) S'
theorem sim_ret (h : SimE X own e se) : SimS X own own' ob (.Return (some e) pos) (sRet se) := ps_weak (ps_ret h) fun D σ H ⟨g0, H0, ρ, g, S, E, q⟩ => by
  obtain ⟨o, S', e1, k⟩ := Res.post_ex q
  obtain ⟨d, S1, e2, e1⟩ := Res.then_ex e1
  cases e1
  refine ⟨g0, H0, ρ, g, S, E, ?_⟩
  rw [e2]
  exact fun v g1 H1 G1 s1 r1 => k v g1 H1 G1 (E.stp.trans s1) r1
def sRetN : SS := fun _ S => .ok (.rt .non) S
theorem sim_retN : SimS X own own' ob (.Return none pos) sRetN := ps_weak ps_retN fun D σ H ⟨g0, H0, ρ, g, S, E, q⟩ => q _ g H E.gok E.stp .non
def sDrop (se : SE) : SS := fun ρ S => (se ρ S).then fun _ S' => .ok (.nx ρ) S'
theorem sim_expr (h : SimE X own e se) (hs : swapsWith e none pos.line X.env = pure false := by rfl) : SimS X own own ob (.Expr e pos) (sDrop se) := ps_weak (ps_expr h hs) fun D σ H ⟨g0, H0, ρ, g, S, E, q⟩ => by
  obtain ⟨o, S', e1, k⟩ := Res.post_ex q
  obtain ⟨d, S1, e2, e1⟩ := Res.then_ex e1
  cases e1
  refine ⟨g0, H0, ρ, g, S, E, ?_⟩
  rw [e2]
  exact fun v g1 H1 G1 s1 r1 => k σ g1 H1 s1.le (E.step G1 s1)
def sIfS (sb : SB) (s t : SS) : SS := fun ρ S => (sb ρ S).then fun b S' => if b then s ρ S' else t ρ S'
theorem sim_ifS {c : Expr} {sb : SB} {a b : List Stmt} (hc : SimT X own c sb) (ha : SimB X own own' ob a ss) (hb : SimB X own own' ob b tt) : SimS X own own' ob (.If c a b pos) (sIfS sb ss tt) := ps_weak (ps_if hc ha hb) fun D σ H ⟨g0, H0, ρ, g, S, E, q⟩ => by
  obtain ⟨o, S', e1, k⟩ := Res.post_ex q
  obtain ⟨b, S1, e2, e1⟩ := Res.then_ex e1
  refine ⟨g0, H0, ρ, g, S, E, ?_⟩
  rw [e2]
  intro g1 H1 G1 s1
  cases b with
  | true =>
    rw [if_pos rfl]
    have e1' : ss ρ S1 = .ok o S' := e1
    exact ⟨g0, H0, ρ, g1, S1, E.step G1 s1, by rw [e1']; exact k.mono s1.le⟩
  | false =>
    rw [if_neg Bool.false_ne_true]
    have e1' : tt ρ S1 = .ok o S' := e1
    exact ⟨g0, H0, ρ, g1, S1, E.step G1 s1, by rw [e1']; exact k.mono s1.le⟩
end

/-! ### what is owned, given up -/
section
variable {K : PySem.W.Frag} {mg : Str → Option Value} {g0 g : Gh} {H0 H : Hp} {S : Sto} {own own' : List Nat} {ρ : DEnv} {σ : L2.St}
theorem EnvOk.congr (E : EnvOk K mg g0 H0 own ρ σ g H S) (h : ∀ i, i ∈ own' ↔ i ∈ own) : EnvOk K mg g0 H0 own' ρ σ g H S :=
  ⟨E.gok, E.stp, E.len, fun i d e n => E.fro i d e fun z => n ((h i).mpr z), fun i hi => E.ow i ((h i).mp hi), fun i hi j hj => E.dis i ((h i).mp hi) j ((h j).mp hj)⟩
theorem own_apart {p q : Addr} {d d' : D} (hp : Owned K mg g H H0 p d) (hq : Owned K mg g H H0 q d') (ne : q ≠ p) {o : HO} (ho : H p = some o) : Owned K mg (g.add p o) H H0 q d' := by
  obtain ⟨a1, a2, a3, a4⟩ := hp
  obtain ⟨b1, b2, b3, b4⟩ := hq
  have le := gle_add (g := g) (p := p) (o := o) a1
  refine ⟨by show upd g.F p o q = none; rw [upd_ne ne]; exact b1, b2, b3, ?_⟩
  rcases b4 with ⟨vs, ds, e, h, r⟩ | ⟨C, dx, c, fvs, fs, e, hm, h, hd, f1, f2, f3, r⟩
  · exact .inl ⟨vs, ds, e, h, r.mono le⟩
  · refine .inr ⟨C, dx, c, fvs, fs, e, hm, h, hd, ?_, f2, f3, r.mono le⟩
    show upd g.F p o dx = none
    by_cases z : dx = p
    · subst z
      -- the instance's dict is no list and no instance
      rcases a4 with ⟨vs, ds, _, h', _⟩ | ⟨_, _, _, _, _, _, _, h', _⟩
      · rw [hd] at h'; cases h'
      · rw [hd] at h'; cases h'
    · rw [upd_ne z]; exact f1
theorem EnvOk.drop (E : EnvOk K mg g0 H0 own ρ σ g H S) (i : Nat) : ∃ g', GLe g g' ∧ EnvOk K mg g0 H0 (own.filter fun j => decide (j ≠ i)) ρ σ g' H S := by
  by_cases hi : i ∈ own
  · obtain ⟨p, d, h1, h2, hO⟩ := E.ow i hi
    have hO' := hO
    obtain ⟨a1, a2, a3, a4⟩ := hO
    have out : ∀ j, j ∉ (own.filter fun j => decide (j ≠ i)) → j = i ∨ j ∉ own := fun j hj => by
      by_cases e : j = i
      · exact .inl e
      · exact .inr fun z => hj (List.mem_filter.mpr ⟨z, decide_eq_true e⟩)
    rcases a4 with ⟨vs, ds, e, h, r⟩ | ⟨C, dx, c, fvs, fs, e, hm, h, hd, f1, f2, f3, r⟩
    · have le := gle_add (g := g) (p := p) (o := .lst vs) a1
      refine ⟨g.add p (.lst vs), le, E.gok.freeze h a1 a2, ⟨E.stp.le.trans le, E.stp.keep, E.stp.there, fun a ha => ?_, E.stp.newA⟩, E.len, fun j d' hj n => ?_, fun j hj => ?_, fun j hj k hk => E.dis j (List.mem_filter.mp hj).1 k (List.mem_filter.mp hk).1⟩
      · by_cases e : a = p
        · subst e; exact .inr (.inl a3)
        · have ha' : upd g.F p (.lst vs) a ≠ none := ha
          rw [upd_ne e] at ha'
          exact E.stp.newF a ha'
      · rcases out j n with rfl | n'
        · rw [h1] at hj; cases hj
          subst e
          exact ⟨_, h2, .lst (by exact upd_same) (r.mono le)⟩
        · obtain ⟨v, q1, q2⟩ := E.fro j d' hj n'
          exact ⟨v, q1, q2.mono le⟩
      · obtain ⟨hj1, hj2⟩ := List.mem_filter.mp hj
        obtain ⟨q, d', q1, q2, q3⟩ := E.ow j hj1
        have ne : q ≠ p := fun z => E.dis j hj1 i hi (of_decide_eq_true hj2) (by rw [q2, h2, z])
        exact ⟨q, d', q1, q2, own_apart hO' q3 ne h⟩
    · have le1 := gle_add (g := g) (p := p) (o := .ins C dx fvs) a1
      have npd : dx ≠ p := fun z => by rw [z, h] at hd; cases hd
      have f1' : (g.add p (.ins C dx fvs)).F dx = none := by
        show upd g.F p _ dx = none
        rw [upd_ne npd]; exact f1
      have le2 := gle_add (g := g.add p (.ins C dx fvs)) (p := dx) (o := .own p) f1'
      have le := le1.trans le2
      refine ⟨(g.add p (.ins C dx fvs)).add dx (.own p), le, (E.gok.freeze h a1 a2).freeze hd f1' f2, ⟨E.stp.le.trans le, E.stp.keep, E.stp.there, fun a ha => ?_, E.stp.newA⟩, E.len, fun j d' hj n => ?_, fun j hj => ?_, fun j hj k hk => E.dis j (List.mem_filter.mp hj).1 k (List.mem_filter.mp hk).1⟩
      · have ha' : upd (upd g.F p (.ins C dx fvs)) dx (.own p) a ≠ none := ha
        by_cases e2 : a = dx
        · subst e2; exact .inr (.inl f3)
        · rw [upd_ne e2] at ha'
          by_cases e : a = p
          · subst e; exact .inr (.inl a3)
          · rw [upd_ne e] at ha'
            exact E.stp.newF a ha'
      · rcases out j n with rfl | n'
        · rw [h1] at hj; cases hj
          rw [e.2]
          refine ⟨_, h2, .obj hm (?_ : upd (upd g.F p (.ins C dx fvs)) dx (.own p) p = _) (by exact upd_same) (r.mono le)⟩
          rw [upd_ne (Ne.symm npd), upd_same]
        · obtain ⟨v, q1, q2⟩ := E.fro j d' hj n'
          exact ⟨v, q1, q2.mono le⟩
      · obtain ⟨hj1, hj2⟩ := List.mem_filter.mp hj
        obtain ⟨q, d', q1, q2, q3⟩ := E.ow j hj1
        have ne : q ≠ p := fun z => E.dis j hj1 i hi (of_decide_eq_true hj2) (by rw [q2, h2, z])
        have o1 := own_apart hO' q3 ne h
        refine ⟨q, d', q1, q2, ?_⟩
        obtain ⟨b1, b2, b3, b4⟩ := o1
        have nq : q ≠ dx := fun z => by
          rcases b4 with ⟨vs, ds, _, h', _⟩ | ⟨_, _, _, _, _, _, _, h', _⟩
          · rw [z, hd] at h'; cases h'
          · rw [z, hd] at h'; cases h'
        refine ⟨?_, b2, b3, ?_⟩
        · show upd (g.add p (.ins C dx fvs)).F dx (.own p) q = none
          rw [upd_ne nq]; exact b1
        · rcases b4 with ⟨vs, ds, e, h', r'⟩ | ⟨C', dy, c', fvs', fs', e, hm', h', hd', f1'', f2', f3', r'⟩
          · exact .inl ⟨vs, ds, e, h', r'.mono le2⟩
          · refine .inr ⟨C', dy, c', fvs', fs', e, hm', h', hd', ?_, f2', f3', r'.mono le2⟩
            show upd (g.add p (.ins C dx fvs)).F dx (.own p) dy = none
            rw [upd_ne (fun z : dy = dx => by
              rw [z, hd] at hd'
              cases hd'
              exact ne rfl)]
            exact f1''
  · refine ⟨g, .refl _, E.congr fun j => ?_⟩
    rw [List.mem_filter]
    exact ⟨fun h => h.1, fun h => ⟨h, decide_eq_true fun z => hi (z ▸ h)⟩⟩
theorem EnvOk.drops (l : List Nat) : ∀ {g : Gh} {own : List Nat}, EnvOk K mg g0 H0 own ρ σ g H S → ∃ g', GLe g g' ∧ EnvOk K mg g0 H0 (own.filter fun j => decide (j ∉ l)) ρ σ g' H S := by
  induction l with
  | nil => exact fun {g own} E => ⟨g, .refl _, E.congr fun j => by simp⟩
  | cons i l ih =>
    intro g own E
    obtain ⟨g1, l1, E1⟩ := E.drop i
    obtain ⟨g2, l2, E2⟩ := ih E1
    refine ⟨g2, l1.trans l2, E2.congr fun j => ?_⟩
    simp only [List.mem_filter, decide_eq_true_eq, List.mem_cons, not_or]
    exact ⟨fun ⟨a, b, c⟩ => ⟨⟨a, b⟩, c⟩, fun ⟨⟨a, b⟩, c⟩ => ⟨a, b, c⟩⟩
theorem EnvOk.sub (E : EnvOk K mg g0 H0 own ρ σ g H S) (h : ∀ i ∈ own', i ∈ own) : ∃ g', GLe g g' ∧ EnvOk K mg g0 H0 own' ρ σ g' H S := by
  obtain ⟨g', l', E'⟩ := E.drops (own.filter fun j => decide (j ∉ own'))
  refine ⟨g', l', E'.congr fun j => ?_⟩
  simp only [List.mem_filter, decide_eq_true_eq]
  constructor
  · exact fun z => ⟨h j z, fun q => q.2 z⟩
  · rintro ⟨a, b⟩
    by_cases z : j ∈ own'
    · exact z
    · exact absurd ⟨a, z⟩ b
end
section
variable {X : Cx} {own own1 own' own2 ob : List Nat} {st : Stmt} {sts : List Stmt} {ss : SS}
def subL (a b : List Nat) : Bool := a.all fun i => b.contains i
theorem subL_ok {a b : List Nat} (h : subL a b = true) : ∀ i ∈ a, i ∈ b := fun i hi => by
  have := List.all_eq_true.mp h i hi
  simpa using this
theorem simb_pre (h : SimB X own1 own' ob sts ss) (hs : subL own1 own = true := by rfl) : SimB X own own' ob sts ss := pss_weak h fun D σ H ⟨g0, H0, ρ, g, S, E, q⟩ => by
  obtain ⟨g', l', E'⟩ := E.sub (subL_ok hs)
  exact ⟨g0, H0, ρ, g', S, E', Res.post_mono q fun o S' k => k.mono l'⟩
theorem simb_post (h : SimB X own own1 ob sts ss) (hs : subL own' own1 = true := by rfl) : SimB X own own' ob sts ss := pss_weak h fun D σ H ⟨g0, H0, ρ, g, S, E, q⟩ => by
  refine ⟨g0, H0, ρ, g, S, E, Res.post_mono q fun o S' k => ?_⟩
  cases o with
  | nx ρ =>
    intro σ1 g1 H1 l1 E1
    obtain ⟨g', l', E'⟩ := E1.sub (subL_ok hs)
    exact k σ1 g' H1 (l1.trans l') E'
  | _ => exact k
theorem sim_pre (h : SimS X own1 own' ob st ss) (hs : subL own1 own = true := by rfl) : SimS X own own' ob st ss := ps_weak h fun D σ H ⟨g0, H0, ρ, g, S, E, q⟩ => by
  obtain ⟨g', l', E'⟩ := E.sub (subL_ok hs)
  exact ⟨g0, H0, ρ, g', S, E', Res.post_mono q fun o S' k => k.mono l'⟩
theorem sim_post (h : SimS X own own1 ob st ss) (hs : subL own' own1 = true := by rfl) : SimS X own own' ob st ss := ps_weak h fun D σ H ⟨g0, H0, ρ, g, S, E, q⟩ => by
  refine ⟨g0, H0, ρ, g, S, E, Res.post_mono q fun o S' k => ?_⟩
  cases o with
  | nx ρ =>
    intro σ1 g1 H1 l1 E1
    obtain ⟨g', l', E'⟩ := E1.sub (subL_ok hs)
    exact k σ1 g' H1 (l1.trans l') E'
  | _ => exact k
end
end Ev
namespace Ev
open PySem PySem.Spec PyProof.Rows L2
/-! ### enumerate of a tuple -/
theorem meets_enum1 {v : Value} {o : Obj} {H : Heap → Prop} (B : Begins v o H) :
    Meets (Builtin.«enumerate.__new__» ⟨[.type "enumerate", v], []⟩) (fun _ R s => H s.heap ∧
      R (.ok (.ret (.ref (s.heap.push o).objs.size))) { s with heap := (s.heap.push o).push { cls := .type "enumerate", data := .fields #[.none, .bool false, .ref s.heap.objs.size, rawInt 0, .none, .none] } }) :=
  .of_wp fun prog w A R s h => by
    obtain ⟨hp, g, d, tk, os⟩ := s; obtain ⟨h1, h⟩ := h
    have hsub := sub_enumerate
    have q1 : ∀ {A' : Around} {E : Value → Shared → Prop} {Q : Value → Shared → Prop}, Q (.ref hp.objs.size) ⟨hp.push o, g, d, tk, os⟩ → wpAny (model prog w) A' (pyIter v) Q E ⟨hp, g, d, tk, os⟩ :=
      fun q => B.iter prog w _ _ ⟨hp, g, d, tk, os⟩ _ h1 q
    wp_walk using q1
    refine wpAny_stack_any fun st => wpAny_pure ?_
    split
    · rename_i c _ _ _ _ _
      cases (c == Value.type "enumerate")
      · wp_walk using q1
        exact ⟨_, rfl, h⟩
      · wp_walk using q1
        exact ⟨_, rfl, h⟩
    · wp_walk using q1
      exact ⟨_, rfl, h⟩
theorem enum1_begins {prog : Program} {w : World} {A : Around} {E : Value → Shared → Prop} {s : Shared} {v : Value} {o : Obj} {H : Heap → Prop} {Q : Value → Shared → Prop} (B : Begins v o H) (h1 : H s.heap)
    (h : ∀ h', IsEnum h' (s.heap.objs.size + 1) s.heap.objs.size 0 .none → h'.get? s.heap.objs.size = some o → h'.objs.size = s.heap.objs.size + 2 →
      (∀ b o, s.heap.get? b = some o → h'.get? b = some o) → Q (.ref (s.heap.objs.size + 1)) { s with heap := h' }) :
    wpAny (model prog w) A (call (.type "enumerate") [v]) Q E s := by
  refine callType_new F.called_enumerate (by decide) (F.typeCall_enumerate_1 _) (F.newCall_enumerate_1 _) (fun obj => F.args_object_init_2 obj _) F.entry_enumerate_new
    (meets_enum1 B) ⟨h1, ?_⟩
  have hz : (s.heap.push o).objs.size = s.heap.objs.size + 1 := Heap.size_push ..
  show _ ∧ _
  rw [hz]
  have he : IsEnum ((s.heap.push o).push { cls := .type "enumerate", data := .fields #[.none, .bool false, .ref s.heap.objs.size, rawInt 0, .none, .none] }) (s.heap.objs.size + 1) s.heap.objs.size 0 .none := by
    have := Heap.get?_push_size (s.heap.push o) (o := { cls := .type "enumerate", data := .fields #[.none, .bool false, .ref s.heap.objs.size, rawInt 0, .none, .none] }) rfl
    rw [hz] at this; exact this
  refine ⟨⟨_, he, rfl⟩, h _ he (Heap.get?_push_of_some _ (Heap.get?_push_size _ B.free)) (by rw [Heap.size_push, hz]) fun b o x => Heap.get?_push_of_some _ (Heap.get?_push_of_some _ x)⟩
def IteT (K : PySem.W.Frag) (a : Addr) : It :=
  ⟨fun i H => ∃ (xs : List V) (x : V), SqT K H a xs ∧ xs[i]? = some x, fun i H v H' => ∃ T x, v = .ref T ∧ H T = none ∧ H' = upd H T (.tup [.int (i : Nat), x]) ∧ ∀ xs, SqT K H a xs → xs[i]? = some x, fun i H => ∃ xs : List V, SqT K H a xs ∧ xs.length ≤ i⟩
theorem turn_enumT {P : Program} {w : World} {K : PySem.W.Frag} {elts : List Expr} {kk : Nat} {tpos : Pos} (a e it : Addr) :
    Turn P w K (.Tuple elts kk tpos) (IteT K a) [e, it] e (fun i h => (∃ old, IsEnum h e it ((i : Nat) : Int) old) ∧ h.IsTupleIter it a i ∧ e ≠ it ∧ a ≠ it ∧ a ≠ e) where
  mem := by simp
  obj := fun i h st b hb => by
    obtain ⟨⟨old, he⟩, ⟨o, ho, hc, hd⟩, _⟩ := st
    have e' : b = e ∨ b = it := by simpa using hb
    rcases e' with z | z
    · rw [z]; exact ⟨_, he, fun v q => nomatch q⟩
    · rw [z]; exact ⟨o, ho, fun v q => by rw [hd] at q; cases q⟩
  keep := fun i h h' st k => let ⟨⟨old, he⟩, hi, hne⟩ := st; ⟨⟨old, k e (by simp) _ he⟩, hi.at fun o q => k it (by simp) o q, hne⟩
  item := by
    intro X hP hw hK hc i pins s σ H E I hf st hg
    subst hP hw hK
    obtain ⟨⟨old, he⟩, hit, hne, nai, nae⟩ := st
    obtain ⟨xs, x, hq, hx⟩ := hg
    obtain ⟨its, rv, p, hz⟩ := I.tuple hq
    obtain ⟨u, hu, ru⟩ := rv.get hx
    have hel : e < s.heap.objs.size := Heap.lt_size he
    have hil : it < s.heap.objs.size := by obtain ⟨_, q, _⟩ := hit; exact Heap.lt_size q
    have DT := Draws.tuple (prog := X.prog) (w := X.w) (A := X.A.in1) (I.ok.hd hc) it a nai its.toArray
    have hlt : i < its.toArray.size := by
      have := (List.getElem?_eq_some_iff.mp hu).1
      simpa using this
    have nef : e ∉ [it, a] := fun z => by
      have e' : e = it ∨ e = a := by simpa using z
      exact e'.elim hne (Ne.symm nae)
    refine wpAny_pyNext_enum_itemC DT he ⟨hit, p⟩ hlt hne nef fun u' h' tk hP ho hs' hT hsz hk => ?_
    have eu : u' = u := by
      have : its.toArray[i]? = some u := by simpa using hu
      rw [this] at hP
      exact (Option.some.inj hP).symm
    subst eu
    obtain ⟨hit', _⟩ := hs'
    refine ⟨_, rfl, wpAny_letOwnedTupleGo_enum (s := { s with heap := h', toks := tk + 1 }) ho fun h'' he' sb => ?_⟩
    have hT2 : h''.get? s.heap.objs.size = some { cls := .type "tuple", data := .seq #[.int i tk, u'] } := (sb.2 _ (Nat.ne_of_gt hel)).trans hT
    have new : ObjOk X.prog X.w (upd H s.heap.objs.size (.tup [.int (i : Nat), x])) h'' s.heap.objs.size (.tup [.int (i : Nat), x]) :=
      ⟨by show 2 ≤ sizeLine; decide, [.int i tk, u'], .cons ⟨_, rfl⟩ (.cons ru .nil), ⟨_, hT2, rfl, _, rfl⟩⟩
    have I1 : Inv X pins σ (upd H s.heap.objs.size (.tup [.int (i : Nat), x])) { s with heap := h'', toks := tk + 1 } :=
      I.turnedNew (ch := [e, it]) (fun b ob hb q => (sb.2 b (fun z => hb (by simp [z]))).trans (hk b ob (fun z => hb (by simp [z])) (fun z => hb (by simp [z])) q)) hf (Nat.le_refl _) new
    refine ⟨.ref s.heap.objs.size, _, I1, rfl, ⟨_, x, rfl, I.hok.fresh (Nat.le_refl _), rfl, fun ys hy => by rw [I.tuple_inj hy hq]; exact hx⟩, ⟨⟨u', ?_⟩, hit'.at fun o q => (sb.2 it (Ne.symm hne)).trans q, hne, nai, nae⟩, fun b hb => ?_⟩
    · have e1 : ((i + 1 : Nat) : Int) = (i : Int) + 1 := by omega
      rw [e1]; exact he'
    · have hb' : b < s.heap.objs.size := by
        have e' : b = e ∨ b = it := by simpa using hb
        rcases e' with z | z
        · rw [z]; exact hel
        · rw [z]; exact hil
      rw [upd_ne (Nat.ne_of_lt hb')]
      exact (hf b hb).1
  done := by
    intro X hP hw hK hc i pins s σ H E I hf st hg
    subst hP hw hK
    obtain ⟨⟨old, he⟩, hit, hne, nai, nae⟩ := st
    obtain ⟨xs, hq, hx⟩ := hg
    obtain ⟨its, rv, p, hz⟩ := I.tuple hq
    obtain ⟨f0, f1, f2, f3, f4, f5⟩ := hf it (by simp)
    have hl := rv.length
    have DT := Draws.tuple (prog := X.prog) (w := X.w) (A := X.A.in1) (I.ok.hd hc) it a nai its.toArray
    have D2 : Draws X.prog X.w X.A.in1 it [it, a] i (fun _ _ => False) (fun j h => j = i ∧ h.IsTupleIter it a j ∧ h.IsTuple a its.toArray) := {
      live := fun _ _ st => let ⟨o, ho, _⟩ := st.2.1; ⟨o, ho⟩
      frame := fun _ _ _ st hk => ⟨st.1, st.2.1.at fun o e => hk it (by simp) o e, st.2.2.at fun o e => hk a (by simp) o e⟩
      item := fun j s Q E hj st _ => absurd hj (by rw [st.1]; exact Nat.lt_irrefl _)
      done := fun s Q E st hE => wpAny_nextOf_tuple_end (I.ok.hd hc) st.2.1 st.2.2 (by simp; omega) hE }
    exact wpAny_pyNext_enum_endD D2 he ⟨rfl, hit, p⟩ fun h' eb => ⟨rfl, I.turned (t' := s.toks) (fun b o hb q => eb b o hb q) f0 f1 f3 f4 f5⟩
  self := fun A i s Q E st h => let ⟨⟨_, he⟩, _⟩ := st; wpAny_pyIter_enum he h
def iEnumT (K : PySem.W.Frag) (ta : TA) : TI := fun σ H R => ta σ H fun vs H1 => ∃ a xs, vs = [.ref a] ∧ ((SqT K H1 a xs ∧ R (IteT K a) H1) ∨ (SqL K H1 a xs ∧ R (Ite K a) H1))
theorem pi_enumT {X : Cx} {e : Expr} {ta : TA} {p pos tpos : Pos} {elts : List Expr} {kk : Nat} (hg : Gl X "enumerate") (hm : X.mg "enumerate" = none) (ha : PA X [e] ta) (hs : starEach [e] X.env = [(false, eval e X.env)] := by rfl) :
    PI X (.Tuple elts kk tpos) (.Call (.Name "enumerate" p) [e] [] pos) (iEnumT X.K ta) := by
  refine ⟨fun pins s σ H R I h => ?_⟩
  refine Call_ (ld_blt I hg hm boot_enumerate (PyProof.Rows.callWith_type1 (thn (ha.run pos pins s σ H _ I h) fun us s1 ⟨vs, H1, I1, r1, q1⟩ => ?_) hs rfl))
  obtain ⟨a, xs, ex, q⟩ := q1
  subst ex
  cases r1 with
  | cons r rr =>
    cases rr
    cases r
    rcases q with ⟨hq, q⟩ | ⟨hq, q⟩
    · obtain ⟨its, rv, p', hz⟩ := I1.tuple hq
      have lt : a < s1.heap.objs.size := p'.lt
      refine enum1_begins (begins_tuple a its.toArray) p' fun h' he hit hsz hk => wpAny_pyIter_enum he ?_
      have I2 : Inv X pins σ H1 { s1 with heap := h' } := I1.kept (t' := s1.toks) hk
      refine ⟨s1.heap.objs.size + 1, [s1.heap.objs.size + 1, s1.heap.objs.size], _, _, H1, rfl, I2, turn_enumT a (s1.heap.objs.size + 1) s1.heap.objs.size, ⟨⟨.none, he⟩, ⟨_, hit, rfl, rfl⟩, Nat.succ_ne_self _, Nat.ne_of_lt lt, Nat.ne_of_lt (Nat.lt_succ_of_lt lt)⟩, fun b hb => ?_, q⟩
      have e' : b = s1.heap.objs.size + 1 ∨ b = s1.heap.objs.size := by simpa using hb
      have hle : s1.heap.objs.size ≤ b := by
        rcases e' with z | z
        · rw [z]; exact Nat.le_succ _
        · rw [z]; exact Nat.le_refl _
      exact I1.fpOk hle (I1.hok.fresh hle)
    · obtain ⟨its, rv, p', hz⟩ := I1.list hq
      refine call_enumerate_list p'.isList fun h' he hit hsz hk => wpAny_pyIter_enum he ?_
      have I2 : Inv X pins σ H1 { s1 with heap := h' } := I1.kept (t' := s1.toks) hk
      refine ⟨s1.heap.objs.size + 1, [s1.heap.objs.size + 1, s1.heap.objs.size], _, _, H1, rfl, I2, turn_enum a (s1.heap.objs.size + 1) s1.heap.objs.size, ⟨⟨.none, he⟩, hit, Nat.succ_ne_self _⟩, fun b hb => ?_, q⟩
      have e' : b = s1.heap.objs.size + 1 ∨ b = s1.heap.objs.size := by simpa using hb
      have hle : s1.heap.objs.size ≤ b := by
        rcases e' with z | z
        · rw [z]; exact Nat.le_succ _
        · rw [z]; exact Nat.le_refl _
      exact I1.fpOk hle (I1.hok.fresh hle)
end Ev
namespace Ev
open PySem PySem.Spec PyProof.Rows L2
/-! ### stores -/
def er (own : List Nat) (i : Nat) : List Nat := own.filter fun j => decide (j ≠ i)
theorem mem_er {own : List Nat} {i j : Nat} : j ∈ er own i ↔ j ∈ own ∧ j ≠ i := by
  unfold er
  rw [List.mem_filter, decide_eq_true_eq]
section
variable {K : PySem.W.Frag} {mg : Str → Option Value} {g0 g g' : Gh} {H0 H H' : Hp} {S S' : Sto} {own own' : List Nat} {ρ : DEnv} {σ : L2.St}
/-- a slot is stored: a value for good -/
theorem EnvOk.set (E : EnvOk K mg g0 H0 own ρ σ g H S) {i : Nat} {v : V} {d : D} (r : Rep K mg g v d) : EnvOk K mg g0 H0 (er own i) (ρ.set i (some d)) (σ.set i (some v)) g H S where
  gok := E.gok
  stp := E.stp
  len := by rw [List.length_set, List.length_set, E.len]
  fro := fun j d' hj n => by
    by_cases e : i = j
    · subst e
      have hi : i < ρ.length := by
        have := (List.getElem?_eq_some_iff.mp hj).1
        simpa using this
      rw [List.getElem?_set_self hi] at hj
      cases hj
      exact ⟨v, by rw [List.getElem?_set_self (by rw [← E.len]; exact hi)], r⟩
    · rw [List.getElem?_set_ne e] at hj
      obtain ⟨w, q1, q2⟩ := E.fro j d' hj fun z => n (mem_er.mpr ⟨z, Ne.symm e⟩)
      exact ⟨w, by rw [List.getElem?_set_ne e]; exact q1, q2⟩
  ow := fun j hj => by
    obtain ⟨hj1, hj2⟩ := mem_er.mp hj
    obtain ⟨p, d', h1, h2, h3⟩ := E.ow j hj1
    exact ⟨p, d', by rw [List.getElem?_set_ne (Ne.symm hj2)]; exact h1, by rw [List.getElem?_set_ne (Ne.symm hj2)]; exact h2, h3⟩
  dis := fun j hj k hk ne => by
    obtain ⟨hj1, hj2⟩ := mem_er.mp hj
    obtain ⟨hk1, hk2⟩ := mem_er.mp hk
    rw [List.getElem?_set_ne (Ne.symm hj2), List.getElem?_set_ne (Ne.symm hk2)]
    exact E.dis j hj1 k hk1 ne
/-- a slot takes a new list, owned from now on -/
theorem EnvOk.setF (E : EnvOk K mg g0 H0 own ρ σ g H S) {i : Nat} {p : Addr} {vs : List V} {ds : List D} (hi : i < ρ.length) (h : H p = some (.lst vs)) (h1 : g.F p = none) (h2 : p ∉ g.as) (h3 : H0 p = none) (r : Reps K mg g vs ds)
    (hne : ∀ j ∈ own, σ[j]? ≠ some (some (.ref p))) : EnvOk K mg g0 H0 (i :: er own i) (ρ.set i (some (.lst ds))) (σ.set i (some (.ref p))) g H S where
  gok := E.gok
  stp := E.stp
  len := by rw [List.length_set, List.length_set, E.len]
  fro := fun j d' hj n => by
    have e : i ≠ j := fun z => n (by rw [z]; exact List.mem_cons_self)
    rw [List.getElem?_set_ne e] at hj
    obtain ⟨w, q1, q2⟩ := E.fro j d' hj fun z => n (List.mem_cons_of_mem _ (mem_er.mpr ⟨z, Ne.symm e⟩))
    exact ⟨w, by rw [List.getElem?_set_ne e]; exact q1, q2⟩
  ow := fun j hj => by
    by_cases e : i = j
    · subst e
      exact ⟨p, _, by rw [List.getElem?_set_self hi], by rw [List.getElem?_set_self (by rw [← E.len]; exact hi)], h1, h2, h3, .inl ⟨vs, ds, rfl, h, r⟩⟩
    · have hj' : j ∈ er own i := by
        rcases List.mem_cons.mp hj with z | z
        · exact absurd z.symm e
        · exact z
      obtain ⟨hj1, hj2⟩ := mem_er.mp hj'
      obtain ⟨q, d', q1, q2, q3⟩ := E.ow j hj1
      exact ⟨q, d', by rw [List.getElem?_set_ne e]; exact q1, by rw [List.getElem?_set_ne e]; exact q2, q3⟩
  dis := fun j hj k hk ne => by
    have get : ∀ l ∈ i :: er own i, l ≠ i → l ∈ own ∧ (σ.set i (some (.ref p)))[l]? = σ[l]? := fun l hl n => by
      rcases List.mem_cons.mp hl with z | z
      · exact absurd z n
      · exact ⟨(mem_er.mp z).1, by rw [List.getElem?_set_ne (Ne.symm n)]⟩
    have self : (σ.set i (some (.ref p)))[i]? = some (some (.ref p)) := by rw [List.getElem?_set_self (by rw [← E.len]; exact hi)]
    by_cases ej : j = i
    · have nk : k ≠ i := fun z => ne (ej.trans z.symm)
      obtain ⟨k1, k2⟩ := get k hk nk
      rw [ej, self, k2]
      exact fun z => hne k k1 z.symm
    · obtain ⟨j1, j2⟩ := get j hj ej
      by_cases ek : k = i
      · rw [ek, self, j2]
        exact hne j j1
      · obtain ⟨k1, k2⟩ := get k hk ek
        rw [j2, k2]
        exact E.dis j j1 k k1 ne
/-- what is new is none of the body's own -/
theorem EnvOk.other (E : EnvOk K mg g0 H0 own ρ σ g H S) {p : Addr} (hp : H p = none) : ∀ j ∈ own, σ[j]? ≠ some (some (.ref p)) := fun j hj e => by
  obtain ⟨q, d, _, h2, _, _, _, h⟩ := E.ow j hj
  rw [e] at h2
  cases h2
  rcases h with ⟨vs, ds, _, h, _⟩ | ⟨_, _, _, _, _, _, _, h, _⟩
  · rw [hp] at h; cases h
  · rw [hp] at h; cases h
theorem EnvOk.new0 (E : EnvOk K mg g0 H0 own ρ σ g H S) {p : Addr} (hp : H p = none) : H0 p = none := by
  cases q : H0 p with
  | none => rfl
  | some o => exact absurd hp (E.stp.there p (by rw [q]; exact fun z => nomatch z))
/-- a list of the body's own is changed in its place -/
theorem EnvOk.write (E : EnvOk K mg g0 H0 own ρ σ g H S) {i : Nat} (hi : i ∈ own) {ds es : List D} (h : ρ[i]? = some (some (.lst ds))) :
    ∃ p vs, σ[i]? = some (some (.ref p)) ∧ H p = some (.lst vs) ∧ Reps K mg g vs ds ∧ ∀ ws, Reps K mg g ws es → EnvOk K mg g0 H0 own (ρ.set i (some (.lst es))) σ g (upd H p (.lst ws)) S := by
  obtain ⟨p, d, h1, h2, a1, a2, a3, a4⟩ := E.ow i hi
  rw [h] at h1
  cases h1
  rcases a4 with ⟨vs, ds', e, hp, r⟩ | ⟨_, _, _, _, _, ⟨_, e⟩, _⟩
  · cases e
    refine ⟨p, vs, h2, hp, r, fun ws rw' => ?_⟩
    have hil : i < ρ.length := (List.getElem?_eq_some_iff.mp h).1
    have Fne : ∀ {b : Addr} {o : HO}, g.F b = some o → b ≠ p := fun {b o} e z => by rw [z, a1] at e; cases e
    refine ⟨⟨fun b o e => by rw [upd_ne (Fne e)]; exact E.gok.sub _ _ e, E.gok.nd, E.gok.len, E.gok.nf, fun j a ha => ?_⟩, ⟨E.stp.le, fun b o e n => ?_, fun b e => ?_, E.stp.newF, E.stp.newA⟩, by rw [List.length_set]; exact E.len, fun j d' hj n => ?_, fun j hj => ?_, E.dis⟩
    · obtain ⟨kvs, kds, q1, q2, q3⟩ := E.gok.st j a ha
      exact ⟨kvs, kds, by rw [upd_ne (fun z : a = p => a2 (z ▸ List.mem_of_getElem? ha))]; exact q1, q2, q3⟩
    · rw [upd_ne (fun z : b = p => by rw [z, a3] at e; cases e)]
      exact E.stp.keep b o e n
    · by_cases z : b = p
      · rw [z, upd_same]; exact fun z => nomatch z
      · rw [upd_ne z]; exact E.stp.there b e
    · have ne : i ≠ j := fun z => n (z ▸ hi)
      rw [List.getElem?_set_ne ne] at hj
      exact E.fro j d' hj n
    · by_cases e : i = j
      · subst e
        exact ⟨p, _, by rw [List.getElem?_set_self hil], h2, a1, a2, a3, .inl ⟨ws, es, rfl, upd_same, rw'⟩⟩
      · obtain ⟨q, d', q1, q2, b1, b2, b3, b4⟩ := E.ow j hj
        have nq : q ≠ p := fun z => E.dis i hi j hj e (by rw [h2, q2, z])
        refine ⟨q, d', by rw [List.getElem?_set_ne e]; exact q1, q2, b1, b2, b3, ?_⟩
        rcases b4 with ⟨vs', ds', e', h', r'⟩ | ⟨C', dy, c', fvs', fs', e', hm', h', hd', f1, f2, f3, r'⟩
        · exact .inl ⟨vs', ds', e', by rw [upd_ne nq]; exact h', r'⟩
        · exact .inr ⟨C', dy, c', fvs', fs', e', hm', by rw [upd_ne nq]; exact h', by rw [upd_ne (ne_of hd' hp (fun z => nomatch z))]; exact hd', f1, f2, f3, r'⟩
  · cases e
/-- a changing object is written -/
theorem EnvOk.put (E : EnvOk K mg g0 H0 own ρ σ g H S) {j : Nat} {a : Addr} (ha : g.as[j]? = some a) {o : HO} {m : MO} (hF : g.F a = none) (r : MOk K mg g a o m) : EnvOk K mg g0 H0 own ρ σ g (upd H a o) (S.set j m) :=
  E.step (E.gok.put ha hF r) (stp_put (List.mem_of_getElem? ha))
end
section
variable {X : Cx} {own own' own1 ob : List Nat} {e o idx : Expr} {se so sk sv : SE} {pos pos' pos2 : Pos} {i k : Nat} {x : Str}
def sSet (i : Nat) (se : SE) : SS := fun ρ S => (se ρ S).then fun d S' => .ok (.nx (ρ.set i (some d))) S'
theorem set_of {D : Ends} {σ : L2.St} {H : Hp} (h : tS X own (er own i) ob (sSet i se) D σ H) : tAsg (tE X own se) (gName i) D σ H := by
  obtain ⟨g0, H0, ρ, g, S, E, q⟩ := h
  obtain ⟨o, S', e1, k⟩ := Res.post_ex q
  obtain ⟨d, S1, e2, e1⟩ := Res.then_ex e1
  cases e1
  refine ⟨g0, H0, ρ, g, S, E, ?_⟩
  rw [e2]
  exact fun v g1 H1 G1 s1 r1 => k _ g1 H1 s1.le ((E.step G1 s1).set r1)
theorem setF_of (hi : i < X.N.length) {D : Ends} {σ : L2.St} {H : Hp} (hσ : σ.length = X.N.length) (hl : ∀ ρ S d S', se ρ S = .ok d S' → ∃ ds, d = .lst ds) (h : tS X own (i :: er own i) ob (sSet i se) D σ H) : tAsg (tF X own se) (gName i) D σ H := by
  obtain ⟨g0, H0, ρ, g, S, E, q⟩ := h
  obtain ⟨o, S', e1, k⟩ := Res.post_ex q
  obtain ⟨d, S1, e2, e1⟩ := Res.then_ex e1
  cases e1
  obtain ⟨ds, rfl⟩ := hl _ _ _ _ e2
  refine ⟨g0, H0, ρ, g, S, E, ?_⟩
  rw [e2]
  refine ⟨ds, rfl, fun p vs g1 H1 G1 s1 h1 h2 h3 h4 r => ?_⟩
  exact k _ g1 H1 s1.le ((E.step G1 s1).setF (by rw [E.len, hσ]; exact hi) h1 h2 h3 (E.new0 h4) r fun j hj => E.other h4 j hj)
/-- a statement's reading may lean on the frame's size -/
theorem ps_weakN {st : Stmt} {t t' : TS} (h : PS X st t) (w : ∀ D σ H, σ.length = X.N.length → t' D σ H → t D σ H) : PS X st t' := ⟨fun pins s σ H D I q => h.run pins s σ H D I (w D σ H I.len q)⟩
theorem sim_set (hN : X.N.Nodup) (hi : X.N[i]? = some x) (hx : Loc X.env.scope x) (he : SimE X own e se) (hs : swapsWith e (some (.Name x pos')) pos.line X.env = pure false := by rfl) (hf : X.fn x = true ∨ X.env.scope.names.lookup x = some .local := by first | exact .inl rfl | exact .inr rfl | assumption) :
    SimS X own (er own i) ob (.Assign [.Name x pos'] e pos) (sSet i se) := ps_weak (ps_set hN hi hx he hs hf) fun _ _ _ h => set_of h
theorem sim_setF (hN : X.N.Nodup) (hi : X.N[i]? = some x) (hx : Loc X.env.scope x) (he : SimF X own e se) (hl : ∀ ρ S d S', se ρ S = .ok d S' → ∃ ds, d = .lst ds) (hs : swapsWith e (some (.Name x pos')) pos.line X.env = pure false := by rfl) (hf : X.fn x = true ∨ X.env.scope.names.lookup x = some .local := by first | exact .inl rfl | exact .inr rfl | assumption) :
    SimS X own (i :: er own i) ob (.Assign [.Name x pos'] e pos) (sSet i se) := ps_weakN (ps_set hN hi hx he hs hf) fun _ _ _ hσ h => setF_of (List.getElem?_eq_some_iff.mp hi).1 hσ hl h

/-! ### expressions that change a list of the body's own -/
abbrev SM := DEnv → M (D × DEnv)
def tM (X : Cx) (own : List Nat) (sm : SM) : TE := fun σ H Q => ∃ g0 H0 ρ g S, EnvOk X.K X.mg g0 H0 own ρ σ g H S ∧ (sm ρ S).post fun dr S' => ∀ v g' H', GLe g g' → EnvOk X.K X.mg g0 H0 own dr.2 σ g' H' S' → Rep X.K X.mg g' v dr.1 → Q v H'
def SimM (X : Cx) (own : List Nat) (e : Expr) (sm : SM) : Prop := PE X e (tM X own sm)
def sPure (se : SE) : SM := fun ρ S => (se ρ S).then fun d S' => .ok (d, ρ) S'
theorem SimE.m (h : SimE X own e se) : SimM X own e (sPure se) := pe_weak h fun σ H Q ⟨g0, H0, ρ, g, S, E, q⟩ => by
  obtain ⟨o, S', e1, k⟩ := Res.post_ex q
  obtain ⟨d, S1, e2, e1⟩ := Res.then_ex e1
  cases e1
  refine ⟨g0, H0, ρ, g, S, E, ?_⟩
  rw [e2]
  exact fun v g1 H1 G1 s1 r1 => k v g1 H1 s1.le (E.step G1 s1) r1
/-- a method of a list: what it makes of the list and the arguments, and its value -/
def OpMt (X : Cx) (f : List D → List D → Option (List D × D)) (r : V → List V → Hp → VK → Prop) : Prop := ∀ (g : Gh) (H : Hp) (S : Sto) (p : Addr) (vs ws : List V) (xs ds es : List D) (d : D) (Q : VK), GOk X.K X.mg g H S → H p = some (.lst vs) → Reps X.K X.mg g vs xs → Reps X.K X.mg g ws ds → f xs ds = some (es, d) →
  (∀ vs' v, Reps X.K X.mg g vs' es → Rep X.K X.mg g v d → Q v (upd H p (.lst vs'))) → r (.ref p) ws H Q
def isLst : Option (Option D) → Bool
  | some (some (.lst _)) => true
  | _ => false
def mt1 (i : Nat) (f : List D → List D → Option (List D × D)) (sm : SM) : SM := fun ρ S => if isLst ρ[i]? then (sm ρ S).then fun dr S' => (match dr.2[i]? with
  | some (some (.lst xs)) => (match f xs [dr.1] with
    | some (ys, d) => .ok (d, dr.2.set i (some (.lst ys))) S'
    | none => .bad)
  | _ => .bad) else .bad
def mt0 (i : Nat) (f : List D → List D → Option (List D × D)) : SM := fun ρ S => match ρ[i]? with
  | some (some (.lst xs)) => (match f xs [] with
    | some (ys, d) => .ok (d, ρ.set i (some (.lst ys))) S
    | none => .bad)
  | _ => .bad
variable {m : Str} {apos : Pos} {sm : SM} {f : List D → List D → Option (List D × D)} {r : V → List V → Hp → VK → Prop}
theorem isLst_ex {o : Option (Option D)} (h : isLst o = true) : ∃ xs, o = some (some (.lst xs)) := by
  unfold isLst at h
  split at h
  · exact ⟨_, rfl⟩
  · cases h
theorem simm_1 {a : Expr} (hi : i ∈ own) (hpe : ∀ {ta : TE}, PE X a ta → PE X e (tBM X.K "list" r (tVar i) (tCons ta tNil))) (hf : OpMt X f r) (ha : SimM X own a sm) : SimM X own e (mt1 i f sm) :=
  pe_weak (hpe ha) fun σ H Q ⟨g0, H0, ρ, g, S, E, q⟩ => by
    obtain ⟨dr, S', e1, k⟩ := Res.post_ex q
    unfold mt1 at e1
    split at e1
    · rename_i hl
      obtain ⟨dr1, S1, e2, e1⟩ := Res.then_ex e1
      obtain ⟨xs0, h0⟩ := isLst_ex hl
      obtain ⟨p, vs0, hp1, hp2, _, _⟩ := E.write (es := []) hi h0
      refine ⟨_, hp1, .inl ⟨rfl, vs0, SqL.of hp2⟩, g0, H0, ρ, g, S, E, ?_⟩
      rw [e2]
      intro v g1 H1 l1 E1 r1
      split at e1
      · rename_i xs h1
        split at e1
        · rename_i ys d hfx
          cases e1
          obtain ⟨p', vs, hq1, hq2, rs, kw⟩ := E1.write (es := ys) hi h1
          rw [hp1] at hq1
          cases hq1
          refine hf g1 H1 _ p vs [v] xs [dr1.1] ys d _ E1.gok hq2 rs (.one r1) hfx fun vs' v' r' rv => ?_
          have E2 := kw vs' r'
          exact k v' g1 _ l1 E2 rv
        · cases e1
      · cases e1
    · cases e1
theorem simm_0 (hi : i ∈ own) (hpe : PE X e (tBM0 X.K "list" r (tVar i))) (hf : OpMt X f r) : SimM X own e (mt0 i f) :=
  pe_weak hpe fun σ H Q ⟨g0, H0, ρ, g, S, E, q⟩ => by
    obtain ⟨dr, S', e1, k⟩ := Res.post_ex q
    unfold mt0 at e1
    split at e1
    · rename_i xs h1
      split at e1
      · rename_i ys d hfx
        cases e1
        obtain ⟨p, vs, hp1, hp2, rs, kw⟩ := E.write (es := ys) hi h1
        refine ⟨_, hp1, .inl ⟨rfl, vs, SqL.of hp2⟩, ?_⟩
        refine hf g H S p vs [] xs [] ys d _ E.gok hp2 rs .nil hfx fun vs' v' r' rv => ?_
        exact k v' g _ (.refl _) (kw vs' r') rv
      · cases e1
    · cases e1
def sDropM (sm : SM) : SS := fun ρ S => (sm ρ S).then fun dr S' => .ok (.nx dr.2) S'
def sSetM (i : Nat) (sm : SM) : SS := fun ρ S => (sm ρ S).then fun dr S' => .ok (.nx (dr.2.set i (some dr.1))) S'
theorem sim_dropM (h : SimM X own e sm) (hs : swapsWith e none pos.line X.env = pure false := by rfl) : SimS X own own ob (.Expr e pos) (sDropM sm) := ps_weak (ps_expr h hs) fun D σ H ⟨g0, H0, ρ, g, S, E, q⟩ => by
  obtain ⟨o, S', e1, k⟩ := Res.post_ex q
  obtain ⟨d, S1, e2, e1⟩ := Res.then_ex e1
  cases e1
  refine ⟨g0, H0, ρ, g, S, E, ?_⟩
  rw [e2]
  exact fun v g1 H1 l1 E1 r1 => k σ g1 H1 l1 E1
theorem sim_setM (hN : X.N.Nodup) (hi : X.N[i]? = some x) (hx : Loc X.env.scope x) (he : SimM X own e sm) (hs : swapsWith e (some (.Name x pos')) pos.line X.env = pure false := by rfl) (hf : X.fn x = true ∨ X.env.scope.names.lookup x = some .local := by first | exact .inl rfl | exact .inr rfl | assumption) :
    SimS X own (er own i) ob (.Assign [.Name x pos'] e pos) (sSetM i sm) := ps_weak (ps_set hN hi hx he hs hf) fun D σ H ⟨g0, H0, ρ, g, S, E, q⟩ => by
  obtain ⟨o, S', e1, k⟩ := Res.post_ex q
  obtain ⟨d, S1, e2, e1⟩ := Res.then_ex e1
  cases e1
  refine ⟨g0, H0, ρ, g, S, E, ?_⟩
  rw [e2]
  exact fun v g1 H1 l1 E1 r1 => k _ g1 H1 l1 (E1.set r1)
def mAppend : List D → List D → Option (List D × D)
  | xs, [y] => if xs.length < sizeLine then some (xs ++ [y], .non) else none
  | _, _ => none
def mExtend : List D → List D → Option (List D × D)
  | xs, [.lst ys] => if xs.length + ys.length ≤ sizeLine then some (xs ++ ys, .non) else none
  | _, _ => none
@[irreducible] def pxOk (i : Int) : Bool := decide (0 ≤ i ∧ i.natAbs.log2 < 63)
theorem pxOk_ok {i : Int} (h : pxOk i = true) : 0 ≤ i ∧ i < 9223372036854775808 := by
  unfold pxOk at h
  have h := of_decide_eq_true h
  have h2 := lg_lt h.2
  have e : (2 : Nat) ^ 63 = 9223372036854775808 := by decide
  omega
theorem pxOk_of {i : Int} (h : 0 ≤ i) (h2 : i < 9223372036854775808) : pxOk i = true := by
  unfold pxOk
  have e : (2 : Nat) ^ 63 = 9223372036854775808 := by decide
  exact decide_eq_true ⟨h, lt_lg (by decide) (by omega)⟩
def mPop : List D → List D → Option (List D × D)
  | xs, [] => (xs[xs.length - 1]?).map fun y => (xs.dropLast, y)
  | xs, [.int i] => if pxOk i then (xs[i.toNat]?).map fun y => (xs.eraseIdx i.toNat, y) else none
  | _, _ => none
theorem opm_append : OpMt X mAppend rAppend := by
  intro g H S p vs ws xs ds es d Q G hp rs rw' e k
  unfold mAppend at e
  split at e
  · rename_i y
    split at e
    · rename_i hz
      cases e
      cases rw' with
      | cons r1 r2 =>
        cases r2
        exact ⟨p, vs, _, rfl, rfl, hp, by rw [rs.length]; exact hz, k _ _ (rs.append (.one r1)) .non⟩
    · cases e
  · cases e
theorem opm_extend : OpMt X mExtend rExtend := by
  intro g H S p vs ws xs ds es d Q G hp rs rw' e k
  unfold mExtend at e
  split at e
  · rename_i ys
    split at e
    · rename_i hz
      cases e
      cases rw' with
      | cons r1 r2 =>
        cases r2
        cases r1 with
        | lst h r =>
          exact ⟨p, _, vs, _, rfl, rfl, hp, G.sub _ _ h, by rw [rs.length, r.length]; exact hz, k _ _ (rs.append r) .non⟩
    · cases e
  · cases e
theorem opm_pop0 : OpMt X mPop rPop ∨ True := .inr trivial
theorem seq_nat {n j : Nat} (h : j < n) : seqIndex? (j : Int) n = some j := (ixN_seq (n := n) (i := (j : Int)) (j := j) (by
  unfold ixN
  rw [if_pos (by omega), if_pos (by omega)]
  simp)).1
theorem opm_pop : OpMt X mPop (fun x xs H Q => rPop x xs H Q ∨ rPopAt x xs H Q) := by
  intro g H S p vs ws xs ds es d Q G hp rs rw' e k
  unfold mPop at e
  split at e
  · cases rw'
    cases q : xs[xs.length - 1]? with
    | none => rw [q] at e; cases e
    | some y =>
      rw [q] at e
      cases e
      obtain ⟨v, hv, rv⟩ := rs.get q
      exact .inl ⟨p, vs, v, rfl, rfl, hp, by rw [rs.length]; exact hv, k _ _ rs.dropLast rv⟩
  · rename_i i
    split at e
    · rename_i hz
      replace hz := pxOk_ok hz
      cases q : xs[i.toNat]? with
      | none => rw [q] at e; cases e
      | some y =>
        rw [q] at e
        cases e
        cases rw' with
        | cons r1 r2 =>
          cases r2
          cases r1
          obtain ⟨v, hv, rv⟩ := rs.get q
          have hlt : i.toNat < vs.length := (List.getElem?_eq_some_iff.mp hv).1
          have e63 : (2 : Int) ^ 63 = 9223372036854775808 := by decide
          have ei : ((i.toNat : Nat) : Int) = i := Int.toNat_of_nonneg hz.1
          refine .inr ⟨p, vs, i, i.toNat, v, rfl, rfl, hp, by rw [e63]; omega, by rw [e63]; exact hz.2, ?_, hv, k _ _ (rs.eraseIdx _) rv⟩
          have := seq_nat hlt
          rw [ei] at this
          exact this
    · cases e
  · cases e
theorem mtr_pop : MtR X "list.pop" (fun x xs H Q => rPop x xs H Q ∨ rPopAt x xs H Q) := MtR.or mt_pop mt_popAt
/-! ### items stored -/
def sSetIx (i : Nat) (sk sv : SE) : SS := fun ρ S => (sv ρ S).then fun d S1 => (sk ρ S1).then fun k S2 => match ρ[i]?, k with
  | some (some (.lst xs)), .int k => (match ixN xs.length k with
    | some j => .ok (.nx (ρ.set i (some (.lst (xs.set j d))))) S2
    | none => .bad)
  | _, _ => .bad
theorem sim_setIx {tpos : Pos} {y : Str} (hi : i ∈ own) (hv : SimE X own e sv) (ho : PE X (.Name y pos2) (tVar i)) (hk : SimE X own idx sk)
    (hs : swapsWithSole [.Subscript (.Name y pos2) idx tpos] e pos.line X.env = pure false := by rfl) (hw : swappedStores [.Subscript (.Name y pos2) idx tpos] e X.env = pure none := by rfl)
    (h1 : (assignEach [.Subscript (.Name y pos2) idx tpos] X.env).map (·.2) = [assign (.Subscript (.Name y pos2) idx tpos) X.env] := by rfl)
    (ha : ∀ v, assign (.Subscript (.Name y pos2) idx tpos) X.env v = (do
      let ov ← holding [v] (eval (.Name y pos2) X.env)
      let iv ← holding [v, ov] (eval idx X.env)
      standAt tpos
      holding [v, ov, iv] (setItem ov iv v)
      release [v, ov, iv] []) := by intro _; rfl) :
    SimS X own own ob (.Assign [.Subscript (.Name y pos2) idx tpos] e pos) (sSetIx i sk sv) := ps_weak (ps_asg hv (pg_sub ho hk set_list ha) hs hw h1) fun D σ H ⟨g0, H0, ρ, g, S, E, q⟩ => by
  obtain ⟨o, S', e1, k⟩ := Res.post_ex q
  obtain ⟨d, S1, e2, e1⟩ := Res.then_ex e1
  obtain ⟨kd, S2, e3, e1⟩ := Res.then_ex e1
  refine ⟨g0, H0, ρ, g, S, E, ?_⟩
  rw [e2]
  intro v g1 H1 G1 s1 r1
  have E1 := E.step G1 s1
  split at e1
  · rename_i xs kk h0
    split at e1
    · rename_i j hj
      cases e1
      obtain ⟨p, vs, q1, _⟩ := E1.write (es := []) hi h0
      refine ⟨_, q1, g0, H0, ρ, g1, S1, E1, ?_⟩
      rw [e3]
      intro v2 g2 H2 G2 s2 r2
      cases r2
      have E2 := E1.step G2 s2
      obtain ⟨p', vs', q1', q2, rs, kw⟩ := E2.write (es := xs.set j d) hi h0
      rw [q1] at q1'
      cases q1'
      refine ⟨p, vs', kk, j, rfl, rfl, q2, by rw [rs.length]; exact hj, ?_⟩
      exact k _ g2 _ (s1.le.trans s2.le) (kw _ (rs.set (r1.mono s2.le) j))
    · cases e1
  · cases e1
def putM : MO → D → D → Option MO
  | .k kds, k, d => (keyD k).bind fun key => if kds.length < sizeLine then some (.k (putKD kds key d)) else none
  | .t false kds, k, d => (keysD k).bind fun key => if kds.length < sizeLine then some (.t false (putKD kds key d)) else none
  | .t true _, _, _ => none
def putO (S : Sto) : D → D → D → Option Sto
  | .mref j, k, d => (S[j]?.bind fun m => putM m k d).map (S.set j)
  | _, _, _ => none
def putR (ρ : DEnv) : Option Sto → Res Out
  | some S => .ok (.nx ρ) S
  | none => .bad
def sPut (so sk sv : SE) : SS := fun ρ S => (sv ρ S).then fun d S1 => (so ρ S1).then fun o S2 => (sk ρ S2).then fun k S3 => putR ρ (putO S3 o k d)
theorem dput_of {K : PySem.W.Frag} {mg : Str → Option Value} {g : Gh} {H : Hp} {S : Sto} (G : GOk K mg g H S) {j : Nat} {a : Addr} (ha : g.as[j]? = some a) {m m' : MO} (hm : S[j]? = some m) {v u : V} {k d : D} (r : Rep K mg g v k) (rd : Rep K mg g u d) (hp : putM m k d = some m') :
    ∃ o, DPut H a v u (upd H a o) ∧ g.F a = none ∧ MOk K mg g a o m' := by
  obtain ⟨o, m2, h1, h2, h3⟩ := G.st j a ha
  have hFa : (∀ ob u, o ≠ .frz ob u) → g.F a = none := fun hno => by
    rcases G.nf a (List.mem_of_getElem? ha) with z | ⟨ob, kvs, z⟩
    · exact z
    · have := G.sub _ _ z
      rw [h1] at this
      cases this
      exact absurd rfl (hno _ _)
  rw [hm] at h2
  cases h2
  cases h3 with
  | k r3 =>
    rename_i kvs kds
    have hp' : (keyD k).bind (fun key => if kds.length < sizeLine then some (MO.k (putKD kds key d)) else none) = some m' := hp
    cases q : keyD k with
    | none => rw [q] at hp'; cases hp'
    | some key =>
      rw [q] at hp'
      have hp'' : (if kds.length < sizeLine then some (MO.k (putKD kds key d)) else none) = some m' := hp'
      split at hp''
      · rename_i hz
        cases hp''
        rw [rep_key r q]
        exact ⟨_, DPut.k h1 (by rw [r3.len]; exact hz), hFa (fun _ _ z => nomatch z), .k (r3.put rd)⟩
      · cases hp''
  | t r3 =>
    rename_i kvs kds
    have hp' : (keysD k).bind (fun key => if kds.length < sizeLine then some (MO.t false (putKD kds key d)) else none) = some m' := hp
    cases q : keysD k with
    | none => rw [q] at hp'; cases hp'
    | some key =>
      rw [q] at hp'
      have hp'' : (if kds.length < sizeLine then some (MO.t false (putKD kds key d)) else none) = some m' := hp'
      split at hp''
      · rename_i hz
        cases hp''
        obtain ⟨b, e, hb⟩ := rep_keys r q
        rw [e]
        exact ⟨_, DPut.t h1 (G.sub _ _ hb) (by rw [r3.len]; exact hz), hFa (fun _ _ z => nomatch z), .t (r3.put rd)⟩
      · cases hp''
  | l _ r3 => cases (show (none : Option MO) = some m' from hp)
theorem sim_put (hr : Room k X.A) (ho : SimE X own o so) (hi : SimE X own idx sk) (hv : SimE X own e sv) (hs : swapsWith e (some (.Subscript o idx pos')) pos.line X.env = pure false := by rfl) : SimS X own own ob (.Assign [.Subscript o idx pos'] e pos) (sPut so sk sv) :=
  ps_weak (ps_dput (hu_of hr) ho hi hv hs) fun D σ H ⟨g0, H0, ρ, g, S, E, q⟩ => by
    obtain ⟨out, S', e1, k⟩ := Res.post_ex q
    obtain ⟨d, S1, e2, e1⟩ := Res.then_ex e1
    obtain ⟨od, S2, e3, e1⟩ := Res.then_ex e1
    obtain ⟨kd, S3, e4, e1⟩ := Res.then_ex e1
    refine ⟨g0, H0, ρ, g, S, E, ?_⟩
    rw [e2]
    intro v g1 H1 G1 s1 r1
    have E1 := E.step G1 s1
    refine ⟨g0, H0, ρ, g1, S1, E1, ?_⟩
    rw [e3]
    intro v2 g2 H2 G2 s2 r2
    have E2 := E1.step G2 s2
    refine ⟨g0, H0, ρ, g2, S2, E2, ?_⟩
    rw [e4]
    intro v3 g3 H3 G3 s3 r3
    have E3 := E2.step G3 s3
    cases q0 : putO S3 od kd d with
    | none => rw [q0] at e1; cases e1
    | some S4 =>
      rw [q0] at e1
      cases e1
      cases od with
      | mref j =>
        have q1 : (S3[j]?.bind fun m => putM m kd d).map (S3.set j) = some S' := q0
        obtain ⟨m', q2, rfl⟩ := Option.map_eq_some_iff.mp q1
        obtain ⟨m, q3, q4⟩ := Option.bind_eq_some_iff.mp q2
        cases r2.mono s3.le with
        | mref ha =>
          obtain ⟨o, hp, hF, hm⟩ := dput_of G3 ha q3 r3 ((r1.mono s2.le).mono s3.le) q4
          exact ⟨_, _, rfl, hp, k σ g3 _ ((s1.le.trans s2.le).trans s3.le) (E3.put ha hF hm)⟩
      | _ => cases q0
end
end Ev
namespace Ev
open PySem PySem.Spec PyProof.Rows L2
/-! ### targets -/
abbrev SG := D → DEnv → Option DEnv
def gN (i : Nat) : SG := fun d ρ => some (ρ.set i (some d))
def gAll : List SG → List D → DEnv → Option DEnv
  | [], [], ρ => some ρ
  | g :: gs, d :: ds, ρ => (g d ρ).bind (gAll gs ds)
  | _, _, _ => none
def gT (gs : List SG) : SG := fun d ρ => match d with
  | .tup xs => gAll gs xs ρ
  | _ => none
section
variable (X : Cx)
def Apart (ts : List Nat) (σ σ' : L2.St) : Prop := σ'.length = σ.length ∧ ∀ j, j ∉ ts → σ'[j]? = σ[j]?
def tG (own own' ts : List Nat) (sg : SG) : TG := fun v σ H Q => ∃ g0 H0 ρ g S d ρ', EnvOk X.K X.mg g0 H0 own ρ σ g H S ∧ Rep X.K X.mg g v d ∧ sg d ρ = some ρ' ∧ ∀ σ', Apart ts σ σ' → EnvOk X.K X.mg g0 H0 own' ρ' σ' g H S → Q σ' H
def tGs (own own' ts : List Nat) (gs : List SG) : TGs := fun vs σ H Q => ∃ g0 H0 ρ g S ds ρ', EnvOk X.K X.mg g0 H0 own ρ σ g H S ∧ Reps X.K X.mg g vs ds ∧ gAll gs ds ρ = some ρ' ∧ ∀ σ', Apart ts σ σ' → EnvOk X.K X.mg g0 H0 own' ρ' σ' g H S → Q σ' H
def SimG (own own' ts : List Nat) (e : Expr) (sg : SG) : Prop := PG X e (tG X own own' ts sg)
def SimGs (own own' ts : List Nat) (es : List Expr) (gs : List SG) : Prop := PGs X es (tGs X own own' ts gs)
end
theorem pg_weak {X : Cx} {e : Expr} {t t' : TG} (h : PG X e t) (w : ∀ v σ H Q, t' v σ H Q → t v σ H Q) : PG X e t' := ⟨fun pins s σ H v u Q I r q => h.run pins s σ H v u Q I r (w v σ H Q q)⟩
theorem pgs_weak {X : Cx} {es : List Expr} {t t' : TGs} (h : PGs X es t) (w : ∀ v σ H Q, t' v σ H Q → t v σ H Q) : PGs X es t' := ⟨fun pins s σ H v u Q I r q => h.run pins s σ H v u Q I r (w v σ H Q q)⟩
section
variable {X : Cx} {own own1 own' ob ts ts' : List Nat} {e iter : Expr} {es : List Expr} {se : SE} {sg : SG} {gs : List SG} {pos pos' : Pos} {i : Nat} {x : Str}
theorem simg_name (hN : X.N.Nodup) (hi : X.N[i]? = some x) (hx : Loc X.env.scope x) (hf : X.fn x = true ∨ X.env.scope.names.lookup x = some .local := by first | exact .inl rfl | exact .inr rfl | assumption) : SimG X own (er own i) [i] (.Name x pos) (gN i) :=
  pg_weak (pg_name hN hi hx hf) fun v σ H Q ⟨g0, H0, ρ, g, S, d, ρ', E, r, e, k⟩ => by
    cases e
    exact k _ ⟨List.length_set, fun j hj => by rw [List.getElem?_set_ne (fun z => hj (by simp [z]))]⟩ (E.set r)
theorem simgs_nil : SimGs X own own [] [] [] := pgs_weak pgs_nil fun vs σ H Q ⟨g0, H0, ρ, g, S, ds, ρ', E, r, e, k⟩ => by
  cases r with
  | nil => cases e; exact ⟨rfl, k σ ⟨rfl, fun _ _ => rfl⟩ E⟩
  | cons _ _ => cases e
theorem simgs_cons (h : SimG X own own1 ts e sg) (hr : SimGs X own1 own' ts' es gs) (hs : (assignEach (e :: es) X.env).map (·.2) = assign e X.env :: (assignEach es X.env).map (·.2) := by rfl) : SimGs X own own' (ts ++ ts') (e :: es) (sg :: gs) := pgs_weak (pgs_cons h hr hs) fun vs σ H Q ⟨g0, H0, ρ, g, S, ds, ρ', E, r, e, k⟩ => by
  cases r with
  | nil => cases e
  | @cons v d vs' ds' r1 r2 =>
    have e' : (sg d ρ).bind (gAll gs ds') = some ρ' := e
    cases q : sg d ρ with
    | none => rw [q] at e'; cases e'
    | some ρ1 =>
      rw [q] at e'
      exact ⟨v, vs', rfl, g0, H0, ρ, g, S, d, ρ1, E, r1, q, fun σ1 a1 E1 => ⟨g0, H0, ρ1, g, S, ds', ρ', E1, r2, e', fun σ2 a2 E2 => k σ2 ⟨a2.1.trans a1.1, fun j hj => (a2.2 j fun z => hj (List.mem_append_right _ z)).trans (a1.2 j fun z => hj (List.mem_append_left _ z))⟩ E2⟩⟩
theorem gAll_len : ∀ {gs : List SG} {ds : List D} {ρ ρ' : DEnv}, gAll gs ds ρ = some ρ' → ds.length = gs.length
  | [], [], _, _, _ => rfl
  | g :: gs, d :: ds, ρ, ρ', e => by
    have e' : (g d ρ).bind (gAll gs ds) = some ρ' := e
    cases q : g d ρ with
    | none => rw [q] at e'; cases e'
    | some ρ1 => rw [q] at e'; exact congrArg (· + 1) (gAll_len (gs := gs) e')
  | [], _ :: _, _, _, e => by cases e
  | _ :: _, [], _, _, e => by cases e
theorem simg_tup {k : Nat} (hc : X.calm = true) (h : SimGs X own own' ts es gs) (hn : (assignEach es X.env).length = gs.length := by rfl) (hst : (assignEach es X.env).findIdx? (·.1) = none := by rfl) : SimG X own own' ts (.Tuple es k pos) (gT gs) :=
  pg_weak (pg_tup hc h hn hst) fun v σ H Q ⟨g0, H0, ρ, g, S, d, ρ', E, r, e, kk⟩ => by
    cases r with
    | tup h r =>
      have l := gAll_len (gs := gs) e
      exact ⟨_, _, rfl, SqT.of (E.gok.sub _ _ h), by rw [r.length, l], g0, H0, ρ, g, S, _, ρ', E, r, e, kk⟩
    | _ => cases e
/-- a, b = e and the like -/
def sAsg (sg : SG) (se : SE) : SS := fun ρ S => (se ρ S).then fun d S' => match sg d ρ with
  | some ρ' => .ok (.nx ρ') S'
  | none => .bad
theorem sim_asg {tg : Expr} (he : SimE X own e se) (hg : SimG X own own' ts tg sg) (hs : swapsWithSole [tg] e pos.line X.env = pure false := by rfl) (hw : swappedStores [tg] e X.env = pure none := by rfl)
    (h1 : (assignEach [tg] X.env).map (·.2) = [assign tg X.env] := by rfl) : SimS X own own' ob (.Assign [tg] e pos) (sAsg sg se) := ps_weak (ps_asg he hg hs hw h1) fun D σ H ⟨g0, H0, ρ, g, S, E, q⟩ => by
  obtain ⟨o, S', e1, k⟩ := Res.post_ex q
  obtain ⟨d, S1, e2, e1⟩ := Res.then_ex e1
  split at e1
  · rename_i ρ' hsg
    cases e1
    refine ⟨g0, H0, ρ, g, S, E, ?_⟩
    rw [e2]
    intro v g1 H1 G1 s1 r1
    exact ⟨g0, H0, ρ, g1, S', d, ρ', E.step G1 s1, r1, hsg, fun σ' _ E' => k σ' g1 H1 s1.le E'⟩
  · cases e1

/-! ### what is walked -/
abbrev SI := DEnv → M (List D)
def Wk (X : Cx) (J : It) (ds : List D) (g1 : Gh) : Prop := ∀ (g : Gh) (H : Hp) (S : Sto), GOk X.K X.mg g H S → GLe g1 g → ∀ i : Nat,
  (∀ d, ds[i]? = some d → J.go i H ∧ ∀ x H', J.yld i H x H' → ∃ g', GOk X.K X.mg g' H' S ∧ Stp g H g' H' ∧ Rep X.K X.mg g' x d) ∧ (ds.length = i → J.stop i H)
def tI (X : Cx) (own : List Nat) (si : SI) : TI := fun σ H R => ∃ g0 H0 ρ g S, EnvOk X.K X.mg g0 H0 own ρ σ g H S ∧ (si ρ S).post fun ds S' => ∀ J g' H', GOk X.K X.mg g' H' S' → Stp g H g' H' → Wk X J ds g' → R J H'
def SimI (X : Cx) (own : List Nat) (tg it : Expr) (si : SI) : Prop := PI X tg it (tI X own si)
theorem pi_weak {X : Cx} {tg e : Expr} {t t' : TI} (h : PI X tg e t) (w : ∀ σ H R, t' σ H R → t σ H R) : PI X tg e t' := ⟨fun pins s σ H R I q => h.run pins s σ H R I (w σ H R q)⟩
theorem wk_list {g1 : Gh} {a : Addr} {vs : List V} {ds : List D} (h : g1.F a = some (.lst vs)) (r : Reps X.K X.mg g1 vs ds) : Wk X (Itl X.K a) ds g1 := fun g H S G l i => by
  have hq : SqL X.K H a vs := SqL.of (G.sub _ _ (l.F _ _ h))
  refine ⟨fun d hd => ?_, fun e => ⟨vs, hq, by rw [r.length, e]; exact Nat.le_refl _⟩⟩
  obtain ⟨v, hv, rv⟩ := r.get hd
  refine ⟨⟨vs, v, hq, hv⟩, fun x H' ⟨e, y⟩ => ?_⟩
  subst e
  have := y vs hq
  rw [hv] at this
  cases this
  exact ⟨g, G, .refl, rv.mono l⟩
theorem wk_tup {g1 : Gh} {a : Addr} {vs : List V} {ds : List D} (h : g1.F a = some (.tup vs)) (r : Reps X.K X.mg g1 vs ds) : Wk X (Itt X.K a) ds g1 := fun g H S G l i => by
  have hq : SqT X.K H a vs := SqT.of (G.sub _ _ (l.F _ _ h))
  refine ⟨fun d hd => ?_, fun e => ⟨vs, hq, by rw [r.length, e]; exact Nat.le_refl _⟩⟩
  obtain ⟨v, hv, rv⟩ := r.get hd
  refine ⟨⟨vs, v, hq, hv⟩, fun x H' ⟨e, y⟩ => ?_⟩
  subst e
  have := y vs hq
  rw [hv] at this
  cases this
  exact ⟨g, G, .refl, rv.mono l⟩
theorem wk_scr {g1 : Gh} {a : Addr} {ns : List Int} (h : SqL X.K g1.F a (ns.map V.int)) : Wk X (Itl X.K a) (ns.map .int) g1 := fun g H S G l i => by
  have hq : SqL X.K H a (ns.map V.int) := G.sub.seq (l.F.seq h)
  refine ⟨fun d hd => ?_, fun e => ⟨_, hq, by rw [List.length_map] at e ⊢; omega⟩⟩
  rw [List.getElem?_map] at hd
  cases q : ns[i]? with
  | none => rw [q] at hd; cases hd
  | some n =>
    rw [q] at hd
    cases hd
    have hv : (ns.map V.int)[i]? = some (.int n) := by rw [List.getElem?_map, q] <;> rfl
    refine ⟨⟨_, _, hq, hv⟩, fun x H' ⟨e, y⟩ => ?_⟩
    subst e
    have := y _ hq
    rw [hv] at this
    cases this
    exact ⟨g, G, .refl, .int n⟩
def rangeD (lo : Int) (n : Nat) : List D := (List.range n).map fun (k : Nat) => .int (lo + (k : Int))
theorem wk_range {g1 : Gh} {lo : Int} {n : Nat} : Wk X (Itr lo n) (rangeD lo n) g1 := fun g H S G l i => by
  unfold rangeD
  refine ⟨fun d hd => ?_, fun e => by rw [List.length_map, List.length_range] at e; show n ≤ i; omega⟩
  rw [List.getElem?_map] at hd
  cases q : (List.range n)[i]? with
  | none => rw [q] at hd; cases hd
  | some k =>
    rw [q] at hd
    cases hd
    obtain ⟨h1, h2⟩ := List.getElem?_eq_some_iff.mp q
    rw [List.getElem_range] at h2
    subst h2
    rw [List.length_range] at h1
    refine ⟨h1, fun x H' ⟨e, y⟩ => ?_⟩
    subst e y
    exact ⟨g, G, .refl, .int _⟩
def rangeC (lo c : Int) (n : Nat) : List D := (List.range n).map fun (k : Nat) => .int (lo + (k : Int) * c)
theorem wk_rangeC {g1 : Gh} {lo c : Int} {n : Nat} : Wk X (Itc lo c n) (rangeC lo c n) g1 := fun g H S G l i => by
  unfold rangeC
  refine ⟨fun d hd => ?_, fun e => by rw [List.length_map, List.length_range] at e; show n ≤ i; omega⟩
  rw [List.getElem?_map] at hd
  cases q : (List.range n)[i]? with
  | none => rw [q] at hd; cases hd
  | some k =>
    rw [q] at hd
    cases hd
    obtain ⟨h1, h2⟩ := List.getElem?_eq_some_iff.mp q
    rw [List.getElem_range] at h2
    subst h2
    rw [List.length_range] at h1
    refine ⟨h1, fun x H' ⟨e, y⟩ => ?_⟩
    subst e y
    exact ⟨g, G, .refl, .int _⟩
def enumD (ds : List D) : List D := (List.range ds.length).map fun (k : Nat) => .tup [.int (k : Int), ds.getD k .non]
theorem enumD_get {ds : List D} {i : Nat} {d : D} (h : (enumD ds)[i]? = some d) : ∃ x, ds[i]? = some x ∧ d = .tup [.int (i : Int), x] := by
  unfold enumD at h
  rw [List.getElem?_map] at h
  cases q : (List.range ds.length)[i]? with
  | none => rw [q] at h; cases h
  | some k =>
    rw [q] at h
    obtain ⟨h1, h2⟩ := List.getElem?_eq_some_iff.mp q
    rw [List.getElem_range] at h2
    subst h2
    rw [List.length_range] at h1
    cases h
    refine ⟨ds[i], by simp [h1], ?_⟩
    simp [List.getD, h1]
theorem wk_enumT {g1 : Gh} {a : Addr} {vs : List V} {ds : List D} (h : g1.F a = some (.tup vs)) (r : Reps X.K X.mg g1 vs ds) : Wk X (IteT X.K a) (enumD ds) g1 := fun g H S G l i => by
  have hq : SqT X.K H a vs := SqT.of (G.sub _ _ (l.F _ _ h))
  refine ⟨fun d hd => ?_, fun e => ⟨vs, hq, by rw [r.length, ← e]; simp [enumD]⟩⟩
  obtain ⟨x, hx, rfl⟩ := enumD_get hd
  obtain ⟨v, hv, rv⟩ := r.get hx
  refine ⟨⟨vs, v, hq, hv⟩, fun z H' ⟨T, y, e1, hT, e2, hy⟩ => ?_⟩
  subst e1 e2
  have := hy vs hq
  rw [hv] at this
  cases this
  exact ⟨_, G.add hT, stp_add G hT, .newT G hT (.cons (.int _) (.one (rv.mono l)))⟩
theorem wk_enumL {g1 : Gh} {a : Addr} {vs : List V} {ds : List D} (h : g1.F a = some (.lst vs)) (r : Reps X.K X.mg g1 vs ds) : Wk X (Ite X.K a) (enumD ds) g1 := fun g H S G l i => by
  have hq : SqL X.K H a vs := SqL.of (G.sub _ _ (l.F _ _ h))
  refine ⟨fun d hd => ?_, fun e => ⟨vs, hq, by rw [r.length, ← e]; simp [enumD]⟩⟩
  obtain ⟨x, hx, rfl⟩ := enumD_get hd
  obtain ⟨v, hv, rv⟩ := r.get hx
  refine ⟨⟨vs, v, hq, hv⟩, fun z H' ⟨T, y, e1, hT, e2, hy⟩ => ?_⟩
  subst e1 e2
  have := hy vs hq
  rw [hv] at this
  cases this
  exact ⟨_, G.add hT, stp_add G hT, .newT G hT (.cons (.int _) (.one (rv.mono l)))⟩
def zipD (xs ys : List D) : List D := (xs.zip ys).map fun p => .tup [p.1, p.2]
theorem zipD_get {xs ys : List D} {i : Nat} {d : D} (h : (zipD xs ys)[i]? = some d) : ∃ x y, xs[i]? = some x ∧ ys[i]? = some y ∧ d = .tup [x, y] := by
  unfold zipD at h
  rw [List.getElem?_map] at h
  cases q : (xs.zip ys)[i]? with
  | none => rw [q] at h; cases h
  | some p =>
    rw [q] at h
    cases h
    obtain ⟨h1, h2⟩ := List.getElem?_zip_eq_some.mp q
    exact ⟨p.1, p.2, h1, h2, rfl⟩
theorem zipD_stop {xs ys : List D} {vs ws : List V} {g : Gh} (r : Reps X.K X.mg g vs xs) (r2 : Reps X.K X.mg g ws ys) {i : Nat} (e : (zipD xs ys).length = i) : vs.length ≤ i ∨ ws.length ≤ i := by
  unfold zipD at e
  rw [List.length_map, List.length_zip] at e
  rw [r.length, r2.length]
  omega
theorem wk_zipT {g1 : Gh} {a b : Addr} {vs ws : List V} {ds es : List D} (h : g1.F a = some (.tup vs)) (r : Reps X.K X.mg g1 vs ds) (h2 : g1.F b = some (.tup ws)) (r2 : Reps X.K X.mg g1 ws es) : Wk X (RZ.ItzT X.K a b) (zipD ds es) g1 := fun g H S G l i => by
  have hq : SqT X.K H a vs := SqT.of (G.sub _ _ (l.F _ _ h))
  have hq2 : SqT X.K H b ws := SqT.of (G.sub _ _ (l.F _ _ h2))
  refine ⟨fun d hd => ?_, fun e => ⟨vs, ws, hq, hq2, zipD_stop r r2 e⟩⟩
  obtain ⟨x, y, hx, hy, rfl⟩ := zipD_get hd
  obtain ⟨v, hv, rv⟩ := r.get hx
  obtain ⟨w, hw, rw'⟩ := r2.get hy
  refine ⟨⟨vs, ws, v, w, hq, hq2, hv, hw⟩, fun z H' ⟨T, x', y', e1, hT, e2, hx', hy'⟩ => ?_⟩
  subst e1 e2
  have q1 := hx' vs hq
  have q2 := hy' ws hq2
  rw [hv] at q1
  rw [hw] at q2
  cases q1
  cases q2
  exact ⟨_, G.add hT, stp_add G hT, .newT G hT (.cons (rv.mono l) (.one (rw'.mono l)))⟩
theorem wk_zipL {g1 : Gh} {a b : Addr} {vs ws : List V} {ds es : List D} (h : g1.F a = some (.lst vs)) (r : Reps X.K X.mg g1 vs ds) (h2 : g1.F b = some (.lst ws)) (r2 : Reps X.K X.mg g1 ws es) : Wk X (Itz X.K a b) (zipD ds es) g1 := fun g H S G l i => by
  have hq : SqL X.K H a vs := SqL.of (G.sub _ _ (l.F _ _ h))
  have hq2 : SqL X.K H b ws := SqL.of (G.sub _ _ (l.F _ _ h2))
  refine ⟨fun d hd => ?_, fun e => ⟨vs, ws, hq, hq2, zipD_stop r r2 e⟩⟩
  obtain ⟨x, y, hx, hy, rfl⟩ := zipD_get hd
  obtain ⟨v, hv, rv⟩ := r.get hx
  obtain ⟨w, hw, rw'⟩ := r2.get hy
  refine ⟨⟨vs, ws, v, w, hq, hq2, hv, hw⟩, fun z H' ⟨T, x', y', e1, hT, e2, hx', hy'⟩ => ?_⟩
  subst e1 e2
  have q1 := hx' vs hq
  have q2 := hy' ws hq2
  rw [hv] at q1
  rw [hw] at q2
  cases q1
  cases q2
  exact ⟨_, G.add hT, stp_add G hT, .newT G hT (.cons (rv.mono l) (.one (rw'.mono l)))⟩
def sItL (se : SE) : SI := fun ρ S => (se ρ S).then fun d S' => match d with
  | .lst xs => .ok xs S'
  | .scr ns => .ok (ns.map .int) S'
  | _ => .bad
def sItT (se : SE) : SI := fun ρ S => (se ρ S).then fun d S' => match d with
  | .tup xs => .ok xs S'
  | _ => .bad
theorem simi_list {tg : Expr} (h : SimE X own e se) : SimI X own tg e (sItL se) := pi_weak (pi_list h) fun σ H R ⟨g0, H0, ρ, g, S, E, q⟩ => by
  obtain ⟨ds, S', e1, k⟩ := Res.post_ex q
  obtain ⟨d, S1, e2, e1⟩ := Res.then_ex e1
  refine ⟨g0, H0, ρ, g, S, E, ?_⟩
  rw [e2]
  intro v g1 H1 G1 s1 r1
  cases r1 with
  | lst h r => cases e1; exact ⟨_, rfl, ⟨_, SqL.of (G1.sub _ _ h)⟩, k _ g1 H1 G1 s1 (wk_list h r)⟩
  | scr h => cases e1; exact ⟨_, rfl, ⟨_, G1.sub.seq h⟩, k _ g1 H1 G1 s1 (wk_scr h)⟩
  | _ => cases e1
theorem simi_tup {tg : Expr} (h : SimE X own e se) : SimI X own tg e (sItT se) := pi_weak (pi_tup h) fun σ H R ⟨g0, H0, ρ, g, S, E, q⟩ => by
  obtain ⟨ds, S', e1, k⟩ := Res.post_ex q
  obtain ⟨d, S1, e2, e1⟩ := Res.then_ex e1
  refine ⟨g0, H0, ρ, g, S, E, ?_⟩
  rw [e2]
  intro v g1 H1 G1 s1 r1
  cases r1 with
  | tup h r => cases e1; exact ⟨_, rfl, ⟨_, SqT.of (G1.sub _ _ h)⟩, k _ g1 H1 G1 s1 (wk_tup h r)⟩
  | _ => cases e1
@[irreducible] def rgOk (i : Int) : Bool := decide (i.natAbs.log2 < 62)
theorem rgOk_ok {i : Int} (h : rgOk i = true) : -(2 ^ 62) ≤ i ∧ i < 2 ^ 62 := by
  unfold rgOk at h
  have h := lg_lt (of_decide_eq_true h)
  have e : (2 : Int) ^ 62 = 4611686018427387904 := by decide
  have e2 : (2 : Nat) ^ 62 = 4611686018427387904 := by decide
  rw [e]
  omega
theorem rgOk_of {i : Int} (h : i.natAbs < 4611686018427387904) : rgOk i = true := by
  unfold rgOk
  exact decide_eq_true (lt_lg (by decide) h)
def dRange : List D → Option (List D)
  | [.int j] => if rgOk j then some (rangeD 0 j.toNat) else none
  | [.int i, .int j] => if rgOk i && rgOk j then some (rangeD i (j - i).toNat) else none
  | [.int i, .int j, .int (-1)] => if rgOk i && rgOk j then some (rangeC i (-1) (i - j).toNat) else none
  | _ => none
def sItR (sas : List (Bool × SE)) : SI := fun ρ S => (sArgs sas ρ S).then fun ds S' => optR (dRange ds) S'
variable {sas : List (Bool × SE)} {a b c : Expr} {p : Pos}
theorem simi_range1 {tg : Expr} (hg : Gl X "range") (hm : X.mg "range" = none) (ha : SimA X own [a] sas) (hs : starEach [a] X.env = [(false, eval a X.env)] := by rfl) (hl : sas.length = 1 := by rfl) (hst : (sas.all fun a => !a.1) = true := by rfl) : SimI X own tg (.Call (.Name "range" p) [a] [] pos) (sItR sas) :=
  pi_weak (pi_range1 hg hm ha hs) fun σ H R ⟨g0, H0, ρ, g, S, E, q⟩ => by
    obtain ⟨ds, S', e1, k⟩ := Res.post_ex q
    obtain ⟨as, S1, e2, e1⟩ := Res.then_ex e1
    obtain ⟨e3, eS⟩ := optR_ex e1
    subst eS
    refine ⟨g0, H0, ρ, g, S, E, ?_⟩
    have hlen := sArgs_len hst e2
    rw [e2]
    intro vs g1 H1 G1 s1 r1
    cases r1 with
    | nil => rw [hl] at hlen; cases hlen
    | cons ra rr => cases rr with
      | cons _ _ => rw [hl] at hlen; simp at hlen
      | nil =>
        cases ra with
        | int j =>
          have e4 : (if rgOk j then some (rangeD 0 j.toNat) else none) = some ds := e3
          split at e4
          · rename_i hj
            cases e4
            obtain ⟨h1, h2⟩ := rgOk_ok hj
            exact ⟨j, rfl, h1, h2, k _ g1 H1 G1 s1 wk_range⟩
          · cases e4
        | _ => cases e3
theorem simi_range2 {tg : Expr} (hg : Gl X "range") (hm : X.mg "range" = none) (ha : SimA X own [a, b] sas) (hs : starEach [a, b] X.env = [(false, eval a X.env), (false, eval b X.env)] := by rfl) (hs2 : starEach [b] X.env = [(false, eval b X.env)] := by rfl) (hl : sas.length = 2 := by rfl) (hst : (sas.all fun a => !a.1) = true := by rfl) : SimI X own tg (.Call (.Name "range" p) [a, b] [] pos) (sItR sas) :=
  pi_weak (pi_range2 hg hm ha hs hs2) fun σ H R ⟨g0, H0, ρ, g, S, E, q⟩ => by
    obtain ⟨ds, S', e1, k⟩ := Res.post_ex q
    obtain ⟨as, S1, e2, e1⟩ := Res.then_ex e1
    obtain ⟨e3, eS⟩ := optR_ex e1
    subst eS
    refine ⟨g0, H0, ρ, g, S, E, ?_⟩
    have hlen := sArgs_len hst e2
    rw [e2]
    intro vs g1 H1 G1 s1 r1
    cases r1 with
    | nil => rw [hl] at hlen; cases hlen
    | cons ra rr => cases rr with
      | nil => rw [hl] at hlen; simp at hlen
      | cons rb rr => cases rr with
        | cons _ _ => rw [hl] at hlen; simp at hlen
        | nil =>
          cases ra with
          | int i => cases rb with
            | int j =>
              have e4 : (if rgOk i && rgOk j then some (rangeD i (j - i).toNat) else none) = some ds := e3
              split at e4
              · rename_i hj
                cases e4
                obtain ⟨h1, h2⟩ := Bool.and_eq_true_iff.mp hj
                obtain ⟨h3, h4⟩ := rgOk_ok h1
                obtain ⟨h5, h6⟩ := rgOk_ok h2
                exact ⟨i, j, rfl, ⟨h3, h4, h5, h6⟩, k _ g1 H1 G1 s1 wk_range⟩
              · cases e4
            | _ => cases e3
          | _ => cases rb <;> cases e3
theorem simi_range3 {tg : Expr} (hpi : ∀ {ta : TA}, PA X [a, b, c] ta → PI X tg e (iRng3 ta)) (ha : SimA X own [a, b, c] sas) (hl : sas.length = 3 := by rfl) (hst : (sas.all fun a => !a.1) = true := by rfl) : SimI X own tg e (sItR sas) :=
  pi_weak (hpi ha) fun σ H R ⟨g0, H0, ρ, g, S, E, q⟩ => by
    obtain ⟨ds, S', e1, k⟩ := Res.post_ex q
    obtain ⟨as, S1, e2, e1⟩ := Res.then_ex e1
    obtain ⟨e3, eS⟩ := optR_ex e1
    subst eS
    refine ⟨g0, H0, ρ, g, S, E, ?_⟩
    have hlen := sArgs_len hst e2
    rw [e2]
    intro vs g1 H1 G1 s1 r1
    unfold dRange at e3
    split at e3
    · rw [hl] at hlen; simp at hlen
    · rw [hl] at hlen; simp at hlen
    · rename_i i j
      split at e3
      · rename_i hj
        cases e3
        cases r1 with
        | cons ra rr => cases rr with
          | cons rb rr => cases rr with
            | cons rc rr =>
              cases rr
              cases ra
              cases rb
              cases rc
              obtain ⟨h1, h2⟩ := Bool.and_eq_true_iff.mp hj
              obtain ⟨h3, h4⟩ := rgOk_ok h1
              obtain ⟨h5, h6⟩ := rgOk_ok h2
              exact ⟨i, j, -1, _, rfl, RgC.neg h3 h4 h5 h6, k _ g1 H1 G1 s1 wk_rangeC⟩
      · cases e3
    · cases e3
def sItE (se : SE) : SI := fun ρ S => (se ρ S).then fun d S' => match d with
  | .tup xs => .ok (enumD xs) S'
  | .lst xs => .ok (enumD xs) S'
  | _ => .bad
theorem simi_enum {elts : List Expr} {kk : Nat} {tpos : Pos} (hg : Gl X "enumerate") (hm : X.mg "enumerate" = none) (h : SimE X own a se) (hs1 : starEach (a :: []) X.env = (false, eval a X.env) :: starEach [] X.env := by rfl) (hs : starEach [a] X.env = [(false, eval a X.env)] := by rfl) : SimI X own (.Tuple elts kk tpos) (.Call (.Name "enumerate" p) [a] [] pos) (sItE se) :=
  pi_weak (pi_enumT hg hm (pa_cons h pa_nil hs1) hs) fun σ H R ⟨g0, H0, ρ, g, S, E, q⟩ => by
    obtain ⟨ds, S', e1, k⟩ := Res.post_ex q
    obtain ⟨d, S1, e2, e1⟩ := Res.then_ex e1
    refine ⟨g0, H0, ρ, g, S, E, ?_⟩
    rw [e2]
    intro v g1 H1 G1 s1 r1
    cases r1 with
    | tup h r => cases e1; exact ⟨_, _, rfl, .inl ⟨SqT.of (G1.sub _ _ h), k _ g1 H1 G1 s1 (wk_enumT h r)⟩⟩
    | lst h r => cases e1; exact ⟨_, _, rfl, .inr ⟨SqL.of (G1.sub _ _ h), k _ g1 H1 G1 s1 (wk_enumL h r)⟩⟩
    | _ => cases e1
def sItZ (sa sb : SE) : SI := fun ρ S => (sa ρ S).then fun x S1 => (sb ρ S1).then fun y S2 => match x, y with
  | .tup xs, .tup ys => .ok (zipD xs ys) S2
  | .lst xs, .lst ys => .ok (zipD xs ys) S2
  | _, _ => .bad
variable {sa sb : SE}
theorem simi_zip {elts : List Expr} {kk : Nat} {tpos : Pos} (hpi : ∀ {ta : TA}, PA X [a, b] ta → PI X (.Tuple elts kk tpos) e (RZ.iZipA X.K ta)) (h : SimE X own a sa) (h2 : SimE X own b sb) (hs1 : starEach (a :: [b]) X.env = (false, eval a X.env) :: starEach [b] X.env := by rfl) (hs2 : starEach (b :: []) X.env = (false, eval b X.env) :: starEach [] X.env := by rfl) : SimI X own (.Tuple elts kk tpos) e (sItZ sa sb) :=
  pi_weak (hpi (pa_cons h (pa_cons h2 pa_nil hs2) hs1)) fun σ H R ⟨g0, H0, ρ, g, S, E, q⟩ => by
    obtain ⟨ds, S', e1, k⟩ := Res.post_ex q
    obtain ⟨x, S1, e2, e1⟩ := Res.then_ex e1
    obtain ⟨y, S2, e3, e1⟩ := Res.then_ex e1
    refine ⟨g0, H0, ρ, g, S, E, ?_⟩
    rw [e2]
    intro v g1 H1 G1 s1 r1
    refine ⟨g0, H0, ρ, g1, S1, E.step G1 s1, ?_⟩
    rw [e3]
    intro v2 g2 H2 G2 s2 r2
    have r1' := r1.mono s2.le
    cases r1' with
    | tup h r => cases r2 with
      | tup h2 r2 => cases e1; exact ⟨_, _, _, _, rfl, .inr ⟨SqT.of (G2.sub _ _ h), SqT.of (G2.sub _ _ h2), k _ g2 H2 G2 (s1.trans s2) (wk_zipT h r h2 r2)⟩⟩
      | _ => cases e1
    | lst h r => cases r2 with
      | lst h2 r2 => cases e1; exact ⟨_, _, _, _, rfl, .inl ⟨SqL.of (G2.sub _ _ h), SqL.of (G2.sub _ _ h2), k _ g2 H2 G2 (s1.trans s2) (wk_zipL h r h2 r2)⟩⟩
      | _ => cases e1
    | _ => cases r2 <;> cases e1
end
end Ev
namespace Ev
open PySem PySem.Spec PyProof.Rows L2
/-! ### loops -/
def forL (body : D → DEnv → M Out) : List D → DEnv → M Out
  | [], ρ => fun S => .ok (.nx ρ) S
  | d :: ds, ρ => fun S => (body d ρ S).then fun o S' => match o with
    | .nx ρ' => forL body ds ρ' S'
    | .ct ρ' => forL body ds ρ' S'
    | .bk ρ' => .ok (.nx ρ') S'
    | .rt d => .ok (.rt d) S'
def fBody (sg : SG) (sb : SS) : D → DEnv → M Out := fun d ρ S => match sg d ρ with
  | some ρ' => sb ρ' S
  | none => .bad
def sFor (si : SI) (sg : SG) (sb : SS) : SS := fun ρ S => (si ρ S).then fun ds S1 => forL (fBody sg sb) ds ρ S1
section
variable {X : Cx} {own ownT own' ob ts : List Nat} {e iter tg : Expr} {body : List Stmt} {si : SI} {sg : SG} {ss : SS} {se : SE} {sb : SB} {pos : Pos}
theorem sim_for (hp : PassesOwn (model X.prog X.w) X.A X.env X.xe) (hc : X.calm = true) (hi : SimI X own tg iter si) (hg : SimG X own ownT ts tg sg) (hb : SimB X ownT own own body ss)
    (hs : ∀ x, foldedSetIterable iter X.env x = pure x := by intro _; rfl) : SimS X own own ob (.For tg iter body [] pos) (sFor si sg ss) := ps_weak (ps_for hp hc hi hg hb hs) fun D σ H ⟨g0, H0, ρ, g, S, E, q⟩ => by
  obtain ⟨o, S', e1, k⟩ := Res.post_ex q
  obtain ⟨ds, S1, e2, e1⟩ := Res.then_ex e1
  refine ⟨g0, H0, ρ, g, S, E, ?_⟩
  rw [e2]
  intro J g1 H1 G1 s1 wk
  refine ⟨fun i m σ H => m + i = ds.length ∧ ∃ ρ g S, EnvOk X.K X.mg g0 H0 own ρ σ g H S ∧ GLe g1 g ∧ (forL (fBody sg ss) (ds.drop i) ρ S).post fun o S' => OutOk X g0 H0 g own ob D S' o,
    ⟨ds.length, rfl, ρ, g1, S1, E.step G1 s1, .refl _, ?_⟩, ?_⟩
  · rw [List.drop_zero, e1]
    exact k.mono s1.le
  · rintro i m σ2 H2 ⟨hm, ρ2, g2, S2, E2, l2, post⟩
    obtain ⟨w1, w2⟩ := wk g2 H2 S2 E2.gok l2 i
    cases hd : ds[i]? with
    | none =>
      have hlen : ds.length ≤ i := List.getElem?_eq_none_iff.mp hd
      have hi' : ds.length = i := by omega
      refine .inl ⟨w2 hi', ?_⟩
      rw [List.drop_eq_nil_of_le hlen] at post
      exact post σ2 g2 H2 (.refl _) E2
    | some d =>
      obtain ⟨go, y⟩ := w1 d hd
      have hlt : i < ds.length := (List.getElem?_eq_some_iff.mp hd).1
      have hdrop : ds.drop i = d :: ds.drop (i + 1) := by
        rw [List.drop_eq_getElem_cons hlt]
        congr 1
        exact (List.getElem?_eq_some_iff.mp hd).2
      rw [hdrop] at post
      refine .inr ⟨go, _, fun σ' H' z => z, fun x H' hy => ?_⟩
      obtain ⟨g3, G3, s3, r3⟩ := y x H' hy
      have post' := Res.post_then.mp (show ((fBody sg ss d ρ2 S2).then fun o S' => match o with
        | .nx ρ' => forL (fBody sg ss) (ds.drop (i + 1)) ρ' S'
        | .ct ρ' => forL (fBody sg ss) (ds.drop (i + 1)) ρ' S'
        | .bk ρ' => .ok (.nx ρ') S'
        | .rt d => .ok (.rt d) S').post _ from post)
      cases hsg : sg d ρ2 with
      | none =>
        unfold fBody at post'
        rw [hsg] at post'
        exact post'.elim
      | some ρ3 =>
        have eb : fBody sg ss d ρ2 S2 = ss ρ3 S2 := by unfold fBody; rw [hsg]
        rw [eb] at post'
        refine ⟨g0, H0, ρ2, g3, S2, d, ρ3, E2.step G3 s3, r3, hsg, fun σ4 _ E4 => ⟨g0, H0, ρ3, g3, S2, E4, Res.post_mono post' fun o S5 p5 => ?_⟩⟩
        cases o with
        | nx ρ5 =>
          intro σ6 g6 H6 l6 E6
          exact ⟨m - 1, by omega, by omega, ρ5, g6, S5, E6, l2.trans (s3.le.trans l6), Res.post_mono p5 fun o S7 p7 => p7.mono (s3.le.trans l6)⟩
        | ct ρ5 =>
          intro σ6 g6 H6 l6 E6
          exact ⟨m - 1, by omega, by omega, ρ5, g6, S5, E6, l2.trans (s3.le.trans l6), Res.post_mono p5 fun o S7 p7 => p7.mono (s3.le.trans l6)⟩
        | bk ρ5 => exact fun σ6 g6 H6 l6 E6 => p5 σ6 g6 H6 (s3.le.trans l6) E6
        | rt d => exact p5
def whL : Nat → SB → SS → SS
  | 0, _, _ => fun _ _ => .bad
  | n + 1, c, b => fun ρ S => (c ρ S).then fun t S1 => if t then (b ρ S1).then fun o S2 => (match o with
    | .nx ρ' => whL n c b ρ' S2
    | .ct ρ' => whL n c b ρ' S2
    | .bk ρ' => .ok (.nx ρ') S2
    | .rt d => .ok (.rt d) S2) else .ok (.nx ρ) S1
theorem sim_while {n : Nat} {c : Expr} (hp : PassesOwn (model X.prog X.w) X.A X.env X.xe) (hc : SimT X own c sb) (hb : SimB X own own own body ss) : SimS X own own ob (.While c body [] pos) (whL n sb ss) := ps_weak (ps_while hp hc hb) fun D σ H ⟨g0, H0, ρ, g, S, E, q⟩ => by
  refine ⟨fun m σ H => ∃ ρ g S, EnvOk X.K X.mg g0 H0 own ρ σ g H S ∧ (whL m sb ss ρ S).post fun o S' => OutOk X g0 H0 g own ob D S' o, ⟨n, ρ, g, S, E, q⟩, ?_⟩
  rintro m σ1 H1 ⟨ρ1, g1, S1, E1, post⟩
  cases m with
  | zero => exact post.elim
  | succ m =>
    obtain ⟨o, S', e1, k⟩ := Res.post_ex post
    obtain ⟨t, S2, e2, e1⟩ := Res.then_ex e1
    refine ⟨g0, H0, ρ1, g1, S1, E1, ?_⟩
    rw [e2]
    intro g2 H2 G2 s2
    cases t with
    | false =>
      rw [if_neg Bool.false_ne_true]
      have e1' : (Res.ok (.nx ρ1) S2 : Res Out) = .ok o S' := e1
      cases e1'
      exact k σ1 g2 H2 s2.le (E1.step G2 s2)
    | true =>
      rw [if_pos rfl]
      refine ⟨_, fun σ' H' z => z, g0, H0, ρ1, g2, S2, E1.step G2 s2, ?_⟩
      have e1' : ((ss ρ1 S2).then fun o S2 => (match o with
        | .nx ρ' => whL m sb ss ρ' S2
        | .ct ρ' => whL m sb ss ρ' S2
        | .bk ρ' => .ok (.nx ρ') S2
        | .rt d => .ok (.rt d) S2)) = .ok o S' := e1
      obtain ⟨o3, S3, e3, e4⟩ := Res.then_ex e1'
      rw [e3]
      cases o3 with
      | nx ρ3 =>
        intro σ4 g4 H4 l4 E4
        have e4' : whL m sb ss ρ3 S3 = .ok o S' := e4
        exact ⟨m, Nat.lt_succ_self _, ρ3, g4, S3, E4, by rw [e4']; exact k.mono (s2.le.trans l4)⟩
      | ct ρ3 =>
        intro σ4 g4 H4 l4 E4
        have e4' : whL m sb ss ρ3 S3 = .ok o S' := e4
        exact ⟨m, Nat.lt_succ_self _, ρ3, g4, S3, E4, by rw [e4']; exact k.mono (s2.le.trans l4)⟩
      | bk ρ3 =>
        cases e4
        exact fun σ4 g4 H4 l4 E4 => k σ4 g4 H4 (s2.le.trans l4) E4
      | rt d =>
        cases e4
        exact k
end
/-! ### comprehensions -/
def compL (f : D → M (Option D)) : List D → M (List D)
  | [] => fun S => .ok [] S
  | d :: ds => fun S => (f d S).then fun y S1 => (compL f ds S1).then fun ys S2 => .ok (match y with
    | some y => y :: ys
    | none => ys) S2
def wipeE (ρ : DEnv) : List Nat → DEnv
  | [] => ρ
  | v :: vs => (wipeE ρ vs).set v none
def cBody (sg : SG) (st : SB) (se : SE) (ρ : DEnv) : D → M (Option D) := fun d S => match sg d ρ with
  | some ρ2 => (st ρ2 S).then fun b S1 => if b then (se ρ2 S1).then fun y S2 => .ok (some y) S2 else .ok none S1
  | none => .bad
def sComp (vs : List Nat) (si : SI) (sg : SG) (st : SB) (se : SE) : SE := fun ρ S => (si ρ S).then fun ds S1 => (compL (cBody sg st se (wipeE ρ vs)) ds S1).then fun ys S2 => if ys.length ≤ sizeLine then .ok (.lst ys) S2 else .bad
theorem sComp_lst {vs : List Nat} {si : SI} {sg : SG} {st : SB} {se : SE} {ρ : DEnv} {S S' : Sto} {d : D} (e : sComp vs si sg st se ρ S = .ok d S') : ∃ ds, d = .lst ds := by
  obtain ⟨ds, S1, _, e1⟩ := Res.then_ex e
  obtain ⟨ys, S2, _, e1⟩ := Res.then_ex e1
  split at e1
  · cases e1; exact ⟨_, rfl⟩
  · cases e1
def sYes : SB := fun _ S => .ok true S
section
variable {K : PySem.W.Frag} {mg : Str → Option Value} {g0 g : Gh} {H0 H : Hp} {S : Sto} {own : List Nat} {ρ : DEnv} {σ : L2.St}
theorem EnvOk.forget (E : EnvOk K mg g0 H0 own ρ σ g H S) {i : Nat} (hi : i ∉ own) : EnvOk K mg g0 H0 own (ρ.set i none) (σ.set i none) g H S where
  gok := E.gok
  stp := E.stp
  len := by rw [List.length_set, List.length_set, E.len]
  fro := fun j d' hj n => by
    by_cases e : i = j
    · subst e
      have hi : i < ρ.length := by
        have := (List.getElem?_eq_some_iff.mp hj).1
        simpa using this
      rw [List.getElem?_set_self hi] at hj
      cases hj
    · rw [List.getElem?_set_ne e] at hj
      obtain ⟨w, q1, q2⟩ := E.fro j d' hj n
      exact ⟨w, by rw [List.getElem?_set_ne e]; exact q1, q2⟩
  ow := fun j hj => by
    have ne : i ≠ j := fun z => hi (z ▸ hj)
    obtain ⟨p, d', h1, h2, h3⟩ := E.ow j hj
    exact ⟨p, d', by rw [List.getElem?_set_ne ne]; exact h1, by rw [List.getElem?_set_ne ne]; exact h2, h3⟩
  dis := fun j hj k hk ne => by
    have n1 : i ≠ j := fun z => hi (z ▸ hj)
    have n2 : i ≠ k := fun z => hi (z ▸ hk)
    rw [List.getElem?_set_ne n1, List.getElem?_set_ne n2]
    exact E.dis j hj k hk ne
theorem EnvOk.wipe (E : EnvOk K mg g0 H0 own ρ σ g H S) : ∀ {vs : List Nat}, (∀ i ∈ vs, i ∉ own) → EnvOk K mg g0 H0 own (wipeE ρ vs) (wipe σ vs) g H S
  | [], _ => E
  | v :: vs, h => (EnvOk.wipe E (vs := vs) fun i hi => h i (List.mem_cons_of_mem _ hi)).forget (h v List.mem_cons_self)
/-- an object aside is written -/
theorem EnvOk.aside (E : EnvOk K mg g0 H0 own ρ σ g H S) {p : Addr} {o : HO} {xs : List V} (hp : H p = some (.lst xs)) (h1 : g.F p = none) (h2 : p ∉ g.as) (h3 : H0 p = none) (hne : ∀ j ∈ own, σ[j]? ≠ some (some (.ref p))) : EnvOk K mg g0 H0 own ρ σ g (upd H p o) S := by
  have Fne : ∀ {b : Addr} {u : HO}, g.F b = some u → b ≠ p := fun {b u} e z => by rw [z, h1] at e; cases e
  refine ⟨⟨fun b u e => by rw [upd_ne (Fne e)]; exact E.gok.sub _ _ e, E.gok.nd, E.gok.len, E.gok.nf, fun j a ha => ?_⟩, ⟨E.stp.le, fun b u e n => ?_, fun b e => ?_, E.stp.newF, E.stp.newA⟩, E.len, E.fro, fun j hj => ?_, E.dis⟩
  · obtain ⟨kvs, kds, q1, q2, q3⟩ := E.gok.st j a ha
    exact ⟨kvs, kds, by rw [upd_ne (fun z : a = p => h2 (z ▸ List.mem_of_getElem? ha))]; exact q1, q2, q3⟩
  · rw [upd_ne (fun z : b = p => by rw [z, h3] at e; cases e)]
    exact E.stp.keep b u e n
  · by_cases z : b = p
    · rw [z, upd_same]; exact fun z => nomatch z
    · rw [upd_ne z]; exact E.stp.there b e
  · obtain ⟨q, d', q1, q2, b1, b2, b3, b4⟩ := E.ow j hj
    have nq : q ≠ p := fun z => hne j hj (by rw [q2, z])
    refine ⟨q, d', q1, q2, b1, b2, b3, ?_⟩
    rcases b4 with ⟨vs', ds', e', h', r'⟩ | ⟨C', dy, c', fvs', fs', e', hm', h', hd', f1, f2, f3, r'⟩
    · exact .inl ⟨vs', ds', e', by rw [upd_ne nq]; exact h', r'⟩
    · exact .inr ⟨C', dy, c', fvs', fs', e', hm', by rw [upd_ne nq]; exact h', by rw [upd_ne (ne_of hd' hp (fun z => nomatch z))]; exact hd', f1, f2, f3, r'⟩
theorem wipe_apart {σ σ' : L2.St} : ∀ {vs : List Nat}, (∀ j, j ∉ vs → σ'[j]? = σ[j]?) → σ'.length = σ.length → wipe σ' vs = wipe σ vs := fun {vs} h hl => by
  apply List.ext_getElem?
  intro j
  have get : ∀ (τ : L2.St) (vs : List Nat), (wipe τ vs)[j]? = if j ∈ vs ∧ j < τ.length then some none else τ[j]? := fun τ vs => by
    induction vs with
    | nil => simp [wipe]
    | cons v vs ih =>
      unfold wipe
      by_cases e : v = j
      · subst e
        by_cases hlt : v < τ.length
        · rw [List.getElem?_set_self (by rw [wipe_length]; exact hlt)]
          simp [hlt]
        · rw [List.getElem?_eq_none (by rw [List.length_set, wipe_length]; omega)]
          simp [hlt]
      · rw [List.getElem?_set_ne e, ih]
        have : (j ∈ v :: vs) ↔ j ∈ vs := by simp [Ne.symm e]
        simp only [this]
  rw [get, get, hl]
  by_cases hj : j ∈ vs
  · by_cases hlt : j < σ.length
    · simp [hj, hlt]
    · have h1 : σ'[j]? = none := List.getElem?_eq_none (by omega)
      have h2 : σ[j]? = none := List.getElem?_eq_none (by omega)
      simp only [hlt, and_false, if_false, h1, h2]
  · simp [hj, h j hj]
end
section
variable {X : Cx} {own own' ts vs : List Nat} {si : SI} {sg : SG} {st : SB} {se : SE}
theorem comp_of (hv : ∀ i ∈ vs, i ∉ own) (hts : ∀ i ∈ ts, i ∈ vs) {σ : L2.St} {H : Hp} {Q : VK} (h : tF X own (sComp vs si sg st se) σ H Q) : tLc (tI X own si) (tG X own own' ts sg) (tB X own' st) (tE X own' se) vs σ H Q := by
  obtain ⟨g0, H0, ρ, g, S, E, q⟩ := h
  obtain ⟨d, S', e1, k⟩ := Res.post_ex q
  obtain ⟨ds, S1, e2, e1⟩ := Res.then_ex e1
  obtain ⟨ys, S2, e3, e1⟩ := Res.then_ex e1
  split at e1
  · rename_i hz
    cases e1
    obtain ⟨ds', ed, k⟩ := k
    cases ed
    refine ⟨g0, H0, ρ, g, S, E, ?_⟩
    rw [e2]
    intro J g1 H1 G1 s1 wk L hL
    have hHL : H L = none := by
      cases q : H L with
      | none => rfl
      | some o => exact absurd hL (s1.there L (by rw [q]; exact fun z => nomatch z))
    have hH0L := E.new0 hHL
    have other := E.other hHL
    have E1 := E.step G1 s1
    refine ⟨fun i m H2 => m + i = ds.length ∧ ∃ g2 S2' acc as, EnvOk X.K X.mg g0 H0 own (wipeE ρ vs) (wipe σ vs) g2 H2 S2' ∧ Stp g H g2 H2 ∧ GLe g1 g2 ∧ H2 L = some (.lst acc) ∧ g2.F L = none ∧ L ∉ g2.as ∧ Reps X.K X.mg g2 acc as ∧
      ∃ zs, compL (cBody sg st se (wipeE ρ vs)) (ds.drop i) S2' = .ok zs S' ∧ as ++ zs = ys, ⟨ds.length, rfl, g1, S1, [], [], ?_⟩, ?_⟩
    · refine ⟨(E1.step (G1.fresh hL) (stp_fresh hL)).wipe hv, s1.trans (stp_fresh hL), .refl _, upd_same, G1.nfree hL, G1.notin hL, .nil, ys, ?_, rfl⟩
      rw [List.drop_zero]
      exact e3
    · rintro i m H2 ⟨hm, g2, S3, acc, as, E2, s2, l2, hLa, hLF, hLA, rs, zs, ez, eys⟩
      have hneL : ∀ j ∈ own, (wipe σ vs)[j]? ≠ some (some (.ref L)) := fun j hj e => other j hj (wipe_some e).1
      obtain ⟨w1, w2⟩ := wk g2 H2 S3 E2.gok l2 i
      cases hd : ds[i]? with
      | none =>
        have hlen : ds.length ≤ i := List.getElem?_eq_none_iff.mp hd
        rw [List.drop_eq_nil_of_le hlen] at ez
        cases ez
        rw [List.append_nil] at eys
        subst eys
        exact .inl ⟨w2 (by omega), k L acc g2 H2 E2.gok s2 hLa hLF hLA hHL rs⟩
      | some d =>
        obtain ⟨go, y⟩ := w1 d hd
        have hlt : i < ds.length := (List.getElem?_eq_some_iff.mp hd).1
        have hdrop : ds.drop i = d :: ds.drop (i + 1) := by
          rw [List.drop_eq_getElem_cons hlt]
          congr 1
          exact (List.getElem?_eq_some_iff.mp hd).2
        rw [hdrop] at ez
        obtain ⟨yo, S4, e4, e5⟩ := Res.then_ex ez
        obtain ⟨zs', S5, e6, e7⟩ := Res.then_ex e5
        cases e7
        refine .inr ⟨go, _, fun H' z => z, fun x H' hy => ?_⟩
        obtain ⟨g3, G3, s3, r3⟩ := y x H' hy
        cases hsg : sg d (wipeE ρ vs) with
        | none => unfold cBody at e4; rw [hsg] at e4; cases e4
        | some ρ3 =>
          have eb : cBody sg st se (wipeE ρ vs) d S3 = (st ρ3 S3).then fun b S1 => if b then (se ρ3 S1).then fun y S2 => .ok (some y) S2 else .ok none S1 := by unfold cBody; rw [hsg]
          rw [eb] at e4
          have E3 := E2.step G3 s3
          refine ⟨g0, H0, wipeE ρ vs, g3, S3, d, ρ3, E3, r3, hsg, fun σ4 ap E4 => ⟨?_, ?_⟩⟩
          · have a1 : wipe σ4 vs = wipe (wipe σ vs) vs := wipe_apart (fun j hj => ap.2 j fun z => hj (hts j z)) ap.1
            rw [a1]
            exact wipe_apart (fun j hj => wipe_out hj) (wipe_length _ _)
          · obtain ⟨b, S6, e8, e9⟩ := Res.then_ex e4
            refine ⟨g0, H0, ρ3, g3, S3, E4, ?_⟩
            rw [e8]
            intro g7 H7 G7 s7
            have sl : Stp g2 H2 g7 H7 := s3.trans s7
            cases b with
            | true =>
              rw [if_pos rfl]
              have e9' : ((se ρ3 S6).then fun y S2 => Res.ok (some y) S2) = .ok yo S4 := e9
              obtain ⟨yv, S8, e10, e11⟩ := Res.then_ex e9'
              cases e11
              refine ⟨g0, H0, ρ3, g7, S6, E4.step G7 s7, ?_⟩
              rw [e10]
              intro v g8 H8 G8 s8 r8
              have s28 := sl.trans s8
              have hL8 : H8 L = some (.lst acc) := s28.keep _ _ hLa hLA
              have hF8 : g8.F L = none := (s28.stay hLa hLF hLA fun _ z => nomatch z).1
              have hA8 : L ∉ g8.as := fun z => (s28.newA L z).elim hLA fun z => by rw [hLa] at z; cases z
              have E8 := (E2.step G8 s28).aside (o := .lst (acc ++ [v])) hL8 hF8 hA8 hH0L hneL
              have hys : (as ++ yv :: zs').length ≤ sizeLine := by
                have : as ++ (match some yv with | some y => y :: zs' | none => zs') = ys := eys
                have e : as ++ yv :: zs' = ys := this
                rw [e]; exact hz
              refine ⟨acc, hL8, ?_, m - 1, by omega, by omega, g8, _, acc ++ [v], as ++ [yv], E8, ?_, l2.trans s28.le, upd_same, hF8, hA8, (rs.mono s28.le).append (.one r8), zs', e6, ?_⟩
              · rw [rs.length]
                rw [List.length_append, List.length_cons] at hys
                omega
              · refine ⟨s2.le.trans s28.le, fun b u e n => ?_, fun b e => ?_, fun b e => (s2.trans s28).newF b e, fun b e => (s2.trans s28).newA b e⟩
                · rw [upd_ne (fun z : b = L => by rw [z, hHL] at e; cases e)]
                  exact (s2.trans s28).keep b u e n
                · by_cases z : b = L
                  · rw [z, upd_same]; exact fun z => nomatch z
                  · rw [upd_ne z]; exact (s2.trans s28).there b e
              · rw [List.append_assoc]; exact eys
            | false =>
              rw [if_neg Bool.false_ne_true]
              have e9' : (Res.ok none S6 : Res (Option D)) = .ok yo S4 := e9
              cases e9'
              have hL8 : H7 L = some (.lst acc) := sl.keep _ _ hLa hLA
              have hF8 : g7.F L = none := (sl.stay hLa hLF hLA fun _ z => nomatch z).1
              have hA8 : L ∉ g7.as := fun z => (sl.newA L z).elim hLA fun z => by rw [hLa] at z; cases z
              exact ⟨m - 1, by omega, by omega, g7, _, acc, as, E2.step G7 sl, s2.trans sl, l2.trans sl.le, hL8, hF8, hA8, rs.mono sl.le, zs', e6, eys⟩
  · cases e1
end
end Ev
namespace Ev
open PySem PySem.Spec PyProof.Rows L2
def SimTs (X : Cx) (own : List Nat) (ifs : List Expr) (sb : SB) : Prop := PTs X ifs (tB X own sb)
section
variable {X : Cx} {own own' own1 ob ts vs : List Nat} {e' : Stmt} {e c elt tg iter : Expr} {ifs : List Expr} {si : SI} {sg : SG} {st sb : SB} {se : SE} {ss : SS} {scope : Scope} {ownc : List (Str × Nat)} {pos spos py : Pos} {i : Nat} {y : Str}
theorem pts_weak {t t' : TT} (h : PTs X ifs t) (w : ∀ σ H Q, t' σ H Q → t σ H Q) : PTs X ifs t' := ⟨fun pins s σ H Q I q => h.run pins s σ H Q I (w σ H Q q)⟩
theorem simts_nil : SimTs X own [] sYes := pts_weak pts_nil fun σ H Q ⟨g0, H0, ρ, g, S, E, q⟩ => q g H E.gok .refl
theorem simts_one (h : SimT X own c sb) : SimTs X own [c] sb := pts_one h
def noneIn (vs own : List Nat) : Bool := vs.all fun i => !own.contains i
theorem noneIn_ok {vs own : List Nat} (h : noneIn vs own = true) : ∀ i ∈ vs, i ∉ own := fun i hi => by
  have := List.all_eq_true.mp h i hi
  simpa using this
/-- [elt for tg in iter if ..] -/
theorem simf_comp (hc : X.calm = true) (hN : X.N.Nodup) (hi : SimI X own tg iter si) (ok : BlkOk X.N X.env.scope scope ownc)
    (hg : ∀ (s : Shared) (H : Hp) (C : Addr) (cl : List (Str × Addr)) (fp : List Addr), SimG (X.blk s H scope (compEnvC scope cl C X.env) fp) own own' ts tg sg)
    (ht : ∀ (s : Shared) (H : Hp) (C : Addr) (cl : List (Str × Addr)) (fp : List Addr), SimTs (X.blk s H scope (compEnvC scope cl C X.env) fp) own' ifs st)
    (he : ∀ (s : Shared) (H : Hp) (C : Addr) (cl : List (Str × Addr)) (fp : List Addr), SimE (X.blk s H scope (compEnvC scope cl C X.env) fp) own' elt se)
    (hv : noneIn (ownc.map (·.2)) own = true := by rfl) (hts : subL ts (ownc.map (·.2)) = true := by rfl) (hs : ∀ x, foldedSetIterable iter X.env x = pure x := by intro _; rfl) :
    SimF X own (.ListComp elt [⟨tg, iter, ifs, 0⟩] scope pos) (sComp (ownc.map (·.2)) si sg st se) :=
  pe_weak (pe_lc (g := tG X own own' ts sg) (tt := tB X own' st) (te := tE X own' se) hc hN hi ok (fun s H C cl fp => hg s H C cl fp) (fun s H C cl fp => ht s H C cl fp) (fun s H C cl fp => he s H C cl fp) hs) fun _ _ _ h => comp_of (noneIn_ok hv) (subL_ok hts) h
theorem tF_of {σ : L2.St} {H : Hp} {Q : VK} (hl : ∀ ρ S d S', se ρ S = .ok d S' → ∃ ds, d = .lst ds) (h : tE X own se σ H Q) : tF X own se σ H Q := by
  obtain ⟨g0, H0, ρ, g, S, E, q⟩ := h
  obtain ⟨d, S', e1, k⟩ := Res.post_ex q
  obtain ⟨ds, rfl⟩ := hl _ _ _ _ e1
  refine ⟨g0, H0, ρ, g, S, E, ?_⟩
  rw [e1]
  refine ⟨ds, rfl, fun p vs g' H' G s h1 h2 h3 h4 r => ?_⟩
  have le := gle_add (o := .lst vs) h2
  refine k _ (g'.add p (.lst vs)) H' (G.freeze h1 h2 h3) ⟨s.le.trans le, s.keep, s.there, fun a ha => ?_, s.newA⟩ (.lst (by exact upd_same) (r.mono le))
  by_cases e : a = p
  · subst e; exact .inr (.inl h4)
  · have ha' : upd g'.F p (.lst vs) a ≠ none := ha
    rw [upd_ne e] at ha'
    exact s.newF a ha'
/-- y = [..], y a local, on one line -/
theorem sim_setLc (hc : X.calm = true) (hN : X.N.Nodup) (hy : X.N[i]? = some y) (hyl : X.env.scope.names.lookup y = some .local)
    (hsw : swapsWith (.ListComp elt [⟨tg, iter, ifs, 0⟩] scope pos) (some (.Name y py)) spos.line X.env = pure true) (hi : SimI X own tg iter si) (ok : BlkOk X.N X.env.scope scope ownc)
    (hg : ∀ (s : Shared) (H : Hp) (C : Addr) (cl : List (Str × Addr)) (fp : List Addr), SimG (X.blk s H scope (compEnvC scope cl C X.env) fp) own own' ts tg sg)
    (ht : ∀ (s : Shared) (H : Hp) (C : Addr) (cl : List (Str × Addr)) (fp : List Addr), SimTs (X.blk s H scope (compEnvC scope cl C X.env) fp) own' ifs st)
    (he : ∀ (s : Shared) (H : Hp) (C : Addr) (cl : List (Str × Addr)) (fp : List Addr), SimE (X.blk s H scope (compEnvC scope cl C X.env) fp) own' elt se)
    (hv : noneIn (ownc.map (·.2)) own = true := by rfl) (hts : subL ts (ownc.map (·.2)) = true := by rfl) (hs : ∀ x, foldedSetIterable iter X.env x = pure x := by intro _; rfl) :
    SimS X own (i :: er own i) ob (.Assign [.Name y py] (.ListComp elt [⟨tg, iter, ifs, 0⟩] scope pos) spos) (sSet i (sComp (ownc.map (·.2)) si sg st se)) :=
  ps_weakN (ps_setLc (g := tG X own own' ts sg) (tt := tB X own' st) (te := tE X own' se) hc hN hy hyl hsw hi ok (fun s H C cl fp => hg s H C cl fp) (fun s H C cl fp => ht s H C cl fp) (fun s H C cl fp => he s H C cl fp) hs) fun _ _ _ hσ h => comp_of (noneIn_ok hv) (subL_ok hts) (setF_of (List.getElem?_eq_some_iff.mp hy).1 hσ (fun _ _ _ _ e => sComp_lst e) h)

/-! ### a, b = x, y and the like; m true: a new list, owned from now on -/
def MR (K : PySem.W.Frag) (mg : Str → Option Value) (m : Bool) (g : Gh) (H Hp0 : Hp) (v : V) (d : D) : Prop := match m with
  | true => ∃ p ws es, v = .ref p ∧ d = .lst es ∧ H p = some (.lst ws) ∧ g.F p = none ∧ p ∉ g.as ∧ Hp0 p = none ∧ Reps K mg g ws es
  | false => Rep K mg g v d
def owm (m : Bool) (i : Nat) (own : List Nat) : List Nat := match m with
  | true => i :: er own i
  | false => er own i
def tX (X : Cx) (m : Bool) (own : List Nat) (se : SE) : TE := fun σ H Q => ∃ g0 H0 ρ g S, EnvOk X.K X.mg g0 H0 own ρ σ g H S ∧ (se ρ S).post fun d S' => ∀ v g' H', GOk X.K X.mg g' H' S' → Stp g H g' H' → MR X.K X.mg m g' H' H v d → Q v H'
def SimX (X : Cx) (m : Bool) (own : List Nat) (e : Expr) (se : SE) : Prop := PE X e (tX X m own se)
theorem SimE.x (h : SimE X own e se) : SimX X false own e se := h
theorem SimF.x (h : SimF X own e se) (hl : ∀ ρ S d S', se ρ S = .ok d S' → ∃ ds, d = .lst ds) : SimX X true own e se := pe_weak h fun σ H Q ⟨g0, H0, ρ, g, S, E, q⟩ => by
  obtain ⟨d, S', e1, k⟩ := Res.post_ex q
  obtain ⟨ds, rfl⟩ := hl _ _ _ _ e1
  refine ⟨g0, H0, ρ, g, S, E, ?_⟩
  rw [e1]
  exact ⟨ds, rfl, fun p vs g' H' G s h1 h2 h3 h4 r => k _ g' H' G s ⟨p, vs, ds, rfl, rfl, h1, h2, h3, h4, r⟩⟩
theorem EnvOk.setX {K : PySem.W.Frag} {mg : Str → Option Value} {g0 g g' : Gh} {H0 H H' : Hp} {S S' : Sto} {own : List Nat} {ρ : DEnv} {σ : L2.St} (E : EnvOk K mg g0 H0 own ρ σ g H S) {m : Bool} {v : V} {d : D} {i : Nat} (hi : i < ρ.length)
    (G : GOk K mg g' H' S') (s : Stp g H g' H') (r : MR K mg m g' H' H v d) : EnvOk K mg g0 H0 (owm m i own) (ρ.set i (some d)) (σ.set i (some v)) g' H' S' := by
  cases m with
  | true =>
    obtain ⟨p, ws, es, rfl, rfl, h1, h2, h3, h4, r⟩ := r
    exact (E.step G s).setF hi h1 h2 h3 (E.new0 h4) r (E.other h4)
  | false => exact (E.step G s).set r
variable {m1 m2 m3 : Bool} {a b : Expr} {sa sb' sc : SE} {j l : Nat}
def sPar2 (i j : Nat) (sa sb : SE) : SS := fun ρ S => (sa ρ S).then fun d1 S1 => (sb ρ S1).then fun d2 S2 => .ok (.nx ((ρ.set i (some d1)).set j (some d2))) S2
def sPar3 (i j l : Nat) (sa sb sc : SE) : SS := fun ρ S => (sa ρ S).then fun d1 S1 => (sb ρ S1).then fun d2 S2 => (sc ρ S2).then fun d3 S3 => .ok (.nx (((ρ.set i (some d1)).set j (some d2)).set l (some d3))) S3
theorem par2_of (hi : i < X.N.length) (hj : j < X.N.length) {D : Ends} {σ : L2.St} {H : Hp} (hσ : σ.length = X.N.length) (h : tS X own (owm m2 j (owm m1 i own)) ob (sPar2 i j sa sb') D σ H) :
    tX X m1 own sa σ H fun v H1 => tX X m2 own sb' σ H1 fun w H2 => ∃ (g : Gh) (S : Sto), GOk X.K X.mg g H2 S ∧ ∀ g' H', GOk X.K X.mg g' H' S → Stp g H2 g' H' → D.nx ((σ.set i (some v)).set j (some w)) H' := by
  obtain ⟨g0, H0, ρ, g, S, E, q⟩ := h
  obtain ⟨o, S', e1, k⟩ := Res.post_ex q
  obtain ⟨d1, S1, e2, e1⟩ := Res.then_ex e1
  obtain ⟨d2, S2, e3, e1⟩ := Res.then_ex e1
  cases e1
  refine ⟨g0, H0, ρ, g, S, E, ?_⟩
  rw [e2]
  intro v g1 H1 G1 s1 r1
  refine ⟨g0, H0, ρ, g1, S1, E.step G1 s1, ?_⟩
  rw [e3]
  intro w g2 H2 G2 s2 r2
  have E1 := E.setX (i := i) (by rw [E.len, hσ]; exact hi) G1 s1 r1
  have E2 := E1.setX (i := j) (by rw [List.length_set, E.len, hσ]; exact hj) G2 s2 r2
  exact ⟨g2, _, G2, fun g' H' G' s' => k _ g' H' ((s1.trans s2).trans s').le (E2.step G' s')⟩
theorem par3_of (hi : i < X.N.length) (hj : j < X.N.length) (hl : l < X.N.length) {D : Ends} {σ : L2.St} {H : Hp} (hσ : σ.length = X.N.length) (h : tS X own (owm m3 l (owm m2 j (owm m1 i own))) ob (sPar3 i j l sa sb' sc) D σ H) :
    tX X m1 own sa σ H fun v H1 => tX X m2 own sb' σ H1 fun w H2 => tX X m3 own sc σ H2 fun u H3 => ∃ (g : Gh) (S : Sto), GOk X.K X.mg g H3 S ∧ ∀ g' H', GOk X.K X.mg g' H' S → Stp g H3 g' H' → D.nx (((σ.set i (some v)).set j (some w)).set l (some u)) H' := by
  obtain ⟨g0, H0, ρ, g, S, E, q⟩ := h
  obtain ⟨o, S', e1, k⟩ := Res.post_ex q
  obtain ⟨d1, S1, e2, e1⟩ := Res.then_ex e1
  obtain ⟨d2, S2, e3, e1⟩ := Res.then_ex e1
  obtain ⟨d3, S3, e4, e1⟩ := Res.then_ex e1
  cases e1
  refine ⟨g0, H0, ρ, g, S, E, ?_⟩
  rw [e2]
  intro v g1 H1 G1 s1 r1
  refine ⟨g0, H0, ρ, g1, S1, E.step G1 s1, ?_⟩
  rw [e3]
  intro w g2 H2 G2 s2 r2
  refine ⟨g0, H0, ρ, g2, S2, E.step G2 (s1.trans s2), ?_⟩
  rw [e4]
  intro u g3 H3 G3 s3 r3
  have E1 := E.setX (i := i) (by rw [E.len, hσ]; exact hi) G1 s1 r1
  have E2 := E1.setX (i := j) (by rw [List.length_set, E.len, hσ]; exact hj) G2 s2 r2
  have E3 := E2.setX (i := l) (by rw [List.length_set, List.length_set, E.len, hσ]; exact hl) G3 s3 r3
  exact ⟨g3, _, G3, fun g' H' G' s' => k _ g' H' (((s1.trans s2).trans s3).trans s').le (E3.step G' s')⟩
section
variable {x y z : Str} {px py' pz pt pt2 : Pos} {kt k2 : Nat}
/-- both names plain locals: no tuple is made -/
theorem sim_par2 (hpe : ∀ {ta : TA}, PA X [a, b] ta → PS X e' (tPar i j ta)) (hi : X.N[i]? = some x) (hj : X.N[j]? = some y) (ha : SimX X m1 own a sa) (hb : SimX X m2 own b sb')
    (h1 : starEach (a :: [b]) X.env = (false, eval a X.env) :: starEach [b] X.env := by rfl) (h2 : starEach (b :: []) X.env = (false, eval b X.env) :: starEach [] X.env := by rfl) : SimS X own (owm m2 j (owm m1 i own)) ob e' (sPar2 i j sa sb') :=
  ps_weakN (hpe (pa_cons ha (pa_cons hb pa_nil h2) h1)) fun D σ H hσ h => by
    obtain ⟨g0, H0, ρ, g, S, E, q⟩ := par2_of (List.getElem?_eq_some_iff.mp hi).1 (List.getElem?_eq_some_iff.mp hj).1 hσ h
    refine ⟨g0, H0, ρ, g, S, E, Res.post_mono q fun d S' k v g1 H1 G1 s1 r1 => ?_⟩
    obtain ⟨g0', H0', ρ', g', S', E', q'⟩ := k v g1 H1 G1 s1 r1
    refine ⟨g0', H0', ρ', g', S', E', Res.post_mono q' fun d S' k v2 g2 H2 G2 s2 r2 => ?_⟩
    obtain ⟨g3, S3, G3, k3⟩ := k v2 g2 H2 G2 s2 r2
    exact ⟨v, v2, rfl, k3 g3 H2 G3 .refl⟩
theorem sim_par3 (hpe : ∀ {ta : TA}, PA X [a, b, c] ta → PS X e' (tPar3 i j l ta)) (hi : X.N[i]? = some x) (hj : X.N[j]? = some y) (hl : X.N[l]? = some z) (ha : SimX X m1 own a sa) (hb : SimX X m2 own b sb') (hc : SimX X m3 own c sc)
    (h1 : starEach (a :: [b, c]) X.env = (false, eval a X.env) :: starEach [b, c] X.env := by rfl) (h2 : starEach (b :: [c]) X.env = (false, eval b X.env) :: starEach [c] X.env := by rfl) (h3 : starEach (c :: []) X.env = (false, eval c X.env) :: starEach [] X.env := by rfl) : SimS X own (owm m3 l (owm m2 j (owm m1 i own))) ob e' (sPar3 i j l sa sb' sc) :=
  ps_weakN (hpe (pa_cons ha (pa_cons hb (pa_cons hc pa_nil h3) h2) h1)) fun D σ H hσ h => by
    obtain ⟨g0, H0, ρ, g, S, E, q⟩ := par3_of (List.getElem?_eq_some_iff.mp hi).1 (List.getElem?_eq_some_iff.mp hj).1 (List.getElem?_eq_some_iff.mp hl).1 hσ h
    refine ⟨g0, H0, ρ, g, S, E, Res.post_mono q fun d S' k v g1 H1 G1 s1 r1 => ?_⟩
    obtain ⟨g0', H0', ρ', g', S', E', q'⟩ := k v g1 H1 G1 s1 r1
    refine ⟨g0', H0', ρ', g', S', E', Res.post_mono q' fun d S' k v2 g2 H2 G2 s2 r2 => ?_⟩
    obtain ⟨g0'', H0'', ρ'', g'', S'', E'', q''⟩ := k v2 g2 H2 G2 s2 r2
    refine ⟨g0'', H0'', ρ'', g'', S'', E'', Res.post_mono q'' fun d S' k v3 g4 H4 G4 s4 r4 => ?_⟩
    obtain ⟨g3, S3, G3, k3⟩ := k v3 g4 H4 G4 s4 r4
    exact ⟨v, v2, v3, rfl, k3 g3 H4 G3 .refl⟩
/-- some name captured: the tuple is made, and taken apart -/
theorem sim_tpar2 (hcalm : X.calm = true) (hN : X.N.Nodup) (hi : X.N[i]? = some x) (hx : Loc X.env.scope x) (hj : X.N[j]? = some y) (hy : Loc X.env.scope y) (ha : SimX X m1 own a sa) (hb : SimX X m2 own b sb')
    (hs : swapsWithSole [.Tuple [.Name x px, .Name y py'] kt pt] (.Tuple [a, b] k2 pt2) pos.line X.env = pure false := by rfl) (hw : swappedStores [.Tuple [.Name x px, .Name y py'] kt pt] (.Tuple [a, b] k2 pt2) X.env = pure none := by rfl)
    (hfx : X.fn x = true ∨ X.env.scope.names.lookup x = some .local := by first | exact .inl rfl | exact .inr rfl | assumption) (hfy : X.fn y = true ∨ X.env.scope.names.lookup y = some .local := by first | exact .inl rfl | exact .inr rfl | assumption)
    (h1 : starEach (a :: [b]) X.env = (false, eval a X.env) :: starEach [b] X.env := by rfl) (h2 : starEach (b :: []) X.env = (false, eval b X.env) :: starEach [] X.env := by rfl) :
    SimS X own (owm m2 j (owm m1 i own)) ob (.Assign [.Tuple [.Name x px, .Name y py'] kt pt] (.Tuple [a, b] k2 pt2) pos) (sPar2 i j sa sb') :=
  ps_weakN (ps_asg (pe_tup (pa_cons ha (pa_cons hb pa_nil h2) h1)) (pg_tup hcalm (pgs_cons (pg_name hN hi hx hfx) (pgs_cons (pg_name hN hj hy hfy) pgs_nil))) hs hw) fun D σ H hσ h => by
    obtain ⟨g0, H0, ρ, g, S, E, q⟩ := par2_of (List.getElem?_eq_some_iff.mp hi).1 (List.getElem?_eq_some_iff.mp hj).1 hσ h
    refine ⟨g0, H0, ρ, g, S, E, Res.post_mono q fun d S' k v g1 H1 G1 s1 r1 => ?_⟩
    obtain ⟨g0', H0', ρ', g', S', E', q'⟩ := k v g1 H1 G1 s1 r1
    refine ⟨g0', H0', ρ', g', S', E', Res.post_mono q' fun d S' k v2 g2 H2 G2 s2 r2 => ?_⟩
    obtain ⟨g3, S3, G3, k3⟩ := k v2 g2 H2 G2 s2 r2
    refine ⟨by show 2 ≤ sizeLine; decide, fun p hp => ⟨p, _, rfl, SqT.of upd_same, rfl, v, _, rfl, v2, _, rfl, rfl, ?_⟩⟩
    exact k3 g3 _ (G3.fresh hp) (stp_fresh hp)
theorem sim_tpar3 (hcalm : X.calm = true) (hN : X.N.Nodup) (hi : X.N[i]? = some x) (hx : Loc X.env.scope x) (hj : X.N[j]? = some y) (hy : Loc X.env.scope y) (hl : X.N[l]? = some z) (hz : Loc X.env.scope z) (ha : SimX X m1 own a sa) (hb : SimX X m2 own b sb') (hc : SimX X m3 own c sc)
    (hs : swapsWithSole [.Tuple [.Name x px, .Name y py', .Name z pz] kt pt] (.Tuple [a, b, c] k2 pt2) pos.line X.env = pure false := by rfl) (hw : swappedStores [.Tuple [.Name x px, .Name y py', .Name z pz] kt pt] (.Tuple [a, b, c] k2 pt2) X.env = pure none := by rfl)
    (hfx : X.fn x = true ∨ X.env.scope.names.lookup x = some .local := by first | exact .inl rfl | exact .inr rfl | assumption) (hfy : X.fn y = true ∨ X.env.scope.names.lookup y = some .local := by first | exact .inl rfl | exact .inr rfl | assumption) (hfz : X.fn z = true ∨ X.env.scope.names.lookup z = some .local := by first | exact .inl rfl | exact .inr rfl | assumption)
    (h1 : starEach (a :: [b, c]) X.env = (false, eval a X.env) :: starEach [b, c] X.env := by rfl) (h2 : starEach (b :: [c]) X.env = (false, eval b X.env) :: starEach [c] X.env := by rfl) (h3 : starEach (c :: []) X.env = (false, eval c X.env) :: starEach [] X.env := by rfl) :
    SimS X own (owm m3 l (owm m2 j (owm m1 i own))) ob (.Assign [.Tuple [.Name x px, .Name y py', .Name z pz] kt pt] (.Tuple [a, b, c] k2 pt2) pos) (sPar3 i j l sa sb' sc) :=
  ps_weakN (ps_asg (pe_tup (pa_cons ha (pa_cons hb (pa_cons hc pa_nil h3) h2) h1)) (pg_tup hcalm (pgs_cons (pg_name hN hi hx hfx) (pgs_cons (pg_name hN hj hy hfy) (pgs_cons (pg_name hN hl hz hfz) pgs_nil)))) hs hw) fun D σ H hσ h => by
    obtain ⟨g0, H0, ρ, g, S, E, q⟩ := par3_of (List.getElem?_eq_some_iff.mp hi).1 (List.getElem?_eq_some_iff.mp hj).1 (List.getElem?_eq_some_iff.mp hl).1 hσ h
    refine ⟨g0, H0, ρ, g, S, E, Res.post_mono q fun d S' k v g1 H1 G1 s1 r1 => ?_⟩
    obtain ⟨g0', H0', ρ', g', S', E', q'⟩ := k v g1 H1 G1 s1 r1
    refine ⟨g0', H0', ρ', g', S', E', Res.post_mono q' fun d S' k v2 g2 H2 G2 s2 r2 => ?_⟩
    obtain ⟨g0'', H0'', ρ'', g'', S'', E'', q''⟩ := k v2 g2 H2 G2 s2 r2
    refine ⟨g0'', H0'', ρ'', g'', S'', E'', Res.post_mono q'' fun d S' k v3 g4 H4 G4 s4 r4 => ?_⟩
    obtain ⟨g3, S3, G3, k3⟩ := k v3 g4 H4 G4 s4 r4
    refine ⟨by show 3 ≤ sizeLine; decide, fun p hp => ⟨p, _, rfl, SqT.of upd_same, rfl, v, _, rfl, v2, _, rfl, v3, _, rfl, rfl, ?_⟩⟩
    exact k3 g3 _ (G3.fresh hp) (stp_fresh hp)
end
end
/-! ### a def's promise by its body -/
def outD (r : Res Out) : Res D := r.then fun o S => match o with
  | .nx _ => .ok .non S
  | .rt d => .ok d S
  | _ => .bad
/-- a def of n names, its body's meaning b -/
def runD (n : Nat) (b : SS) : List D → M D := fun ds S => outD (b (ds.map some ++ List.replicate (n - ds.length) none) S)
theorem start_get {n : Nat} {ds : List D} {i : Nat} {d : D} (h : (ds.map some ++ List.replicate (n - ds.length) (none : Option D))[i]? = some (some d)) : ds[i]? = some d := by
  by_cases hi : i < ds.length
  · rw [List.getElem?_append_left (by simpa using hi), List.getElem?_map] at h
    cases q : ds[i]? with
    | none => rw [q] at h; cases h
    | some x => rw [q] at h; cases h; rfl
  · rw [List.getElem?_append_right (by simpa using hi), List.getElem?_replicate] at h
    split at h <;> cases h
theorem env_start {K : PySem.W.Frag} {mg : Str → Option Value} {g : Gh} {H : Hp} {S : Sto} {vs : List V} {ds : List D} {N : List Str} (G : GOk K mg g H S) (r : Reps K mg g vs ds) (hn : ds.length ≤ N.length) : EnvOk K mg g H [] (ds.map some ++ List.replicate (N.length - ds.length) none) (L2.start N vs) g H S where
  gok := G
  stp := .refl
  len := by
    unfold L2.start
    rw [List.length_append, List.length_append, List.length_map, List.length_map, List.length_replicate, List.length_replicate, r.length]
  fro := fun i d h _ => by
    have h' := start_get h
    obtain ⟨v, hv, rv⟩ := r.get h'
    refine ⟨v, ?_, rv⟩
    unfold L2.start
    have hlt := (List.getElem?_eq_some_iff.mp hv).1
    rw [List.getElem?_append_left (by simpa using hlt), List.getElem?_map, hv] <;> rfl
  ow := fun i hi => by cases hi
  dis := fun i hi => by cases hi
section
variable {P : Program} {w : World} {K : PySem.W.Frag} {mg : Str → Option Value} {base : Heap}
/-- the context of a def's body: nothing leaves it -/
abbrev Ctx (P : Program) (w : World) (K : PySem.W.Frag) (mg : Str → Option Value) (base : Heap) (N : List Str) (qual : Str) (scope : Scope) (f : Addr) (cd : Value) (A : Around) (outer : List Env) (s : Shared) (H : Hp) (E : XK) : Cx := (cxOf CX0 P w K mg base N qual scope f cd A outer s H E).nox
/-- THE RULE for a def -/
theorem gf_of {x qual : Str} {st : Stmt} {f : Addr} {fd : FuncData} {N ps : List Str} {k n : Nat} {b : SS} (F : FunD K x qual (defArgs st) (defBody st) (defScope st) [] [] f fd) {y : Str} (hm : mg y = some (.ref f)) (Sc : FnScope N ps (defScope st)) (hn : ps.length = n) (hN : n ≤ N.length)
    (hb : ∀ (kV doc pm : Value) (an : Option Addr) (cdv ct : Value) (us : List Value), us.length = ps.length → bindArgs (PySem.W.fnOf x qual (defArgs st) (defBody st) (defScope st) .none kV doc pm an cdv ct) ⟨us, []⟩ = pure (ps.zip us))
    (body : ∀ (cdv : Value) (A : Around) (outer : List Env) (s : Shared) (H : Hp) (E : XK), Room k (A.deeper (envOfC qual (defScope st) s.heap.objs.size f cdv)) → SimB (Ctx P w K mg base N qual (defScope st) f cdv A outer s H E) [] [] [] (defBody st) b) :
    GF P w K mg base (k + 1) y n (runD N.length b) := by
  refine ⟨f, fd, ps, hm, F.kp, F.bindsN hb, F.ok Sc (fun vs H Q E h => ?_) (fun cdv A outer s H vs Q E hr h => ⟨_, PSs.nox (body cdv A outer s H E hr), ?_⟩)⟩
  · obtain ⟨g, ds, S, G, r, hl, _⟩ := h
    rw [r.length, hl, hn]
  · obtain ⟨g, ds, S, G, r, hl, q⟩ := h
    refine ⟨g, H, _, g, S, env_start (N := N) G r (by rw [hl]; exact hN), ?_⟩
    have q' : (runD N.length b ds S).post _ := q
    unfold runD outD at q'
    refine Res.post_mono (Res.post_then.mp q') fun o S' k => ?_
    cases o with
    | nx ρ => exact fun σ g1 H1 l1 E1 => k _ g1 H1 E1.gok E1.stp .non
    | rt d => exact fun v g1 H1 G1 s1 r1 => k v g1 H1 G1 s1 r1
    | bk ρ => exact k.elim
    | ct ρ => exact k.elim
end
end Ev
namespace Ev
open PySem PySem.Spec PyProof.Rows L2
/-! ### instances in the making -/
section
variable {K : PySem.W.Frag} {mg : Str → Option Value} {g0 g g' : Gh} {H0 H H' : Hp} {S S' : Sto} {own own' : List Nat} {ρ : DEnv} {σ : L2.St}
theorem EnvOk.writeI (E : EnvOk K mg g0 H0 own ρ σ g H S) {i : Nat} (hi : i ∈ own) {c : Str} {fs gs : List (Str × D)} (h : ρ[i]? = some (some (.obj c fs))) :
    ∃ p C dx fvs, σ[i]? = some (some (.ref p)) ∧ p = g.me ∧ mg c = some (.ref C) ∧ H p = some (.ins C dx fvs) ∧ FReps K mg g fvs fs ∧ ∀ gvs, FReps K mg g gvs gs → EnvOk K mg g0 H0 own (ρ.set i (some (.obj c gs))) σ g (upd H p (.ins C dx gvs)) S := by
  obtain ⟨p, d, h1, h2, a1, a2, a3, a4⟩ := E.ow i hi
  rw [h] at h1
  cases h1
  rcases a4 with ⟨vs, ds', e, hp, r⟩ | ⟨C, dx, c', fvs, fs', ⟨em, e⟩, hm, hp, hd, f1, f2, f3, r⟩
  · cases e
  · cases e
    refine ⟨p, C, dx, fvs, h2, em, hm, hp, r, fun ws rw' => ?_⟩
    have hil : i < ρ.length := (List.getElem?_eq_some_iff.mp h).1
    have Fne : ∀ {b : Addr} {o : HO}, g.F b = some o → b ≠ p := fun {b o} e z => by rw [z, a1] at e; cases e
    have ndp : dx ≠ p := ne_of hd hp (fun z => nomatch z)
    refine ⟨⟨fun b o e => by rw [upd_ne (Fne e)]; exact E.gok.sub _ _ e, E.gok.nd, E.gok.len, E.gok.nf, fun j a ha => ?_⟩, ⟨E.stp.le, fun b o e n => ?_, fun b e => ?_, E.stp.newF, E.stp.newA⟩, by rw [List.length_set]; exact E.len, fun j d' hj n => ?_, fun j hj => ?_, E.dis⟩
    · obtain ⟨kvs, kds, q1, q2, q3⟩ := E.gok.st j a ha
      exact ⟨kvs, kds, by rw [upd_ne (fun z : a = p => a2 (z ▸ List.mem_of_getElem? ha))]; exact q1, q2, q3⟩
    · rw [upd_ne (fun z : b = p => by rw [z, a3] at e; cases e)]
      exact E.stp.keep b o e n
    · by_cases z : b = p
      · rw [z, upd_same]; exact fun z => nomatch z
      · rw [upd_ne z]; exact E.stp.there b e
    · have ne : i ≠ j := fun z => n (z ▸ hi)
      rw [List.getElem?_set_ne ne] at hj
      exact E.fro j d' hj n
    · by_cases e : i = j
      · subst e
        exact ⟨p, _, by rw [List.getElem?_set_self hil], h2, a1, a2, a3, .inr ⟨C, dx, c, ws, gs, ⟨em, rfl⟩, hm, upd_same, by rw [upd_ne ndp]; exact hd, f1, f2, f3, rw'⟩⟩
      · obtain ⟨q, d', q1, q2, b1, b2, b3, b4⟩ := E.ow j hj
        have nq : q ≠ p := fun z => E.dis i hi j hj e (by rw [h2, q2, z])
        refine ⟨q, d', by rw [List.getElem?_set_ne e]; exact q1, q2, b1, b2, b3, ?_⟩
        rcases b4 with ⟨vs', ds', e', h', r'⟩ | ⟨C', dy, c', fvs', fs', e', hm', h', hd', f1, f2, f3, r'⟩
        · exact .inl ⟨vs', ds', e', by rw [upd_ne nq]; exact h', r'⟩
        · exact absurd (e'.1.trans em.symm) nq
end
def sFldI (i : Nat) (cs : List Str) (f : Str) (se : SE) : SS := fun ρ S => (se ρ S).then fun d S' => match ρ[i]? with
  | some (some (.obj c fs)) => if c ∈ cs ∧ fs.length < 1000 then .ok (.nx (ρ.set i (some (.obj c (putD f d fs))))) S' else .bad
  | _ => .bad
theorem putF_eq (f : Str) (v : V) : ∀ fs : List (Str × V), putF f v fs = (match fs with
  | [] => [(f, v)]
  | (x, y) :: r => if x = f then (f, v) :: r else (x, y) :: putF f v r)
  | [] => rfl
  | (x, y) :: r => by
    show (if x = f then (x, v) :: r else (x, y) :: putF f v r) = if x = f then (f, v) :: r else (x, y) :: putF f v r
    by_cases e : x = f
    · subst e; simp
    · simp [e]
section
variable {X : Cx} {own own' own1 ob : List Nat} {e : Expr} {es : List Expr} {se : SE} {sas : List (Bool × SE)} {pos pos' pos2 p : Pos} {i k n : Nat} {x c : Str}
theorem sim_fld {cs : List Str} {f y : Str} (hi : i ∈ own) (ho : PE X (.Name y pos2) (tVar i)) (hv : SimE X own e se) (hA : AttrOk X.K X.mg cs f) (hs : swapsWith e (some (.Attribute (.Name y pos2) f pos')) pos.line X.env = pure false := by rfl) :
    SimS X own own ob (.Assign [.Attribute (.Name y pos2) f pos'] e pos) (sFldI i cs f se) := ps_weak (ps_fld ho hv hs) fun D σ H ⟨g0, H0, ρ, g, S, E, q⟩ => by
  obtain ⟨o, S', e1, k⟩ := Res.post_ex q
  obtain ⟨d, S1, e2, e1⟩ := Res.then_ex e1
  refine ⟨g0, H0, ρ, g, S, E, ?_⟩
  rw [e2]
  intro v g1 H1 G1 s1 r1
  have E1 := E.step G1 s1
  split at e1
  · rename_i c fs h0
    split at e1
    · rename_i hc
      cases e1
      obtain ⟨p, C, dx, fvs, h1, hme, hm, h2, fr, kw⟩ := E1.writeI (gs := putD f d fs) hi h0
      obtain ⟨hcl, hna⟩ := hA c hc.1 C hm
      refine ⟨_, h1, p, C, dx, fvs, rfl, h2, hcl, hna, by rw [fr.length]; exact hc.2, ?_⟩
      exact k _ g1 _ s1.le (kw _ (fr.put r1))
    · cases e1
  · cases e1

/-! ### C(..) -/
def spI (K : PySem.W.Frag) (mg : Str → Option Value) (c : Str) (n : Nat) (m : List D → M D) : Sp := fun vs H Q _ => ∃ g H1 x dx C vs' ds S, mg c = some (.ref C) ∧ vs = .ref x :: vs' ∧ H1 x = none ∧ H1 dx = none ∧ dx ≠ x ∧ H = upd (upd H1 dx (.own x)) x (.ins C dx []) ∧ g.me = x ∧
  GOk K mg g H1 S ∧ Reps K mg g vs' ds ∧ ds.length = n ∧ (m ds S).post fun d S' => ∀ g' H2, GOk K mg g' H2 S' → Stp g H1 g' H2 → Rep K mg g' (.ref x) d → Q .non H2
structure GI (P : Program) (w : World) (K : PySem.W.Frag) (mg : Str → Option Value) (base : Heap) (k : Nat) (c : Str) (n : Nat) (m : List D → M D) : Prop where
  ex : ∃ C f fd ps, mg c = some (.ref C) ∧ Mk K C f ∧ Binds K fd ps [] ∧ FnOk P w K mg base CX0 k f fd ps (spI K mg c n m)
theorem GOk.me {K : PySem.W.Frag} {mg : Str → Option Value} {g : Gh} {H : Hp} {S : Sto} (G : GOk K mg g H S) (x : Addr) : GOk K mg ⟨g.F, g.as, x⟩ H S :=
  ⟨G.sub, G.nd, G.len, G.nf, fun i a h => by
    obtain ⟨kvs, kds, h1, h2, h3⟩ := G.st i a h
    exact ⟨kvs, kds, h1, h2, h3.mono0 (g := g) (g' := ⟨g.F, g.as, x⟩) (Same.refl _) (fun _ _ h => h)⟩⟩
theorem sim_make {m : List D → M D} (F : GI X.prog X.w X.K X.mg X.base k x n m) (hr : Room (k + 1) X.A) (hg : Gl X x) (ha : SimA X own (e :: es) sas) (hn : sas.length = n := by rfl) (hst : (sas.all fun a => !a.1) = true := by rfl) (hdb : (x == ("__debug__" : Str)) = false := by decide)
    (he : starEach (e :: es) X.env = (false, eval e X.env) :: starEach es X.env := by rfl) (hpl : (backTo pos (starEach es X.env)).any (·.1) = false := by rfl) : SimE X own (.Call (.Name x p) (e :: es) [] pos) (sCall m sas) := by
  obtain ⟨C, f, fd, ps, hm, M, hb, F⟩ := F.ex
  refine pe_weak (pe_make M F hr hg hm hb .nil pass0 ha hdb he hpl) fun σ H Q ⟨g0, H0, ρ, g, S, E, q⟩ => ?_
  obtain ⟨d, S', e1, k⟩ := Res.post_ex q
  obtain ⟨ds, S1, e2, e1⟩ := Res.then_ex e1
  refine ⟨g0, H0, ρ, g, S, E, ?_⟩
  have hl := sArgs_len hst e2
  rw [e2]
  intro vs g1 H1 G1 s1 r1 xa dx hx hd hne
  rw [List.append_nil]
  refine ⟨⟨g1.F, g1.as, xa⟩, H1, xa, dx, C, vs, ds, S1, hm, rfl, hx, hd, hne, rfl, rfl, G1.me xa, Reps.mono0 (g := g1) (g' := ⟨g1.F, g1.as, xa⟩) (Same.refl _) (fun _ _ h => h) r1, by rw [hl, hn], ?_⟩
  rw [e1]
  intro g2 H2 G2 s2 r2
  refine ⟨rfl, k _ ⟨g2.F, g2.as, g1.me⟩ H2 (G2.me g1.me) (s1.trans ⟨⟨s2.le.F, s2.le.as, rfl⟩, s2.keep, s2.there, s2.newF, s2.newA⟩) (Rep.mono0 (g := g2) (g' := ⟨g2.F, g2.as, g1.me⟩) (Same.refl _) (fun _ _ h => h) r2)⟩
end
def runI (n : Nat) (c : Str) (b : SS) : List D → M D := fun ds S => (b (some (.obj c []) :: (ds.map some ++ List.replicate (n - 1 - ds.length) none)) S).then fun o S' => match o with
  | .nx ρ => (match ρ[0]? with
    | some (some (D.obj c fs)) => .ok (.obj c fs) S'
    | _ => .bad)
  | _ => .bad
section
variable {P : Program} {w : World} {K : PySem.W.Frag} {mg : Str → Option Value} {base : Heap}
theorem env_startI {g : Gh} {H1 : Hp} {S : Sto} {vs : List V} {ds : List D} {N : List Str} {x dx C : Addr} {c : Str} (G : GOk K mg g H1 S) (r : Reps K mg g vs ds) (hn : ds.length + 1 ≤ N.length) (hme : g.me = x) (hx : H1 x = none) (hd : H1 dx = none) (hne : dx ≠ x) (hm : mg c = some (.ref C)) :
    EnvOk K mg g H1 [0] (some (.obj c []) :: (ds.map some ++ List.replicate (N.length - 1 - ds.length) none)) (L2.start N (.ref x :: vs)) g (upd (upd H1 dx (.own x)) x (.ins C dx [])) S := by
  have hx' : upd H1 dx (.own x) x = none := by rw [upd_ne (Ne.symm hne)]; exact hx
  have G2 := (G.fresh (o := .own x) hd).fresh (o := .ins C dx []) hx'
  have s2 : Stp g H1 g (upd (upd H1 dx (.own x)) x (.ins C dx [])) := (stp_fresh hd).trans (stp_fresh hx')
  refine ⟨G2, s2, ?_, fun i d h n => ?_, fun i hi => ?_, fun i hi j hj ne => ?_⟩
  · unfold L2.start
    rw [List.length_append, List.length_map, List.length_replicate, List.length_cons, List.length_cons, List.length_append, List.length_map, List.length_replicate, r.length]
    omega
  · cases i with
    | zero => exact absurd (List.mem_singleton.mpr rfl) n
    | succ i =>
      have h' := start_get (n := N.length - 1) (show (ds.map some ++ List.replicate (N.length - 1 - ds.length) (none : Option D))[i]? = some (some d) from h)
      obtain ⟨v, hv, rv⟩ := r.get h'
      refine ⟨v, ?_, rv⟩
      unfold L2.start
      have hlt := (List.getElem?_eq_some_iff.mp hv).1
      rw [List.getElem?_append_left (by simp; omega), List.getElem?_map]
      show Option.map some ((V.ref x :: vs)[i + 1]?) = _
      rw [List.getElem?_cons_succ, hv] <;> rfl
  · have e : i = 0 := by simpa using hi
    subst e
    refine ⟨x, _, rfl, rfl, G.nfree hx, G.notin hx, hx, .inr ⟨C, dx, c, [], [], ⟨hme.symm, rfl⟩, hm, upd_same, by rw [upd_ne hne, upd_same], G.nfree hd, G.notin hd, hd, .nil⟩⟩
  · have e : i = 0 := by simpa using hi
    have e2 : j = 0 := by simpa using hj
    exact absurd (e.trans e2.symm) ne
theorem gi_of {x qual : Str} {st : Stmt} {f C : Addr} {fd : FuncData} {N ps : List Str} {k n : Nat} {b : SS} {c : Str} (F : FunD K x qual (defArgs st) (defBody st) (defScope st) [] [] f fd) (hm : mg c = some (.ref C)) (M : Mk K C f) (Sc : FnScope N ps (defScope st)) (hn : ps.length = n + 1) (hN : n + 1 ≤ N.length)
    (hb : ∀ (kV doc pm : Value) (an : Option Addr) (cdv ct : Value) (us : List Value), us.length = ps.length → bindArgs (PySem.W.fnOf x qual (defArgs st) (defBody st) (defScope st) .none kV doc pm an cdv ct) ⟨us, []⟩ = pure (ps.zip us))
    (body : ∀ (cdv : Value) (A : Around) (outer : List Env) (s : Shared) (H : Hp) (E : XK), Room k (A.deeper (envOfC qual (defScope st) s.heap.objs.size f cdv)) → SimB (Ctx P w K mg base N qual (defScope st) f cdv A outer s H E) [0] [0] [] (defBody st) b) :
    GI P w K mg base (k + 1) c n (runI N.length c b) := by
  refine ⟨C, f, fd, ps, hm, M, F.bindsN hb, F.ok Sc (fun vs H Q E h => ?_) (fun cdv A outer s H vs Q E hr h => ⟨_, PSs.nox (body cdv A outer s H E hr), ?_⟩)⟩
  · obtain ⟨g, H1, x, dx, C', vs', ds, S, _, rfl, _, _, _, _, _, G, r, hl, _⟩ := h
    rw [List.length_cons, r.length, hl, hn]
  · obtain ⟨g, H1, x, dx, C', vs', ds, S, hm', rfl, hx, hd, hne, rfl, hme, G, r, hl, q⟩ := h
    refine ⟨g, H1, _, g, S, env_startI (N := N) G r (by rw [hl]; exact hN) hme hx hd hne hm', ?_⟩
    have q' : (runI N.length c b ds S).post _ := q
    unfold runI at q'
    refine Res.post_mono (Res.post_then.mp q') fun o S' k => ?_
    cases o with
    | nx ρ =>
      intro σ g1 H2 l1 E1
      obtain ⟨p, d, h1, h2, hO⟩ := E1.ow 0 (by simp)
      have k' : (match ρ[0]? with
        | some (some (D.obj c fs)) => Res.ok (D.obj c fs) S'
        | _ => .bad).post fun d S' => ∀ g' H2, GOk K mg g' H2 S' → Stp g H1 g' H2 → Rep K mg g' (.ref x) d → Q .non H2 := k
      rw [h1] at k'
      obtain ⟨g2, l2, E2⟩ := E1.sub (own' := []) (fun i hi => by cases hi)
      obtain ⟨v, h3, rv⟩ := E2.fro 0 d h1 (fun z => by cases z)
      rw [h2] at h3
      cases h3
      obtain ⟨_, _, _, h4⟩ := hO
      rcases h4 with ⟨vs, ds', ed, hp, _⟩ | ⟨_, _, _, _, _, ⟨em, ed⟩, _⟩
      · subst ed
        exact k'.elim
      · have ex : p = x := by rw [em, l1.me, hme]
        subst ex ed
        exact k' g2 H2 E2.gok E2.stp rv
    | rt d => exact k.elim
    | bk ρ => exact k.elim
    | ct ρ => exact k.elim
end
/-! ### {'a': .., ..}: a new changing object -/
def mergeKD (kds more : List (Key × D)) : List (Key × D) := more.foldl (fun acc kv => putKD acc kv.1 kv.2) kds
def sItems : List (Str × SE) → DEnv → M (List (Key × D))
  | [], _ => fun S => .ok [] S
  | (x, a) :: r, ρ => fun S => (a ρ S).then fun d S1 => (sItems r ρ S1).then fun ds S2 => .ok ((Sum.inr x, d) :: ds) S2
def sDict (items : List (Str × SE)) : SE := fun ρ S => (sItems items ρ S).then fun kds S' => if kds.length ≤ 15 then .ok (.mref S'.length) (S' ++ [.k (mergeKD [] kds)]) else .bad
section
variable {K : PySem.W.Frag} {mg : Str → Option Value} {g : Gh}
theorem KReps.merge : ∀ {more : List (Key × V)} {rs : List (Key × D)} {kvs : List (Key × V)} {vs : List (Key × D)}, KReps K mg g more rs → KReps K mg g kvs vs → KReps K mg g (mergeK kvs more) (mergeKD vs rs) := by
  intro more rs kvs vs r
  induction r generalizing kvs vs with
  | nil => exact fun q => q
  | cons h _ ih => exact fun q => ih (q.put h)
/-- a new changing object -/
theorem GOk.newM {H : Hp} {S : Sto} (G : GOk K mg g H S) {p : Addr} {o0 o : HO} {m : MO} (hp : H p = some o0) (hF : g.F p = none) (hA : p ∉ g.as) (r : MOk K mg g p o m) : GOk K mg ⟨g.F, g.as ++ [p], g.me⟩ (upd H p o) (S ++ [m]) := by
  have la : ∀ (i : Nat) (a : Addr), g.as[i]? = some a → (g.as ++ [p])[i]? = some a := fun i a h => by
    have := (List.getElem?_eq_some_iff.mp h).1
    rw [List.getElem?_append_left this]; exact h
  have up : ∀ {a : Addr} {o : HO} {m : MO}, MOk K mg g a o m → MOk K mg ⟨g.F, g.as ++ [p], g.me⟩ a o m := fun r => r.mono0 (g := g) (g' := ⟨g.F, g.as ++ [p], g.me⟩) (Same.refl _) la
  refine ⟨fun b u e => ?_, ?_, by simp [G.len], fun a ha => ?_, fun i a e => ?_⟩
  · rw [upd_ne (fun z : b = p => by rw [z, hF] at e; cases e)]; exact G.sub _ _ e
  · rw [List.nodup_append]
    refine ⟨G.nd, by simp, fun a ha b hb => ?_⟩
    have e : b = p := by simpa using hb
    subst e
    exact fun z => hA (z ▸ ha)
  · rcases List.mem_append.mp ha with z | z
    · exact G.nf a z
    · have e : a = p := by simpa using z
      rw [e]; exact .inl hF
  · have e' : (g.as ++ [p])[i]? = some a := e
    by_cases hi : i < g.as.length
    · rw [List.getElem?_append_left hi] at e'
      obtain ⟨kv, kd, h1, h2, h3⟩ := G.st i a e'
      refine ⟨kv, kd, ?_, by rw [List.getElem?_append_left (by rw [G.len]; exact hi)]; exact h2, up h3⟩
      rw [upd_ne (fun z : a = p => hA (z ▸ List.mem_of_getElem? e'))]
      exact h1
    · rw [List.getElem?_append_right (by omega)] at e'
      have hi2 : i - g.as.length = 0 := by
        have := (List.getElem?_eq_some_iff.mp e').1
        simpa using this
      rw [hi2] at e'
      have ea : p = a := by simpa using e'
      subst ea
      refine ⟨o, m, upd_same, ?_, up r⟩
      rw [List.getElem?_append_right (by rw [G.len]; omega), G.len, hi2] <;> rfl
/-- an object that nobody knows yet becomes a changing one -/
theorem stp_newM {H H' : Hp} {S : Sto} {g' : Gh} {p : Addr} {o o' : HO} (hp : H p = none) (s2 : Stp g H g' H') (hA : p ∉ g.as) : Stp g H ⟨g'.F, g'.as ++ [p], g'.me⟩ (upd H' p o') := by
  refine ⟨⟨s2.le.F, fun i a h => ?_, s2.le.me⟩, fun b u e n => ?_, fun b e => ?_, s2.newF, fun a ha => ?_⟩
  · have h' := s2.le.as i a h
    have := (List.getElem?_eq_some_iff.mp h').1
    show (g'.as ++ [p])[i]? = some a
    rw [List.getElem?_append_left this]; exact h'
  · rw [upd_ne (ne_of_none e hp)]; exact s2.keep b u e n
  · rw [upd_ne (fun z : b = p => e (by rw [z]; exact hp))]; exact s2.there b e
  · rcases List.mem_append.mp ha with z | z
    · exact s2.newA a z
    · have e : a = p := by simpa using z
      rw [e]; exact .inr hp
end
/-- the pairs' terms -/
def SimD (X : Cx) (own : List Nat) (pos : Pos) (keys : List (Option Expr)) (vals : List Expr) (items : List (Str × SE)) : Prop := PPs X pos keys vals (items.map fun a => (tC (.str a.1), tE X own a.2))
section
variable {X : Cx} {own : List Nat} {k v : Expr} {ks : List (Option Expr)} {vs : List Expr} {items : List (Str × SE)} {se : SE} {pos : Pos} {x : Str}
theorem simd_nil : SimD X own pos [] [] [] := pps_nil
theorem simd_cons {j : Nat} {kp : Pos} (h : SimE X own v se) (hr : SimD X own pos ks vs items) : SimD X own pos (some (.Constant (.str x) j kp) :: ks) (v :: vs) ((x, se) :: items) := pps_cons pe_str h hr
theorem items_of : ∀ {items : List (Str × SE)} {g0 : Gh} {H0 : Hp} {ρ : DEnv} {σ : L2.St} {g : Gh} {H : Hp} {S S' : Sto} {kds : List (Key × D)} {Q : List (V × V) → Hp → Prop}, EnvOk X.K X.mg g0 H0 own ρ σ g H S → sItems items ρ S = .ok kds S' →
    (∀ kvs g' H', GOk X.K X.mg g' H' S' → Stp g H g' H' → KReps X.K X.mg g' kvs kds → Q (kvs.map fun kv => (kV kv.1, kv.2)) H') → tPairs (items.map fun a => (tC (.str a.1), tE X own a.2)) σ H Q
  | [], g0, H0, ρ, σ, g, H, S, S', kds, Q, E, e, k => by
    cases e
    exact k [] g H E.gok .refl .nil
  | (x, a) :: r, g0, H0, ρ, σ, g, H, S, S', kds, Q, E, e, k => by
    obtain ⟨d, S1, e1, e2⟩ := Res.then_ex e
    obtain ⟨ds, S2, e3, e4⟩ := Res.then_ex e2
    cases e4
    refine ⟨g0, H0, ρ, g, S, E, ?_⟩
    show (a ρ S).post _
    rw [e1]
    intro v g1 H1 G1 s1 r1
    refine items_of (E.step G1 s1) e3 fun kvs g' H' G' s' rr => ?_
    exact k ((Sum.inr x, v) :: kvs) g' H' G' (s1.trans s') (.cons (r1.mono s'.le) rr)
theorem sim_dict {keys : List (Option Expr)} {vals : List Expr} (h : SimD X own pos keys vals items) (hall : keys.all (·.isSome) = true := by rfl) (hl : keys.length = vals.length := by rfl) (h0 : keys ≠ [] := by exact fun z => by cases z) (h15 : keys.length ≤ 15 := by decide) : SimE X own (.Dict keys vals pos) (sDict items) :=
  pe_weak (pe_disp h hall hl h0 h15) fun σ H Q ⟨g0, H0, ρ, g, S, E, q⟩ => by
    obtain ⟨d, S', e1, k⟩ := Res.post_ex q
    obtain ⟨kds, S1, e2, e1⟩ := Res.then_ex e1
    intro p hp
    have E1 := E.step (E.gok.fresh (o := .dK []) hp) (stp_fresh hp)
    refine items_of E1 e2 fun kvs g' H' G' s' r => ?_
    split at e1
    · rename_i hz
      cases e1
      have hpa : p ∉ g.as := E.gok.notin hp
      have hp' : H' p = some (.dK []) := s'.keep _ _ upd_same hpa
      have hF : g'.F p = none := (s'.stay upd_same (E.gok.nfree hp) hpa fun _ z => nomatch z).1
      have hA : p ∉ g'.as := fun z => (s'.newA p z).elim hpa fun z => by rw [upd_same] at z; cases z
      have klen : kvs.length = kds.length := r.len
      refine ⟨hp', kvs, rfl, by rw [klen]; exact hz, ?_⟩
      have G2 := G'.newM hp' hF hA (.k (r.merge .nil))
      refine k _ _ _ G2 ?_ (.mref ?_)
      · have s2 := (stp_fresh (g := g) (o := .dK []) hp).trans s'
        refine ⟨⟨s2.le.F, fun i a h => ?_, s2.le.me⟩, fun b u e n => ?_, fun b e => ?_, s2.newF, fun a ha => ?_⟩
        · have h' := s2.le.as i a h
          have := (List.getElem?_eq_some_iff.mp h').1
          show (g'.as ++ [p])[i]? = some a
          rw [List.getElem?_append_left this]; exact h'
        · rw [upd_ne (ne_of_none e hp)]; exact s2.keep b u e n
        · rw [upd_ne (fun z : b = p => e (by rw [z]; exact hp))]; exact s2.there b e
        · rcases List.mem_append.mp ha with z | z
          · exact s2.newA a z
          · have e : a = p := by simpa using z
            rw [e]; exact .inr hp
      · show (g'.as ++ [p])[S1.length]? = some p
        rw [List.getElem?_append_right (by rw [G'.len]; exact Nat.le_refl _), G'.len] <;> simp
    · cases e1
end
end Ev
namespace Ev
open PySem PySem.Spec PyProof.Rows L2
/-! ### any of a tuple of ints -/
theorem truth_intsE {prog : Program} {w : World} {A : Around} {ns : List Int} {its : List Value} (e : IntsAre its ns) :
    TruthOf prog w A (fun i v => its.toArray[i]? = some v) (fun i => ns.getD i 0 != 0) := fun i v s Q E hv hq => by
  have hv' : its[i]? = some v := by simpa using hv
  have go : ∀ (its : List Value) (ns : List Int) (i : Nat), IntsAre its ns → its[i]? = some v → ∃ n t, v = .int n t ∧ ns[i]? = some n := by
    intro its
    induction its with
    | nil => intro ns i _ h; cases h
    | cons a r ih =>
      intro ns i h h2
      cases ns with
      | nil => cases h
      | cons n ns =>
        cases i with
        | zero =>
          cases h2
          cases h with
          | cons _ t _ => exact ⟨n, t, rfl, rfl⟩
        | succ i =>
          cases h with
          | cons _ _ h3 => exact ih ns i h3 h2
  obtain ⟨n, t, rfl, hn⟩ := go _ _ _ e hv'
  have hg : (ns.getD i 0 != 0) = (n != 0) := by rw [List.getD_eq_getElem?_getD, hn] <;> rfl
  have hq' : Q (ns.getD i 0 != 0) s := hq
  rw [hg] at hq'
  exact truthy_int hq'
theorem any_rangeI : ∀ ns : List Int, (List.range ns.length).any (fun i => ns.getD i 0 != 0) = ns.any (· != 0)
  | [] => rfl
  | b :: bs => by
    rw [List.length_cons, List.range_succ_eq_map, List.any_cons, List.any_map, List.any_cons, ← any_rangeI bs]
    all_goals rfl
def rAnyT (K : PySem.W.Frag) : List V → Hp → VK → Prop := fun vs H Q => ∃ (a : Addr) (ns : List Int), vs = [V.ref a] ∧ SqT K H a (ns.map V.int) ∧ Q (.bl (ns.any (· != 0))) H
section
variable {X : Cx}
theorem cr_anyT (hc : X.calm = true) : CallR X (.builtin "any") (rAnyT X.K) := by
  intro pins s σ H vs us Q I r h
  obtain ⟨a, ns, rfl, hs, q⟩ := h
  obtain ⟨its, rv, hl, _⟩ := I.tuple hs
  rw [Vals.ref1 r]
  have hi := rv.ints
  have hlen : its.length = ns.length := by rw [← rv.length, List.length_map]
  have hlt : a < s.heap.objs.size := by obtain ⟨_, e, _⟩ := hl; exact Heap.lt_size e
  have hne : a ≠ s.heap.objs.size := Nat.ne_of_lt hlt
  have hl2 : IsTup (s.heap.push { cls := .type "tuple_iterator", data := .fields #[.ref a, .int 0 0] }) a its.toArray := by
    obtain ⟨o, ho, hc, n, hd⟩ := hl
    exact ⟨o, Heap.get?_push_of_some _ ho, hc, n, hd⟩
  refine call_any_walk (iter_tuple hl ?_)
  refine ⟨_, _, _, _, _, _, _, rfl, Walks.tuple (A := X.A.in1) (I.ok.hd hc) _ a hne its.toArray, ⟨⟨_, Heap.get?_push_size _ rfl, rfl, rfl⟩, hl2⟩, truth_intsE hi, fun h' tk hk => ?_⟩
  refine ⟨.bl _, H, I.kept fun b o eo => hk b o (fun hmem => ?_) (Heap.get?_push_of_some _ eo), ?_, q⟩
  · rcases List.mem_cons.mp hmem with e1 | hmem
    · exact absurd (e1 ▸ Heap.lt_size eo) (Nat.lt_irrefl _)
    · cases hmem
  · show Value.bool _ = Value.bool _
    rw [← any_rangeI, List.size_toArray, hlen]
/-! ### is True, is False, of any value -/
def rIsBX : R2 := fun x y H Q => ∃ b : Bool, y = .bl b ∧ Q (.bl (match x with
  | .bl a => decide (a = b)
  | _ => false)) H
def rNotBX : R2 := fun x y H Q => ∃ b : Bool, y = .bl b ∧ Q (.bl (!(match x with
  | .bl a => decide (a = b)
  | _ => false))) H
theorem op_isBX : OpR X (compareOp .Is) rIsBX := by
  intro pins s σ H x y v u Q I rx ry h
  obtain ⟨b, rfl, q⟩ := h
  cases (show u = Value.bool b from ry)
  cases x with
  | bl a =>
    cases (show v = Value.bool a from rx)
    by_cases e : a = b
    · subst e
      exact wpAny_is_self rfl ⟨.bl true, H, I, rfl, by simpa using q⟩
    · exact wpAny_is_other rfl (fun z => e (Value.bool.inj z)) ⟨.bl false, H, I, rfl, by simpa [e] using q⟩
  | ref a => cases rx; exact wpAny_is_other rfl (fun z => nomatch z) ⟨.bl false, H, I, rfl, q⟩
  | non => cases rx; exact wpAny_is_other rfl (fun z => nomatch z) ⟨.bl false, H, I, rfl, q⟩
  | int i => obtain ⟨t, rfl⟩ := rx; exact wpAny_is_other rfl (fun z => nomatch z) ⟨.bl false, H, I, rfl, q⟩
  | str x => obtain ⟨t, rfl⟩ := rx; exact wpAny_is_other rfl (fun z => nomatch z) ⟨.bl false, H, I, rfl, q⟩
  | byt x => obtain ⟨t, rfl⟩ := rx; exact wpAny_is_other rfl (fun z => nomatch z) ⟨.bl false, H, I, rfl, q⟩
  | flt x => obtain ⟨t, rfl⟩ := rx; exact wpAny_is_other rfl (fun z => nomatch z) ⟨.bl false, H, I, rfl, q⟩
  | ty n => cases rx; exact wpAny_is_other rfl (fun z => nomatch z) ⟨.bl false, H, I, rfl, q⟩
theorem op_notBX : OpR X (compareOp .IsNot) rNotBX := by
  intro pins s σ H x y v u Q I rx ry h
  obtain ⟨b, rfl, q⟩ := h
  cases (show u = Value.bool b from ry)
  cases x with
  | bl a =>
    cases (show v = Value.bool a from rx)
    by_cases e : a = b
    · subst e
      exact wpAny_isNot_self rfl ⟨.bl false, H, I, rfl, by simpa using q⟩
    · exact wpAny_isNot_other rfl (fun z => e (Value.bool.inj z)) ⟨.bl true, H, I, rfl, by simpa [e] using q⟩
  | ref a => cases rx; exact wpAny_isNot_other rfl (fun z => nomatch z) ⟨.bl true, H, I, rfl, q⟩
  | non => cases rx; exact wpAny_isNot_other rfl (fun z => nomatch z) ⟨.bl true, H, I, rfl, q⟩
  | int i => obtain ⟨t, rfl⟩ := rx; exact wpAny_isNot_other rfl (fun z => nomatch z) ⟨.bl true, H, I, rfl, q⟩
  | str x => obtain ⟨t, rfl⟩ := rx; exact wpAny_isNot_other rfl (fun z => nomatch z) ⟨.bl true, H, I, rfl, q⟩
  | byt x => obtain ⟨t, rfl⟩ := rx; exact wpAny_isNot_other rfl (fun z => nomatch z) ⟨.bl true, H, I, rfl, q⟩
  | flt x => obtain ⟨t, rfl⟩ := rx; exact wpAny_isNot_other rfl (fun z => nomatch z) ⟨.bl true, H, I, rfl, q⟩
  | ty n => cases rx; exact wpAny_isNot_other rfl (fun z => nomatch z) ⟨.bl true, H, I, rfl, q⟩
def dIsBX (neg : Bool) (x y : D) : Option D := match y with
  | .bl b => some (.bl (match x with
    | .bl a => if neg then !decide (a = b) else decide (a = b)
    | _ => neg))
  | _ => none
theorem rep_blX {g : Gh} {H : Hp} {x : V} {d : D} (r : RepR X.K X.mg g H x d) (b : Bool) : (match x with
  | .bl a => decide (a = b)
  | _ => false) = (match d with
  | .bl a => decide (a = b)
  | _ => false) := by
  rcases r with r | ⟨p, vs, ds, rfl, rfl, _⟩
  · cases r <;> rfl
  · rfl
theorem op2_isBX : Op2 X (dIsBX false) rIsBX := by
  intro g H S x y a b d Q G ra rb e k
  unfold dIsBX at e
  split at e
  · cases e
    cases rb.bl
    refine ⟨_, rfl, k _ g H G .refl ?_⟩
    rw [rep_blX ra]
    cases a <;> exact .bl _
  · cases e
theorem op2_notBX : Op2 X (dIsBX true) rNotBX := by
  intro g H S x y a b d Q G ra rb e k
  unfold dIsBX at e
  split at e
  · cases e
    cases rb.bl
    refine ⟨_, rfl, k _ g H G .refl ?_⟩
    rw [rep_blX ra]
    cases a <;> exact .bl _
  · cases e
/-! ### t * 1 -/
theorem tuple_mul1 (l : Addr) (items : Array Value) (n : Nat) (dd : Option Addr) (sl : Array (Option Value)) (u : Tok) :
    Meets (Builtin.«tuple.__mul__» ⟨[.ref l, .int 1 u], []⟩) (fun _ R s => s.heap.get? l = some { cls := .type "tuple", dict := dd, data := .seq items n, slots := sl } ∧ R (.ok (.ret (Value.ref l))) s) :=
  .of_wp fun prog w A R s h => by
    obtain ⟨hp, g, d, tk, os⟩ := s
    obtain ⟨hl, h⟩ := h
    have f1 := AutoSeq1.idx_int
    have c1 : (items.isEmpty || (1 : Int) == 1) = true := by simp
    wp_walk using wpAny_loadPart' hl
    repeat (first
      | (refine wpAny_ite_true (decide_eq_true c1) ?_; wp_walk using wpAny_loadPart' hl)
      | (refine wpAny_ite_true (decide_eq_true rfl) ?_; wp_walk using wpAny_loadPart' hl))
    exact ⟨_, rfl, h⟩
def rRepT1 (K : PySem.W.Frag) : R2 := fun x y H Q => ∃ l xs, x = .ref l ∧ y = .int 1 ∧ SqT K H l xs ∧ Q (.ref l) H
theorem op_repT1 : OpR X (binaryOp .Mult) (rRepT1 X.K) := by
  intro pins s σ H x y v u Q I rx ry h
  obtain ⟨l, xs, rfl, rfl, hT, q⟩ := h
  cases rx
  obtain ⟨t, rfl⟩ := ry
  obtain ⟨its, r, ⟨⟨cls, dd, data, sl⟩, ho, hc, n, hd⟩, hs⟩ := I.tuple hT
  simp only at hc hd
  subst hc hd
  refine wpAny_binaryOp_repeat_ref (T := "tuple") (U := "int") (by decide) ⟨_, ho, rfl⟩ (fun s' => typeIs_int s' 1 t) noFill_tuple_mul F.fills_int_mul F.slot_int_rmul repeat_tuple F.slot_int_index.lookup
    (call_meets F.slot_int_rmul (typeIs_int s 1 t) F.entry_int_rmul (F.args_int_rmul_2 _ _) (int_rmul_tuple 1 t l its.toArray n dd sl)
      ⟨ho, rfl, ⟨_, ho, rfl⟩, call_meets F.slot_tuple_mul ⟨_, ho, rfl⟩ F.entry_tuple_mul (F.args_tuple_mul_2 _ _) (tuple_mul1 l its.toArray n dd sl t) ⟨ho, ?_⟩⟩)
  exact ⟨.ref l, H, I, rfl, q⟩
end
end Ev
namespace Ev
open PySem PySem.Spec PyProof.Rows L2
/-! ### operators that give a new list -/
def OpF2 (X : Cx) (f : D → D → Option D) (r : R2) : Prop := ∀ (g : Gh) (H : Hp) (S : Sto) (x y : V) (a b d : D) (Q : VK), GOk X.K X.mg g H S → RepR X.K X.mg g H x a → RepR X.K X.mg g H y b → f a b = some d →
  ∃ es, d = .lst es ∧ ((∀ p vs, H p = none → Reps X.K X.mg g vs es → Q (.ref p) (upd H p (.lst vs))) → r x y H Q)
def dRepF : D → D → Option D
  | .lst xs, .int k => if rpOk xs.length k then some (.lst (List.replicate k.toNat xs).flatten) else none
  | _, _ => none
def dCatF : D → D → Option D
  | .lst xs, .lst ys => if xs.length + ys.length ≤ sizeLine then some (.lst (xs ++ ys)) else none
  | _, _ => none
def dMulA : D → D → Option D
  | .int i, .int j => if cMul i j then some (.int (i * j)) else none
  | .lst xs, .int k => if rpOk xs.length k then some (.lst (List.replicate k.toNat xs).flatten) else none
  | .tup xs, .int k => if k = 1 then some (.tup xs) else if xs ≠ [] ∧ 2 ≤ k ∧ k ≤ 1000 ∧ xs.length ≤ 1000 then some (.tup (List.replicate k.toNat xs).flatten) else none
  | _, _ => none
section
variable {X : Cx} {own : List Nat} {e a b : Expr} {es : List Expr} {se sa sb : SE} {pos p2 apos : Pos}
theorem opF2_rep : OpF2 X dRepF rRep := by
  intro g H S x y a b d Q G ra rb e
  unfold dRepF at e
  split at e
  · split at e
    · rename_i hz
      replace hz := rpOk_ok hz
      cases e
      refine ⟨_, rfl, fun k => ?_⟩
      cases rb.int
      obtain ⟨p, vs, rfl, hp, rs⟩ := ra.lst G
      have e63 : (2 : Int) ^ 63 = 9223372036854775808 := by decide
      exact ⟨p, _, vs, rfl, rfl, hp, by rw [e63]; exact hz.1, by rw [e63]; exact hz.2.1, by rw [rs.length]; exact hz.2.2, fun l hl => k l _ hl (rs.rep _)⟩
    · cases e
  · cases e
theorem opF2_cat : OpF2 X dCatF rCat := by
  intro g H S x y a b d Q G ra rb e
  unfold dCatF at e
  split at e
  · split at e
    · rename_i hz
      cases e
      refine ⟨_, rfl, fun k => ?_⟩
      obtain ⟨p, vs, rfl, hp, rs⟩ := ra.lst G
      obtain ⟨q, ws, rfl, hq, rt⟩ := rb.lst G
      exact ⟨p, q, vs, ws, rfl, rfl, hp, hq, by rw [rs.length, rt.length]; exact hz, fun l hl => k l _ hl (rs.append rt)⟩
    · cases e
  · cases e
theorem twoF_of {f : D → D → Option D} {r : R2} (hf : OpF2 X f r) {σ : L2.St} {H : Hp} {Q : VK} (h : tF X own (sOp2 f sa sb) σ H Q) : tOp r (tR X own sa) (tR X own sb) σ H Q := by
  obtain ⟨g0, H0, ρ, g, S, E, q⟩ := h
  obtain ⟨d, S', e1, k⟩ := Res.post_ex q
  obtain ⟨x, S1, e2, e1⟩ := Res.then_ex e1
  obtain ⟨y, S2, e3, e1⟩ := Res.then_ex e1
  obtain ⟨e4, rfl⟩ := optR_ex e1
  refine ⟨g0, H0, ρ, g, S, E, ?_⟩
  rw [e2]
  intro v g1 H1 G1 s1 r1
  refine ⟨g0, H0, ρ, g1, S1, E.step G1 s1, ?_⟩
  rw [e3]
  intro v2 g2 H2 G2 s2 r2
  obtain ⟨es, ed, kr⟩ := hf g2 H2 S2 v v2 x y d Q G2 (r1.step s2) r2 e4
  obtain ⟨es', ed', k⟩ := k
  rw [ed] at ed'
  cases ed'
  exact kr fun p vs hp rs => fresh_end G2 (s1.trans s2) hp rs k
theorem simf_op {op : Operator} {f : D → D → Option D} {r : R2} (ho : OpR X (binaryOp op) r) (hf : OpF2 X f r) (ha : SimR X own a sa) (hb : SimR X own b sb) : SimF X own (.BinOp a op b pos) (sOp2 f sa sb) :=
  pe_weak (pe_op ho ha hb) fun _ _ _ h => twoF_of hf h
theorem opl_f {f : D → D → Option D} (hf : ∀ a b d, f a b = some d → ∃ ds, d = .lst ds) {ρ : DEnv} {S S' : Sto} {d : D} (e : sOp2 f sa sb ρ S = .ok d S') : ∃ ds, d = .lst ds := by
  obtain ⟨x, S1, _, e1⟩ := Res.then_ex e
  obtain ⟨y, S2, _, e1⟩ := Res.then_ex e1
  obtain ⟨e4, _⟩ := optR_ex e1
  exact hf _ _ _ e4
theorem rep_l {a b d : D} (e : dRepF a b = some d) : ∃ ds, d = .lst ds := by
  unfold dRepF at e
  split at e
  · split at e
    · cases e; exact ⟨_, rfl⟩
    · cases e
  · cases e
theorem cat_l {a b d : D} (e : dCatF a b = some d) : ∃ ds, d = .lst ds := by
  unfold dCatF at e
  split at e
  · split at e
    · cases e; exact ⟨_, rfl⟩
    · cases e
  · cases e
theorem callL {f : List D → Option D} {sas : List (Bool × SE)} (hf : ∀ ds d, f ds = some d → ∃ es, d = .lst es) {ρ : DEnv} {S S' : Sto} {d : D} (e : sCallN f sas ρ S = .ok d S') : ∃ ds, d = .lst ds := by
  obtain ⟨ds, S1, _, e1⟩ := Res.then_ex e
  obtain ⟨e4, _⟩ := optR_ex e1
  exact hf _ _ e4
theorem lstOf_l {ds : List D} {d : D} (e : dLstOf ds = some d) : ∃ es, d = .lst es := by
  unfold dLstOf at e
  split at e <;> first | (cases e; exact ⟨_, rfl⟩) | cases e
theorem op2_mulA : Op2 X dMulA (fun x y H Q => (rI CMul (fun i j => .int (i * j)) x y H Q ∨ rRep x y H Q) ∨ (rRepT X.K x y H Q ∨ rRepT1 X.K x y H Q)) := by
  intro g H S x y a b d Q G ra rb e k
  unfold dMulA at e
  split at e
  · split at e
    · cases e
      cases ra.int
      cases rb.int
      exact .inl (.inl ⟨_, _, rfl, rfl, cMul_ok (by assumption), k _ g H G .refl (.int _)⟩)
    · cases e
  · split at e
    · rename_i hz
      replace hz := rpOk_ok hz
      cases e
      cases rb.int
      obtain ⟨p, vs, rfl, hp, rs⟩ := ra.lst G
      have e63 : (2 : Int) ^ 63 = 9223372036854775808 := by decide
      refine .inl (.inr ⟨p, _, vs, rfl, rfl, hp, by rw [e63]; exact hz.1, by rw [e63]; exact hz.2.1, by rw [rs.length]; exact hz.2.2, fun l hl => ?_⟩)
      exact k _ _ _ (G.add hl) (stp_add G hl) (.newL G hl (rs.rep _))
    · cases e
  · cases rb.int
    have f1 := ra.rep (fun _ e => nomatch e)
    obtain ⟨p, vs, rfl, hp, rs⟩ := ra.tup G
    split at e
    · rename_i hk
      cases e
      subst hk
      exact .inr (.inr ⟨p, vs, rfl, rfl, SqT.of hp, k _ g H G .refl f1⟩)
    · split at e
      · rename_i hz
        cases e
        refine .inr (.inl ⟨p, _, vs, rfl, rfl, SqT.of hp, fun z => ?_, hz.2.1, hz.2.2.1, by rw [rs.length]; exact hz.2.2.2, fun l hl => ?_⟩)
        · subst z
          cases rs
          exact hz.1 rfl
        · exact k _ _ _ (G.add hl) (stp_add G hl) (.newT G hl (rs.rep _))
      · cases e
  · cases e
theorem opr_mulA : OpR X (binaryOp .Mult) (fun x y H Q => (rI CMul (fun i j => .int (i * j)) x y H Q ∨ rRep x y H Q) ∨ (rRepT X.K x y H Q ∨ rRepT1 X.K x y H Q)) := (op_mul.or op_rep).or (op_repT.or op_repT1)
/-- any of bools in a list, of ints in a tuple -/
def dAnyA : List D → Option D
  | [.lst xs] => (blsD xs).map fun ns => .bl (ns.any id)
  | [.tup xs] => (intsD xs).map fun ns => .bl (ns.any (· != 0))
  | _ => none
theorem opN_anyA : OpN X dAnyA (fun xs H Q => rAny X.K xs H Q ∨ rAnyT X.K xs H Q) := by
  intro g H S xs ds d Q G r e k
  unfold dAnyA at e
  split at e
  · rename_i ys
    cases q : blsD ys with
    | none => rw [q] at e; cases e
    | some ns =>
      rw [q] at e
      cases e
      obtain ⟨x, rfl, h⟩ := rr1 r
      obtain ⟨p, vs, rfl, hp, rs⟩ := h.lst G
      cases bls_of rs q
      exact .inl ⟨p, ns, rfl, SqL.of hp, k _ g H G .refl (.bl _)⟩
  · rename_i ys
    cases q : intsD ys with
    | none => rw [q] at e; cases e
    | some ns =>
      rw [q] at e
      cases e
      obtain ⟨x, rfl, h⟩ := rr1 r
      obtain ⟨p, vs, rfl, hp, rs⟩ := h.tup G
      cases ints_of rs q
      exact .inr ⟨p, ns, rfl, SqT.of hp, k _ g H G .refl (.bl _)⟩
  · cases e
theorem call_anyA (hc : X.calm = true) : CallR X (.builtin "any") (fun xs H Q => rAny X.K xs H Q ∨ rAnyT X.K xs H Q) := (cr_any hc).or (cr_anyT hc)
/-! ### methods of texts with one argument -/
theorem sim_sm1 {f : D → D → Option D} {r : V → List V → Hp → VK → Prop} (hpe : ∀ {ta tb : TE}, PE X a ta → PE X b tb → PE X e (tM1 r ta tb)) (hf : Op2 X f fun x y H Q => r x [y] H Q) (hs : ∀ x y d, f x y = some d → ∃ z, x = .str z) (ha : SimR X own a sa) (hb : SimR X own b sb) : SimE X own e (sOp2 f sa sb) :=
  pe_weak (hpe ha hb) fun σ H Q h => by
    obtain ⟨g0, H0, ρ, g, S, E, q⟩ := h
    obtain ⟨d, S', e1, k⟩ := Res.post_ex q
    obtain ⟨x, S1, e2, e1⟩ := Res.then_ex e1
    obtain ⟨y, S2, e3, e1⟩ := Res.then_ex e1
    obtain ⟨e4, rfl⟩ := optR_ex e1
    obtain ⟨z, rfl⟩ := hs _ _ _ e4
    refine ⟨g0, H0, ρ, g, S, E, ?_⟩
    rw [e2]
    intro v g1 H1 G1 s1 r1
    cases r1.str
    refine ⟨⟨_, rfl⟩, g0, H0, ρ, g1, S1, E.step G1 s1, ?_⟩
    rw [e3]
    intro v2 g2 H2 G2 s2 r2
    exact hf g2 H2 S2 _ v2 _ y d Q G2 (r1.step s2) r2 e4 fun v3 g3 H3 G3 s3 r3 => k v3 g3 H3 G3 ((s1.trans s2).trans s3) r3
def strsD : List D → Option (List Str)
  | [] => some []
  | .str i :: r => (strsD r).map (i :: ·)
  | _ => none
theorem strs_ofD {K : PySem.W.Frag} {mg : Str → Option Value} {g : Gh} : ∀ {ds : List D} {vs : List V} {ns : List Str}, Reps K mg g vs ds → strsD ds = some ns → vs = ns.map V.str
  | [], _, _, .nil, e => by cases (show some ([] : List Str) = some _ from e); rfl
  | .str i :: ds, _, ns, .cons h r, e => by
    cases h
    have e' : (strsD ds).map (i :: ·) = some ns := e
    cases q : strsD ds with
    | none => rw [q] at e'; cases e'
    | some ms => rw [q] at e'; cases e'; rw [strs_ofD r q] <;> rfl
  | .non :: _, _, _, _, e => by cases (show (none : Option (List Str)) = some _ from e)
  | .bl _ :: _, _, _, _, e => by cases (show (none : Option (List Str)) = some _ from e)
  | .int _ :: _, _, _, _, e => by cases (show (none : Option (List Str)) = some _ from e)
  | .tup _ :: _, _, _, _, e => by cases (show (none : Option (List Str)) = some _ from e)
  | .lst _ :: _, _, _, _, e => by cases (show (none : Option (List Str)) = some _ from e)
  | .obj _ _ :: _, _, _, _, e => by cases (show (none : Option (List Str)) = some _ from e)
  | .mref _ :: _, _, _, _, e => by cases (show (none : Option (List Str)) = some _ from e)
  | .scr _ :: _, _, _, _, e => by cases (show (none : Option (List Str)) = some _ from e)
@[simp] theorem strsD_map (ns : List Str) : strsD (ns.map .str) = some ns := by
  induction ns with
  | nil => rfl
  | cons n r ih =>
    show (strsD (r.map .str)).map (n :: ·) = _
    rw [ih] <;> rfl
def joinS (a : Str) (ys : List Str) : Option D := if (ys.map (·.length)).sum + ys.length * a.length ≤ 16777216 then some (.str (Txt.join a ys)) else none
def dJoin : D → D → Option D
  | .str a, .lst xs => (strsD xs).bind (joinS a)
  | .str a, .tup xs => (strsD xs).bind (joinS a)
  | _, _ => none
theorem join_str : ∀ x y d, dJoin x y = some d → ∃ z, x = .str z := by
  intro x y d e
  unfold dJoin at e
  split at e
  · exact ⟨_, rfl⟩
  · exact ⟨_, rfl⟩
  · cases e
theorem op2_join : Op2 X dJoin (fun x y H Q => ∃ a p, ∃ ys : List Str, x = .str a ∧ [y] = [.ref p] ∧ (SqL X.K H p (ys.map V.str) ∨ SqT X.K H p (ys.map V.str)) ∧ (ys.map (·.length)).sum + ys.length * a.length ≤ 16777216 ∧ Q (.str (Txt.join a ys)) H) := by
  intro g H S x y a b d Q G ra rb e k
  unfold dJoin at e
  split at e
  · rename_i z xs
    cases q : strsD xs with
    | none => rw [q] at e; cases e
    | some ys =>
      rw [q] at e
      have e' : joinS z ys = some d := e
      unfold joinS at e'
      split at e'
      · rename_i hz
        cases e'
        cases ra.str
        obtain ⟨p, vs, rfl, hp, rs⟩ := rb.lst G
        cases strs_ofD rs q
        exact ⟨z, p, ys, rfl, rfl, .inl (SqL.of hp), hz, k _ g H G .refl (.str _)⟩
      · cases e'
  · rename_i z xs
    cases q : strsD xs with
    | none => rw [q] at e; cases e
    | some ys =>
      rw [q] at e
      have e' : joinS z ys = some d := e
      unfold joinS at e'
      split at e'
      · rename_i hz
        cases e'
        cases ra.str
        obtain ⟨p, vs, rfl, hp, rs⟩ := rb.tup G
        cases strs_ofD rs q
        exact ⟨z, p, ys, rfl, rfl, .inr (SqT.of hp), hz, k _ g H G .refl (.str _)⟩
      · cases e'
  · cases e
end
/-! ### sorted -/
def isTupC : PyData → Bool
  | .tuple (_ :: _) => true
  | _ => false
def isOth : PyData → Bool
  | .none => false
  | .tuple _ => false
  | _ => true
def sortOk (ps : List PyData) : Bool := (ps.all fun a => ps.all fun b => PySem.W.alike a b) && (ps.all isTupC || ps.all isOth) && ps.all fun p => decide (p.depth ≤ 60)
theorem sortOk_al {ps : List PyData} (h : sortOk ps = true) : PySem.W.AllAlike ps ∧ PySem.W.Sortable ps ∧ ∀ p ∈ ps, p.depth ≤ 60 := by
  unfold sortOk at h
  rw [Bool.and_eq_true, Bool.and_eq_true, Bool.or_eq_true] at h
  obtain ⟨⟨h1, h2⟩, h3⟩ := h
  refine ⟨fun d hd d' hd' => List.all_eq_true.mp (List.all_eq_true.mp h1 d hd) d' hd', ?_, fun p hp => of_decide_eq_true (List.all_eq_true.mp h3 p hp)⟩
  rcases h2 with h2 | h2
  · refine .inl fun d hd => ?_
    have := List.all_eq_true.mp h2 d hd
    unfold isTupC at this
    split at this
    · exact ⟨_, _, rfl⟩
    · cases this
  · refine .inr fun d hd => ?_
    have := List.all_eq_true.mp h2 d hd
    unfold isOth at this
    split at this
    · cases this
    · cases this
    · exact ⟨by assumption, by assumption⟩
def rSortedD (K : PySem.W.Frag) : List V → Hp → VK → Prop := fun vs H Q => ∃ (a : Addr) (L : List (V × PyData)), vs = [V.ref a] ∧ SqL K H a (L.map (·.1)) ∧ (∀ x ∈ L, Dp K H x.1 x.2) ∧ sortOk (L.map (·.2)) = true ∧
  ∀ p, H p = none → Q (.ref p) (upd H p (.lst ((L.mergeSort (PySem.W.dataLe false (·.2))).map (·.1))))
theorem vals_each {R : Value → V × PyData → Prop} : ∀ {L : List (V × PyData)} {its : List Value}, Vals (L.map (·.1)) its → (∀ x ∈ L, ∀ u, RelV x.1 u → R u x) → PySem.W.EachIs R its L
  | [], its, r, h => by
    cases r
    exact .nil
  | x :: L, its, r, h => by
    cases r with
    | cons r1 r2 => exact .cons (h x List.mem_cons_self _ r1) (vals_each r2 fun y hy => h y (List.mem_cons_of_mem _ hy))
theorem each_vals : ∀ {L : List (V × PyData)} {its : List Value}, PySem.W.EachIs (fun u x => RelV x.1 u) its L → Vals (L.map (·.1)) its
  | [], _, .nil => .nil
  | _ :: _, _, .cons h r => .cons h (each_vals r)
section
variable {X : Cx}
theorem cr_sortedD (hu : X.A.units + 62 < cLine) : CallR X (.builtin "sorted") (rSortedD X.K) := by
  intro pins s σ H vs us Q I r h
  obtain ⟨a, L, rfl, hs, hd, ok, q⟩ := h
  obtain ⟨its, rv, hl, hz⟩ := I.list hs
  rw [Vals.ref1 r]
  obtain ⟨h1, h2, h3⟩ := sortOk_al ok
  rw [List.length_map] at hz
  refine PySem.W.sorted_data (bs := L) (enc := (·.2)) (R := fun u x => RelV x.1 u) hl.isList (vals_each rv fun x _ u h => h) (vals_each rv fun x hx u h => Dp.reads I _ _ _ (hd x hx) h) h1 h2 hz (fun b hb => ?_) fun out ho eo => ?_
  · have := h3 b.2 (List.mem_map.mpr ⟨b, hb, rfl⟩)
    omega
  · obtain ⟨ep, he'⟩ := PyProof.Rows.sortedAll_at s.heap its out.toArray
    have hlen : ((L.mergeSort (PySem.W.dataLe false (·.2))).map (·.1)).length ≤ sizeLine := by
      rw [List.length_map, List.length_mergeSort]
      exact hz
    exact ⟨.ref _, upd H (s.heap.objs.size + 1) (.lst ((L.mergeSort (PySem.W.dataLe false (·.2))).map (·.1))), I.laid (t' := s.toks) (fun _ _ => PyProof.Rows.sortedAll_old) (Nat.le_succ _) ⟨hlen, out, ep, each_vals eo, he'⟩, rfl, q _ (I.hok.fresh (Nat.le_succ _))⟩
def sortD (xs : List D) (ps : List PyData) : List D := ((xs.zip ps).mergeSort (PySem.W.dataLe false (·.2))).map (·.1)
def dSorted : List D → Option D
  | [.lst xs] => (pyAll xs).bind fun ps => if sortOk ps then some (.lst (sortD xs ps)) else none
  | _ => none
theorem sorted_l {ds : List D} {d : D} (e : dSorted ds = some d) : ∃ es, d = .lst es := by
  unfold dSorted at e
  split at e
  · rename_i xs
    cases q : pyAll xs with
    | none => rw [q] at e; cases e
    | some ps =>
      rw [q] at e
      have e' : (if sortOk ps then some (D.lst (sortD xs ps)) else none) = some d := e
      split at e'
      · cases e'; exact ⟨_, rfl⟩
      · cases e'
  · cases e
theorem zip_each {g : Gh} {H : Hp} (hs : Same g.F H) : ∀ {vs : List V} {ds : List D} {ps : List PyData}, Reps X.K X.mg g vs ds → pyAll ds = some ps →
    PySem.W.EachIs (fun (x : V × PyData) (y : D × PyData) => Rep X.K X.mg g x.1 y.1 ∧ x.2 = y.2 ∧ Dp X.K H x.1 x.2) (vs.zip ps) (ds.zip ps) ∧ vs.length = ps.length
  | _, _, ps, .nil, e => by cases (show some ([] : List PyData) = some _ from e); exact ⟨.nil, rfl⟩
  | _, _, xs, .cons (d := d) (ds := ds) h r, e => by
    have e' : (match d.py, pyAll ds with
      | some x, some xs => some (x :: xs)
      | _, _ => none) = some xs := e
    cases q : d.py with
    | none => rw [q] at e'; cases e'
    | some x => cases q2 : pyAll ds with
      | none => rw [q, q2] at e'; cases e'
      | some ys =>
        rw [q, q2] at e'
        cases e'
        obtain ⟨h1, h2⟩ := zip_each hs r q2
        exact ⟨.cons ⟨h, rfl, dp_of hs h q⟩ h1, congrArg (· + 1) h2⟩
theorem each_reps {g : Gh} {H : Hp} : ∀ {L : List (V × PyData)} {M : List (D × PyData)}, PySem.W.EachIs (fun (x : V × PyData) (y : D × PyData) => Rep X.K X.mg g x.1 y.1 ∧ x.2 = y.2 ∧ Dp X.K H x.1 x.2) L M → Reps X.K X.mg g (L.map (·.1)) (M.map (·.1)) ∧ (∀ x ∈ L, Dp X.K H x.1 x.2) ∧ L.map (·.2) = M.map (·.2)
  | _, _, .nil => ⟨.nil, fun x h => by (cases h), rfl⟩
  | _, _, .cons h r => by
    obtain ⟨h1, h2, h3⟩ := each_reps r
    refine ⟨.cons h.1 h1, fun x hx => ?_, by rw [List.map_cons, List.map_cons, h3, h.2.1]⟩
    rcases List.mem_cons.mp hx with rfl | hx
    · exact h.2.2
    · exact h2 x hx
theorem each_in {α β : Type} {R : α → β → Prop} : ∀ {as : List α} {bs : List β}, PySem.W.EachIs R as bs → ∀ p ∈ as.zip bs, R p.1 p.2
  | _, _, h, p, hp => h.zip p hp
theorem opF_sorted : OpF X dSorted (rSortedD X.K) := by
  intro g H S xs ds d Q G r e
  unfold dSorted at e
  split at e
  · rename_i ys
    cases q : pyAll ys with
    | none => rw [q] at e; cases e
    | some ps =>
      rw [q] at e
      have e' : (if sortOk ps then some (D.lst (sortD ys ps)) else none) = some d := e
      split at e'
      · rename_i ok
        cases e'
        refine ⟨_, rfl, fun k => ?_⟩
        obtain ⟨x, rfl, h⟩ := rr1 r
        obtain ⟨p, vs, rfl, hp, rs⟩ := h.lst G
        obtain ⟨ze, hl⟩ := zip_each G.sub rs q
        obtain ⟨_, hdp, _⟩ := each_reps ze
        have hsnd : (vs.zip ps).map (·.2) = ps := List.map_snd_zip (Nat.le_of_eq hl.symm)
        refine ⟨p, vs.zip ps, rfl, ?_, hdp, by rw [hsnd]; exact ok, fun l hl' => ?_⟩
        · have : (vs.zip ps).map (·.1) = vs := List.map_fst_zip (Nat.le_of_eq hl)
          rw [this]
          exact SqL.of hp
        · have ze2 := PySem.W.sort_each (r := PySem.W.dataLe false (·.2)) (s := PySem.W.dataLe false (·.2)) ze fun a ha b hb => by
            have h1 := (each_in ze a ha).2.1
            have h2 := (each_in ze b hb).2.1
            show PySem.W.dataLe false (fun x : V × PyData => x.2) a.1 b.1 = PySem.W.dataLe false (fun x : D × PyData => x.2) a.2 b.2
            unfold PySem.W.dataLe
            unfold PySem.W.sortLe
            simp only [h1, h2]
          exact k l _ hl' (each_reps ze2).1
      · cases e'
  · cases e
end
end Ev
namespace Ev
open PySem PySem.Spec PyProof.Rows L2
/-! ### walks over lists, tuples, texts -/
def iSeq (K : PySem.W.Frag) (tl : TE) : TI := fun σ H R => tl σ H fun x H1 => (∃ a, x = .ref a ∧ (∃ xs, SqL K H1 a xs) ∧ R (Itl K a) H1) ∨ (∃ a, x = .ref a ∧ (∃ xs, SqT K H1 a xs) ∧ R (Itt K a) H1) ∨ ∃ z, x = .str z ∧ R (Its z) H1
theorem pi_seq {X : Cx} {tg l : Expr} {tl : TE} (hl : PE X l tl) : PI X tg l (iSeq X.K tl) := by
  refine ⟨fun pins s σ H R I h => ?_⟩
  refine thn (hl.run pins s σ H _ I h) fun v s1 ⟨x, H1, I1, r1, q1⟩ => ?_
  rcases q1 with ⟨a, e, ⟨xs, hq⟩, q⟩ | ⟨a, e, ⟨xs, hq⟩, q⟩ | ⟨z, e, q⟩
  · subst e
    cases r1
    obtain ⟨its, rv, p, hz⟩ := I1.list hq
    refine wpAny_pyIter_list p.isList ?_
    refine ⟨s1.heap.objs.size, [s1.heap.objs.size], _, _, H1, rfl, I1.kept (t' := s1.toks) fun b o e => Heap.get?_push_of_some _ e, turn_list a _, ⟨_, Heap.get?_push_size _ rfl, rfl, rfl⟩, fun b hb => ?_, q⟩
    have e : b = s1.heap.objs.size := by simpa using hb
    subst e
    exact I1.fpOk (Nat.le_refl _) (I1.hok.fresh (Nat.le_refl _))
  · subst e
    cases r1
    obtain ⟨its, rv, p, hz⟩ := I1.tuple hq
    refine wpAny_pyIter_tuple (show s1.heap.IsTuple a its.toArray from p) ?_
    refine ⟨s1.heap.objs.size, [s1.heap.objs.size], _, _, H1, rfl, I1.kept (t' := s1.toks) fun b o e => Heap.get?_push_of_some _ e, turn_tuple a _, ⟨_, Heap.get?_push_size _ rfl, rfl, rfl⟩, fun b hb => ?_, q⟩
    have e : b = s1.heap.objs.size := by simpa using hb
    subst e
    exact I1.fpOk (Nat.le_refl _) (I1.hok.fresh (Nat.le_refl _))
  · subst e
    obtain ⟨t, rfl⟩ := r1
    cases ha : z.cps.all (· < 128)
    · exact wpAny_pyIter_wide ha (pi_one (tk := s1.toks) I1 _ (turn_str _ z t "str_iterator" (.inr rfl)) ⟨_, Heap.get?_push_size _ rfl, rfl, rfl⟩ q)
    · exact wpAny_pyIter_ascii ha (pi_one (tk := s1.toks) I1 _ (turn_str _ z t "str_ascii_iterator" (.inl rfl)) ⟨_, Heap.get?_push_size _ rfl, rfl, rfl⟩ q)
def signsD (z : Str) : List D := z.cps.toList.map fun c => .str ⟨#[c]⟩
section
variable {X : Cx} {own own' ob : List Nat} {e a b c : Expr} {es : List Expr} {se sa sb sc : SE} {pos p p2 : Pos}
theorem wk_str {g1 : Gh} {z : Str} : Wk X (Its z) (signsD z) g1 := fun g H S G l i => by
  unfold signsD
  refine ⟨fun d hd => ?_, fun e => by rw [List.length_map] at e; show z.cps.size ≤ i; rw [← e]; simp⟩
  rw [List.getElem?_map] at hd
  cases q : z.cps.toList[i]? with
  | none => rw [q] at hd; cases hd
  | some k =>
    rw [q] at hd
    cases hd
    have q' : z.cps[i]? = some k := by simpa using q
    have hlt : i < z.cps.size := (Array.getElem?_eq_some_iff.mp q').1
    refine ⟨hlt, fun x H' ⟨e, c, hc, hx⟩ => ?_⟩
    subst e hx
    rw [q'] at hc
    cases hc
    exact ⟨g, G, .refl, .str _⟩
def sItA (se : SE) : SI := fun ρ S => (se ρ S).then fun d S' => match d with
  | .lst xs => .ok xs S'
  | .tup xs => .ok xs S'
  | .scr ns => .ok (ns.map .int) S'
  | .str z => .ok (signsD z) S'
  | _ => .bad
theorem simi_seq {tg : Expr} (h : SimE X own e se) : SimI X own tg e (sItA se) := pi_weak (pi_seq h) fun σ H R ⟨g0, H0, ρ, g, S, E, q⟩ => by
  obtain ⟨ds, S', e1, k⟩ := Res.post_ex q
  obtain ⟨d, S1, e2, e1⟩ := Res.then_ex e1
  refine ⟨g0, H0, ρ, g, S, E, ?_⟩
  rw [e2]
  intro v g1 H1 G1 s1 r1
  cases r1 with
  | lst h r => cases e1; exact .inl ⟨_, rfl, ⟨_, SqL.of (G1.sub _ _ h)⟩, k _ g1 H1 G1 s1 (wk_list h r)⟩
  | scr h => cases e1; exact .inl ⟨_, rfl, ⟨_, G1.sub.seq h⟩, k _ g1 H1 G1 s1 (wk_scr h)⟩
  | tup h r => cases e1; exact .inr (.inl ⟨_, rfl, ⟨_, SqT.of (G1.sub _ _ h)⟩, k _ g1 H1 G1 s1 (wk_tup h r)⟩)
  | str z => cases e1; exact .inr (.inr ⟨_, rfl, k _ g1 H1 G1 s1 wk_str⟩)
  | _ => cases e1
/-! ### short forms -/
theorem v_len (hm : X.mg "len" = none) (ha : SimR X own a sa) (hg : Gl X "len" := by rfl) (he : starEach (a :: []) X.env = (false, eval a X.env) :: starEach [] X.env := by rfl) (hpl : (backTo pos (starEach ([] : List Expr) X.env)).any (·.1) = false := by rfl) : SimE X own (.Call (.Name "len" p) [a] [] pos) (sCallN dLen [(false, sa)]) := sim_callB call_len opN_len hg hm boot_len (simr_cons ha simr_nil he) (by decide) (by decide) he hpl
theorem v_any (hm : X.mg "any" = none) (ha : SimR X own a sa) (hc : X.calm = true := by rfl) (hg : Gl X "any" := by rfl) (he : starEach (a :: []) X.env = (false, eval a X.env) :: starEach [] X.env := by rfl) (hpl : (backTo pos (starEach ([] : List Expr) X.env)).any (·.1) = false := by rfl) : SimE X own (.Call (.Name "any" p) [a] [] pos) (sCallN dAnyA [(false, sa)]) := sim_callB (call_anyA hc) opN_anyA hg hm (by decide +kernel) (simr_cons ha simr_nil he) (by decide) (by decide) he hpl
theorem v_all (hm : X.mg "all" = none) (ha : SimR X own a sa) (hc : X.calm = true := by rfl) (hg : Gl X "all" := by rfl) (he : starEach (a :: []) X.env = (false, eval a X.env) :: starEach [] X.env := by rfl) (hpl : (backTo pos (starEach ([] : List Expr) X.env)).any (·.1) = false := by rfl) : SimE X own (.Call (.Name "all" p) [a] [] pos) (sCallN dAll [(false, sa)]) := sim_callB (cr_all hc) opN_all hg hm (by decide +kernel) (simr_cons ha simr_nil he) (by decide) (by decide) he hpl
theorem v_sum (hm : X.mg "sum" = none) (ha : SimR X own a sa) (hc : X.calm = true := by rfl) (hg : Gl X "sum" := by rfl) (he : starEach (a :: []) X.env = (false, eval a X.env) :: starEach [] X.env := by rfl) (hpl : (backTo pos (starEach ([] : List Expr) X.env)).any (·.1) = false := by rfl) : SimE X own (.Call (.Name "sum" p) [a] [] pos) (sCallN dSum [(false, sa)]) := sim_callB (cr_sum hc) opN_sum hg hm (by decide +kernel) (simr_cons ha simr_nil he) (by decide) (by decide) he hpl
theorem v_max1 (hm : X.mg "max" = none) (ha : SimR X own a sa) (hc : X.calm = true := by rfl) (hg : Gl X "max" := by rfl) (he : starEach (a :: []) X.env = (false, eval a X.env) :: starEach [] X.env := by rfl) (hpl : (backTo pos (starEach ([] : List Expr) X.env)).any (·.1) = false := by rfl) : SimE X own (.Call (.Name "max" p) [a] [] pos) (sCallN dMax [(false, sa)]) := sim_callB (call_maxA hc) opN_max hg hm (by decide +kernel) (simr_cons ha simr_nil he) (by decide) (by decide) he hpl
theorem v_min1 (hm : X.mg "min" = none) (ha : SimR X own a sa) (hc : X.calm = true := by rfl) (hg : Gl X "min" := by rfl) (he : starEach (a :: []) X.env = (false, eval a X.env) :: starEach [] X.env := by rfl) (hpl : (backTo pos (starEach ([] : List Expr) X.env)).any (·.1) = false := by rfl) : SimE X own (.Call (.Name "min" p) [a] [] pos) (sCallN dMin [(false, sa)]) := sim_callB (call_minA hc) opN_min hg hm (by decide +kernel) (simr_cons ha simr_nil he) (by decide) (by decide) he hpl
theorem v_max2 (hm : X.mg "max" = none) (ha : SimR X own a sa) (hb : SimR X own b sb) (hc : X.calm = true := by rfl) (hg : Gl X "max" := by rfl) (he : starEach (a :: [b]) X.env = (false, eval a X.env) :: starEach [b] X.env := by rfl) (he2 : starEach (b :: []) X.env = (false, eval b X.env) :: starEach [] X.env := by rfl) (hpl : (backTo pos (starEach [b] X.env)).any (·.1) = false := by rfl) : SimE X own (.Call (.Name "max" p) [a, b] [] pos) (sCallN dMax [(false, sa), (false, sb)]) := sim_callB (call_maxA hc) opN_max hg hm (by decide +kernel) (simr_cons ha (simr_cons hb simr_nil he2) he) (by decide) (by decide) he hpl
theorem v_min2 (hm : X.mg "min" = none) (ha : SimR X own a sa) (hb : SimR X own b sb) (hc : X.calm = true := by rfl) (hg : Gl X "min" := by rfl) (he : starEach (a :: [b]) X.env = (false, eval a X.env) :: starEach [b] X.env := by rfl) (he2 : starEach (b :: []) X.env = (false, eval b X.env) :: starEach [] X.env := by rfl) (hpl : (backTo pos (starEach [b] X.env)).any (·.1) = false := by rfl) : SimE X own (.Call (.Name "min" p) [a, b] [] pos) (sCallN dMin [(false, sa), (false, sb)]) := sim_callB (call_minA hc) opN_min hg hm (by decide +kernel) (simr_cons ha (simr_cons hb simr_nil he2) he) (by decide) (by decide) he hpl
theorem v_int (hm : X.mg "int" = none) (ha : SimR X own a sa) (hg : Gl X "int" := by rfl) (he : starEach (a :: []) X.env = (false, eval a X.env) :: starEach [] X.env := by rfl) (hpl : (backTo pos (starEach ([] : List Expr) X.env)).any (·.1) = false := by rfl) : SimE X own (.Call (.Name "int" p) [a] [] pos) (sCallN dIntOf [(false, sa)]) := sim_callTy call_int1 opN_int hg hm boot_int (simr_cons ha simr_nil he) (by decide) (by decide) he hpl
theorem v_str (hm : X.mg "str" = none) (ha : SimR X own a sa) (hg : Gl X "str" := by rfl) (he : starEach (a :: []) X.env = (false, eval a X.env) :: starEach [] X.env := by rfl) (hpl : (backTo pos (starEach ([] : List Expr) X.env)).any (·.1) = false := by rfl) : SimE X own (.Call (.Name "str" p) [a] [] pos) (sCallN dStrOf [(false, sa)]) := sim_callTy call_str_int opN_str hg hm boot_str (simr_cons ha simr_nil he) (by decide) (by decide) he hpl
theorem v_tup (hm : X.mg "tuple" = none) (ha : SimR X own a sa) (hg : Gl X "tuple" := by rfl) (he : starEach (a :: []) X.env = (false, eval a X.env) :: starEach [] X.env := by rfl) (hpl : (backTo pos (starEach ([] : List Expr) X.env)).any (·.1) = false := by rfl) : SimE X own (.Call (.Name "tuple" p) [a] [] pos) (sCallN dTupOf [(false, sa)]) := sim_callTy call_tuple_of opN_tup hg hm boot_tuple (simr_cons ha simr_nil he) (by decide) (by decide) he hpl
theorem f_lst (hm : X.mg "list" = none) (ha : SimR X own a sa) (hg : Gl X "list" := by rfl) (he : starEach (a :: []) X.env = (false, eval a X.env) :: starEach [] X.env := by rfl) (hpl : (backTo pos (starEach ([] : List Expr) X.env)).any (·.1) = false := by rfl) : SimF X own (.Call (.Name "list" p) [a] [] pos) (sCallN dLstOf [(false, sa)]) := simf_callTy call_list_of opF_lst hg hm boot_list (simr_cons ha simr_nil he) (by decide) (by decide) he hpl
theorem f_sorted {k : Nat} (hr : Room k X.A) (hm : X.mg "sorted" = none) (ha : SimR X own a sa) (hg : Gl X "sorted" := by rfl) (he : starEach (a :: []) X.env = (false, eval a X.env) :: starEach [] X.env := by rfl) (hpl : (backTo pos (starEach ([] : List Expr) X.env)).any (·.1) = false := by rfl) : SimF X own (.Call (.Name "sorted" p) [a] [] pos) (sCallN dSorted [(false, sa)]) := simf_callB (cr_sortedD (by have := hr.un; omega)) opF_sorted hg hm (by decide +kernel) (simr_cons ha simr_nil he) (by decide) (by decide) he hpl
theorem v_join {apos : Pos} (ha : SimR X own a sa) (hb : SimR X own b sb) (hs : starEach [b] X.env = [(false, eval b X.env)] := by rfl) (hbase : attributeBase a "join" X.env (eval a X.env) = eval a X.env := by rfl) (hline : (apos.endLine == pos.line) = true := by rfl) : SimE X own (.Call (.Attribute a "join" apos) [b] [] pos) (sOp2 dJoin sa sb) :=
  sim_sm1 (fun h1 h2 => pe_join h1 h2 hs hbase hline) op2_join join_str ha hb
theorem v_add (ha : SimR X own a sa) (hb : SimR X own b sb) : SimE X own (.BinOp a .Add b pos) (sOp2 dAdd sa sb) := sim_op opr_add op2_add ha hb
theorem v_sub (ha : SimR X own a sa) (hb : SimR X own b sb) : SimE X own (.BinOp a .Sub b pos) (sOp2 dSub sa sb) := sim_op op_sub op2_sub ha hb
theorem v_mul (ha : SimR X own a sa) (hb : SimR X own b sb) : SimE X own (.BinOp a .Mult b pos) (sOp2 dMulA sa sb) := sim_op opr_mulA op2_mulA ha hb
theorem v_fdiv (ha : SimR X own a sa) (hb : SimR X own b sb) : SimE X own (.BinOp a .FloorDiv b pos) (sOp2 dFdiv sa sb) := sim_op op_fdivN op2_fdiv ha hb
theorem v_mod (ha : SimR X own a sa) (hb : SimR X own b sb) : SimE X own (.BinOp a .Mod b pos) (sOp2 dMod sa sb) := sim_op op_modN op2_mod ha hb
theorem v_pow (ha : SimR X own a sa) (hb : SimR X own b sb) : SimE X own (.BinOp a .Pow b pos) (sOp2 dPow sa sb) := sim_op op_pow op2_pow ha hb
theorem v_neg (ha : SimR X own a sa) : SimE X own (.UnaryOp .USub a pos) (sOp1 dNeg sa) := sim_un un_neg op1_neg ha
theorem f_rep (ha : SimR X own a sa) (hb : SimR X own b sb) : SimF X own (.BinOp a .Mult b pos) (sOp2 dRepF sa sb) := simf_op op_rep opF2_rep ha hb
theorem f_cat (ha : SimR X own a sa) (hb : SimR X own b sb) : SimF X own (.BinOp a .Add b pos) (sOp2 dCatF sa sb) := simf_op op_cat opF2_cat ha hb
end
/-- what gives a new list -/
class IsL (se : SE) : Prop where
  l : ∀ ρ S d S', se ρ S = .ok d S' → ∃ ds, d = .lst ds
instance {sas : List (Bool × SE)} : IsL (sLst sas) := ⟨fun _ _ _ _ e => sLst_lst e⟩
instance {vs : List Nat} {si : SI} {sg : SG} {st : SB} {se : SE} : IsL (sComp vs si sg st se) := ⟨fun _ _ _ _ e => sComp_lst e⟩
instance {sa sb : SE} : IsL (sOp2 dRepF sa sb) := ⟨fun _ _ _ _ e => opl_f (fun _ _ _ h => rep_l h) e⟩
instance {sa sb : SE} : IsL (sOp2 dCatF sa sb) := ⟨fun _ _ _ _ e => opl_f (fun _ _ _ h => cat_l h) e⟩
instance {sas : List (Bool × SE)} : IsL (sCallN dLstOf sas) := ⟨fun _ _ _ _ e => callL (fun _ _ h => lstOf_l h) e⟩
instance {sas : List (Bool × SE)} : IsL (sCallN dSorted sas) := ⟨fun _ _ _ _ e => callL (fun _ _ h => sorted_l h) e⟩
section
variable {X : Cx} {own own' ob : List Nat} {e : Expr} {se : SE}
theorem SimF.ee [i : IsL se] (h : SimF X own e se) : SimE X own e se := h.ev i.l
theorem SimF.rr [i : IsL se] (h : SimF X own e se) : SimR X own e se := h.r i.l
theorem SimF.xx [i : IsL se] (h : SimF X own e se) : SimX X true own e se := SimF.x h i.l
end
end Ev
namespace Ev
open PySem PySem.Spec PyProof.Rows L2
/-! ### calls that only look at lists of the body's own -/
mutual
def noM : D → Bool
  | .mref _ => false
  | .tup xs => noMs xs
  | .lst xs => noMs xs
  | .obj _ fs => noMf fs
  | _ => true
def noMs : List D → Bool
  | [] => true
  | d :: ds => noM d && noMs ds
def noMf : List (Str × D) → Bool
  | [] => true
  | (_, d) :: ds => noM d && noMf ds
end
def flatD : D → Bool
  | .non => true
  | .bl _ => true
  | .int _ => true
  | .str _ => true
  | _ => false
section
variable {K : PySem.W.Frag} {mg : Str → Option Value} {g g' : Gh} {H H' : Hp} {S S' : Sto}
mutual
theorem Rep.noM (lF : Same g.F g'.F) : ∀ {v : V} {d : D}, Rep K mg g v d → noM d = true → Rep K mg g' v d
  | _, _, .non, _ => .non
  | _, _, .bl b, _ => .bl b
  | _, _, .int i, _ => .int i
  | _, _, .str x, _ => .str x
  | _, _, .tup (ds := ds) h r, e => .tup (lF _ _ h) (Reps.noM lF r (show noMs ds = true from e))
  | _, _, .lst (ds := ds) h r, e => .lst (lF _ _ h) (Reps.noM lF r (show noMs ds = true from e))
  | _, _, .obj (fs := fs) m h h2 r, e => .obj m (lF _ _ h) (lF _ _ h2) (FReps.noM lF r (show noMf fs = true from e))
  | _, _, .mref (i := i) h, e => by cases (show false = true from e)
  | _, _, .scr h, _ => .scr (lF.seq h)
theorem Reps.noM (lF : Same g.F g'.F) : ∀ {vs : List V} {ds : List D}, Reps K mg g vs ds → noMs ds = true → Reps K mg g' vs ds
  | _, _, .nil, _ => .nil
  | _, _, .cons (d := d) (ds := ds) h r, e => by
    have e' : (Ev.noM d && noMs ds) = true := e
    rw [Bool.and_eq_true] at e'
    exact .cons (Rep.noM lF h e'.1) (Reps.noM lF r e'.2)
theorem FReps.noM (lF : Same g.F g'.F) : ∀ {vs : List (Str × V)} {ds : List (Str × D)}, FReps K mg g vs ds → noMf ds = true → FReps K mg g' vs ds
  | _, _, .nil, _ => .nil
  | _, _, .cons (d := d) (ds := ds) (x := x) h r, e => by
    have e' : (Ev.noM d && noMf ds) = true := e
    rw [Bool.and_eq_true] at e'
    exact .cons (Rep.noM lF h e'.1) (FReps.noM lF r e'.2)
end
theorem whole (G : GOk K mg g H S) : ∀ {vs : List V} {ds : List D}, RepRs K mg g H vs ds → noMs ds = true → Reps K mg ⟨H, [], g.me⟩ vs ds
  | _, _, .nil, _ => .nil
  | _, _, .cons (d := d) (ds := ds) h r, e => by
    have e' : (Ev.noM d && noMs ds) = true := e
    rw [Bool.and_eq_true] at e'
    refine .cons ?_ (whole G r e'.2)
    rcases h with h | ⟨p, vs', ds', rfl, rfl, hp, _, r'⟩
    · exact Rep.noM (g' := ⟨H, [], g.me⟩) G.sub h e'.1
    · exact .lst hp (Reps.noM (g' := ⟨H, [], g.me⟩) G.sub r' (show noMs ds' = true from e'.1))
theorem GOk.whole : GOk K mg ⟨H, [], g.me⟩ H [] := ⟨Same.refl _, List.nodup_nil, rfl, fun _ h => (by cases h), fun i a h => by simp at h⟩
theorem GOk.keepAll (G : GOk K mg g H S) (k : ∀ a o, H a = some o → H' a = some o) : GOk K mg g H' S :=
  ⟨fun a o h => k a o (G.sub a o h), G.nd, G.len, G.nf, fun i a h => by
    obtain ⟨kvs, kds, h1, h2, h3⟩ := G.st i a h
    exact ⟨kvs, kds, k _ _ h1, h2, h3⟩⟩
theorem flat_rep {v : V} {d : D} (r : Rep K mg g v d) (f : flatD d = true) : Rep K mg g' v d := by
  cases r with
  | non => exact .non
  | bl b => exact .bl b
  | int i => exact .int i
  | str x => exact .str x
  | _ => cases f
end
def sCallL (m : List D → M D) (sas : List (Bool × SE)) : SE := fun ρ S => (sArgs sas ρ S).then fun ds S1 => if noMs ds then (match m ds [] with
  | .ok d [] => if flatD d then .ok d S1 else .bad
  | _ => .bad) else .bad
section
variable {X : Cx} {own : List Nat} {e : Expr} {es : List Expr} {se : SE} {sas : List (Bool × SE)} {pos p : Pos} {x : Str} {m : List D → M D} {n k : Nat}
theorem sim_callL (F : GF X.prog X.w X.K X.mg X.base k x n m) (hr : Room k X.A) (hg : Gl X x) (ha : SimAR X own (e :: es) sas) (hn : sas.length = n := by rfl) (hst : (sas.all fun a => !a.1) = true := by rfl) (hdb : (x == ("__debug__" : Str)) = false := by decide)
    (he : starEach (e :: es) X.env = (false, eval e X.env) :: starEach es X.env := by rfl) (hpl : (backTo pos (starEach es X.env)).any (·.1) = false := by rfl) : SimE X own (.Call (.Name x p) (e :: es) [] pos) (sCallL m sas) := by
  obtain ⟨f, fd, ps, hm, hk, hb, F⟩ := F.ex
  refine pe_weak (pe_call F hr hg hm hk hb .nil pass0 ha hdb he hpl) fun σ H Q ⟨g0, H0, ρ, g, S, E, q⟩ => ?_
  obtain ⟨d, S', e1, k⟩ := Res.post_ex q
  obtain ⟨ds, S1, e2, e1⟩ := Res.then_ex e1
  refine ⟨g0, H0, ρ, g, S, E, ?_⟩
  have hl := sArgs_len hst e2
  rw [e2]
  intro vs g1 H1 G1 s1 r1
  rw [List.append_nil]
  split at e1
  · rename_i hno
    split at e1
    · rename_i d1 em
      split at e1
      · rename_i hf
        cases e1
        refine ⟨⟨H1, [], g1.me⟩, ds, [], GOk.whole, whole G1 r1 hno, by rw [hl, hn], ?_⟩
        rw [em]
        intro v g2 H2 G2 s2 r2
        have kp : ∀ a o, H1 a = some o → H2 a = some o := fun a o h => s2.keep a o h (by simp)
        refine k v g1 H2 (G1.keepAll kp) (s1.trans ⟨.refl _, fun a o h _ => kp a o h, s2.there, fun _ h => .inl h, fun _ h => .inl h⟩) (flat_rep r2 hf)
      · cases e1
    · cases e1
  · cases e1
end
/-! ### a def that never answers here -/
section
variable {P : Program} {w : World} {K : PySem.W.Frag} {mg : Str → Option Value} {base : Heap}
theorem gf_bad {x qual : Str} {st : Stmt} {f : Addr} {fd : FuncData} {N ps : List Str} {k n : Nat} (F : FunD K x qual (defArgs st) (defBody st) (defScope st) [] [] f fd) {y : Str} (hm : mg y = some (.ref f)) (Sc : FnScope N ps (defScope st)) (hn : ps.length = n)
    (hb : ∀ (kV doc pm : Value) (an : Option Addr) (cdv ct : Value) (us : List Value), us.length = ps.length → bindArgs (PySem.W.fnOf x qual (defArgs st) (defBody st) (defScope st) .none kV doc pm an cdv ct) ⟨us, []⟩ = pure (ps.zip us)) :
    GF P w K mg base k y n (fun _ _ => .bad) := by
  refine ⟨f, fd, ps, hm, F.kp, F.bindsN hb, ⟨fun vs H Q E h => ?_, fun A outer s H args us vs Q E hr => ?_⟩⟩
  · obtain ⟨g, ds, S, G, r, hl, q⟩ := h
    exact q.elim
  · intros
    rename_i h
    obtain ⟨g, ds, S, G, r, hl, q⟩ := h
    exact q.elim
/-- the law's own def -/
theorem fo_of {x qual : Str} {st : Stmt} {f : Addr} {fd : FuncData} {N ps : List Str} {k n : Nat} {b : SS} (F : FunD K x qual (defArgs st) (defBody st) (defScope st) [] [] f fd) (Sc : FnScope N ps (defScope st)) (hn : ps.length = n) (hN : n ≤ N.length)
    (body : ∀ (cdv : Value) (A : Around) (outer : List Env) (s : Shared) (H : Hp) (E : XK), Room k (A.deeper (envOfC qual (defScope st) s.heap.objs.size f cdv)) → SimB (Ctx P w K mg base N qual (defScope st) f cdv A outer s H E) [] [] [] (defBody st) b) :
    FnOk P w K mg base CX0 (k + 1) f fd ps (spOf K mg n (runD N.length b)) := by
  refine F.ok Sc (fun vs H Q E h => ?_) (fun cdv A outer s H vs Q E hr h => ⟨_, PSs.nox (body cdv A outer s H E hr), ?_⟩)
  · obtain ⟨g, ds, S, G, r, hl, _⟩ := h
    rw [r.length, hl, hn]
  · obtain ⟨g, ds, S, G, r, hl, q⟩ := h
    refine ⟨g, H, _, g, S, env_start (N := N) G r (by rw [hl]; exact hN), ?_⟩
    have q' : (runD N.length b ds S).post _ := q
    unfold runD outD at q'
    refine Res.post_mono (Res.post_then.mp q') fun o S' k => ?_
    cases o with
    | nx ρ => exact fun σ g1 H1 l1 E1 => k _ g1 H1 E1.gok E1.stp .non
    | rt d => exact fun v g1 H1 G1 s1 r1 => k v g1 H1 G1 s1 r1
    | bk ρ => exact k.elim
    | ct ρ => exact k.elim
/-- what the law's def is asked at its start -/
theorem start_law {m : List D → M D} {a : Addr} {ns : List Int} {H : Hp} {E : XK} (hS : SqL K H a (ns.map V.int)) {S' : Sto} (h : m [.scr ns] [] = .ok (.bl true) S') : spOf K mg 1 m [.ref a] H (fun v _ => v = .bl true) E :=
  ⟨⟨H, [], 0⟩, [.scr ns], [], GOk.whole (g := ⟨H, [], 0⟩), .one (.scr hS), rfl, by rw [h]; intro v g' H' G s r; cases r; rfl⟩
end
end Ev
namespace Ev
open PySem PySem.Spec PyProof.Rows L2
/-! ### running mirrors: what simp unfolds -/
theorem then_congr {α β : Type} {r r' : Res α} {k : α → Sto → Res β} (h : r = r') : r.then k = r'.then k := by rw [h]
theorem post_congr {α : Type} {r r' : Res α} {P : α → Sto → Prop} (h : r = r') : r.post P = r'.post P := by rw [h]
def vEl : Option (Option D) → Sto → Res D
  | some (some d), S => .ok d S
  | _, _ => .bad
@[simp] theorem vEl_some (d : D) (S : Sto) : vEl (some (some d)) S = .ok d S := rfl
def vElR : Option (Option D) → Sto → Res D
  | some (some d), S => if noObj d then .ok d S else .bad
  | _, _ => .bad
@[simp] theorem vElR_lst (ds : List D) (S : Sto) : vElR (some (some (.lst ds))) S = .ok (.lst ds) S := rfl
section
variable (ρ : DEnv) (S : Sto) (i j l : Nat) (d : D) (f f' : D → D → Option D) (f1 : D → Option D) (fn : List D → Option D) (sa sb sc se so sk sv : SE) (ba bb st : SB) (ss tt uu : SS) (sas : List (Bool × SE)) (m : List D → M D) (sm : SM) (sg : SG) (gs : List SG) (si : SI)
@[simp] theorem e_var : sVar i ρ S = vEl ρ[i]? S := by
  unfold sVar
  cases ρ[i]? with
  | none => rfl
  | some o => cases o <;> rfl
@[simp] theorem e_varR : sVarR i ρ S = vElR ρ[i]? S := by
  unfold sVarR
  cases ρ[i]? with
  | none => rfl
  | some o => cases o <;> rfl
@[simp] theorem e_c : sC d ρ S = .ok d S := rfl
@[simp] theorem e_op2 : sOp2 f sa sb ρ S = (sa ρ S).then fun x S1 => (sb ρ S1).then fun y S2 => optR (f x y) S2 := rfl
@[simp] theorem e_op1 : sOp1 f1 sa ρ S = (sa ρ S).then fun x S1 => optR (f1 x) S1 := rfl
def rBool : D → Sto → Res Bool
  | .bl b, S => .ok b S
  | _, _ => .bad
@[simp] theorem rBool_bl (b : Bool) : rBool (.bl b) S = .ok b S := rfl
@[simp] theorem e_bool : sBool se ρ S = (se ρ S).then rBool := by
  unfold sBool
  congr 1
  funext d S'
  cases d <;> rfl
def chn (f' : D → D → Option D) (sc : SE) (ρ : DEnv) (y : D) : D → Sto → Res D
  | .bl true, S3 => (sc ρ S3).then fun w S4 => optR (f' y w) S4
  | .bl false, S3 => .ok (.bl false) S3
  | _, _ => .bad
@[simp] theorem chn_bl (y : D) (b : Bool) : chn f' sc ρ y (.bl b) S = if b then (sc ρ S).then fun w S4 => optR (f' y w) S4 else .ok (.bl false) S := by cases b <;> rfl
@[simp] theorem e_chain : sChain f f' sa sb sc ρ S = (sa ρ S).then fun x S1 => (sb ρ S1).then fun y S2 => (optR (f x y) S2).then (chn f' sc ρ y) := by
  unfold sChain
  congr 1
  funext x S1
  congr 1
  funext y S2
  congr 1
  funext z S3
  cases z with
  | bl b => cases b <;> rfl
  | _ => rfl
@[simp] theorem e_tru : sTru se ρ S = (se ρ S).then fun d S' => optR (dTruth d) S' := rfl
@[simp] theorem e_notB : sNotB ba ρ S = (ba ρ S).then fun b S' => .ok (!b) S' := rfl
@[simp] theorem e_andB : sAndB ba bb ρ S = (ba ρ S).then fun b S' => if b then bb ρ S' else .ok false S' := rfl
@[simp] theorem e_orB : sOrB ba bb ρ S = (ba ρ S).then fun b S' => if b then .ok true S' else bb ρ S' := rfl
@[simp] theorem e_andV : sAndV sa sb ρ S = (sBool sa ρ S).then fun b S' => if b then sb ρ S' else .ok (.bl false) S' := rfl
@[simp] theorem e_orV : sOrV sa sb ρ S = (sBool sa ρ S).then fun b S' => if b then .ok (.bl true) S' else sb ρ S' := rfl
@[simp] theorem e_notV : sNotV ba ρ S = (ba ρ S).then fun b S' => .ok (.bl (!b)) S' := rfl
@[simp] theorem e_ifE : sIfE st sa sb ρ S = (st ρ S).then fun c S' => if c then sa ρ S' else sb ρ S' := rfl
@[simp] theorem e_noPart : sNoPart ρ S = .ok none S := rfl
def rPart : D → Sto → Res (Option Int)
  | .int i, S => .ok (some i) S
  | _, _ => .bad
@[simp] theorem rPart_int (i : Int) : rPart (.int i) S = .ok (some i) S := rfl
@[simp] theorem e_part : sPart se ρ S = (se ρ S).then rPart := by
  unfold sPart
  congr 1
  funext d S'
  cases d <;> rfl
def dSlice : D → Option Int → Option Int → Option D
  | .tup xs, lo, hi => some (.tup (cutD xs lo hi))
  | .lst xs, lo, hi => some (.lst (cutD xs lo hi))
  | _, _, _ => none
@[simp] theorem dSlice_tup (xs : List D) (lo hi : Option Int) : dSlice (.tup xs) lo hi = some (.tup (cutD xs lo hi)) := rfl
@[simp] theorem dSlice_lst (xs : List D) (lo hi : Option Int) : dSlice (.lst xs) lo hi = some (.lst (cutD xs lo hi)) := rfl
@[simp] theorem e_slice (sl sh : SO) : sSlice sa sl sh ρ S = (sa ρ S).then fun x S1 => (sl ρ S1).then fun lo S2 => (sh ρ S2).then fun hi S3 => optR (dSlice x lo hi) S3 := by
  unfold sSlice
  congr 1
  funext x S1
  congr 1
  funext lo S2
  congr 1
  funext hi S3
  cases x <;> rfl
@[simp] theorem e_args0 : sArgs [] ρ S = .ok [] S := rfl
@[simp] theorem e_args1 : sArgs ((false, sa) :: sas) ρ S = (sa ρ S).then fun d S1 => (sArgs sas ρ S1).then fun ds S2 => .ok (d :: ds) S2 := rfl
def starD : D → Option (List D)
  | .tup xs => some xs
  | .lst xs => some xs
  | _ => none
@[simp] theorem starD_tup (xs : List D) : starD (.tup xs) = some xs := rfl
@[simp] theorem starD_lst (xs : List D) : starD (.lst xs) = some xs := rfl
@[simp] theorem e_args2 : sArgs ((true, sa) :: sas) ρ S = (sa ρ S).then fun d S1 => (optR (starD d) S1).then fun xs S1 => (sArgs sas ρ S1).then fun ds S2 => .ok (xs ++ ds) S2 := by
  rw [sArgs]
  show (sa ρ S).then _ = (sa ρ S).then _
  congr 1
  funext d S'
  cases d <;> simp [starD]
@[simp] theorem e_tup : sTup sas ρ S = (sArgs sas ρ S).then fun ds S' => if ds.length ≤ sizeLine then .ok (.tup ds) S' else .bad := rfl
@[simp] theorem e_lst : sLst sas ρ S = (sArgs sas ρ S).then fun ds S' => if ds.length ≤ sizeLine then .ok (.lst ds) S' else .bad := rfl
@[simp] theorem e_callN : sCallN fn sas ρ S = (sArgs sas ρ S).then fun ds S' => optR (fn ds) S' := rfl
@[simp] theorem e_isi (Ts : List String) : sIsi Ts sa ρ S = (sa ρ S).then fun d S' => (optR (tyD d) S').then fun t S' => .ok (.bl (Ts.any fun T => isTyS t T)) S' := by
  unfold sIsi
  congr 1
  funext d S'
  cases tyD d <;> rfl
@[simp] theorem e_call : sCall m sas ρ S = (sArgs sas ρ S).then m := rfl
def attrD (cs : List Str) (f : Str) : D → Sto → Res D
  | .obj c fs, S' => if c ∈ cs then optR (fs.lookup f) S' else .bad
  | _, _ => .bad
@[simp] theorem e_attr (cs : List Str) (x : Str) : sAttr cs x se ρ S = (se ρ S).then (attrD cs x) := by
  unfold sAttr
  congr 1
  funext d S'
  cases d <;> rfl
def getD' (o k : D) (S : Sto) : Res D := optR (getO S o k) S
@[simp] theorem e_get : sGet so sk ρ S = (so ρ S).then fun o S1 => (sk ρ S1).then fun k S2 => getD' o k S2 := rfl
@[simp] theorem e_next : sNext ρ S = .ok (.nx ρ) S := rfl
def thenO (t : SS) : Out → Sto → Res Out
  | .nx ρ', S' => t ρ' S'
  | o, S' => .ok o S'
@[simp] theorem thenO_nx (t : SS) : thenO t (.nx ρ) S = t ρ S := rfl
@[simp] theorem thenO_rt (t : SS) : thenO t (.rt d) S = .ok (.rt d) S := rfl
@[simp] theorem thenO_bk (t : SS) : thenO t (.bk ρ) S = .ok (.bk ρ) S := rfl
@[simp] theorem thenO_ct (t : SS) : thenO t (.ct ρ) S = .ok (.ct ρ) S := rfl
@[simp] theorem e_seq : sSeq ss tt ρ S = (ss ρ S).then (thenO tt) := by
  unfold sSeq
  congr 1
  funext o S'
  cases o <;> rfl
@[simp] theorem e_bad : sBad ρ S = .bad := rfl
@[simp] theorem e_break : sBreak ρ S = .ok (.bk ρ) S := rfl
@[simp] theorem e_cont : sCont ρ S = .ok (.ct ρ) S := rfl
@[simp] theorem e_ret : sRet se ρ S = (se ρ S).then fun d S' => .ok (.rt d) S' := rfl
@[simp] theorem e_retN : sRetN ρ S = .ok (.rt .non) S := rfl
@[simp] theorem e_drop : sDrop se ρ S = (se ρ S).then fun _ S' => .ok (.nx ρ) S' := rfl
@[simp] theorem e_ifS : sIfS st ss tt ρ S = (st ρ S).then fun b S' => if b then ss ρ S' else tt ρ S' := rfl
@[simp] theorem e_set : sSet i se ρ S = (se ρ S).then fun d S' => .ok (.nx (ρ.set i (some d))) S' := rfl
@[simp] theorem e_pure : sPure se ρ S = (se ρ S).then fun d S' => .ok (d, ρ) S' := rfl
def mtD (i : Nat) (f : List D → List D → Option (List D × D)) (a : List D) (ρ : DEnv) (S : Sto) : Option (Option D) → Res (D × DEnv)
  | some (some (.lst xs)) => (optR (f xs a) S).then fun yd S => .ok (yd.2, ρ.set i (some (.lst yd.1))) S
  | _ => .bad
@[simp] theorem mtD_lst (f : List D → List D → Option (List D × D)) (a xs : List D) : mtD i f a ρ S (some (some (.lst xs))) = (optR (f xs a) S).then fun yd S => .ok (yd.2, ρ.set i (some (.lst yd.1))) S := rfl
@[simp] theorem isLst_lst (xs : List D) : isLst (some (some (.lst xs))) = true := rfl
@[simp] theorem e_mt1 (f : List D → List D → Option (List D × D)) : mt1 i f sm ρ S = if isLst ρ[i]? then (sm ρ S).then fun dr S' => mtD i f [dr.1] dr.2 S' dr.2[i]? else .bad := by
  unfold mt1
  congr 2
  funext dr S'
  cases dr.2[i]? with
  | none => rfl
  | some o => cases o with
    | none => rfl
    | some d => cases d with
      | lst xs => show (match f xs [dr.1] with
          | some (ys, d) => Res.ok (d, dr.2.set i (some (.lst ys))) S'
          | none => .bad) = (optR (f xs [dr.1]) S').then _
                  cases f xs [dr.1] <;> rfl
      | _ => rfl
@[simp] theorem e_mt0 (f : List D → List D → Option (List D × D)) : mt0 i f ρ S = mtD i f [] ρ S ρ[i]? := by
  unfold mt0
  cases ρ[i]? with
  | none => rfl
  | some o => cases o with
    | none => rfl
    | some d => cases d with
      | lst xs => show (match f xs [] with
          | some (ys, d) => Res.ok (d, ρ.set i (some (.lst ys))) S
          | none => .bad) = (optR (f xs []) S).then _
                  cases f xs [] <;> rfl
      | _ => rfl
@[simp] theorem e_dropM : sDropM sm ρ S = (sm ρ S).then fun dr S' => .ok (.nx dr.2) S' := rfl
@[simp] theorem e_setM : sSetM i sm ρ S = (sm ρ S).then fun dr S' => .ok (.nx (dr.2.set i (some dr.1))) S' := rfl
def setIxD (i : Nat) (ρ : DEnv) (d k : D) (S : Sto) : Option (Option D) → Res Out
  | some (some (.lst xs)) => (match k with
    | .int k => (optR (ixN xs.length k) S).then fun j S => .ok (.nx (ρ.set i (some (.lst (xs.set j d))))) S
    | _ => .bad)
  | _ => .bad
@[simp] theorem setIxD_lst (xs : List D) (k : Int) : setIxD i ρ d (.int k) S (some (some (.lst xs))) = (optR (ixN xs.length k) S).then fun j S => .ok (.nx (ρ.set i (some (.lst (xs.set j d))))) S := rfl
@[simp] theorem e_setIx : sSetIx i sk sv ρ S = (sv ρ S).then fun d S1 => (sk ρ S1).then fun k S2 => setIxD i ρ d k S2 ρ[i]? := by
  unfold sSetIx
  congr 1
  funext d S1
  congr 1
  funext k S2
  cases ρ[i]? with
  | none => rfl
  | some o => cases o with
    | none => rfl
    | some x => cases x with
      | lst xs => cases k with
        | int k => show (match ixN xs.length k with
            | some j => Res.ok (Out.nx (ρ.set i (some (.lst (xs.set j d))))) S2
            | none => .bad) = (optR (ixN xs.length k) S2).then _
                   cases ixN xs.length k <;> rfl
        | _ => rfl
      | _ => cases k <;> rfl
def putD' (ρ : DEnv) (d o k : D) (S3 : Sto) : Res Out := putR ρ (putO S3 o k d)
@[simp] theorem e_put : sPut so sk sv ρ S = (sv ρ S).then fun d S1 => (so ρ S1).then fun o S2 => (sk ρ S2).then fun k S3 => putD' ρ d o k S3 := rfl
@[simp] theorem e_gN : gN i d ρ = some (ρ.set i (some d)) := rfl
@[simp] theorem e_gT (xs : List D) : gT gs (.tup xs) ρ = gAll gs xs ρ := rfl
@[simp] theorem e_gAll0 : gAll [] [] ρ = some ρ := rfl
@[simp] theorem e_gAll1 (ds : List D) : gAll (sg :: gs) (d :: ds) ρ = (sg d ρ).bind (gAll gs ds) := rfl
@[simp] theorem e_asg : sAsg sg se ρ S = (se ρ S).then fun d S' => (optR (sg d ρ) S').then fun ρ' S' => .ok (.nx ρ') S' := by
  unfold sAsg
  congr 1
  funext d S'
  cases sg d ρ <;> rfl
@[simp] theorem e_itR : sItR sas ρ S = (sArgs sas ρ S).then fun ds S' => optR (dRange ds) S' := rfl
def itE : D → Option (List D)
  | .tup xs => some (enumD xs)
  | .lst xs => some (enumD xs)
  | _ => none
@[simp] theorem itE_tup (xs : List D) : itE (.tup xs) = some (enumD xs) := rfl
@[simp] theorem itE_lst (xs : List D) : itE (.lst xs) = some (enumD xs) := rfl
@[simp] theorem e_itE : sItE se ρ S = (se ρ S).then fun d S' => optR (itE d) S' := by
  unfold sItE
  congr 1
  funext d S'
  cases d <;> rfl
def itZ : D → D → Option (List D)
  | .tup xs, .tup ys => some (zipD xs ys)
  | .lst xs, .lst ys => some (zipD xs ys)
  | _, _ => none
@[simp] theorem itZ_tup (xs ys : List D) : itZ (.tup xs) (.tup ys) = some (zipD xs ys) := rfl
@[simp] theorem itZ_lst (xs ys : List D) : itZ (.lst xs) (.lst ys) = some (zipD xs ys) := rfl
@[simp] theorem e_itZ : sItZ sa sb ρ S = (sa ρ S).then fun x S1 => (sb ρ S1).then fun y S2 => optR (itZ x y) S2 := by
  unfold sItZ
  congr 1
  funext x S1
  congr 1
  funext y S2
  cases x <;> cases y <;> rfl
def itA : D → Option (List D)
  | .lst xs => some xs
  | .tup xs => some xs
  | .scr ns => some (ns.map .int)
  | .str z => some (signsD z)
  | _ => none
@[simp] theorem itA_tup (xs : List D) : itA (.tup xs) = some xs := rfl
@[simp] theorem itA_lst (xs : List D) : itA (.lst xs) = some xs := rfl
@[simp] theorem itA_scr (ns : List Int) : itA (.scr ns) = some (ns.map .int) := rfl
@[simp] theorem itA_str (z : Str) : itA (.str z) = some (signsD z) := rfl
@[simp] theorem e_itA : sItA se ρ S = (se ρ S).then fun d S' => optR (itA d) S' := by
  unfold sItA
  congr 1
  funext d S'
  cases d <;> rfl
@[simp] theorem e_for : sFor si sg ss ρ S = (si ρ S).then fun ds S1 => forL (fBody sg ss) ds ρ S1 := rfl
@[simp] theorem e_fBody : fBody sg ss d ρ S = (optR (sg d ρ) S).then fun ρ' S => ss ρ' S := by
  unfold fBody
  cases sg d ρ <;> rfl
@[simp] theorem e_comp (vs : List Nat) : sComp vs si sg st se ρ S = (si ρ S).then fun ds S1 => (compL (cBody sg st se (wipeE ρ vs)) ds S1).then fun ys S2 => if ys.length ≤ sizeLine then .ok (.lst ys) S2 else .bad := rfl
@[simp] theorem e_cBody : cBody sg st se ρ d S = (optR (sg d ρ) S).then fun ρ2 S => (st ρ2 S).then fun b S1 => if b then (se ρ2 S1).then fun y S2 => .ok (some y) S2 else .ok none S1 := by
  unfold cBody
  cases sg d ρ <;> rfl
@[simp] theorem e_yes : sYes ρ S = .ok true S := rfl
@[simp] theorem e_wipe0 : wipeE ρ [] = ρ := rfl
@[simp] theorem e_wipe1 (vs : List Nat) : wipeE ρ (i :: vs) = (wipeE ρ vs).set i none := rfl
@[simp] theorem e_par2 : sPar2 i j sa sb ρ S = (sa ρ S).then fun d1 S1 => (sb ρ S1).then fun d2 S2 => .ok (.nx ((ρ.set i (some d1)).set j (some d2))) S2 := rfl
@[simp] theorem e_par3 : sPar3 i j l sa sb sc ρ S = (sa ρ S).then fun d1 S1 => (sb ρ S1).then fun d2 S2 => (sc ρ S2).then fun d3 S3 => .ok (.nx (((ρ.set i (some d1)).set j (some d2)).set l (some d3))) S3 := rfl
def outE : Out → Sto → Res D
  | .nx _, S => .ok .non S
  | .rt d, S => .ok d S
  | _, _ => .bad
@[simp] theorem outE_nx : outE (.nx ρ) S = .ok .non S := rfl
@[simp] theorem outE_rt : outE (.rt d) S = .ok d S := rfl
@[simp] theorem e_outD (r : Res Out) : outD r = r.then outE := by
  unfold outD
  congr 1
  funext o S'
  cases o <;> rfl
@[simp] theorem e_runD (n : Nat) (b : SS) (ds : List D) : runD n b ds S = (b (ds.map some ++ List.replicate (n - ds.length) none) S).then outE := e_outD _
def fldD (ρ : DEnv) (i : Nat) (cs : List Str) (f : Str) (d : D) (S : Sto) : Option (Option D) → Res Out
  | some (some (.obj c fs)) => if c ∈ cs ∧ fs.length < 1000 then .ok (.nx (ρ.set i (some (.obj c (putD f d fs))))) S else .bad
  | _ => .bad
@[simp] theorem fldD_obj (cs : List Str) (f c : Str) (fs : List (Str × D)) : fldD ρ i cs f d S (some (some (.obj c fs))) = if c ∈ cs ∧ fs.length < 1000 then .ok (.nx (ρ.set i (some (.obj c (putD f d fs))))) S else .bad := rfl
@[simp] theorem e_fldI (cs : List Str) (f : Str) : sFldI i cs f se ρ S = (se ρ S).then fun d S' => fldD ρ i cs f d S' ρ[i]? := by
  unfold sFldI
  congr 1
def outI (c : Str) : Out → Sto → Res D
  | .nx ρ, S' => (match ρ[0]? with
    | some (some (D.obj c fs)) => .ok (.obj c fs) S'
    | _ => .bad)
  | _, _ => .bad
@[simp] theorem outI_nx (c c' : Str) (fs : List (Str × D)) : outI c (.nx (some (.obj c' fs) :: ρ)) S = .ok (.obj c' fs) S := rfl
@[simp] theorem e_runI (n : Nat) (c : Str) (b : SS) (ds : List D) : runI n c b ds S = (b (some (.obj c []) :: (ds.map some ++ List.replicate (n - 1 - ds.length) none)) S).then (outI c) := by
  unfold runI
  congr 1
  funext o S'
  cases o <;> rfl
@[simp] theorem e_items0 : sItems [] ρ S = .ok [] S := rfl
@[simp] theorem e_items1 (x : Str) (r : List (Str × SE)) : sItems ((x, sa) :: r) ρ S = (sa ρ S).then fun d S1 => (sItems r ρ S1).then fun ds S2 => .ok ((Sum.inr x, d) :: ds) S2 := rfl
@[simp] theorem e_dict (items : List (Str × SE)) : sDict items ρ S = (sItems items ρ S).then fun kds S' => if kds.length ≤ 15 then .ok (.mref S'.length) (S' ++ [.k (mergeKD [] kds)]) else .bad := rfl
def lendD : Res D → Sto → Res D
  | .ok d [], S1 => if flatD d then .ok d S1 else .bad
  | _, _ => .bad
@[simp] theorem lendD_ok : lendD (.ok d []) S = if flatD d then .ok d S else .bad := rfl
@[simp] theorem e_callL : sCallL m sas ρ S = (sArgs sas ρ S).then fun ds S1 => if noMs ds then lendD (m ds []) S1 else .bad := by
  unfold sCallL
  congr 1
  funext ds S1
  congr 1
  cases m ds [] with
  | bad => rfl
  | ok d s => cases s <;> rfl
end
/-! ### operations at data -/
section
variable (i j : Int) (a b : D) (xs ys : List D) (x y : Str) (p q : Bool)
@[simp] theorem d_add_int : dAdd (.int i) (.int j) = some (.int (i + j)) := rfl
@[simp] theorem d_sub_int : dSub (.int i) (.int j) = some (.int (i - j)) := rfl
@[simp] theorem d_neg_int : dNeg (.int i) = some (.int (-i)) := rfl
@[simp] theorem d_i2 (f : Int → Int → Bool) : dI2 f (.int i) (.int j) = some (.bl (f i j)) := rfl
@[simp] theorem d_tr_bl : dTruth (.bl p) = some p := rfl
@[simp] theorem d_tr_int : dTruth (.int i) = some (i != 0) := rfl
@[simp] theorem d_tr_non : dTruth .non = some false := rfl
@[simp] theorem d_tr_tup : dTruth (.tup xs) = some (!xs.isEmpty) := rfl
@[simp] theorem d_tr_lst : dTruth (.lst xs) = some (!xs.isEmpty) := rfl
@[simp] theorem d_len_tup : dLen [.tup xs] = some (.int xs.length) := rfl
@[simp] theorem d_len_lst : dLen [.lst xs] = some (.int xs.length) := rfl
@[simp] theorem d_int_int : dIntOf [.int i] = some (.int i) := rfl
@[simp] theorem d_tup_tup : dTupOf [.tup xs] = some (.tup xs) := rfl
@[simp] theorem d_tup_lst : dTupOf [.lst xs] = some (.tup xs) := rfl
@[simp] theorem d_lst_tup : dLstOf [.tup xs] = some (.lst xs) := rfl
@[simp] theorem d_lst_lst : dLstOf [.lst xs] = some (.lst xs) := rfl
@[simp] theorem d_lst_scr (ns : List Int) : dLstOf [.scr ns] = some (.lst (ns.map .int)) := rfl
@[simp] theorem d_ty_non : tyD .non = some "NoneType" := rfl
@[simp] theorem d_ty_bl : tyD (.bl p) = some "bool" := rfl
@[simp] theorem d_ty_int : tyD (.int i) = some "int" := rfl
@[simp] theorem d_ty_str : tyD (.str x) = some "str" := rfl
@[simp] theorem d_ty_tup : tyD (.tup xs) = some "tuple" := rfl
@[simp] theorem d_ty_lst : tyD (.lst xs) = some "list" := rfl
@[simp] theorem d_isN_non (n : Bool) : dIsN n .non .non = some (.bl (!n)) := rfl
@[simp] theorem d_isN_bl (n : Bool) : dIsN n (.bl p) .non = some (.bl n) := rfl
@[simp] theorem d_isN_int (n : Bool) : dIsN n (.int i) .non = some (.bl n) := rfl
@[simp] theorem d_isN_str (n : Bool) : dIsN n (.str x) .non = some (.bl n) := rfl
@[simp] theorem d_isN_tup (n : Bool) : dIsN n (.tup xs) .non = some (.bl n) := rfl
@[simp] theorem d_isN_lst (n : Bool) : dIsN n (.lst xs) .non = some (.bl n) := rfl
@[simp] theorem d_isB_bl (n : Bool) : dIsBX n (.bl p) (.bl q) = some (.bl (if n then !decide (p = q) else decide (p = q))) := rfl
@[simp] theorem d_isB_int (n : Bool) : dIsBX n (.int i) (.bl q) = some (.bl n) := rfl
@[simp] theorem d_isB_str (n : Bool) : dIsBX n (.str x) (.bl q) = some (.bl n) := rfl
@[simp] theorem d_isB_tup (n : Bool) : dIsBX n (.tup xs) (.bl q) = some (.bl n) := rfl
@[simp] theorem d_isB_lst (n : Bool) : dIsBX n (.lst xs) (.bl q) = some (.bl n) := rfl
@[simp] theorem d_isB_non (n : Bool) : dIsBX n .non (.bl q) = some (.bl n) := rfl
@[simp] theorem d_ix0 : dIx (.tup (a :: xs)) (.int 0) = some a := atI_nat (j := 0) rfl
@[simp] theorem d_ixl0 : dIx (.lst (a :: xs)) (.int 0) = some a := atI_nat (j := 0) rfl
theorem atI_of {α : Type} {xs : List α} {n : Nat} {v : α} (h : xs[n]? = some v) : atI xs (n : Int) = some v := atI_nat h
theorem d_ixt {xs : List D} {n : Nat} {v : D} (h : xs[n]? = some v) : dIx (.tup xs) (.int (n : Int)) = some v := atI_nat h
theorem d_ixl {xs : List D} {n : Nat} {v : D} (h : xs[n]? = some v) : dIx (.lst xs) (.int (n : Int)) = some v := atI_nat h
@[simp] theorem d_ix1 (c : D) : dIx (.tup (a :: c :: xs)) (.int 1) = some c := d_ixt (n := 1) rfl
@[simp] theorem d_ix2 (c e : D) : dIx (.tup (a :: c :: e :: xs)) (.int 2) = some e := d_ixt (n := 2) rfl
@[simp] theorem d_ix3 (c e f : D) : dIx (.tup (a :: c :: e :: f :: xs)) (.int 3) = some f := d_ixt (n := 3) rfl
@[simp] theorem d_ixl1 (c : D) : dIx (.lst (a :: c :: xs)) (.int 1) = some c := d_ixl (n := 1) rfl
@[simp] theorem d_ixl2 (c e : D) : dIx (.lst (a :: c :: e :: xs)) (.int 2) = some e := d_ixl (n := 2) rfl
@[simp] theorem d_ixlast : dIx (.lst (xs ++ [a])) (.int (-1)) = some a := atI_last xs a
theorem szl : sizeLine = 16777216 := by decide +kernel
end
end Ev
namespace Ev
open PySem PySem.Spec PyProof.Rows L2
/-! ### loops: what holds behind them -/
@[simp] theorem then_assoc {α β γ : Type} (r : Res α) (k : α → Sto → Res β) (k2 : β → Sto → Res γ) : (r.then k).then k2 = r.then fun a S => (k a S).then k2 := by cases r <;> rfl
def stepP (P : DEnv → Sto → Prop) (Q : Out → Sto → Prop) : Out → Sto → Prop
  | .nx ρ, S => P ρ S
  | .ct ρ, S => P ρ S
  | .bk ρ, S => Q (.nx ρ) S
  | .rt d, S => Q (.rt d) S
theorem post_intro {α : Type} {r : Res α} {a : α} {S : Sto} {P : α → Sto → Prop} (e : r = .ok a S) (h : P a S) : r.post P := by rw [e]; exact h
theorem post_ok {α : Type} {r : Res α} {a : α} {S : Sto} (h : r.post fun x S' => x = a ∧ S' = S) : r = .ok a S := by
  obtain ⟨x, S', e, rfl, rfl⟩ := Res.post_ex h
  exact e
theorem then_post {α β : Type} {r : Res α} {k : α → Sto → Res β} {P : α → Sto → Prop} {Q : β → Sto → Prop} (h : r.post P) (h2 : ∀ a S, P a S → (k a S).post Q) : (r.then k).post Q := by
  obtain ⟨a, S, e, p⟩ := Res.post_ex h
  rw [e]
  exact h2 a S p
theorem forL_run {body : D → DEnv → M Out} {P : Nat → DEnv → Sto → Prop} {Q : Out → Sto → Prop} : ∀ (ds : List D) (i : Nat) (ρ : DEnv) (S : Sto),
    (∀ j d, ds[j]? = some d → ∀ ρ S, P (i + j) ρ S → (body d ρ S).post (stepP (P (i + j + 1)) Q)) → (∀ ρ S, P (i + ds.length) ρ S → Q (.nx ρ) S) → P i ρ S → (forL body ds ρ S).post Q
  | [], i, ρ, S, _, h2, h => h2 ρ S h
  | d :: ds, i, ρ, S, h1, h2, h => by
    refine Res.post_then.mpr (Res.post_mono (h1 0 d rfl ρ S h) fun o S' q => ?_)
    have next : ∀ ρ', P (i + 0 + 1) ρ' S' → (forL body ds ρ' S').post Q := fun ρ' q => by
      refine forL_run ds (i + 1) ρ' S' (fun j d hj ρ S hp => ?_) (fun ρ S hp => h2 ρ S ?_) q
      · have := h1 (j + 1) d (by simpa using hj) ρ S (by rw [show i + (j + 1) = i + 1 + j by omega]; exact hp)
        rw [show i + (j + 1) + 1 = i + 1 + j + 1 by omega] at this
        exact this
      · rw [List.length_cons, show i + (ds.length + 1) = i + 1 + ds.length by omega]
        exact hp
    cases o with
    | nx ρ' => exact next ρ' q
    | ct ρ' => exact next ρ' q
    | bk ρ' => exact q
    | rt d => exact q
/-- over a mapped list -/
theorem forL_map {α : Type} {enc : α → D} {body : D → DEnv → M Out} {P : Nat → DEnv → Sto → Prop} {Q : Out → Sto → Prop} (xs : List α) {ρ : DEnv} {S : Sto}
    (h0 : P 0 ρ S) (h1 : ∀ j x, xs[j]? = some x → ∀ ρ S, P j ρ S → (body (enc x) ρ S).post (stepP (P (j + 1)) Q)) (h2 : ∀ ρ S, P xs.length ρ S → Q (.nx ρ) S) : (forL body (xs.map enc) ρ S).post Q := by
  refine forL_run (P := P) (xs.map enc) 0 ρ S (fun j d hj ρ S hp => ?_) (fun ρ S hp => h2 ρ S (by simpa using hp)) h0
  rw [List.getElem?_map] at hj
  cases q : xs[j]? with
  | none => rw [q] at hj; cases hj
  | some x =>
    rw [q] at hj
    cases hj
    rw [Nat.zero_add] at hp ⊢
    exact h1 j x q ρ S hp
/-- over a mapped list: the state is a function of what has been seen -/
theorem forL_fold {α β : Type} {enc : α → D} {body : D → DEnv → M Out} {R : β → DEnv → Sto → Prop} {Q : Out → Sto → Prop} (f : β → α → β) : ∀ (xs : List α) (b : β) {ρ : DEnv} {S : Sto},
    R b ρ S → (∀ x ∈ xs, ∀ b ρ S, R b ρ S → (body (enc x) ρ S).post (stepP (R (f b x)) Q)) → (∀ ρ S, R (xs.foldl f b) ρ S → Q (.nx ρ) S) → (forL body (xs.map enc) ρ S).post Q
  | [], b, ρ, S, h0, _, h2 => h2 ρ S h0
  | x :: xs, b, ρ, S, h0, h1, h2 => by
    refine Res.post_then.mpr (Res.post_mono (h1 x List.mem_cons_self b ρ S h0) fun o S' q => ?_)
    have next : ∀ ρ', R (f b x) ρ' S' → (forL body (xs.map enc) ρ' S').post Q := fun ρ' q => forL_fold f xs (f b x) q (fun y hy => h1 y (List.mem_cons_of_mem _ hy)) h2
    cases o with
    | nx ρ' => exact next ρ' q
    | ct ρ' => exact next ρ' q
    | bk ρ' => exact q
    | rt d => exact q
theorem whL_run {c : SB} {b : SS} {P : Nat → DEnv → Sto → Prop} {Q : Out → Sto → Prop}
    (h : ∀ k ρ S, P k ρ S → (c ρ S).post fun t S1 => if t then ∃ k', k = k' + 1 ∧ (b ρ S1).post (stepP (P k') Q) else Q (.nx ρ) S1) : ∀ (n k : Nat) (ρ : DEnv) (S : Sto), k < n → P k ρ S → (whL n c b ρ S).post Q
  | 0, k, ρ, S, hk, _ => absurd hk (Nat.not_lt_zero _)
  | n + 1, k, ρ, S, hk, hp => by
    refine Res.post_then.mpr (Res.post_mono (h k ρ S hp) fun t S1 q => ?_)
    cases t with
    | false => exact q
    | true =>
      obtain ⟨k', rfl, q⟩ := q
      refine Res.post_then.mpr (Res.post_mono q fun o S2 q => ?_)
      cases o with
      | nx ρ' => exact whL_run h n k' ρ' S2 (by omega) q
      | ct ρ' => exact whL_run h n k' ρ' S2 (by omega) q
      | bk ρ' => exact q
      | rt d => exact q
/-! ### comprehensions -/
theorem compL_map {α : Type} {f : D → M (Option D)} {enc : α → D} {g : α → D} {S : Sto} : ∀ (xs : List α), (∀ x ∈ xs, f (enc x) S = .ok (some (g x)) S) → compL f (xs.map enc) S = .ok (xs.map g) S
  | [], _ => rfl
  | x :: xs, h => by
    show (f (enc x) S).then _ = _
    rw [h x List.mem_cons_self]
    show (compL f (xs.map enc) S).then _ = _
    rw [compL_map xs fun y hy => h y (List.mem_cons_of_mem _ hy)]
    rfl
theorem compL_filter {α : Type} {f : D → M (Option D)} {enc : α → D} {g : α → D} {p : α → Bool} {S : Sto} : ∀ (xs : List α), (∀ x ∈ xs, f (enc x) S = .ok (if p x then some (g x) else none) S) → compL f (xs.map enc) S = .ok ((xs.filter p).map g) S
  | [], _ => rfl
  | x :: xs, h => by
    show (f (enc x) S).then _ = _
    rw [h x List.mem_cons_self]
    show (compL f (xs.map enc) S).then _ = _
    rw [compL_filter xs fun y hy => h y (List.mem_cons_of_mem _ hy)]
    cases hp : p x <;> simp [hp]
/-- with a state that changes: what each value is -/
inductive Each {α β : Type} (R : α → β → Prop) : List α → List β → Prop
  | nil : Each R [] []
  | cons {a : α} {b : β} {as : List α} {bs : List β} : R a b → Each R as bs → Each R (a :: as) (b :: bs)
theorem Each.length {α β : Type} {R : α → β → Prop} {as : List α} {bs : List β} (h : Each R as bs) : as.length = bs.length := by
  induction h with
  | nil => rfl
  | cons _ _ ih => simp [ih]
theorem Each.get {α β : Type} {R : α → β → Prop} {as : List α} {bs : List β} (h : Each R as bs) : ∀ (i : Nat) (a : α), as[i]? = some a → ∃ b, bs[i]? = some b ∧ R a b := by
  induction h with
  | nil => intro i a e; simp at e
  | cons r _ ih =>
    intro i a e
    cases i with
    | zero => simp at e; subst e; exact ⟨_, rfl, r⟩
    | succ i => simpa using ih i a (by simpa using e)
theorem Each.getR {α β : Type} {R : α → β → Prop} {as : List α} {bs : List β} (h : Each R as bs) : ∀ (i : Nat) (b : β), bs[i]? = some b → ∃ a, as[i]? = some a ∧ R a b := by
  induction h with
  | nil => intro i a e; simp at e
  | cons r _ ih =>
    intro i a e
    cases i with
    | zero => simp at e; subst e; exact ⟨_, rfl, r⟩
    | succ i => simpa using ih i a (by simpa using e)
theorem Each.map {α β γ : Type} {R : α → β → Prop} {Q : γ → β → Prop} {g : α → γ} {as : List α} {bs : List β} (h : Each R as bs) (f : ∀ a b, R a b → Q (g a) b) : Each Q (as.map g) bs := by
  induction h with
  | nil => exact .nil
  | cons r _ ih => exact .cons (f _ _ r) ih
/-- each b is made of some c -/
theorem Each.pick {α β γ : Type} {R : α → β → Prop} {enc : γ → β} {W : α → γ → Prop} {as : List α} {bs : List β} (h : Each R as bs) (f : ∀ a b, R a b → ∃ c, b = enc c ∧ W a c) : ∃ cs, bs = cs.map enc ∧ Each W as cs := by
  induction h with
  | nil => exact ⟨[], rfl, .nil⟩
  | cons r _ ih =>
    obtain ⟨c, e, w⟩ := f _ _ r
    obtain ⟨cs, e2, w2⟩ := ih
    exact ⟨c :: cs, by rw [e, e2]; rfl, .cons w w2⟩
theorem Each.mem {α β : Type} {R : α → β → Prop} {as : List α} {bs : List β} (h : Each R as bs) : ∀ b ∈ bs, ∃ a ∈ as, R a b := by
  induction h with
  | nil => intro b hb; cases hb
  | cons r _ ih =>
    intro b hb
    rcases List.mem_cons.mp hb with rfl | hb
    · exact ⟨_, List.mem_cons_self, r⟩
    · obtain ⟨a, ha, hr⟩ := ih b hb
      exact ⟨a, List.mem_cons_of_mem _ ha, hr⟩
theorem compL_post {f : D → M (Option D)} {I : Sto → Prop} {R : D → D → Prop} : ∀ (ds : List D) (S : Sto), I S → (∀ d ∈ ds, ∀ S, I S → (f d S).post fun o S' => I S' ∧ ∃ y, o = some y ∧ R d y) → (compL f ds S).post fun ys S' => I S' ∧ Each R ds ys
  | [], S, h0, _ => ⟨h0, .nil⟩
  | d :: ds, S, h0, h => by
    refine then_post (h d List.mem_cons_self S h0) fun o S1 ⟨i1, y, e, r⟩ => ?_
    refine then_post (compL_post ds S1 i1 fun d hd => h d (List.mem_cons_of_mem _ hd)) fun ys S2 ⟨i2, es⟩ => ?_
    subst e
    exact ⟨i2, .cons r es⟩
theorem rangeD_map (lo : Int) (n : Nat) : rangeD lo n = (List.range n).map fun (k : Nat) => D.int (lo + (k : Int)) := rfl
theorem range0 (n : Nat) : rangeD 0 n = (List.range n).map fun (k : Nat) => D.int (k : Int) := by
  unfold rangeD
  congr 1
  funext k
  rw [Int.zero_add]
theorem rg1 {j : Nat} (h : j < 4611686018427387904) : dRange [.int (j : Int)] = some ((List.range j).map fun (k : Nat) => D.int (k : Int)) := by
  show (if rgOk (j : Int) then some (rangeD 0 (j : Int).toNat) else none) = _
  have : rgOk (j : Int) = true := rgOk_of (by omega)
  rw [if_pos this, range0, Int.toNat_natCast]
theorem rg2 {i j : Int} (h1 : -4611686018427387904 < i) (h2 : i < 4611686018427387904) (h3 : -4611686018427387904 < j) (h4 : j < 4611686018427387904) : dRange [.int i, .int j] = some ((List.range (j - i).toNat).map fun (k : Nat) => D.int (i + (k : Int))) := by
  show (if rgOk i && rgOk j then some (rangeD i (j - i).toNat) else none) = _
  have h5 : rgOk i = true := rgOk_of (by omega)
  have h6 : rgOk j = true := rgOk_of (by omega)
  rw [h5, h6]
  rfl
@[simp] theorem d_add_tup (xs ys : List D) (h : xs.length + ys.length ≤ sizeLine) : dAdd (.tup xs) (.tup ys) = some (.tup (xs ++ ys)) := by
  show (if _ then _ else _) = _
  rw [if_pos h]
end Ev
namespace Ev
open PySem PySem.Spec PyProof.Rows L2
/-! ### encodings of plain values: equality, membership, order -/
structure EncOk {α : Type} [DecidableEq α] (P : α → Prop) (e : α → D) (p : α → PyData) (h : Nat) : Prop where
  py : ∀ a, (e a).py = some (p a)
  lay : ∀ a, P a → (p a).canLay0 = true
  dep : ∀ a, (p a).depth ≤ h
  eqv : ∀ a b, PyData.eqv (p a) (p b) = decide (a = b)
theorem pyAll_map {α : Type} {e : α → D} {p : α → PyData} (h : ∀ a, (e a).py = some (p a)) : ∀ xs : List α, pyAll (xs.map e) = some (xs.map p)
  | [] => rfl
  | x :: xs => by
    show (match (e x).py, pyAll (xs.map e) with
      | some x, some xs => some (x :: xs)
      | _, _ => none) = _
    rw [h, pyAll_map h xs]
    rfl
theorem layAll_map {α : Type} {P : α → Prop} {p : α → PyData} (h : ∀ a, P a → (p a).canLay0 = true) : ∀ xs : List α, (∀ x ∈ xs, P x) → PyData.canLayAll0 (xs.map p) = true
  | [], _ => by simp [PyData.canLayAll0]
  | x :: xs, q => by
    show PyData.canLayAll0 (p x :: xs.map p) = true
    rw [PyData.canLayAll0, h x (q x List.mem_cons_self), layAll_map h xs fun y hy => q y (List.mem_cons_of_mem _ hy)]
    rfl
theorem depAll_map {α : Type} {p : α → PyData} {n : Nat} (h : ∀ a, (p a).depth ≤ n) : ∀ xs : List α, PyData.depthAll (xs.map p) ≤ n
  | [] => by simp [PyData.depthAll]
  | x :: xs => by
    show PyData.depthAll (p x :: xs.map p) ≤ n
    rw [PyData.depthAll]
    have h1 := h x
    have h2 := depAll_map h xs
    omega
theorem eqvAll_map {α : Type} [DecidableEq α] {p : α → PyData} (h : ∀ a b, PyData.eqv (p a) (p b) = decide (a = b)) : ∀ xs ys : List α, PyData.eqvAll (xs.map p) (ys.map p) = decide (xs = ys)
  | [], [] => by simp [PyData.eqvAll]
  | [], y :: ys => by simp [PyData.eqvAll]
  | x :: xs, [] => by simp [PyData.eqvAll]
  | x :: xs, y :: ys => by
    show PyData.eqvAll (p x :: xs.map p) (p y :: ys.map p) = _
    rw [PyData.eqvAll, h, eqvAll_map h xs ys, ← Bool.decide_and]
    simp
section
variable {α : Type} [DecidableEq α] {P : α → Prop} {e : α → D} {p : α → PyData} {n : Nat}
theorem EncOk.lst (o : EncOk P e p n) : EncOk (α := List α) (fun xs => ∀ x ∈ xs, P x) (fun xs => .lst (xs.map e)) (fun xs => .list (xs.map p)) (n + 1) where
  py := fun xs => by
    show (pyAll (xs.map e)).map PyData.list = _
    rw [pyAll_map o.py]
    rfl
  lay := fun xs h => by
    show PyData.canLay0 (.list (xs.map p)) = true
    rw [PyData.canLay0]
    exact layAll_map o.lay xs h
  dep := fun xs => by
    show PyData.depth (.list (xs.map p)) ≤ _
    rw [PyData.depth]
    exact Nat.succ_le_succ (depAll_map o.dep xs)
  eqv := fun xs ys => by
    show PyData.eqv (.list (xs.map p)) (.list (ys.map p)) = _
    rw [PyData.eqv]
    exact eqvAll_map o.eqv xs ys
theorem EncOk.tup (o : EncOk P e p n) : EncOk (α := List α) (fun xs => ∀ x ∈ xs, P x) (fun xs => .tup (xs.map e)) (fun xs => .tuple (xs.map p)) (n + 1) where
  py := fun xs => by
    show (pyAll (xs.map e)).map PyData.tuple = _
    rw [pyAll_map o.py]
    rfl
  lay := fun xs h => by
    show PyData.canLay0 (.tuple (xs.map p)) = true
    rw [PyData.canLay0]
    exact layAll_map o.lay xs h
  dep := fun xs => by
    show PyData.depth (.tuple (xs.map p)) ≤ _
    rw [PyData.depth]
    exact Nat.succ_le_succ (depAll_map o.dep xs)
  eqv := fun xs ys => by
    show PyData.eqv (.tuple (xs.map p)) (.tuple (ys.map p)) = _
    rw [PyData.eqv]
    exact eqvAll_map o.eqv xs ys
theorem EncOk.shaped (o : EncOk P e p n) {a : α} (ha : P a) (hn : n ≤ 64) : SeqAt.shaped (p a) = true := by
  unfold SeqAt.shaped
  rw [o.lay a ha, Bool.true_and]
  exact decide_eq_true (Nat.le_trans (o.dep a) hn)
theorem EncOk.eq (o : EncOk P e p n) {a b : α} (ha : P a) (hb : P b) (neg : Bool) (hn : n ≤ 64 := by decide) : dEqv neg (e a) (e b) = some (.bl (if neg then !decide (a = b) else decide (a = b))) := by
  unfold dEqv
  rw [o.py, o.py]
  show (if (SeqAt.shaped (p a) && SeqAt.shaped (p b)) = true then _ else _) = _
  rw [o.shaped ha hn, o.shaped hb hn, o.eqv]
  rfl
theorem any_eqv (o : EncOk P e p n) (a : α) : ∀ xs : List α, ((xs.map p).any fun z => PyData.eqv z (p a)) = decide (a ∈ xs)
  | [] => by simp
  | x :: xs => by
    rw [List.map_cons, List.any_cons, any_eqv o a xs, o.eqv, ← Bool.decide_or]
    congr 1
    rw [List.mem_cons, eq_comm (a := x)]
theorem dIn_lst {n : Bool} {a : D} {ys : List D} (h : ∀ x y, a = .str x → D.lst ys ≠ .str y) : dIn n a (.lst ys) = (match a.py, pyAll ys with
    | some x, some zs => if (SeqAt.shaped x && SeqAt.shaped (.list zs)) = true then some (.bl (if n then !zs.any fun z => PyData.eqv z x else zs.any fun z => PyData.eqv z x)) else none
    | _, _ => none) := by
  cases a <;> rfl
theorem EncOk.mem (o : EncOk P e p n) {a : α} {xs : List α} (ha : P a) (hx : ∀ x ∈ xs, P x) (neg : Bool) (hn : n + 1 ≤ 64 := by decide) : dIn neg (e a) (.lst (xs.map e)) = some (.bl (if neg then !decide (a ∈ xs) else decide (a ∈ xs))) := by
  rw [dIn_lst (fun _ _ _ => fun z => nomatch z), o.py, pyAll_map o.py]
  show (if (SeqAt.shaped (p a) && SeqAt.shaped (.list (xs.map p))) = true then _ else _) = _
  rw [o.shaped ha (by omega), o.lst.shaped (a := xs) hx hn, any_eqv o]
  rfl
end
theorem encInt : EncOk (α := Int) (fun _ => True) D.int PyData.int 0 := ⟨fun _ => rfl, fun _ _ => by simp [PyData.canLay0], fun _ => by simp [PyData.depth], fun a b => by
  rw [PyData.eqv]
  by_cases h : a = b <;> simp [h]⟩
theorem encNat : EncOk (α := Nat) (fun _ => True) (fun n => D.int (n : Int)) (fun n => PyData.int (n : Int)) 0 := ⟨fun _ => rfl, fun _ _ => by simp [PyData.canLay0], fun _ => by simp [PyData.depth], fun a b => by
  rw [PyData.eqv]
  by_cases h : a = b
  · simp [h]
  · have : (a : Int) ≠ b := by omega
    simp [h, this]⟩
theorem encStr : EncOk (α := Str) (fun x => PyData.strOk x = true) D.str PyData.str 0 := ⟨fun _ => rfl, fun _ h => by simpa [PyData.canLay0] using h, fun _ => by simp [PyData.depth], fun a b => by
  rw [PyData.eqv]
  by_cases h : a = b <;> simp [h]⟩
@[simp] theorem d_eq_int (i j : Int) (neg : Bool) : dEqv neg (.int i) (.int j) = some (.bl (if neg then !decide (i = j) else decide (i = j))) := encInt.eq trivial trivial neg
@[simp] theorem d_eq_bl (i j : Bool) (neg : Bool) : dEqv neg (.bl i) (.bl j) = some (.bl (if neg then !decide (i = j) else decide (i = j))) := by
  cases i <;> cases j <;> cases neg <;> rfl
@[simp] theorem sz_1 : (1 : Nat) ≤ sizeLine := by rw [szl]; decide
@[simp] theorem sw_1 : (1 : Nat) < sizeLine := by rw [szl]; decide
@[simp] theorem sz_2 : (2 : Nat) ≤ sizeLine := by rw [szl]; decide
@[simp] theorem sw_2 : (2 : Nat) < sizeLine := by rw [szl]; decide
@[simp] theorem sz_3 : (3 : Nat) ≤ sizeLine := by rw [szl]; decide
@[simp] theorem sw_3 : (3 : Nat) < sizeLine := by rw [szl]; decide
@[simp] theorem sz_4 : (4 : Nat) ≤ sizeLine := by rw [szl]; decide
@[simp] theorem sw_4 : (4 : Nat) < sizeLine := by rw [szl]; decide
@[simp] theorem sz_5 : (5 : Nat) ≤ sizeLine := by rw [szl]; decide
@[simp] theorem sw_5 : (5 : Nat) < sizeLine := by rw [szl]; decide
@[simp] theorem sz_6 : (6 : Nat) ≤ sizeLine := by rw [szl]; decide
@[simp] theorem sw_6 : (6 : Nat) < sizeLine := by rw [szl]; decide
@[simp] theorem sz_7 : (7 : Nat) ≤ sizeLine := by rw [szl]; decide
@[simp] theorem sw_7 : (7 : Nat) < sizeLine := by rw [szl]; decide
@[simp] theorem sz_8 : (8 : Nat) ≤ sizeLine := by rw [szl]; decide
@[simp] theorem sw_8 : (8 : Nat) < sizeLine := by rw [szl]; decide
@[simp] theorem sz_9 : (9 : Nat) ≤ sizeLine := by rw [szl]; decide
@[simp] theorem sw_9 : (9 : Nat) < sizeLine := by rw [szl]; decide
@[simp] theorem sz_10 : (10 : Nat) ≤ sizeLine := by rw [szl]; decide
@[simp] theorem sw_10 : (10 : Nat) < sizeLine := by rw [szl]; decide
@[simp] theorem sz_11 : (11 : Nat) ≤ sizeLine := by rw [szl]; decide
@[simp] theorem sw_11 : (11 : Nat) < sizeLine := by rw [szl]; decide
@[simp] theorem sz_12 : (12 : Nat) ≤ sizeLine := by rw [szl]; decide
@[simp] theorem sw_12 : (12 : Nat) < sizeLine := by rw [szl]; decide
@[simp] theorem sz_13 : (13 : Nat) ≤ sizeLine := by rw [szl]; decide
@[simp] theorem sw_13 : (13 : Nat) < sizeLine := by rw [szl]; decide
@[simp] theorem sz_14 : (14 : Nat) ≤ sizeLine := by rw [szl]; decide
@[simp] theorem sw_14 : (14 : Nat) < sizeLine := by rw [szl]; decide
@[simp] theorem sz_15 : (15 : Nat) ≤ sizeLine := by rw [szl]; decide
@[simp] theorem sw_15 : (15 : Nat) < sizeLine := by rw [szl]; decide
theorem szk {n : Nat} (h : n ≤ 1000) : n ≤ sizeLine := by rw [szl]; omega
/-- rows of counts -/
abbrev natT (r : List Nat) : D := .tup (r.map fun (n : Nat) => .int (n : Int))
abbrev natP (r : List Nat) : PyData := .tuple (r.map fun (n : Nat) => .int (n : Int))
theorem encRow : EncOk (α := List Nat) (fun _ => True) natT natP 1 := ⟨encNat.tup.py, fun a _ => encNat.tup.lay a (fun _ _ => trivial), encNat.tup.dep, encNat.tup.eqv⟩
end Ev
namespace Ev
open PySem PySem.Spec PyProof.Rows L2
/-! ### a Hook that tells more -/
def obsMG (n : Nat) (fa : List He.Fa) (fn : List He.DefD) (more : PySem.W.Frag → Bool) (g : Addr → Option Obj) : Bool × He.AlD := (more (He.frG g (He.asD g n)), He.obsDG n fa fn g)
def hookM (n : Nat) (fa : List He.Fa) (fn : List He.DefD) (more : PySem.W.Frag → Bool) : PySem.W.Hook where
  α := Bool × He.AlD
  obs := fun s => obsMG n fa fn more s.heap.get?
  val := fun _ => (true, He.valD fn)
  says := fun _ h => ∃ K : PySem.W.Frag, K.In h ∧ He.SaysD fa fn K ∧ more K = true
  of := fun _ _ e => ⟨_, He.frG_in, congrArg Prod.snd e, congrArg Prod.fst e⟩
  keeps := fun _ _ _ ⟨K, hK, c⟩ k => ⟨K, PySem.W.Frag.In.keeps hK k, c⟩
theorem obsMG_eq {n : Nat} {fa : List He.Fa} {fn : List He.DefD} {more : PySem.W.Frag → Bool} {g : Addr → Option Obj} {s : Shared} (h : ∀ a, g a = s.heap.get? a) : obsMG n fa fn more g = (hookM n fa fn more).obs s := by
  have e : g = s.heap.get? := funext h
  rw [e] <;> rfl
/-! ### isinstance of own classes -/
def clsFacts (K : PySem.W.Frag) (cs : List Str) : Bool :=
  (decide (PySem.W.specialIn K (.builtin "object.__class__") "__get__" = some (some (.builtin "getset_descriptor.__get__"))) && decide (PySem.W.takesIn K (.builtin "object.__class__") = some true)) &&
  cs.all fun c => (decide (PySem.W.findIn K (.ref (He.ga K c)) "__class__" = some (some (.builtin "object.__class__"))) && decide (PySem.W.mroIn K (He.ga K c) (.type "object") = some true)) &&
    ((cs.all fun d => decide (PySem.W.kitOne K (.ref (He.ga K c)) (.ref (He.ga K d)) = some (decide (c = d)))) && tyNames.all fun t => decide (PySem.W.kitOne K (.type t) (.ref (He.ga K c)) = some false))
structure ClsOk (K : PySem.W.Frag) (mg : Str → Option Value) (cs : List Str) : Prop where
  glo : ∀ c ∈ cs, mg c = some (.ref (He.ga K c))
  cls : ∀ c ∈ cs, Cls K (He.ga K c)
  facts : clsFacts K cs = true
def isOwn (cs : List Str) (cls : Str) : D → Option Bool
  | .obj c _ => if c ∈ cs then some (decide (c = cls)) else none
  | d => (tyD d).map fun _ => false
def sIsC (cs : List Str) (cls : Str) (sa : SE) : SE := fun ρ S => (sa ρ S).then fun d S' => (optR (isOwn cs cls d) S').then fun b S' => .ok (.bl b) S'
section
variable {X : Cx} {own : List Nat} {a : Expr} {sa : SE} {pos p p2 : Pos} {cs : List Str} {cls : Str}
theorem sim_isC (C : ClsOk X.K X.mg cs) (hc : cls ∈ cs) (hg : Gl X "isinstance") (hm : X.mg "isinstance" = none) (hg2 : Gl X cls) (ha : SimE X own a sa) (hdb : (cls == ("__debug__" : Str)) = false := by decide)
    (he : starEach [a, .Name cls p2] X.env = (false, eval a X.env) :: starEach [.Name cls p2] X.env := by rfl) (hpl : (backTo pos (starEach [.Name cls p2] X.env)).any (·.1) = false := by rfl) :
    SimE X own (.Call (.Name "isinstance" p) [a, .Name cls p2] [] pos) (sIsC cs cls sa) :=
  pe_weak (pe_callB call_isi hg hm (by decide +kernel) (pa_cons ha (pa_cons (pe_glob (v := .ref (He.ga X.K cls)) hg2 (C.glo cls hc) rfl hdb) pa_nil) he) (by decide) (by decide) he hpl) fun σ H Q ⟨g0, H0, ρ, g, S, E, q⟩ => by
    obtain ⟨d, S', e1, k⟩ := Res.post_ex q
    obtain ⟨x, S1, e2, e1⟩ := Res.then_ex e1
    obtain ⟨b, S2, e30, e1⟩ := Res.then_ex e1
    obtain ⟨e3, eS⟩ := optR_ex e30
    clear e30
    subst eS
    cases e1
    refine ⟨g0, H0, ρ, g, S, E, ?_⟩
    rw [e2]
    intro v g1 H1 G1 s1 r1
    have f := C.facts
    unfold clsFacts at f
    rw [Bool.and_eq_true, Bool.and_eq_true, decide_eq_true_eq, decide_eq_true_eq] at f
    obtain ⟨⟨f1, f2⟩, f3⟩ := f
    have fc := List.all_eq_true.mp f3 cls hc
    rw [Bool.and_eq_true, Bool.and_eq_true, Bool.and_eq_true, decide_eq_true_eq, decide_eq_true_eq] at fc
    have base : ∀ t, tyD x = some t → b = false → ∃ (y c : V) (t u : Value) (b' : Bool), [v, V.ref (He.ga X.K cls)] = [y, c] ∧ ClsV c u ∧ TyX X.K H1 y t ∧ PySem.W.kitOne X.K t u = some b' ∧ Q (.bl b') H1 := fun t ht hb => by
      subst hb
      have := List.all_eq_true.mp fc.2.2 t (ty_mem ht)
      rw [decide_eq_true_eq] at this
      exact ⟨v, .ref (He.ga X.K cls), .type t, .ref (He.ga X.K cls), false, rfl, .own _, tyx_of G1 (.inl r1) ht, this, k _ g1 H1 G1 s1 (.bl false)⟩
    cases x with
    | obj c fs =>
      have e3' : (if c ∈ cs then some (decide (c = cls)) else none) = some b := e3
      split at e3'
      · rename_i hcs
        cases e3'
        cases r1 with
        | @obj A C' dx fvs _ _ hmc h1 h2 rf =>
          have hCe : C' = He.ga X.K c := by
            have := (C.glo c hcs).symm.trans hmc
            cases this
            rfl
          subst hCe
          have fo := List.all_eq_true.mp f3 c hcs
          rw [Bool.and_eq_true, Bool.and_eq_true, Bool.and_eq_true, decide_eq_true_eq, decide_eq_true_eq] at fo
          have fk := List.all_eq_true.mp fo.2.1 cls hc
          rw [decide_eq_true_eq] at fk
          exact ⟨_, .ref (He.ga X.K cls), .ref (He.ga X.K c), .ref (He.ga X.K cls), _, rfl, .own _, .base (.ins (G1.sub _ _ h1) (C.cls c hcs) fo.1.1 f1 f2 fo.1.2), fk, k _ g1 H1 G1 s1 (.bl _)⟩
      · cases e3'
    | mref i => cases e3
    | scr ns => cases e3
    | non => cases e3; exact base _ rfl rfl
    | bl _ => cases e3; exact base _ rfl rfl
    | int _ => cases e3; exact base _ rfl rfl
    | str _ => cases e3; exact base _ rfl rfl
    | tup _ => cases e3; exact base _ rfl rfl
    | lst _ => cases e3; exact base _ rfl rfl
end
end Ev
namespace Ev
open PySem PySem.Spec PyProof.Rows L2
/-! ### states told by some of their slots -/
def St : List (Option D) → DEnv → Prop
  | [], [] => True
  | some d :: t, y :: ρ => y = some d ∧ St t ρ
  | none :: t, _ :: ρ => St t ρ
  | _, _ => False
theorem St.some {d : D} {t : List (Option D)} {ρ : DEnv} (h : St (some d :: t) ρ) : ∃ ρ', ρ = .some d :: ρ' ∧ St t ρ' := by
  cases ρ with
  | nil => exact h.elim
  | cons y ρ => exact ⟨ρ, by rw [h.1], h.2⟩
theorem St.none {t : List (Option D)} {ρ : DEnv} (h : St (none :: t) ρ) : ∃ y ρ', ρ = y :: ρ' ∧ St t ρ' := by
  cases ρ with
  | nil => exact h.elim
  | cons y ρ => exact ⟨y, ρ, rfl, h⟩
theorem St.nil {ρ : DEnv} (h : St [] ρ) : ρ = [] := by
  cases ρ with
  | nil => rfl
  | cons y ρ => exact h.elim
@[simp] theorem st_nil : St [] [] = True := rfl
@[simp] theorem st_some (d : D) (t : List (Option D)) (y : Option D) (ρ : DEnv) : St (some d :: t) (y :: ρ) = (y = some d ∧ St t ρ) := rfl
@[simp] theorem st_none (t : List (Option D)) (y : Option D) (ρ : DEnv) : St (none :: t) (y :: ρ) = St t ρ := rfl
/-- for i in range(n) -/
theorem forL_range {body : D → DEnv → M Out} {ρ : DEnv} {S : Sto} {Q : Out → Sto → Prop} (P : Nat → DEnv → Sto → Prop) (n : Nat) (h0 : P 0 ρ S)
    (h1 : ∀ j, j < n → ∀ ρ S, P j ρ S → (body (.int (j : Int)) ρ S).post (stepP (P (j + 1)) Q)) (h2 : ∀ ρ S, P n ρ S → Q (.nx ρ) S) : (forL body ((List.range n).map fun (k : Nat) => D.int (k : Int)) ρ S).post Q :=
  forL_map (P := P) (List.range n) h0 (fun j x hj ρ S hp => by
    obtain ⟨h, e⟩ := List.getElem?_eq_some_iff.mp hj
    rw [List.getElem_range] at e
    rw [List.length_range] at h
    subst e
    exact h1 j h ρ S hp) fun ρ S hp => h2 ρ S (by rw [List.length_range] at hp; exact hp)
/-- for i in range(lo, hi) -/
theorem forL_range2 {body : D → DEnv → M Out} {ρ : DEnv} {S : Sto} {Q : Out → Sto → Prop} (P : Nat → DEnv → Sto → Prop) (lo n : Nat) (h0 : P 0 ρ S)
    (h1 : ∀ j, j < n → ∀ ρ S, P j ρ S → (body (.int ((lo + j : Nat) : Int)) ρ S).post (stepP (P (j + 1)) Q)) (h2 : ∀ ρ S, P n ρ S → Q (.nx ρ) S) : (forL body ((List.range n).map fun (k : Nat) => D.int ((lo : Int) + (k : Int))) ρ S).post Q :=
  forL_map (P := P) (List.range n) h0 (fun j x hj ρ S hp => by
    obtain ⟨h, e⟩ := List.getElem?_eq_some_iff.mp hj
    rw [List.getElem_range] at e
    rw [List.length_range] at h
    subst e
    have := h1 j h ρ S hp
    rw [Int.natCast_add] at this
    exact this) fun ρ S hp => h2 ρ S (by rw [List.length_range] at hp; exact hp)
theorem rg2n {i j : Nat} (h1 : i < 4611686018427387904) (h2 : j < 4611686018427387904) : dRange [.int (i : Int), .int (j : Int)] = some ((List.range (j - i)).map fun (k : Nat) => .int ((i : Int) + (k : Int))) := by
  rw [rg2 (by omega) (by omega) (by omega) (by omega)]
  congr 3
  omega
/-- for i, x in enumerate(xs) -/
theorem enumD_map {α : Type} {e : α → D} (xs : List α) : enumD (xs.map e) = (List.range xs.length).map fun k => .tup [.int (k : Int), (xs.map e).getD k .non] := by
  unfold enumD
  rw [List.length_map]
theorem getD_at {α : Type} {e : α → D} {xs : List α} {k : Nat} {x : α} (h : xs[k]? = some x) : (xs.map e).getD k .non = e x := by
  rw [List.getD_eq_getElem?_getD, List.getElem?_map, h]
  rfl
theorem forL_enum {α : Type} {e : α → D} {body : D → DEnv → M Out} {ρ : DEnv} {S : Sto} {Q : Out → Sto → Prop} (P : Nat → DEnv → Sto → Prop) (xs : List α) (h0 : P 0 ρ S)
    (h1 : ∀ j x, xs[j]? = some x → ∀ ρ S, P j ρ S → (body (.tup [.int (j : Int), e x]) ρ S).post (stepP (P (j + 1)) Q)) (h2 : ∀ ρ S, P xs.length ρ S → Q (.nx ρ) S) : (forL body (enumD (xs.map e)) ρ S).post Q := by
  rw [enumD_map]
  refine forL_map (P := P) (List.range xs.length) h0 (fun j x hj ρ S hp => ?_) fun ρ S hp => h2 ρ S (by rw [List.length_range] at hp; exact hp)
  obtain ⟨h, e'⟩ := List.getElem?_eq_some_iff.mp hj
  rw [List.getElem_range] at e'
  rw [List.length_range] at h
  subst e'
  have hx : xs[j]? = some xs[j] := List.getElem?_eq_getElem h
  rw [getD_at hx]
  exact h1 j _ hx ρ S hp
theorem compL_range {f : D → M (Option D)} {g : Nat → D} {S : Sto} (n : Nat) (h : ∀ k, k < n → f (.int (k : Int)) S = .ok (some (g k)) S) : compL f ((List.range n).map fun (k : Nat) => D.int (k : Int)) S = .ok ((List.range n).map g) S :=
  compL_map (enc := fun (k : Nat) => D.int (k : Int)) _ fun k hk => h k (List.mem_range.mp hk)
theorem compL_rangeF {f : D → M (Option D)} {g : Nat → D} {p : Nat → Bool} {S : Sto} (n : Nat) (h : ∀ k, k < n → f (.int (k : Int)) S = .ok (if p k then some (g k) else none) S) : compL f ((List.range n).map fun (k : Nat) => D.int (k : Int)) S = .ok (((List.range n).filter p).map g) S :=
  compL_filter (enc := fun (k : Nat) => D.int (k : Int)) _ fun k hk => h k (List.mem_range.mp hk)
theorem compL_enum {α : Type} {e : α → D} {f : D → M (Option D)} {g : Nat → α → D} {S : Sto} {d0 : α} (xs : List α) (h : ∀ (k : Nat) (x : α), xs[k]? = some x → f (.tup [.int (k : Int), e x]) S = .ok (some (g k x)) S) : compL f (enumD (xs.map e)) S = .ok ((List.range xs.length).map fun (k : Nat) => g k (xs.getD k d0)) S := by
  rw [enumD_map]
  refine compL_map _ fun k hk => ?_
  have hk' := List.mem_range.mp hk
  have hx : xs[k]? = some xs[k] := List.getElem?_eq_getElem hk'
  rw [getD_at hx, h k _ hx]
  rw [List.getD_eq_getElem?_getD, hx]
  rfl
/-- all values of a loop that only looks -/
theorem ok_of_post {α : Type} {r : Res α} {P : α → Sto → Prop} (h : r.post P) : ∃ a S, r = .ok a S ∧ P a S := Res.post_ex h
theorem all_map {α : Type} (p : α → Bool) (r : List α) : dAll [.lst (r.map fun x => .bl (p x))] = some (.bl (r.all p)) := by
  show (blsD (r.map fun x => D.bl (p x))).map (fun ns => D.bl (ns.all id)) = _
  rw [show (r.map fun x => D.bl (p x)) = (r.map p).map D.bl by simp, blsD_map]
  simp
theorem any_map {α : Type} (p : α → Bool) (r : List α) : dAnyA [.lst (r.map fun x => .bl (p x))] = some (.bl (r.any p)) := by
  show (blsD (r.map fun x => D.bl (p x))).map (fun ns => D.bl (ns.any id)) = _
  rw [show (r.map fun x => D.bl (p x)) = (r.map p).map D.bl by simp, blsD_map]
  simp
section
variable (ρ : DEnv) (S : Sto) (sa : SE) (cs : List Str) (c : Str) (i : Int) (b : Bool) (xs : List D) (x : Str)
@[simp] theorem e_isC : sIsC cs c sa ρ S = (sa ρ S).then fun d S' => (optR (isOwn cs c d) S').then fun b S' => .ok (.bl b) S' := rfl
@[simp] theorem own_non : isOwn cs c .non = some false := rfl
@[simp] theorem own_bl : isOwn cs c (.bl b) = some false := rfl
@[simp] theorem own_int : isOwn cs c (.int i) = some false := rfl
@[simp] theorem own_str : isOwn cs c (.str x) = some false := rfl
@[simp] theorem own_tup : isOwn cs c (.tup xs) = some false := rfl
@[simp] theorem own_lst : isOwn cs c (.lst xs) = some false := rfl
end
theorem comp_end {α : Type} {ys : List α} (e : α → D) (h : ys.length ≤ sizeLine) (S : Sto) : (if (ys.map e).length ≤ sizeLine then (Res.ok (.lst (ys.map e)) S : Res D) else .bad) = .ok (.lst (ys.map e)) S := by
  rw [if_pos (by rw [List.length_map]; exact h)]
end Ev
namespace Ev
open PySem PySem.Spec PyProof.Rows L2
/-! ### list(range(n)), tuple(range(n)) -/
theorem reps_rg {K : PySem.W.Frag} {mg : Str → Option Value} {g : Gh} (a b : Int) : Reps K mg g (rgV a b) (rangeD a (b - a).toNat) := by
  unfold rgV rangeD
  generalize List.range (b - a).toNat = l
  induction l with
  | nil => exact .nil
  | cons i l ih => exact .cons (.int _) ih
def rgS (n : Int) : Bool := decide (0 ≤ n) && decide (n.toNat ≤ sizeLine)
theorem rgS_ok {n : Int} (h : rgS n = true) : RgOk 0 n := by
  unfold rgS at h
  rw [Bool.and_eq_true, decide_eq_true_eq, decide_eq_true_eq, szl] at h
  exact .of_le (by decide) (by omega) (by decide) h.1
theorem rgS_of {n : Nat} (h : n ≤ sizeLine) : rgS (n : Int) = true := by
  unfold rgS
  rw [Bool.and_eq_true, decide_eq_true_eq, decide_eq_true_eq]
  exact ⟨by omega, by rw [Int.toNat_natCast]; exact h⟩
def rgEnd (f : List D → D) : D → Sto → Res D
  | .int n, S => if rgS n then .ok (f (rangeD 0 n.toNat)) S else .bad
  | _, _ => .bad
def sRgL (sa : SE) : SE := fun ρ S => (sa ρ S).then (rgEnd .lst)
def sRgT (sa : SE) : SE := fun ρ S => (sa ρ S).then (rgEnd .tup)
@[simp] theorem e_rgL (sa : SE) (ρ : DEnv) (S : Sto) : sRgL sa ρ S = (sa ρ S).then (rgEnd .lst) := rfl
@[simp] theorem e_rgT (sa : SE) (ρ : DEnv) (S : Sto) : sRgT sa ρ S = (sa ρ S).then (rgEnd .tup) := rfl
theorem rgEnd_nat (f : List D → D) {n : Nat} (h : n ≤ sizeLine) (S : Sto) : rgEnd f (.int (n : Int)) S = .ok (f ((List.range n).map fun (k : Nat) => D.int (k : Int))) S := by
  show (if rgS (n : Int) then _ else _) = _
  rw [if_pos (rgS_of h), range0, Int.toNat_natCast]
section
variable {X : Cx} {own : List Nat} {a : Expr} {sa : SE} {pos p p2 pos2 : Pos}
theorem rg_ex {f : List D → D} {ρ : DEnv} {S S' : Sto} {d : D} (e : ((sa ρ S).then (rgEnd f)) = .ok d S') : ∃ n, sa ρ S = .ok (.int n) S' ∧ rgS n = true ∧ d = f (rangeD 0 n.toNat) := by
  obtain ⟨x, S1, e2, e1⟩ := Res.then_ex e
  cases x with
  | int n =>
    have e1' : (if rgS n then (Res.ok (f (rangeD 0 n.toNat)) S1 : Res D) else .bad) = .ok d S' := e1
    split at e1'
    · cases e1'
      exact ⟨n, e2, ‹_›, rfl⟩
    · cases e1'
  | _ => cases e1
theorem f_lstRg (hl : X.mg "list" = none) (hr : X.mg "range" = none) (ha : SimE X own a sa) (hc : X.calm = true := by rfl) (hgl : Gl X "list" := by rfl) (hgr : Gl X "range" := by rfl)
    (na : starEach [a] X.env = (false, eval a X.env) :: starEach [] X.env := by rfl)
    (na2 : starEach [.Call (.Name "range" p2) [a] [] pos2] X.env = (false, eval (.Call (.Name "range" p2) [a] [] pos2) X.env) :: starEach [] X.env := by rfl) :
    SimF X own (.Call (.Name "list" p) [.Call (.Name "range" p2) [a] [] pos2] [] pos) (sRgL sa) :=
  pe_weak (pe_listRg hc hgl hl (prg_1 hgr hr ha na) na2) fun σ H Q ⟨g0, H0, ρ, g, S, E, q⟩ => by
    obtain ⟨d, S', e1, ds, e3, k⟩ := Res.post_ex q
    subst e3
    obtain ⟨n, e2, hn, e4⟩ := rg_ex e1
    cases e4
    refine ⟨g0, H0, ρ, g, S, E, ?_⟩
    rw [e2]
    intro v g1 H1 G1 s1 r1
    cases r1
    refine ⟨n, rfl, rgS_ok hn, fun p' hp => ?_⟩
    have := reps_rg (K := X.K) (mg := X.mg) (g := g1) 0 n
    rw [Int.sub_zero] at this
    exact fresh_end G1 s1 hp this k
theorem v_tupRg (hl : X.mg "tuple" = none) (hr : X.mg "range" = none) (ha : SimE X own a sa) (hc : X.calm = true := by rfl) (hgl : Gl X "tuple" := by rfl) (hgr : Gl X "range" := by rfl)
    (na : starEach [a] X.env = (false, eval a X.env) :: starEach [] X.env := by rfl)
    (na2 : starEach [.Call (.Name "range" p2) [a] [] pos2] X.env = (false, eval (.Call (.Name "range" p2) [a] [] pos2) X.env) :: starEach [] X.env := by rfl) :
    SimE X own (.Call (.Name "tuple" p) [.Call (.Name "range" p2) [a] [] pos2] [] pos) (sRgT sa) :=
  pe_weak (pe_tupRg hc hgl hl (prg_1 hgr hr ha na) na2) fun σ H Q ⟨g0, H0, ρ, g, S, E, q⟩ => by
    obtain ⟨d, S', e1, k⟩ := Res.post_ex q
    obtain ⟨n, e2, hn, e4⟩ := rg_ex e1
    subst e4
    refine ⟨g0, H0, ρ, g, S, E, ?_⟩
    rw [e2]
    intro v g1 H1 G1 s1 r1
    cases r1
    refine ⟨n, rfl, rgS_ok hn, fun p' hp => ?_⟩
    have := reps_rg (K := X.K) (mg := X.mg) (g := g1) 0 n
    rw [Int.sub_zero] at this
    exact k _ _ _ (G1.add hp) (s1.trans (stp_add G1 hp)) (Rep.newT G1 hp this)
end
instance {sa : SE} : IsL (sRgL sa) := ⟨fun _ _ _ _ e => by
  obtain ⟨n, _, _, e4⟩ := rg_ex e
  exact ⟨_, e4⟩⟩
end Ev
namespace HT
open PySem PySem.Spec PyProof PyProof.Rows
section
variable {prog : Program} {w : World} {A : Around} {E : Value → Shared → Prop} {s : Shared}
theorem sliceApplied_rev {sl : Addr} {t : Tok} {n : Nat} {Q : Int × Int × Nat → Shared → Prop} (hs : s.heap.IsSliceOf sl .none .none (.int (-1) t))
    (h : Q ((n : Int) - 1, -1, n) s) : wpAny (model prog w) A (Builtin.Slice.sliceApplied (.ref sl) (pure (n : Int))) Q E s := by
  obtain ⟨os, hos, hcs, hds⟩ := id hs
  unfold Builtin.Slice.sliceApplied Builtin.Slice.sliceFields
  refine wpAny_bind (wpAny_bind (wpAny_field hos hds (x := .none) rfl (wpAny_bind (wpAny_field hos hds (x := .none) rfl (wpAny_bind (wpAny_field hos hds (x := .int (-1) t) rfl (wpAny_pure ?_)))))))
  refine wpAny_bind (slicePart_int ?_)
  show wpAny _ _ (if ((-1 : Int) == 0) = true then _ else _) _ _ s
  rw [if_neg (by decide)]
  refine wpAny_bind (slicePart_none (wpAny_bind (slicePart_none (wpAny_bind (wpAny_pure ?_)))))
  show wpAny _ _ (match Builtin.Slice.sliceAdjust none none (-1) (n : Int) with | (lo, hi) => pure (lo, (-1 : Int), Builtin.Slice.slicePlaces lo hi (-1))) _ _ s
  have e : Builtin.Slice.sliceAdjust none none (-1) (n : Int) = ((n : Int) - 1, -1) := rfl
  rw [e]
  show wpAny _ _ (pure ((n : Int) - 1, (-1 : Int), Builtin.Slice.slicePlaces ((n : Int) - 1) (-1) (-1))) _ _ s
  have e2 : Builtin.Slice.slicePlaces ((n : Int) - 1) (-1) (-1) = n := by
    unfold Builtin.Slice.slicePlaces
    rw [if_neg (by decide)]
    by_cases z : n = 0
    · subst z
      rfl
    · rw [if_pos (by omega), show -(-1 : Int) = 1 from rfl, Int.ediv_one]
      omega
  rw [e2]
  exact wpAny_pure h
theorem filterMap_all {α β : Type} {f : α → Option β} {g : α → β} : ∀ l : List α, (∀ m ∈ l, f m = some (g m)) → l.filterMap f = l.map g
  | [], _ => rfl
  | m :: l, h => by
    rw [List.filterMap_cons, h m List.mem_cons_self, List.map_cons, filterMap_all l fun x hx => h x (List.mem_cons_of_mem _ hx)]
theorem pick_rev (xs : Array Value) : ((List.range xs.size).filterMap fun (m : Nat) => xs[(((xs.size : Int) - 1) + (m : Int) * -1).toNat]?).toArray = xs.toList.reverse.toArray := by
  congr 1
  apply List.ext_getElem?
  intro i
  have e : ∀ m, m < xs.size → xs[(((xs.size : Int) - 1) + (m : Int) * -1).toNat]? = some xs.toList.reverse[m]! := fun m hm => by
    have : (((xs.size : Int) - 1) + (m : Int) * -1).toNat = xs.size - 1 - m := by omega
    rw [this, Array.getElem?_eq_getElem (by omega)]
    congr 1
    rw [getElem!_pos _ _ (by simpa using hm), List.getElem_reverse]
    simp
  rw [show ((List.range xs.size).filterMap fun (m : Nat) => xs[(((xs.size : Int) - 1) + (m : Int) * -1).toNat]?) = (List.range xs.size).map fun m => xs.toList.reverse[m]! from by
    exact filterMap_all _ fun m hm => e m (List.mem_range.mp hm)]
  rw [List.getElem?_map]
  by_cases hi : i < xs.size
  · rw [List.getElem?_range hi]
    show some (xs.toList.reverse[i]!) = _
    rw [getElem!_pos _ _ (by simpa using hi), List.getElem?_eq_getElem]
  · rw [List.getElem?_eq_none (by simp; omega), List.getElem?_eq_none (by simp; omega)]
    rfl
theorem getItem_tuple_rev {t sl : Addr} {items : Array Value} {tk : Tok} {Q : Value → Shared → Prop} (ht : IsTup s.heap t items) (hs : s.heap.IsSliceOf sl .none .none (.int (-1) tk))
    (h : Q (.ref s.heap.objs.size) { s with heap := s.heap.push { cls := .type "tuple", data := .seq items.toList.reverse.toArray } })
    (hsz : items.size ≤ sizeLine) : wpAny (model prog w) A (getItem (.ref t) (.ref sl)) Q E s := by
  have htake : sizeOk (.seq items.toList.reverse.toArray) := by
    show items.toList.reverse.toArray.size ≤ sizeLine
    simpa using hsz
  obtain ⟨os, hos, hcs, hds⟩ := id hs
  have hTs : s.TypeIs (.ref sl) "slice" := ⟨os, hos, hcs⟩
  unfold getItem
  try with_reducible refine wpAny_holding ?_
  first | refine wpAny_bind (wpAny_pure ?_) | skip
  refine wpAny_bind (wpAny_sequenceKey ht.typeIs (by decide) ?_)
  refine wpAny_bind (wpAny_callSpecial?_slot (name := Str.ofString "__getitem__") ht.typeIs PyProof.Rows.slot_tuple_getitem
    (wpAny_call_entry PyProof.Rows.slot_tuple_getitem ht.typeIs entry_tuple_getitem ?_ (args_tuple_getitem _ _)))
  show wpAny _ _ (Builtin.Tuple.tupleItemsOf (.ref t) >>= _) _ _ s
  refine wpAny_bind (tupleItemsOf_ ht ?_)
  refine wpAny_bind (wpAny_typeOf hTs ?_)
  rw [if_pos (by decide)]
  refine wpAny_bind (sliceApplied_rev hs ?_)
  have hno : ¬ ((((items.size : Int) - 1) == 0 && (-1 : Int) == 1 && items.size == items.size) = true) := by
    intro q
    rw [Bool.and_eq_true, Bool.and_eq_true] at q
    exact absurd q.1.2 (by decide)
  show wpAny _ _ (if (((items.size : Int) - 1) == 0 && (-1 : Int) == 1 && items.size == items.size) = true then _ else _) _ _ s
  rw [if_neg hno, pick_rev]
  first
    | exact wpAny_bind (m := Builtin.Tuple.tupleExact _) (wpAny_newObj_type (wpAny_pure ⟨_, rfl, wpAny_pure h⟩) htake)
    | exact wpAny_bind (m := Builtin.Tuple.tupleExact _) (wpAny_newObj_type (wpAny_bind (wpAny_pure (wpAny_pure ⟨_, rfl, wpAny_pure h⟩))) htake)
    | exact wpAny_bind (wpAny_bind (m := Builtin.Tuple.tupleExact _) (wpAny_newObj_type (wpAny_pure (wpAny_pure ⟨_, rfl, wpAny_pure h⟩)) htake))
    | exact wpAny_bind (wpAny_bind (m := Builtin.Tuple.tupleExact _) (wpAny_newObj_type (wpAny_pure ⟨_, rfl, wpAny_pure h⟩) htake))
end
end HT
namespace Ev
open PySem PySem.Spec PyProof.Rows L2
/-! ### xs[::-1] of a list or a tuple -/
def tRevA (K : PySem.W.Frag) (te : TE) : TE := fun σ H Q => te σ H fun x H1 => ∃ a xs, x = .ref a ∧ ((SqL K H1 a xs ∧ ∀ p, H1 p = none → Q (.ref p) (upd H1 p (.lst xs.reverse))) ∨ (SqT K H1 a xs ∧ ∀ p, H1 p = none → Q (.ref p) (upd H1 p (.tup xs.reverse))))
theorem pe_revA {X : Cx} {e : Expr} {te : TE} {k : Nat} {p1 p2 p3 pos : Pos} (he : PE X e te) : PE X (.Subscript e (.Slice none none (some (.UnaryOp .USub (.Constant (.int 1) k p1) p2)) p3) pos) (tRevA X.K te) := by
  refine ⟨fun pins s σ H Q I h => ?_⟩
  refine Subscript_ (thn (he.run pins s σ H _ I h) fun v s1 ⟨x, H1, I1, r1, q1⟩ => ?_)
  obtain ⟨a, xs, ex, q⟩ := q1
  subst ex
  cases r1
  have hst : PO X (some (.UnaryOp .USub (.Constant (.int 1) k p1) p2)) (tPart (tUn (rU fun i => .int (-i)) (tC (.int 1)))) := po_some (pe_un un_neg pe_int)
  refine wpAny_Slice (thn (po_none.run pins s1 σ H1 (fun o H2 => o = none ∧ H2 = H1) I1 ⟨rfl, rfl⟩) fun vl s2 ⟨l, H2, I2, pl, el, e2⟩ => ?_)
  subst el e2
  refine thn (po_none.run pins s2 σ H2 (fun o H3 => o = none ∧ H3 = H2) I2 ⟨rfl, rfl⟩) fun vu s3 ⟨u, H3, I3, pu, eu, e3⟩ => ?_
  subst eu e3
  refine thn (hst.run pins s3 σ H3 (fun o H4 => o = some (-1) ∧ H4 = H3) I3 ⟨1, rfl, -1, rfl, rfl, rfl⟩) fun vs s4 ⟨o, H4, I4, ps, eo, e4⟩ => ?_
  subst eo e4
  have I5 : Inv X pins σ H4 { s4 with heap := s4.heap.push { cls := .type "slice", data := .fields #[vl, vu, vs] } } := I4.kept (t' := s4.toks) fun b ob q => Heap.get?_push_of_some _ q
  show wpAny (model X.prog X.w) X.A (subscriptTail e (.Slice none none (some (.UnaryOp .USub (.Constant (.int 1) k p1) p2)) p3) (.ref a) (.ref s4.heap.objs.size)) (EP X pins σ Q) X.xe { s4 with heap := s4.heap.push { cls := .type "slice", data := .fields #[vl, vu, vs] } }
  rcases q with ⟨hx, q⟩ | ⟨hx, q⟩
  · obtain ⟨its, r, ht, hz⟩ := I5.list hx
    have hlen := r.length
    refine tail_any (ops := [.ref a, .ref s4.heap.objs.size]) ht.isList.typeIs (PySem.slot_list_getitem.lookup) ?_ (by with_unfolding_all rfl)
    refine wpAny_getItem_list_slice ht.isList (Heap.IsSliceOf.new _ vl vu vs) pl pu ps (by decide) ?_ (by rw [List.size_toArray]; omega)
    rw [PySem.W.krv_pick]
    refine ⟨.ref _, _, I5.laid (t' := s4.toks) (o := .lst xs.reverse) (fun b ob q => Heap.get?_push_of_some _ q) (Nat.le_refl _) ?_, rfl, q _ (I5.hok.fresh (Nat.le_refl _))⟩
    exact ⟨by rw [List.length_reverse]; exact hz, _, 0, r.reverse, Heap.get?_push_size _ rfl⟩
  · obtain ⟨its, r, ht, hz⟩ := I5.tuple hx
    have hlen : its.toArray.size = xs.length := by rw [List.size_toArray]; exact r.length.symm
    cases pl
    cases pu
    cases ps
    refine tail_any (ops := [.ref a, .ref s4.heap.objs.size]) ht.typeIs PyProof.Rows.slot_tuple_getitem.lookup ?_ (by with_unfolding_all rfl)
    refine HT.getItem_tuple_rev ht (Heap.IsSliceOf.new _ _ _ _) ?_ (by rw [hlen]; exact hz)
    refine ⟨.ref _, _, I5.laid (t' := s4.toks) (o := .tup xs.reverse) (fun b ob q => Heap.get?_push_of_some _ q) (Nat.le_refl _) ?_, rfl, q _ (I5.hok.fresh (Nat.le_refl _))⟩
    exact ⟨by rw [List.length_reverse]; exact hz, _, r.reverse, IsTup.new _ _⟩
theorem Reps.reverse {K : PySem.W.Frag} {mg : Str → Option Value} {g : Gh} : ∀ {vs : List V} {ds : List D}, Reps K mg g vs ds → Reps K mg g vs.reverse ds.reverse
  | _, _, .nil => .nil
  | _, _, .cons h r => by
    rw [List.reverse_cons, List.reverse_cons]
    exact (Reps.reverse r).append (.one h)
def revD : D → Option D
  | .lst xs => some (.lst xs.reverse)
  | .tup xs => some (.tup xs.reverse)
  | _ => none
@[simp] theorem rev_lst (xs : List D) : revD (.lst xs) = some (.lst xs.reverse) := rfl
@[simp] theorem rev_tup (xs : List D) : revD (.tup xs) = some (.tup xs.reverse) := rfl
def sRev (sa : SE) : SE := fun ρ S => (sa ρ S).then fun d S' => optR (revD d) S'
@[simp] theorem e_rev (sa : SE) (ρ : DEnv) (S : Sto) : sRev sa ρ S = (sa ρ S).then fun d S' => optR (revD d) S' := rfl
theorem sim_rev {X : Cx} {own : List Nat} {e : Expr} {sa : SE} {k : Nat} {p1 p2 p3 pos : Pos} (h : SimE X own e sa) : SimE X own (.Subscript e (.Slice none none (some (.UnaryOp .USub (.Constant (.int 1) k p1) p2)) p3) pos) (sRev sa) :=
  pe_weak (pe_revA h) fun σ H Q ⟨g0, H0, ρ, g, S, E, q⟩ => by
    obtain ⟨d, S', e1, kk⟩ := Res.post_ex q
    obtain ⟨x, S1, e2, e1⟩ := Res.then_ex e1
    obtain ⟨e3, eS⟩ := optR_ex e1
    subst eS
    refine ⟨g0, H0, ρ, g, S, E, ?_⟩
    rw [e2]
    intro v g1 H1 G1 s1 r1
    cases x with
    | lst xs =>
      cases e3
      obtain ⟨p, vs, rfl, hp, rs⟩ := RepR.lst G1 (.inl r1)
      exact ⟨p, vs, rfl, .inl ⟨SqL.of hp, fun p' hp' => kk _ _ _ (G1.add hp') (s1.trans (stp_add G1 hp')) (Rep.newL G1 hp' rs.reverse)⟩⟩
    | tup xs =>
      cases e3
      obtain ⟨p, vs, rfl, hp, rs⟩ := RepR.tup G1 (.inl r1)
      exact ⟨p, vs, rfl, .inr ⟨SqT.of hp, fun p' hp' => kk _ _ _ (G1.add hp') (s1.trans (stp_add G1 hp')) (Rep.newT G1 hp' rs.reverse)⟩⟩
    | _ => cases e3
/-! ### comparisons of data of any depth -/
def rCmpD (K : PySem.W.Frag) (f : PyData → PyData → Bool) : R2 := fun x y H Q => ∃ d e, Dp K H x d ∧ Dp K H y e ∧ PySem.W.alike d e = true ∧ d ≠ .none ∧ d.depth ≤ 60 ∧ Q (.bl (f d e)) H
section
variable {X : Cx}
theorem op_ltD (hu : X.A.units + 62 < cLine) : OpR X (compareOp .Lt) (rCmpD X.K fun d e => PySem.W.dataLt d e) := by
  intro pins s σ H x y v u Q I rx ry ⟨d, e, hd, he, ha, hn, hz, q⟩
  obtain ⟨as, r1⟩ := Dp.reads I _ _ _ hd rx
  obtain ⟨bs, r2⟩ := Dp.reads I _ _ _ he ry
  exact PySem.W.lt_data r1 r2 ha hn (by omega) ⟨.bl _, H, I, rfl, q⟩
theorem op_gtD (hu : X.A.units + 62 < cLine) : OpR X (compareOp .Gt) (rCmpD X.K fun d e => PySem.W.dataLt e d) := by
  intro pins s σ H x y v u Q I rx ry ⟨d, e, hd, he, ha, hn, hz, q⟩
  obtain ⟨as, r1⟩ := Dp.reads I _ _ _ hd rx
  obtain ⟨bs, r2⟩ := Dp.reads I _ _ _ he ry
  exact PySem.W.gt_data r1 r2 ha hn (by omega) ⟨.bl _, H, I, rfl, q⟩
theorem op_leD (hu : X.A.units + 62 < cLine) : OpR X (compareOp .LtE) (rCmpD X.K fun d e => !PySem.W.dataLt e d) := by
  intro pins s σ H x y v u Q I rx ry ⟨d, e, hd, he, ha, hn, hz, q⟩
  obtain ⟨as, r1⟩ := Dp.reads I _ _ _ hd rx
  obtain ⟨bs, r2⟩ := Dp.reads I _ _ _ he ry
  exact PySem.W.le_data r1 r2 ha hn (by omega) ⟨.bl _, H, I, rfl, q⟩
theorem op_geD (hu : X.A.units + 62 < cLine) : OpR X (compareOp .GtE) (rCmpD X.K fun d e => !PySem.W.dataLt d e) := by
  intro pins s σ H x y v u Q I rx ry ⟨d, e, hd, he, ha, hn, hz, q⟩
  obtain ⟨as, r1⟩ := Dp.reads I _ _ _ hd rx
  obtain ⟨bs, r2⟩ := Dp.reads I _ _ _ he ry
  exact PySem.W.ge_data r1 r2 ha hn (by omega) ⟨.bl _, H, I, rfl, q⟩
end
def notNon : PyData → Bool
  | .none => false
  | _ => true
theorem notNon_ok {x : PyData} (h : notNon x = true) : x ≠ .none := fun e => by subst e; cases h
def cmpOk (x y : PyData) : Bool := PySem.W.alike x y && (notNon x && decide (x.depth ≤ 60))
def dCmp (f : PyData → PyData → Bool) (a b : D) : Option D := match a.py, b.py with
  | some x, some y => if cmpOk x y then some (.bl (f x y)) else none
  | _, _ => none
/-- ints by themselves, all else as data -/
def dCmpA (h : Int → Int → Bool) (f : PyData → PyData → Bool) (a b : D) : Option D := match a, b with
  | .int i, .int j => some (.bl (h i j))
  | a, b => dCmp f a b
abbrev dLtA : D → D → Option D := dCmpA (fun i j => decide (i < j)) fun d e => PySem.W.dataLt d e
abbrev dGtA : D → D → Option D := dCmpA (fun i j => decide (j < i)) fun d e => PySem.W.dataLt e d
abbrev dLeA : D → D → Option D := dCmpA (fun i j => decide (i ≤ j)) fun d e => !PySem.W.dataLt e d
abbrev dGeA : D → D → Option D := dCmpA (fun i j => decide (j ≤ i)) fun d e => !PySem.W.dataLt d e
@[simp] theorem d_cmpA_int (h : Int → Int → Bool) (f : PyData → PyData → Bool) (i j : Int) : dCmpA h f (.int i) (.int j) = some (.bl (h i j)) := rfl
@[simp] theorem d_cmpA_tup (h : Int → Int → Bool) (f : PyData → PyData → Bool) (xs ys : List D) : dCmpA h f (.tup xs) (.tup ys) = dCmp f (.tup xs) (.tup ys) := rfl
@[simp] theorem d_cmpA_lst (h : Int → Int → Bool) (f : PyData → PyData → Bool) (xs ys : List D) : dCmpA h f (.lst xs) (.lst ys) = dCmp f (.lst xs) (.lst ys) := rfl
section
variable {X : Cx}
theorem op2_cmpA (h : Int → Int → Bool) (f : PyData → PyData → Bool) : Op2 X (dCmpA h f) (fun x y H Q => rI0 (fun i j => .bl (h i j)) x y H Q ∨ rCmpD X.K f x y H Q) := by
  intro g H S x y a b d Q G ra rb e k
  by_cases hi : ∃ i j, a = .int i ∧ b = .int j
  · obtain ⟨i, j, rfl, rfl⟩ := hi
    cases e
    cases ra.int
    cases rb.int
    exact .inl ⟨i, j, rfl, rfl, k _ _ _ G .refl (.bl _)⟩
  · have e' : dCmp f a b = some d := by
      unfold dCmpA at e
      split at e
      · exact absurd ⟨_, _, rfl, rfl⟩ hi
      · exact e
    unfold dCmp at e'
    cases p1 : a.py with
    | none => rw [p1] at e'; cases e'
    | some x1 => cases p2 : b.py with
      | none => rw [p1, p2] at e'; cases e'
      | some y1 =>
        rw [p1, p2] at e'
        have e2 : (if cmpOk x1 y1 then some (D.bl (f x1 y1)) else none) = some d := e'
        split at e2
        · rename_i ok
          cases e2
          unfold cmpOk at ok
          rw [Bool.and_eq_true, Bool.and_eq_true, decide_eq_true_eq] at ok
          exact .inr ⟨x1, y1, dp_read G ra p1, dp_read G rb p2, ok.1, notNon_ok ok.2.1, ok.2.2, k _ _ _ G .refl (.bl _)⟩
        · cases e2
theorem opr_ltA {k : Nat} (hr : Room k X.A) : OpR X (compareOp .Lt) (fun x y H Q => rI0 (fun i j => .bl (decide (i < j))) x y H Q ∨ rCmpD X.K (fun d e => PySem.W.dataLt d e) x y H Q) := op_lt.or (op_ltD (by have := hr.un; omega))
theorem opr_gtA {k : Nat} (hr : Room k X.A) : OpR X (compareOp .Gt) (fun x y H Q => rI0 (fun i j => .bl (decide (j < i))) x y H Q ∨ rCmpD X.K (fun d e => PySem.W.dataLt e d) x y H Q) := op_gt.or (op_gtD (by have := hr.un; omega))
theorem opr_leA {k : Nat} (hr : Room k X.A) : OpR X (compareOp .LtE) (fun x y H Q => rI0 (fun i j => .bl (decide (i ≤ j))) x y H Q ∨ rCmpD X.K (fun d e => !PySem.W.dataLt e d) x y H Q) := op_le.or (op_leD (by have := hr.un; omega))
theorem opr_geA {k : Nat} (hr : Room k X.A) : OpR X (compareOp .GtE) (fun x y H Q => rI0 (fun i j => .bl (decide (j ≤ i))) x y H Q ∨ rCmpD X.K (fun d e => !PySem.W.dataLt d e) x y H Q) := op_ge.or (op_geD (by have := hr.un; omega))
end
end Ev
namespace PySem.W
open PySem PySem.Calls PyProof.Rows
section
variable {prog : Program} {w : World} {A : Around} {E : Value → Shared → Prop} {s : Shared}
theorem collect_tupE {l : Addr} {vs : List Value} {Q : List Value → Shared → Prop} (hl : ∃ o, s.heap.get? l = some o ∧ o.cls = .type "tuple" ∧ ∃ n, o.data = .seq vs.toArray n)
    (h : Q vs { s with heap := (s.heap.push (seqObj "list" #[] 0)).update s.heap.objs.size (Obj.mapSeq (· ++ vs.toArray)) }) (hsz : vs.length ≤ sizeLine) :
    wpAny (model prog w) A (collect (.ref l)) Q E s := by
  obtain ⟨o, ho, hc, n, hd⟩ := id hl
  unfold collect
  refine wpAny_bind (wpAny_runValue (codeAny_builtin entry_proto_collect' ?_))
  show wpAny _ _ (do again (.builtin "list.__iadd__" ⟨[← newList [], .ref l], []⟩)) _ _ s
  refine wpAny_bind (wpAny_newList (wpAny_pure ⟨Code.quiet_builtin _ (by decide +kernel), codeAny_builtin entry_list_iadd' ?_⟩))
  show wpAny _ _ (Builtin.List.listExtendWith (.ref s.heap.objs.size) (.ref l) (.ref s.heap.objs.size)) _ _ { s with heap := s.heap.push (seqObj "list" #[] 0) }
  unfold Builtin.List.listExtendWith
  have ho' : (s.heap.push (seqObj "list" #[] 0)).get? l = some o := Heap.get?_push_of_some _ ho
  refine wpAny_bind (wpAny_typeOf (T := "tuple") ⟨o, ho', hc⟩ ?_)
  rw [if_pos (by simp)]
  refine wpAny_bind (listItems_at ho' hd ?_)
  refine wpAny_bind (listItems_at (xs := #[]) (n := 0) (Heap.get?_push_size _ rfl) rfl ?_)
  rw [if_neg (by simp)]
  refine wpAny_bind (listUpdate_at (xs := #[]) (n := 0) (Heap.get?_push_size _ rfl) rfl ?_ (Nat.zero_le _) (by show (#[] ++ vs.toArray).size ≤ sizeLine + 1; simp only [Array.size_append, List.size_toArray, List.length_nil]; omega))
  refine wpAny_pure ?_
  show wpAny (model prog w) A (do
      let o ← load s.heap.objs.size
      match o.data with
      | .seq xs _ => pure xs.toList
      | _ => unsupported "internal:collect") Q E { s with heap := (s.heap.push (seqObj "list" #[] 0)).update s.heap.objs.size (Obj.mapSeq (· ++ vs.toArray)) }
  refine wpAny_bind (wpAny_load (get?_update_seq (Heap.get?_push_size _ rfl) _) ?_)
  show wpAny _ _ (pure ((#[] : Array Value) ++ vs.toArray).toList) Q E _
  rw [show ((#[] : Array Value) ++ vs.toArray).toList = vs by simp]
  exact wpAny_pure h
theorem sorted_of_sortT {l : Addr} {vs : List Value} {kw : List (Str × Value)} {Q : Value → Shared → Prop} (hl : ∃ o, s.heap.get? l = some o ∧ o.cls = .type "tuple" ∧ ∃ n, o.data = .seq vs.toArray n) (hL : vs.length ≤ sizeLine) (ha1 : argsOk "sorted" ⟨[.ref l], kw⟩) (ha2 : ∀ x, argsOk "list.sort" ⟨[.ref x], kw⟩)
    (body : ∀ E' : Value → Shared → Prop, wpAny (model prog w) A.in1.in1 (Builtin.«list.sort» ⟨[.ref (s.heap.objs.size + 1)], kw⟩) (fun f s' => f = .done (.ret .none) ∧ Q (.ref (s.heap.objs.size + 1)) s') E' { s with heap := copyHeap s.heap vs }) :
    wpAny (model prog w) A (call (.builtin "sorted") [.ref l] kw) Q E s := by
  refine call_function_entry_kw kind_sorted plain_sorted entry_sorted ha1 ?_
  unfold Builtin.«sorted»
  refine wpAny_bind (m := checkCount "sorted" 1 1 _) (wpAny_pure ?_)
  refine wpAny_bind (collect_tupE hl ?_ hL)
  refine wpAny_bind (wpAny_newList ?_ hL)
  have hsz : ((s.heap.push (seqObj "list" #[] 0)).update s.heap.objs.size (Obj.mapSeq (· ++ vs.toArray))).objs.size = s.heap.objs.size + 1 := by
    rw [Heap.size_update, size_push']
  show wpAny _ _ _ _ _ { s with heap := copyHeap s.heap vs }
  rw [hsz]
  refine wpAny_bind (wpAny_holding (wpAny_call_entry_kw slot_list_sort ⟨_, copyHeap_at s.heap vs, rfl⟩ entry_list_sort ?body (ha2 _)))
  case body =>
    show wpAny (model prog w) A.in1.in1 (Builtin.«list.sort» ⟨[.ref (s.heap.objs.size + 1)], kw⟩) _ _ _
    refine wpAny_mono (body _) (fun f s' hf => ?_) fun _ _ e => e
    obtain ⟨rfl, hq⟩ := hf
    exact ⟨_, rfl, wpAny_pure ⟨_, rfl, hq⟩⟩
variable {β : Type} {vs : List Value} {bs : List β} {enc : β → PyData} {R : Value → β → Prop}
theorem sorted_dataT {l : Addr} {Q : Value → Shared → Prop} (hl : ∃ o, s.heap.get? l = some o ∧ o.cls = .type "tuple" ∧ ∃ n, o.data = .seq vs.toArray n) (e : EachIs R vs bs) (er : EachIs (fun v b => ∃ as, Reads s.heap v (enc b) as) vs bs) (hal : AllAlike (bs.map enc)) (hk : Sortable (bs.map enc)) (hL : bs.length ≤ sizeLine)
    (hu : ∀ b, b ∈ bs → A.units + 2 + (enc b).depth < cLine) (h : ∀ out, out.length = bs.length → EachIs R out (bs.mergeSort (dataLe false enc)) → Q (.ref (s.heap.objs.size + 1)) { s with heap := sortedAll s.heap vs (List.toArray out) }) :
    wpAny (model prog w) A (call (.builtin "sorted") [.ref l]) Q E s := by
  have er' : EachIs (fun v b => ∃ as, Reads (sortingHeap (copyHeap s.heap vs) (s.heap.objs.size + 1) vs) v (enc b) as) vs bs := er.mono fun _ _ ⟨as, r⟩ => ⟨as, PyProof.Rows.Reads.keeps (fun _ _ => sorting_copy_old) r⟩
  have hL' : vs.length ≤ sizeLine := by rw [e.length]; exact hL
  exact sorted_of_sortT hl hL' (args_sorted1 _) (fun _ => args_list_sort _) fun _ => list_sort_vals (s := { s with heap := copyHeap s.heap vs }) (copyHeap_at s.heap vs)
    (SortsAt.data (s := { s with heap := sortingHeap (copyHeap s.heap vs) (s.heap.objs.size + 1) vs }) (each_map (R := fun v d => ∃ as, Reads (sortingHeap (copyHeap s.heap vs) (s.heap.objs.size + 1) vs) v d as) enc er') hal hk (bound_map hu)) hL'
    ⟨rfl, h _ (by rw [sortVals_length false rfl]; exact e.length) (sortVals_data false e er' hal)⟩
end
end PySem.W
namespace Ev
open PySem PySem.Spec PyProof.Rows L2
def rSortedT (K : PySem.W.Frag) : List V → Hp → VK → Prop := fun vs H Q => ∃ (a : Addr) (L : List (V × PyData)), vs = [V.ref a] ∧ SqT K H a (L.map (·.1)) ∧ (∀ x ∈ L, Dp K H x.1 x.2) ∧ sortOk (L.map (·.2)) = true ∧
  ∀ p, H p = none → Q (.ref p) (upd H p (.lst ((L.mergeSort (PySem.W.dataLe false (·.2))).map (·.1))))
section
variable {X : Cx}
theorem cr_sortedT (hu : X.A.units + 62 < cLine) : CallR X (.builtin "sorted") (rSortedT X.K) := by
  intro pins s σ H vs us Q I r h
  obtain ⟨a, L, rfl, hs, hd, ok, q⟩ := h
  obtain ⟨its, rv, hl, hz⟩ := I.tuple hs
  rw [Vals.ref1 r]
  obtain ⟨h1, h2, h3⟩ := sortOk_al ok
  rw [List.length_map] at hz
  refine PySem.W.sorted_dataT (bs := L) (enc := (·.2)) (R := fun u x => RelV x.1 u) hl (vals_each rv fun x _ u h => h) (vals_each rv fun x hx u h => Dp.reads I _ _ _ (hd x hx) h) h1 h2 hz (fun b hb => ?_) fun out ho eo => ?_
  · have := h3 b.2 (List.mem_map.mpr ⟨b, hb, rfl⟩)
    omega
  · obtain ⟨ep, he'⟩ := PyProof.Rows.sortedAll_at s.heap its out.toArray
    have hlen : ((L.mergeSort (PySem.W.dataLe false (·.2))).map (·.1)).length ≤ sizeLine := by
      rw [List.length_map, List.length_mergeSort]
      exact hz
    exact ⟨.ref _, upd H (s.heap.objs.size + 1) (.lst ((L.mergeSort (PySem.W.dataLe false (·.2))).map (·.1))), I.laid (t' := s.toks) (fun _ _ => PyProof.Rows.sortedAll_old) (Nat.le_succ _) ⟨hlen, out, ep, each_vals eo, he'⟩, rfl, q _ (I.hok.fresh (Nat.le_succ _))⟩
def dSortedA : List D → Option D
  | [.tup xs] => dSorted [.lst xs]
  | ds => dSorted ds
@[simp] theorem d_sortedA_tup (xs : List D) : dSortedA [.tup xs] = dSorted [.lst xs] := rfl
@[simp] theorem d_sortedA_lst (xs : List D) : dSortedA [.lst xs] = dSorted [.lst xs] := rfl
theorem sortedA_l {ds : List D} {d : D} (e : dSortedA ds = some d) : ∃ es, d = .lst es := by
  unfold dSortedA at e
  split at e <;> exact sorted_l e
theorem opF_sortedA : OpF X dSortedA (fun xs H Q => rSortedD X.K xs H Q ∨ rSortedT X.K xs H Q) := by
  intro g H S xs ds d Q G r e
  unfold dSortedA at e
  split at e
  · rename_i ys
    obtain ⟨ws, e2, r2⟩ : ∃ x, xs = [x] ∧ RepR X.K X.mg g H x (.tup ys) := rr1 r
    subst e2
    obtain ⟨p, vs, rfl, hp, rs⟩ := r2.tup G
    cases q : pyAll ys with
    | none =>
      have e' : (pyAll ys).bind (fun ps => if sortOk ps then some (D.lst (sortD ys ps)) else none) = some d := e
      rw [q] at e'; cases e'
    | some ps =>
      have e'' : (pyAll ys).bind (fun ps => if sortOk ps then some (D.lst (sortD ys ps)) else none) = some d := e
      rw [q] at e''
      have e' : (if sortOk ps then some (D.lst (sortD ys ps)) else none) = some d := e''
      split at e'
      · rename_i ok
        cases e'
        refine ⟨_, rfl, fun k => .inr ?_⟩
        obtain ⟨ze, hl⟩ := zip_each G.sub rs q
        obtain ⟨_, hdp, _⟩ := each_reps ze
        have hsnd : (vs.zip ps).map (·.2) = ps := List.map_snd_zip (Nat.le_of_eq hl.symm)
        refine ⟨p, vs.zip ps, rfl, ?_, hdp, by rw [hsnd]; exact ok, fun l hl' => ?_⟩
        · have : (vs.zip ps).map (·.1) = vs := List.map_fst_zip (Nat.le_of_eq hl)
          rw [this]
          exact SqT.of hp
        · have ze2 := PySem.W.sort_each (r := PySem.W.dataLe false (·.2)) (s := PySem.W.dataLe false (·.2)) ze fun a ha b hb => by
            have h1 := (each_in ze a ha).2.1
            have h2 := (each_in ze b hb).2.1
            show PySem.W.dataLe false (fun x : V × PyData => x.2) a.1 b.1 = PySem.W.dataLe false (fun x : D × PyData => x.2) a.2 b.2
            unfold PySem.W.dataLe
            unfold PySem.W.sortLe
            simp only [h1, h2]
          exact k l _ hl' (each_reps ze2).1
      · cases e'
  · obtain ⟨es, ed, k⟩ := opF_sorted (X := X) g H S xs ds d Q G r e
    exact ⟨es, ed, fun kk => .inl (k kk)⟩
theorem f_sortedA {own : List Nat} {a : Expr} {sa : SE} {p pos : Pos} {k : Nat} (hr : Room k X.A) (hm : X.mg "sorted" = none) (ha : SimR X own a sa) (hg : Gl X "sorted" := by rfl) (he : starEach (a :: []) X.env = (false, eval a X.env) :: starEach [] X.env := by rfl) (hpl : (backTo pos (starEach ([] : List Expr) X.env)).any (·.1) = false := by rfl) : SimF X own (.Call (.Name "sorted" p) [a] [] pos) (sCallN dSortedA [(false, sa)]) :=
  simf_callB ((cr_sortedD (by have := hr.un; omega)).or (cr_sortedT (by have := hr.un; omega))) opF_sortedA hg hm (by decide +kernel) (simr_cons ha simr_nil he) (by decide) (by decide) he hpl
end
instance {sas : List (Bool × SE)} : IsL (sCallN dSortedA sas) := ⟨fun _ _ _ _ e => callL (fun _ _ h => sortedA_l h) e⟩
/-! ### == and != of own objects by their own methods -/
def eqFacts (K : PySem.W.Frag) (cs : List Str) : Bool := cs.all fun c => (cs.all fun d => PySem.W.notFirst K (He.ga K c) (.ref (He.ga K d))) && tyNames.all fun t => PySem.W.notFirst K (He.ga K c) (.type t)
/-- a value whose class is known -/
def okC (cs : List Str) : D → Bool
  | .obj c _ => decide (c ∈ cs)
  | d => (tyD d).isSome
def isObj (c : Str) : D → Bool
  | .obj c' _ => decide (c' = c)
  | _ => false
def sOwn (cs : List Str) (c : Str) (m : List D → M D) (sa sb : SE) : SE := fun ρ S => (sa ρ S).then fun x S1 => (sb ρ S1).then fun y S2 => if isObj c x && okC cs y then m [x, y] S2 else .bad
@[simp] theorem e_own (cs : List Str) (c : Str) (m : List D → M D) (sa sb : SE) (ρ : DEnv) (S : Sto) : sOwn cs c m sa sb ρ S = (sa ρ S).then fun x S1 => (sb ρ S1).then fun y S2 => if isObj c x && okC cs y then m [x, y] S2 else .bad := rfl
structure GM (P : Program) (w : World) (K : PySem.W.Frag) (mg : Str → Option Value) (base : Heap) (k : Nat) (c nm : Str) (m : List D → M D) : Prop where
  ex : ∃ fd ps, Meth K (He.ga K c) nm (He.ma K (He.ga K c) nm) ∧ Binds K fd ps [] ∧ FnOk P w K mg base CX0 k (He.ma K (He.ga K c) nm) fd ps (spOf K mg 2 m)
theorem gm_of {P : Program} {w : World} {K : PySem.W.Frag} {mg : Str → Option Value} {base : Heap} {x qual : Str} {st : Stmt} {fd : FuncData} {N ps : List Str} {k : Nat} {b : SS} {c nm : Str} (F : FunD K x qual (defArgs st) (defBody st) (defScope st) [] [] (He.ma K (He.ga K c) nm) fd) (hm : Meth K (He.ga K c) nm (He.ma K (He.ga K c) nm)) (Sc : FnScope N ps (defScope st)) (hn : ps.length = 2) (hN : 2 ≤ N.length)
    (hb : ∀ (kV doc pm : Value) (an : Option Addr) (cdv ct : Value) (us : List Value), us.length = ps.length → bindArgs (PySem.W.fnOf x qual (defArgs st) (defBody st) (defScope st) .none kV doc pm an cdv ct) ⟨us, []⟩ = pure (ps.zip us))
    (body : ∀ (cdv : Value) (A : Around) (outer : List Env) (s : Shared) (H : Hp) (E : XK), Room k (A.deeper (envOfC qual (defScope st) s.heap.objs.size (He.ma K (He.ga K c) nm) cdv)) → SimB (Ctx P w K mg base N qual (defScope st) (He.ma K (He.ga K c) nm) cdv A outer s H E) [] [] [] (defBody st) b) :
    GM P w K mg base (k + 1) c nm (runD N.length b) :=
  ⟨fd, ps, hm, F.bindsN hb, fo_of F Sc hn hN body⟩
section
variable {X : Cx}
theorem cmpback0 {v : V} {w : Value} {Q : Value → Shared → Prop} {s : Shared} (r : RelV v w) (q : Q w s) : PySem.W.CmpBack Q w s := by
  unfold PySem.W.CmpBack
  split
  · cases v <;> first | (cases r; done) | (obtain ⟨_, e⟩ := r; cases e)
  · exact q
/-- what the comparison asks -/
def rOwn (K : PySem.W.Frag) (mg : Str → Option Value) (C : Addr) (m : List D → M D) : R2 := fun x y H Q => ∃ a dx fs t, x = .ref a ∧ H a = some (.ins C dx fs) ∧ TyX K H y t ∧ PySem.W.notFirst K C t = true ∧ spOf K mg 2 m [x, y] H Q fun _ _ _ => False
theorem op_own {op : CmpOp} {c nm : Str} {m : List D → M D} {k : Nat} (hop : (cmpInfo op).2.1 = nm) (G : GM X.prog X.w X.K X.mg X.base k c nm m) (hr : Room k X.A) (hc : compareOp op = richCompare op := by rfl) : OpR X (compareOp op) (rOwn X.K X.mg (He.ga X.K c) m) := by
  intro pins s σ H x y v u Q I rx ry ⟨a, dx, fs, t, ex, ha, ty, nf, hq⟩
  subst ex
  cases rx
  obtain ⟨fd, ps, M, hb, F⟩ := G.ex
  obtain ⟨mA, J, _⟩ := ins_get I.hok ha
  obtain ⟨od, J, _⟩ := J.look
  obtain ⟨P, kx, px, _⟩ := kit_of I ry ty
  obtain ⟨mm, hF⟩ := I.fr
  rw [hc]
  refine PySem.W.cmp_K (op := op) (tb := t) hr.units0 hF I.ok.mod.kin J (kx.ty _ _ I.kIn px) nf (by rw [hop]; exact M.at_) M.fn ?_
  refine wpAny_mono (run_fn (us := [.ref a, u]) (vs := [.ref a, y]) (dvs := []) F hr hb .nil pass0 I (.cons rfl (.cons ry .nil)) hq) (fun w s' z => ?_) fun _ _ x => x
  obtain ⟨z', H', I', rz, qz⟩ := z
  exact cmpback0 rz ⟨z', H', I', rz, qz⟩
theorem sim_own {own : List Nat} {a b : Expr} {sa sb : SE} {pos : Pos} {cs : List Str} {op : CmpOp} {c nm : Str} {m : List D → M D} {k : Nat} (C : ClsOk X.K X.mg cs) (ef : eqFacts X.K cs = true) (hcs : c ∈ cs) (hop : (cmpInfo op).2.1 = nm) (G : GM X.prog X.w X.K X.mg X.base k c nm m) (hr : Room k X.A) (ha : SimE X own a sa) (hb : SimE X own b sb)
    (hm : behindInMarks op b = false) (hc : compareOp op = richCompare op := by rfl) : SimE X own (.Compare a [op] [b] pos) (sOwn cs c m sa sb) :=
  pe_weak (pe_cmpR (op_own hop G hr hc) ha hb hm) fun σ H Q ⟨g0, H0, ρ, g, S, E, q⟩ => by
    obtain ⟨d, S', e1, kk⟩ := Res.post_ex q
    obtain ⟨x, S1, e2, e1⟩ := Res.then_ex e1
    obtain ⟨y, S2, e3, e1⟩ := Res.then_ex e1
    refine ⟨g0, H0, ρ, g, S, E, ?_⟩
    rw [e2]
    intro v g1 H1 G1 s1 r1
    refine ⟨g0, H0, ρ, g1, S1, E.step G1 s1, ?_⟩
    rw [e3]
    intro v2 g2 H2 G2 s2 r2
    have e1' : (if (isObj c x && okC cs y) = true then m [x, y] S2 else .bad) = .ok d S' := e1
    split at e1'
    · rename_i ok
      rw [Bool.and_eq_true] at ok
      cases x with
      | obj c' fs =>
        have hcc : c' = c := of_decide_eq_true ok.1
        subst hcc
        have f := List.all_eq_true.mp ef c' hcs
        rw [Bool.and_eq_true] at f
        cases r1 with
        | @obj A C' dx fvs _ _ hmc h1 h2 rf =>
          have hCe : C' = He.ga X.K c' := by
            have := (C.glo c' hcs).symm.trans hmc
            cases this
            rfl
          subst hCe
          have sp : spOf X.K X.mg 2 m [.ref A, v2] H2 Q fun _ _ _ => False := ⟨g2, [.obj c' fs, y], S2, G2, .cons (.obj hmc (s2.le.F _ _ h1) (s2.le.F _ _ h2) (rf.mono s2.le)) (.cons r2 .nil), rfl, by
            rw [e1']
            exact fun v3 g3 H3 G3 s3 r3 => kk v3 g3 H3 G3 ((s1.trans s2).trans s3) r3⟩
          have hA : H2 A = some (.ins (He.ga X.K c') dx fvs) := G2.sub _ _ (s2.le.F _ _ h1)
          have base : ∀ t, tyD y = some t → rOwn X.K X.mg (He.ga X.K c') m (.ref A) v2 H2 Q := fun t ht =>
            ⟨A, dx, fvs, .type t, rfl, hA, tyx_of G2 (.inl r2) ht, List.all_eq_true.mp f.2 t (ty_mem ht), sp⟩
          cases y with
          | obj d gs =>
            have hd : d ∈ cs := of_decide_eq_true ok.2
            cases r2 with
            | @obj B D' dy gvs _ _ hmd k1 k2 rg =>
              have hDe : D' = He.ga X.K d := by
                have := (C.glo d hd).symm.trans hmd
                cases this
                rfl
              subst hDe
              have cf := C.facts
              unfold clsFacts at cf
              rw [Bool.and_eq_true, Bool.and_eq_true, decide_eq_true_eq, decide_eq_true_eq] at cf
              have fo := List.all_eq_true.mp cf.2 d hd
              rw [Bool.and_eq_true, Bool.and_eq_true, Bool.and_eq_true, decide_eq_true_eq, decide_eq_true_eq] at fo
              exact ⟨A, dx, fvs, .ref (He.ga X.K d), rfl, hA, .base (.ins (G2.sub _ _ k1) (C.cls d hd) fo.1.1 cf.1.1 cf.1.2 fo.1.2), List.all_eq_true.mp f.1 d hd, sp⟩
          | mref i => cases ok.2
          | scr ns => cases ok.2
          | non => exact base _ rfl
          | bl _ => exact base _ rfl
          | int _ => exact base _ rfl
          | str _ => exact base _ rfl
          | tup _ => exact base _ rfl
          | lst _ => exact base _ rfl
      | _ => cases ok.1
    · cases e1'
end
end Ev
namespace Ev
open PySem PySem.Spec PyProof.Rows L2
/-! ### sum of a tuple of ints -/
def rSumT (K : PySem.W.Frag) : List V → Hp → VK → Prop := fun vs H Q => ∃ (a : Addr) (ns : List Int), vs = [V.ref a] ∧ SqT K H a (ns.map V.int) ∧ Q (.int ns.sum) H
section
variable {X : Cx}
theorem cr_sumT (hc : X.calm = true) : CallR X (.builtin "sum") (rSumT X.K) := by
  intro pins s σ H vs us Q I r h
  obtain ⟨a, ns, rfl, hs, q⟩ := h
  obtain ⟨its, rv, hl, _⟩ := I.tuple hs
  rw [Vals.ref1 r]
  have hi := rv.ints
  obtain ⟨xs, e⟩ := hi.allInts.items
  have hn : numsOf (intItems xs).toList = ns := by rw [← e]; exact hi.numsOf
  rw [nums_intItems] at hn
  rw [e] at hl
  refine PySem.W.ktm_sumG (I.ok.hd hc) hl fun h' tk t' hk => ?_
  refine ⟨.int _, H, I.kept hk, ?_, q⟩
  rw [preSum_eq, List.take_of_length_le (by simp), hn]
  exact ⟨_, rfl⟩
def dSumA : List D → Option D
  | [.tup xs] => dSum [.lst xs]
  | ds => dSum ds
@[simp] theorem d_sumA_tup (xs : List D) : dSumA [.tup xs] = dSum [.lst xs] := rfl
@[simp] theorem d_sumA_lst (xs : List D) : dSumA [.lst xs] = dSum [.lst xs] := rfl
theorem opN_sumA : OpN X dSumA (fun xs H Q => rSum X.K xs H Q ∨ rSumT X.K xs H Q) := by
  intro g H S xs ds d Q G r e k
  unfold dSumA at e
  split at e
  · rename_i ys
    obtain ⟨x, rfl, r2⟩ := rr1 r
    obtain ⟨p, vs, rfl, hp, rs⟩ := r2.tup G
    have e' : (intsD ys).map (fun ns => D.int ns.sum) = some d := e
    cases q : intsD ys with
    | none => rw [q] at e'; cases e'
    | some ns =>
      rw [q] at e'
      cases e'
      have hv := ints_of rs q
      subst hv
      exact .inr ⟨p, ns, rfl, SqT.of hp, k _ _ _ G .refl (.int _)⟩
  · exact .inl (opN_sum (X := X) g H S xs ds d Q G r e k)
theorem v_sumA {own : List Nat} {a : Expr} {sa : SE} {p pos : Pos} (hm : X.mg "sum" = none) (ha : SimR X own a sa) (hc : X.calm = true := by rfl) (hg : Gl X "sum" := by rfl) (he : starEach (a :: []) X.env = (false, eval a X.env) :: starEach [] X.env := by rfl) (hpl : (backTo pos (starEach ([] : List Expr) X.env)).any (·.1) = false := by rfl) : SimE X own (.Call (.Name "sum" p) [a] [] pos) (sCallN dSumA [(false, sa)]) :=
  sim_callB ((cr_sum hc).or (cr_sumT hc)) opN_sumA hg hm (by decide +kernel) (simr_cons ha simr_nil he) (by decide) (by decide) he hpl
end
end Ev
namespace Ev
open PySem PySem.Spec PyProof.Rows L2
/-! ### x in a tuple of data -/
def rInT (K : PySem.W.Frag) : R2 := fun x y H Q => ∃ d ds, Dp K H x d ∧ Dp K H y (.tuple ds) ∧ SeqAt.shaped d = true ∧ SeqAt.shaped (.tuple ds) = true ∧ Q (.bl (ds.any fun z => PyData.eqv z d)) H
def rNotInT (K : PySem.W.Frag) : R2 := fun x y H Q => ∃ d ds, Dp K H x d ∧ Dp K H y (.tuple ds) ∧ SeqAt.shaped d = true ∧ SeqAt.shaped (.tuple ds) = true ∧ Q (.bl (!ds.any fun z => PyData.eqv z d)) H
section
variable {X : Cx}
theorem op_inT (hu : X.A.units + 65 < cLine) : OpR X (compareOp .In) (rInT X.K) := by
  intro pins s σ H x y v u Q I rx ry h
  obtain ⟨d, ds, hd, he, sd, se, q⟩ := h
  obtain ⟨as, r1⟩ := Dp.reads I d x v hd rx
  obtain ⟨bs, r2⟩ := Dp.reads I (.tuple ds) y u he ry
  exact SeqAt.in_tuple_reads r2 r1 (SeqAt.canLay_of_shaped se) (SeqAt.canLay_of_shaped sd) (room_in_shaped sd hu) ⟨.bl _, H, I, rfl, q⟩
theorem op_notInT (hu : X.A.units + 65 < cLine) : OpR X (compareOp .NotIn) (rNotInT X.K) := by
  intro pins s σ H x y v u Q I rx ry h
  obtain ⟨d, ds, hd, he, sd, se, q⟩ := h
  obtain ⟨as, r1⟩ := Dp.reads I d x v hd rx
  obtain ⟨bs, r2⟩ := Dp.reads I (.tuple ds) y u he ry
  exact SeqAt.notIn_tuple_reads r2 r1 (SeqAt.canLay_of_shaped se) (SeqAt.canLay_of_shaped sd) (room_in_shaped sd hu) ⟨.bl _, H, I, rfl, q⟩
/-- x in y: a text, a list or a tuple -/
def dInA (neg : Bool) (a b : D) : Option D := match b with
  | .tup ys => dIn neg a (.lst ys)
  | b => dIn neg a b
@[simp] theorem d_inA_lst (n : Bool) (a : D) (ys : List D) : dInA n a (.lst ys) = dIn n a (.lst ys) := rfl
@[simp] theorem d_inA_tup (n : Bool) (a : D) (ys : List D) : dInA n a (.tup ys) = dIn n a (.lst ys) := rfl
@[simp] theorem d_inA_str (n : Bool) (a : D) (y : Str) : dInA n a (.str y) = dIn n a (.str y) := rfl
theorem sh_tl (zs : List PyData) : SeqAt.shaped (.tuple zs) = SeqAt.shaped (.list zs) := by
  unfold SeqAt.shaped
  rw [PyData.canLay0, PyData.canLay0, PyData.depth, PyData.depth]
theorem op2_inA (r : R2) (h : Op2 X (dIn false) r) : Op2 X (dInA false) (fun x y H Q => r x y H Q ∨ rInT X.K x y H Q) := by
  intro g H S x y a b d Q G ra rb e k
  unfold dInA at e
  split at e
  · rename_i ys
    rw [dIn_lst (fun _ _ _ => fun z => nomatch z)] at e
    split at e
    · rename_i u zs q1 q2
      split at e
      · rename_i hz
        cases e
        obtain ⟨h1, h2⟩ := Bool.and_eq_true_iff.mp hz
        refine .inr ⟨u, zs, dp_read G ra q1, dp_read G rb ?_, h1, by rw [sh_tl]; exact h2, k _ g H G .refl (.bl _)⟩
        show (pyAll ys).map PyData.tuple = _
        rw [q2] <;> rfl
      · cases e
    · cases e
  · exact .inl (h g H S x y a b d Q G ra rb e k)
theorem op2_notInA (r : R2) (h : Op2 X (dIn true) r) : Op2 X (dInA true) (fun x y H Q => r x y H Q ∨ rNotInT X.K x y H Q) := by
  intro g H S x y a b d Q G ra rb e k
  unfold dInA at e
  split at e
  · rename_i ys
    rw [dIn_lst (fun _ _ _ => fun z => nomatch z)] at e
    split at e
    · rename_i u zs q1 q2
      split at e
      · rename_i hz
        cases e
        obtain ⟨h1, h2⟩ := Bool.and_eq_true_iff.mp hz
        refine .inr ⟨u, zs, dp_read G ra q1, dp_read G rb ?_, h1, by rw [sh_tl]; exact h2, k _ g H G .refl (.bl _)⟩
        show (pyAll ys).map PyData.tuple = _
        rw [q2] <;> rfl
      · cases e
    · cases e
  · exact .inl (h g H S x y a b d Q G ra rb e k)
theorem opr_inA {k : Nat} (hr : Room k X.A) : OpR X (compareOp .In) (fun x y H Q => ((∃ i j, x = .str i ∧ y = .str j ∧ Q (.bl (!(Builtin.Str.occurrences j i 0 j.length 1).isEmpty)) H) ∨ rInD X.K x y H Q) ∨ rInT X.K x y H Q) := (opr_in hr).or (op_inT (by have := hr.un; omega))
theorem opr_notInA {k : Nat} (hr : Room k X.A) : OpR X (compareOp .NotIn) (fun x y H Q => ((∃ i j, x = .str i ∧ y = .str j ∧ Q (.bl (!(!(Builtin.Str.occurrences j i 0 j.length 1).isEmpty))) H) ∨ rNotInD X.K x y H Q) ∨ rNotInT X.K x y H Q) := (opr_notIn hr).or (op_notInT (by have := hr.un; omega))
end
end Ev
namespace L2
open PySem PySem.Spec PyProof.Rows
section
variable {X : Cx}
/-- {k: v}, the key a tuple of ints and texts -/
def tDisp1T (tk tv : TE) : TE := fun σ H Q => ∀ p, H p = none → tk σ (upd H p (.dT [])) fun x H1 => tv σ H1 fun y H2 => H2 p = some (.dT []) ∧ ∃ (ks : List Key) (b : Addr), x = .ref b ∧ H2 b = some (.tup (ks.map kV)) ∧ Q (.ref p) (upd H2 p (.dT [(ks, y)]))
theorem pe_disp1T (hu : X.A.units + 1 < cLine) {k v : Expr} {pos : Pos} {tk tv : TE} (hk : PE X k tk) (hv : PE X v tv) : PE X (.Dict [some k] [v] pos) (tDisp1T tk tv) := by
  have h := pps_cons (pos := pos) hk hv pps_nil
  refine ⟨fun pins s σ H Q I q => ?_⟩
  have hn := I.hok.fresh (Nat.le_refl s.heap.objs.size)
  have I1 := I.laid (a := s.heap.objs.size) (o := .dT []) (h' := s.heap.push { cls := .type "dict", data := .dict #[] }) (t' := s.toks) (fun _ _ q => Heap.get?_push_of_some _ q) (Nat.le_refl _) (dt_empty s.heap I.big)
  have hp := zip_pairTrees [some k] [v] X.env pos rfl rfl
  have hl := pairTrees_length [some k] [v] X.env pos rfl rfl
  rw [arm_eval_Dict, hp, dictDisplay_pairs (pairTrees [some k] [v] X.env pos) (fun e => by rw [e] at hl; cases hl) (by rw [hl]; exact (by decide : 1 < 17))]
  refine wpAny_bind (wpAny_standAt (wpAny_bind (wpAny_subDictH (knd := tupleKind (mixKind X.prog X.w)) (Q := fun d s' => wpAny (model X.prog X.w) X.A (pure (Value.ref d)) (fun v s' => ∃ x H', Inv X pins σ H' s' ∧ RelV x v ∧ Q x H') X.xe s') (by show X.A.units < cLine; omega) (by rw [hl]; exact (by decide : 1 ≤ 15)) (thn (h.run pins _ σ _ (fun ps H2 => match ps with
    | [(x, y)] => H2 s.heap.objs.size = some (.dT []) ∧ ∃ (ks : List Key) (b : Addr), x = .ref b ∧ H2 b = some (.tup (ks.map kV)) ∧ Q (.ref s.heap.objs.size) (upd H2 s.heap.objs.size (.dT [(ks, y)]))
    | _ => False) I1 (q _ hn)) fun ws s2 ⟨ps, H2, I2, rel, e⟩ => ?_))))
  match ps, rel, e with
  | [(x, y)], rel, e =>
    obtain ⟨e, ks, b, ex, eb, q2⟩ := e
    subst ex
    cases rel with
    | @cons a0 w1 as0 wr r1 r2 =>
      cases r2
      obtain ⟨w1, w2⟩ := w1
      obtain ⟨ra, rb⟩ := r1
      obtain rfl : w1 = Value.ref b := ra
      obtain ⟨z, hd, xs0, r0, dd⟩ := dt_of I2.hok e
      cases r0
      refine ⟨[(ks, b, w2)], ⟨rfl, rfl, key_of I2.hok eb, trivial⟩, dd, fun h' tk dd' hs => wpAny_pure ⟨.ref s.heap.objs.size, _, ?_, rfl, q2⟩⟩
      obtain ⟨o, es, ep, hq, h2, h3, h4, _, h5⟩ := dd'
      have ne : b ≠ s.heap.objs.size := ne_of eb e (fun z => nomatch z)
      refine d_write I2 (by rw [e]; exact True.intro) hs ⟨o, hq⟩ ⟨by show 1 ≤ sizeLine; rw [sizeLine_eq]; decide, hd, [(ks, b, w2)], .cons ⟨rfl, ?_, rb⟩ .nil, o, es, ep, hq, h2, h3, h4, h5⟩
      rw [upd_ne ne]
      exact eb
end
end L2
namespace Ev
open PySem PySem.Spec PyProof.Rows L2
/-! ### dicts whose keys are tuples: made -/
def sDictT0 : SE := fun _ S => .ok (.mref S.length) (S ++ [.t false []])
@[simp] theorem e_dictT0 (ρ : DEnv) (S : Sto) : sDictT0 ρ S = .ok (.mref S.length) (S ++ [.t false []]) := rfl
def newT (k d : D) (S : Sto) : Res D := match keysD k with
  | some ks => .ok (.mref S.length) (S ++ [.t false [(ks, d)]])
  | none => .bad
def sDictT1 (sk sv : SE) : SE := fun ρ S => (sk ρ S).then fun k S1 => (sv ρ S1).then fun d S2 => newT k d S2
@[simp] theorem e_dictT1 (sk sv : SE) (ρ : DEnv) (S : Sto) : sDictT1 sk sv ρ S = (sk ρ S).then fun k S1 => (sv ρ S1).then fun d S2 => newT k d S2 := rfl
section
variable {X : Cx} {own : List Nat} {k v o i e f : Expr} {sk sv so si se sf : SE} {pos pos' apos : Pos} {n : Nat}
theorem sim_dictT0 : SimE X own (.Dict [] [] pos) sDictT0 := pe_weak pe_dnewT fun σ H Q ⟨g0, H0, ρ, g, S, E, q⟩ => by
  intro p hp
  have hA := E.gok.notin hp
  have G2 := (E.gok.fresh (o := .dT []) hp).newM (m := .t false []) upd_same (E.gok.nfree hp) hA (.t .nil : MOk X.K X.mg g p (.dT []) (.t false []))
  rw [upd_upd] at G2
  refine q _ _ _ G2 (stp_newM (S := S) (o := .dT []) hp (Stp.refl) hA) (.mref ?_)
  show (g.as ++ [p])[S.length]? = some p
  rw [List.getElem?_append_right (by rw [E.gok.len]; exact Nat.le_refl _), E.gok.len]
  simp
theorem sim_dictT1 (hr : Room n X.A) (hk : SimE X own k sk) (hv : SimE X own v sv) : SimE X own (.Dict [some k] [v] pos) (sDictT1 sk sv) := pe_weak (pe_disp1T (hu_of hr) hk hv) fun σ H Q ⟨g0, H0, ρ, g, S, E, q⟩ => by
  obtain ⟨d, S', e1, kk⟩ := Res.post_ex q
  obtain ⟨kd, S1, e2, e1⟩ := Res.then_ex e1
  obtain ⟨vd, S2, e3, e1⟩ := Res.then_ex e1
  intro p hp
  have E1 := E.step (E.gok.fresh (o := .dT []) hp) (stp_fresh hp)
  refine ⟨g0, H0, ρ, g, S, E1, ?_⟩
  rw [e2]
  intro v1 g1 H1 G1 s1 r1
  refine ⟨g0, H0, ρ, g1, S1, E1.step G1 s1, ?_⟩
  rw [e3]
  intro v2 g2 H2 G2 s2 r2
  have s' := s1.trans s2
  have hpa : p ∉ g.as := E.gok.notin hp
  have hp' : H2 p = some (.dT []) := s'.keep _ _ upd_same hpa
  obtain ⟨hF, hA⟩ := s'.stay upd_same (E.gok.nfree hp) hpa fun _ z => nomatch z
  refine ⟨hp', ?_⟩
  unfold newT at e1
  cases qk : keysD kd with
  | none => rw [qk] at e1; cases e1
  | some ks =>
    rw [qk] at e1
    cases e1
    obtain ⟨b, rfl, hb⟩ := rep_keys (r1.mono s2.le) qk
    refine ⟨ks, b, rfl, G2.sub _ _ hb, ?_⟩
    have G3 := G2.newM (o := .dT [(ks, v2)]) (m := .t false [(ks, vd)]) hp' hF hA (.t (.cons r2 .nil))
    refine kk _ _ _ G3 (stp_newM (S := S) (o := .dT []) hp ((stp_fresh (g := g) (o := .dT []) hp).trans s') hpa) (.mref ?_)
    show (g2.as ++ [p])[S2.length]? = some p
    rw [List.getElem?_append_right (by rw [G2.len]; exact Nat.le_refl _), G2.len]
    simp
/-! ### o[i]: a dict, or a list, a tuple, a text -/
def ixS (S : Sto) (o k : D) : Option D := match o with
  | .mref i => getO S (.mref i) k
  | o => dIx o k
def sIxA (so sk : SE) : SE := fun ρ S => (so ρ S).then fun o S1 => (sk ρ S1).then fun k S2 => optR (ixS S2 o k) S2
@[simp] theorem e_ixA (so sk : SE) (ρ : DEnv) (S : Sto) : sIxA so sk ρ S = (so ρ S).then fun o S1 => (sk ρ S1).then fun k S2 => optR (ixS S2 o k) S2 := rfl
@[simp] theorem ixS_tup (S : Sto) (xs : List D) (k : D) : ixS S (.tup xs) k = dIx (.tup xs) k := rfl
@[simp] theorem ixS_lst (S : Sto) (xs : List D) (k : D) : ixS S (.lst xs) k = dIx (.lst xs) k := rfl
@[simp] theorem ixS_str (S : Sto) (x : Str) (k : D) : ixS S (.str x) k = dIx (.str x) k := rfl
theorem pe_or {t t' : TE} (h : PE X e t) (h' : PE X e t') : PE X e (fun σ H Q => t σ H Q ∨ t' σ H Q) := ⟨fun pins s σ H Q I q => q.elim (h.run pins s σ H Q I) (h'.run pins s σ H Q I)⟩
theorem RepR.key {K : PySem.W.Frag} {mg : Str → Option Value} {g : Gh} {H : Hp} {v : V} {m : MO} {d : D} (r : RepR K mg g H v d) (h : okM m d = true) : Rep K mg g v d := r.rep fun ds e => by
  subst e
  cases m <;> cases h
theorem sim_ixA (hr : Room n X.A) (ha : SimR X own o so) (hb : SimR X own i si) (hs : PlainIx i) (hs2 : NoSl i := by exact fun _ _ => rfl) : SimE X own (.Subscript o i pos) (sIxA so si) :=
  pe_weak (pe_or (pe_dget (hu_of hr) ha hb hs2) (pe_ix ix_seq ha hb hs)) fun σ H Q ⟨g0, H0, ρ, g, S, E, q⟩ => by
    obtain ⟨d, S', e1, k⟩ := Res.post_ex q
    obtain ⟨od, S1, e2, e1⟩ := Res.then_ex e1
    obtain ⟨kd, S2, e3, e1⟩ := Res.then_ex e1
    obtain ⟨e4, eS⟩ := optR_ex e1
    subst eS
    by_cases hm : ∃ j, od = .mref j
    · obtain ⟨j, rfl⟩ := hm
      refine .inl ⟨g0, H0, ρ, g, S, E, ?_⟩
      rw [e2]
      intro v g1 H1 G1 s1 r1
      refine ⟨g0, H0, ρ, g1, S1, E.step G1 s1, ?_⟩
      rw [e3]
      intro v2 g2 H2 G2 s2 r2
      have e5 : S2[j]?.bind (fun m => getM m kd) = some d := e4
      cases q5 : S2[j]? with
      | none => rw [q5] at e5; cases e5
      | some m =>
        rw [q5] at e5
        have e6 : getM m kd = some d := e5
        have hok := getM_key e6
        cases (r1.rep (fun _ e => nomatch e)).mono s2.le with
        | mref ha =>
          obtain ⟨o, hg, hv⟩ := dget_of G2 ha q5 (r2.key hok) hok
          rw [e6] at hv
          cases o with
          | none => exact hv.elim
          | some u => exact ⟨_, u, rfl, hg, k u g2 H2 G2 (s1.trans s2) hv⟩
    · have e5 : dIx od kd = some d := by
        cases od with
        | mref j => exact absurd ⟨j, rfl⟩ hm
        | _ => exact e4
      refine .inr (two_of op2_ix ⟨g0, H0, ρ, g, S, E, ?_⟩)
      show ((so ρ S).then fun x S1 => (si ρ S1).then fun y S2 => optR (dIx x y) S2).post _
      rw [e2]
      show ((si ρ S1).then fun y S2 => optR (dIx od y) S2).post _
      rw [e3]
      show (optR (dIx od kd) S2).post _
      rw [e5]
      exact k
/-! ### x in a dict, or in a list, a tuple, a text -/
def inM (neg : Bool) (m : MO) (k : D) : Option D := if okM m k then some (.bl (if neg then !(getM m k).isSome else (getM m k).isSome)) else none
def inS (neg : Bool) (S : Sto) (k o : D) : Option D := match o with
  | .mref j => S[j]?.bind fun m => inM neg m k
  | o => dInA neg k o
def sInA (neg : Bool) (sk so : SE) : SE := fun ρ S => (sk ρ S).then fun k S1 => (so ρ S1).then fun o S2 => optR (inS neg S2 k o) S2
@[simp] theorem e_inA (neg : Bool) (sk so : SE) (ρ : DEnv) (S : Sto) : sInA neg sk so ρ S = (sk ρ S).then fun k S1 => (so ρ S1).then fun o S2 => optR (inS neg S2 k o) S2 := rfl
@[simp] theorem inS_tup (neg : Bool) (S : Sto) (xs : List D) (k : D) : inS neg S k (.tup xs) = dInA neg k (.tup xs) := rfl
@[simp] theorem inS_lst (neg : Bool) (S : Sto) (xs : List D) (k : D) : inS neg S k (.lst xs) = dInA neg k (.lst xs) := rfl
@[simp] theorem inS_str (neg : Bool) (S : Sto) (x : Str) (k : D) : inS neg S k (.str x) = dInA neg k (.str x) := rfl
def rDIn (neg : Bool) : R2 := fun y x H Q => ∃ a o, x = .ref a ∧ DGet H a y o ∧ Q (.bl (if neg then !o.isSome else o.isSome)) H
theorem opr_din (hr : Room n X.A) : OpR X (compareOp .In) (rDIn false) := by
  intro pins s σ H x y v u Q I rx ry h
  obtain ⟨a, o, rfl, g, q⟩ := h
  obtain rfl : u = Value.ref a := ry
  exact d_in (hu_of hr) I g rx fun s' I' => ⟨.bl o.isSome, H, I', rfl, q⟩
theorem opr_dnotin (hr : Room n X.A) : OpR X (compareOp .NotIn) (rDIn true) := by
  intro pins s σ H x y v u Q I rx ry h
  obtain ⟨a, o, rfl, g, q⟩ := h
  obtain rfl : u = Value.ref a := ry
  exact d_notIn (hu_of hr) I g rx fun s' I' => ⟨.bl (!o.isSome), H, I', rfl, q⟩
theorem in_of {neg : Bool} {r : R2} (hf : Op2 X (dInA neg) r) {σ : L2.St} {H : Hp} {Q : VK} (h : tE X own (sInA neg sk so) σ H Q) : tOp (fun x y H Q => r x y H Q ∨ rDIn neg x y H Q) (tR X own sk) (tR X own so) σ H Q := by
  obtain ⟨g0, H0, ρ, g, S, E, q⟩ := h
  obtain ⟨d, S', e1, k⟩ := Res.post_ex q
  obtain ⟨kd, S1, e2, e1⟩ := Res.then_ex e1
  obtain ⟨od, S2, e3, e1⟩ := Res.then_ex e1
  obtain ⟨e4, eS⟩ := optR_ex e1
  subst eS
  refine ⟨g0, H0, ρ, g, S, E, ?_⟩
  rw [e2]
  intro v g1 H1 G1 s1 r1
  refine ⟨g0, H0, ρ, g1, S1, E.step G1 s1, ?_⟩
  rw [e3]
  intro v2 g2 H2 G2 s2 r2
  by_cases hm : ∃ j, od = .mref j
  · obtain ⟨j, rfl⟩ := hm
    right
    have e5 : S2[j]?.bind (fun m => inM neg m kd) = some d := e4
    cases q5 : S2[j]? with
    | none => rw [q5] at e5; cases e5
    | some m =>
      rw [q5] at e5
      have e6 : (if okM m kd then some (D.bl (if neg then !(getM m kd).isSome else (getM m kd).isSome)) else none) = some d := e5
      split at e6
      · rename_i hok
        cases e6
        cases r2.rep (fun _ e => nomatch e) with
        | mref ha =>
          obtain ⟨o, hg, hv⟩ := dget_of G2 ha q5 ((r1.step s2).key hok) hok
          have ho : (getM m kd).isSome = o.isSome := by
            cases q1 : getM m kd <;> cases o <;> rw [q1] at hv <;> first | rfl | exact hv.elim
          refine ⟨_, o, rfl, hg, ?_⟩
          rw [← ho]
          exact k _ g2 H2 G2 (s1.trans s2) (.bl _)
      · cases e6
  · left
    have e5 : dInA neg kd od = some d := by
      cases od with
      | mref j => exact absurd ⟨j, rfl⟩ hm
      | _ => exact e4
    exact hf g2 H2 S2 _ _ _ _ _ Q G2 (r1.step s2) r2 e5 fun v g' H' G s r => k v g' H' G ((s1.trans s2).trans s) r
theorem sim_inA {r : R2} (hr : Room n X.A) (ho : OpR X (compareOp .In) r) (hf : Op2 X (dInA false) r) (ha : SimR X own k sk) (hb : SimR X own o so) (hm : behindInMarks .In o = false) : SimE X own (.Compare k [.In] [o] pos) (sInA false sk so) :=
  pe_weak (pe_cmpR (ho.or (opr_din hr)) ha hb hm) fun _ _ _ h => in_of hf h
theorem sim_notInA {r : R2} (hr : Room n X.A) (ho : OpR X (compareOp .NotIn) r) (hf : Op2 X (dInA true) r) (ha : SimR X own k sk) (hb : SimR X own o so) (hm : behindInMarks .NotIn o = false) : SimE X own (.Compare k [.NotIn] [o] pos) (sInA true sk so) :=
  pe_weak (pe_cmpR (ho.or (opr_dnotin hr)) ha hb hm) fun _ _ _ h => in_of hf h
theorem sim_inAT {r : R2} (hr : Room n X.A) (ho : OpR X (compareOp .In) r) (hf : Op2 X (dInA false) r) (ha : SimR X own k sk) (hb : SimR X own o so) (hm : behindInMarks .In o = false) : SimT X own (.Compare k [.In] [o] pos) (sBool (sInA false sk so)) :=
  pt_weak (pt_cmpR (ho.or (opr_din hr)) ha hb hm) fun _ _ _ h => in_of hf (sBool_of h)
theorem sim_notInAT {r : R2} (hr : Room n X.A) (ho : OpR X (compareOp .NotIn) r) (hf : Op2 X (dInA true) r) (ha : SimR X own k sk) (hb : SimR X own o so) (hm : behindInMarks .NotIn o = false) : SimT X own (.Compare k [.NotIn] [o] pos) (sBool (sInA true sk so)) :=
  pt_weak (pt_cmpR (ho.or (opr_dnotin hr)) ha hb hm) fun _ _ _ h => in_of hf (sBool_of h)
/-! ### d.get(k), d.get(k, x) -/
def getS (S : Sto) (o k z : D) : Option D := match o with
  | .mref j => S[j]?.bind fun m => if okM m k then some ((getM m k).getD z) else none
  | _ => none
def sGet1 (so sk : SE) : SE := fun ρ S => (so ρ S).then fun o S1 => (sk ρ S1).then fun k S2 => optR (getS S2 o k .non) S2
def sGet2 (so sk sz : SE) : SE := fun ρ S => (so ρ S).then fun o S1 => (sk ρ S1).then fun k S2 => (sz ρ S2).then fun z S3 => optR (getS S3 o k z) S3
@[simp] theorem e_get1 (so sk : SE) (ρ : DEnv) (S : Sto) : sGet1 so sk ρ S = (so ρ S).then fun o S1 => (sk ρ S1).then fun k S2 => optR (getS S2 o k .non) S2 := rfl
@[simp] theorem e_get2 (so sk sz : SE) (ρ : DEnv) (S : Sto) : sGet2 so sk sz ρ S = (so ρ S).then fun o S1 => (sk ρ S1).then fun k S2 => (sz ρ S2).then fun z S3 => optR (getS S3 o k z) S3 := rfl
theorem isd_of {K : PySem.W.Frag} {mg : Str → Option Value} {g : Gh} {H : Hp} {S : Sto} (G : GOk K mg g H S) {j : Nat} {a : Addr} (ha : g.as[j]? = some a) : IsD H a := by
  obtain ⟨o, m, h1, _, h3⟩ := G.st j a ha
  cases h3 with
  | k _ => exact .inl ⟨_, .inl h1⟩
  | t _ => exact .inr ⟨_, .inl h1⟩
  | l _ _ => exact .inr ⟨_, .inr ⟨_, h1⟩⟩
theorem gets_ok {K : PySem.W.Frag} {mg : Str → Option Value} {g : Gh} {H : Hp} {S : Sto} (G : GOk K mg g H S) {od kd zd d : D} {x v z : V} (e : getS S od kd zd = some d) (rx : Rep K mg g x od) (rk : Rep K mg g v kd) (rz : Rep K mg g z zd) : ∃ a o, x = .ref a ∧ DGet H a v o ∧ Rep K mg g (o.getD z) d := by
  cases od with
  | mref j =>
    have e5 : S[j]?.bind (fun m => if okM m kd then some ((getM m kd).getD zd) else none) = some d := e
    cases q5 : S[j]? with
    | none => rw [q5] at e5; cases e5
    | some m =>
      rw [q5] at e5
      have e6 : (if okM m kd then some ((getM m kd).getD zd) else none) = some d := e5
      split at e6
      · rename_i hok
        cases e6
        cases rx with
        | mref ha =>
          obtain ⟨o, hg, hv⟩ := dget_of G ha q5 rk hok
          refine ⟨_, o, rfl, hg, ?_⟩
          cases q1 : getM m kd with
          | none =>
            rw [q1] at hv
            cases o with
            | none => exact rz
            | some u => exact hv.elim
          | some d1 =>
            rw [q1] at hv
            cases o with
            | none => exact hv.elim
            | some u => exact hv
      · cases e6
  | _ => cases e
theorem sim_get1 (hr : Room n X.A) (ho : SimE X own o so) (he : SimE X own e se) (m : M1 X o "get" apos e pos := by exact ⟨rfl, rfl, rfl, rfl⟩) : SimE X own (.Call (.Attribute o "get" apos) [e] [] pos) (sGet1 so se) :=
  pe_weak (pe_dget1 (hu_of hr) ho he m) fun σ H Q ⟨g0, H0, ρ, g, S, E, q⟩ => by
    obtain ⟨d, S', e1, k⟩ := Res.post_ex q
    obtain ⟨od, S1, e2, e1⟩ := Res.then_ex e1
    obtain ⟨kd, S2, e3, e1⟩ := Res.then_ex e1
    obtain ⟨e4, eS⟩ := optR_ex e1
    subst eS
    refine ⟨g0, H0, ρ, g, S, E, ?_⟩
    rw [e2]
    intro v g1 H1 G1 s1 r1
    have hmr : ∃ j, od = .mref j := by cases od <;> first | exact ⟨_, rfl⟩ | cases e4
    obtain ⟨j, rfl⟩ := hmr
    cases r1 with
    | mref ha =>
      refine ⟨_, rfl, isd_of G1 ha, g0, H0, ρ, g1, S1, E.step G1 s1, ?_⟩
      rw [e3]
      intro v2 g2 H2 G2 s2 r2
      obtain ⟨a, o, ea, hg, hv⟩ := gets_ok G2 e4 (.mref (s2.le.as _ _ ha)) r2 .non
      cases ea
      exact ⟨o, hg, k _ g2 H2 G2 (s1.trans s2) hv⟩
theorem sim_get2 (hr : Room n X.A) (ho : SimE X own o so) (he : SimE X own e se) (hf : SimE X own f sf) (m : M2 X o "get" apos e f pos := by exact ⟨rfl, rfl, rfl, rfl⟩) : SimE X own (.Call (.Attribute o "get" apos) [e, f] [] pos) (sGet2 so se sf) :=
  pe_weak (pe_dget2 (hu_of hr) ho he hf m) fun σ H Q ⟨g0, H0, ρ, g, S, E, q⟩ => by
    obtain ⟨d, S', e1, k⟩ := Res.post_ex q
    obtain ⟨od, S1, e2, e1⟩ := Res.then_ex e1
    obtain ⟨kd, S2, e3, e1⟩ := Res.then_ex e1
    obtain ⟨zd, S3, e3', e1⟩ := Res.then_ex e1
    obtain ⟨e4, eS⟩ := optR_ex e1
    subst eS
    refine ⟨g0, H0, ρ, g, S, E, ?_⟩
    rw [e2]
    intro v g1 H1 G1 s1 r1
    have hmr : ∃ j, od = .mref j := by cases od <;> first | exact ⟨_, rfl⟩ | cases e4
    obtain ⟨j, rfl⟩ := hmr
    cases r1 with
    | mref ha =>
      have E1 := E.step G1 s1
      refine ⟨_, rfl, isd_of G1 ha, g0, H0, ρ, g1, S1, E1, ?_⟩
      rw [e3]
      intro v2 g2 H2 G2 s2 r2
      refine ⟨g0, H0, ρ, g2, S2, E1.step G2 s2, ?_⟩
      rw [e3']
      intro v3 g3 H3 G3 s3 r3
      obtain ⟨a, o, ea, hg, hv⟩ := gets_ok G3 e4 (.mref (s3.le.as _ _ (s2.le.as _ _ ha))) (r2.mono s3.le) r3
      cases ea
      exact ⟨o, hg, k _ g3 H3 G3 ((s1.trans s2).trans s3) hv⟩
end
end Ev
namespace Ev
open PySem PySem.Spec PyProof.Rows L2
/-! ### loops over a dict whose keys are tuples: the dict is locked -/
section
variable {K : PySem.W.Frag} {mg : Str → Option Value} {g g' : Gh} {H H' : Hp} {S S' : Sto} {c : Addr} {ob : Obj} {ws : List (List Key × V)}

mutual
theorem Rep.outd (hc : g.F c = some (.frz ob (.dT ws))) (lF : ∀ b o, b ≠ c → g.F b = some o → g'.F b = some o) (la : ∀ (i : Nat) (a : Addr), g.as[i]? = some a → g'.as[i]? = some a) : ∀ {v : V} {d : D}, Rep K mg g v d → Rep K mg g' v d
  | _, _, .non => .non
  | _, _, .bl b => .bl b
  | _, _, .int i => .int i
  | _, _, .str x => .str x
  | _, _, .tup h r => .tup (lF _ _ (fun z => by rw [z, hc] at h; cases h) h) (Reps.outd hc lF la r)
  | _, _, .lst h r => .lst (lF _ _ (fun z => by rw [z, hc] at h; cases h) h) (Reps.outd hc lF la r)
  | _, _, .obj m h h2 r => .obj m (lF _ _ (fun z => by rw [z, hc] at h; cases h) h) (lF _ _ (fun z => by rw [z, hc] at h2; cases h2) h2) (FReps.outd hc lF la r)
  | _, _, .mref h => .mref (la _ _ h)
  | _, _, .scr h => .scr (by
    rcases h with (h | ⟨o, h⟩) | h
    · exact .inl (.inl (lF _ _ (fun z => by rw [z, hc] at h; cases h) h))
    · exact .inl (.inr ⟨o, lF _ _ (fun z => by rw [z, hc] at h; cases h) h⟩)
    · exact .inr h)
theorem Reps.outd (hc : g.F c = some (.frz ob (.dT ws))) (lF : ∀ b o, b ≠ c → g.F b = some o → g'.F b = some o) (la : ∀ (i : Nat) (a : Addr), g.as[i]? = some a → g'.as[i]? = some a) : ∀ {vs : List V} {ds : List D}, Reps K mg g vs ds → Reps K mg g' vs ds
  | _, _, .nil => .nil
  | _, _, .cons h r => .cons (Rep.outd hc lF la h) (Reps.outd hc lF la r)
theorem FReps.outd (hc : g.F c = some (.frz ob (.dT ws))) (lF : ∀ b o, b ≠ c → g.F b = some o → g'.F b = some o) (la : ∀ (i : Nat) (a : Addr), g.as[i]? = some a → g'.as[i]? = some a) : ∀ {vs : List (Str × V)} {ds : List (Str × D)}, FReps K mg g vs ds → FReps K mg g' vs ds
  | _, _, .nil => .nil
  | _, _, .cons h r => .cons (Rep.outd hc lF la h) (FReps.outd hc lF la r)
end
theorem KReps.outd {κ : Type} (hc : g.F c = some (.frz ob (.dT ws))) (lF : ∀ b o, b ≠ c → g.F b = some o → g'.F b = some o) (la : ∀ (i : Nat) (a : Addr), g.as[i]? = some a → g'.as[i]? = some a) : ∀ {vs : List (κ × V)} {ds : List (κ × D)}, KReps K mg g vs ds → KReps K mg g' vs ds
  | _, _, .nil => .nil
  | _, _, .cons h r => .cons (h.outd hc lF la) (KReps.outd hc lF la r)
def Gh.out (g : Gh) (c : Addr) : Gh := ⟨fun b => if b = c then none else g.F b, g.as, g.me⟩
theorem out_ne {b : Addr} (h : b ≠ c) : (g.out c).F b = g.F b := if_neg h
theorem out_same : (g.out c).F c = none := if_pos rfl
def kD : Key → D
  | .inl i => .int i
  | .inr x => .str x
theorem rep_kD (k : Key) : Rep K mg g (kV k) (kD k) := by
  cases k with
  | inl i => exact .int i
  | inr x => exact .str x
theorem reps_kD : ∀ ks : List Key, Reps K mg g (ks.map kV) (ks.map kD)
  | [] => .nil
  | k :: ks => .cons (rep_kD k) (reps_kD ks)
abbrev keyT (ks : List Key) : D := .tup (ks.map kD)
/-- an address that is not the heap's changing object stays apart -/
theorem GOk.apart (G : GOk K mg g H S) {q : Addr} {xs : List V} (hq : H q = some (.tup xs)) : q ∉ g.as := fun z => by
  obtain ⟨i, hi, e⟩ := List.mem_iff_getElem.mp z
  obtain ⟨o, m, h1, _, h3⟩ := G.st i q (by rw [List.getElem?_eq_getElem hi, e])
  rw [hq] at h1
  cases h1
  exact h3.ne_tup xs rfl
/-- a tuple that stands is for good -/
theorem GOk.tupF (G : GOk K mg g H S) {q : Addr} {xs : List V} (hq : H q = some (.tup xs)) : ∃ g', GOk K mg g' H S ∧ Stp g H g' H ∧ g'.F q = some (.tup xs) := by
  cases e : g.F q with
  | some u =>
    have := G.sub _ _ e
    rw [hq] at this
    cases this
    exact ⟨g, G, .refl, e⟩
  | none =>
    refine ⟨g.add q (.tup xs), G.freeze hq e (G.apart hq), ⟨gle_add e, fun _ _ h _ => h, fun _ h => h, fun a ha => ?_, fun _ h => .inl h⟩, upd_same⟩
    by_cases z : a = q
    · subst z; exact .inr (.inr (.inr ⟨xs, hq⟩))
    · have ha' : upd g.F q (.tup xs) a ≠ none := ha
      rw [upd_ne z] at ha'
      exact .inl ha'
end
def sItD (so : SE) : SI := fun ρ S => (so ρ S).then fun o S1 => match o with
  | .mref j => (match S1[j]? with
    | some (.t true kds) => .ok (kds.map fun kd => keyT kd.1) S1
    | _ => .bad)
  | _ => .bad
section
variable {X : Cx} {own ownT ob ts : List Nat} {e iter tg : Expr} {so : SE} {sg : SG} {ss : SS} {body : List Stmt} {pos : Pos}
theorem KReps.keys {κ : Type} {K : PySem.W.Frag} {mg : Str → Option Value} {g : Gh} : ∀ {vs : List (κ × V)} {ds : List (κ × D)}, KReps K mg g vs ds → vs.map (·.1) = ds.map (·.1)
  | _, _, .nil => rfl
  | _, _, .cons _ r => by rw [List.map_cons, List.map_cons, KReps.keys r]
theorem wk_dict {g1 : Gh} {d : Addr} {o : Obj} {kvs : List (List Key × V)} {kds : List (List Key × D)} (hF : g1.F d = some (.frz o (.dT kvs))) (r : KReps X.K X.mg g1 kvs kds) : Wk X (Itkt d o kvs) (kds.map fun kd => keyT kd.1) g1 := fun g H S G l i => by
  have hH : H d = some (.frz o (.dT kvs)) := G.sub _ _ (l.F _ _ hF)
  refine ⟨fun x hx => ?_, fun e => ⟨hH, by rw [r.len]; rw [List.length_map] at e; omega⟩⟩
  have hi : i < kvs.length := by
    have := (List.getElem?_eq_some_iff.mp hx).1
    rw [List.length_map] at this
    rw [r.len]; exact this
  refine ⟨⟨hH, hi⟩, fun v H' ⟨e1, k, w, q, hk, ev, hq⟩ => ?_⟩
  subst e1 ev
  obtain ⟨g', G', s', hF'⟩ := G.tupF hq
  refine ⟨g', G', s', ?_⟩
  have ek : x = keyT k := by
    have h1 : (kvs.map (·.1))[i]? = some k := by rw [List.getElem?_map, hk]; rfl
    rw [r.keys, List.getElem?_map] at h1
    rw [List.getElem?_map] at hx
    cases q2 : kds[i]? with
    | none => rw [q2] at h1; cases h1
    | some kd =>
      rw [q2] at h1 hx
      cases h1
      cases hx
      rfl
  subst ek
  exact .tup hF' (reps_kD k)
theorem simi_dict (h : SimE X own e so) : SimI X own tg e (sItD so) := pi_weak (pi_keys h) fun σ H R ⟨g0, H0, ρ, g, S, E, q⟩ => by
  obtain ⟨ds, S', e1, k⟩ := Res.post_ex q
  obtain ⟨d, S1, e2, e1⟩ := Res.then_ex e1
  refine ⟨g0, H0, ρ, g, S, E, ?_⟩
  rw [e2]
  intro v g1 H1 G1 s1 r1
  cases d with
  | mref j =>
    cases r1 with
    | mref ha =>
      obtain ⟨o, m, h1, h2, h3⟩ := G1.st j _ ha
      have e1' : (match S1[j]? with
        | some (.t true kds) => Res.ok (kds.map fun kd => keyT kd.1) S1
        | _ => .bad) = Res.ok ds S' := e1
      rw [h2] at e1'
      cases h3 with
      | k _ => cases e1'
      | t _ => cases e1'
      | l hF r =>
        cases e1'
        exact ⟨_, _, rfl, .inr ⟨_, h1, k _ g1 H1 G1 s1 (wk_dict hF r)⟩⟩
  | _ => cases e1
/-- unlocked again; only a loop that runs to its end -/
def unlk (j : Nat) : Out → Sto → Res Out
  | .nx ρ, S => (match S[j]? with
    | some (.t true kds) => .ok (.nx ρ) (S.set j (.t false kds))
    | _ => .bad)
  | _, _ => .bad
/-- for x in d: the dict stands locked while the loop runs -/
def lockS (so : SE) (ss : SS) : SS := fun ρ S => match so ρ S with
  | .ok (.mref j) _ => (match S[j]? with
    | some (.t false kds) => (ss ρ (S.set j (.t true kds))).then (unlk j)
    | _ => .bad)
  | _ => .bad
def sForD (so : SE) (sg : SG) (sb : SS) : SS := lockS so (sFor (sItD so) sg sb)
theorem sim_lock {st : Stmt} {ss : SS} {own : List Nat} (h : PS X st (tS X own own ob ss)) {so : SE} : PS X st (tS X own own ob (lockS so ss)) := ps_weak (ps_lock h) fun D σ H ⟨g0, H0, ρ, g, S, E, q⟩ => by
  obtain ⟨out, S3, e1, k⟩ := Res.post_ex q
  unfold lockS at e1
  split at e1
  · rename_i j S0 e0
    split at e1
    · rename_i kds hj
      obtain ⟨o, S2, e2, e3⟩ := Res.then_ex e1
      have hjl : j < g.as.length := by rw [← E.gok.len]; exact (List.getElem?_eq_some_iff.mp hj).1
      obtain ⟨c, hc⟩ : ∃ c, g.as[j]? = some c := ⟨g.as[j], List.getElem?_eq_getElem hjl⟩
      obtain ⟨oc, m, h1, h2, h3⟩ := E.gok.st j c hc
      rw [hj] at h2
      cases h2
      cases h3 with
      | @t kvs _ r =>
      have hcm : c ∈ g.as := List.mem_of_getElem? hc
      have hF : g.F c = none := by
        rcases E.gok.nf c hcm with z | ⟨_, _, z⟩
        · exact z
        · have := E.gok.sub _ _ z
          rw [h1] at this
          cases this
      refine ⟨c, .dT kvs, h1, trivial, fun od => ?_⟩
      -- the locked state
      have lel : GLe g (g.add c (.frz od (.dT kvs))) := gle_add hF
      have Gl : GOk X.K X.mg (g.add c (.frz od (.dT kvs))) (upd H c (.frz od (.dT kvs))) (S.set j (.t true kds)) := by
        refine ⟨fun b u e => ?_, E.gok.nd, by rw [List.length_set]; exact E.gok.len, fun a ha => ?_, fun i a ha => ?_⟩
        · have e' : upd g.F c (.frz od (.dT kvs)) b = some u := e
          by_cases hb : b = c
          · subst hb; rw [upd_same] at e' ⊢; exact e'
          · rw [upd_ne hb] at e' ⊢; exact E.gok.sub _ _ e'
        · show Lkd (upd g.F c (.frz od (.dT kvs)) a)
          by_cases hb : a = c
          · subst hb; rw [upd_same]; exact .inr ⟨_, _, rfl⟩
          · rw [upd_ne hb]; exact E.gok.nf a ha
        · by_cases hi : i = j
          · subst hi
            have e : a = c := by have ha' : g.as[i]? = some a := ha; rw [hc] at ha'; cases ha'; rfl
            subst e
            exact ⟨_, _, upd_same, List.getElem?_set_self (by rw [E.gok.len]; exact hjl), .l upd_same (r.mono lel)⟩
          · obtain ⟨o', m', q1, q2, q3⟩ := E.gok.st i a ha
            refine ⟨o', m', ?_, by rw [List.getElem?_set_ne (Ne.symm hi)]; exact q2, q3.mono lel⟩
            rw [upd_ne (fun z : a = c => hi (nd_ix E.gok.nd ha (z ▸ hc)))]
            exact q1
      have sl : Stp g H (g.add c (.frz od (.dT kvs))) (upd H c (.frz od (.dT kvs))) := by
        refine ⟨lel, fun b u e n => by rw [upd_ne (fun z : b = c => n (z ▸ hcm))]; exact e, fun b e => ?_, fun b e => ?_, fun _ h => .inl h⟩
        · by_cases hb : b = c
          · subst hb; rw [upd_same]; exact fun z => nomatch z
          · rw [upd_ne hb]; exact e
        · have e' : upd g.F c (.frz od (.dT kvs)) b ≠ none := e
          by_cases hb : b = c
          · subst hb; exact .inr (.inr (.inl hcm))
          · rw [upd_ne hb] at e'; exact .inl e'
      refine ⟨g0, H0, ρ, _, _, E.step Gl sl, ?_⟩
      rw [e2]
      -- the end
      cases o with
      | nx ρ2 =>
        have e3' : (match S2[j]? with
          | some (.t true kds) => Res.ok (Out.nx ρ2) (S2.set j (.t false kds))
          | _ => .bad) = Res.ok out S3 := e3
        split at e3'
        · rename_i kds2 hj2
          cases e3'
          intro σ2 g2 H2 l2 E2
          have hF2 : g2.F c = some (.frz od (.dT kvs)) := l2.F _ _ upd_same
          have hH2 : H2 c = some (.frz od (.dT kvs)) := E2.gok.sub _ _ hF2
          have hc2 : g2.as[j]? = some c := l2.as _ _ hc
          have hcm2 : c ∈ g2.as := List.mem_of_getElem? hc2
          refine ⟨hH2, k σ2 (g2.out c) _ ⟨fun b o e => ?_, fun i a h => l2.as _ _ h, l2.me⟩ ?_⟩
          · have hb : b ≠ c := fun z => by rw [z, hF] at e; cases e
            rw [out_ne hb]
            exact l2.F _ _ (by show upd g.F c _ b = some o; rw [upd_ne hb]; exact e)
          · have lF : ∀ b o, b ≠ c → g2.F b = some o → (g2.out c).F b = some o := fun b o hb e => by rw [out_ne hb]; exact e
            have la : ∀ (i : Nat) (a : Addr), g2.as[i]? = some a → (g2.out c).as[i]? = some a := fun _ _ h => h
            obtain ⟨oc2, m2, q1, q2, q3⟩ := E2.gok.st j c hc2
            rw [hj2] at q2
            cases q2
            rw [hH2] at q1
            cases q1
            have rk : KReps X.K X.mg g2 kvs kds2 := by
              cases q3 with
              | l _ r => exact r
            have g0c : g0.F c = none := by
              cases e : g0.F c with
              | none => rfl
              | some u =>
                have := E.stp.le.F _ _ e
                rw [hF] at this
                cases this
            refine ⟨⟨fun b u e => ?_, E2.gok.nd, by rw [List.length_set]; exact E2.gok.len, fun a ha => ?_, fun i a ha => ?_⟩, ⟨⟨fun b o e => ?_, E2.stp.le.as, E2.stp.le.me⟩, fun b u e n => ?_, fun b e => ?_, fun b e => ?_, E2.stp.newA⟩, E2.len, fun i d h n => ?_, fun i hi => ?_, E2.dis⟩
            · have hb : b ≠ c := fun z => by rw [z, out_same] at e; cases e
              rw [out_ne hb] at e
              rw [upd_ne hb]
              exact E2.gok.sub _ _ e
            · by_cases hb : a = c
              · subst hb; exact .inl out_same
              · rw [out_ne hb]; exact E2.gok.nf a ha
            · by_cases hi : i = j
              · subst hi
                have e : a = c := by have ha' : g2.as[i]? = some a := ha; rw [hc2] at ha'; cases ha'; rfl
                subst e
                exact ⟨_, _, upd_same, List.getElem?_set_self (List.getElem?_eq_some_iff.mp hj2).1, .t (rk.outd hF2 lF la)⟩
              · obtain ⟨o', m', q1, q2, q3⟩ := E2.gok.st i a ha
                have hac : a ≠ c := fun z : a = c => hi (nd_ix E2.gok.nd ha (z ▸ hc2))
                refine ⟨o', m', by rw [upd_ne hac]; exact q1, by rw [List.getElem?_set_ne (Ne.symm hi)]; exact q2, ?_⟩
                cases q3 with
                | k r => exact .k (r.outd hF2 lF la)
                | t r => exact .t (r.outd hF2 lF la)
                | l hq r => exact .l (lF _ _ hac hq) (r.outd hF2 lF la)
            · have hb : b ≠ c := fun z => by rw [z, g0c] at e; cases e
              exact lF _ _ hb (E2.stp.le.F _ _ e)
            · have hb : b ≠ c := fun z => by
                subst z
                rcases E.stp.newA b hcm with z | z
                · exact n z
                · rw [e] at z; cases z
              rw [upd_ne hb]
              exact E2.stp.keep b u e n
            · by_cases hb : b = c
              · subst hb; rw [upd_same]; exact fun z => nomatch z
              · rw [upd_ne hb]; exact E2.stp.there b e
            · have hb : b ≠ c := fun z => e (by rw [z]; exact out_same)
              rw [out_ne hb] at e
              exact E2.stp.newF b e
            · obtain ⟨v, q1, q2⟩ := E2.fro i d h n
              exact ⟨v, q1, q2.outd hF2 lF la⟩
            · obtain ⟨p, d, q1, q2, q3, q4, q5, q6⟩ := E2.ow i hi
              have hp : p ≠ c := fun z => q4 (z ▸ hcm2)
              refine ⟨p, d, q1, q2, by rw [out_ne hp]; exact q3, q4, q5, ?_⟩
              rcases q6 with ⟨vs, ds, e, h, r⟩ | ⟨C, dx, cc, fvs, fs, e, hm, h, hd, f1, f2, f3, r⟩
              · exact .inl ⟨vs, ds, e, by rw [upd_ne hp]; exact h, r.outd hF2 lF la⟩
              · have hdx : dx ≠ c := fun z => f2 (z ▸ hcm2)
                exact .inr ⟨C, dx, cc, fvs, fs, e, hm, by rw [upd_ne hp]; exact h, by rw [upd_ne hdx]; exact hd, by rw [out_ne hdx]; exact f1, f2, f3, r.outd hF2 lF la⟩
        · cases e3'
      | rt d => cases e3
      | bk ρ2 => cases e3
      | ct ρ2 => cases e3
    · cases e1
  · cases e1
theorem sim_forD (hp : PassesOwn (model X.prog X.w) X.A X.env X.xe) (hc : X.calm = true) (hi : SimE X own iter so) (hg : SimG X own ownT ts tg sg) (hb : SimB X ownT own own body ss)
    (hs : ∀ x, foldedSetIterable iter X.env x = pure x := by intro _; rfl) : SimS X own own ob (.For tg iter body [] pos) (sForD so sg ss) :=
  sim_lock (so := so) (sim_for hp hc (simi_dict hi) hg hb hs)
end
end Ev
namespace PySem.W
open PySem PySem.Calls PyProof.Rows
section
variable {prog : Program} {w : World} {A : Around} {E : Value → Shared → Prop} {s : Shared} {T : String} {r d : Addr} {n : Nat} {P : Nat → Value → Prop} {OK : Heap → Prop} {β : Type} {bs : List β} {enc : β → PyData} {R : Value → β → Prop}
/-- list(x)'s own gathering, for what is no list: the new list is a new object -/
theorem collect_src {F : List Value → Shared → Prop} (K : KdlSrc prog w T r d n P OK) (hh : A.handled = none) (hok : OK s.heap) (hn : n ≤ sizeLine)
    (h : ∀ (h' : Heap) (tk : Nat) (acc : Array Value), (∀ b o, s.heap.get? b = some o → h'.get? b = some o) → s.heap.objs.size < h'.objs.size → ItemsOf P acc n → F acc.toList { s with heap := h', toks := tk }) :
    wpAny (model prog w) A (collect (.ref r)) F E s := by
  obtain ⟨lr, ld⟩ := K.there _ hok
  unfold collect
  refine wpAny_bind (wpAny_runValue (codeAny_builtin entry_proto_collect' ?_))
  show wpAny _ _ (do again (.builtin "list.__iadd__" ⟨[← newList [], .ref r], []⟩)) _ _ s
  refine wpAny_bind (wpAny_newList (wpAny_pure ⟨Code.quiet_builtin _ (by decide +kernel), codeAny_builtin entry_list_iadd' ?_⟩))
  have at0 : (s.heap.push (seqObj "list" #[] 0)).get? s.heap.objs.size = some { cls := .type "list", data := .seq #[] 0 } := Heap.get?_push_size _ rfl
  have ok1 : OK (s.heap.push (seqObj "list" #[] 0)) := K.keep _ _ hok fun b _ o e => Heap.get?_push_of_some _ e
  have run := kdl_extend (prog := prog) (w := w) (A := A) (s := { s with heap := s.heap.push (seqObj "list" #[] 0) }) K hh ok1 s.heap.objs.size (Nat.ne_of_gt lr) (Nat.ne_of_gt ld) (.ref s.heap.objs.size) 0 at0
    (R := fun q s' => q = .ok (.ret (.ref s.heap.objs.size)) ∧ ∃ acc c o, s'.heap.get? s.heap.objs.size = some o ∧ o.data = .seq acc c ∧ F acc.toList s')
    (fun h' tk acc c kp at1 it => ⟨rfl, acc, c, _, at1, rfl, h h' tk acc (fun b o e => kp b o (Nat.ne_of_lt (Heap.lt_size e)) (Heap.get?_push_of_some _ e)) (Heap.lt_size at1) it⟩) hn
  have last : ∀ s' : Shared, (∃ acc c o, s'.heap.get? s.heap.objs.size = some o ∧ o.data = .seq acc c ∧ F acc.toList s') → wpAny (model prog w) A (do
      let o ← load s.heap.objs.size
      match o.data with
      | .seq xs _ => pure xs.toList
      | _ => unsupported "internal:collect") F E s' := fun s' ⟨acc, c, o, at1, dat, f⟩ => by
    refine wpAny_bind (wpAny_load at1 ?_)
    rw [dat]
    exact wpAny_pure f
  refine wpAny_mono run (fun fin s' x => ?_) fun _ _ x => nomatch x.1
  cases fin with
  | done f =>
    obtain ⟨e, x⟩ := x
    cases e
    exact last s' x
  | again c1 =>
    refine ⟨x.1, codeAny_mono x.2 fun q s2 y => ?_⟩
    obtain ⟨rfl, y⟩ := y
    exact last s2 y
theorem sorted_src {Q : Value → Shared → Prop} (K : KdlSrc prog w T r d n P OK) (hh : A.handled = none) (hok : OK s.heap) (hn : n ≤ sizeLine)
    (e : ∀ vs : List Value, vs.length = n → (∀ (j : Nat) (v : Value), vs[j]? = some v → P j v) → EachIs R vs bs ∧ ∀ h' : Heap, (∀ b o, s.heap.get? b = some o → h'.get? b = some o) → EachIs (fun v b => ∃ as, Reads h' v (enc b) as) vs bs)
    (hal : AllAlike (bs.map enc)) (hk : Sortable (bs.map enc)) (hu : ∀ b, b ∈ bs → A.units + 2 + (enc b).depth < cLine)
    (h : ∀ (h' : Heap) (tk : Nat) (D : Addr) (out : List Value) (ep : Nat), (∀ b o, s.heap.get? b = some o → h'.get? b = some o) → s.heap.objs.size ≤ D → h'.get? D = some (seqObj "list" out.toArray ep) → EachIs R out (bs.mergeSort (dataLe false enc)) → Q (.ref D) { s with heap := h', toks := tk }) :
    wpAny (model prog w) A (call (.builtin "sorted") [.ref r]) Q E s := by
  refine call_function_entry_kw kind_sorted plain_sorted entry_sorted (args_sorted1 _) ?_
  unfold Builtin.«sorted»
  refine wpAny_bind (m := checkCount "sorted" 1 1 _) (wpAny_pure ?_)
  refine wpAny_bind (collect_src (A := A.in1) K hh hok hn fun h1 tk acc hk1 hlt1 hacc => ?_)
  have hl : acc.toList.length = n := by rw [Array.length_toList]; exact hacc.1
  refine wpAny_bind (wpAny_newList ?_ (by rw [hl]; exact hn))
  obtain ⟨e1, e2⟩ := e acc.toList hl (fun j v q => hacc.2 j v (by rw [← Array.getElem?_toList]; exact q))
  generalize acc.toList = vs at *
  have hz : s.heap.objs.size ≤ h1.objs.size := Nat.le_of_lt hlt1
  have hat : (h1.push (seqObj "list" vs.toArray 0)).get? h1.objs.size = some (seqObj "list" vs.toArray 0) := Heap.get?_push_size _ rfl
  have kp : ∀ b o, s.heap.get? b = some o → (h1.push (seqObj "list" vs.toArray 0)).get? b = some o := fun b o q => Heap.get?_push_of_some _ (hk1 b o q)
  have hlt : ∀ b o, s.heap.get? b = some o → b < h1.objs.size := fun b o q => Heap.lt_size (hk1 b o q)
  have eS : EachIs (fun v b => ∃ as, Reads (sortingHeap (h1.push (seqObj "list" vs.toArray 0)) h1.objs.size vs) v (enc b) as) vs bs := e2 _ fun b o q => sortingHeap_old (Nat.ne_of_lt (hlt b o q)) (kp b o q)
  refine wpAny_bind (wpAny_holding (wpAny_call_entry_kw slot_list_sort ⟨_, hat, rfl⟩ entry_list_sort ?body (args_list_sort _)))
  case body =>
    have hL' : vs.length ≤ sizeLine := by rw [hl]; exact hn
    have S := list_sort_vals (A := A.in1.in1) (prog := prog) (w := w) (E := E) (s := { s with heap := h1.push (seqObj "list" vs.toArray 0), toks := tk }) hat
      (SortsAt.data (s := { s with heap := sortingHeap (h1.push (seqObj "list" vs.toArray 0)) h1.objs.size vs, toks := tk }) (each_map (R := fun v d => ∃ as, Reads (sortingHeap (h1.push (seqObj "list" vs.toArray 0)) h1.objs.size vs) v d as) enc eS) hal hk (bound_map hu)) hL'
      (P := fun f s' => f = .done (.ret .none) ∧ Q (.ref h1.objs.size) s') ⟨rfl, ?_⟩
    · refine wpAny_mono S (fun f s' hf => ?_) fun _ _ e => e
      obtain ⟨rfl, hq⟩ := hf
      exact ⟨_, rfl, wpAny_pure ⟨_, rfl, hq⟩⟩
    · obtain ⟨ep, he⟩ := sortedHeap_at (h := h1.push (seqObj "list" vs.toArray 0)) (out := (sortVals (dataKind (sortingHeap (h1.push (seqObj "list" vs.toArray 0)) h1.objs.size vs) (bs.map enc)) false vs vs).toArray) (vs := vs) hat
      refine h _ tk h1.objs.size _ ep (fun b o q => ?_) hz he (sortVals_data false e1 eS hal)
      exact (sortedHeap_old (Nat.ne_of_lt (hlt b o q)) (by rw [size_push']; exact Nat.lt_succ_of_lt (hlt b o q))).trans (kp b o q)
end
end PySem.W
namespace Ev
open PySem PySem.Spec PyProof.Rows L2
/-! ### sorted(d): the keys, tuples -/
def kP : Key → PyData
  | .inl i => .int i
  | .inr x => .str x
abbrev keyP (ks : List Key) : PyData := .tuple (ks.map kP)
def rSortedK (K : PySem.W.Frag) : List V → Hp → VK → Prop := fun vs H Q => ∃ (a : Addr) (kvs : List (List Key × V)), vs = [V.ref a] ∧ Rd H a (.dT kvs) ∧ sortOk (kvs.map fun kv => keyP kv.1) = true ∧
  ∀ (p : Addr) (bs : List (List Key × Addr)), H p = none → bs.map (·.1) = (kvs.map (·.1)).mergeSort (PySem.W.dataLe false keyP) → (∀ b ∈ bs, H b.2 = some (.tup (b.1.map kV))) → Q (.ref p) (upd H p (.lst (bs.map fun b => V.ref b.2)))
section
variable {X : Cx}
theorem dp_key {K : PySem.W.Frag} {H : Hp} : ∀ ks : List Key, DpAll K H (ks.map kV) (ks.map kP)
  | [] => .nil
  | .inl i :: ks => .cons (.int i) (dp_key ks)
  | .inr x :: ks => .cons (.str x) (dp_key ks)
theorem eachIs_refs : ∀ xs : List (List Key × Addr × Value), PySem.W.EachIs (fun v x => v = Value.ref x.2.1) (xs.map fun x => Value.ref x.2.1) xs
  | [] => .nil
  | x :: xs => .cons rfl (eachIs_refs xs)
theorem eachIs_eq {vs : List Value} {xs : List (List Key × Addr × Value)} (h : PySem.W.EachIs (fun v x => v = Value.ref x.2.1) vs xs) : vs = xs.map fun x => Value.ref x.2.1 := by
  induction h with
  | nil => rfl
  | cons h _ ih => rw [h, ih]; rfl
theorem cr_sortedK (hc : X.calm = true) (hu : X.A.units + 62 < cLine) : CallR X (.builtin "sorted") (rSortedK X.K) := by
  intro pins s σ H vs us Q I r h
  obtain ⟨a, kvs, rfl, hd, ok, q⟩ := h
  obtain ⟨u, rfl, rx⟩ := r.one
  cases rx
  obtain ⟨z, hs, ks, pr, o, es, ep, ho, hx, hdt, he, hn⟩ := (show ObjOk X.prog X.w H s.heap a (.dT kvs) from hd.ok I.hok)
  have l1 : es.size = ks.length := size_of_entries he
  have l2 : kvs.length = ks.length := Paired.length pr
  have hkk : kvs.map (·.1) = ks.map (·.1) := by
    have go : ∀ {l : List (List Key × V)} {m : List (List Key × Addr × Value)}, Paired (fun (p : List Key × V) (q : List Key × Addr × Value) => p.1 = q.1 ∧ H q.2.1 = some (.tup (p.1.map kV)) ∧ RelV p.2 q.2.2) l m → l.map (·.1) = m.map (·.1) := fun r => by
      induction r with
      | nil => rfl
      | cons h _ ih => rw [List.map_cons, List.map_cons, h.1, ih]
    exact go pr
  have hH : ∀ x ∈ ks, H x.2.1 = some (.tup (x.1.map kV)) := by
    have go : ∀ {l : List (List Key × V)} {m : List (List Key × Addr × Value)}, Paired (fun (p : List Key × V) (q : List Key × Addr × Value) => p.1 = q.1 ∧ H q.2.1 = some (.tup (p.1.map kV)) ∧ RelV p.2 q.2.2) l m → ∀ x ∈ m, H x.2.1 = some (.tup (x.1.map kV)) := fun r => by
      induction r with
      | nil => exact fun x hx => nomatch hx
      | cons h _ ih =>
        intro x hx
        rcases List.mem_cons.mp hx with e | hx
        · subst e
          rw [← h.1]
          exact h.2.1
        · exact ih x hx
    exact go pr
  have okk : sortOk (ks.map fun x => keyP x.1) = true := by
    have e1 : (ks.map fun x => keyP x.1) = (ks.map (·.1)).map keyP := by rw [List.map_map]; rfl
    have e2 : (kvs.map fun x => keyP x.1) = (kvs.map (·.1)).map keyP := by rw [List.map_map]; rfl
    rw [e1, ← hkk, ← e2]
    exact ok
  obtain ⟨h1, h2, h3⟩ := sortOk_al okk
  refine PySem.W.sorted_src (R := fun v (x : List Key × Addr × Value) => v = Value.ref x.2.1) (enc := fun x : List Key × Addr × Value => keyP x.1) (bs := ks) (kdl_raw hs hx hdt) (I.ok.hd hc) ho (by omega) (fun vs hl hv => ?_) h1 h2 (fun b hb => ?_) fun h' tk D out ep' kp hD hat eo => ?_
  · have ev : vs = ks.map fun x => Value.ref x.2.1 := by
      apply List.ext_getElem?
      intro j
      rw [List.getElem?_map]
      cases hj : vs[j]? with
      | none =>
        have h1 := List.getElem?_eq_none_iff.mp hj
        rw [List.getElem?_eq_none (by omega)]
        rfl
      | some v =>
        obtain ⟨en, hen, hv'⟩ := hv j v hj
        have qe := entry_at he j
        rw [hen] at qe
        cases hb : ks[j]? with
        | none => rw [hb] at qe; cases qe
        | some b =>
          rw [hb] at qe
          have e2 : en = entryOfKey (tupleKind (mixKind X.prog X.w)) b := Option.some.inj qe
          rw [hv', e2]
          rfl
    subst ev
    refine ⟨eachIs_refs ks, fun h' k => ?_⟩
    have go : ∀ l : List (List Key × Addr × Value), (∀ x ∈ l, H x.2.1 = some (.tup (x.1.map kV))) → PySem.W.EachIs (fun v (b : List Key × Addr × Value) => ∃ as, Reads h' v (keyP b.1) as) (l.map fun x => Value.ref x.2.1) l := fun l hl => by
      induction l with
      | nil => exact .nil
      | cons x l ih =>
        refine .cons ?_ (ih fun y hy => hl y (List.mem_cons_of_mem _ hy))
        obtain ⟨as, r⟩ := Dp.reads I (keyP x.1) (.ref x.2.1) (.ref x.2.1) (.tup (SqT.of (hl x List.mem_cons_self)) (dp_key x.1)) rfl
        exact ⟨as, PyProof.Rows.Reads.keeps k r⟩
    exact go ks hH
  · have := h3 (keyP b.1) (List.mem_map.mpr ⟨b, hb, rfl⟩)
    omega
  · have eo' := eachIs_eq eo
    subst eo'
    generalize hys : ks.mergeSort (PySem.W.dataLe false fun x : List Key × Addr × Value => keyP x.1) = ys at *
    refine ⟨.ref D, upd H D (.lst ((ys.map fun y => (y.1, y.2.1)).map fun b => V.ref b.2)), I.laid (t' := tk) kp hD ?_, rfl, q D (ys.map fun y => (y.1, y.2.1)) (I.hok.fresh hD) ?_ fun b hb => ?_⟩
    · have hyl : ys.length = ks.length := by rw [← hys, List.length_mergeSort]
      refine ⟨by rw [List.length_map, List.length_map]; omega, ys.map (fun x => Value.ref x.2.1), ep', ?_, hat⟩
      clear hys hyl eo hat
      induction ys with
      | nil => exact .nil
      | cons y ys ih => exact .cons rfl ih
    · rw [List.map_map, hkk, ← hys]
      show (ks.mergeSort _).map (fun x => x.1) = _
      rw [← List.map_mergeSort (r := PySem.W.dataLe false fun x : List Key × Addr × Value => keyP x.1) (f := fun x : List Key × Addr × Value => x.1) (s := PySem.W.dataLe false keyP) (fun a _ b _ => rfl)]
    · obtain ⟨y, hy, rfl⟩ := List.mem_map.mp hb
      rw [← hys, List.mem_mergeSort] at hy
      exact hH y hy
/-- sorted(x): a dict's keys, or what dSortedA sorts -/
def sortedS (S : Sto) : D → Option D
  | .mref j => S[j]?.bind fun m => match m with
    | .t _ kds => dSorted [.lst (kds.map fun kd => keyT kd.1)]
    | _ => none
  | d => dSortedA [d]
def sSorted (sa : SE) : SE := fun ρ S => (sa ρ S).then fun d S1 => optR (sortedS S1 d) S1
@[simp] theorem e_sorted (sa : SE) (ρ : DEnv) (S : Sto) : sSorted sa ρ S = (sa ρ S).then fun d S1 => optR (sortedS S1 d) S1 := rfl
@[simp] theorem sortedS_lst (S : Sto) (xs : List D) : sortedS S (.lst xs) = dSorted [.lst xs] := rfl
@[simp] theorem sortedS_tup (S : Sto) (xs : List D) : sortedS S (.tup xs) = dSorted [.lst xs] := rfl
theorem py_keyT (ks : List Key) : D.py (keyT ks) = some (keyP ks) := by
  have go : ∀ ks : List Key, pyAll (ks.map kD) = some (ks.map kP) := fun ks => by
    induction ks with
    | nil => rfl
    | cons k ks ih =>
      show (match (kD k).py, pyAll (ks.map kD) with
        | some x, some xs => some (x :: xs)
        | _, _ => none) = _
      rw [ih]
      cases k <;> rfl
  show (pyAll (ks.map kD)).map PyData.tuple = _
  rw [go]
  rfl
theorem sorted_keys (L : List (List Key)) : dSorted [.lst (L.map keyT)] = if sortOk (L.map keyP) then some (.lst ((L.mergeSort (PySem.W.dataLe false keyP)).map keyT)) else none := by
  show (pyAll (L.map keyT)).bind (fun ps => if sortOk ps then some (D.lst (sortD (L.map keyT) ps)) else none) = _
  rw [pyAll_map (p := keyP) py_keyT L]
  show (if sortOk (L.map keyP) = true then some (D.lst (sortD (L.map keyT) (L.map keyP))) else none) = _
  congr 3
  unfold sortD
  rw [show (L.map keyT).zip (L.map keyP) = L.map fun r => (keyT r, keyP r) by
    induction L with
    | nil => rfl
    | cons r rs ih => rw [List.map_cons, List.map_cons, List.zip_cons_cons, ih, List.map_cons]]
  rw [← List.map_mergeSort (r := PySem.W.dataLe false keyP) (f := fun r : List Key => (keyT r, keyP r)) (s := PySem.W.dataLe false (·.2)) (fun a _ b _ => rfl), List.map_map]
  rfl
theorem tupFs {K : PySem.W.Frag} {mg : Str → Option Value} {H : Hp} {S : Sto} : ∀ (bs : List (List Key × Addr)) (g : Gh), GOk K mg g H S → (∀ b ∈ bs, H b.2 = some (.tup (b.1.map kV))) → ∃ g', GOk K mg g' H S ∧ Stp g H g' H ∧ Reps K mg g' (bs.map fun b => V.ref b.2) (bs.map fun b => keyT b.1)
  | [], g, G, _ => ⟨g, G, .refl, .nil⟩
  | b :: bs, g, G, h => by
    obtain ⟨g1, G1, s1, r1⟩ := tupFs bs g G fun x hx => h x (List.mem_cons_of_mem _ hx)
    obtain ⟨g2, G2, s2, hF⟩ := G1.tupF (h b List.mem_cons_self)
    exact ⟨g2, G2, s1.trans s2, .cons (.tup hF (reps_kD _)) (r1.mono s2.le)⟩
theorem f_sortedS {own : List Nat} {a : Expr} {sa : SE} {p pos : Pos} {k : Nat} (hr : Room k X.A) (hm : X.mg "sorted" = none) (ha : SimR X own a sa) (hc : X.calm = true := by rfl) (hg : Gl X "sorted" := by rfl) (he : starEach (a :: []) X.env = (false, eval a X.env) :: starEach [] X.env := by rfl) (hpl : (backTo pos (starEach ([] : List Expr) X.env)).any (·.1) = false := by rfl) : SimF X own (.Call (.Name "sorted" p) [a] [] pos) (sSorted sa) :=
  pe_weak (pe_callB (((cr_sortedD (by have := hr.un; omega)).or (cr_sortedT (by have := hr.un; omega))).or (cr_sortedK hc (by have := hr.un; omega))) hg hm (by decide +kernel) (simr_cons ha simr_nil he) (by decide) (by decide) he hpl) fun σ H Q ⟨g0, H0, ρ, g, S, E, q⟩ => by
    obtain ⟨d, S', e1, k⟩ := Res.post_ex q
    obtain ⟨od, S1, e2, e1⟩ := Res.then_ex e1
    obtain ⟨e3, eS⟩ := optR_ex e1
    subst eS
    refine ⟨g0, H0, ρ, g, S, E, ?_⟩
    have ea : sArgs [(false, sa)] ρ S = .ok [od] S1 := by
      show (sa ρ S).then _ = _
      rw [e2]
      rfl
    rw [ea]
    intro vs g1 H1 G1 s1 r1
    obtain ⟨ds, rfl, k⟩ := k
    by_cases hm : ∃ j, od = .mref j
    · obtain ⟨j, rfl⟩ := hm
      obtain ⟨x, rfl, r2⟩ := rr1 r1
      right
      have e4 : (S1[j]?.bind fun m => match m with
        | .t _ kds => dSorted [.lst (kds.map fun kd => keyT kd.1)]
        | _ => none) = some (.lst ds) := e3
      cases r2.rep (fun _ e => nomatch e) with
      | @mref _ ad ha =>
        obtain ⟨o, m, h1, h2, h3⟩ := G1.st j _ ha
        rw [h2] at e4
        have fin : ∀ (kvs : List (List Key × V)) (kds : List (List Key × D)), Rd H1 ad (.dT kvs) → KReps X.K X.mg g1 kvs kds → dSorted [.lst (kds.map fun kd => keyT kd.1)] = some (.lst ds) → rSortedK X.K [V.ref ad] H1 Q := fun kvs kds rd r e5 => by
          have e6 := sorted_keys (kds.map (·.1))
          rw [List.map_map] at e6
          rw [show (kds.map fun kd => keyT kd.1) = kds.map (keyT ∘ fun x => x.1) from rfl, e6] at e5
          split at e5
          · rename_i ok
            have e7 : ((kds.map (·.1)).mergeSort (PySem.W.dataLe false keyP)).map keyT = ds := by
              injection e5 with e5
              injection e5
            refine ⟨_, kvs, rfl, rd, ?_, fun p bs hp hb1 hb2 => ?_⟩
            · rw [show (kvs.map fun kv => keyP kv.1) = (kvs.map (·.1)).map keyP by rw [List.map_map]; rfl, r.keys]
              exact ok
            · obtain ⟨g2, G2, s2, rs⟩ := tupFs bs g1 G1 hb2
              have e8 : (bs.map fun b => keyT b.1) = ds := by
                rw [show (bs.map fun b => keyT b.1) = (bs.map (·.1)).map keyT by rw [List.map_map]; rfl, hb1, r.keys]
                exact e7
              rw [e8] at rs
              exact fresh_end G2 (s1.trans s2) hp rs k
          · cases e5
        cases h3 with
        | k _ => cases e4
        | t r => exact fin _ _ (.inl h1) r e4
        | l _ r => exact fin _ _ (.inr ⟨_, h1⟩) r e4
    · left
      have e4 : dSortedA [od] = some (.lst ds) := by
        cases od with
        | mref j => exact absurd ⟨j, rfl⟩ hm
        | _ => exact e3
      obtain ⟨es, ed, kr⟩ := opF_sortedA g1 H1 S1 vs [od] (.lst ds) Q G1 r1 e4
      cases ed
      exact kr fun p vs hp rs => fresh_end G1 s1 hp rs k
theorem sortedS_l {S : Sto} {d e : D} (h : sortedS S d = some e) : ∃ ds, e = .lst ds := by
  unfold sortedS at h
  split at h
  · obtain ⟨m, _, h2⟩ := Option.bind_eq_some_iff.mp h
    split at h2
    · exact sorted_l h2
    · cases h2
  · exact sortedA_l h
instance {sa : SE} : IsL (sSorted sa) := ⟨fun ρ S d S' e => by
  obtain ⟨x, S1, _, e1⟩ := Res.then_ex e
  obtain ⟨e2, _⟩ := optR_ex e1
  exact sortedS_l e2⟩
end
end Ev
namespace L2
open PySem PySem.Spec PyProof.Rows
section
variable {X : Cx} {a b c d : Expr} {ta tb tc td : TE} {pos : Pos}
/-- a op1 b op2 c op3 d -/
def tChain3 (r r' r'' : R2) (ta tb tc td : TE) : TE := fun σ H Q => ta σ H fun x H1 => tb σ H1 fun y H2 => r x y H2 fun z H3 => ∃ k, z = .bl k ∧
  (if k = true then tc σ H3 fun w' H4 => r' y w' H4 fun z2 H5 => ∃ k2, z2 = .bl k2 ∧ (if k2 = true then td σ H5 fun w2 H6 => r'' w' w2 H6 Q else Q (.bl false) H5) else Q (.bl false) H3)
theorem pe_chain3 {op op' op'' : CmpOp} {r r' r'' : R2} (ho : OpR X (compareOp op) r) (ho' : OpR X (compareOp op') r') (ho'' : OpR X (compareOp op'') r'') (ha : PE X a ta) (hb : PE X b tb) (hc : PE X c tc) (hd : PE X d td)
    (hm : lastMarks [op, op', op''] [b, c, d] = false := by with_unfolding_all rfl) : PE X (.Compare a [op, op', op''] [b, c, d] pos) (tChain3 r r' r'' ta tb tc td) := by
  refine ⟨fun pins s σ H Q I h => ?_⟩
  refine Compare_chain (thn (ha.run pins s σ H _ I h) fun v s1 ⟨x, H1, I1, r1, q1⟩ => chain_link (thn (hb.run pins s1 σ H1 _ I1 q1) fun u s2 ⟨y, H2, I2, r2, q2⟩ =>
    thn (ho pins s2 σ H2 x y v u _ I2 r1 r2 q2) fun dd s3 ⟨z, H3, I3, r3, k, e, q3⟩ => ?_)) hm
  subst e
  cases r3
  refine wpAny_truthy_bool ?_
  cases k with
  | false => exact ite_ff ⟨.bl false, H3, I3, rfl, q3⟩
  | true =>
    refine ite_tt (chain_link (thn (hc.run pins s3 σ H3 _ I3 q3) fun w' s4 ⟨z', H4, I4, r4, q4⟩ => thn (ho' pins s4 σ H4 y z' u w' _ I4 r2 r4 q4) fun d2 s5 ⟨z2, H5, I5, r5, k2, e2, q5⟩ => ?_))
    subst e2
    cases r5
    refine wpAny_truthy_bool ?_
    cases k2 with
    | false => exact ite_ff ⟨.bl false, H5, I5, rfl, q5⟩
    | true => exact ite_tt (chain_last (thn (hd.run pins s5 σ H5 _ I5 q5) fun w2 s6 ⟨z3, H6, I6, r6, q6⟩ => ho'' pins s6 σ H6 z' z3 w' w2 Q I6 r4 r6 q6))
theorem pt_chain3 {op op' op'' : CmpOp} {r r' r'' : R2} (ho : OpR X (compareOp op) r) (ho' : OpR X (compareOp op') r') (ho'' : OpR X (compareOp op'') r'') (ha : PE X a ta) (hb : PE X b tb) (hc : PE X c tc) (hd : PE X d td)
    (hm : lastMarks [op, op', op''] [b, c, d] = false := by with_unfolding_all rfl) : PT X (.Compare a [op, op', op''] [b, c, d] pos) (tTest (tChain3 r r' r'' ta tb tc td)) := by
  refine ⟨fun pins s σ H Q I h => ?_⟩
  refine isTrue_chain (thn (ha.run pins s σ H _ I h) fun v s1 ⟨x, H1, I1, r1, q1⟩ => test_link (thn (hb.run pins s1 σ H1 _ I1 q1) fun u s2 ⟨y, H2, I2, r2, q2⟩ =>
    thn (ho pins s2 σ H2 x y v u _ I2 r1 r2 q2) fun dd s3 ⟨z, H3, I3, r3, k, e, q3⟩ => ?_)) hm
  subst e
  cases r3
  refine wpAny_truthy_bool ?_
  cases k with
  | false =>
    obtain ⟨k', e', q'⟩ := q3
    cases e'
    exact ite_ff ⟨H3, I3, q'⟩
  | true =>
    refine ite_tt (test_link (thn (hc.run pins s3 σ H3 _ I3 q3) fun w' s4 ⟨z', H4, I4, r4, q4⟩ => thn (ho' pins s4 σ H4 y z' u w' _ I4 r2 r4 q4) fun d2 s5 ⟨z2, H5, I5, r5, k2, e2, q5⟩ => ?_))
    subst e2
    cases r5
    refine wpAny_truthy_bool ?_
    cases k2 with
    | false =>
      obtain ⟨k', e', q'⟩ := q5
      cases e'
      exact ite_ff ⟨H5, I5, q'⟩
    | true =>
      refine ite_tt (test_last (thn (hd.run pins s5 σ H5 _ I5 q5) fun w2 s6 ⟨z3, H6, I6, r6, q6⟩ => thn (ho'' pins s6 σ H6 z' z3 w' w2 _ I6 r4 r6 q6) fun d3 s7 ⟨z4, H7, I7, r7, k3, e3, q7⟩ => ?_))
      subst e3
      cases r7
      exact wpAny_truthy_bool ⟨H7, I7, q7⟩
end
end L2
namespace Ev
open PySem PySem.Spec PyProof.Rows L2
def chn3 (f' f'' : D → D → Option D) (sc sd : SE) (ρ : DEnv) (y : D) : D → Sto → Res D
  | .bl true, S3 => (sc ρ S3).then fun w S4 => (optR (f' y w) S4).then fun z S5 => match z with
    | .bl true => (sd ρ S5).then fun w2 S6 => optR (f'' w w2) S6
    | .bl false => .ok (.bl false) S5
    | _ => .bad
  | .bl false, S3 => .ok (.bl false) S3
  | _, _ => .bad
def sChain3 (f f' f'' : D → D → Option D) (sa sb sc sd : SE) : SE := fun ρ S => (sa ρ S).then fun x S1 => (sb ρ S1).then fun y S2 => (optR (f x y) S2).then (chn3 f' f'' sc sd ρ y)
section
variable {X : Cx} {own : List Nat} {a b c d : Expr} {sa sb sc sd : SE} {pos : Pos}
@[simp] theorem e_chain3 (f f' f'' : D → D → Option D) (ρ : DEnv) (S : Sto) : sChain3 f f' f'' sa sb sc sd ρ S = (sa ρ S).then fun x S1 => (sb ρ S1).then fun y S2 => (optR (f x y) S2).then (chn3 f' f'' sc sd ρ y) := rfl
@[simp] theorem chn3_f (f' f'' : D → D → Option D) (ρ : DEnv) (y : D) (S : Sto) : chn3 f' f'' sc sd ρ y (.bl false) S = .ok (.bl false) S := rfl
@[simp] theorem chn3_t (f' f'' : D → D → Option D) (ρ : DEnv) (y : D) (S : Sto) : chn3 f' f'' sc sd ρ y (.bl true) S = (sc ρ S).then fun w S4 => (optR (f' y w) S4).then (chn f'' sd ρ w) := by
  show ((sc ρ S).then fun w S4 => _) = _
  congr 1
  funext w S4
  congr 1
  funext z S5
  cases z with
  | bl k => cases k <;> rfl
  | _ => rfl
theorem chain3_of {f f' f'' : D → D → Option D} {r r' r'' : R2} (hf : Op2 X f r) (hf' : Op2 X f' r') (hf'' : Op2 X f'' r'') {σ : L2.St} {H : Hp} {Q : VK} (h : tE X own (sChain3 f f' f'' sa sb sc sd) σ H Q) : tChain3 r r' r'' (tR X own sa) (tR X own sb) (tR X own sc) (tR X own sd) σ H Q := by
  obtain ⟨g0, H0, ρ, g, S, E, q⟩ := h
  obtain ⟨d, S', e1, k⟩ := Res.post_ex q
  obtain ⟨x, S1, e2, e1⟩ := Res.then_ex e1
  obtain ⟨y, S2, e3, e1⟩ := Res.then_ex e1
  obtain ⟨z, S3, e4, e1⟩ := Res.then_ex e1
  obtain ⟨e4', eS⟩ := optR_ex e4
  subst eS
  refine ⟨g0, H0, ρ, g, S, E, ?_⟩
  rw [e2]
  intro v g1 H1 G1 s1 r1
  refine ⟨g0, H0, ρ, g1, S1, E.step G1 s1, ?_⟩
  rw [e3]
  intro v2 g2 H2 G2 s2 r2
  refine hf g2 H2 S2 v v2 x y z _ G2 (r1.step s2) r2 e4' fun v3 g3 H3 G3 s3 r3 => ?_
  cases z with
  | bl bz =>
    cases r3
    refine ⟨bz, rfl, ?_⟩
    cases bz with
    | false =>
      rw [if_neg Bool.false_ne_true]
      have e1' : (Res.ok (.bl false) S2 : Res D) = .ok d S' := e1
      cases e1'
      exact k _ g3 H3 G3 ((s1.trans s2).trans s3) (.bl false)
    | true =>
      rw [if_pos rfl]
      rw [chn3_t] at e1
      obtain ⟨w, S4, e5, e6⟩ := Res.then_ex e1
      obtain ⟨z2, S5, e7, e8⟩ := Res.then_ex e6
      obtain ⟨e7', eS⟩ := optR_ex e7
      subst eS
      refine ⟨g0, H0, ρ, g3, S2, E.step G3 ((s1.trans s2).trans s3), ?_⟩
      rw [e5]
      intro v4 g4 H4 G4 s4 r4
      refine hf' g4 H4 S4 v2 v4 y w z2 _ G4 ((r2.step s3).step s4) r4 e7' fun v5 g5 H5 G5 s5 r5 => ?_
      cases z2 with
      | bl bz2 =>
        cases r5
        refine ⟨bz2, rfl, ?_⟩
        cases bz2 with
        | false =>
          rw [if_neg Bool.false_ne_true]
          have e1' : (Res.ok (.bl false) S4 : Res D) = .ok d S' := e8
          cases e1'
          exact k _ g5 H5 G5 ((((s1.trans s2).trans s3).trans s4).trans s5) (.bl false)
        | true =>
          rw [if_pos rfl]
          have e1' : ((sd ρ S4).then fun w2 S6 => optR (f'' w w2) S6) = .ok d S' := e8
          obtain ⟨w2, S6, e9, e10⟩ := Res.then_ex e1'
          obtain ⟨e10', eS⟩ := optR_ex e10
          subst eS
          refine ⟨g0, H0, ρ, g5, S4, E.step G5 ((((s1.trans s2).trans s3).trans s4).trans s5), ?_⟩
          rw [e9]
          intro v6 g6 H6 G6 s6 r6
          exact hf'' g6 H6 S6 v4 v6 w w2 d Q G6 ((r4.step s5).step s6) r6 e10' fun v7 g7 H7 G7 s7 r7 => k v7 g7 H7 G7 ((((((s1.trans s2).trans s3).trans s4).trans s5).trans s6).trans s7) r7
      | _ => cases e8
  | _ => cases e1
theorem sim_chain3 {op op' op'' : CmpOp} {f f' f'' : D → D → Option D} {r r' r'' : R2} (ho : OpR X (compareOp op) r) (ho' : OpR X (compareOp op') r') (ho'' : OpR X (compareOp op'') r'') (hf : Op2 X f r) (hf' : Op2 X f' r') (hf'' : Op2 X f'' r'') (ha : SimR X own a sa) (hb : SimR X own b sb) (hc : SimR X own c sc) (hd : SimR X own d sd)
    (hm : lastMarks [op, op', op''] [b, c, d] = false := by with_unfolding_all rfl) : SimE X own (.Compare a [op, op', op''] [b, c, d] pos) (sChain3 f f' f'' sa sb sc sd) :=
  pe_weak (pe_chain3 ho ho' ho'' ha hb hc hd hm) fun _ _ _ h => chain3_of hf hf' hf'' h
theorem sim_chain3T {op op' op'' : CmpOp} {f f' f'' : D → D → Option D} {r r' r'' : R2} (ho : OpR X (compareOp op) r) (ho' : OpR X (compareOp op') r') (ho'' : OpR X (compareOp op'') r'') (hf : Op2 X f r) (hf' : Op2 X f' r') (hf'' : Op2 X f'' r'') (ha : SimR X own a sa) (hb : SimR X own b sb) (hc : SimR X own c sc) (hd : SimR X own d sd)
    (hm : lastMarks [op, op', op''] [b, c, d] = false := by with_unfolding_all rfl) : SimT X own (.Compare a [op, op', op''] [b, c, d] pos) (sBool (sChain3 f f' f'' sa sb sc sd)) :=
  pt_weak (pt_chain3 ho ho' ho'' ha hb hc hd hm) fun _ _ _ h => chain3_of hf hf' hf'' (sBool_of h)
/-! ### a call whose changing objects are its own: they are forgotten behind it -/
def pureD : Res D → Sto → Res D
  | .ok d _, S => if noM d then .ok d S else .bad
  | .bad, _ => .bad
def sCallD (m : List D → M D) (sas : List (Bool × SE)) : SE := fun ρ S => (sArgs sas ρ S).then fun ds S1 => if noMs ds then pureD (m ds []) S1 else .bad
@[simp] theorem e_callD (m : List D → M D) (sas : List (Bool × SE)) (ρ : DEnv) (S : Sto) : sCallD m sas ρ S = (sArgs sas ρ S).then fun ds S1 => if noMs ds then pureD (m ds []) S1 else .bad := rfl
@[simp] theorem pureD_ok (d : D) (S' S : Sto) : pureD (.ok d S') S = if noM d then .ok d S else .bad := rfl
theorem sim_callD {e : Expr} {es : List Expr} {sas : List (Bool × SE)} {p : Pos} {x : Str} {m : List D → M D} {n k : Nat} (F : GF X.prog X.w X.K X.mg X.base k x n m) (hr : Room k X.A) (hg : Gl X x) (ha : SimA X own (e :: es) sas) (hn : sas.length = n := by rfl) (hst : (sas.all fun a => !a.1) = true := by rfl) (hdb : (x == ("__debug__" : Str)) = false := by decide)
    (he : starEach (e :: es) X.env = (false, eval e X.env) :: starEach es X.env := by rfl) (hpl : (backTo pos (starEach es X.env)).any (·.1) = false := by rfl) : SimE X own (.Call (.Name x p) (e :: es) [] pos) (sCallD m sas) := by
  obtain ⟨f, fd, ps, hm, hk, hb, F⟩ := F.ex
  refine pe_weak (pe_call F hr hg hm hk hb .nil pass0 ha hdb he hpl) fun σ H Q ⟨g0, H0, ρ, g, S, E, q⟩ => ?_
  obtain ⟨d, S', e1, kk⟩ := Res.post_ex q
  obtain ⟨ds, S1, e2, e1⟩ := Res.then_ex e1
  have e1 : (if noMs ds then pureD (m ds []) S1 else .bad) = .ok d S' := e1
  by_cases hno : noMs ds = true
  · rw [if_pos hno] at e1
    cases em : m ds [] with
    | bad => rw [em] at e1; cases e1
    | ok d2 S2 =>
      rw [em] at e1
      have e1' : (if noM d2 then Res.ok d2 S1 else .bad) = .ok d S' := e1
      by_cases hd : noM d2 = true
      · rw [if_pos hd] at e1'
        cases e1'
        refine ⟨g0, H0, ρ, g, S, E, ?_⟩
        have hl := sArgs_len hst e2
        rw [e2]
        intro vs g1 H1 G1 s1 r1
        rw [List.append_nil]
        refine ⟨⟨g1.F, [], g1.me⟩, ds, [], ⟨G1.sub, List.nodup_nil, rfl, fun a h => (nomatch h), fun i a h => (nomatch (show ([] : List Addr)[i]? = some a from h))⟩, Reps.noM (g := g1) (g' := ⟨g1.F, [], g1.me⟩) (Same.refl _) r1 hno, by rw [hl, hn], ?_⟩
        rw [em]
        intro v g' H' G' s' r'
        have kp : ∀ a o, H1 a = some o → H' a = some o := fun a o h => s'.keep a o h (fun z => nomatch z)
        have G2 : GOk X.K X.mg ⟨g'.F, g1.as, g1.me⟩ H' S' := by
          refine ⟨G'.sub, G1.nd, G1.len, fun a ha => ?_, fun i a h => ?_⟩
          · obtain ⟨i, hi, e⟩ := List.mem_iff_getElem.mp ha
            obtain ⟨o, mm, h1, h2, h3⟩ := G1.st i a (by rw [List.getElem?_eq_getElem hi, e])
            rcases G1.nf a ha with z | ⟨ob, kvs, z⟩
            · exact .inl (s'.stay h1 z (fun z => nomatch z) h3.ne_tup).1
            · exact .inr ⟨ob, kvs, s'.le.F _ _ z⟩
          · obtain ⟨o, mm, h1, h2, h3⟩ := G1.st i a h
            exact ⟨o, mm, kp _ _ h1, h2, h3.mono0 (g := g1) (g' := ⟨g'.F, g1.as, g1.me⟩) s'.le.F fun _ _ h => h⟩
        have s2 : Stp g1 H1 ⟨g'.F, g1.as, g1.me⟩ H' := by
          refine ⟨⟨s'.le.F, fun _ _ h => h, rfl⟩, fun a o h _ => kp a o h, s'.there, fun a h => ?_, fun _ h => .inl h⟩
          rcases s'.newF a h with z | z | z | z
          · exact .inl z
          · exact .inr (.inl z)
          · cases z
          · exact .inr (.inr (.inr z))
        exact kk v _ H' G2 (s1.trans s2) (Rep.noM (g := g') (g' := ⟨g'.F, g1.as, g1.me⟩) (Same.refl _) r' hd)
      · rw [if_neg hd] at e1'
        cases e1'
  · rw [if_neg hno] at e1
    cases e1
end
end Ev
namespace Ev
open PySem PySem.Spec PyProof.Rows L2
/-! ### range(i, j, c) -/
def dRangeC : List D → Option (List D)
  | [.int i, .int j, .int c] => if decide (c ≠ 0) && (decide (c.natAbs < 1000000) && (Builtin.Range.small i j c && decide (0 ≤ Builtin.Range.rangeSize i j c))) then some (rangeC i c (Builtin.Range.rangeSize i j c).toNat) else none
  | _ => none
def sItRC (sas : List (Bool × SE)) : SI := fun ρ S => (sArgs sas ρ S).then fun ds S' => optR (dRangeC ds) S'
@[simp] theorem e_itRC (sas : List (Bool × SE)) (ρ : DEnv) (S : Sto) : sItRC sas ρ S = (sArgs sas ρ S).then fun ds S' => optR (dRangeC ds) S' := rfl
section
variable {X : Cx} {own : List Nat} {a b c e : Expr} {sas : List (Bool × SE)}
theorem simi_rangeC {tg : Expr} (hpi : ∀ {ta : TA}, PA X [a, b, c] ta → PI X tg e (iRng3 ta)) (ha : SimA X own [a, b, c] sas) (hl : sas.length = 3 := by rfl) (hst : (sas.all fun a => !a.1) = true := by rfl) : SimI X own tg e (sItRC sas) :=
  pi_weak (hpi ha) fun σ H R ⟨g0, H0, ρ, g, S, E, q⟩ => by
    obtain ⟨ds, S', e1, k⟩ := Res.post_ex q
    obtain ⟨as, S1, e2, e1⟩ := Res.then_ex e1
    obtain ⟨e3, eS⟩ := optR_ex e1
    subst eS
    refine ⟨g0, H0, ρ, g, S, E, ?_⟩
    rw [e2]
    intro vs g1 H1 G1 s1 r1
    unfold dRangeC at e3
    split at e3
    · rename_i i j c
      split at e3
      · rename_i hj
        cases e3
        rw [Bool.and_eq_true, Bool.and_eq_true, Bool.and_eq_true, decide_eq_true_eq, decide_eq_true_eq, decide_eq_true_eq] at hj
        obtain ⟨h1, h2, h3, h4⟩ := hj
        cases r1 with
        | cons ra rr => cases rr with
          | cons rb rr => cases rr with
            | cons rc rr =>
              cases rr
              cases ra
              cases rb
              cases rc
              exact ⟨i, j, c, _, rfl, ⟨h1, by omega, h3, (Int.toNat_of_nonneg h4).symm⟩, k _ g1 H1 G1 s1 wk_rangeC⟩
      · cases e3
    · cases e3
end
end Ev
namespace K83
open PySem PySem.Spec PyProof.Rows L2 Ev
abbrev at_kerf : List Str := ["Shop"]
abbrev at_layers : List Str := ["Stopped"]
abbrev at_patterns : List Str := ["Split"]
abbrev at_pieces : List Str := ["Shop"]
abbrev at_stocks : List Str := ["Shop"]
abbrev OWN : List Str := ["Shop", "Split", "Stopped"]
def FUEL : Nat := 100000
/- _law_draw(pen, many): 0 pen 1 many 2 cell 3 digit 4 blend -/
def b__law_draw : SS := (sSeq (sPut (sVar 0) (sC (.str "count")) (sOp2 dAdd (sGet (sVar 0) (sC (.str "count"))) (sC (.int 1)))) (sSeq (sIfS (sAndB (sBool (sOp2 dEq (sGet (sVar 0) (sC (.str "digits"))) (sC (.int 0)))) (sBool (sOp2 dLt (sGet (sVar 0) (sC (.str "at"))) (sCallN dLen [(false, (sGet (sVar 0) (sC (.str "cells"))))])))) (sSeq (sSet 2 (sOp2 dIx (sGet (sVar 0) (sC (.str "cells"))) (sGet (sVar 0) (sC (.str "at"))))) (sSeq (sPut (sVar 0) (sC (.str "at")) (sOp2 dAdd (sGet (sVar 0) (sC (.str "at"))) (sC (.int 1)))) (sIfS (sBool (sOp2 dGe (sVar 2) (sOp2 dPow (sC (.int 10)) (sC (.int 18))))) (sPut (sVar 0) (sC (.str "digits")) (sOp2 dSub (sVar 2) (sOp2 dPow (sC (.int 10)) (sC (.int 18))))) (sPut (sVar 0) (sC (.str "fold")) (sOp2 dMod (sCallN dIntOf [(false, (sOp2 dAdd (sOp2 dMulA (sGet (sVar 0) (sC (.str "fold"))) (sC (.int 69069))) (sVar 2)))]) (sC (.int 2147483587))))))) sNext) (sSeq (sIfS (sBool (sOp2 dGt (sGet (sVar 0) (sC (.str "digits"))) (sC (.int 0)))) (sSeq (sSet 3 (sOp2 dMod (sCallN dIntOf [(false, (sGet (sVar 0) (sC (.str "digits"))))]) (sVar 1))) (sSeq (sPut (sVar 0) (sC (.str "digits")) (sOp2 dFdiv (sGet (sVar 0) (sC (.str "digits"))) (sVar 1))) (sRet (sVar 3)))) sNext) (sSeq (sSet 4 (sOp2 dMod (sCallN dIntOf [(false, (sOp2 dAdd (sOp2 dAdd (sOp2 dMulA (sGet (sVar 0) (sC (.str "fold"))) (sC (.int 48271))) (sOp2 dMulA (sGet (sVar 0) (sC (.str "count"))) (sC (.int 7919)))) (sC (.int 13))))]) (sC (.int 2147483647)))) (sSeq (sSet 4 (sOp2 dMod (sCallN dIntOf [(false, (sOp2 dAdd (sOp2 dAdd (sOp2 dMulA (sVar 4) (sVar 4)) (sOp2 dMulA (sC (.int 31)) (sVar 4))) (sGet (sVar 0) (sC (.str "count")))))]) (sC (.int 2147483629)))) (sSeq (sPut (sVar 0) (sC (.str "fold")) (sOp2 dMod (sCallN dIntOf [(false, (sOp2 dAdd (sOp2 dMulA (sVar 4) (sC (.int 16807))) (sC (.int 7))))]) (sC (.int 2147483647)))) (sRet (sOp2 dMod (sCallN dIntOf [(false, (sOp2 dFdiv (sVar 4) (sC (.int 64))))]) (sVar 1)))))))))
def m__law_draw : List D → M D := runD 5 b__law_draw
/- _law_pick(pen, some): 0 pen 1 some -/
def b__law_pick : SS := (sRet (sOp2 dIx (sVar 1) (sCall m__law_draw [(false, (sVar 0)), (false, (sCallN dLen [(false, (sVar 1))]))])))
def m__law_pick : List D → M D := runD 2 b__law_pick
/- as_tuples(value): 0 value 1 one -/
def b_as_tuples (m_rec : List D → M D) : SS := (sSeq (sIfS (sTru (sIsi ["list", "tuple"] (sVar 0))) (sRet (sCallN dTupOf [(false, (sComp [1] (sItA (sVar 0)) (gN 1) sYes (sCall m_rec [(false, (sVar 1))])))])) sNext) (sRet (sVar 0)))
def r_as_tuples : Nat → List D → M D
  | 0 => fun _ _ => .bad
  | n + 1 => runD 2 (b_as_tuples (r_as_tuples n))
def m_as_tuples : List D → M D := r_as_tuples 12
/- __init__(self, patterns): 0 self 1 patterns -/
def b_Split_init : SS := (sFldI 0 at_patterns "patterns" (sCall m_as_tuples [(false, (sVar 1))]))
def m_Split_init : List D → M D := runI 2 "Split" b_Split_init
/- __init__(self, layers): 0 self 1 layers -/
def b_Stopped_init : SS := (sFldI 0 at_layers "layers" (sCall m_as_tuples [(false, (sVar 1))]))
def m_Stopped_init : List D → M D := runI 2 "Stopped" b_Stopped_init
/- _law_bent(pen, shop, paper): 0 pen 1 shop 2 paper 3 many 4 rows 5 at 6 some 7 row 8 news 9 layer 10 lap -/
def b__law_bent : SS := (sSeq (sSet 3 (sCallN dLen [(false, (sOp2 dIx (sVar 1) (sC (.int 1))))])) (sSeq (sIfS (sTru (sIsC OWN "Split" (sVar 2))) (sSeq (sSet 4 (sAttr at_patterns "patterns" (sVar 2))) (sSeq (sSet 5 (sCall m__law_draw [(false, (sVar 0)), (false, (sCallN dMax [(false, (sC (.int 1))), (false, (sCallN dLen [(false, (sVar 4))]))]))])) (sSeq (sSet 6 (sLst [(false, (sSlice (sVar 4) (sPart (sC (.int 1))) sNoPart)), (false, (sRev (sVar 4))), (false, (sOp2 dAdd (sVar 4) (sTup [(false, (sOp2 dMulA (sTup [(false, (sC (.int 0)))]) (sVar 3)))]))), (false, (sCallN dLstOf [(false, (sVar 4))])), (false, (sC .non)), (false, (sOp2 dMulA (sTup [(false, (sOp2 dMulA (sTup [(false, (sC (.int 0)))]) (sVar 3)))]) (sCallN dLen [(false, (sVar 4))])))])) (sSeq (sIfS (sBool (sOp2 dNe (sVar 4) (sTup []))) (sSeq (sSet 7 (sOp2 dIx (sVar 4) (sVar 5))) (sSeq (sSet 8 (sLst [(false, (sOp2 dAdd (sSlice (sVar 7) sNoPart (sPart (sOp1 dNeg (sC (.int 1))))) (sTup [(false, (sOp2 dAdd (sOp2 dIx (sVar 7) (sOp1 dNeg (sC (.int 1)))) (sC (.int 1))))]))), (false, (sOp2 dMulA (sTup [(false, (sC (.int 0)))]) (sVar 3))), (false, (sSlice (sVar 7) (sPart (sC (.int 1))) sNoPart)), (false, (sC .non)), (false, (sCallN dLstOf [(false, (sVar 7))])), (false, (sOp2 dMulA (sTup [(false, (sC (.bl true)))]) (sVar 3))), (false, (sOp2 dMulA (sTup [(false, (sOp1 dNeg (sC (.int 1))))]) (sVar 3))), (false, (sOp2 dIx (sVar 4) (sOp2 dSub (sVar 5) (sC (.int 1)))))])) (sSet 6 (sOp2 dCatF (sVarR 6) (sComp [10] (sItR [(false, (sC (.int 4)))]) (gN 10) sYes (sOp2 dAdd (sOp2 dAdd (sSlice (sVar 4) sNoPart (sPart (sVar 5))) (sTup [(false, (sCall m__law_pick [(false, (sVar 0)), (false, (sVar 8))]))])) (sSlice (sVar 4) (sPart (sOp2 dAdd (sVar 5) (sC (.int 1)))) sNoPart))))))) sNext) (sRet (sCall m__law_pick [(false, (sVar 0)), (false, (sOp2 dCatF (sOp2 dRepF (sLst [(false, (sCall m_Split_init [(false, (sCall m__law_pick [(false, (sVar 0)), (false, (sVar 6))]))]))]) (sC (.int 5))) (sLst [(false, (sVar 4)), (false, (sC .non))])))])))))) sNext) (sSeq (sSet 4 (sAttr at_layers "layers" (sVar 2))) (sSeq (sSet 5 (sCall m__law_draw [(false, (sVar 0)), (false, (sCallN dLen [(false, (sVar 4))]))])) (sSeq (sSet 9 (sOp2 dIx (sVar 4) (sVar 5))) (sSeq (sSet 8 (sLst [(false, (sSlice (sVar 9) (sPart (sC (.int 1))) sNoPart)), (false, (sSlice (sVar 9) sNoPart (sPart (sOp1 dNeg (sC (.int 1)))))), (false, (sRev (sVar 9))), (false, (sOp2 dAdd (sVar 9) (sSlice (sVar 9) sNoPart (sPart (sC (.int 1)))))), (false, (sTup [])), (false, (sC .non)), (false, (sCallN dLstOf [(false, (sVar 9))])), (false, (sOp2 dAdd (sVar 9) (sTup [(false, (sOp2 dMulA (sTup [(false, (sC (.int 99)))]) (sVar 3)))]))), (false, (sOp2 dAdd (sVar 9) (sTup [(false, (sOp2 dMulA (sTup [(false, (sC (.int 99)))]) (sOp2 dAdd (sVar 3) (sC (.int 1)))))]))), (false, (sOp2 dAdd (sVar 9) (sTup [(false, (sC .non))]))), (false, (sOp2 dAdd (sTup [(false, (sOp2 dMulA (sTup [(false, (sOp1 dNeg (sC (.int 1))))]) (sVar 3)))]) (sVar 9)))])) (sSeq (sSet 6 (sOp2 dCatF (sComp [10] (sItR [(false, (sC (.int 5)))]) (gN 10) sYes (sOp2 dAdd (sOp2 dAdd (sSlice (sVar 4) sNoPart (sPart (sVar 5))) (sTup [(false, (sCall m__law_pick [(false, (sVar 0)), (false, (sVar 8))]))])) (sSlice (sVar 4) (sPart (sOp2 dAdd (sVar 5) (sC (.int 1)))) sNoPart))) (sLst [(false, (sSlice (sVar 4) (sPart (sC (.int 1))) sNoPart)), (false, (sRev (sVar 4))), (false, (sOp2 dAdd (sVar 4) (sTup [(false, (sTup []))]))), (false, (sCallN dLstOf [(false, (sVar 4))])), (false, (sC .non))]))) (sRet (sCall m__law_pick [(false, (sVar 0)), (false, (sOp2 dCatF (sOp2 dRepF (sLst [(false, (sCall m_Stopped_init [(false, (sCall m__law_pick [(false, (sVar 0)), (false, (sVar 6))]))]))]) (sC (.int 5))) (sLst [(false, (sVar 4)), (false, (sC .non))])))])))))))))
def m__law_bent : List D → M D := runD 11 b__law_bent
/- _law_drawn_faults(pen, length): 0 pen 1 length 2 found 3 at 4 lap 5 high -/
def b__law_drawn_faults : SS := (sSeq (sPar2 2 3 (sLst []) (sCall m__law_draw [(false, (sVar 0)), (false, (sC (.int 4)))])) (sSeq (sFor (sItR [(false, (sCall m__law_draw [(false, (sVar 0)), (false, (sC (.int 4)))]))]) (gN 4) (sSeq (sSet 5 (sOp2 dAdd (sVar 3) (sCall m__law_pick [(false, (sVar 0)), (false, (sLst [(false, (sC (.int 0))), (false, (sC (.int 0))), (false, (sC (.int 1))), (false, (sC (.int 2)))]))]))) (sIfS (sBool (sOp2 dLeA (sVar 5) (sVar 1))) (sSeq (sDropM (mt1 2 mAppend (sPure (sTup [(false, (sVar 3)), (false, (sVar 5))])))) (sSet 3 (sOp2 dAdd (sOp2 dAdd (sVar 5) (sC (.int 1))) (sCall m__law_draw [(false, (sVar 0)), (false, (sC (.int 6)))])))) sNext))) (sRet (sCallN dTupOf [(false, (sVarR 2))]))))
def m__law_drawn_faults : List D → M D := runD 6 b__law_drawn_faults
/- _law_name(pen): 0 pen 1 letters 2 signs 3 long 4 lap -/
def b__law_name : SS := (sSeq (sPar2 1 2 (sC (.str "abcdefghijklmnopqrstuvwxyz")) (sC (.str "abcdefghijklmnopqrstuvwxyz0123456789"))) (sSeq (sSet 3 (sOp2 dIx (sLst [(false, (sC (.int 0))), (false, (sC (.int 0))), (false, (sC (.int 1))), (false, (sC (.int 2))), (false, (sC (.int 5))), (false, (sC (.int 11)))]) (sCall m__law_draw [(false, (sVar 0)), (false, (sC (.int 6)))]))) (sRet (sOp2 dAdd (sCall m__law_pick [(false, (sVar 0)), (false, (sVar 1))]) (sOp2 dJoin (sC (.str "")) (sComp [4] (sItR [(false, (sVar 3))]) (gN 4) sYes (sCall m__law_pick [(false, (sVar 0)), (false, (sVar 2))])))))))
def m__law_name : List D → M D := runD 5 b__law_name
/- _law_names(pen, many): 0 pen 1 many 2 found 3 lap 4 name -/
def b__law_names : SS := (sSeq (sSet 2 (sLst [])) (sSeq (sFor (sItR [(false, (sVar 1))]) (gN 3) (sSeq (sSet 4 (sCall m__law_name [(false, (sVar 0))])) (sSeq (sIfS (sBool (sOp2 (dInA false) (sVar 4) (sVarR 2))) (sSet 4 (sOp2 dAdd (sOp2 dAdd (sC (.str "z")) (sCallN dStrOf [(false, (sVar 3))])) (sC (.str "q")))) sNext) (sSeq (whL FUEL (sBool (sOp2 (dInA false) (sVar 4) (sVarR 2))) (sSet 4 (sOp2 dAdd (sVar 4) (sC (.str "0"))))) (sDropM (mt1 2 mAppend (sPure (sVar 4)))))))) (sRet (sCallN dTupOf [(false, (sVarR 2))]))))
def m__law_names : List D → M D := runD 5 b__law_names
/- _law_few_shop(pen, stocks, pieces): 0 pen 1 stocks 2 pieces 3 names 4 kerf 5 bars 6 some 7 at -/
def b__law_few_shop : SS := (sSeq (sPar2 3 4 (sCall m__law_names [(false, (sVar 0)), (false, (sOp2 dAdd (sVar 1) (sVar 2)))]) (sCall m__law_pick [(false, (sVar 0)), (false, (sLst [(false, (sC (.int 0))), (false, (sC (.int 0))), (false, (sC (.int 1))), (false, (sC (.int 2)))]))])) (sSeq (sSet 5 (sComp [7] (sItR [(false, (sOp2 dAdd (sC (.int 1)) (sCall m__law_draw [(false, (sVar 0)), (false, (sVar 1))])))]) (gN 7) sYes (sTup [(false, (sOp2 dIx (sVar 3) (sVar 7))), (false, (sOp2 dAdd (sC (.int 5)) (sCall m__law_draw [(false, (sVar 0)), (false, (sC (.int 10)))]))), (false, (sCall m__law_pick [(false, (sVar 0)), (false, (sLst [(false, (sC .non)), (false, (sCall m__law_draw [(false, (sVar 0)), (false, (sC (.int 5)))]))]))])), (false, (sCall m__law_draw [(false, (sVar 0)), (false, (sC (.int 6)))]))]))) (sSeq (sSet 6 (sComp [7] (sItR [(false, (sOp2 dAdd (sC (.int 1)) (sCall m__law_draw [(false, (sVar 0)), (false, (sVar 2))])))]) (gN 7) sYes (sTup [(false, (sOp2 dIx (sVar 3) (sOp2 dAdd (sVar 1) (sVar 7)))), (false, (sOp2 dAdd (sC (.int 2)) (sCall m__law_draw [(false, (sVar 0)), (false, (sC (.int 6)))]))), (false, (sCall m__law_draw [(false, (sVar 0)), (false, (sC (.int 4)))]))]))) (sRet (sTup [(false, (sCallN dTupOf [(false, (sVarR 5))])), (false, (sCallN dTupOf [(false, (sVarR 6))])), (false, (sVar 4))])))))
def m__law_few_shop : List D → M D := runD 8 b__law_few_shop
/- _law_free(length, faults): 0 length 1 faults 2 ends 3 low 4 high 5 at -/
def b__law_free : SS := (sSeq (sSet 2 (sLst [(false, (sC (.int 0)))])) (sSeq (sFor (sItA (sVar 1)) (gT [(gN 3), (gN 4)]) (sSet 2 (sOp2 dCatF (sVarR 2) (sLst [(false, (sVar 3)), (false, (sVar 4))])))) (sSeq (sDropM (mt1 2 mAppend (sPure (sVar 0)))) (sRet (sCallN dTupOf [(false, (sComp [5] (sItRC [(false, (sC (.int 0))), (false, (sCallN dLen [(false, (sVarR 2))])), (false, (sC (.int 2)))]) (gN 5) (sBool (sOp2 dGtA (sOp2 dIx (sVarR 2) (sOp2 dAdd (sVar 5) (sC (.int 1)))) (sOp2 dIx (sVarR 2) (sVar 5)))) (sOp2 dSub (sOp2 dIx (sVarR 2) (sOp2 dAdd (sVar 5) (sC (.int 1)))) (sOp2 dIx (sVarR 2) (sVar 5)))))])))))
def m__law_free : List D → M D := runD 6 b__law_free
/- _law_is(told, due): 0 told 1 due 2 at -/
def b__law_is (m_rec : List D → M D) : SS := (sSeq (sIfS (sTru (sIsi ["tuple"] (sVar 1))) (sSeq (sIfS (sOrB (sNotB (sTru (sIsi ["tuple"] (sVar 0)))) (sBool (sOp2 dNe (sCallN dLen [(false, (sVar 0))]) (sCallN dLen [(false, (sVar 1))])))) (sRet (sC (.bl false))) sNext) (sRet (sOp2 dEq (sComp [2] (sItR [(false, (sCallN dLen [(false, (sVar 1))]))]) (gN 2) (sNotB (sTru (sCall m_rec [(false, (sOp2 dIx (sVar 0) (sVar 2))), (false, (sOp2 dIx (sVar 1) (sVar 2)))]))) (sVar 2)) (sLst [])))) sNext) (sSeq (sIfS (sBool (sOp2 (dIsN false) (sVar 1) (sC .non))) (sRet (sOp2 (dIsN false) (sVar 0) (sC .non))) sNext) (sSeq (sIfS (sBool (sOp2 (dIsBX false) (sVar 1) (sC (.bl true)))) (sRet (sOp2 (dIsBX false) (sVar 0) (sC (.bl true)))) sNext) (sSeq (sIfS (sBool (sOp2 (dIsBX false) (sVar 1) (sC (.bl false)))) (sRet (sOp2 (dIsBX false) (sVar 0) (sC (.bl false)))) sNext) (sSeq (sIfS (sTru (sIsi ["str"] (sVar 1))) (sRet (sAndV (sIsi ["str"] (sVar 0)) (sOp2 dEq (sVar 0) (sVar 1)))) sNext) (sRet (sAndV (sIsi ["int"] (sVar 0)) (sAndV (sNotV (sTru (sIsi ["bool"] (sVar 0)))) (sOp2 dEq (sVar 0) (sVar 1))))))))))
def r__law_is : Nat → List D → M D
  | 0 => fun _ _ => .bad
  | n + 1 => runD 3 (b__law_is (r__law_is n))
def m__law_is : List D → M D := r__law_is 12
/- is_whole(value): 0 value -/
def b_is_whole : SS := (sRet (sAndV (sIsi ["int"] (sVar 0)) (sNotV (sTru (sIsi ["bool"] (sVar 0))))))
def m_is_whole : List D → M D := runD 1 b_is_whole
/- is_number(value): 0 value -/
def b_is_number : SS := (sRet (sAndV (sCall m_is_whole [(false, (sVar 0))]) (sOp2 dGe (sVar 0) (sC (.int 0)))))
def m_is_number : List D → M D := runD 1 b_is_number
/- is_length(value): 0 value -/
def b_is_length : SS := (sRet (sAndV (sCall m_is_whole [(false, (sVar 0))]) (sOp2 dGe (sVar 0) (sC (.int 1)))))
def m_is_length : List D → M D := runD 1 b_is_length
/- need_length(length): 0 length -/
def b_need_length : SS := (sIfS (sNotB (sTru (sCall m_is_length [(false, (sVar 0))]))) sBad sNext)
def m_need_length : List D → M D := runD 1 b_need_length
/- is_name(value): 0 value 1 sign -/
def b_is_name : SS := (sSeq (sIfS (sOrB (sNotB (sTru (sIsi ["str"] (sVar 0)))) (sOrB (sNotB (sBool (sChain dLe dLe (sC (.int 1)) (sCallN dLen [(false, (sVar 0))]) (sC (.int 12))))) (sBool (sOp2 (dInA true) (sOp2 dIx (sVar 0) (sC (.int 0))) (sC (.str "abcdefghijklmnopqrstuvwxyz")))))) (sRet (sC (.bl false))) sNext) (sRet (sCallN dAll [(false, (sComp [1] (sItA (sVar 0)) (gN 1) sYes (sOp2 (dInA false) (sVar 1) (sC (.str "abcdefghijklmnopqrstuvwxyz0123456789")))))])))
def m_is_name : List D → M D := runD 2 b_is_name
/- need_new_name(name, ahead): 0 name 1 ahead -/
def b_need_new_name : SS := (sSeq (sIfS (sNotB (sTru (sCall m_is_name [(false, (sVar 0))]))) sBad sNext) (sIfS (sBool (sOp2 (dInA false) (sVar 0) (sVar 1))) sBad sNext))
def m_need_new_name : List D → M D := runD 2 b_need_new_name
/- need_pieces(pieces): 0 pieces 1 ahead 2 row 3 name 4 length 5 wanted -/
def b_need_pieces : SS := (sSeq (sIfS (sOrB (sNotB (sTru (sIsi ["list", "tuple"] (sVar 0)))) (sNotB (sBool (sChain dLe dLe (sC (.int 1)) (sCallN dLen [(false, (sVar 0))]) (sC (.int 6)))))) sBad sNext) (sSeq (sSet 1 (sLst [])) (sFor (sItA (sVar 0)) (gN 2) (sSeq (sIfS (sOrB (sNotB (sTru (sIsi ["tuple"] (sVar 2)))) (sBool (sOp2 dNe (sCallN dLen [(false, (sVar 2))]) (sOp2 dAdd (sC (.int 2)) (sC (.int 1)))))) sBad sNext) (sSeq (sAsg (gT [(gN 3), (gN 4), (gN 5)]) (sVar 2)) (sSeq (sDrop (sCallL m_need_new_name [(false, (sVar 3)), (false, (sVarR 1))])) (sSeq (sDrop (sCall m_need_length [(false, (sVar 4))])) (sSeq (sIfS (sNotB (sTru (sCall m_is_number [(false, (sVar 5))]))) sBad sNext) (sDropM (mt1 1 mAppend (sPure (sVar 3))))))))))))
def m_need_pieces : List D → M D := runD 6 b_need_pieces
/- need_stocks(stocks): 0 stocks 1 ahead 2 row 3 name 4 length 5 many 6 price -/
def b_need_stocks : SS := (sSeq (sIfS (sOrB (sNotB (sTru (sIsi ["list", "tuple"] (sVar 0)))) (sNotB (sBool (sChain dLe dLe (sC (.int 1)) (sCallN dLen [(false, (sVar 0))]) (sC (.int 4)))))) sBad sNext) (sSeq (sSet 1 (sLst [])) (sFor (sItA (sVar 0)) (gN 2) (sSeq (sIfS (sOrB (sNotB (sTru (sIsi ["tuple"] (sVar 2)))) (sBool (sOp2 dNe (sCallN dLen [(false, (sVar 2))]) (sOp2 dAdd (sC (.int 3)) (sC (.int 1)))))) sBad sNext) (sSeq (sAsg (gT [(gN 3), (gN 4), (gN 5), (gN 6)]) (sVar 2)) (sSeq (sDrop (sCallL m_need_new_name [(false, (sVar 3)), (false, (sVarR 1))])) (sSeq (sDrop (sCall m_need_length [(false, (sVar 4))])) (sSeq (sIfS (sAndB (sBool (sOp2 (dIsN true) (sVar 5) (sC .non))) (sNotB (sTru (sCall m_is_number [(false, (sVar 5))])))) sBad sNext) (sSeq (sIfS (sNotB (sTru (sCall m_is_number [(false, (sVar 6))]))) sBad sNext) (sDropM (mt1 1 mAppend (sPure (sVar 3)))))))))))))
def m_need_stocks : List D → M D := runD 7 b_need_stocks
/- __init__(self, stocks, pieces, kerf): 0 self 1 stocks 2 pieces 3 kerf -/
def b_Shop_init : SS := (sSeq (sDrop (sCall m_need_stocks [(false, (sVar 1))])) (sSeq (sDrop (sCall m_need_pieces [(false, (sVar 2))])) (sSeq (sIfS (sNotB (sTru (sCall m_is_number [(false, (sVar 3))]))) sBad sNext) (sSeq (sFldI 0 at_stocks "stocks" (sCallN dTupOf [(false, (sVar 1))])) (sSeq (sFldI 0 at_pieces "pieces" (sCallN dTupOf [(false, (sVar 2))])) (sFldI 0 at_kerf "kerf" (sVar 3)))))))
def m_Shop_init : List D → M D := runI 4 "Shop" b_Shop_init
/- _law_made(shop): 0 shop -/
def b__law_made : SS := (sRet (sCall m_Shop_init [(false, (sOp2 dIx (sVar 0) (sC (.int 0)))), (false, (sOp2 dIx (sVar 0) (sC (.int 1)))), (false, (sOp2 dIx (sVar 0) (sC (.int 2))))]))
def m__law_made : List D → M D := runD 1 b__law_made
/- _law_added(rows, many): 0 rows 1 many 2 piece 3 row -/
def b__law_added : SS := (sRet (sCallN dTupOf [(false, (sComp [2] (sItR [(false, (sVar 1))]) (gN 2) sYes (sCallN dSumA [(false, (sComp [3] (sItA (sVar 0)) (gN 3) sYes (sOp2 dIx (sVar 3) (sVar 2))))])))]))
def m__law_added : List D → M D := runD 4 b__law_added
/- _law_cut(shop, left, piece): 0 shop 1 left 2 piece -/
def b__law_cut : SS := (sSeq (sSet 1 (sOp2 dSub (sVar 1) (sOp2 dIx (sOp2 dIx (sOp2 dIx (sVar 0) (sC (.int 1))) (sVar 2)) (sC (.int 1))))) (sSeq (sIfS (sBool (sOp2 dLt (sVar 1) (sC (.int 0)))) (sRet (sC .non)) sNext) (sRet (sOp2 dSub (sVar 1) (sCallN dMin [(false, (sVar 1)), (false, (sOp2 dIx (sVar 0) (sC (.int 2))))])))))
def m__law_cut : List D → M D := runD 3 b__law_cut
/- _law_patterns(shop, length): 0 shop 1 length 2 rows 3 piece 4 longer 5 row 6 left 7 number -/
def b__law_patterns : SS := (sSeq (sSet 2 (sLst [(false, (sTup [(false, (sTup [])), (false, (sVar 1))]))])) (sSeq (sFor (sItR [(false, (sCallN dLen [(false, (sOp2 dIx (sVar 0) (sC (.int 1))))]))]) (gN 3) (sSeq (sSet 4 (sLst [])) (sSeq (sFor (sItA (sVar 2)) (gT [(gN 5), (gN 6)]) (sSeq (sSet 7 (sC (.int 0))) (whL FUEL (sBool (sOp2 (dIsN true) (sVar 6) (sC .non))) (sSeq (sDropM (mt1 4 mAppend (sPure (sTup [(false, (sOp2 dAdd (sVar 5) (sTup [(false, (sVar 7))]))), (false, (sVar 6))])))) (sPar2 6 7 (sCall m__law_cut [(false, (sVar 0)), (false, (sVar 6)), (false, (sVar 3))]) (sOp2 dAdd (sVar 7) (sC (.int 1)))))))) (sSet 2 (sVar 4))))) (sRet (sComp [5, 6] (sItA (sVar 2)) (gT [(gN 5), (gN 6)]) sYes (sVar 5)))))
def m__law_patterns : List D → M D := runD 8 b__law_patterns
/- _law_out(shop, lengths): 0 shop 1 lengths 2 found 3 length 4 rows 5 later 6 row 7 more -/
def b__law_out : SS := (sSeq (sSet 2 (sLst [(false, (sOp2 dMulA (sTup [(false, (sC (.int 0)))]) (sCallN dLen [(false, (sOp2 dIx (sVar 0) (sC (.int 1))))])))])) (sSeq (sFor (sItA (sVar 1)) (gN 3) (sSeq (sPar2 4 5 (sCall m__law_patterns [(false, (sVar 0)), (false, (sVar 3))]) sDictT0) (sSeq (sFor (sItA (sVar 2)) (gN 6) (sFor (sItA (sVar 4)) (gN 7) (sPut (sVar 5) (sCall m__law_added [(false, (sLst [(false, (sVar 6)), (false, (sVar 7))])), (false, (sCallN dLen [(false, (sVar 6))]))]) (sC (.bl true))))) (sSet 2 (sSorted (sVar 5)))))) (sRet (sVar 2))))
def m__law_out : List D → M D := runD 8 b__law_out
/- _law_pen(script): 0 script 1 fold 2 cell -/
def b__law_pen : SS := (sSeq (sSet 1 (sC (.int 0))) (sSeq (sFor (sItA (sVar 0)) (gN 2) (sSet 1 (sOp2 dMod (sCallN dIntOf [(false, (sOp2 dAdd (sOp2 dMulA (sVar 1) (sC (.int 47))) (sVar 2)))]) (sC (.int 1000000007))))) (sRet (sDict [("cells", (sCallN dLstOf [(false, (sVar 0))])), ("at", (sC (.int 0))), ("digits", (sC (.int 0))), ("count", (sC (.int 0))), ("fold", (sVar 1))]))))
def m__law_pen : List D → M D := runD 3 b__law_pen
/- _law_size(shop, pattern): 0 shop 1 pattern 2 number 3 row -/
def b__law_size : SS := (sRet (sCallN dSumA [(false, (sComp [2, 3] (sItZ (sVar 1) (sOp2 dIx (sVar 0) (sC (.int 1)))) (gT [(gN 2), (gN 3)]) sYes (sOp2 dMulA (sVar 2) (sOp2 dAdd (sOp2 dIx (sVar 3) (sC (.int 1))) (sOp2 dIx (sVar 0) (sC (.int 2)))))))]))
def m__law_size : List D → M D := runD 4 b__law_size
/- _law_gives(shop, length, pattern): 0 shop 1 length 2 pattern -/
def b__law_gives : SS := (sRet (sOrV (sOp2 dEq (sCallN dSumA [(false, (sVar 2))]) (sC (.int 0))) (sOp2 dLe (sCall m__law_size [(false, (sVar 0)), (false, (sVar 2))]) (sOp2 dAdd (sVar 1) (sOp2 dIx (sVar 0) (sC (.int 2)))))))
def m__law_gives : List D → M D := runD 3 b__law_gives
/- _law_whole(value): 0 value -/
def b__law_whole : SS := (sRet (sAndV (sIsi ["int"] (sVar 0)) (sNotV (sTru (sIsi ["bool"] (sVar 0))))))
def m__law_whole : List D → M D := runD 1 b__law_whole
/- _law_is_numbers(value, many): 0 value 1 many 2 one -/
def b__law_is_numbers : SS := (sRet (sAndV (sIsi ["tuple"] (sVar 0)) (sAndV (sOp2 dEq (sCallN dLen [(false, (sVar 0))]) (sVar 1)) (sOp2 dEq (sComp [2] (sItA (sVar 0)) (gN 2) (sOrB (sNotB (sTru (sCall m__law_whole [(false, (sVar 2))]))) (sBool (sOp2 dLt (sVar 2) (sC (.int 0))))) (sVar 2)) (sLst [])))))
def m__law_is_numbers : List D → M D := runD 3 b__law_is_numbers
/- _law_split_right(shop, lengths, pattern, told): 0 shop 1 lengths 2 pattern 3 told 4 row 5 at -/
def b__law_split_right : SS := (sSeq (sIfS (sOrB (sNotB (sTru (sIsC OWN "Split" (sVar 3)))) (sOrB (sNotB (sTru (sIsi ["tuple"] (sAttr at_patterns "patterns" (sVar 3))))) (sBool (sOp2 dNe (sCallN dLen [(false, (sAttr at_patterns "patterns" (sVar 3)))]) (sCallN dLen [(false, (sVar 1))]))))) (sRet (sC (.bl false))) sNext) (sSeq (sIfS (sBool (sOp2 dNe (sComp [4] (sItA (sAttr at_patterns "patterns" (sVar 3))) (gN 4) (sNotB (sTru (sCall m__law_is_numbers [(false, (sVar 4)), (false, (sCallN dLen [(false, (sOp2 dIx (sVar 0) (sC (.int 1))))]))]))) (sVar 4)) (sLst []))) (sRet (sC (.bl false))) sNext) (sSeq (sIfS (sBool (sOp2 dNe (sComp [5] (sItR [(false, (sCallN dLen [(false, (sVar 1))]))]) (gN 5) (sNotB (sTru (sCall m__law_gives [(false, (sVar 0)), (false, (sOp2 dIx (sVar 1) (sVar 5))), (false, (sOp2 dIx (sAttr at_patterns "patterns" (sVar 3)) (sVar 5)))]))) (sVar 5)) (sLst []))) (sRet (sC (.bl false))) sNext) (sRet (sOp2 dEq (sCall m__law_added [(false, (sAttr at_patterns "patterns" (sVar 3))), (false, (sCallN dLen [(false, (sVar 2))]))]) (sVar 2))))))
def m__law_split_right : List D → M D := runD 6 b__law_split_right
/- _law_is_below(row, pattern): 0 row 1 pattern 2 at -/
def b__law_is_below : SS := (sRet (sOp2 dEq (sComp [2] (sItR [(false, (sCallN dLen [(false, (sVar 0))]))]) (gN 2) (sBool (sOp2 dGtA (sOp2 dIx (sVar 0) (sVar 2)) (sOp2 dIx (sVar 1) (sVar 2)))) (sVar 2)) (sLst [])))
def m__law_is_below : List D → M D := runD 3 b__law_is_below
/- _law_stopped_right(shop, lengths, pattern, told): 0 shop 1 lengths 2 pattern 3 told 4 many 5 layer 6 at 7 rows 8 row 9 later 10 more 11 one -/
def b__law_stopped_right : SS := (sSeq (sSet 4 (sCallN dLen [(false, (sOp2 dIx (sVar 0) (sC (.int 1))))])) (sSeq (sIfS (sOrB (sNotB (sTru (sIsC OWN "Stopped" (sVar 3)))) (sOrB (sNotB (sTru (sIsi ["tuple"] (sAttr at_layers "layers" (sVar 3))))) (sBool (sOp2 dNe (sCallN dLen [(false, (sAttr at_layers "layers" (sVar 3)))]) (sOp2 dAdd (sCallN dLen [(false, (sVar 1))]) (sC (.int 1))))))) (sRet (sC (.bl false))) sNext) (sSeq (sFor (sItA (sAttr at_layers "layers" (sVar 3))) (gN 5) (sSeq (sIfS (sOrB (sNotB (sTru (sIsi ["tuple"] (sVar 5)))) (sBool (sOp2 dNe (sComp [8] (sItA (sVar 5)) (gN 8) (sNotB (sTru (sCall m__law_is_numbers [(false, (sVar 8)), (false, (sVar 4))]))) (sVar 8)) (sLst [])))) (sRet (sC (.bl false))) sNext) (sIfS (sBool (sOp2 dNe (sComp [6] (sItR [(false, (sC (.int 1))), (false, (sCallN dLen [(false, (sVar 5))]))]) (gN 6) (sBool (sOp2 dGeA (sOp2 dIx (sVar 5) (sOp2 dSub (sVar 6) (sC (.int 1)))) (sOp2 dIx (sVar 5) (sVar 6)))) (sVar 6)) (sLst []))) (sRet (sC (.bl false))) sNext))) (sSeq (sIfS (sOrB (sBool (sOp2 (dInA true) (sOp2 dMulA (sTup [(false, (sC (.int 0)))]) (sVar 4)) (sOp2 dIx (sAttr at_layers "layers" (sVar 3)) (sC (.int 0))))) (sBool (sOp2 (dInA false) (sVar 2) (sOp2 dIx (sAttr at_layers "layers" (sVar 3)) (sOp1 dNeg (sC (.int 1))))))) (sRet (sC (.bl false))) sNext) (sSeq (sFor (sItR [(false, (sCallN dLen [(false, (sVar 1))]))]) (gN 6) (sSeq (sSet 7 (sCall m__law_patterns [(false, (sVar 0)), (false, (sOp2 dIx (sVar 1) (sVar 6)))])) (sFor (sItA (sOp2 dIx (sAttr at_layers "layers" (sVar 3)) (sVar 6))) (gN 8) (sSeq (sSet 9 (sComp [10] (sItA (sVar 7)) (gN 10) sYes (sCall m__law_added [(false, (sLst [(false, (sVar 8)), (false, (sVar 10))])), (false, (sVar 4))]))) (sIfS (sBool (sOp2 dNe (sComp [11] (sItA (sVar 9)) (gN 11) (sAndB (sTru (sCall m__law_is_below [(false, (sVar 11)), (false, (sVar 2))])) (sBool (sOp2 (dInA true) (sVar 11) (sOp2 dIx (sAttr at_layers "layers" (sVar 3)) (sOp2 dAdd (sVar 6) (sC (.int 1))))))) (sVar 11)) (sLst []))) (sRet (sC (.bl false))) sNext))))) (sRet (sC (.bl true))))))))
def m__law_stopped_right : List D → M D := runD 12 b__law_stopped_right
/- free_by(shop, stock, faults): 0 shop 1 stock 2 faults 3 found 4 start 5 low 6 high 7 length -/
def b_free_by : SS := (sSeq (sPar2 3 4 (sLst []) (sC (.int 0))) (sSeq (sFor (sItA (sVar 2)) (gT [(gN 5), (gN 6)]) (sSeq (sDropM (mt1 3 mAppend (sPure (sOp2 dSub (sVar 5) (sVar 4))))) (sSet 4 (sVar 6)))) (sSeq (sDropM (mt1 3 mAppend (sPure (sOp2 dSub (sOp2 dIx (sOp2 dIx (sAttr at_stocks "stocks" (sVar 0)) (sVar 1)) (sC (.int 1))) (sVar 4))))) (sRet (sCallN dTupOf [(false, (sComp [7] (sItA (sVar 3)) (gN 7) (sBool (sOp2 dGt (sVar 7) (sC (.int 0)))) (sVar 7)))])))))
def m_free_by : List D → M D := runD 8 b_free_by
/- width_by(shop, piece): 0 shop 1 piece -/
def b_width_by : SS := (sRet (sOp2 dAdd (sOp2 dIx (sOp2 dIx (sAttr at_pieces "pieces" (sVar 0)) (sVar 1)) (sC (.int 1))) (sAttr at_kerf "kerf" (sVar 0))))
def m_width_by : List D → M D := runD 2 b_width_by
/- rows_for(shop, wanted, length): 0 shop 1 wanted 2 length 3 rows 4 piece 5 most 6 longer 7 width 8 row 9 left 10 number -/
def b_rows_for : SS := (sSeq (sSet 3 (sLst [(false, (sTup [(false, (sTup [])), (false, (sOp2 dAdd (sVar 2) (sAttr at_kerf "kerf" (sVar 0))))]))])) (sSeq (sFor (sItE (sVar 1)) (gT [(gN 4), (gN 5)]) (sSeq (sPar2 6 7 (sLst []) (sCall m_width_by [(false, (sVar 0)), (false, (sVar 4))])) (sSeq (sFor (sItA (sVar 3)) (gT [(gN 8), (gN 9)]) (sDropM (mt1 6 mExtend (sPure (sComp [10] (sItR [(false, (sOp2 dAdd (sCallN dMin [(false, (sVar 5)), (false, (sOp2 dFdiv (sVar 9) (sVar 7)))]) (sC (.int 1))))]) (gN 10) sYes (sTup [(false, (sTup [(true, (sVar 8)), (false, (sVar 10))])), (false, (sOp2 dSub (sVar 9) (sOp2 dMulA (sVar 10) (sVar 7))))])))))) (sSet 3 (sVar 6))))) (sRet (sComp [8, 9] (sItA (sVar 3)) (gT [(gN 8), (gN 9)]) sYes (sVar 8)))))
def m_rows_for : List D → M D := runD 11 b_rows_for
/- summed(one, other): 0 one 1 other 2 first 3 second -/
def b_summed : SS := (sRet (sCallN dTupOf [(false, (sComp [2, 3] (sItZ (sVar 0) (sVar 1)) (gT [(gN 2), (gN 3)]) sYes (sOp2 dAdd (sVar 2) (sVar 3))))]))
def m_summed : List D → M D := runD 4 b_summed
/- layers_to(shop, lengths, target): 0 shop 1 lengths 2 target 3 layers 4 length 5 longer 6 row 7 more 8 behind 9 way 10 most 11 one -/
def b_layers_to : SS := (sSeq (sSet 3 (sLst [(false, (sDictT1 (sOp2 dMulA (sTup [(false, (sC (.int 0)))]) (sCallN dLen [(false, (sVar 2))])) (sTup [])))])) (sSeq (sFor (sItA (sVar 1)) (gN 4) (sSeq (sSet 5 sDictT0) (sSeq (sForD (sOp2 dIx (sVarR 3) (sOp1 dNeg (sC (.int 1)))) (gN 6) (sFor (sItA (sCall m_rows_for [(false, (sVar 0)), (false, (sCallN dTupOf [(false, (sComp [10, 11] (sItZ (sVar 2) (sVar 6)) (gT [(gN 10), (gN 11)]) sYes (sOp2 dSub (sVar 10) (sVar 11))))])), (false, (sVar 4))])) (gN 7) (sSeq (sPar2 8 9 (sCall m_summed [(false, (sVar 6)), (false, (sVar 7))]) (sOp2 dAdd (sIxA (sOp2 dIx (sVarR 3) (sOp1 dNeg (sC (.int 1)))) (sVar 6)) (sTup [(false, (sVar 7))]))) (sIfS (sOrB (sBool (sInA true (sVar 8) (sVar 5))) (sBool (sOp2 dLtA (sVar 9) (sIxA (sVar 5) (sVar 8))))) (sPut (sVar 5) (sVar 8) (sVar 9)) sNext)))) (sDropM (mt1 3 mAppend (sPure (sVar 5))))))) (sRet (sVar 3))))
def m_layers_to : List D → M D := runD 12 b_layers_to
/- are_faults(length, value): 0 length 1 value 2 last 3 fault 4 one -/
def b_are_faults : SS := (sSeq (sIfS (sOrB (sNotB (sTru (sIsi ["list", "tuple"] (sVar 1)))) (sBool (sOp2 dGt (sCallN dLen [(false, (sVar 1))]) (sC (.int 6))))) (sRet (sC (.bl false))) sNext) (sSeq (sSet 2 (sOp1 dNeg (sC (.int 1)))) (sSeq (sFor (sItA (sVar 1)) (gN 3) (sSeq (sIfS (sOrB (sNotB (sTru (sIsi ["tuple"] (sVar 3)))) (sOrB (sBool (sOp2 dNe (sCallN dLen [(false, (sVar 3))]) (sC (.int 2)))) (sNotB (sTru (sCallN dAll [(false, (sComp [4] (sItA (sVar 3)) (gN 4) sYes (sCall m_is_whole [(false, (sVar 4))])))]))))) (sRet (sC (.bl false))) sNext) (sSeq (sIfS (sNotB (sBool (sChain3 dLtA dLeA dLeA (sVar 2) (sOp2 dIx (sVar 3) (sC (.int 0))) (sOp2 dIx (sVar 3) (sC (.int 1))) (sVar 0)))) (sRet (sC (.bl false))) sNext) (sSet 2 (sOp2 dIx (sVar 3) (sC (.int 1))))))) (sRet (sC (.bl true))))))
def m_are_faults : List D → M D := runD 5 b_are_faults
/- is_index(value, many): 0 value 1 many -/
def b_is_index : SS := (sRet (sAndV (sCall m_is_whole [(false, (sVar 0))]) (sChain dLe dLtA (sC (.int 0)) (sVar 0) (sVar 1))))
def m_is_index : List D → M D := runD 2 b_is_index
/- need_stock(shop, stock): 0 shop 1 stock -/
def b_need_stock : SS := (sIfS (sNotB (sTru (sCall m_is_index [(false, (sVar 1)), (false, (sCallN dLen [(false, (sAttr at_stocks "stocks" (sVar 0)))]))]))) sBad sNext)
def m_need_stock : List D → M D := runD 2 b_need_stock
/- need_faults(shop, stock, faults): 0 shop 1 stock 2 faults -/
def b_need_faults : SS := (sSeq (sDrop (sCall m_need_stock [(false, (sVar 0)), (false, (sVar 1))])) (sSeq (sIfS (sNotB (sTru (sCall m_are_faults [(false, (sOp2 dIx (sOp2 dIx (sAttr at_stocks "stocks" (sVar 0)) (sVar 1)) (sC (.int 1)))), (false, (sVar 2))]))) sBad sNext) (sRet (sCallN dTupOf [(false, (sVar 2))]))))
def m_need_faults : List D → M D := runD 3 b_need_faults
/- is_numbers_row(shop, value): 0 shop 1 value 2 one -/
def b_is_numbers_row : SS := (sRet (sAndV (sIsi ["tuple"] (sVar 1)) (sAndV (sOp2 dEq (sCallN dLen [(false, (sVar 1))]) (sCallN dLen [(false, (sAttr at_pieces "pieces" (sVar 0)))])) (sCallN dAll [(false, (sComp [2] (sItA (sVar 1)) (gN 2) sYes (sCall m_is_number [(false, (sVar 2))])))]))))
def m_is_numbers_row : List D → M D := runD 3 b_is_numbers_row
/- need_pattern(shop, pattern): 0 shop 1 pattern 2 known -/
def b_need_pattern : SS := (sSeq (sSet 2 (sIfE (sTru (sIsi ["list"] (sVar 1))) (sCallN dTupOf [(false, (sVar 1))]) (sVar 1))) (sSeq (sIfS (sNotB (sTru (sCall m_is_numbers_row [(false, (sVar 0)), (false, (sVar 2))]))) sBad sNext) (sRet (sVar 2))))
def m_need_pattern : List D → M D := runD 3 b_need_pattern
/- split(shop, stock, faults, pattern): 0 shop 1 stock 2 faults 3 pattern 4 known 5 target 6 layers 7 layer -/
def b_split : SS := (sSeq (sSet 4 (sCall m_need_faults [(false, (sVar 0)), (false, (sVar 1)), (false, (sVar 2))])) (sSeq (sSet 5 (sCall m_need_pattern [(false, (sVar 0)), (false, (sVar 3))])) (sSeq (sSet 6 (sCall m_layers_to [(false, (sVar 0)), (false, (sCall m_free_by [(false, (sVar 0)), (false, (sVar 1)), (false, (sVar 4))])), (false, (sVar 5))])) (sSeq (sIfS (sBool (sInA false (sVar 5) (sOp2 dIx (sVar 6) (sOp1 dNeg (sC (.int 1)))))) (sRet (sCall m_Split_init [(false, (sIxA (sOp2 dIx (sVar 6) (sOp1 dNeg (sC (.int 1)))) (sVar 5)))])) sNext) (sRet (sCall m_Stopped_init [(false, (sCallN dTupOf [(false, (sComp [7] (sItA (sVar 6)) (gN 7) sYes (sCallN dTupOf [(false, (sSorted (sVar 7)))])))]))]))))))
def m_split : List D → M D := runD 8 b_split
/- size_by(shop, pattern): 0 shop 1 pattern 2 piece 3 number -/
def b_size_by : SS := (sRet (sCallN dSumA [(false, (sComp [2, 3] (sItE (sVar 1)) (gT [(gN 2), (gN 3)]) sYes (sOp2 dMulA (sVar 3) (sCall m_width_by [(false, (sVar 0)), (false, (sVar 2))]))))]))
def m_size_by : List D → M D := runD 4 b_size_by
/- split_holds(shop, stock, faults, pattern, value): 0 shop 1 stock 2 faults 3 pattern 4 value 5 lengths 6 target 7 total 8 length 9 row -/
def b_split_holds : SS := (sSeq (sSet 5 (sCall m_free_by [(false, (sVar 0)), (false, (sVar 1)), (false, (sCall m_need_faults [(false, (sVar 0)), (false, (sVar 1)), (false, (sVar 2))]))])) (sSeq (sSet 6 (sCall m_need_pattern [(false, (sVar 0)), (false, (sVar 3))])) (sSeq (sIfS (sOrB (sNotB (sTru (sIsC OWN "Split" (sVar 4)))) (sOrB (sNotB (sTru (sIsi ["tuple"] (sAttr at_patterns "patterns" (sVar 4))))) (sBool (sOp2 dNe (sCallN dLen [(false, (sAttr at_patterns "patterns" (sVar 4)))]) (sCallN dLen [(false, (sVar 5))]))))) (sRet (sC (.bl false))) sNext) (sSeq (sSet 7 (sOp2 dMulA (sTup [(false, (sC (.int 0)))]) (sCallN dLen [(false, (sVar 6))]))) (sSeq (sFor (sItZ (sVar 5) (sAttr at_patterns "patterns" (sVar 4))) (gT [(gN 8), (gN 9)]) (sSeq (sIfS (sOrB (sNotB (sTru (sCall m_is_numbers_row [(false, (sVar 0)), (false, (sVar 9))]))) (sAndB (sTru (sCallN dAnyA [(false, (sVar 9))])) (sBool (sOp2 dGt (sCall m_size_by [(false, (sVar 0)), (false, (sVar 9))]) (sOp2 dAdd (sVar 8) (sAttr at_kerf "kerf" (sVar 0))))))) (sRet (sC (.bl false))) sNext) (sSet 7 (sCall m_summed [(false, (sVar 7)), (false, (sVar 9))])))) (sRet (sOp2 dEq (sVar 7) (sVar 6))))))))
def m_split_holds : List D → M D := runD 10 b_split_holds
/- are_rows(shop, value): 0 shop 1 value 2 at 3 row -/
def b_are_rows : SS := (sSeq (sIfS (sOrB (sNotB (sTru (sIsi ["tuple"] (sVar 1)))) (sNotB (sTru (sCallN dAll [(false, (sComp [3] (sItA (sVar 1)) (gN 3) sYes (sCall m_is_numbers_row [(false, (sVar 0)), (false, (sVar 3))])))])))) (sRet (sC (.bl false))) sNext) (sRet (sCallN dAll [(false, (sComp [2] (sItR [(false, (sOp2 dSub (sCallN dLen [(false, (sVar 1))]) (sC (.int 1))))]) (gN 2) sYes (sOp2 dLtA (sOp2 dIx (sVar 1) (sVar 2)) (sOp2 dIx (sVar 1) (sOp2 dAdd (sVar 2) (sC (.int 1)))))))])))
def m_are_rows : List D → M D := runD 4 b_are_rows
/- is_below(row, target): 0 row 1 target 2 one 3 most -/
def b_is_below : SS := (sRet (sCallN dAll [(false, (sComp [2, 3] (sItZ (sVar 0) (sVar 1)) (gT [(gN 2), (gN 3)]) sYes (sOp2 dLeA (sVar 2) (sVar 3))))]))
def m_is_below : List D → M D := runD 4 b_is_below
/- rows_within(shop, room): 0 shop 1 room 2 rows 3 piece 4 longer 5 width 6 row 7 left 8 number -/
def b_rows_within : SS := (sSeq (sSet 2 (sLst [(false, (sTup [(false, (sTup [])), (false, (sVar 1))]))])) (sSeq (sFor (sItR [(false, (sCallN dLen [(false, (sAttr at_pieces "pieces" (sVar 0)))]))]) (gN 3) (sSeq (sPar2 4 5 (sLst []) (sCall m_width_by [(false, (sVar 0)), (false, (sVar 3))])) (sSeq (sFor (sItA (sVar 2)) (gT [(gN 6), (gN 7)]) (sDropM (mt1 4 mExtend (sPure (sComp [8] (sItR [(false, (sOp2 dAdd (sOp2 dFdiv (sVar 7) (sVar 5)) (sC (.int 1))))]) (gN 8) sYes (sTup [(false, (sTup [(true, (sVar 6)), (false, (sVar 8))])), (false, (sOp2 dSub (sVar 7) (sOp2 dMulA (sVar 8) (sVar 5))))])))))) (sSet 2 (sVar 4))))) (sRet (sComp [6, 7] (sItA (sVar 2)) (gT [(gN 6), (gN 7)]) sYes (sVar 6)))))
def m_rows_within : List D → M D := runD 9 b_rows_within
/- stopped_holds(shop, stock, faults, pattern, value): 0 shop 1 stock 2 faults 3 pattern 4 value 5 lengths 6 target 7 at 8 length 9 rows 10 row 11 later 12 layer 13 more 14 one -/
def b_stopped_holds : SS := (sSeq (sSet 5 (sCall m_free_by [(false, (sVar 0)), (false, (sVar 1)), (false, (sCall m_need_faults [(false, (sVar 0)), (false, (sVar 1)), (false, (sVar 2))]))])) (sSeq (sSet 6 (sCall m_need_pattern [(false, (sVar 0)), (false, (sVar 3))])) (sSeq (sIfS (sOrB (sNotB (sTru (sIsC OWN "Stopped" (sVar 4)))) (sOrB (sNotB (sTru (sIsi ["tuple"] (sAttr at_layers "layers" (sVar 4))))) (sBool (sOp2 dNe (sCallN dLen [(false, (sAttr at_layers "layers" (sVar 4)))]) (sOp2 dAdd (sCallN dLen [(false, (sVar 5))]) (sC (.int 1))))))) (sRet (sC (.bl false))) sNext) (sSeq (sIfS (sNotB (sTru (sCallN dAll [(false, (sComp [12] (sItA (sAttr at_layers "layers" (sVar 4))) (gN 12) sYes (sCall m_are_rows [(false, (sVar 0)), (false, (sVar 12))])))]))) (sRet (sC (.bl false))) sNext) (sSeq (sIfS (sOrB (sBool (sOp2 (dInA true) (sOp2 dMulA (sTup [(false, (sC (.int 0)))]) (sCallN dLen [(false, (sVar 6))])) (sOp2 dIx (sAttr at_layers "layers" (sVar 4)) (sC (.int 0))))) (sBool (sOp2 (dInA false) (sVar 6) (sOp2 dIx (sAttr at_layers "layers" (sVar 4)) (sOp1 dNeg (sC (.int 1))))))) (sRet (sC (.bl false))) sNext) (sSeq (sFor (sItE (sVar 5)) (gT [(gN 7), (gN 8)]) (sSeq (sSet 9 (sCall m_rows_within [(false, (sVar 0)), (false, (sOp2 dAdd (sVar 8) (sAttr at_kerf "kerf" (sVar 0))))])) (sFor (sItA (sOp2 dIx (sAttr at_layers "layers" (sVar 4)) (sVar 7))) (gN 10) (sSeq (sSet 11 (sComp [13] (sItA (sVar 9)) (gN 13) sYes (sCall m_summed [(false, (sVar 10)), (false, (sVar 13))]))) (sIfS (sTru (sCallN dAnyA [(false, (sComp [14] (sItA (sVar 11)) (gN 14) sYes (sAndV (sCall m_is_below [(false, (sVar 14)), (false, (sVar 6))]) (sOp2 (dInA true) (sVar 14) (sOp2 dIx (sAttr at_layers "layers" (sVar 4)) (sOp2 dAdd (sVar 7) (sC (.int 1))))))))])) (sRet (sC (.bl false))) sNext))))) (sRet (sC (.bl true)))))))))
def m_stopped_holds : List D → M D := runD 15 b_stopped_holds
/- __eq__(self, other): 0 self 1 other -/
def b_Split_eq : SS := (sRet (sAndV (sIsC OWN "Split" (sVar 1)) (sOp2 dEq (sAttr at_patterns "patterns" (sVar 0)) (sAttr at_patterns "patterns" (sVar 1)))))
def m_Split_eq : List D → M D := runD 2 b_Split_eq
/- __ne__(self, other): 0 self 1 other -/
def b_Split_ne : SS := (sRet (sNotV (sTru (sOwn OWN "Split" m_Split_eq (sVar 0) (sVar 1)))))
def m_Split_ne : List D → M D := runD 2 b_Split_ne
/- __eq__(self, other): 0 self 1 other -/
def b_Stopped_eq : SS := (sRet (sAndV (sIsC OWN "Stopped" (sVar 1)) (sOp2 dEq (sAttr at_layers "layers" (sVar 0)) (sAttr at_layers "layers" (sVar 1)))))
def m_Stopped_eq : List D → M D := runD 2 b_Stopped_eq
/- __ne__(self, other): 0 self 1 other -/
def b_Stopped_ne : SS := (sRet (sNotV (sTru (sOwn OWN "Stopped" m_Stopped_eq (sVar 0) (sVar 1)))))
def m_Stopped_ne : List D → M D := runD 2 b_Stopped_ne
/- law(script): 0 script 1 pen 2 lap 3 shop 4 made 5 length 6 faults 7 rows 8 row 9 at 10 paper 11 turn 12 bent 13 asked 14 there 15 lengths 16 one 17 two -/
def b_law_f402 : SS := (sSeq (sSet 12 (sIfE (sBool (sOp2 dEq (sVar 11) (sC (.int 0)))) (sVar 10) (sCall m__law_bent [(false, (sVar 1)), (false, (sVar 3)), (false, (sVar 10))]))) (sSeq (sPar2 13 14 (sCall m__law_pick [(false, (sVar 1)), (false, (sLst [(false, (sVar 8)), (false, (sVar 8)), (false, (sVar 8)), (false, (sCall m__law_pick [(false, (sVar 1)), (false, (sVar 7))]))]))]) (sCall m__law_pick [(false, (sVar 1)), (false, (sLst [(false, (sVar 6)), (false, (sVar 6)), (false, (sVar 6)), (false, (sSlice (sVar 6) (sPart (sC (.int 1))) sNoPart))]))])) (sSeq (sSet 15 (sCall m__law_free [(false, (sVar 5)), (false, (sVar 14))])) (sSeq (sIfS (sNotB (sTru (sCall m__law_is [(false, (sCall m_split_holds [(false, (sVar 4)), (false, (sC (.int 0))), (false, (sVar 14)), (false, (sVar 13)), (false, (sVar 12))])), (false, (sCall m__law_split_right [(false, (sVar 3)), (false, (sVar 15)), (false, (sVar 13)), (false, (sVar 12))]))]))) (sRet (sC (.bl false))) sNext) (sIfS (sNotB (sTru (sCall m__law_is [(false, (sCall m_stopped_holds [(false, (sVar 4)), (false, (sC (.int 0))), (false, (sVar 14)), (false, (sVar 13)), (false, (sVar 12))])), (false, (sCall m__law_stopped_right [(false, (sVar 3)), (false, (sVar 15)), (false, (sVar 13)), (false, (sVar 12))]))]))) (sRet (sC (.bl false))) sNext)))))
def b_law_f393 : SS := (sSeq (sSet 3 (sCall m__law_few_shop [(false, (sVar 1)), (false, (sC (.int 1))), (false, (sC (.int 3)))])) (sSeq (sPar2 4 5 (sCall m__law_made [(false, (sVar 3))]) (sOp2 dIx (sOp2 dIx (sOp2 dIx (sVar 3) (sC (.int 0))) (sC (.int 0))) (sC (.int 1)))) (sSeq (sSet 6 (sCall m__law_drawn_faults [(false, (sVar 1)), (false, (sVar 5))])) (sSeq (sSet 7 (sCallD m__law_out [(false, (sVar 3)), (false, (sCall m__law_free [(false, (sVar 5)), (false, (sVar 6))]))])) (sSeq (sSet 8 (sCall m__law_pick [(false, (sVar 1)), (false, (sVar 7))])) (sSeq (sSet 9 (sCall m__law_draw [(false, (sVar 1)), (false, (sCallN dLen [(false, (sVar 8))]))])) (sSeq (sSet 8 (sCall m__law_pick [(false, (sVar 1)), (false, (sLst [(false, (sVar 8)), (false, (sOp2 dAdd (sOp2 dAdd (sSlice (sVar 8) sNoPart (sPart (sVar 9))) (sTup [(false, (sOp2 dAdd (sOp2 dIx (sVar 8) (sVar 9)) (sC (.int 1))))])) (sSlice (sVar 8) (sPart (sOp2 dAdd (sVar 9) (sC (.int 1)))) sNoPart)))]))])) (sSeq (sSet 10 (sCallD m_split [(false, (sVar 4)), (false, (sC (.int 0))), (false, (sVar 6)), (false, (sVar 8))])) (sFor (sItR [(false, (sC (.int 9)))]) (gN 11) b_law_f402)))))))))
def b_law : SS := (sSeq (sSet 1 (sCall m__law_pen [(false, (sVar 0))])) (sSeq (sFor (sItR [(false, (sC (.int 2)))]) (gN 2) b_law_f393) (sSeq (sPar2 16 17 (sCall m_Split_init [(false, (sLst [(false, (sLst [(false, (sC (.int 0))), (false, (sC (.int 1)))]))]))]) (sCall m_Stopped_init [(false, (sLst [(false, (sLst [(false, (sLst [(false, (sC (.int 0))), (false, (sC (.int 0)))]))])), (false, (sLst []))]))])) (sSeq (sIfS (sOrB (sBool (sOp2 (dIsBX true) (sOwn OWN "Split" m_Split_eq (sVar 16) (sCall m_Split_init [(false, (sTup [(false, (sTup [(false, (sC (.int 0))), (false, (sC (.int 1)))]))]))])) (sC (.bl true)))) (sOrB (sBool (sOp2 (dIsBX true) (sOwn OWN "Split" m_Split_ne (sVar 16) (sCall m_Split_init [(false, (sTup []))])) (sC (.bl true)))) (sBool (sOp2 (dIsBX true) (sOwn OWN "Split" m_Split_eq (sVar 16) (sAttr at_patterns "patterns" (sVar 16))) (sC (.bl false)))))) (sRet (sC (.bl false))) sNext) (sRet (sAndV (sOp2 (dIsBX false) (sOwn OWN "Stopped" m_Stopped_eq (sVar 17) (sCall m_Stopped_init [(false, (sTup [(false, (sTup [(false, (sTup [(false, (sC (.int 0))), (false, (sC (.int 0)))]))])), (false, (sTup []))]))])) (sC (.bl true))) (sAndV (sOp2 (dIsBX false) (sOwn OWN "Stopped" m_Stopped_ne (sVar 17) (sCall m_Stopped_init [(false, (sTup []))])) (sC (.bl true))) (sOp2 (dIsBX false) (sOwn OWN "Stopped" m_Stopped_eq (sVar 17) (sVar 16)) (sC (.bl false))))))))))
def m_law : List D → M D := runD 18 b_law
end K83
namespace K83
open PySem PySem.Spec PyProof.Rows L2 Ev
/-! ### the pen -/
structure Pen where
  cells : List Int
  at_ : Nat
  digits : Int
  count : Int
  fold : Int
def Pen.kd (p : Pen) : MO := .k [(.inr "cells", .lst (p.cells.map .int)), (.inr "at", .int (p.at_ : Int)), (.inr "digits", .int p.digits), (.inr "count", .int p.count), (.inr "fold", .int p.fold)]
def Pen.Ok (p : Pen) : Prop := p.at_ ≤ p.cells.length ∧ 0 ≤ p.digits ∧ p.cells.length ≤ 1000
/-- the pen is the first of what changes; the rest is R -/
def PenS (R : Sto) (S : Sto) : Prop := ∃ p : Pen, S = p.kd :: R ∧ p.Ok
section
variable (p : Pen) (R : Sto) (ρ : DEnv) (c : Int) (k : Nat)
@[simp] theorem get_cells : getD' (.mref 0) (.str "cells") (p.kd :: R) = .ok (.lst (p.cells.map .int)) (p.kd :: R) := rfl
@[simp] theorem get_at : getD' (.mref 0) (.str "at") (p.kd :: R) = .ok (.int (p.at_ : Int)) (p.kd :: R) := rfl
@[simp] theorem get_digits : getD' (.mref 0) (.str "digits") (p.kd :: R) = .ok (.int p.digits) (p.kd :: R) := rfl
@[simp] theorem get_count : getD' (.mref 0) (.str "count") (p.kd :: R) = .ok (.int p.count) (p.kd :: R) := rfl
@[simp] theorem get_fold : getD' (.mref 0) (.str "fold") (p.kd :: R) = .ok (.int p.fold) (p.kd :: R) := rfl
theorem five : (5 : Nat) < sizeLine := by rw [szl]; decide
@[simp] theorem put_at : putD' ρ (.int (k : Int)) (.mref 0) (.str "at") (p.kd :: R) = .ok (.nx ρ) ({ p with at_ := k }.kd :: R) := by
  show putR ρ ((if (5 : Nat) < sizeLine then some (MO.k _) else none : Option MO).map _) = _
  rw [if_pos five]
  rfl
@[simp] theorem put_digits : putD' ρ (.int c) (.mref 0) (.str "digits") (p.kd :: R) = .ok (.nx ρ) ({ p with digits := c }.kd :: R) := by
  show putR ρ ((if (5 : Nat) < sizeLine then some (MO.k _) else none : Option MO).map _) = _
  rw [if_pos five]
  rfl
@[simp] theorem put_count : putD' ρ (.int c) (.mref 0) (.str "count") (p.kd :: R) = .ok (.nx ρ) ({ p with count := c }.kd :: R) := by
  show putR ρ ((if (5 : Nat) < sizeLine then some (MO.k _) else none : Option MO).map _) = _
  rw [if_pos five]
  rfl
@[simp] theorem put_fold : putD' ρ (.int c) (.mref 0) (.str "fold") (p.kd :: R) = .ok (.nx ρ) ({ p with fold := c }.kd :: R) := by
  show putR ρ ((if (5 : Nat) < sizeLine then some (MO.k _) else none : Option MO).map _) = _
  rw [if_pos five]
  rfl
end
@[simp] theorem ten18 : dPow (.int 10) (.int 18) = some (.int 1000000000000000000) := by
  simp only [dPow]
  rw [if_pos (pwOk_of (by decide) (by decide) (by decide))]
  rfl
theorem mul_lit (i j : Int) (h : -18446744073709551616 < j ∧ j < 18446744073709551616) : dMulA (.int i) (.int j) = some (.int (i * j)) := if_pos (cMul_of (by omega))
theorem mul_lit' (i j : Int) (h : -18446744073709551616 < i ∧ i < 18446744073709551616) : dMulA (.int i) (.int j) = some (.int (i * j)) := if_pos (cMul_of (by omega))
theorem mod_int (i j : Int) (h : j ≠ 0) : dMod (.int i) (.int j) = some (.int (i.fmod j)) := if_pos h
theorem fdiv_int (i j : Int) (h : j ≠ 0) (h2 : j.natAbs < 1073741824) : dFdiv (.int i) (.int j) = some (.int (i.fdiv j)) := if_pos (fdOk_of h h2)
theorem fmod_range (i j : Int) (h : 0 < j) : 0 ≤ i.fmod j ∧ i.fmod j < j := by
  rw [Int.fmod_eq_emod_of_nonneg i (by omega)]
  exact ⟨Int.emod_nonneg i (by omega), Int.emod_lt_of_pos i h⟩
/-- what a draw gives -/
def Drawn (R : Sto) (many : Int) (d : D) (S : Sto) : Prop := (∃ r : Nat, d = .int (r : Int) ∧ (r : Int) < many) ∧ PenS R S
theorem drawn_of {R : Sto} {many r : Int} {p : Pen} (h0 : 0 ≤ r) (h : r < many) (ok : p.Ok) : Drawn R many (.int r) (p.kd :: R) :=
  ⟨⟨r.toNat, by rw [Int.toNat_of_nonneg h0], by rw [Int.toNat_of_nonneg h0]; exact h⟩, p, rfl, ok⟩

theorem len_cells (p : Pen) : dLen [.lst (p.cells.map D.int)] = some (.int (p.cells.length : Int)) := by simp
theorem draw_tail {R : Sto} {p : Pen} {many : Int} (ok : p.Ok) (hm : 0 < many) (hm2 : many < 1073741824) {ρ : DEnv} (c : Option D) (dg bl : Option D) (hρ : ρ = [some (.mref 0), some (.int many), c, dg, bl]) :
    (((sSeq (sIfS (sBool (sOp2 dGt (sGet (sVar 0) (sC (.str "digits"))) (sC (.int 0)))) (sSeq (sSet 3 (sOp2 dMod (sCallN dIntOf [(false, (sGet (sVar 0) (sC (.str "digits"))))]) (sVar 1))) (sSeq (sPut (sVar 0) (sC (.str "digits")) (sOp2 dFdiv (sGet (sVar 0) (sC (.str "digits"))) (sVar 1))) (sRet (sVar 3)))) sNext) (sSeq (sSet 4 (sOp2 dMod (sCallN dIntOf [(false, (sOp2 dAdd (sOp2 dAdd (sOp2 dMulA (sGet (sVar 0) (sC (.str "fold"))) (sC (.int 48271))) (sOp2 dMulA (sGet (sVar 0) (sC (.str "count"))) (sC (.int 7919)))) (sC (.int 13))))]) (sC (.int 2147483647)))) (sSeq (sSet 4 (sOp2 dMod (sCallN dIntOf [(false, (sOp2 dAdd (sOp2 dAdd (sOp2 dMulA (sVar 4) (sVar 4)) (sOp2 dMulA (sC (.int 31)) (sVar 4))) (sGet (sVar 0) (sC (.str "count")))))]) (sC (.int 2147483629)))) (sSeq (sPut (sVar 0) (sC (.str "fold")) (sOp2 dMod (sCallN dIntOf [(false, (sOp2 dAdd (sOp2 dMulA (sVar 4) (sC (.int 16807))) (sC (.int 7))))]) (sC (.int 2147483647)))) (sRet (sOp2 dMod (sCallN dIntOf [(false, (sOp2 dFdiv (sVar 4) (sC (.int 64))))]) (sVar 1))))))) : SS) ρ (p.kd :: R)).post fun o S => ∃ d, o = .rt d ∧ Drawn R many d S := by
  subst hρ
  have h3 : many ≠ 0 := by omega
  have h4 : many.natAbs < 1073741824 := by omega
  by_cases hd : 0 < p.digits
  · simp [hd, mod_int _ _ h3, fdiv_int _ _ h3 h4]
    obtain ⟨q1, q2⟩ := fmod_range p.digits many hm
    refine drawn_of q1 q2 ⟨ok.1, ?_, ok.2.2⟩
    show 0 ≤ p.digits.fdiv many
    exact Int.fdiv_nonneg ok.2.1 (by omega)
  · have e1 := fmod_range (p.fold * 48271 + p.count * 7919 + 13) 2147483647 (by decide)
    simp [hd, mod_int, mul_lit, mul_lit', fdiv_int]
    rw [mul_lit _ _ (by omega)]
    simp [mod_int, mul_lit, mul_lit', fdiv_int, h3]
    obtain ⟨q1, q2⟩ := fmod_range ((((p.fold * 48271 + p.count * 7919 + 13).fmod 2147483647 * (p.fold * 48271 + p.count * 7919 + 13).fmod 2147483647 + 31 * (p.fold * 48271 + p.count * 7919 + 13).fmod 2147483647 + p.count).fmod 2147483629).fdiv 64) many hm
    exact drawn_of q1 q2 ok
theorem draw_ok {R : Sto} {p : Pen} {many : Int} (ok : p.Ok) (hm : 0 < many) (hm2 : many < 1073741824) : (m__law_draw [.mref 0, .int many] (p.kd :: R)).post (Drawn R many) := by
  unfold m__law_draw b__law_draw
  rw [e_runD]
  refine then_post (P := fun o S => ∃ d, o = .rt d ∧ Drawn R many d S) ?_ (fun o S ⟨d, e, h⟩ => by subst e; exact h)
  simp only [List.map_cons, List.map_nil, List.length_cons, List.length_nil, List.replicate, List.cons_append, List.nil_append]
  rw [e_seq]
  refine then_post (P := fun o S => ∃ p : Pen, o = .nx [some (.mref 0), some (.int many), none, none, none] ∧ S = p.kd :: R ∧ p.Ok) (by simp; exact ⟨_, rfl, ok⟩) (fun o S ⟨p, e1, e2, ok⟩ => ?_)
  subst e1 e2
  rw [thenO_nx, e_seq]
  refine then_post (P := fun o S => ∃ (p : Pen) (c : Option D), o = .nx [some (.mref 0), some (.int many), c, none, none] ∧ S = p.kd :: R ∧ p.Ok) ?_ (fun o S ⟨p, c, e1, e2, ok⟩ => ?_)
  · by_cases h1 : p.digits = 0
    · by_cases h2 : p.at_ < p.cells.length
      · have hc : (p.cells.map D.int)[p.at_]? = some (.int p.cells[p.at_]) := by simp [h2]
        have h2' : (p.at_ : Int) < p.cells.length := by omega
        have e3 : (p.at_ : Int) + 1 = ((p.at_ + 1 : Nat) : Int) := by simp
        by_cases h3 : 1000000000000000000 ≤ p.cells[p.at_]
        · simp [h1, h2', d_ixl hc, h3, e3, -Int.natCast_add]
          exact ⟨_, rfl, ⟨h2, by show 0 ≤ p.cells[p.at_] - _; omega, ok.2.2⟩⟩
        · simp [h1, h2', d_ixl hc, h3, e3, -Int.natCast_add, mul_lit, mod_int]
          exact ⟨_, rfl, ⟨h2, Int.le_refl 0, ok.2.2⟩⟩
      · have h2' : ¬ (p.at_ : Int) < p.cells.length := by omega
        simp [h1, h2']
        exact ⟨_, rfl, ok⟩
    · simp [h1]
      exact ⟨_, rfl, ok⟩
  · subst e1 e2
    exact draw_tail ok hm hm2 c none none rfl
theorem draw_post {R S : Sto} {many : Int} (h : PenS R S) (hm : 0 < many) (hm2 : many < 1073741824) : (m__law_draw [.mref 0, .int many] S).post (Drawn R many) := by
  obtain ⟨p, rfl, ok⟩ := h
  exact draw_ok ok hm hm2
/-- a pick of what there is -/
theorem pick_tup {R S : Sto} (h : PenS R S) {xs : List D} (h0 : xs ≠ []) (h1 : xs.length < 1073741824) : (m__law_pick [.mref 0, .tup xs] S).post fun d S' => d ∈ xs ∧ PenS R S' := by
  unfold m__law_pick b__law_pick
  have hp : 0 < xs.length := List.length_pos_iff.mpr h0
  simp
  refine then_post (draw_post h (by omega) (by omega)) fun d S' ⟨⟨r, e, hr⟩, h'⟩ => ?_
  subst e
  have hr' : r < xs.length := by omega
  rw [d_ixt (List.getElem?_eq_getElem hr')]
  simp [h']
theorem pick_lst {R S : Sto} (h : PenS R S) {xs : List D} (h0 : xs ≠ []) (h1 : xs.length < 1073741824) : (m__law_pick [.mref 0, .lst xs] S).post fun d S' => d ∈ xs ∧ PenS R S' := by
  unfold m__law_pick b__law_pick
  have hp : 0 < xs.length := List.length_pos_iff.mpr h0
  simp
  refine then_post (draw_post h (by omega) (by omega)) fun d S' ⟨⟨r, e, hr⟩, h'⟩ => ?_
  subst e
  have hr' : r < xs.length := by omega
  rw [d_ixl (List.getElem?_eq_getElem hr')]
  simp [h']
/-- a sign of a text -/
theorem pick_str {R S : Sto} (h : PenS R S) {z : Str} (h0 : 0 < z.length) (h1 : z.length ≤ sizeLine) {P : Nat → Bool} (hP : ∀ c ∈ z.cps.toList, P c = true) : (m__law_pick [.mref 0, .str z] S).post fun d S' => (∃ c, P c = true ∧ d = .str ⟨#[c]⟩) ∧ PenS R S' := by
  unfold m__law_pick b__law_pick
  have e : dLen [.str z] = some (.int (z.length : Int)) := if_pos h1
  simp [e]
  have hz := szl
  refine then_post (draw_post h (by omega) (by omega)) fun d S' ⟨⟨r, e, hr⟩, h'⟩ => ?_
  subst e
  have hl : z.length = z.cps.toList.length := by simp [Str.length]
  have hr' : r < z.cps.toList.length := by omega
  have e2 : dIx (.str z) (.int (r : Int)) = some (.str ⟨#[z.cps.toList[r]]⟩) := by
    show (if z.length ≤ sizeLine then (atI z.cps.toList (r : Int)).map (fun c => D.str ⟨#[c]⟩) else none) = _
    rw [if_pos h1, atI_nat (List.getElem?_eq_getElem hr')]
    rfl
  rw [e2]
  simp only [optR_some, Res.then_ok, outE_rt, Res.post_ok]
  exact ⟨⟨_, hP _ (List.getElem_mem hr'), rfl⟩, h'⟩
/-- the pen of a script -/
theorem pen_ok (ns : List Int) (h : ns.length ≤ 1000) : (m__law_pen [.scr ns] []).post fun d S => d = .mref 0 ∧ PenS [] S := by
  unfold m__law_pen b__law_pen
  simp
  refine then_post (P := fun o S => S = [] ∧ ∃ (i : Int) (c : Option D), o = .nx [some (.scr ns), some (.int i), c]) ?_ fun o S ⟨e1, i, c, e2⟩ => ?_
  · refine forL_map (P := fun j ρ S => S = [] ∧ ∃ (i : Int) (c : Option D), ρ = [some (.scr ns), some (.int i), c]) ns ⟨rfl, 0, none, rfl⟩ (fun j n _ ρ S ⟨e1, i, c, e2⟩ => ?_) (fun ρ S ⟨e1, i, c, e2⟩ => ⟨e1, i, c, by rw [e2]⟩)
    subst e1 e2
    simp [mul_lit, mod_int, stepP]
  · subst e1 e2
    simp
    exact ⟨⟨ns, 0, 0, 0, i⟩, rfl, Nat.zero_le _, Int.le_refl 0, h⟩

/-! ### names -/
def isLet (c : Nat) : Bool := decide (c ∈ (Str.ofString "abcdefghijklmnopqrstuvwxyz").cps.toList)
def isSgn (c : Nat) : Bool := decide (c ∈ (Str.ofString "abcdefghijklmnopqrstuvwxyz0123456789").cps.toList)
structure NameOk (z : Str) : Prop where
  len : 1 ≤ z.length
  le : z.length ≤ 12
  one : ∀ c, z.cps.toList[0]? = some c → isLet c = true
  all : ∀ c ∈ z.cps.toList, isSgn c = true
theorem len_cps (z : Str) : z.length = z.cps.toList.length := by simp [Str.length]
theorem cps_app (a b : Str) : (a ++ b).cps.toList = a.cps.toList ++ b.cps.toList := by
  show (a.cps ++ b.cps).toList = _
  simp
theorem in_str (c : Nat) (z : Str) (neg : Bool) : dIn neg (.str ⟨#[c]⟩) (.str z) = some (.bl (if neg then !decide (c ∈ z.cps.toList) else decide (c ∈ z.cps.toList))) := by
  have e : dInS ⟨#[c]⟩ z = decide (c ∈ z.cps.toList) := StrLaws.found_one z c
  show some (D.bl (if neg then !dInS ⟨#[c]⟩ z else dInS ⟨#[c]⟩ z)) = _
  rw [e]
theorem sgn_ok : ∀ c, isSgn c = true → c < 1114112 := by
  intro c h
  have h' : c ∈ (Str.ofString "abcdefghijklmnopqrstuvwxyz0123456789").cps.toList := of_decide_eq_true h
  have a : ∀ c ∈ (Str.ofString "abcdefghijklmnopqrstuvwxyz0123456789").cps.toList, c < 1114112 := by decide +kernel
  exact a c h'
theorem let_sgn : ∀ c, isLet c = true → isSgn c = true := by
  intro c h
  have h' : c ∈ (Str.ofString "abcdefghijklmnopqrstuvwxyz").cps.toList := of_decide_eq_true h
  have a : ∀ c ∈ (Str.ofString "abcdefghijklmnopqrstuvwxyz").cps.toList, isSgn c = true := by decide +kernel
  exact a c h'
theorem NameOk.str {z : Str} (h : NameOk z) : PyData.strOk z = true := by
  unfold PyData.strOk
  rw [Array.all_eq_true']
  intro c hc
  have := sgn_ok c (h.all c (by simpa using hc))
  simpa using this
theorem sz12 {n : Nat} (h : n ≤ 12) : n ≤ sizeLine := by rw [szl]; omega
theorem name_is {z : Str} (h : NameOk z) (S : Sto) : m_is_name [.str z] S = .ok (.bl true) S := by
  unfold m_is_name b_is_name
  have hl := h.len
  have h2 := h.le
  have e : dLen [.str z] = some (.int (z.length : Int)) := if_pos (sz12 h2)
  have hc0 : 0 < z.cps.toList.length := by rw [← len_cps]; omega
  have i1 := h.one _ (List.getElem?_eq_getElem hc0)
  have e0 : dIx (.str z) (.int 0) = some (.str ⟨#[z.cps.toList[0]]⟩) := by
    show (if z.length ≤ sizeLine then (atI z.cps.toList ((0 : Nat) : Int)).map (fun c => D.str ⟨#[c]⟩) else none) = _
    rw [if_pos (sz12 h2), atI_nat (List.getElem?_eq_getElem hc0)]
    rfl
  have i2 : z.cps.toList[0] ∈ (Str.ofString "abcdefghijklmnopqrstuvwxyz").cps.toList := of_decide_eq_true i1
  have h3 : (1 : Int) ≤ z.length := by omega
  have h4 : (z.length : Int) ≤ 12 := by omega
  simp [isTyS, e, h3, h4, e0, in_str]
  rw [if_pos (by simpa using i2)]
  simp [signsD]
  rw [compL_map (g := fun _ => D.bl true) _ (fun c hc => by
    have : c ∈ (Str.ofString "abcdefghijklmnopqrstuvwxyz0123456789").cps.toList := of_decide_eq_true (h.all c hc)
    simp at this
    simp [in_str, this])]
  have e5 : dAll [.lst (z.cps.toList.map fun _ => D.bl true)] = some (.bl true) := by
    show (blsD (z.cps.toList.map fun _ => D.bl true)).map (fun ns => D.bl (ns.all id)) = _
    rw [show (z.cps.toList.map fun _ => D.bl true) = (z.cps.toList.map fun _ => true).map D.bl by simp, blsD_map]
    simp
  have e6 : z.cps.size ≤ sizeLine := sz12 h2
  simp [e6, e5]

theorem join_one : ∀ cs : List Nat, (Str.join (Str.ofString "") (cs.map fun c => (⟨#[c]⟩ : Str))).cps.toList = cs
  | [] => rfl
  | [c] => rfl
  | c :: d :: cs => by
    have ih := join_one (d :: cs)
    show ((⟨#[c]⟩ : Str) ++ (Str.ofString "") ++ Str.join (Str.ofString "") ((d :: cs).map fun c => (⟨#[c]⟩ : Str))).cps.toList = _
    rw [cps_app, cps_app, ih]
    rfl
abbrev LETS : Str := Str.ofString "abcdefghijklmnopqrstuvwxyz"
abbrev SGNS : Str := Str.ofString "abcdefghijklmnopqrstuvwxyz0123456789"
theorem lets_len : LETS.cps.toList.length = 26 := by decide +kernel
theorem sgns_len : SGNS.cps.toList.length = 36 := by decide +kernel
theorem let_in : ∀ c ∈ LETS.cps.toList, isLet c = true := fun c h => by
  unfold isLet
  rw [decide_eq_true_eq]
  exact h
theorem sgn_in : ∀ c ∈ SGNS.cps.toList, isSgn c = true := fun c h => by
  unfold isSgn
  rw [decide_eq_true_eq]
  exact h

theorem sum_ones {α : Type} : ∀ cs : List α, (cs.map fun _ => 1).sum = cs.length
  | [] => rfl
  | c :: cs => by
    rw [List.map_cons, List.sum_cons, sum_ones cs, List.length_cons]
    omega
/-- a drawn name -/
theorem name_ok {R S : Sto} (h : PenS R S) : (m__law_name [.mref 0] S).post fun d S' => (∃ z, d = .str z ∧ NameOk z) ∧ PenS R S' := by
  unfold m__law_name b__law_name
  simp
  refine then_post (draw_post h (by decide) (by decide)) fun d S' ⟨⟨r, e, hr⟩, h⟩ => ?_
  subst e
  have hr' : r < 6 := by omega
  obtain ⟨k, ek, hk⟩ : ∃ k : Nat, dIx (.lst [.int 0, .int 0, .int 1, .int 2, .int 5, .int 11]) (.int (r : Int)) = some (.int (k : Int)) ∧ k ≤ 11 := by
    have cases6 : r = 0 ∨ r = 1 ∨ r = 2 ∨ r = 3 ∨ r = 4 ∨ r = 5 := by omega
    rcases cases6 with rfl | rfl | rfl | rfl | rfl | rfl
    · exact ⟨0, d_ixl rfl, by decide⟩
    · exact ⟨0, d_ixl rfl, by decide⟩
    · exact ⟨1, d_ixl rfl, by decide⟩
    · exact ⟨2, d_ixl rfl, by decide⟩
    · exact ⟨5, d_ixl rfl, by decide⟩
    · exact ⟨11, d_ixl rfl, by decide⟩
  simp [ek]
  refine then_post (pick_str h (z := LETS) (by rw [len_cps, lets_len]; decide) (szk (by rw [len_cps, lets_len]; decide)) let_in) fun d S1 hh => ?_
  have h := hh.2
  have h1 := hh.1
  cases h1 with
  | intro c h2 => 
  have hc := h2.1
  have e := h2.2
  clear h2 hh
  subst e
  rw [rg1 (by omega)]
  simp
  refine then_post (compL_post (I := PenS R) (R := fun _ y => ∃ c, isSgn c = true ∧ y = .str ⟨#[c]⟩) _ _ h fun d hd S h => ?_) fun ys S2 ⟨h, es⟩ => ?_
  · simp
    refine then_post (pick_str h (z := SGNS) (by rw [len_cps, sgns_len]; decide) (szk (by rw [len_cps, sgns_len]; decide)) sgn_in) fun d S1 ⟨⟨c, hc, e⟩, h⟩ => ?_
    subst e
    simp
    exact ⟨h, hc⟩
  · have hl := es.length
    simp at hl
    have : ∃ cs : List Nat, ys = cs.map (fun c => D.str ⟨#[c]⟩) ∧ ∀ c ∈ cs, isSgn c = true := by
      have := Each.pick (enc := fun c => D.str ⟨#[c]⟩) (W := fun _ c => isSgn c = true) es fun a b ⟨c, h1, h2⟩ => ⟨c, h2, h1⟩
      obtain ⟨cs, e1, e2⟩ := this
      exact ⟨cs, e1, fun c hc => (Each.mem e2 c hc).elim fun _ h => h.2⟩
    obtain ⟨cs, rfl, hcs⟩ := this
    simp at hl
    have hz : cs.length ≤ sizeLine := sz12 (by omega)
    simp [hz]
    have ej : dJoin (.str (Str.ofString "")) (.lst (cs.map fun c => D.str ⟨#[c]⟩)) = some (.str (Txt.join (Str.ofString "") (cs.map fun c => ⟨#[c]⟩))) := by
      show (strsD (cs.map fun c => D.str ⟨#[c]⟩)).bind (joinS (Str.ofString "")) = _
      rw [show (cs.map fun c => D.str ⟨#[c]⟩) = (cs.map fun c => (⟨#[c]⟩ : Str)).map D.str by simp, strsD_map]
      refine (if_pos ?_ : joinS _ _ = _)
      have e1 : ((cs.map fun c => (⟨#[c]⟩ : Str)).map (·.length)).sum = cs.length := by
        rw [List.map_map, show ((fun x => x.length) ∘ fun c => ({ cps := #[c] } : Str)) = fun _ => 1 from rfl]
        exact sum_ones cs
      rw [e1]
      have e0 : (Str.ofString "").length = 0 := by decide +kernel
      rw [e0]
      omega
    rw [ej]
    simp
    have ez : ((⟨#[c]⟩ : Str) ++ Txt.join (Str.ofString "") (cs.map fun c => (⟨#[c]⟩ : Str))).cps.toList = c :: cs := by
      rw [cps_app, TL.join_eq, join_one]
      rfl
    have el : (⟨#[c]⟩ : Str).length + (Txt.join (Str.ofString "") (cs.map fun c => (⟨#[c]⟩ : Str))).length ≤ sizeLine := by
      rw [len_cps, len_cps, TL.join_eq, join_one]
      exact sz12 (by simp; omega)
    have ea : dAdd (.str ⟨#[c]⟩) (.str (Txt.join (Str.ofString "") (cs.map fun c => (⟨#[c]⟩ : Str)))) = some (.str ((⟨#[c]⟩ : Str) ++ Txt.join (Str.ofString "") (cs.map fun c => (⟨#[c]⟩ : Str)))) := if_pos el
    rw [ea]
    simp
    refine ⟨⟨?_, ?_, fun x hx => ?_, fun x hx => ?_⟩, h⟩
    · rw [len_cps, ez]; simp
    · rw [len_cps, ez]; simp; omega
    · rw [ez] at hx
      simp at hx
      subst hx
      exact hc
    · rw [ez] at hx
      rcases List.mem_cons.mp hx with rfl | hx
      · exact let_sgn _ hc
      · exact hcs x hx

theorem sub_len {α : Type} [BEq α] [LawfulBEq α] : ∀ {l m : List α}, l.Nodup → (∀ x ∈ l, x ∈ m) → l.length ≤ m.length
  | [], _, _, _ => Nat.zero_le _
  | x :: l, m, h, hs => by
    obtain ⟨h1, h2⟩ := List.nodup_cons.mp h
    have hx := hs x List.mem_cons_self
    have := sub_len (l := l) (m := m.erase x) h2 fun y hy => by
      have hne : y ≠ x := fun z => h1 (z ▸ hy)
      exact (List.mem_erase_of_ne hne).mpr (hs y (List.mem_cons_of_mem _ hy))
    rw [List.length_erase_of_mem hx] at this
    have hp : 0 < m.length := List.length_pos_of_mem hx
    rw [List.length_cons]
    omega
/-- z, a figure, q, zeros -/
def zn (lap k : Nat) : Str := ⟨([122, 48 + lap, 113] ++ List.replicate k 48).toArray⟩
theorem zn_cps (lap k : Nat) : (zn lap k).cps.toList = [122, 48 + lap, 113] ++ List.replicate k 48 := by
  unfold zn
  simp
theorem zn_len (lap k : Nat) : (zn lap k).length = 3 + k := by
  rw [len_cps, zn_cps]
  simp
  omega
theorem zn_inj {lap k j : Nat} (h : zn lap k = zn lap j) : k = j := by
  have := congrArg Str.length h
  rw [zn_len, zn_len] at this
  omega
theorem str_ext {a b : Str} (h : a.cps.toList = b.cps.toList) : a = b := PySem.W.str_of_cps h
theorem zn_zero : ∀ lap : Nat, lap < 10 → ((Str.ofString "z" ++ ((toString (lap : Int) : String) : Str)) ++ Str.ofString "q") = zn lap 0 := by
  intro lap h
  have : ∀ lap ∈ List.range 10, ((Str.ofString "z" ++ ((toString (lap : Int) : String) : Str)) ++ Str.ofString "q") = zn lap 0 := by decide +kernel
  exact this lap (List.mem_range.mpr h)
theorem zn_more (lap k : Nat) : zn lap k ++ Str.ofString "0" = zn lap (k + 1) := by
  apply str_ext
  rw [cps_app, zn_cps, zn_cps]
  rw [show (Str.ofString "0").cps.toList = [48] from by decide +kernel, List.append_assoc, ← List.replicate_succ']
theorem zn_ok {lap k : Nat} (h : lap < 10) (hk : k ≤ 9) : NameOk (zn lap k) := by
  have a : ∀ lap ∈ List.range 10, isSgn (48 + lap) = true := by decide +kernel
  have b : isLet 122 = true ∧ isSgn 122 = true ∧ isSgn 113 = true ∧ isSgn 48 = true := by decide +kernel
  refine ⟨by rw [zn_len]; omega, by rw [zn_len]; omega, fun c hc => ?_, fun c hc => ?_⟩
  · rw [zn_cps] at hc
    simp at hc
    subst hc
    exact b.1
  · rw [zn_cps] at hc
    rcases List.mem_append.mp hc with hc | hc
    · simp at hc
      rcases hc with rfl | rfl | rfl
      · exact b.2.1
      · exact a lap (List.mem_range.mpr h)
      · exact b.2.2.1
    · obtain ⟨_, rfl⟩ := List.mem_replicate.mp hc
      exact b.2.2.2
theorem zn_bound {lap k : Nat} {ns : List Str} (h : ∀ i, i ≤ k → zn lap i ∈ ns) : k + 1 ≤ ns.length := by
  have := sub_len (l := (List.range (k + 1)).map (zn lap)) (m := ns) (by
    rw [List.nodup_iff_pairwise_ne, List.pairwise_map]
    refine List.Pairwise.imp ?_ List.nodup_range
    intro a b h e
    exact h (zn_inj e)) (fun x hx => by
      obtain ⟨i, hi, rfl⟩ := List.mem_map.mp hx
      exact h i (by have := List.mem_range.mp hi; omega))
  simpa using this
structure NamesOk (ns : List Str) : Prop where
  nd : ns.Nodup
  ok : ∀ z ∈ ns, NameOk z
theorem names_ok {R S : Sto} (h : PenS R S) {many : Nat} (hm : many ≤ 9) : (m__law_names [.mref 0, .int (many : Int)] S).post fun d S' => (∃ ns : List Str, d = .tup (ns.map .str) ∧ ns.length = many ∧ NamesOk ns) ∧ PenS R S' := by
  unfold m__law_names b__law_names
  simp
  rw [rg1 (by omega)]
  simp
  refine then_post (P := fun o S => PenS R S ∧ ∃ (ns : List Str) (a b : Option D), o = .nx [some (.mref 0), some (.int (many : Int)), some (.lst (ns.map .str)), a, b] ∧ ns.length = many ∧ NamesOk ns) ?_ fun o S ⟨h, ns, a, b, e, hl, ok⟩ => ?_
  · refine forL_map (P := fun j ρ S => PenS R S ∧ ∃ (ns : List Str) (a b : Option D), ρ = [some (.mref 0), some (.int (many : Int)), some (.lst (ns.map .str)), a, b] ∧ ns.length = j ∧ NamesOk ns) (List.range many)
      ⟨h, [], none, none, rfl, rfl, ⟨List.nodup_nil, fun z hz => by cases hz⟩⟩ (fun j lap hj ρ S ⟨h, ns, a, b, e, hl, ok⟩ => ?_) (fun ρ S ⟨h, ns, a, b, e, hl, ok⟩ => ⟨h, ns, a, b, by rw [e], by simpa using hl, ok⟩)
    have hlap : lap = j := by
      obtain ⟨h1, h2⟩ := List.getElem?_eq_some_iff.mp hj
      rw [List.getElem_range] at h2
      exact h2.symm
    have hj' : j < many := by
      have := (List.getElem?_eq_some_iff.mp hj).1
      simpa using this
    subst hlap e
    have hst : ∀ z ∈ ns, PyData.strOk z = true := fun z hz => (ok.ok z hz).str
    simp
    refine then_post (name_ok h) fun d S1 ⟨⟨z, e, oz⟩, h⟩ => ?_
    subst e
    simp [encStr.mem oz.str hst]
    refine then_post (P := fun o S => PenS R S ∧ ∃ y, o = .nx [some (.mref 0), some (.int (many : Int)), some (.lst (ns.map .str)), some (.int (lap : Int)), some (.str y)] ∧ NameOk y ∧ (y ∉ ns ∨ y = zn lap 0)) ?_ fun o S ⟨h, y, e, oy, hy⟩ => ?_
    · by_cases hz : z ∈ ns
      · have hlog : (lap : Int).natAbs.log2 < 1920 := lt_lg (by decide) (by
          have : (lap : Int).natAbs < 10 := by omega
          have e : (10 : Nat) ≤ 2 ^ 1920 := by decide +kernel
          omega)
        have e1 : dStrOf [.int (lap : Int)] = some (.str ((toString (lap : Int) : String) : Str)) := if_pos hlog
        have lz : (Str.ofString "z").length + (((toString (lap : Int) : String) : Str)).length = 2 ∧ (Str.ofString "z" ++ ((toString (lap : Int) : String) : Str)).length + (Str.ofString "q").length = 3 := by
          have : ∀ lap ∈ List.range 10, (Str.ofString "z").length + (((toString (lap : Int) : String) : Str)).length = 2 ∧ (Str.ofString "z" ++ ((toString (lap : Int) : String) : Str)).length + (Str.ofString "q").length = 3 := by decide +kernel
          exact this lap (List.mem_range.mpr (by omega))
        have e2 : dAdd (.str (Str.ofString "z")) (.str ((toString (lap : Int) : String) : Str)) = some (.str (Str.ofString "z" ++ ((toString (lap : Int) : String) : Str))) := if_pos (by rw [lz.1]; exact szk (by decide))
        have e3 : dAdd (.str (Str.ofString "z" ++ ((toString (lap : Int) : String) : Str))) (.str (Str.ofString "q")) = some (.str (zn lap 0)) := by
          rw [← zn_zero lap (by omega)]
          exact if_pos (by rw [lz.2]; exact szk (by decide))
        obtain ⟨ts, u, f1, f2, f3⟩ : ∃ ts u : Str, dStrOf [.int (lap : Int)] = some (.str ts) ∧ dAdd (.str (Str.ofString "z")) (.str ts) = some (.str u) ∧ dAdd (.str u) (.str (Str.ofString "q")) = some (.str (zn lap 0)) := ⟨_, _, e1, e2, e3⟩
        simp [hz, f1, f2, f3, h]
        exact zn_ok (lap := lap) (k := 0) (by omega) (by omega)
      · simp [hz, h, oz]
    · subst e
      simp
      refine then_post (P := fun o S => PenS R S ∧ ∃ y, o = .nx [some (.mref 0), some (.int (many : Int)), some (.lst (ns.map .str)), some (.int (lap : Int)), some (.str y)] ∧ NameOk y ∧ y ∉ ns) ?_ fun o S ⟨h, y, e, oy, hy⟩ => ?_
      · refine whL_run (P := fun m ρ S => PenS R S ∧ ∃ y, ρ = [some (.mref 0), some (.int (many : Int)), some (.lst (ns.map .str)), some (.int (lap : Int)), some (.str y)] ∧ NameOk y ∧ (y ∉ ns ∨ ∃ k, y = zn lap k ∧ m + k = ns.length + 1 ∧ ∀ i, i < k → zn lap i ∈ ns)) (fun m ρ S ⟨h, y, e, oy, hy⟩ => ?_) FUEL (ns.length + 1) _ _ (by unfold FUEL; omega) ⟨h, y, rfl, oy, hy.imp id fun e => ⟨0, e, rfl, fun i hi => absurd hi (Nat.not_lt_zero _)⟩⟩
        subst e
        simp [encStr.mem oy.str hst]
        by_cases hin : y ∈ ns
        · rcases hy with hy | ⟨k, rfl, hk, hb⟩
          · exact absurd hin hy
          · have hb' : ∀ i, i ≤ k → zn lap i ∈ ns := fun i hi => by
              by_cases z : i = k
              · subst z; exact hin
              · exact hb i (by omega)
            have hkk := zn_bound hb'
            have e0 : (Str.ofString "0").length = 1 := by decide +kernel
            have ea : dAdd (.str (zn lap k)) (.str (Str.ofString "0")) = some (.str (zn lap (k + 1))) := by
              rw [← zn_more]
              exact if_pos (by rw [zn_len, e0]; exact szk (by omega))
            simp [hin, ea, stepP]
            exact ⟨m - 1, by omega, h, zn_ok (by omega) (by omega), .inr ⟨k + 1, rfl, by omega, fun i hi => hb' i (by omega)⟩⟩
        · simp [hin, h, oy]
      · subst e
        have hz : ns.length < sizeLine := by rw [szl]; omega
        have em : mAppend (ns.map D.str) [.str y] = some ((ns ++ [y]).map D.str, .non) := by
          show (if _ then _ else _) = _
          rw [if_pos (by simpa using hz)]
          simp
        simp [em, stepP, h, hl]
        refine ⟨ns ++ [y], by simp, by simp [hl], ?_, fun z hz => ?_⟩
        · rw [List.nodup_append]
          exact ⟨ok.nd, by simp, fun a ha b hb => by
            have : b = y := by simpa using hb
            subst this
            exact fun e => hy (e ▸ ha)⟩
        · rcases List.mem_append.mp hz with hz | hz
          · exact ok.ok z hz
          · have : z = y := by simpa using hz
            subst this
            exact oy
  · subst e
    simp
    exact ⟨⟨ns, rfl, hl, ok⟩, h⟩

/-! ### shops -/
structure ShopT where
  stocks : List (Str × Nat × Option Nat × Nat)
  pieces : List (Str × Nat × Nat)
  kerf : Nat
def optD : Option Nat → D
  | none => .non
  | some n => .int (n : Int)
def stockD (s : Str × Nat × Option Nat × Nat) : D := .tup [.str s.1, .int (s.2.1 : Int), optD s.2.2.1, .int (s.2.2.2 : Int)]
def pieceD (p : Str × Nat × Nat) : D := .tup [.str p.1, .int (p.2.1 : Int), .int (p.2.2 : Int)]
def shopD (a b c : D) : D := .obj "Shop" [("stocks", a), ("pieces", b), ("kerf", c)]
def ShopT.o (s : ShopT) : D := shopD (.tup (s.stocks.map stockD)) (.tup (s.pieces.map pieceD)) (.int (s.kerf : Int))
def ShopT.t (s : ShopT) : D := .tup [.tup (s.stocks.map stockD), .tup (s.pieces.map pieceD), .int (s.kerf : Int)]
structure StocksOk (ss : List (Str × Nat × Option Nat × Nat)) : Prop where
  len : 1 ≤ ss.length ∧ ss.length ≤ 4
  nm : NamesOk (ss.map (·.1))
  pos : ∀ s ∈ ss, 1 ≤ s.2.1
structure PiecesOk (ps : List (Str × Nat × Nat)) : Prop where
  len : 1 ≤ ps.length ∧ ps.length ≤ 6
  nm : NamesOk (ps.map (·.1))
  pos : ∀ s ∈ ps, 1 ≤ s.2.1
section
variable (a b c : D) (S : Sto)
@[simp] theorem sh_stocks : attrD at_stocks "stocks" (shopD a b c) S = .ok a S := by
  unfold attrD shopD
  simp only
  rw [if_pos (by decide +kernel)]
  rfl
@[simp] theorem sh_pieces : attrD at_pieces "pieces" (shopD a b c) S = .ok b S := by
  unfold attrD shopD
  simp only
  rw [if_pos (by decide +kernel)]
  rfl
@[simp] theorem sh_kerf : attrD at_kerf "kerf" (shopD a b c) S = .ok c S := by
  unfold attrD shopD
  simp only
  rw [if_pos (by decide +kernel)]
  rfl
end
@[simp] theorem isTyS_tup : isTyS "tuple" "tuple" = true := by decide +kernel
@[simp] theorem isTyS_lst : isTyS "list" "list" = true := by decide +kernel
@[simp] theorem isTyS_int : isTyS "int" "int" = true := by decide +kernel
@[simp] theorem isTyS_str : isTyS "str" "str" = true := by decide +kernel
@[simp] theorem isTyS_il : isTyS "int" "list" = false := by decide +kernel
@[simp] theorem isTyS_it : isTyS "int" "tuple" = false := by decide +kernel
@[simp] theorem isTyS_is : isTyS "int" "str" = false := by decide +kernel
@[simp] theorem isTyS_ib : isTyS "int" "bool" = false := by decide +kernel
@[simp] theorem isTyS_tl : isTyS "tuple" "list" = false := by decide +kernel
@[simp] theorem isTyS_ti : isTyS "tuple" "int" = false := by decide +kernel
@[simp] theorem isTyS_ts : isTyS "tuple" "str" = false := by decide +kernel
@[simp] theorem isTyS_lt : isTyS "list" "tuple" = false := by decide +kernel
@[simp] theorem isTyS_bt : isTyS "bool" "tuple" = false := by decide +kernel
@[simp] theorem isTyS_bs : isTyS "bool" "str" = false := by decide +kernel
@[simp] theorem isTyS_bi : isTyS "bool" "int" = true := by decide +kernel
@[simp] theorem isTyS_bb : isTyS "bool" "bool" = true := by decide +kernel
@[simp] theorem isTyS_nt : isTyS "NoneType" "tuple" = false := by decide +kernel
@[simp] theorem isTyS_ns : isTyS "NoneType" "str" = false := by decide +kernel
@[simp] theorem isTyS_ni : isTyS "NoneType" "int" = false := by decide +kernel
@[simp] theorem isTyS_st : isTyS "str" "tuple" = false := by decide +kernel
@[simp] theorem isTyS_si : isTyS "str" "int" = false := by decide +kernel
@[simp] theorem whole_int (i : Int) (S : Sto) : m_is_whole [.int i] S = .ok (.bl true) S := by
  unfold m_is_whole b_is_whole
  simp
@[simp] theorem number_int (i : Int) (S : Sto) : m_is_number [.int i] S = .ok (.bl (decide (0 ≤ i))) S := by
  unfold m_is_number b_is_number
  simp
theorem number_nat (n : Nat) (S : Sto) : m_is_number [.int (n : Int)] S = .ok (.bl true) S := by simp
@[simp] theorem need_length_nat {n : Nat} (h : 1 ≤ n) (S : Sto) : m_need_length [.int (n : Int)] S = .ok .non S := by
  unfold m_need_length b_need_length m_is_length b_is_length
  have h' : (1 : Int) ≤ n := by omega
  simp [h']
theorem need_new {z : Str} {ns : List Str} (oz : NameOk z) (on : ∀ y ∈ ns, NameOk y) (h : z ∉ ns) (S : Sto) : m_need_new_name [.str z, .lst (ns.map .str)] S = .ok .non S := by
  unfold m_need_new_name b_need_new_name
  simp [name_is oz, encStr.mem oz.str (fun y hy => (on y hy).str), h]
theorem noMs_strs (ns : List Str) : noMs (ns.map .str) = true := by
  induction ns with
  | nil => rfl
  | cons n r ih =>
    show (noM (.str n) && noMs (r.map .str)) = true
    rw [ih]
    rfl
theorem app_str {ns : List Str} {z : Str} (h : ns.length ≤ 1000) : mAppend (ns.map D.str) [.str z] = some ((ns ++ [z]).map D.str, .non) := by
  show (if _ then _ else _) = _
  rw [if_pos (by rw [List.length_map, szl]; omega)]
  simp
theorem take_next {α : Type} {xs : List α} {j : Nat} {x : α} (h : xs[j]? = some x) : xs.take (j + 1) = xs.take j ++ [x] := by
  rw [List.take_add_one, h]
  rfl
theorem not_before {xs : List Str} (nd : xs.Nodup) {j : Nat} {x : Str} (h : xs[j]? = some x) : x ∉ xs.take j := by
  intro hx
  obtain ⟨i, hi, e⟩ := List.mem_iff_getElem.mp hx
  rw [List.length_take] at hi
  rw [List.getElem_take] at e
  obtain ⟨hj, e2⟩ := List.getElem?_eq_some_iff.mp h
  exact List.pairwise_iff_getElem.mp nd i j (by omega) hj (by omega) (e.trans e2.symm)
theorem need_stocks_ok {ss : List (Str × Nat × Option Nat × Nat)} (ok : StocksOk ss) (S : Sto) : m_need_stocks [.tup (ss.map stockD)] S = .ok .non S := by
  unfold m_need_stocks b_need_stocks
  obtain ⟨l1, l2⟩ := ok.len
  have h1 : (1 : Int) ≤ ss.length := by omega
  have h2 : (ss.length : Int) ≤ 4 := by omega
  simp [h1, h2]
  apply post_ok
  refine then_post (P := fun o S' => S' = S ∧ ∃ ρ, o = .nx ρ) ?_ fun o S' ⟨e, ρ, e2⟩ => ?_
  · refine forL_map (P := fun j ρ S' => S' = S ∧ ∃ a b c d e, ρ = [some (.tup (ss.map stockD)), some (.lst (((ss.take j).map (·.1)).map .str)), a, b, c, d, e]) ss ⟨rfl, none, none, none, none, none, rfl⟩ (fun j x hj ρ S' ⟨e1, a, b, c, d, e, e2⟩ => ?_) fun ρ S' ⟨e1, _⟩ => ⟨e1, ρ, rfl⟩
    subst e1 e2
    obtain ⟨z, n, m, p⟩ := x
    have hx := List.mem_of_getElem? hj
    have hz : (ss.map (·.1))[j]? = some z := by rw [List.getElem?_map, hj]; rfl
    have oz := ok.nm.ok z (List.mem_of_getElem? hz)
    have hp := ok.pos _ hx
    have hn : z ∉ (ss.take j).map (·.1) := by
      rw [List.map_take]
      exact not_before ok.nm.nd hz
    have hon : ∀ y ∈ (ss.take j).map (·.1), NameOk y := fun y hy => ok.nm.ok y (by
      rw [List.map_take] at hy
      exact List.mem_of_mem_take hy)
    have hap : ((ss.take j).map (·.1)).length ≤ 1000 := by rw [List.length_map, List.length_take]; omega
    have hno : noMs [.str z, .lst (((ss.take j).map (·.1)).map .str)] = true := by
      show (noM (.str z) && (noMs (((ss.take j).map (·.1)).map .str) && true)) = true
      rw [noMs_strs]
      rfl
    have hap2 := app_str (z := z) hap
    have hnn := need_new oz hon hn []
    have etk : (ss.take (j + 1)).map (·.1) = (ss.take j).map (·.1) ++ [z] := by rw [take_next hj, List.map_append]; rfl
    rw [etk]
    generalize (ss.take j).map (·.1) = ns at *
    cases m with
    | none => simp [stockD, optD, hno, hnn, flatD, need_length_nat hp, hap2, stepP]
    | some m => simp [stockD, optD, hno, hnn, flatD, need_length_nat hp, hap2, stepP]
  · subst e e2
    simp
theorem need_pieces_ok {ss : List (Str × Nat × Nat)} (ok : PiecesOk ss) (S : Sto) : m_need_pieces [.tup (ss.map pieceD)] S = .ok .non S := by
  unfold m_need_pieces b_need_pieces
  obtain ⟨l1, l2⟩ := ok.len
  have h1 : (1 : Int) ≤ ss.length := by omega
  have h2 : (ss.length : Int) ≤ 6 := by omega
  simp [h1, h2]
  apply post_ok
  refine then_post (P := fun o S' => S' = S ∧ ∃ ρ, o = .nx ρ) ?_ fun o S' ⟨e, ρ, e2⟩ => ?_
  · refine forL_map (P := fun j ρ S' => S' = S ∧ ∃ a b c d, ρ = [some (.tup (ss.map pieceD)), some (.lst (((ss.take j).map (·.1)).map .str)), a, b, c, d]) ss ⟨rfl, none, none, none, none, rfl⟩ (fun j x hj ρ S' ⟨e1, a, b, c, d, e2⟩ => ?_) fun ρ S' ⟨e1, _⟩ => ⟨e1, ρ, rfl⟩
    subst e1 e2
    obtain ⟨z, n, p⟩ := x
    have hx := List.mem_of_getElem? hj
    have hz : (ss.map (·.1))[j]? = some z := by rw [List.getElem?_map, hj]; rfl
    have oz := ok.nm.ok z (List.mem_of_getElem? hz)
    have hp := ok.pos _ hx
    have hn : z ∉ (ss.take j).map (·.1) := by
      rw [List.map_take]
      exact not_before ok.nm.nd hz
    have hon : ∀ y ∈ (ss.take j).map (·.1), NameOk y := fun y hy => ok.nm.ok y (by
      rw [List.map_take] at hy
      exact List.mem_of_mem_take hy)
    have hap : ((ss.take j).map (·.1)).length ≤ 1000 := by rw [List.length_map, List.length_take]; omega
    have hno : noMs [.str z, .lst (((ss.take j).map (·.1)).map .str)] = true := by
      show (noM (.str z) && (noMs (((ss.take j).map (·.1)).map .str) && true)) = true
      rw [noMs_strs]
      rfl
    have hap2 := app_str (z := z) hap
    have hnn := need_new oz hon hn []
    have etk : (ss.take (j + 1)).map (·.1) = (ss.take j).map (·.1) ++ [z] := by rw [take_next hj, List.map_append]; rfl
    rw [etk]
    generalize (ss.take j).map (·.1) = ns at *
    simp [pieceD, hno, hnn, flatD, need_length_nat hp, hap2, stepP]
  · subst e e2
    simp
theorem put1 (a : D) : putD (Str.ofString "stocks") a [] = [(Str.ofString "stocks", a)] := rfl
theorem put2 (a b : D) : putD (Str.ofString "pieces") b [(Str.ofString "stocks", a)] = [(Str.ofString "stocks", a), (Str.ofString "pieces", b)] := by
  unfold putD
  rw [if_neg (by decide +kernel)]
  rfl
theorem put3 (a b c : D) : putD (Str.ofString "kerf") c [(Str.ofString "stocks", a), (Str.ofString "pieces", b)] = [(Str.ofString "stocks", a), (Str.ofString "pieces", b), (Str.ofString "kerf", c)] := by
  unfold putD
  rw [if_neg (by decide +kernel)]
  unfold putD
  rw [if_neg (by decide +kernel)]
  rfl
/-- Shop(stocks, pieces, kerf) -/
theorem init_ok (s : ShopT) (h1 : StocksOk s.stocks) (h2 : PiecesOk s.pieces) (S : Sto) : m_Shop_init [.tup (s.stocks.map stockD), .tup (s.pieces.map pieceD), .int (s.kerf : Int)] S = .ok s.o S := by
  unfold m_Shop_init b_Shop_init
  have c1 : (Str.ofString "Shop" : Str) ∈ at_stocks := by decide +kernel
  have c2 : (Str.ofString "Shop" : Str) ∈ at_pieces := by decide +kernel
  have c3 : (Str.ofString "Shop" : Str) ∈ at_kerf := by decide +kernel
  simp [need_stocks_ok h1, need_pieces_ok h2, c1, c2, c3, put1, put2, put3]
  rfl

/-! ### drawn shops of few pieces -/
structure ShopT.Few (s : ShopT) (bars most : Nat) : Prop where
  st : StocksOk s.stocks
  pc : PiecesOk s.pieces
  s3 : s.stocks.length ≤ bars
  pm : s.pieces.length ≤ most
  kf : s.kerf ≤ 2
  sl : ∀ x ∈ s.stocks, 5 ≤ x.2.1 ∧ x.2.1 ≤ 14 ∧ x.2.2.2 ≤ 5 ∧ ∀ m, x.2.2.1 = some m → m ≤ 4
  pl : ∀ x ∈ s.pieces, 2 ≤ x.2.1 ∧ x.2.1 ≤ 7 ∧ x.2.2 ≤ 3
theorem NamesOk.part {ns : List Str} (h : NamesOk ns) (o k : Nat) : NamesOk ((ns.drop o).take k) where
  nd := (h.nd.sublist (List.drop_sublist o ns)).sublist (List.take_sublist k _)
  ok := fun z hz => h.ok z (List.mem_of_mem_drop (List.mem_of_mem_take hz))
theorem names_part {α : Type} {f : α → Str} {ns : List Str} {ss : List α} {o k : Nat} (hl : ss.length = k) (hk : o + k ≤ ns.length) (h : ∀ (i : Nat) (s : α), ss[i]? = some s → ns[o + i]? = some (f s)) : ss.map f = (ns.drop o).take k := by
  apply List.ext_getElem?
  intro i
  rw [List.getElem?_map, List.getElem?_take, List.getElem?_drop]
  by_cases hi : i < k
  · rw [if_pos hi]
    have : i < ss.length := by omega
    rw [List.getElem?_eq_getElem this]
    exact (h i _ (List.getElem?_eq_getElem this)).symm
  · rw [if_neg hi, List.getElem?_eq_none (by omega)]
    rfl
theorem few_ok {R S : Sto} (h : PenS R S) {bars most : Nat} (hm : 1 ≤ most ∧ most ≤ 5) (hb : 1 ≤ bars ∧ bars ≤ 4) : (m__law_few_shop [.mref 0, .int (bars : Int), .int (most : Int)] S).post fun d S' => (∃ s : ShopT, d = s.t ∧ s.Few bars most) ∧ PenS R S' := by
  unfold m__law_few_shop b__law_few_shop
  simp
  rw [show (bars : Int) + (most : Int) = ((bars + most : Nat) : Int) by omega]
  refine then_post (names_ok h (many := bars + most) (by omega)) fun d S1 ⟨⟨ns, e, hl, on⟩, h⟩ => ?_
  subst e
  refine then_post (pick_lst h (by simp) (by decide)) fun d S2 ⟨hd, h⟩ => ?_
  obtain ⟨kf, rfl, hkf'⟩ : ∃ k : Nat, d = .int (k : Int) ∧ k ≤ 2 := by
    simp at hd
    rcases hd with rfl | rfl | rfl
    · exact ⟨0, rfl, by decide⟩
    · exact ⟨1, rfl, by decide⟩
    · exact ⟨2, rfl, by decide⟩
  clear hd
  refine then_post (draw_post h (by omega) (by omega)) fun d S4 ⟨⟨ks, e, hks⟩, h⟩ => ?_
  subst e
  simp
  rw [show (1 : Int) + (ks : Int) = ((1 + ks : Nat) : Int) by omega, rg1 (by omega)]
  simp
  refine then_post (compL_post (I := PenS R) (R := fun d y => ∃ (i : Nat) (s : Str × Nat × Option Nat × Nat), d = .int (i : Int) ∧ y = stockD s ∧ ns[0 + i]? = some s.1 ∧ 5 ≤ s.2.1 ∧ s.2.1 ≤ 14 ∧ s.2.2.2 ≤ 5 ∧ ∀ m, s.2.2.1 = some m → m ≤ 4) _ _ h fun d hd S h => ?_) fun ys S5 ⟨h, es⟩ => ?_
  · obtain ⟨i, hi, rfl⟩ := List.mem_map.mp hd
    have hi' : i < ns.length := by have := List.mem_range.mp hi; omega
    have hn : (ns.map D.str)[i]? = some (.str ns[i]) := by rw [List.getElem?_map, List.getElem?_eq_getElem hi']; rfl
    simp [d_ixt hn]
    refine then_post (draw_post h (by omega) (by omega)) fun d S4 ⟨⟨a, e, ha⟩, h⟩ => ?_
    subst e
    simp
    refine then_post (draw_post h (by omega) (by omega)) fun d S4 ⟨⟨b, e, hb⟩, h⟩ => ?_
    subst e
    refine then_post (pick_lst h (by simp) (by simp)) fun d S4 ⟨hd, h⟩ => ?_
    have hm : ∃ m : Option Nat, d = optD m ∧ ∀ x, m = some x → x ≤ 4 := by
      simp at hd
      rcases hd with rfl | rfl
      · exact ⟨none, rfl, fun x e => nomatch e⟩
      · exact ⟨some b, rfl, fun x e => by cases e; omega⟩
    obtain ⟨m, rfl, hm⟩ := hm
    refine then_post (draw_post h (by omega) (by omega)) fun d S4 ⟨⟨c, e, hc⟩, h⟩ => ?_
    subst e
    simp
    refine ⟨h, i, rfl, ns[i], 5 + a, m, c, ?_, ?_, by omega, by omega, by omega, hm⟩
    · simp [stockD]
    · exact List.getElem?_eq_getElem hi'
  · obtain ⟨ss, rfl, ess⟩ := Each.pick (enc := stockD) (W := fun d s => ∃ i : Nat, d = .int (i : Int) ∧ ns[0 + i]? = some s.1 ∧ 5 ≤ s.2.1 ∧ s.2.1 ≤ 14 ∧ s.2.2.2 ≤ 5 ∧ ∀ m, s.2.2.1 = some m → m ≤ 4) es fun a b ⟨i, s, h1, h2, h3⟩ => ⟨s, h2, i, h1, h3⟩
    have hsl : ss.length = 1 + ks := by
      have := ess.length
      simpa using this.symm
    have hsz : ss.length ≤ sizeLine := szk (by omega)
    simp [hsz]
    refine then_post (draw_post h (by omega) (by omega)) fun d S4 ⟨⟨kp, e, hkp⟩, h⟩ => ?_
    subst e
    simp
    rw [show (1 : Int) + (kp : Int) = ((1 + kp : Nat) : Int) by omega, rg1 (by omega)]
    simp
    refine then_post (compL_post (I := PenS R) (R := fun d y => ∃ (i : Nat) (s : Str × Nat × Nat), d = .int (i : Int) ∧ y = pieceD s ∧ ns[bars + i]? = some s.1 ∧ 2 ≤ s.2.1 ∧ s.2.1 ≤ 7 ∧ s.2.2 ≤ 3) _ _ h fun d hd S h => ?_) fun ys S5 ⟨h, es⟩ => ?_
    · obtain ⟨i, hi, rfl⟩ := List.mem_map.mp hd
      have hi' : bars + i < ns.length := by have := List.mem_range.mp hi; omega
      have hn : (ns.map D.str)[bars + i]? = some (.str ns[bars + i]) := by rw [List.getElem?_map, List.getElem?_eq_getElem hi']; rfl
      have hn' : dIx (.tup (ns.map D.str)) (.int ((bars : Int) + (i : Int))) = some (.str ns[bars + i]) := by
        rw [show (bars : Int) + (i : Int) = ((bars + i : Nat) : Int) by omega]
        exact d_ixt hn
      simp [hn']
      refine then_post (draw_post h (by omega) (by omega)) fun d S4 ⟨⟨a, e, ha⟩, h⟩ => ?_
      subst e
      simp
      refine then_post (draw_post h (by omega) (by omega)) fun d S4 ⟨⟨b, e, hb⟩, h⟩ => ?_
      subst e
      simp
      refine ⟨h, i, rfl, ns[bars + i], 2 + a, b, ?_, ?_, by omega, by omega, by omega⟩
      · simp [pieceD]
      · exact List.getElem?_eq_getElem hi'
    · obtain ⟨ps, rfl, eps⟩ := Each.pick (enc := pieceD) (W := fun d s => ∃ i : Nat, d = .int (i : Int) ∧ ns[bars + i]? = some s.1 ∧ 2 ≤ s.2.1 ∧ s.2.1 ≤ 7 ∧ s.2.2 ≤ 3) es fun a b ⟨i, s, h1, h2, h3⟩ => ⟨s, h2, i, h1, h3⟩
      have hpl : ps.length = 1 + kp := by
        have := eps.length
        simpa using this.symm
      have hpz : ps.length ≤ sizeLine := szk (by omega)
      simp [hpz]
      have ixof : ∀ {n i j : Nat}, ((List.range n).map fun (k : Nat) => D.int (k : Int))[i]? = some (.int (j : Int)) → j = i := fun {n i j} hh => by
        rw [List.getElem?_map] at hh
        cases q : (List.range n)[i]? with
        | none => rw [q] at hh; cases hh
        | some k =>
          rw [q] at hh
          obtain ⟨_, h2⟩ := List.getElem?_eq_some_iff.mp q
          rw [List.getElem_range] at h2
          have h3 : (D.int (k : Int)) = .int (j : Int) := by simpa using hh
          injection h3 with h4
          omega
      have ns1 : ss.map (·.1) = (ns.drop 0).take (1 + ks) := names_part hsl (by omega) fun i s hs => by
        obtain ⟨a, ha, j, e, hj, _⟩ := ess.getR i s hs
        subst e
        rw [ixof ha] at hj
        exact hj
      have ns2 : ps.map (·.1) = (ns.drop bars).take (1 + kp) := names_part hpl (by omega) fun i s hs => by
        obtain ⟨a, ha, j, e, hj, _⟩ := eps.getR i s hs
        subst e
        rw [ixof ha] at hj
        exact hj
      have sb : ∀ x ∈ ss, 5 ≤ x.2.1 ∧ x.2.1 ≤ 14 ∧ x.2.2.2 ≤ 5 ∧ ∀ m, x.2.2.1 = some m → m ≤ 4 := fun x hx => by
        obtain ⟨a, _, j, _, _, hh⟩ := ess.mem x hx
        exact hh
      have pb : ∀ x ∈ ps, 2 ≤ x.2.1 ∧ x.2.1 ≤ 7 ∧ x.2.2 ≤ 3 := fun x hx => by
        obtain ⟨a, _, j, _, _, hh⟩ := eps.mem x hx
        exact hh
      refine ⟨⟨⟨ss, ps, kf⟩, rfl, ⟨⟨⟨by show 1 ≤ ss.length; omega, by show ss.length ≤ 4; omega⟩, ?_, fun x hx => by have := sb x hx; omega⟩, ⟨⟨by show 1 ≤ ps.length; omega, by show ps.length ≤ 6; omega⟩, ?_, fun x hx => by have := pb x hx; omega⟩, by show ss.length ≤ bars; omega, by show ps.length ≤ most; omega, hkf', sb, pb⟩⟩, h⟩
      · show NamesOk (ss.map (·.1))
        rw [ns1]
        exact on.part 0 _
      · show NamesOk (ps.map (·.1))
        rw [ns2]
        exact on.part bars _
/-- the program's shop of it -/
theorem madeO_ok {s : ShopT} (h1 : StocksOk s.stocks) (h2 : PiecesOk s.pieces) (S : Sto) : m__law_made [s.t] S = .ok s.o S := by
  unfold m__law_made b__law_made
  simp [ShopT.t, init_ok s h1 h2]

/-! ### patterns, plainly -/
/-- how many rows of numbers have sizes up to s -/
def Rw : List Nat → Nat → Nat
  | [], _ => 1
  | w :: ws, s => if 0 < w ∧ w ≤ s then Rw ws s + Rw (w :: ws) (s - w) else Rw ws s
termination_by ws s => (ws.length, s)
theorem Rw_nil (s : Nat) : Rw [] s = 1 := by rw [Rw]
theorem Rw_ge {w : Nat} {ws : List Nat} {s : Nat} (h0 : 0 < w) (h : w ≤ s) : Rw (w :: ws) s = Rw ws s + Rw (w :: ws) (s - w) := by rw [Rw, if_pos ⟨h0, h⟩]
theorem Rw_lt {w : Nat} {ws : List Nat} {s : Nat} (h : s < w) : Rw (w :: ws) s = Rw ws s := by rw [Rw, if_neg (by omega)]
theorem Rw_snoc {w : Nat} (hw : 0 < w) : ∀ (ws : List Nat) (s : Nat), (∀ x ∈ ws, 0 < x) → Rw (ws ++ [w]) s = Rw ws s + (if w ≤ s then Rw (ws ++ [w]) (s - w) else 0)
  | [], s, _ => by
    show Rw [w] s = _
    by_cases h : w ≤ s
    · rw [Rw_ge hw h, if_pos h]
      rfl
    · rw [Rw_lt (by omega), if_neg h]
      rfl
  | a :: ws, s, ha => by
    have ha0 : 0 < a := ha a List.mem_cons_self
    have hws : ∀ x ∈ ws, 0 < x := fun x hx => ha x (List.mem_cons_of_mem _ hx)
    have i1 := Rw_snoc hw ws s hws
    show Rw (a :: (ws ++ [w])) s = Rw (a :: ws) s + (if w ≤ s then Rw (a :: (ws ++ [w])) (s - w) else 0)
    by_cases h : a ≤ s
    · rw [Rw_ge ha0 h, Rw_ge ha0 h, i1]
      have i2 := Rw_snoc hw (a :: ws) (s - a) ha
      have i2' : Rw (a :: (ws ++ [w])) (s - a) = Rw (a :: ws) (s - a) + (if w ≤ s - a then Rw (a :: (ws ++ [w])) (s - a - w) else 0) := i2
      rw [i2']
      by_cases hw2 : w ≤ s
      · rw [if_pos hw2, if_pos hw2]
        by_cases h3 : a ≤ s - w
        · rw [Rw_ge (s := s - w) ha0 h3, if_pos (show w ≤ s - a by omega), show s - a - w = s - w - a by omega]
          omega
        · rw [Rw_lt (s := s - w) (by omega), if_neg (show ¬ w ≤ s - a by omega)]
          omega
      · rw [if_neg hw2, if_neg hw2, if_neg (show ¬ w ≤ s - a by omega)]
        omega
    · rw [Rw_lt (ws := ws ++ [w]) (s := s) (by omega), Rw_lt (ws := ws) (s := s) (by omega), i1]
      by_cases hw2 : w ≤ s
      · rw [if_pos hw2, if_pos hw2, Rw_lt (s := s - w) (by omega)]
      · rw [if_neg hw2, if_neg hw2]
termination_by ws s => (ws.length, s)
theorem Rw_mono : ∀ (ws : List Nat) (s t : Nat), s ≤ t → Rw ws s ≤ Rw ws t
  | [], s, t, _ => by rw [Rw_nil, Rw_nil]; exact Nat.le_refl _
  | w :: ws, s, t, h => by
    have i1 := Rw_mono ws s t h
    by_cases h1 : 0 < w ∧ w ≤ s
    · rw [Rw_ge (s := s) h1.1 h1.2, Rw_ge (s := t) h1.1 (by omega)]
      have := Rw_mono (w :: ws) (s - w) (t - w) (by omega)
      omega
    · have e1 : Rw (w :: ws) s = Rw ws s := by rw [Rw, if_neg h1]
      rw [e1]
      by_cases h2 : 0 < w ∧ w ≤ t
      · rw [Rw_ge h2.1 h2.2]
        omega
      · have e2 : Rw (w :: ws) t = Rw ws t := by rw [Rw, if_neg h2]
        rw [e2]
        exact i1
termination_by ws s => (ws.length, s)
/-- narrower pieces, more of them, a longer bar: no fewer -/
theorem Rw_narrow {v : Nat} (hv : 0 < v) : ∀ (ws : List Nat) (n s t : Nat), (∀ w ∈ ws, v ≤ w) → ws.length ≤ n → s ≤ t → Rw ws s ≤ Rw (List.replicate n v) t
  | [], n, s, t, _, _, _ => by
    rw [Rw_nil]
    have : ∀ (n t : Nat), 1 ≤ Rw (List.replicate n v) t := fun n => by
      induction n with
      | zero => intro t; rw [List.replicate_zero, Rw_nil]; exact Nat.le_refl _
      | succ n ih =>
        intro t
        rw [List.replicate_succ]
        by_cases h : v ≤ t
        · rw [Rw_ge hv h]
          have := ih t
          omega
        · rw [Rw_lt (by omega)]
          exact ih t
    exact this n t
  | w :: ws, n, s, t, hw, hn, h => by
    cases n with
    | zero => simp at hn
    | succ n =>
      have hvw := hw w List.mem_cons_self
      have i1 := Rw_narrow hv ws n s t (fun x hx => hw x (List.mem_cons_of_mem _ hx)) (by simpa using hn) h
      rw [List.replicate_succ]
      by_cases h1 : w ≤ s
      · rw [Rw_ge (w := w) (s := s) (by omega) h1, Rw_ge (s := t) hv (by omega)]
        have i2 := Rw_narrow hv (w :: ws) (n + 1) (s - w) (t - v) hw hn (by omega)
        rw [List.replicate_succ] at i2
        omega
      · rw [Rw_lt (w := w) (by omega)]
        by_cases h2 : v ≤ t
        · rw [Rw_ge hv h2]
          omega
        · rw [Rw_lt (w := v) (by omega)]
          exact i1
termination_by ws _ s _ => (ws.length, s)
theorem Rw_take : ∀ (ws : List Nat) (i s : Nat), (∀ x ∈ ws, 0 < x) → Rw (ws.take i) s ≤ Rw ws s
  | [], i, s, _ => by rw [List.take_nil]; exact Nat.le_refl _
  | w :: ws, 0, s, h => by
    rw [List.take_zero, Rw_nil]
    have := Rw_take ws 0 s fun x hx => h x (List.mem_cons_of_mem _ hx)
    rw [List.take_zero, Rw_nil] at this
    rw [Rw]
    split
    · omega
    · exact this
  | w :: ws, i + 1, s, h => by
    have hw := h w List.mem_cons_self
    have i1 := Rw_take ws i s fun x hx => h x (List.mem_cons_of_mem _ hx)
    rw [List.take_succ_cons]
    by_cases h1 : w ≤ s
    · rw [Rw_ge (ws := ws.take i) (s := s) hw h1, Rw_ge (ws := ws) (s := s) hw h1]
      have i2 := Rw_take (w :: ws) (i + 1) (s - w) h
      rw [List.take_succ_cons] at i2
      omega
    · rw [Rw_lt (ws := ws.take i) (s := s) (by omega), Rw_lt (ws := ws) (s := s) (by omega)]
      exact i1
termination_by ws _ s => (ws.length, s)
/-- all rows of numbers within s, with what they leave -/
def rowsL : List Nat → Nat → List (List Nat × Nat)
  | [], s => [([], s)]
  | w :: ws, s => (List.range (s / w + 1)).flatMap fun k => (rowsL ws (s - k * w)).map fun q => (k :: q.1, q.2)
def rowsW (ws : List Nat) (s : Nat) : List (List Nat) := (rowsL ws s).map (·.1)
def extW (rs : List (List Nat × Nat)) (w : Nat) : List (List Nat × Nat) := rs.flatMap fun p => (List.range (p.2 / w + 1)).map fun k => (p.1 ++ [k], p.2 - k * w)
theorem ext_all : ∀ (ws : List Nat) (rs : List (List Nat × Nat)), ws.foldl extW rs = rs.flatMap fun p => (rowsL ws p.2).map fun q => (p.1 ++ q.1, q.2)
  | [], rs => by
    show rs = rs.flatMap fun p => [(p.1 ++ [], p.2)]
    induction rs with
    | nil => rfl
    | cons p rs ih => rw [List.flatMap_cons, ← ih, List.append_nil]; rfl
  | w :: ws, rs => by
    show ws.foldl extW (extW rs w) = _
    rw [ext_all ws (extW rs w)]
    unfold extW
    rw [List.flatMap_assoc]
    congr 1
    funext p
    show ((List.range (p.2 / w + 1)).map fun k => (p.1 ++ [k], p.2 - k * w)).flatMap _ = ((List.range (p.2 / w + 1)).flatMap fun k => (rowsL ws (p.2 - k * w)).map fun q => (k :: q.1, q.2)).map _
    rw [List.flatMap_map, List.map_flatMap]
    congr 1
    funext k
    simp
theorem ext_rows (ws : List Nat) (s : Nat) : ws.foldl extW [([], s)] = rowsL ws s := by
  rw [ext_all]
  simp
theorem rows_split (w : Nat) (hw : 0 < w) (ws : List Nat) (s : Nat) (h : w ≤ s) : (rowsL (w :: ws) s).length = (rowsL ws s).length + (rowsL (w :: ws) (s - w)).length := by
  have e : s / w + 1 = (s - w) / w + 1 + 1 := by
    rw [Nat.div_eq_sub_div hw h]
  show ((List.range (s / w + 1)).flatMap fun k => (rowsL ws (s - k * w)).map fun q => (k :: q.1, q.2)).length = _
  rw [e, List.range_succ_eq_map, List.flatMap_cons, List.length_append, List.length_map, Nat.zero_mul, Nat.sub_zero, List.flatMap_map]
  congr 1
  show _ = ((List.range ((s - w) / w + 1)).flatMap fun k => (rowsL ws (s - w - k * w)).map fun q => (k :: q.1, q.2)).length
  rw [List.length_flatMap, List.length_flatMap]
  congr 1
  apply List.map_congr_left
  intro k _
  rw [List.length_map, List.length_map, show s - w - k * w = s - (k + 1) * w by rw [Nat.add_mul]; omega]
theorem rows_small (w : Nat) (ws : List Nat) (s : Nat) (h : s < w) : (rowsL (w :: ws) s).length = (rowsL ws s).length := by
  show ((List.range (s / w + 1)).flatMap fun k => (rowsL ws (s - k * w)).map fun q => (k :: q.1, q.2)).length = _
  rw [Nat.div_eq_of_lt h]
  simp
theorem rows_len : ∀ (ws : List Nat) (s : Nat), (∀ x ∈ ws, 0 < x) → (rowsL ws s).length = Rw ws s
  | [], s, _ => by rw [Rw_nil]; rfl
  | w :: ws, s, h => by
    have hw := h w List.mem_cons_self
    have i1 := rows_len ws s fun x hx => h x (List.mem_cons_of_mem _ hx)
    by_cases h1 : w ≤ s
    · rw [Rw_ge hw h1, rows_split w hw ws s h1, i1, rows_len (w :: ws) (s - w) h]
    · rw [Rw_lt (by omega), rows_small w ws s (by omega), i1]
termination_by ws s => (ws.length, s)
/-- sizes -/
def sizeW : List Nat → List Nat → Nat
  | w :: ws, k :: r => k * w + sizeW ws r
  | _, _ => 0
theorem rows_mem : ∀ (ws : List Nat) (s : Nat) (r : List Nat) (l : Nat), (∀ x ∈ ws, 0 < x) → ((r, l) ∈ rowsL ws s ↔ r.length = ws.length ∧ sizeW ws r ≤ s ∧ l = s - sizeW ws r)
  | [], s, r, l, _ => by
    show (r, l) ∈ [(([] : List Nat), s)] ↔ _
    cases r with
    | nil => simp [sizeW]
    | cons a r => simp
  | w :: ws, s, r, l, h => by
    have hw := h w List.mem_cons_self
    show (r, l) ∈ (List.range (s / w + 1)).flatMap (fun k => (rowsL ws (s - k * w)).map fun q => (k :: q.1, q.2)) ↔ _
    rw [List.mem_flatMap]
    constructor
    · rintro ⟨k, hk, hm⟩
      obtain ⟨⟨r', l'⟩, hq, e⟩ := List.mem_map.mp hm
      obtain ⟨h1, h2, h3⟩ := (rows_mem ws (s - k * w) r' l' fun x hx => h x (List.mem_cons_of_mem _ hx)).mp hq
      have e1 : k :: r' = r := congrArg Prod.fst e
      have e2 : l' = l := congrArg Prod.snd e
      subst e1 e2
      have hk' : k * w ≤ s := by
        have := List.mem_range.mp hk
        exact (Nat.le_div_iff_mul_le hw).mp (by omega)
      refine ⟨by simp [h1], ?_, ?_⟩
      · show k * w + sizeW ws r' ≤ s
        omega
      · show l' = s - (k * w + sizeW ws r')
        omega
    · rintro ⟨h1, h2, h3⟩
      cases r with
      | nil => simp at h1
      | cons k r =>
        have h2' : k * w + sizeW ws r ≤ s := h2
        refine ⟨k, List.mem_range.mpr (Nat.lt_succ_of_le ((Nat.le_div_iff_mul_le hw).mpr (by omega))), List.mem_map.mpr ⟨(r, l), (rows_mem ws (s - k * w) r l fun x hx => h x (List.mem_cons_of_mem _ hx)).mpr ⟨by simpa using h1, by omega, ?_⟩, rfl⟩⟩
        have h3' : l = s - (k * w + sizeW ws r) := h3
        omega
theorem rowsW_mem {ws : List Nat} {s : Nat} {r : List Nat} (h : ∀ x ∈ ws, 0 < x) : r ∈ rowsW ws s ↔ r.length = ws.length ∧ sizeW ws r ≤ s := by
  unfold rowsW
  rw [List.mem_map]
  constructor
  · rintro ⟨⟨r', l⟩, hm, e⟩
    obtain ⟨h1, h2, _⟩ := (rows_mem ws s r' l h).mp hm
    have e1 : r' = r := e
    subst e1
    exact ⟨h1, h2⟩
  · rintro ⟨h1, h2⟩
    exact ⟨(r, s - sizeW ws r), (rows_mem ws s r _ h).mpr ⟨h1, h2, rfl⟩, rfl⟩
/-- they stand in order, each once -/
theorem rowsW_sorted : ∀ (ws : List Nat) (s : Nat), (rowsW ws s).Pairwise (· < ·)
  | [], s => by
    show [([] : List Nat)].Pairwise (· < ·)
    simp
  | w :: ws, s => by
    have e : rowsW (w :: ws) s = (List.range (s / w + 1)).flatMap fun k => (rowsW ws (s - k * w)).map fun q => k :: q := by
      show ((List.range (s / w + 1)).flatMap fun k => (rowsL ws (s - k * w)).map fun q => (k :: q.1, q.2)).map (·.1) = _
      rw [List.map_flatMap]
      congr 1
      funext k
      unfold rowsW
      rw [List.map_map, List.map_map]
      rfl
    rw [e, List.pairwise_flatMap]
    refine ⟨fun k _ => ?_, ?_⟩
    · rw [List.pairwise_map]
      refine List.Pairwise.imp ?_ (rowsW_sorted ws (s - k * w))
      intro a b h
      exact List.Lex.cons h
    · refine List.Pairwise.imp ?_ List.pairwise_lt_range
      intro a b h x hx y hy
      obtain ⟨p, _, rfl⟩ := List.mem_map.mp hx
      obtain ⟨q, _, rfl⟩ := List.mem_map.mp hy
      exact List.Lex.rel h
/-- the same with fuel: it runs -/
def Rf : Nat → List Nat → Nat → Nat
  | 0, _, _ => 0
  | _ + 1, [], _ => 1
  | f + 1, w :: ws, s => if 0 < w ∧ w ≤ s then Rf f ws s + Rf f (w :: ws) (s - w) else Rf f ws s
theorem Rf_eq : ∀ (f : Nat) (ws : List Nat) (s : Nat), ws.length + s < f → Rf f ws s = Rw ws s
  | 0, _, _, h => absurd h (Nat.not_lt_zero _)
  | f + 1, [], s, _ => by rw [Rw_nil]; rfl
  | f + 1, w :: ws, s, h => by
    rw [List.length_cons] at h
    show (if 0 < w ∧ w ≤ s then Rf f ws s + Rf f (w :: ws) (s - w) else Rf f ws s) = _
    rw [Rw, Rf_eq f ws s (by omega)]
    by_cases c : 0 < w ∧ w ≤ s
    · rw [if_pos c, if_pos c, Rf_eq f (w :: ws) (s - w) (by rw [List.length_cons]; omega)]
    · rw [if_neg c, if_neg c]
theorem Rw3 : Rw (List.replicate 3 3) 31 ≤ 3000 := by
  rw [← Rf_eq 40 _ _ (by decide)]
  decide +kernel
theorem Rw4 : Rw (List.replicate 4 3) 40 ≤ 3000 := by
  rw [← Rf_eq 50 _ _ (by decide)]
  decide +kernel

def ShopT.ws (s : ShopT) : List Nat := s.pieces.map fun p => p.2.1 + s.kerf
theorem ws_len (s : ShopT) : s.ws.length = s.pieces.length := by simp [ShopT.ws]
theorem ws_pos {s : ShopT} (h : PiecesOk s.pieces) : ∀ w ∈ s.ws, 0 < w := fun w hw => by
  obtain ⟨p, hp, rfl⟩ := List.mem_map.mp hw
  have := h.pos p hp
  omega
theorem piece_at {s : ShopT} {i : Nat} {p : Str × Nat × Nat} (h : s.pieces[i]? = some p) : dIx (.tup (s.pieces.map pieceD)) (.int (i : Int)) = some (pieceD p) := d_ixt (by rw [List.getElem?_map, h]; rfl)
theorem stock_at {s : ShopT} {i : Nat} {p : Str × Nat × Option Nat × Nat} (h : s.stocks[i]? = some p) : dIx (.tup (s.stocks.map stockD)) (.int (i : Int)) = some (stockD p) := d_ixt (by rw [List.getElem?_map, h]; rfl)
theorem width_ok (s : ShopT) {i w : Nat} (h : s.ws[i]? = some w) (S : Sto) : m_width_by [s.o, .int (i : Int)] S = .ok (.int (w : Int)) S := by
  unfold ShopT.ws at h
  rw [List.getElem?_map] at h
  cases q : s.pieces[i]? with
  | none => rw [q] at h; cases h
  | some p =>
    rw [q] at h
    cases h
    unfold m_width_by b_width_by
    simp [ShopT.o, piece_at q, pieceD]
theorem need_stock_ok (s : ShopT) {i : Nat} (h : i < s.stocks.length) (S : Sto) : m_need_stock [s.o, .int (i : Int)] S = .ok .non S := by
  unfold m_need_stock b_need_stock m_is_index b_is_index
  have h' : (i : Int) < s.stocks.length := by omega
  simp [ShopT.o, h']
def rowD (p : List Nat × Nat) : D := .tup [natT p.1, .int (p.2 : Int)]
theorem rw_fold (f : List (List Nat × Nat) → Nat → List (List Nat × Nat)) (ws : List Nat) (b : List (List Nat × Nat)) (i w : Nat) (h : ws[i]? = some w) : (ws.take (i + 1)).foldl f b = f ((ws.take i).foldl f b) w := by
  rw [take_next h, List.foldl_append]
  rfl
theorem fdiv_nat {l w : Nat} (h0 : 0 < w) (h : w ≤ 1000000) : dFdiv (.int (l : Int)) (.int (w : Int)) = some (.int ((l / w : Nat) : Int)) := by
  rw [fdiv_int _ _ (by omega) (by omega), Int.fdiv_eq_ediv_of_nonneg _ (by omega)]
  rfl
theorem mul_nat {k w : Nat} (h : w ≤ 1000000) : dMulA (.int (k : Int)) (.int (w : Int)) = some (.int ((k : Int) * (w : Int))) := mul_lit _ _ (by omega)
theorem ext_all1 (xs ys : List D) (h : xs.length + ys.length ≤ sizeLine) : mExtend xs [.lst ys] = some (xs ++ ys, .non) := if_pos h
theorem extW_take {rs : List (List Nat × Nat)} {w i : Nat} {p : List Nat × Nat} (h : rs[i]? = some p) : extW (rs.take (i + 1)) w = extW (rs.take i) w ++ (List.range (p.2 / w + 1)).map fun k => (p.1 ++ [k], p.2 - k * w) := by
  rw [take_next h]
  unfold extW
  rw [List.flatMap_append]
  simp
theorem extW_le {rs : List (List Nat × Nat)} {w i : Nat} : (extW (rs.take i) w).length ≤ (extW rs w).length := by
  have : extW rs w = extW (rs.take i) w ++ extW (rs.drop i) w := by
    unfold extW
    rw [← List.flatMap_append, List.take_append_drop]
  rw [this, List.length_append]
  omega
theorem rows_within_ok (s : ShopT) (hp : PiecesOk s.pieces) (hw6 : ∀ w ∈ s.ws, w ≤ 1000000) {room : Nat} (hm : Rw s.ws room ≤ 3000) (S : Sto) : m_rows_within [s.o, .int (room : Int)] S = .ok (.lst ((rowsW s.ws room).map natT)) S := by
  have hpos := ws_pos hp
  have hbf : ∀ i, ((s.ws.take i).foldl extW [([], room)]).length ≤ 3000 := fun i => by
    rw [ext_rows, rows_len _ _ fun x hx => hpos x (List.mem_of_mem_take hx)]
    exact Nat.le_trans (Rw_take _ _ _ hpos) hm
  have hbr : ∀ i, ∀ p ∈ (s.ws.take i).foldl extW [([], room)], p.1.length ≤ 6 := fun i p hpp => by
    rw [ext_rows] at hpp
    obtain ⟨r, l⟩ := p
    obtain ⟨h1, _, _⟩ := (rows_mem _ _ _ _ fun x hx => hpos x (List.mem_of_mem_take hx)).mp hpp
    show r.length ≤ 6
    have := hp.len
    rw [h1, List.length_take, ws_len]
    omega
  unfold m_rows_within b_rows_within
  have hl6 := hp.len
  simp [ShopT.o]
  rw [rg1 (by omega)]
  simp
  apply post_ok
  refine then_post (P := fun o S' => S' = S ∧ ∃ a b c d e f, o = .nx [some s.o, some (.int (room : Int)), some (.lst ((rowsL s.ws room).map rowD)), a, b, c, d, e, f]) ?_ fun o S' ⟨e1, a, b, c, d, e, f, e2⟩ => ?_
  · refine forL_map (P := fun j ρ S' => S' = S ∧ ∃ a b c d e f, ρ = [some s.o, some (.int (room : Int)), some (.lst (((s.ws.take j).foldl extW [([], room)]).map rowD)), a, b, c, d, e, f]) (List.range s.pieces.length)
      ⟨rfl, none, none, none, none, none, none, rfl⟩ (fun j x hj ρ S' ⟨e1, a, b, c, d, e, f, e2⟩ => ?_) fun ρ S' ⟨e1, a, b, c, d, e, f, e2⟩ => ⟨e1, a, b, c, d, e, f, ?_⟩
    · obtain ⟨h1, h2⟩ := List.getElem?_eq_some_iff.mp hj
      rw [List.getElem_range] at h2
      subst h2 e1 e2
      rw [List.length_range] at h1
      obtain ⟨w, hw⟩ : ∃ w, s.ws[j]? = some w := ⟨_, List.getElem?_eq_getElem (by rw [ws_len]; exact h1)⟩
      rw [rw_fold extW s.ws _ j _ hw]
      have hb1 := hbf (j + 1)
      rw [rw_fold extW s.ws _ j _ hw] at hb1
      have hb3 := hbr j
      have hwp := hpos _ (List.mem_of_getElem? hw)
      have hw6 := hw6 _ (List.mem_of_getElem? hw)
      generalize (s.ws.take j).foldl extW [([], room)] = rs at *
      simp [width_ok s hw]
      refine then_post (P := fun o S'' => S'' = S' ∧ ∃ d e f, o = .nx [some s.o, some (.int (room : Int)), some (.lst (rs.map rowD)), some (.int (j : Int)), some (.lst ((extW rs w).map rowD)), some (.int (w : Int)), d, e, f]) ?_ fun o S'' ⟨e1, d, e, f, e2⟩ => ?_
      · refine forL_map (P := fun i ρ S'' => S'' = S' ∧ ∃ d e f, ρ = [some s.o, some (.int (room : Int)), some (.lst (rs.map rowD)), some (.int (j : Int)), some (.lst ((extW (rs.take i) w).map rowD)), some (.int (w : Int)), d, e, f]) rs
          ⟨rfl, d, e, f, rfl⟩ (fun i x hi ρ S'' ⟨e1, d, e, f, e2⟩ => ?_) fun ρ S'' ⟨e1, d, e, f, e2⟩ => ⟨e1, d, e, f, ?_⟩
        · subst e1 e2
          obtain ⟨r, l⟩ := x
          have hrl := hb3 _ (List.mem_of_getElem? hi)
          have hle := extW_le (rs := rs) (w := w) (i := i + 1)
          rw [extW_take hi] at hle ⊢
          have hrl' : r.length ≤ 6 := hrl
          have hex : (extW (rs.take i) w).length + (l / w + 1) ≤ sizeLine := szl ▸ (by
            rw [List.length_append, List.length_map, List.length_range] at hle
            show _ + ((r, l).2 / w + 1) ≤ _
            omega)
          generalize extW (rs.take i) w = ps at *
          simp [rowD, fdiv_nat hwp hw6]
          rw [show ((l : Int) / (w : Int)) + 1 = ((l / w + 1 : Nat) : Int) by simp, rg1 (by
            have := szl
            omega)]
          simp
          rw [compL_map (g := fun k => rowD (r ++ [k], l - k * w)) _ (fun k hk => by
            have hk' : k * w ≤ l := (Nat.le_div_iff_mul_le hwp).mp (by have := List.mem_range.mp hk; omega)
            have hrz : r.length + 1 ≤ sizeLine := szk (by omega)
            simp [hrz, mul_nat (k := k) (w := w) hw6, rowD]
            rw [show (l : Int) - (k : Int) * (w : Int) = ((l - k * w : Nat) : Int) by
              rw [Int.ofNat_sub hk', Int.natCast_mul]])]
          have hlen : l / w + 1 ≤ sizeLine := by omega
          simp [hlen, ext_all1 _ _ (show (ps.map rowD).length + ((List.range (l / w + 1)).map fun k => rowD (r ++ [k], l - k * w)).length ≤ sizeLine by simpa using hex), stepP]
        · rw [e2, List.take_length]
      · subst e1 e2
        simp [stepP]
    · rw [e2, List.length_range, ← ws_len, List.take_length, ext_rows]
  · subst e1 e2
    simp
    rw [compL_map (enc := rowD) (g := fun p => natT p.1) _ (fun p hp => by simp [rowD])]
    have hlen : (rowsL s.ws room).length ≤ sizeLine := by
      rw [rows_len _ _ hpos, szl]
      omega
    simp [hlen, rowsW]

/-! ### counted -/
def tabD (n : Nat) (f : Nat → Nat) : D := .lst ((List.range n).map fun k => .int (f k : Int))
theorem tab_get {n j : Nat} (f : Nat → Nat) (h : j < n) : dIx (tabD n f) (.int (j : Int)) = some (.int (f j : Int)) := d_ixl (by rw [List.getElem?_map, List.getElem?_range h]; rfl)
theorem tab_set {n j v : Nat} (f : Nat → Nat) : ((List.range n).map fun k => D.int (f k : Int)).set j (.int (v : Int)) = (List.range n).map fun k => D.int ((if k = j then v else f k : Nat) : Int) := by
  apply List.ext_getElem?
  intro i
  rw [List.getElem?_set, List.getElem?_map, List.getElem?_map]
  by_cases hi : i < n
  · rw [List.getElem?_range hi]
    by_cases h : j = i
    · subst h
      simp [hi]
    · have h2 : ¬ i = j := fun e => h e.symm
      simp [h, h2]
  · rw [List.getElem?_eq_none (show (List.range n).length ≤ i by simp; omega)]
    simp
    omega
theorem tab_one (n : Nat) (v : Nat) (h : n ≤ 10000000) : dRepF (.lst [.int (v : Int)]) (.int (n : Int)) = some (tabD n fun _ => v) := by
  show (if rpOk 1 (n : Int) then some (D.lst (List.replicate (n : Int).toNat [D.int (v : Int)]).flatten) else none) = _
  rw [if_pos (rpOk_of (by omega) (by rw [szl]; omega))]
  congr 2
  rw [Int.toNat_natCast, show (fun k => D.int (((fun _ => v) k : Nat) : Int)) = Function.const Nat (D.int (v : Int)) from rfl, List.map_const, List.length_range]
  induction n with
  | zero => rfl
  | succ n ih => rw [List.replicate_succ, List.flatten_cons, ih (by omega), List.replicate_succ]; rfl
theorem ixN_nat {n j : Nat} (h : j < n) : ixN n (j : Int) = some j := by
  unfold ixN
  rw [if_pos (by omega), if_pos (by omega)]
  simp
theorem tab_put {n j v : Nat} {f : Nat → Nat} (h : j < n) {i : Nat} {ρ : DEnv} {S : Sto} : setIxD i ρ (.int (v : Int)) (.int (j : Int)) S (some (some (tabD n f))) = .ok (.nx (ρ.set i (some (tabD n fun k => if k = j then v else f k)))) S := by
  unfold tabD
  rw [setIxD_lst, List.length_map, List.length_range, ixN_nat h]
  simp only [optR_some, Res.then_ok]
  rw [tab_set]
theorem tab_tup {n : Nat} {f g : Nat → Nat} (h : ∀ k, k < n → f k = g k) : tabD n f = tabD n g := by
  unfold tabD
  congr 1
  apply List.map_congr_left
  intro k hk
  rw [h k (List.mem_range.mp hk)]
@[simp] theorem vElR_tab (n : Nat) (f : Nat → Nat) (S : Sto) : vElR (some (some (tabD n f))) S = .ok (tabD n f) S := rfl
/-! ### rows of numbers -/
theorem intsD_nat (r : List Nat) : intsD (r.map fun (n : Nat) => D.int (n : Int)) = some (r.map fun (n : Nat) => (n : Int)) := by
  rw [show (r.map fun (n : Nat) => D.int (n : Int)) = (r.map fun (n : Nat) => (n : Int)).map D.int by simp, intsD_map]
theorem sum_nat : ∀ r : List Nat, (r.map fun (n : Nat) => (n : Int)).sum = ((r.sum : Nat) : Int)
  | [] => rfl
  | n :: r => by
    rw [List.map_cons, List.sum_cons, sum_nat r, List.sum_cons]
    omega
theorem blsD_true {α : Type} (r : List α) : dAll [.lst (r.map fun _ => D.bl true)] = some (.bl true) := by
  show (blsD (r.map fun _ => D.bl true)).map (fun ns => D.bl (ns.all id)) = _
  rw [show (r.map fun _ => D.bl true) = (r.map fun _ => true).map D.bl by simp, blsD_map]
  simp
theorem numbers_row_ok (s : ShopT) {r : List Nat} (hl : r.length = s.pieces.length) (hz : r.length ≤ 1000) (S : Sto) : m_is_numbers_row [s.o, natT r] S = .ok (.bl true) S := by
  unfold m_is_numbers_row b_is_numbers_row
  have hl' : (r.length : Int) = s.pieces.length := by omega
  simp [ShopT.o, hl']
  rw [compL_map (g := fun _ => D.bl true) _ (fun n _ => by simp)]
  simp [szk hz, blsD_true]
theorem need_pattern_ok (s : ShopT) {r : List Nat} (hl : r.length = s.pieces.length) (hz : r.length ≤ 1000) (S : Sto) : m_need_pattern [s.o, natT r] S = .ok (natT r) S := by
  unfold m_need_pattern b_need_pattern
  simp [numbers_row_ok s hl hz]
theorem sizeW_sum : ∀ (ws r : List Nat), r.length = ws.length → ((List.range r.length).map fun k => r.getD k 0 * ws.getD k 0).sum = sizeW ws r
  | [], [], _ => rfl
  | w :: ws, k :: r, h => by
    rw [List.length_cons, List.range_succ_eq_map, List.map_cons, List.sum_cons, List.map_map]
    show k * w + ((List.range r.length).map fun i => r.getD i 0 * ws.getD i 0).sum = k * w + sizeW ws r
    rw [sizeW_sum ws r (by simpa using h)]
theorem size_ok (s : ShopT) (hw6 : ∀ w ∈ s.ws, w ≤ 1000000) {r : List Nat} (hl : r.length = s.pieces.length) (hz : r.length ≤ 1000) (S : Sto) : m_size_by [s.o, natT r] S = .ok (.int (sizeW s.ws r : Int)) S := by
  unfold m_size_by b_size_by
  simp
  rw [enumD_map, compL_map (g := fun k => D.int ((r.getD k 0 * s.ws.getD k 0 : Nat) : Int)) _ (fun k hk => by
    have hk1 := List.mem_range.mp hk
    have hkw : k < s.ws.length := by rw [ws_len]; omega
    obtain ⟨w, hw⟩ : ∃ w, s.ws[k]? = some w := ⟨_, List.getElem?_eq_getElem hkw⟩
    have hw2 := hw6 _ (List.mem_of_getElem? hw)
    have hwd : s.ws.getD k 0 = w := by rw [List.getD_eq_getElem?_getD, hw]; rfl
    rw [hwd]
    simp [hk1, width_ok s hw, mul_nat hw2])]
  have hsz := szk hz
  simp [hsz]
  show (optR ((intsD ((List.range r.length).map fun k => D.int ((r.getD k 0 * s.ws.getD k 0 : Nat) : Int))).map fun ns => D.int ns.sum) S).then _ = _
  have e : ((List.range r.length).map fun k => D.int ((r.getD k 0 * s.ws.getD k 0 : Nat) : Int)) = ((List.range r.length).map fun k => r.getD k 0 * s.ws.getD k 0).map fun (n : Nat) => D.int (n : Int) := by simp
  rw [e, intsD_nat]
  simp only [Option.map_some, optR_some, Res.then_ok, outE_rt]
  rw [sum_nat, sizeW_sum s.ws r (by rw [ws_len]; exact hl)]

/-! ### the best worth, plainly -/
def Bw : List Nat → List Nat → Nat → Nat
  | w :: ws, p :: ps, s => if 0 < w ∧ w ≤ s then max (Bw ws ps s) (Bw (w :: ws) (p :: ps) (s - w) + p) else Bw ws ps s
  | [], _, _ => 0
  | _ :: _, [], _ => 0
termination_by ws _ s => (ws.length, s)
def worthW : List Nat → List Nat → Nat
  | p :: ps, k :: r => p * k + worthW ps r
  | _, _ => 0
theorem Bw_nil (ps : List Nat) (s : Nat) : Bw [] ps s = 0 := by
  cases ps <;> rw [Bw]
theorem Bw_ge {w p : Nat} {ws ps : List Nat} {s : Nat} (h0 : 0 < w) (h : w ≤ s) : Bw (w :: ws) (p :: ps) s = max (Bw ws ps s) (Bw (w :: ws) (p :: ps) (s - w) + p) := by rw [Bw, if_pos ⟨h0, h⟩]
theorem Bw_lt {w p : Nat} {ws ps : List Nat} {s : Nat} (h : s < w) : Bw (w :: ws) (p :: ps) s = Bw ws ps s := by rw [Bw, if_neg (by omega)]
theorem Bw_ex {w p : Nat} (hw : 0 < w) (ws ps : List Nat) : ∀ s : Nat, ∃ n, n * w ≤ s ∧ Bw (w :: ws) (p :: ps) s = Bw ws ps (s - n * w) + n * p := by
  intro s
  induction s using Nat.strongRecOn with
  | ind s ih =>
    by_cases h : w ≤ s
    · rw [Bw_ge hw h]
      by_cases h2 : Bw (w :: ws) (p :: ps) (s - w) + p ≤ Bw ws ps s
      · exact ⟨0, by omega, by rw [Nat.max_eq_left h2]; simp⟩
      · obtain ⟨n, h3, h4⟩ := ih (s - w) (by omega)
        refine ⟨n + 1, by rw [Nat.add_mul]; omega, ?_⟩
        rw [Nat.max_eq_right (by omega), h4, Nat.add_mul, Nat.add_mul, show s - w - n * w = s - (n * w + 1 * w) by omega]
        omega
    · exact ⟨0, by omega, by rw [Bw_lt (by omega)]; simp⟩
theorem Bw_use {w p : Nat} (hw : 0 < w) (ws ps : List Nat) : ∀ (n s : Nat), n * w ≤ s → Bw ws ps (s - n * w) + n * p ≤ Bw (w :: ws) (p :: ps) s
  | 0, s, _ => by
    simp
    by_cases h : w ≤ s
    · rw [Bw_ge hw h]
      exact Nat.le_max_left _ _
    · rw [Bw_lt (by omega)]
      exact Nat.le_refl _
  | n + 1, s, h => by
    rw [Nat.add_mul] at h
    have i := Bw_use hw ws ps n (s - w) (p := p) (by omega)
    rw [Bw_ge hw (by omega), Nat.add_mul, Nat.add_mul, show s - (n * w + 1 * w) = s - w - n * w by omega]
    have := Nat.le_max_right (Bw ws ps s) (Bw (w :: ws) (p :: ps) (s - w) + p)
    omega
theorem Bw_ub : ∀ (ws ps r : List Nat) (s : Nat), (∀ x ∈ ws, 0 < x) → r.length = ws.length → ps.length = ws.length → sizeW ws r ≤ s → worthW ps r ≤ Bw ws ps s
  | [], [], [], s, _, _, _, _ => Nat.zero_le _
  | w :: ws, p :: ps, k :: r, s, hw, hr, hp, h => by
    have h' : k * w + sizeW ws r ≤ s := h
    have i := Bw_ub ws ps r (s - k * w) (fun x hx => hw x (List.mem_cons_of_mem _ hx)) (by simpa using hr) (by simpa using hp) (by omega)
    have j := Bw_use (hw w List.mem_cons_self) ws ps k s (p := p) (by omega)
    show p * k + worthW ps r ≤ _
    rw [Nat.mul_comm p k]
    omega
theorem Bw_at : ∀ (ws ps : List Nat) (s : Nat), (∀ x ∈ ws, 0 < x) → ps.length = ws.length → ∃ r : List Nat, r.length = ws.length ∧ sizeW ws r ≤ s ∧ worthW ps r = Bw ws ps s
  | [], ps, s, _, _ => ⟨[], rfl, Nat.zero_le _, by rw [Bw_nil]; cases ps <;> rfl⟩
  | w :: ws, [], s, _, h => by simp at h
  | w :: ws, p :: ps, s, hw, hp => by
    obtain ⟨n, h1, h2⟩ := Bw_ex (p := p) (hw w List.mem_cons_self) ws ps s
    obtain ⟨r, h3, h4, h5⟩ := Bw_at ws ps (s - n * w) (fun x hx => hw x (List.mem_cons_of_mem _ hx)) (by simpa using hp)
    refine ⟨n :: r, by simp [h3], ?_, ?_⟩
    · show n * w + sizeW ws r ≤ s
      omega
    · show p * n + worthW ps r = _
      rw [h2, h5, Nat.mul_comm p n]
      omega
theorem Bw_mono (ws ps : List Nat) {s t : Nat} (hw : ∀ x ∈ ws, 0 < x) (hp : ps.length = ws.length) (h : s ≤ t) : Bw ws ps s ≤ Bw ws ps t := by
  obtain ⟨r, h1, h2, h3⟩ := Bw_at ws ps s hw hp
  rw [← h3]
  exact Bw_ub ws ps r t hw h1 hp (by omega)
/-- a bound: all widths at least 1 -/
theorem Bw_le {m : Nat} : ∀ (ws ps : List Nat) (s : Nat), (∀ x ∈ ws, 0 < x) → (∀ p ∈ ps, p ≤ m) → ps.length = ws.length → Bw ws ps s ≤ s * m
  | [], ps, s, _, _, _ => by rw [Bw_nil]; exact Nat.zero_le _
  | w :: ws, [], s, _, _, h => by simp at h
  | w :: ws, p :: ps, s, hw, hp, hl => by
    have hw0 := hw w List.mem_cons_self
    have i := Bw_le ws ps s (fun x hx => hw x (List.mem_cons_of_mem _ hx)) (fun x hx => hp x (List.mem_cons_of_mem _ hx)) (by simpa using hl)
    by_cases h : w ≤ s
    · rw [Bw_ge hw0 h]
      have j := Bw_le (w :: ws) (p :: ps) (s - w) hw hp hl
      have hpm := hp p List.mem_cons_self
      have e : (s - w) * m + m ≤ s * m := by
        have : (s - w + 1) * m ≤ s * m := Nat.mul_le_mul_right m (by omega)
        rw [Nat.add_mul] at this
        omega
      exact Nat.max_le.mpr ⟨i, by omega⟩
    · rw [Bw_lt (by omega)]
      exact i
termination_by ws _ s => (ws.length, s)

/-! ### a piece more -/
theorem sizeW_set : ∀ (ws r : List Nat) (i k w m : Nat), r[i]? = some k → ws[i]? = some w → sizeW ws (r.set i m) + k * w = sizeW ws r + m * w
  | w0 :: ws, k0 :: r, 0, k, w, m, h1, h2 => by
    simp at h1 h2
    subst h1 h2
    show m * w0 + sizeW ws r + k0 * w0 = k0 * w0 + sizeW ws r + m * w0
    omega
  | w0 :: ws, k0 :: r, i + 1, k, w, m, h1, h2 => by
    have := sizeW_set ws r i k w m (by simpa using h1) (by simpa using h2)
    show k0 * w0 + sizeW ws (r.set i m) + k * w = k0 * w0 + sizeW ws r + m * w
    omega
  | [], _, i, k, w, m, _, h2 => by simp at h2
  | _ :: _, [], i, k, w, m, h1, _ => by simp at h1
theorem worthW_set : ∀ (ws r : List Nat) (i k w m : Nat), r[i]? = some k → ws[i]? = some w → worthW ws (r.set i m) + w * k = worthW ws r + w * m
  | w0 :: ws, k0 :: r, 0, k, w, m, h1, h2 => by
    simp at h1 h2
    subst h1 h2
    show w0 * m + worthW ws r + w0 * k0 = w0 * k0 + worthW ws r + w0 * m
    omega
  | w0 :: ws, k0 :: r, i + 1, k, w, m, h1, h2 => by
    have := worthW_set ws r i k w m (by simpa using h1) (by simpa using h2)
    show w0 * k0 + worthW ws (r.set i m) + w * k = w0 * k0 + worthW ws r + w * m
    omega
  | [], _, i, k, w, m, _, h2 => by simp at h2
  | _ :: _, [], i, k, w, m, h1, _ => by simp at h1
theorem sizeW_zero : ∀ (ws : List Nat) (n : Nat), sizeW ws (List.replicate n 0) = 0
  | [], n => by cases n <;> rfl
  | w :: ws, 0 => rfl
  | w :: ws, n + 1 => by
    rw [List.replicate_succ]
    show 0 * w + sizeW ws (List.replicate n 0) = 0
    rw [sizeW_zero ws n]
    omega
theorem worthW_zero : ∀ (ws : List Nat) (n : Nat), worthW ws (List.replicate n 0) = 0
  | [], n => by cases n <;> rfl
  | w :: ws, 0 => rfl
  | w :: ws, n + 1 => by
    rw [List.replicate_succ]
    show w * 0 + worthW ws (List.replicate n 0) = 0
    rw [worthW_zero ws n]
    omega
theorem sizeW_ge {ws r : List Nat} {i k w : Nat} (h1 : r[i]? = some k) (h2 : ws[i]? = some w) (h3 : 0 < k) : w ≤ sizeW ws r := by
  have := sizeW_set ws r i k w 0 h1 h2
  have h4 : w ≤ k * w := Nat.le_mul_of_pos_left w h3
  omega
theorem row_zero {r : List Nat} (h : ∀ (i k : Nat), r[i]? = some k → k = 0) : r = List.replicate r.length 0 := by
  apply List.ext_getElem?
  intro i
  rw [List.getElem?_replicate]
  by_cases hi : i < r.length
  · rw [if_pos hi, List.getElem?_eq_getElem hi]
    rw [h i _ (List.getElem?_eq_getElem hi)]
  · rw [if_neg hi, List.getElem?_eq_none (by omega)]
theorem set_back {r : List Nat} {i k m : Nat} (h : r[i]? = some k) : (r.set i m).set i k = r := by
  rw [List.set_set]
  apply List.ext_getElem?
  intro j
  by_cases hj : i = j
  · subst hj
    rw [List.getElem?_set_self (List.getElem?_eq_some_iff.mp h).1, h]
  · rw [List.getElem?_set_ne hj]
/-- (0,) * n -/
theorem zero_row {n : Nat} (h : 1 ≤ n) (h2 : n ≤ 1000) : dMulA (.tup [.int 0]) (.int (n : Int)) = some (natT (List.replicate n 0)) := by
  have e : ∀ n : Nat, (List.replicate n [D.int 0]).flatten = (List.replicate n 0).map fun (n : Nat) => D.int (n : Int) := fun n => by
    induction n with
    | zero => rfl
    | succ n ih => rw [List.replicate_succ, List.flatten_cons, ih, List.replicate_succ]; rfl
  by_cases h1 : n = 1
  · subst h1
    simp [dMulA]
  · show (if (n : Int) = 1 then some (D.tup [.int 0]) else if ([D.int 0] ≠ [] ∧ 2 ≤ (n : Int) ∧ (n : Int) ≤ 1000 ∧ [D.int 0].length ≤ 1000) then some (D.tup (List.replicate (n : Int).toNat [D.int 0]).flatten) else none) = _
    rw [if_neg (by omega), if_pos ⟨by simp, by omega, by omega, by simp⟩, Int.toNat_natCast, e]

theorem cut_ok (s : ShopT) {i : Nat} {p : Str × Nat × Nat} (h : s.pieces[i]? = some p) (l : Nat) (S : Sto) : m__law_cut [s.t, .int (l : Int), .int (i : Int)] S = .ok (if l < p.2.1 then .non else .int ((l - p.2.1 - s.kerf : Nat) : Int)) S := by
  unfold m__law_cut b__law_cut
  by_cases hl : l < p.2.1
  · have h1 : (l : Int) < p.2.1 := by omega
    have h2 : (l : Int) - p.2.1 < 0 := by omega
    simp [ShopT.t, piece_at h, pieceD, hl, h2]
  · have h2 : ¬ (l : Int) - p.2.1 < 0 := by omega
    simp [ShopT.t, piece_at h, pieceD, hl, h2, dMin]
    split <;> omega
def lrowD (kf : Nat) (p : List Nat × Nat) : D := .tup [natT p.1, .int ((p.2 - kf : Nat) : Int)]
theorem lpat_ok (s : ShopT) (hp : PiecesOk s.pieces) {len : Nat} (hr : len + s.kerf ≤ 90000) (hm : Rw s.ws (len + s.kerf) ≤ 3000) (S : Sto) : m__law_patterns [s.t, .int (len : Int)] S = .ok (.lst ((rowsW s.ws (len + s.kerf)).map natT)) S := by
  have hpos := ws_pos hp
  have hbf : ∀ i, ((s.ws.take i).foldl extW [([], len + s.kerf)]).length ≤ 3000 := fun i => by
    rw [ext_rows, rows_len _ _ fun x hx => hpos x (List.mem_of_mem_take hx)]
    exact Nat.le_trans (Rw_take _ _ _ hpos) hm
  have hbr : ∀ i, ∀ p ∈ (s.ws.take i).foldl extW [([], len + s.kerf)], p.1.length ≤ 6 ∧ p.2 ≤ len + s.kerf := fun i p hpp => by
    rw [ext_rows] at hpp
    obtain ⟨r, l⟩ := p
    obtain ⟨h1, _, h3⟩ := (rows_mem _ _ _ _ fun x hx => hpos x (List.mem_of_mem_take hx)).mp hpp
    show r.length ≤ 6 ∧ l ≤ _
    have := hp.len
    rw [h1, List.length_take, ws_len]
    omega
  unfold m__law_patterns b__law_patterns
  have hl6 := hp.len
  simp [ShopT.t]
  rw [rg1 (by omega)]
  simp
  apply post_ok
  refine then_post (P := fun o S' => S' = S ∧ ∃ a b c d e, o = .nx [some s.t, some (.int (len : Int)), some (.lst ((rowsL s.ws (len + s.kerf)).map (lrowD s.kerf))), a, b, c, d, e]) ?_ fun o S' ⟨e1, a, b, c, d, e, e2⟩ => ?_
  · refine forL_map (P := fun j ρ S' => S' = S ∧ ∃ a b c d e, ρ = [some s.t, some (.int (len : Int)), some (.lst (((s.ws.take j).foldl extW [([], len + s.kerf)]).map (lrowD s.kerf))), a, b, c, d, e]) (List.range s.pieces.length)
      ⟨rfl, none, none, none, none, none, ?_⟩ (fun j x hj ρ S' ⟨e1, a, b, c, d, e, e2⟩ => ?_) fun ρ S' ⟨e1, a, b, c, d, e, e2⟩ => ⟨e1, a, b, c, d, e, ?_⟩
    · rw [List.take_zero]
      simp [lrowD, ShopT.t]
    · obtain ⟨h1, h2⟩ := List.getElem?_eq_some_iff.mp hj
      rw [List.getElem_range] at h2
      subst h2 e1 e2
      rw [List.length_range] at h1
      obtain ⟨pc, hpc⟩ : ∃ pc, s.pieces[j]? = some pc := ⟨_, List.getElem?_eq_getElem h1⟩
      have hw : s.ws[j]? = some (pc.2.1 + s.kerf) := by
        unfold ShopT.ws
        rw [List.getElem?_map, hpc]
        rfl
      have hlp := hp.pos _ (List.mem_of_getElem? hpc)
      rw [rw_fold extW s.ws _ j _ hw]
      have hb1 := hbf (j + 1)
      rw [rw_fold extW s.ws _ j _ hw] at hb1
      have hb3 := hbr j
      generalize (s.ws.take j).foldl extW [([], len + s.kerf)] = rs at *
      have hcut := cut_ok s hpc
      generalize hw' : pc.2.1 + s.kerf = w at *
      have hwp : 0 < w := by omega
      simp
      refine then_post (P := fun o S'' => S'' = S' ∧ ∃ c d e, o = .nx [some s.t, some (.int (len : Int)), some (.lst (rs.map (lrowD s.kerf))), some (.int (j : Int)), some (.lst ((extW rs w).map (lrowD s.kerf))), c, d, e]) ?_ fun o S'' ⟨e1, c, d, e, e2⟩ => ?_
      · refine forL_map (P := fun i ρ S'' => S'' = S' ∧ ∃ c d e, ρ = [some s.t, some (.int (len : Int)), some (.lst (rs.map (lrowD s.kerf))), some (.int (j : Int)), some (.lst ((extW (rs.take i) w).map (lrowD s.kerf))), c, d, e]) rs
          ⟨rfl, c, d, e, rfl⟩ (fun i x hi ρ S'' ⟨e1, c, d, e, e2⟩ => ?_) fun ρ S'' ⟨e1, c, d, e, e2⟩ => ⟨e1, c, d, e, ?_⟩
        · subst e1 e2
          obtain ⟨r, l⟩ := x
          obtain ⟨hrl, hll⟩ := hb3 _ (List.mem_of_getElem? hi)
          have hle := extW_le (rs := rs) (w := w) (i := i + 1)
          rw [extW_take hi] at hle ⊢
          have hrl' : r.length ≤ 6 := hrl
          have hll' : l ≤ len + s.kerf := hll
          have hex : (extW (rs.take i) w).length + (l / w + 1) ≤ 3000 := by
            rw [List.length_append, List.length_map, List.length_range] at hle
            show _ + ((r, l).2 / w + 1) ≤ _
            omega
          generalize extW (rs.take i) w = ps at *
          simp [lrowD]
          refine Res.post_mono (whL_run (P := fun m ρ S2 => S2 = S'' ∧ ∃ k : Nat, m + k = l / w + 1 ∧ ρ = [some s.t, some (.int (len : Int)), some (.lst (rs.map (lrowD s.kerf))), some (.int (j : Int)), some (.lst ((ps ++ (List.range k).map fun k => (r ++ [k], l - k * w)).map (lrowD s.kerf))), some (natT r), some (if k ≤ l / w then .int ((l - k * w - s.kerf : Nat) : Int) else .non), some (.int (k : Int))])
            (Q := fun o S2 => S2 = S'' ∧ ∃ c d e, o = .nx [some s.t, some (.int (len : Int)), some (.lst (rs.map (lrowD s.kerf))), some (.int (j : Int)), some (.lst ((ps ++ (List.range (l / w + 1)).map fun k => (r ++ [k], l - k * w)).map (lrowD s.kerf))), c, d, e]) (fun m ρ S2 ⟨e1, k, hm, e2⟩ => ?_) FUEL (l / w + 1) _ _ ?_ ⟨rfl, 0, by omega, ?_⟩) fun o S2 ⟨e1, c, d, e, e2⟩ => ?_
          · subst e1 e2
            by_cases hk : k ≤ l / w
            · have hkl : k * w ≤ l := (Nat.le_div_iff_mul_le hwp).mp hk
              simp only [hk, if_true]
              have hap : mAppend ((ps ++ (List.range k).map fun k => (r ++ [k], l - k * w)).map (lrowD s.kerf)) [.tup [.tup ((r.map fun (n : Nat) => D.int (n : Int)) ++ [.int (k : Int)]), .int ((l - k * w - s.kerf : Nat) : Int)]] = some ((ps ++ (List.range (k + 1)).map fun k => (r ++ [k], l - k * w)).map (lrowD s.kerf), .non) := by
                show (if _ then _ else _) = _
                rw [if_pos (by rw [List.length_map, List.length_append, List.length_map, List.length_range, szl]; omega)]
                rw [List.range_succ]
                simp [lrowD]
              have hrz : (r.map fun (n : Nat) => D.int (n : Int)).length + 1 ≤ sizeLine := szk (by rw [List.length_map]; omega)
              generalize hX : (ps ++ (List.range k).map fun k => (r ++ [k], l - k * w)).map (lrowD s.kerf) = X at *
              generalize hY : (ps ++ (List.range (k + 1)).map fun k => (r ++ [k], l - k * w)).map (lrowD s.kerf) = Y at *
              simp [d_add_tup _ _ (show (r.map fun (n : Nat) => D.int (n : Int)).length + [D.int (k : Int)].length ≤ sizeLine from hrz), hcut]
              refine ⟨m - 1, by omega, ?_⟩
              rw [hap]
              simp [stepP]
              refine ⟨k + 1, by omega, ?_, ?_, by omega⟩
              · rw [← hY]
                simp
              · by_cases h2 : k + 1 ≤ l / w
                · have h3 := (Nat.le_div_iff_mul_le hwp).mp h2
                  rw [Nat.add_mul] at h3
                  rw [if_pos h2, if_neg (by omega), Nat.add_mul]
                  congr 2
                  omega
                · have h3 : ¬ (k + 1) * w ≤ l := fun q => h2 ((Nat.le_div_iff_mul_le hwp).mpr q)
                  rw [Nat.add_mul] at h3
                  rw [if_neg h2, if_pos (by omega)]
            · have hk2 : k = l / w + 1 := by omega
              subst hk2
              simp [hk]
          · have h2 : l / w ≤ l := Nat.div_le_self l w
            unfold FUEL
            omega
          · simp
          · subst e1 e2
            simp [stepP]
        · rw [e2, List.take_length]
      · subst e1 e2
        simp [stepP]
    · rw [e2, List.length_range, ← ws_len, List.take_length, ext_rows]
  · subst e1 e2
    simp
    rw [compL_map (enc := lrowD s.kerf) (g := fun p => natT p.1) _ (fun p hp => by simp [lrowD])]
    have hlen : (rowsL s.ws (len + s.kerf)).length ≤ sizeLine := by
      rw [rows_len _ _ hpos, szl]
      omega
    simp [hlen, rowsW]

/-! ### sorted rows of numbers, each once -/
theorem cast_lt : ∀ a b : List Nat, ((a.map fun (n : Nat) => (n : Int)) < (b.map fun (n : Nat) => (n : Int))) ↔ a < b
  | [], [] => by simp
  | [], y :: ys => by simp
  | x :: xs, [] => by simp
  | x :: xs, y :: ys => by
    rw [List.map_cons, List.map_cons, List.cons_lt_cons_iff, List.cons_lt_cons_iff, cast_lt xs ys, Int.ofNat_lt, Int.ofNat_inj]
theorem natP_lt (a b : List Nat) : PySem.W.dataLt (natP a) (natP b) = decide (a < b) := by
  have e : ∀ r : List Nat, (r.map fun (n : Nat) => PyData.int (n : Int)) = (r.map fun (n : Nat) => (n : Int)).map PyData.int := fun r => by simp
  show PySem.W.rowLt (a.map fun (n : Nat) => PyData.int (n : Int)) (b.map fun (n : Nat) => PyData.int (n : Int)) = _
  rw [e, e, PySem.W.dataLt_ints]
  simp [cast_lt]
def leW (a b : List Nat) : Bool := !decide (b < a)
theorem natP_le : PySem.W.dataLe false natP = leW := by
  rw [PySem.W.dataLe_eq]
  funext a b
  show (!PySem.W.dataLt (natP b) (natP a)) = _
  rw [natP_lt]
  rfl
theorem sortOk_rows {rs : List (List Nat)} (h : ∀ r ∈ rs, r ≠ []) : sortOk (rs.map natP) = true := by
  have e : ∀ r : List Nat, (r.map fun (n : Nat) => PyData.int (n : Int)) = (r.map fun (n : Nat) => (n : Int)).map PyData.int := fun r => by simp
  unfold sortOk
  rw [Bool.and_eq_true, Bool.and_eq_true]
  refine ⟨⟨?_, ?_⟩, ?_⟩
  · rw [List.all_eq_true]
    intro a ha
    rw [List.all_eq_true]
    intro b hb
    obtain ⟨x, _, rfl⟩ := List.mem_map.mp ha
    obtain ⟨y, _, rfl⟩ := List.mem_map.mp hb
    rw [PySem.W.alike, e, e]
    exact PySem.W.alike_ints _ _
  · rw [Bool.or_eq_true]
    refine .inl ?_
    rw [List.all_eq_true]
    intro a ha
    obtain ⟨x, hx, rfl⟩ := List.mem_map.mp ha
    cases x with
    | nil => exact absurd rfl (h _ hx)
    | cons n r => rfl
  · rw [List.all_eq_true]
    intro a ha
    obtain ⟨x, hx, rfl⟩ := List.mem_map.mp ha
    have := encRow.dep x
    simp only [decide_eq_true_eq]
    omega
theorem sorted_rows {rs : List (List Nat)} (h : ∀ r ∈ rs, r ≠ []) : dSorted [.lst (rs.map natT)] = some (.lst ((rs.mergeSort leW).map natT)) := by
  show (pyAll (rs.map natT)).bind (fun ps => if sortOk ps then some (D.lst (sortD (rs.map natT) ps)) else none) = _
  rw [pyAll_map (p := natP) encRow.py rs]
  show (if sortOk (rs.map natP) = true then some (D.lst (sortD (rs.map natT) (rs.map natP))) else none) = _
  rw [if_pos (sortOk_rows h)]
  congr 2
  unfold sortD
  rw [show (rs.map natT).zip (rs.map natP) = rs.map fun r => (natT r, natP r) by
    clear h
    induction rs with
    | nil => rfl
    | cons r rs ih => rw [List.map_cons, List.map_cons, List.zip_cons_cons, ih, List.map_cons]]
  rw [← List.map_mergeSort (r := leW) (f := fun r : List Nat => (natT r, natP r)) (s := PySem.W.dataLe false (·.2)) (fun a _ b _ => by
    show leW a b = PySem.W.dataLe false natP a b
    rw [natP_le]), List.map_map]
  rfl
theorem leW_iff (a b : List Nat) : leW a b = true ↔ a ≤ b := by
  unfold leW
  simp
theorem leW_trans (a b c : List Nat) (h : leW a b = true) (h2 : leW b c = true) : leW a c = true := by
  rw [leW_iff] at *
  exact List.le_trans h h2
theorem leW_total (a b : List Nat) : (leW a b || leW b a) = true := by
  rw [Bool.or_eq_true, leW_iff, leW_iff]
  exact List.le_total a b
/-- the neighbours that are alike, left out -/
def dedAt (L : List (List Nat)) : List Nat := (List.range L.length).filter fun i => decide (i = 0) || decide (L.getD i [] ≠ L.getD (i - 1) [])
def dedW (L : List (List Nat)) : List (List Nat) := (dedAt L).map fun i => L.getD i []
theorem getD_eq {α : Type} {L : List α} {i : Nat} {d : α} (h : i < L.length) : L.getD i d = L[i] := by
  rw [List.getD_eq_getElem?_getD, List.getElem?_eq_getElem h]
  rfl
theorem ded_sorted {L : List (List Nat)} (h : L.Pairwise fun a b => leW a b = true) : (dedW L).Pairwise (· < ·) := by
  unfold dedW dedAt
  rw [List.pairwise_map, List.pairwise_filter]
  refine List.Pairwise.imp_of_mem ?_ List.pairwise_lt_range
  intro i j hi hj hlt _ hpj
  have hi' := List.mem_range.mp hi
  have hj' := List.mem_range.mp hj
  rw [getD_eq hi', getD_eq hj']
  rw [getD_eq hj', getD_eq (show j - 1 < L.length by omega)] at hpj
  have hne : L[j] ≠ L[j - 1] := by
    simp at hpj
    rcases hpj with z | z
    · omega
    · exact z
  have h1 : L[i] ≤ L[j - 1] := by
    by_cases e : i = j - 1
    · subst e
      exact List.le_refl _
    · exact (leW_iff _ _).mp (List.pairwise_iff_getElem.mp h i (j - 1) hi' (by omega) (by omega))
  have h2 : L[j - 1] ≤ L[j] := (leW_iff _ _).mp (List.pairwise_iff_getElem.mp h (j - 1) j (by omega) hj' (by omega))
  by_cases z : L[i] < L[j]
  · exact z
  · have h3 : L[j] ≤ L[i] := List.not_lt.mp z
    exact absurd (List.le_antisymm (List.le_trans h3 h1) h2) hne
theorem ded_mem {L : List (List Nat)} {x : List Nat} : x ∈ dedW L ↔ x ∈ L := by
  unfold dedW dedAt
  rw [List.mem_map]
  constructor
  · rintro ⟨i, hi, rfl⟩
    have := List.mem_range.mp (List.mem_filter.mp hi).1
    rw [getD_eq this]
    exact List.getElem_mem _
  · intro hx
    obtain ⟨i, hi, e⟩ := List.mem_iff_getElem.mp hx
    have go : ∀ i (hi : i < L.length), L[i] = x → ∃ i, i ∈ (List.range L.length).filter (fun i => decide (i = 0) || decide (L.getD i [] ≠ L.getD (i - 1) [])) ∧ L.getD i [] = x := by
      intro i
      induction i with
      | zero => exact fun hi e => ⟨0, List.mem_filter.mpr ⟨List.mem_range.mpr hi, rfl⟩, by rw [getD_eq hi, e]⟩
      | succ i ih =>
        intro hi e
        by_cases z : L[i] = x
        · exact ih (by omega) z
        · refine ⟨i + 1, List.mem_filter.mpr ⟨List.mem_range.mpr hi, ?_⟩, by rw [getD_eq hi, e]⟩
          rw [getD_eq hi, e, Nat.add_sub_cancel, getD_eq (show i < L.length by omega)]
          simp
          exact fun q => z q.symm
    exact go i hi e
theorem sorted_same : ∀ {l m : List (List Nat)}, l.Pairwise (· < ·) → m.Pairwise (· < ·) → (∀ x, x ∈ l ↔ x ∈ m) → l = m
  | [], [], _, _, _ => rfl
  | [], y :: m, _, _, h => by have := (h y).mpr List.mem_cons_self; cases this
  | x :: l, [], _, _, h => by have := (h x).mp List.mem_cons_self; cases this
  | x :: l, y :: m, h1, h2, h => by
    obtain ⟨a1, a2⟩ := List.pairwise_cons.mp h1
    obtain ⟨b1, b2⟩ := List.pairwise_cons.mp h2
    have exy : x = y := by
      rcases List.mem_cons.mp ((h x).mp List.mem_cons_self) with e | e
      · exact e
      · rcases List.mem_cons.mp ((h y).mpr List.mem_cons_self) with f | f
        · exact f.symm
        · exact absurd (List.lt_trans (a1 y f) (b1 x e)) (List.lt_irrefl x)
    subst exy
    congr 1
    refine sorted_same a2 b2 fun z => ⟨fun hz => ?_, fun hz => ?_⟩
    · rcases List.mem_cons.mp ((h z).mp (List.mem_cons_of_mem _ hz)) with e | e
      · subst e
        exact absurd (a1 z hz) (List.lt_irrefl z)
      · exact e
    · rcases List.mem_cons.mp ((h z).mpr (List.mem_cons_of_mem _ hz)) with e | e
      · subst e
        exact absurd (b1 z hz) (List.lt_irrefl z)
      · exact e
/-- what is sorted, each once, is told by its members -/
theorem uniq_rows {some rows : List (List Nat)} (h : rows.Pairwise (· < ·)) (hm : ∀ x, x ∈ some ↔ x ∈ rows) : dedW (some.mergeSort leW) = rows :=
  sorted_same (ded_sorted (List.pairwise_mergeSort leW_trans leW_total some)) h fun x => by
    rw [ded_mem, List.mem_mergeSort]
    exact hm x

theorem worth_size : ∀ (ws r : List Nat), worthW ws r = sizeW ws r
  | [], [] => rfl
  | [], _ :: _ => rfl
  | _ :: _, [] => rfl
  | w :: ws, k :: r => by
    show w * k + worthW ws r = k * w + sizeW ws r
    rw [worth_size ws r, Nat.mul_comm]

theorem is_bool (i j : Bool) (S : Sto) : m__law_is [.bl i, .bl j] S = .ok (.bl (decide (i = j))) S := by
  unfold m__law_is r__law_is b__law_is
  cases j <;> cases i <;> simp -implicitDefEqProofs

/-! ### _law_is of what is the same -/
mutual
/-- plain: None, truth values, ints, texts, tuples of such; at most so deep -/
def pl : Nat → D → Bool
  | _, .non => true
  | _, .bl _ => true
  | _, .int _ => true
  | _, .str x => PyData.strOk x
  | n + 1, .tup xs => pls n xs && decide (xs.length ≤ 100000)
  | _, _ => false
def pls : Nat → List D → Bool
  | _, [] => true
  | n, d :: ds => pl n d && pls n ds
end
theorem pls_mem {n : Nat} : ∀ {ds : List D}, pls n ds = true → ∀ d ∈ ds, pl n d = true
  | d :: ds, h, e, he => by
    have h' : (pl n d && pls n ds) = true := h
    rw [Bool.and_eq_true] at h'
    rcases List.mem_cons.mp he with rfl | he
    · exact h'.1
    · exact pls_mem h'.2 e he
theorem law_is_self : ∀ (n : Nat) (d : D) (S : Sto), pl n d = true → r__law_is (n + 1) [d, d] S = .ok (.bl true) S := by
  intro n
  induction n with
  | zero =>
    intro d S h
    show runD 3 (b__law_is (r__law_is 0)) _ _ = _
    unfold b__law_is
    cases d with
    | non => simp -implicitDefEqProofs [-Int.natCast_add]
    | bl b => cases b <;> simp -implicitDefEqProofs [-Int.natCast_add]
    | int i => simp -implicitDefEqProofs [-Int.natCast_add]
    | str x =>
      have e := encStr.eq h h false
      simp -implicitDefEqProofs [-Int.natCast_add, e]
    | tup xs => cases h
    | _ => cases h
  | succ n ih =>
    intro d S h
    show runD 3 (b__law_is (r__law_is (n + 1))) _ _ = _
    unfold b__law_is
    cases d with
    | non => simp -implicitDefEqProofs [-Int.natCast_add]
    | bl b => cases b <;> simp -implicitDefEqProofs [-Int.natCast_add]
    | int i => simp -implicitDefEqProofs [-Int.natCast_add]
    | str x =>
      have e := encStr.eq h h false
      simp -implicitDefEqProofs [-Int.natCast_add, e]
    | tup xs =>
      have h' : (pls n xs && decide (xs.length ≤ 100000)) = true := h
      rw [Bool.and_eq_true, decide_eq_true_eq] at h'
      have hnil : dEq (.lst []) (.lst []) = some (.bl true) := encInt.lst.eq (a := []) (b := []) (fun _ _ => trivial) (fun _ _ => trivial) false
      simp -implicitDefEqProofs [-Int.natCast_add]
      rw [rg1 (by omega)]
      simp -implicitDefEqProofs [-Int.natCast_add]
      rw [compL_rangeF (g := fun (k : Nat) => .int (k : Int)) (p := fun _ => false) xs.length (fun k hk => by
        have hx : xs[k]? = some xs[k] := List.getElem?_eq_getElem hk
        have e := d_ixt hx
        have i := ih xs[k] S (pls_mem h'.1 _ (List.getElem_mem hk))
        simp -implicitDefEqProofs [-Int.natCast_add, e, i])]
      have hf : (List.range xs.length).filter (fun _ => false) = [] := by simp
      simp -implicitDefEqProofs [-Int.natCast_add, hf, hnil]
    | _ => cases h
theorem pl_nats (n : Nat) (r : List Nat) (h : r.length ≤ 100000) : pl (n + 1) (natT r) = true := by
  show (pls n (r.map fun (n : Nat) => D.int (n : Int)) && decide ((r.map fun (n : Nat) => D.int (n : Int)).length ≤ 100000)) = true
  rw [Bool.and_eq_true, decide_eq_true_eq, List.length_map]
  refine ⟨?_, h⟩
  clear h
  induction r with
  | nil => cases n <;> rfl
  | cons a r ih =>
    show (pl n (.int (a : Int)) && pls n (r.map fun (n : Nat) => D.int (n : Int))) = true
    rw [ih]
    cases n <;> rfl
theorem pl_rows (n : Nat) (L : List (List Nat)) (h : L.length ≤ 100000) (h2 : ∀ r ∈ L, r.length ≤ 100000) : pl (n + 2) (.tup (L.map natT)) = true := by
  show (pls (n + 1) (L.map natT) && decide ((L.map natT).length ≤ 100000)) = true
  rw [Bool.and_eq_true, decide_eq_true_eq, List.length_map]
  refine ⟨?_, h⟩
  clear h
  induction L with
  | nil => rfl
  | cons a r ih =>
    show (pl (n + 1) (natT a) && pls (n + 1) (r.map natT)) = true
    rw [ih fun x hx => h2 x (List.mem_cons_of_mem _ hx), pl_nats n a (h2 a List.mem_cons_self)]
    rfl
theorem is_rows (L : List (List Nat)) (h : L.length ≤ 100000) (h2 : ∀ r ∈ L, r.length ≤ 100000) (S : Sto) : m__law_is [.tup (L.map natT), .tup (L.map natT)] S = .ok (.bl true) S := law_is_self 11 _ S (pl_rows 9 L h h2)

/-! ### any plain values -/
theorem pl_py : ∀ (n : Nat) (d : D), pl n d = true → ∃ x, d.py = some x ∧ x.canLay0 = true ∧ x.depth ≤ n := by
  intro n
  induction n with
  | zero =>
    intro d h
    cases d with
    | non => exact ⟨.none, rfl, by simp [PyData.canLay0], by simp [PyData.depth]⟩
    | bl b => exact ⟨.bool b, rfl, by simp [PyData.canLay0], by simp [PyData.depth]⟩
    | int i => exact ⟨.int i, rfl, by simp [PyData.canLay0], by simp [PyData.depth]⟩
    | str x => exact ⟨.str x, rfl, by rw [PyData.canLay0]; exact h, by simp [PyData.depth]⟩
    | _ => cases h
  | succ n ih =>
    intro d h
    cases d with
    | non => exact ⟨.none, rfl, by simp [PyData.canLay0], by simp [PyData.depth]⟩
    | bl b => exact ⟨.bool b, rfl, by simp [PyData.canLay0], by simp [PyData.depth]⟩
    | int i => exact ⟨.int i, rfl, by simp [PyData.canLay0], by simp [PyData.depth]⟩
    | str x => exact ⟨.str x, rfl, by rw [PyData.canLay0]; exact h, by simp [PyData.depth]⟩
    | tup xs =>
      have h' : (pls n xs && decide (xs.length ≤ 100000)) = true := h
      rw [Bool.and_eq_true] at h'
      have go : ∀ xs : List D, pls n xs = true → ∃ ys, pyAll xs = some ys ∧ PyData.canLayAll0 ys = true ∧ PyData.depthAll ys ≤ n := by
        intro xs
        induction xs with
        | nil => exact fun _ => ⟨[], rfl, by simp [PyData.canLayAll0], by simp [PyData.depthAll]⟩
        | cons d r ihl =>
          intro h
          have h2 : (pl n d && pls n r) = true := h
          rw [Bool.and_eq_true] at h2
          obtain ⟨x, e1, e2, e3⟩ := ih d h2.1
          obtain ⟨ys, f1, f2, f3⟩ := ihl h2.2
          refine ⟨x :: ys, ?_, ?_, ?_⟩
          · show (match d.py, pyAll r with
              | some x, some xs => some (x :: xs)
              | _, _ => none) = _
            rw [e1, f1]
          · rw [PyData.canLayAll0, e2, f2]; rfl
          · rw [PyData.depthAll]; omega
      obtain ⟨ys, f1, f2, f3⟩ := go xs h'.1
      refine ⟨.tuple ys, ?_, ?_, ?_⟩
      · show (pyAll xs).map PyData.tuple = _
        rw [f1]; rfl
      · rw [PyData.canLay0]; exact f2
      · rw [PyData.depth]; omega
    | _ => cases h
theorem pls_py (n : Nat) : ∀ xs : List D, pls n xs = true → ∃ ys, pyAll xs = some ys ∧ PyData.canLayAll0 ys = true ∧ PyData.depthAll ys ≤ n
  | [], _ => ⟨[], rfl, by simp [PyData.canLayAll0], by simp [PyData.depthAll]⟩
  | d :: r, h => by
    have h2 : (pl n d && pls n r) = true := h
    rw [Bool.and_eq_true] at h2
    obtain ⟨x, e1, e2, e3⟩ := pl_py n d h2.1
    obtain ⟨ys, f1, f2, f3⟩ := pls_py n r h2.2
    refine ⟨x :: ys, ?_, ?_, ?_⟩
    · show (match d.py, pyAll r with
        | some x, some xs => some (x :: xs)
        | _, _ => none) = _
      rw [e1, f1]
    · rw [PyData.canLayAll0, e2, f2]; rfl
    · rw [PyData.depthAll]; omega
theorem pyAll_len : ∀ {xs : List D} {ys : List PyData}, pyAll xs = some ys → ys.length = xs.length
  | [], ys, h => by cases (show some ([] : List PyData) = some ys from h); rfl
  | d :: r, ys, h => by
    have h' : (match d.py, pyAll r with
        | some x, some xs => some (x :: xs)
        | _, _ => none) = some ys := h
    cases e1 : d.py with
    | none => rw [e1] at h'; cases h'
    | some x => cases e2 : pyAll r with
      | none => rw [e1, e2] at h'; cases h'
      | some zs =>
        rw [e1, e2] at h'
        cases h'
        simp [pyAll_len e2]
theorem eqvAll_nil : ∀ ys : List PyData, PyData.eqvAll ys [] = ys.isEmpty
  | [] => by simp [PyData.eqvAll]
  | _ :: _ => by simp [PyData.eqvAll]
theorem sh_nilL : SeqAt.shaped (.list []) = true := by simp [SeqAt.shaped, PyData.canLay0, PyData.canLayAll0, PyData.depth, PyData.depthAll]
theorem sh_nilT : SeqAt.shaped (.tuple []) = true := by simp [SeqAt.shaped, PyData.canLay0, PyData.canLayAll0, PyData.depth, PyData.depthAll]
theorem cmp_nilL {n : Nat} {ds : List D} (hn : n ≤ 60) (h : pls n ds = true) (neg : Bool) : dEqv neg (.lst ds) (.lst []) = some (.bl (if neg then !ds.isEmpty else ds.isEmpty)) := by
  obtain ⟨ys, f1, f2, f3⟩ := pls_py n ds h
  have sh : SeqAt.shaped (.list ys) = true := by
    unfold SeqAt.shaped
    rw [PyData.canLay0, f2, Bool.true_and, PyData.depth]
    exact decide_eq_true (by omega)
  have e1 : D.py (.lst ds) = some (.list ys) := by
    show (pyAll ds).map PyData.list = _
    rw [f1]; rfl
  have e2 : D.py (.lst []) = some (.list []) := rfl
  unfold dEqv
  rw [e1, e2]
  show (if (SeqAt.shaped (.list ys) && SeqAt.shaped (.list [])) = true then _ else _) = _
  rw [sh, sh_nilL]
  have e3 : PyData.eqv (.list ys) (.list []) = ds.isEmpty := by
    rw [PyData.eqv, eqvAll_nil]
    have := pyAll_len f1
    cases ys <;> cases ds <;> simp_all
  simp only [Bool.and_self, if_true, e3]
theorem cmp_nilT {n : Nat} {ds : List D} (hn : n ≤ 60) (h : pls n ds = true) (neg : Bool) : dEqv neg (.tup ds) (.tup []) = some (.bl (if neg then !ds.isEmpty else ds.isEmpty)) := by
  obtain ⟨ys, f1, f2, f3⟩ := pls_py n ds h
  have sh : SeqAt.shaped (.tuple ys) = true := by
    unfold SeqAt.shaped
    rw [PyData.canLay0, f2, Bool.true_and, PyData.depth]
    exact decide_eq_true (by omega)
  have e1 : D.py (.tup ds) = some (.tuple ys) := by
    show (pyAll ds).map PyData.tuple = _
    rw [f1]; rfl
  have e2 : D.py (.tup []) = some (.tuple []) := rfl
  unfold dEqv
  rw [e1, e2]
  show (if (SeqAt.shaped (.tuple ys) && SeqAt.shaped (.tuple [])) = true then _ else _) = _
  rw [sh, sh_nilT]
  have e3 : PyData.eqv (.tuple ys) (.tuple []) = ds.isEmpty := by
    rw [PyData.eqv, eqvAll_nil]
    have := pyAll_len f1
    cases ys <;> cases ds <;> simp_all
  simp only [Bool.and_self, if_true, e3]
theorem pls_of {n : Nat} : ∀ {ds : List D}, (∀ d ∈ ds, pl n d = true) → pls n ds = true
  | [], _ => rfl
  | d :: r, h => by
    show (pl n d && pls n r) = true
    rw [h d List.mem_cons_self, pls_of fun x hx => h x (List.mem_cons_of_mem _ hx)]
    rfl
theorem pls_filter {n : Nat} {ds : List D} (h : pls n ds = true) (p : D → Bool) : pls n (ds.filter p) = true := pls_of fun d hd => pls_mem h d (List.mem_filter.mp hd).1
theorem pl_mono {m : Nat} : ∀ {n : Nat} {d : D}, pl n d = true → n ≤ m → pl m d = true := by
  intro n
  induction n generalizing m with
  | zero =>
    intro d h _
    cases d with
    | non => cases m <;> rfl
    | bl b => cases m <;> rfl
    | int i => cases m <;> rfl
    | str x => cases m <;> exact h
    | _ => cases h
  | succ n ih =>
    intro d h hm
    cases m with
    | zero => omega
    | succ m =>
      cases d with
      | non => rfl
      | bl b => rfl
      | int i => rfl
      | str x => exact h
      | tup xs =>
        have h' : (pls n xs && decide (xs.length ≤ 100000)) = true := h
        rw [Bool.and_eq_true] at h'
        show (pls m xs && decide (xs.length ≤ 100000)) = true
        rw [Bool.and_eq_true]
        exact ⟨pls_of fun d hd => ih (pls_mem h'.1 d hd) (by omega), h'.2⟩
      | _ => cases h
theorem pl_tup {n : Nat} {xs : List D} (h : pl (n + 1) (.tup xs) = true) : pls n xs = true ∧ xs.length ≤ 100000 := by
  have h' : (pls n xs && decide (xs.length ≤ 100000)) = true := h
  rw [Bool.and_eq_true, decide_eq_true_eq] at h'
  exact h'
theorem pl_mk {n : Nat} {xs : List D} (h : pls n xs = true) (h2 : xs.length ≤ 100000) : pl (n + 1) (.tup xs) = true := by
  show (pls n xs && decide (xs.length ≤ 100000)) = true
  rw [Bool.and_eq_true, decide_eq_true_eq]
  exact ⟨h, h2⟩
/-- numbers -/
def isNat : D → Bool
  | .int i => decide (0 ≤ i)
  | _ => false
def isInt : D → Bool
  | .int _ => true
  | _ => false
def isIdx (n : Nat) : D → Bool
  | .int i => decide (0 ≤ i) && decide (i < (n : Int))
  | _ => false
def natOf : D → Nat
  | .int i => i.toNat
  | _ => 0
def natsOf : D → List Nat
  | .tup xs => xs.map natOf
  | _ => []
def isNums (n : Nat) : D → Bool
  | .tup xs => decide (xs.length = n) && xs.all isNat
  | _ => false
theorem isNat_ex {d : D} (h : isNat d = true) : d = .int (natOf d : Int) := by
  cases d with
  | int i =>
    have h' : decide (0 ≤ i) = true := h
    rw [decide_eq_true_eq] at h'
    show D.int i = .int (i.toNat : Int)
    rw [Int.toNat_of_nonneg h']
  | _ => cases h
theorem isNums_ex {n : Nat} {d : D} (h : isNums n d = true) : d = natT (natsOf d) ∧ (natsOf d).length = n := by
  cases d with
  | tup xs =>
    have h' : (decide (xs.length = n) && xs.all isNat) = true := h
    rw [Bool.and_eq_true, decide_eq_true_eq] at h'
    refine ⟨?_, by show (xs.map natOf).length = n; rw [List.length_map]; exact h'.1⟩
    show D.tup xs = .tup ((xs.map natOf).map fun (n : Nat) => .int (n : Int))
    rw [List.map_map]
    congr 1
    have := h'.2
    rw [List.all_eq_true] at this
    clear h' h
    induction xs with
    | nil => rfl
    | cons x r ih =>
      rw [List.map_cons, ← ih fun y hy => this y (List.mem_cons_of_mem _ hy)]
      show x :: r = .int (natOf x : Int) :: r
      rw [← isNat_ex (this x List.mem_cons_self)]
  | _ => cases h
theorem isNums_nat (r : List Nat) : isNums r.length (natT r) = true := by
  show (decide ((r.map fun (n : Nat) => D.int (n : Int)).length = r.length) && (r.map fun (n : Nat) => D.int (n : Int)).all isNat) = true
  rw [List.length_map, decide_eq_true rfl, Bool.true_and, List.all_eq_true]
  intro x hx
  obtain ⟨n, _, rfl⟩ := List.mem_map.mp hx
  show decide (0 ≤ (n : Int)) = true
  simp
theorem natsOf_nat (r : List Nat) : natsOf (natT r) = r := by
  show (r.map fun (n : Nat) => D.int (n : Int)).map natOf = r
  rw [List.map_map]
  exact (List.map_congr_left fun n _ => by show ((n : Int)).toNat = n; simp).trans (List.map_id r)
theorem whole_pl {n : Nat} {d : D} (h : pl n d = true) (S : Sto) : m_is_whole [d] S = .ok (.bl (isInt d)) S := by
  unfold m_is_whole b_is_whole
  cases d with
  | non => simp -implicitDefEqProofs [-Int.natCast_add, isInt, isTyS]
  | bl b => simp -implicitDefEqProofs [-Int.natCast_add, isInt]
  | int i => simp -implicitDefEqProofs [-Int.natCast_add, isInt]
  | str x => simp -implicitDefEqProofs [-Int.natCast_add, isInt, isTyS]
  | tup xs => simp -implicitDefEqProofs [-Int.natCast_add, isInt, isTyS]
  | _ => cases n <;> cases h
theorem lwhole_pl {n : Nat} {d : D} (h : pl n d = true) (S : Sto) : m__law_whole [d] S = .ok (.bl (isInt d)) S := by
  unfold m__law_whole b__law_whole
  cases d with
  | non => simp -implicitDefEqProofs [-Int.natCast_add, isInt, isTyS]
  | bl b => simp -implicitDefEqProofs [-Int.natCast_add, isInt]
  | int i => simp -implicitDefEqProofs [-Int.natCast_add, isInt]
  | str x => simp -implicitDefEqProofs [-Int.natCast_add, isInt, isTyS]
  | tup xs => simp -implicitDefEqProofs [-Int.natCast_add, isInt, isTyS]
  | _ => cases n <;> cases h
theorem number_pl {n : Nat} {d : D} (h : pl n d = true) (S : Sto) : m_is_number [d] S = .ok (.bl (isNat d)) S := by
  unfold m_is_number b_is_number
  have := whole_pl h S
  cases d with
  | int i => simp -implicitDefEqProofs [-Int.natCast_add, isNat]
  | _ => simp -implicitDefEqProofs [-Int.natCast_add, this, isNat, isInt]
theorem index_pl {n : Nat} {d : D} (h : pl n d = true) (many : Nat) (S : Sto) : m_is_index [d, .int (many : Int)] S = .ok (.bl (isIdx many d)) S := by
  unfold m_is_index b_is_index
  have := whole_pl h S
  cases d with
  | int i =>
    by_cases q : 0 ≤ i
    · simp -implicitDefEqProofs [-Int.natCast_add, isIdx, q]
    · simp -implicitDefEqProofs [-Int.natCast_add, isIdx, q]
  | _ => simp -implicitDefEqProofs [-Int.natCast_add, this, isIdx, isInt]
theorem nums_pl {n : Nat} (s : ShopT) {d : D} (h : pl n d = true) (S : Sto) : m_is_numbers_row [s.o, d] S = .ok (.bl (isNums s.pieces.length d)) S := by
  unfold m_is_numbers_row b_is_numbers_row
  cases d with
  | tup xs =>
    cases n with
    | zero => cases h
    | succ n =>
      obtain ⟨h1, h2⟩ := pl_tup h
      have hz : xs.length ≤ sizeLine := by rw [szl]; omega
      by_cases q : xs.length = s.pieces.length
      · have q' : (xs.length : Int) = s.pieces.length := by omega
        simp -implicitDefEqProofs [-Int.natCast_add, ShopT.o, q']
        rw [show compL (cBody (gN 2) sYes (sCall m_is_number [(false, sVar 2)]) [some (shopD (D.tup (List.map stockD s.stocks)) (D.tup (List.map pieceD s.pieces)) (D.int ↑s.kerf)), some (D.tup xs), none]) xs S = .ok (xs.map fun x => .bl (isNat x)) S from by
          have := compL_map (S := S) (f := cBody (gN 2) sYes (sCall m_is_number [(false, sVar 2)]) [some (shopD (D.tup (List.map stockD s.stocks)) (D.tup (List.map pieceD s.pieces)) (D.int ↑s.kerf)), some (D.tup xs), none]) (enc := fun x : D => x) (g := fun x => .bl (isNat x)) xs (fun x hx => by
            simp -implicitDefEqProofs [-Int.natCast_add, number_pl (pls_mem h1 x hx)])
          simpa using this]
        have hz2 : s.pieces.length ≤ sizeLine := by omega
        simp -implicitDefEqProofs [-Int.natCast_add, hz2, all_map isNat, isNums, q]
      · have q' : ¬ (xs.length : Int) = s.pieces.length := by omega
        simp -implicitDefEqProofs [-Int.natCast_add, ShopT.o, q', isNums, q]
  | non => simp -implicitDefEqProofs [-Int.natCast_add, isNums, isTyS]
  | bl b => simp -implicitDefEqProofs [-Int.natCast_add, isNums, isTyS]
  | int i => simp -implicitDefEqProofs [-Int.natCast_add, isNums, isTyS]
  | str x => simp -implicitDefEqProofs [-Int.natCast_add, isNums, isTyS]
  | _ => cases n <;> cases h
theorem compL_self {f : D → M (Option D)} {g : D → D} {S : Sto} (xs : List D) (h : ∀ x ∈ xs, f x S = .ok (some (g x)) S) : compL f xs S = .ok (xs.map g) S := by
  have := compL_map (S := S) (f := f) (enc := fun x : D => x) (g := g) xs h
  simpa using this
theorem compL_selfF {f : D → M (Option D)} {g : D → D} {p : D → Bool} {S : Sto} (xs : List D) (h : ∀ x ∈ xs, f x S = .ok (if p x then some (g x) else none) S) : compL f xs S = .ok ((xs.filter p).map g) S := by
  have := compL_filter (S := S) (f := f) (enc := fun x : D => x) (g := g) (p := p) xs h
  simpa using this
theorem filter_emp {α : Type} (p : α → Bool) (xs : List α) : (xs.filter p).isEmpty = xs.all fun x => !p x := by
  induction xs with
  | nil => rfl
  | cons x r ih =>
    rw [List.filter_cons, List.all_cons]
    cases p x <;> simp [ih]
theorem lnums_pl {n : Nat} {d : D} (hn : n ≤ 60) (h : pl n d = true) (many : Nat) (S : Sto) : m__law_is_numbers [d, .int (many : Int)] S = .ok (.bl (isNums many d)) S := by
  unfold m__law_is_numbers b__law_is_numbers
  cases d with
  | tup xs =>
    cases n with
    | zero => cases h
    | succ n =>
      obtain ⟨h1, h2⟩ := pl_tup h
      have hz : (xs.filter fun x => !isNat x).length ≤ sizeLine := by
        have := List.length_filter_le (fun x => !isNat x) xs
        rw [szl]; omega
      by_cases q : xs.length = many
      · have q' : (xs.length : Int) = many := by omega
        simp -implicitDefEqProofs [-Int.natCast_add, q']
        rw [compL_selfF (g := fun x => x) (p := fun x => !isNat x) xs (fun x hx => by
          have hp := pls_mem h1 x hx
          have hw := lwhole_pl hp S
          cases x with
          | int i =>
            by_cases z : 0 ≤ i
            · have z' : ¬ i < 0 := by omega
              simp -implicitDefEqProofs [-Int.natCast_add, hw, isInt, isNat, z, z']
            · have z' : i < 0 := by omega
              simp -implicitDefEqProofs [-Int.natCast_add, hw, isInt, isNat, z, z']
          | _ => simp -implicitDefEqProofs [-Int.natCast_add, hw, isInt, isNat])]
        have hc := cmp_nilL (n := n) (ds := xs.filter fun x => !isNat x) (by omega) (pls_filter h1 _) false
        rw [filter_emp] at hc
        simp -implicitDefEqProofs [-Int.natCast_add, hz, hc, isNums, q]
      · have q' : ¬ (xs.length : Int) = many := by omega
        simp -implicitDefEqProofs [-Int.natCast_add, q', isNums, q]
  | non => simp -implicitDefEqProofs [-Int.natCast_add, isNums, isTyS]
  | bl b => simp -implicitDefEqProofs [-Int.natCast_add, isNums, isTyS]
  | int i => simp -implicitDefEqProofs [-Int.natCast_add, isNums, isTyS]
  | str x => simp -implicitDefEqProofs [-Int.natCast_add, isNums, isTyS]
  | _ => cases n <;> cases h

/-! ### gives -/
def sto (s : ShopT) (t : Nat) : Str × Nat × Option Nat × Nat := s.stocks.getD t ("", 0, none, 0)
theorem sto_at {s : ShopT} {t : Nat} (h : t < s.stocks.length) : s.stocks[t]? = some (sto s t) := by
  unfold sto
  rw [List.getD_eq_getElem?_getD, List.getElem?_eq_getElem h]
  rfl
/-- what all shops here have -/
structure Sh (s : ShopT) : Prop where
  st : StocksOk s.stocks
  pc : PiecesOk s.pieces
  p3 : s.pieces.length ≤ 3
  kf : s.kerf ≤ 2
  sl : ∀ x ∈ s.stocks, x.2.1 ≤ 15
  pl : ∀ x ∈ s.pieces, x.2.1 ≤ 8
theorem Sh.pos {s : ShopT} (h : Sh s) : ∀ w ∈ s.ws, 0 < w := ws_pos h.pc
theorem Sh.w6 {s : ShopT} (h : Sh s) : ∀ w ∈ s.ws, w ≤ 1000000 := fun w hw => by
  obtain ⟨p, hp, rfl⟩ := List.mem_map.mp hw
  have := h.pl p hp
  have := h.kf
  omega
theorem Rw3a : Rw (List.replicate 3 1) 17 ≤ 3000 := by
  rw [← Rf_eq 30 _ _ (by decide)]
  decide +kernel
theorem Sh.rw {s : ShopT} (h : Sh s) {t : Nat} (ht : t ≤ 17) : Rw s.ws t ≤ 3000 :=
  Nat.le_trans (Rw_narrow (v := 1) (by decide) s.ws 3 t 17 (fun w hw => h.pos w hw) (by rw [ws_len]; exact h.p3) ht) Rw3a
theorem Sh.rm {s : ShopT} (h : Sh s) {t : Nat} (ht : t < s.stocks.length) : (sto s t).2.1 + s.kerf ≤ 17 := by
  have := h.sl _ (List.mem_of_getElem? (sto_at ht))
  have := h.kf
  omega
abbrev Gv := Nat × List Nat
abbrev giveD (g : Gv) : D := .tup [.int (g.1 : Int), natT g.2]
abbrev giveP (g : Gv) : PyData := .tuple [.int (g.1 : Int), natP g.2]
structure GvOk (s : ShopT) (g : Gv) : Prop where
  st : g.1 < s.stocks.length
  ln : g.2.length = s.pieces.length
  nz : g.2.any (· != 0) = true
  fit : sizeW s.ws g.2 ≤ (sto s g.1).2.1 + s.kerf
def isGive (s : ShopT) : D → Bool
  | .tup [a, b] => isIdx s.stocks.length a && (isNums s.pieces.length b && ((natsOf b).any (· != 0) && decide (sizeW s.ws (natsOf b) ≤ (sto s (natOf a)).2.1 + s.kerf)))
  | _ => false
theorem isIdx_ex {n : Nat} {d : D} (h : isIdx n d = true) : d = .int (natOf d : Int) ∧ natOf d < n := by
  cases d with
  | int i =>
    have h' : (decide (0 ≤ i) && decide (i < (n : Int))) = true := h
    rw [Bool.and_eq_true, decide_eq_true_eq, decide_eq_true_eq] at h'
    refine ⟨?_, ?_⟩
    · show D.int i = .int (i.toNat : Int)
      rw [Int.toNat_of_nonneg h'.1]
    · show i.toNat < n
      omega
  | _ => cases h
theorem isGive_ex {s : ShopT} {d : D} (h : isGive s d = true) : ∃ g : Gv, d = giveD g ∧ GvOk s g := by
  unfold isGive at h
  split at h
  · rename_i a b
    rw [Bool.and_eq_true, Bool.and_eq_true, Bool.and_eq_true, decide_eq_true_eq] at h
    obtain ⟨e1, h1⟩ := isIdx_ex h.1
    obtain ⟨e2, h2⟩ := isNums_ex h.2.1
    refine ⟨(natOf a, natsOf b), ?_, h1, h2, h.2.2.1, h.2.2.2⟩
    rw [e1, e2]
    show _ = D.tup [.int ((natOf (.int (natOf a : Int)) : Nat) : Int), natT (natsOf (natT (natsOf b)))]
    rw [natsOf_nat]
    rfl
  · cases h
theorem isGive_of {s : ShopT} {g : Gv} (h : GvOk s g) : isGive s (giveD g) = true := by
  show (isIdx s.stocks.length (.int (g.1 : Int)) && (isNums s.pieces.length (natT g.2) && ((natsOf (natT g.2)).any (· != 0) && decide (sizeW s.ws (natsOf (natT g.2)) ≤ (sto s g.1).2.1 + s.kerf)))) = true
  rw [natsOf_nat, ← h.ln, isNums_nat, h.nz, decide_eq_true h.fit]
  show (decide (0 ≤ (g.1 : Int)) && decide ((g.1 : Int) < (s.stocks.length : Int)) && true) = true
  rw [decide_eq_true (by omega), decide_eq_true (by have := h.st; omega)]
  rfl
theorem anyA_nat (r : List Nat) : dAnyA [natT r] = some (.bl (r.any (· != 0))) := by
  show (intsD (r.map fun (n : Nat) => D.int (n : Int))).map (fun ns => D.bl (ns.any (· != 0))) = _
  rw [intsD_nat]
  show some (D.bl _) = _
  rw [List.any_map, show ((fun x : Int => x != 0) ∘ fun (n : Nat) => (n : Int)) = fun n => n != 0 from funext fun n => by
    by_cases h : n = 0
    · simp [h]
    · have : (n : Int) ≠ 0 := by omega
      exact (bne_iff_ne.mpr this).trans (bne_iff_ne.mpr h).symm]
theorem sum_natT (r : List Nat) : dSumA [natT r] = some (.int (r.sum : Int)) := by
  show (intsD (r.map fun (n : Nat) => D.int (n : Int))).map (fun ns => D.int ns.sum) = _
  rw [intsD_nat]
  show some (D.int _) = _
  rw [sum_nat]
theorem any_sum (r : List Nat) : r.any (· != 0) = decide (0 < r.sum) := by
  induction r with
  | nil => rfl
  | cons a r ih =>
    rw [List.any_cons, ih, List.sum_cons, Bool.eq_iff_iff, Bool.or_eq_true, decide_eq_true_eq, decide_eq_true_eq, bne_iff_ne]
    omega
theorem zip_nat {α : Type} (e : α → D) (r : List Nat) (xs : List α) : zipD (r.map fun (n : Nat) => D.int (n : Int)) (xs.map e) = (r.zip xs).map fun q => .tup [.int (q.1 : Int), e q.2] := by
  unfold zipD
  rw [List.zip_map, List.map_map]
  rfl
theorem sizeW_zip (s : ShopT) : ∀ (r : List Nat), ((r.zip s.pieces).map fun q => q.1 * (q.2.2.1 + s.kerf)).sum = sizeW s.ws r := by
  unfold ShopT.ws
  generalize s.pieces = ps
  induction ps with
  | nil => intro r; cases r <;> rfl
  | cons p ps ih =>
    intro r
    cases r with
    | nil => rfl
    | cons k r =>
      show k * (p.2.1 + s.kerf) + ((r.zip ps).map fun q => q.1 * (q.2.2.1 + s.kerf)).sum = k * (p.2.1 + s.kerf) + sizeW _ r
      rw [ih r]
theorem lsize_ok {s : ShopT} (hs : Sh s) (r : List Nat) (S : Sto) : m__law_size [s.t, natT r] S = .ok (.int (sizeW s.ws r : Int)) S := by
  have hp3 := hs.p3
  unfold m__law_size b__law_size
  have ht1 : dIx s.t (.int 1) = some (.tup (s.pieces.map pieceD)) := d_ix1 _ _ _
  have ht2 : dIx s.t (.int 2) = some (.int (s.kerf : Int)) := d_ix2 _ _ _ _
  simp -implicitDefEqProofs [-Int.natCast_add, ht1]
  rw [zip_nat, compL_map (g := fun q => D.int ((q.1 * (q.2.2.1 + s.kerf) : Nat) : Int)) _ (fun q hq => by
    have hm := (List.of_mem_zip hq).2
    have := hs.pl _ hm
    have hk := hs.kf
    have e1 : (q.2.2.1 : Int) + (s.kerf : Int) = ((q.2.2.1 + s.kerf : Nat) : Int) := by omega
    have e2 : dMulA (.int (q.1 : Int)) (.int ((q.2.2.1 + s.kerf : Nat) : Int)) = some (.int ((q.1 * (q.2.2.1 + s.kerf) : Nat) : Int)) := by
      rw [mul_nat (by omega), Int.natCast_mul]
    simp -implicitDefEqProofs [-Int.natCast_add, ht2, pieceD, e1, e2])]
  have hz : (r.zip s.pieces).length ≤ sizeLine := szk (by rw [List.length_zip]; omega)
  have e : ((r.zip s.pieces).map fun q => D.int ((q.1 * (q.2.2.1 + s.kerf) : Nat) : Int)) = ((r.zip s.pieces).map fun q => q.1 * (q.2.2.1 + s.kerf)).map fun (n : Nat) => .int (n : Int) := by simp
  have e3 := sum_natT ((r.zip s.pieces).map fun q => q.1 * (q.2.2.1 + s.kerf))
  rw [d_sumA_tup, ← e, sizeW_zip] at e3
  simp only [Res.then_ok, List.length_map, hz, if_true, d_sumA_lst, e3, optR_some, outE_rt]
theorem size_zero {s : ShopT} {r : List Nat} (h : r.sum = 0) : sizeW s.ws r = 0 := by
  have : r = List.replicate r.length 0 := by
    refine row_zero fun i k hk => ?_
    have hm := List.mem_of_getElem? hk
    clear hk
    induction r with
    | nil => cases hm
    | cons a r ih =>
      rw [List.sum_cons] at h
      rcases List.mem_cons.mp hm with e | hm
      · omega
      · exact ih (by omega) hm
  rw [this, sizeW_zero]
theorem lgives_ok {s : ShopT} (hs : Sh s) (len : Nat) (r : List Nat) (S : Sto) : m__law_gives [s.t, .int (len : Int), natT r] S = .ok (.bl (decide (sizeW s.ws r ≤ len + s.kerf))) S := by
  unfold m__law_gives b__law_gives
  have ht2 : dIx s.t (.int 2) = some (.int (s.kerf : Int)) := d_ix2 _ _ _ _
  have e1 := sum_natT r
  rw [d_sumA_tup] at e1
  have e2 : (len : Int) + (s.kerf : Int) = ((len + s.kerf : Nat) : Int) := by omega
  by_cases q : r.sum = 0
  · have hz := size_zero (s := s) q
    have : sizeW s.ws r ≤ len + s.kerf := by omega
    simp -implicitDefEqProofs [-Int.natCast_add, e1, q, this]
  · have q' : ¬ ((r.sum : Nat) : Int) = 0 := by omega
    simp -implicitDefEqProofs [-Int.natCast_add, e1, q', q, ht2, lsize_ok hs, e2]
/-! ### what beats what -/
def geAll (a b : List Nat) : Bool := (a.zip b).all fun q => decide (q.2 ≤ q.1)
def mayUse (s : ShopT) (a b : Nat) : Bool := (decide (a = b) || (sto s a).2.2.1.isNone) && decide ((sto s a).2.2.2 ≤ (sto s b).2.2.2)
def Bt (s : ShopT) (a b : Gv) : Bool := mayUse s a.1 b.1 && (geAll a.2 b.2 && (decide (a.2 ≠ b.2) || (decide ((sto s a.1).2.2.2 < (sto s b.1).2.2.2) || decide (a.1 < b.1))))
theorem optD_non (o : Option Nat) : dIsN true (optD o) .non = some (.bl (!o.isNone)) := by cases o <;> rfl
/-! ### faults -/
theorem drop_at {α : Type} {xs : List α} {i : Nat} {x : α} (h : xs[i]? = some x) : xs.drop i = x :: xs.drop (i + 1) := by
  obtain ⟨h1, h2⟩ := List.getElem?_eq_some_iff.mp h
  rw [List.drop_eq_getElem_cons h1, h2]
abbrev Fl := Nat × Nat
abbrev faultD (p : Fl) : D := .tup [.int (p.1 : Int), .int (p.2 : Int)]
structure FlOk (len : Nat) (L : List Fl) : Prop where
  pw : L.Pairwise fun p q => p.2 < q.1
  bd : ∀ p ∈ L, p.1 ≤ p.2 ∧ p.2 ≤ len ∧ p.2 ≤ p.1 + 2
  n3 : L.length ≤ 3
theorem FlOk.tail {len : Nat} {L : List Fl} (h : FlOk len L) : FlOk len L.tail where
  pw := h.pw.sublist (List.tail_sublist L)
  bd := fun p hp => h.bd p ((List.tail_sublist L).subset hp)
  n3 := by rw [List.length_tail]; have := h.n3; omega
theorem FlOk.nil (len : Nat) : FlOk len [] := ⟨.nil, fun p hp => (nomatch hp), by simp⟩
/-- so far, all below a -/
def FlUp (len j a : Nat) (L : List Fl) : Prop := FlOk len L ∧ L.length ≤ j ∧ ∀ p ∈ L, p.2 < a
theorem FlUp.app {len j a k b : Nat} {L : List Fl} (h : FlUp len j a L) (hj : j < 3) (q : a + k ≤ len) (hk : k ≤ 2) : FlUp len (j + 1) (a + k + 1 + b) (L ++ [(a, a + k)]) := by
  obtain ⟨ok, hl, hb⟩ := h
  refine ⟨⟨?_, ?_, ?_⟩, ?_, ?_⟩
  · rw [List.pairwise_append]
    refine ⟨ok.pw, by simp, fun p hp q hq => ?_⟩
    rw [List.mem_singleton] at hq
    subst hq
    exact hb p hp
  · intro p hp
    rcases List.mem_append.mp hp with hp | hp
    · exact ok.bd p hp
    · rw [List.mem_singleton] at hp
      subst hp
      exact ⟨by show a ≤ a + k; omega, q, by show a + k ≤ a + 2; omega⟩
  · rw [List.length_append, List.length_singleton]; omega
  · rw [List.length_append, List.length_singleton]; omega
  · intro p hp
    rcases List.mem_append.mp hp with hp | hp
    · have := hb p hp; omega
    · rw [List.mem_singleton] at hp
      subst hp
      show a + k < _
      omega
theorem FlUp.more {len j a : Nat} {L : List Fl} (h : FlUp len j a L) : FlUp len (j + 1) a L := ⟨h.1, by have := h.2.1; omega, h.2.2⟩
theorem drawn_faults {R S : Sto} (h : PenS R S) {len : Nat} : (m__law_drawn_faults [.mref 0, .int (len : Int)] S).post fun d S' => (∃ L : List Fl, d = .tup (L.map faultD) ∧ FlOk len L) ∧ PenS R S' := by
  unfold m__law_drawn_faults b__law_drawn_faults
  simp -implicitDefEqProofs [-Int.natCast_add]
  refine then_post (draw_post h (by omega) (by omega)) fun d S1 ⟨⟨a, e, ha⟩, h⟩ => ?_
  subst e
  refine then_post (draw_post h (by omega) (by omega)) fun d S1 ⟨⟨m, e, hm⟩, h⟩ => ?_
  subst e
  rw [rg1 (by omega)]
  simp -implicitDefEqProofs [-Int.natCast_add]
  refine then_post (P := fun x S' => PenS R S' ∧ ∃ ρ' L, x = .nx ρ' ∧ FlOk len L ∧ St [none, none, some (.lst (L.map faultD)), none, none, none] ρ') (forL_range (fun j ρ S' => PenS R S' ∧ ∃ (L : List Fl) (a : Nat), FlUp len j a L ∧ St [some (.mref 0), some (.int (len : Int)), some (.lst (L.map faultD)), some (.int (a : Int)), none, none] ρ) m ⟨h, [], a, ⟨FlOk.nil len, by simp, fun p hp => (nomatch hp)⟩, by simp⟩ (fun j hj ρ S' ⟨h, L, a, up, hst⟩ => ?_) fun ρ S' ⟨h, L, a, up, hst⟩ => ⟨h, ρ, L, rfl, up.1, ?_⟩) fun o S2 ⟨h, ρ, L, e, ok, hst⟩ => ?_
  · repeat (first | (replace hst := St.some hst; obtain ⟨_, rfl, hst⟩ := hst) | (replace hst := St.none hst; obtain ⟨_, _, rfl, hst⟩ := hst))
    cases St.nil hst
    simp -implicitDefEqProofs [-Int.natCast_add]
    refine then_post (pick_lst h (by simp) (by decide)) fun d S1 ⟨hd, h⟩ => ?_
    obtain ⟨k, rfl, hk2⟩ : ∃ k : Nat, d = .int (k : Int) ∧ k ≤ 2 := by
      simp at hd
      rcases hd with rfl | rfl | rfl
      · exact ⟨0, rfl, by omega⟩
      · exact ⟨1, rfl, by omega⟩
      · exact ⟨2, rfl, by omega⟩
    clear hd
    by_cases q : a + k ≤ len
    · have q' : (a : Int) + (k : Int) ≤ (len : Int) := by omega
      have hap : mAppend (L.map faultD) [.tup [.int (a : Int), .int ((a : Int) + (k : Int))]] = some ((L ++ [(a, a + k)]).map faultD, .non) := by
        show (if _ then _ else _) = _
        rw [if_pos (by have := up.2.1; rw [List.length_map, szl]; omega), List.map_append]
        rfl
      simp -implicitDefEqProofs [-Int.natCast_add, q', hap]
      refine then_post (draw_post h (by omega) (by omega)) fun d S1 ⟨⟨b, e, hb2⟩, h⟩ => ?_
      subst e
      simp -implicitDefEqProofs [-Int.natCast_add, stepP]
      refine ⟨h, L ++ [(a, a + k)], a + k + 1 + b, up.app (by omega) q hk2, ?_⟩
      simp
    · have q' : ¬ (a : Int) + (k : Int) ≤ (len : Int) := by omega
      simp -implicitDefEqProofs [-Int.natCast_add, q', stepP]
      exact ⟨h, L, a, up.more, by simp⟩
  · repeat (first | (replace hst := St.some hst; obtain ⟨_, rfl, hst⟩ := hst) | (replace hst := St.none hst; obtain ⟨_, _, rfl, hst⟩ := hst))
    cases St.nil hst
    simp
  · subst e
    repeat (first | (replace hst := St.some hst; obtain ⟨_, rfl, hst⟩ := hst) | (replace hst := St.none hst; obtain ⟨_, _, rfl, hst⟩ := hst))
    cases St.nil hst
    have hz : L.length ≤ sizeLine := by rw [szl]; have := ok.n3; omega
    simp -implicitDefEqProofs [-Int.natCast_add, hz]
    exact ⟨⟨L, rfl, ok⟩, h⟩
def Above (v : Int) (L : List Fl) : Prop := ∀ p ∈ L, v < (p.1 : Int)
theorem are_faults_ok {len : Nat} {L : List Fl} (ok : FlOk len L) (S : Sto) : m_are_faults [.int (len : Int), .tup (L.map faultD)] S = .ok (.bl true) S := by
  unfold m_are_faults b_are_faults
  refine post_ok ?_
  have h6 : ¬ (L.length : Int) > 6 := by have := ok.n3; omega
  simp -implicitDefEqProofs [-Int.natCast_add, h6]
  refine then_post (P := fun x S' => S' = S ∧ ∃ ρ', x = .nx ρ') (forL_map (enc := faultD) (P := fun j ρ S' => S' = S ∧ ∃ v : Int, Above v (L.drop j) ∧ St [some (.int (len : Int)), some (.tup (L.map faultD)), some (.int v), none, none] ρ) L ⟨rfl, -1, fun p hp => by omega, by simp⟩ (fun j p hp ρ S' ⟨e1, v, hv, hst⟩ => ?_) fun ρ S' ⟨e1, v, hv, hst⟩ => ⟨e1, ρ, rfl⟩) fun o S2 ⟨e1, ρ, e⟩ => ?_
  · repeat (first | (replace hst := St.some hst; obtain ⟨_, rfl, hst⟩ := hst) | (replace hst := St.none hst; obtain ⟨_, _, rfl, hst⟩ := hst))
    cases St.nil hst
    subst e1
    have hd := drop_at hp
    have c1 := hv p (by rw [hd]; exact List.mem_cons_self)
    obtain ⟨c2, c3, _⟩ := ok.bd p (List.mem_of_getElem? hp)
    have c2' : (p.1 : Int) ≤ (p.2 : Int) := by omega
    have c3' : (p.2 : Int) ≤ (len : Int) := by omega
    have a1 : dAll [.lst [.bl true, .bl true]] = some (.bl true) := rfl
    have nxt : Above (p.2 : Int) (L.drop (j + 1)) := by
      have hpw : (L.drop j).Pairwise fun p q => p.2 < q.1 := ok.pw.sublist (List.drop_sublist j L)
      rw [hd] at hpw
      intro q hq
      have := (List.pairwise_cons.mp hpw).1 q hq
      omega
    simp -implicitDefEqProofs [-Int.natCast_add]
    rw [compL_self (g := fun _ => .bl true) [.int (p.1 : Int), .int (p.2 : Int)] (fun x hx => by
      simp only [List.mem_cons, List.not_mem_nil, or_false] at hx
      rcases hx with rfl | rfl
      · simp -implicitDefEqProofs [-Int.natCast_add]
      · simp -implicitDefEqProofs [-Int.natCast_add])]
    simp -implicitDefEqProofs [-Int.natCast_add, a1, c1, c2', c3', stepP]
    exact nxt
  · subst e1 e
    simp -implicitDefEqProofs [-Int.natCast_add]

/-! ### free lengths -/
def gapsI (st : Int) (len : Nat) : List Fl → List Int
  | [] => [(len : Int) - st]
  | p :: fs => ((p.1 : Int) - st) :: gapsI (p.2 : Int) len fs
def freeI (len : Nat) (L : List Fl) : List Int := (gapsI 0 len L).filter fun i => decide (0 < i)
def freeL (len : Nat) (L : List Fl) : List Nat := (freeI len L).map Int.toNat
theorem freeI_nat (len : Nat) (L : List Fl) : (freeI len L).map D.int = (freeL len L).map fun (n : Nat) => D.int (n : Int) := by
  unfold freeL
  rw [List.map_map]
  refine List.map_congr_left fun i hi => ?_
  have := (List.mem_filter.mp hi).2
  rw [decide_eq_true_eq] at this
  show D.int i = .int ((i.toNat : Nat) : Int)
  rw [Int.toNat_of_nonneg (by omega)]
theorem gapsI_len (st : Int) (len : Nat) : ∀ L : List Fl, (gapsI st len L).length = L.length + 1
  | [] => rfl
  | p :: fs => by
    show (gapsI (p.2 : Int) len fs).length + 1 = _
    rw [gapsI_len _ len fs]
    rfl
theorem gapsI_snoc (st : Int) (len : Nat) : ∀ (L : List Fl), ∃ v : Int, gapsI st len L = (gapsI st len L).take L.length ++ [(len : Int) - v]
  | [] => ⟨st, rfl⟩
  | p :: fs => by
    obtain ⟨v, e⟩ := gapsI_snoc (p.2 : Int) len fs
    exact ⟨v, by show _ :: gapsI _ len fs = _ :: ((gapsI _ len fs).take fs.length ++ _); rw [← e]⟩
/-- the running start -/
def endAt (L : List Fl) : Nat → Int
  | 0 => 0
  | j + 1 => ((L.getD j (0, 0)).2 : Int)
theorem gapsI_at (len : Nat) : ∀ (L : List Fl) (st : Int) (j : Nat) (p : Fl), L[j]? = some p → (gapsI st len L)[j]? = some ((p.1 : Int) - (if j = 0 then st else endAt L j))
  | q :: fs, st, 0, p, h => by
    have e : q = p := by simpa using h
    subst e
    rfl
  | q :: fs, st, j + 1, p, h => by
    have h' : fs[j]? = some p := by simpa using h
    have := gapsI_at len fs (q.2 : Int) j p h'
    show (gapsI (q.2 : Int) len fs)[j]? = _
    rw [this]
    cases j with
    | zero => rfl
    | succ j => rfl
theorem gapsI_end (len : Nat) : ∀ (L : List Fl) (st : Int), (gapsI st len L)[L.length]? = some ((len : Int) - (if L.length = 0 then st else endAt L L.length))
  | [], st => rfl
  | q :: fs, st => by
    have := gapsI_end len fs (q.2 : Int)
    show (gapsI (q.2 : Int) len fs)[fs.length]? = _
    rw [this]
    cases h : fs.length with
    | zero =>
      have : fs = [] := List.length_eq_zero_iff.mp h
      subst this
      rfl
    | succ j =>
      have e : (q :: fs).length = j + 2 := by rw [List.length_cons, h]
      rw [e]
      rfl
theorem endAt0 (L : List Fl) (j : Nat) : (if j = 0 then (0 : Int) else endAt L j) = endAt L j := by
  cases j <;> rfl
theorem free_by_ok {s : ShopT} {x : Str × Nat × Option Nat × Nat} (hx : s.stocks = [x]) {L : List Fl} (h3 : L.length ≤ 3) (S : Sto) : m_free_by [s.o, .int 0, .tup (L.map faultD)] S = .ok (natT (freeL x.2.1 L)) S := by
  unfold m_free_by b_free_by
  refine post_ok ?_
  have hs : dIx (.tup (s.stocks.map stockD)) (.int 0) = some (stockD x) := by rw [hx]; exact d_ix0 _ _
  rw [ShopT.o]
  simp -implicitDefEqProofs [-Int.natCast_add]
  refine then_post (P := fun o S' => S' = S ∧ ∃ ρ', o = .nx ρ' ∧ St [some (s.o), some (.int 0), none, some (.lst (((gapsI 0 x.2.1 L).take L.length).map D.int)), some (.int (endAt L L.length)), none, none, none] ρ') (forL_map (enc := faultD) (P := fun j ρ S' => S' = S ∧ St [some (s.o), some (.int 0), none, some (.lst (((gapsI 0 x.2.1 L).take j).map D.int)), some (.int (endAt L j)), none, none, none] ρ) L ⟨rfl, by simp [ShopT.o, endAt]⟩ (fun j p hp ρ S' ⟨e1, hst⟩ => ?_) fun ρ S' ⟨e1, hst⟩ => ⟨e1, ρ, rfl, hst⟩) fun o S2 ⟨e1, ρ, e, hst⟩ => ?_
  · repeat (first | (replace hst := St.some hst; obtain ⟨_, rfl, hst⟩ := hst) | (replace hst := St.none hst; obtain ⟨_, _, rfl, hst⟩ := hst))
    cases St.nil hst
    subst e1
    have hg := gapsI_at x.2.1 L 0 j p hp
    rw [endAt0] at hg
    have hjl := (List.getElem?_eq_some_iff.mp hp).1
    have hap : mAppend (((gapsI 0 x.2.1 L).take j).map D.int) [.int ((p.1 : Int) - endAt L j)] = some (((gapsI 0 x.2.1 L).take (j + 1)).map D.int, .non) := by
      show (if _ then _ else _) = _
      rw [if_pos (by rw [List.length_map, List.length_take, szl]; omega), take_next hg, List.map_append]
      rfl
    have he : endAt L (j + 1) = (p.2 : Int) := by
      show ((L.getD j (0, 0)).2 : Int) = _
      rw [List.getD_eq_getElem?_getD, hp]
      rfl
    generalize endAt L j = v at *
    generalize endAt L (j + 1) = v2 at *
    generalize ((gapsI 0 x.2.1 L).take j).map D.int = A at *
    generalize ((gapsI 0 x.2.1 L).take (j + 1)).map D.int = A2 at *
    simp -implicitDefEqProofs [-Int.natCast_add, hap, he, stepP]
  · subst e1 e
    repeat (first | (replace hst := St.some hst; obtain ⟨_, rfl, hst⟩ := hst) | (replace hst := St.none hst; obtain ⟨_, _, rfl, hst⟩ := hst))
    cases St.nil hst
    have hg := gapsI_end x.2.1 L 0
    rw [endAt0] at hg
    have hgl := gapsI_len 0 x.2.1 L
    have hap : mAppend (((gapsI 0 x.2.1 L).take L.length).map D.int) [.int ((x.2.1 : Int) - endAt L L.length)] = some ((gapsI 0 x.2.1 L).map D.int, .non) := by
      show (if _ then _ else _) = _
      rw [if_pos (by rw [List.length_map, List.length_take, szl]; omega)]
      have : (gapsI 0 x.2.1 L).take (L.length + 1) = (gapsI 0 x.2.1 L).take L.length ++ [(x.2.1 : Int) - endAt L L.length] := take_next hg
      rw [List.take_of_length_le (by omega)] at this
      have e2 : (gapsI 0 x.2.1 L).map D.int = ((gapsI 0 x.2.1 L).take L.length).map D.int ++ [D.int ((x.2.1 : Int) - endAt L L.length)] := (congrArg (List.map D.int) this).trans (by rw [List.map_append]; rfl)
      rw [e2]
    have hx1 : dIx (stockD x) (.int 1) = some (.int (x.2.1 : Int)) := d_ix1 _ _ _
    generalize endAt L L.length = v at *
    generalize ((gapsI 0 x.2.1 L).take L.length).map D.int = A at *
    rw [ShopT.o] at *
    simp -implicitDefEqProofs [-Int.natCast_add, hs, hx1, hap]
    rw [compL_filter (enc := D.int) (g := D.int) (p := fun i => decide (0 < i)) (gapsI 0 x.2.1 L) (fun i hi => by
      by_cases q : 0 < i
      · simp -implicitDefEqProofs [-Int.natCast_add, q]
      · simp -implicitDefEqProofs [-Int.natCast_add, q])]
    rw [show ((gapsI 0 x.2.1 L).filter fun i => decide (0 < i)).map D.int = (freeL x.2.1 L).map fun (n : Nat) => D.int (n : Int) from freeI_nat _ _]
    have hz : (freeL x.2.1 L).length ≤ sizeLine := by
      have h1 := List.length_filter_le (fun i => decide (0 < i)) (gapsI 0 x.2.1 L)
      have h2 : (freeL x.2.1 L).length = ((gapsI 0 x.2.1 L).filter fun i => decide (0 < i)).length := List.length_map ..
      rw [szl]; omega
    simp -implicitDefEqProofs [-Int.natCast_add, hz]

/-! ### the law's free lengths -/
def endsE (st : Int) (len : Nat) : List Fl → List Int
  | [] => [st, (len : Int)]
  | p :: fs => st :: (p.1 : Int) :: endsE (p.2 : Int) len fs
theorem endsE_at (len : Nat) : ∀ (L : List Fl) (st : Int) (k : Nat), k ≤ L.length → ∃ a b : Int, (endsE st len L)[2 * k]? = some a ∧ (endsE st len L)[2 * k + 1]? = some b ∧ (gapsI st len L)[k]? = some (b - a)
  | [], st, k, h => by
    have : k = 0 := by simpa using h
    subst this
    exact ⟨st, len, rfl, rfl, rfl⟩
  | p :: fs, st, 0, h => ⟨st, p.1, rfl, rfl, rfl⟩
  | p :: fs, st, k + 1, h => by
    obtain ⟨a, b, h1, h2, h3⟩ := endsE_at len fs (p.2 : Int) k (by simpa using h)
    refine ⟨a, b, ?_, ?_, h3⟩
    · show (st :: (p.1 : Int) :: endsE (p.2 : Int) len fs)[2 * k + 2]? = _
      simpa using h1
    · show (st :: (p.1 : Int) :: endsE (p.2 : Int) len fs)[2 * k + 1 + 2]? = _
      simpa using h2
theorem endsE_len (len : Nat) : ∀ (L : List Fl) (st : Int), (endsE st len L).length = 2 * (L.length + 1)
  | [], st => rfl
  | p :: fs, st => by
    show (endsE (p.2 : Int) len fs).length + 1 + 1 = _
    rw [endsE_len len fs, List.length_cons]
    omega
/-- the ends so far -/
def endsUp (L : List Fl) : List Int := 0 :: L.flatMap fun p => [(p.1 : Int), (p.2 : Int)]
theorem endsUp_all (len : Nat) (L : List Fl) : endsUp L ++ [(len : Int)] = endsE 0 len L := by
  have go : ∀ (L : List Fl) (st : Int), (st :: L.flatMap fun p => [(p.1 : Int), (p.2 : Int)]) ++ [(len : Int)] = endsE st len L := fun L => by
    induction L with
    | nil => exact fun st => rfl
    | cons p fs ih =>
      intro st
      show st :: (p.1 : Int) :: (((p.2 : Int) :: fs.flatMap fun p => [(p.1 : Int), (p.2 : Int)]) ++ [(len : Int)]) = _
      rw [ih]
      rfl
  exact go L 0
theorem endsUp_next {L : List Fl} {j : Nat} {p : Fl} (h : L[j]? = some p) : endsUp (L.take (j + 1)) = endsUp (L.take j) ++ [(p.1 : Int), (p.2 : Int)] := by
  unfold endsUp
  rw [take_next h, List.flatMap_append]
  simp
theorem endsUp_len (L : List Fl) : (endsUp L).length = 1 + 2 * L.length := by
  unfold endsUp
  rw [List.length_cons]
  induction L with
  | nil => rfl
  | cons p fs ih =>
    simp only [List.flatMap_cons, List.length_append, List.length_cons, List.length_nil] at *
    omega
theorem small02 {m : Nat} (h : m ≤ 4) : Builtin.Range.small 0 ((2 * m : Nat) : Int) 2 = true := by
  have c : m = 0 ∨ m = 1 ∨ m = 2 ∨ m = 3 ∨ m = 4 := by omega
  rcases c with rfl | rfl | rfl | rfl | rfl <;> decide +kernel
theorem rgCut {i j c : Int} (h1 : c ≠ 0) (h2 : c.natAbs < 1000000) (h3 : Builtin.Range.small i j c = true) (h4 : 0 ≤ Builtin.Range.rangeSize i j c) : dRangeC [.int i, .int j, .int c] = some (rangeC i c (Builtin.Range.rangeSize i j c).toNat) := by
  unfold dRangeC
  simp only [h1, h2, h3, h4, ne_eq, not_false_eq_true, decide_true, Bool.and_self, if_true]
theorem rg02 {m : Nat} (h : m ≤ 4) : dRangeC [.int 0, .int ((2 * m : Nat) : Int), .int 2] = some ((List.range m).map fun (k : Nat) => .int (2 * (k : Int))) := by
  have e : Builtin.Range.rangeSize 0 ((2 * m : Nat) : Int) 2 = (m : Int) := by
    unfold Builtin.Range.rangeSize
    rw [if_pos (by omega)]
    split
    · omega
    · omega
  rw [rgCut (by omega) (by decide) (small02 h) (by rw [e]; omega), e, Int.toNat_natCast]
  unfold rangeC
  congr 1
  refine List.map_congr_left fun k _ => ?_
  congr 1
  omega
theorem range_getD {α : Type} (d : α) (L : List α) : (List.range L.length).map (fun k => L.getD k d) = L := by
  apply List.ext_getElem?
  intro i
  rw [List.getElem?_map]
  by_cases h : i < L.length
  · rw [List.getElem?_eq_getElem (by simpa using h), List.getElem_range, List.getElem?_eq_getElem h]
    show some (L.getD i d) = _
    rw [List.getD_eq_getElem?_getD, List.getElem?_eq_getElem h]
    rfl
  · rw [List.getElem?_eq_none (by simpa using h), List.getElem?_eq_none (by omega)]
    rfl
theorem law_free_ok {len : Nat} {L : List Fl} (h3 : L.length ≤ 3) (S : Sto) : m__law_free [.int (len : Int), .tup (L.map faultD)] S = .ok (natT (freeL len L)) S := by
  unfold m__law_free b__law_free
  refine post_ok ?_
  simp -implicitDefEqProofs [-Int.natCast_add]
  refine then_post (P := fun o S' => S' = S ∧ ∃ ρ', o = .nx ρ' ∧ St [some (.int (len : Int)), none, some (.lst ((endsUp L).map D.int)), none, none, none] ρ') (forL_map (enc := faultD) (P := fun j ρ S' => S' = S ∧ St [some (.int (len : Int)), none, some (.lst ((endsUp (L.take j)).map D.int)), none, none, none] ρ) L ⟨rfl, by simp [endsUp]⟩ (fun j p hp ρ S' ⟨e1, hst⟩ => ?_) fun ρ S' ⟨e1, hst⟩ => ⟨e1, ρ, rfl, by rw [List.take_length] at hst; exact hst⟩) fun o S2 ⟨e1, ρ, e, hst⟩ => ?_
  · repeat (first | (replace hst := St.some hst; obtain ⟨_, rfl, hst⟩ := hst) | (replace hst := St.none hst; obtain ⟨_, _, rfl, hst⟩ := hst))
    cases St.nil hst
    subst e1
    have hjl := (List.getElem?_eq_some_iff.mp hp).1
    have hn := endsUp_next hp
    have hl : (endsUp (L.take j)).length ≤ 100 := by
      rw [endsUp_len, List.length_take]
      omega
    have hcat : dCatF (.lst ((endsUp (L.take j)).map D.int)) (.lst [.int (p.1 : Int), .int (p.2 : Int)]) = some (.lst ((endsUp (L.take (j + 1))).map D.int)) := by
      show (if _ then some (D.lst (_ ++ _)) else none) = _
      rw [if_pos (by rw [List.length_map, szl]; simp; omega), hn, List.map_append]
      rfl
    generalize (endsUp (L.take j)).map D.int = A at *
    generalize (endsUp (L.take (j + 1))).map D.int = A2 at *
    simp -implicitDefEqProofs [-Int.natCast_add, hcat, stepP]
  · subst e1 e
    repeat (first | (replace hst := St.some hst; obtain ⟨_, rfl, hst⟩ := hst) | (replace hst := St.none hst; obtain ⟨_, _, rfl, hst⟩ := hst))
    cases St.nil hst
    have hE := endsUp_all len L
    have hEl := endsE_len len L 0
    have hap : mAppend ((endsUp L).map D.int) [.int (len : Int)] = some ((endsE 0 len L).map D.int, .non) := by
      show (if _ then _ else _) = _
      have : (endsUp L).length + 1 = (endsE 0 len L).length := by rw [← hE, List.length_append]; rfl
      rw [if_pos (by rw [List.length_map, szl]; omega), ← hE, List.map_append]
      rfl
    have hrg := rg02 (m := L.length + 1) (by omega)
    rw [← hEl] at hrg
    generalize (endsUp L).map D.int = A at *
    have hat : ∀ k, k < L.length + 1 → ∃ a b : Int, dIx (.lst ((endsE 0 len L).map D.int)) (.int (2 * (k : Int))) = some (.int a) ∧ dIx (.lst ((endsE 0 len L).map D.int)) (.int (2 * (k : Int) + 1)) = some (.int b) ∧ (gapsI 0 len L).getD k 0 = b - a := fun k hk => by
      obtain ⟨a, b, h1, h2, h3⟩ := endsE_at len L 0 k (by omega)
      refine ⟨a, b, ?_, ?_, by rw [List.getD_eq_getElem?_getD, h3]; rfl⟩
      · rw [show (2 * (k : Int)) = ((2 * k : Nat) : Int) by omega]
        exact d_ixl (by rw [List.getElem?_map, h1]; rfl)
      rw [show (2 * (k : Int) + 1) = ((2 * k + 1 : Nat) : Int) by omega]
      exact d_ixl (by rw [List.getElem?_map, h2]; rfl)
    have hEm : ((endsE 0 len L).map D.int).length = (endsE 0 len L).length := List.length_map ..
    generalize (endsE 0 len L).map D.int = E at *
    simp -implicitDefEqProofs [-Int.natCast_add, hap]
    rw [hEm, hrg]
    simp -implicitDefEqProofs [-Int.natCast_add]
    rw [compL_filter (enc := fun (k : Nat) => D.int (2 * (k : Int))) (g := fun k => .int ((gapsI 0 len L).getD k 0)) (p := fun k => decide (0 < (gapsI 0 len L).getD k 0)) (List.range (L.length + 1)) (fun k hk => by
      obtain ⟨a, b, h1, h2, h3⟩ := hat k (List.mem_range.mp hk)
      rw [h3]
      clear h3
      by_cases q : a < b
      · have q' : 0 < b - a := by omega
        simp -implicitDefEqProofs [-Int.natCast_add, h1, h2, q, q']
      · have q' : ¬ 0 < b - a := by omega
        simp -implicitDefEqProofs [-Int.natCast_add, h1, h2, q, q'])]
    have fin : ((List.range (L.length + 1)).filter fun k => decide (0 < (gapsI 0 len L).getD k 0)).map (fun k => D.int ((gapsI 0 len L).getD k 0)) = (freeL len L).map fun (n : Nat) => D.int (n : Int) := by
      rw [← freeI_nat]
      unfold freeI
      have := range_getD (0 : Int) (gapsI 0 len L)
      rw [gapsI_len] at this
      rw [show (gapsI 0 len L).filter (fun i => decide (0 < i)) = ((List.range (L.length + 1)).map fun k => (gapsI 0 len L).getD k 0).filter (fun i => decide (0 < i)) by rw [this], List.filter_map, List.map_map]
      rfl
    rw [fin]
    have hz : (freeL len L).length ≤ sizeLine := by
      have h1 := List.length_filter_le (fun i => decide (0 < i)) (gapsI 0 len L)
      have h2 : (freeL len L).length = ((gapsI 0 len L).filter fun i => decide (0 < i)).length := List.length_map ..
      have h3 := gapsI_len 0 len L
      rw [szl]; omega
    simp -implicitDefEqProofs [-Int.natCast_add, hz]

/-! ### sums of rows -/
def addV (a b : List Nat) : List Nat := (a.zip b).map fun q => q.1 + q.2
theorem addV_len {a b : List Nat} (h : a.length = b.length) : (addV a b).length = a.length := by
  unfold addV
  rw [List.length_map, List.length_zip]
  omega
theorem summed_ok {a b : List Nat} (h : a.length ≤ 1000) (S : Sto) : m_summed [natT a, natT b] S = .ok (natT (addV a b)) S := by
  unfold m_summed b_summed
  simp -implicitDefEqProofs [-Int.natCast_add]
  rw [zip_nat (fun (n : Nat) => D.int (n : Int)), compL_map (g := fun q => D.int ((q.1 + q.2 : Nat) : Int)) _ (fun q hq => by
    simp -implicitDefEqProofs [-Int.natCast_add]
    omega)]
  have hz : (a.zip b).length ≤ sizeLine := by rw [List.length_zip, szl]; omega
  have e : ((a.zip b).map fun q => D.int ((q.1 + q.2 : Nat) : Int)) = (addV a b).map fun (n : Nat) => D.int (n : Int) := by
    unfold addV
    rw [List.map_map]
    rfl
  rw [e]
  have hz2 : (addV a b).length ≤ sizeLine := by unfold addV; rw [List.length_map]; exact hz
  simp -implicitDefEqProofs [-Int.natCast_add, hz2]
/-- column by column -/
def colSum (m : Nat) (L : List (List Nat)) : List Nat := (List.range m).map fun k => (L.map fun r => r.getD k 0).sum
theorem colSum_nil (m : Nat) : colSum m [] = List.replicate m 0 := by
  unfold colSum
  apply List.ext_getElem?
  intro i
  rw [List.getElem?_map, List.getElem?_replicate]
  by_cases h : i < m
  · rw [List.getElem?_eq_getElem (by simpa using h), if_pos h]
    rfl
  · rw [List.getElem?_eq_none (by simpa using h), if_neg h]
    rfl
theorem colSum_snoc {m : Nat} (L : List (List Nat)) {r : List Nat} (h : r.length = m) : colSum m (L ++ [r]) = addV (colSum m L) r := by
  unfold colSum addV
  apply List.ext_getElem?
  intro i
  rw [List.getElem?_map, List.getElem?_map]
  by_cases hi : i < m
  · rw [List.getElem?_eq_getElem (by simpa using hi), List.getElem_range]
    have hz : ((List.range m).map fun k => (L.map fun r => r.getD k 0).sum).zip r = ((List.range m).map fun k => (L.map fun r => r.getD k 0).sum).zip r := rfl
    have h1 : (((List.range m).map fun k => (L.map fun r => r.getD k 0).sum).zip r)[i]? = some ((L.map fun r => r.getD i 0).sum, r.getD i 0) := by
      rw [List.getElem?_zip_eq_some]
      refine ⟨?_, ?_⟩
      · rw [List.getElem?_map, List.getElem?_eq_getElem (by simpa using hi), List.getElem_range]
        rfl
      · rw [List.getD_eq_getElem?_getD, List.getElem?_eq_getElem (by omega)]
        rfl
    rw [h1]
    simp
  · rw [List.getElem?_eq_none (by simpa using hi), List.getElem?_eq_none (by rw [List.length_zip, List.length_map, List.length_range]; omega)]
    rfl
theorem colSum_len (m : Nat) (L : List (List Nat)) : (colSum m L).length = m := by
  unfold colSum
  rw [List.length_map, List.length_range]
theorem added_list {m : Nat} {L : List (List Nat)} (hL : L.length ≤ 100000) (hr : ∀ r ∈ L, r.length = m) (hm : m ≤ 1000) (S : Sto) : m__law_added [.lst (L.map natT), .int (m : Int)] S = .ok (natT (colSum m L)) S := by
  unfold m__law_added b__law_added
  simp -implicitDefEqProofs [-Int.natCast_add]
  rw [rg1 (by omega)]
  simp -implicitDefEqProofs [-Int.natCast_add]
  have hz : L.length ≤ sizeLine := by rw [szl]; omega
  rw [compL_range (g := fun k => .int (((L.map fun r => r.getD k 0).sum : Nat) : Int)) m (fun k hk => by
    have hs := sum_natT (L.map fun r => r.getD k 0)
    rw [d_sumA_tup, List.map_map] at hs
    have hs' : dSum [.lst (L.map fun r => D.int ((r.getD k 0 : Nat) : Int))] = some (.int (((L.map fun r => r.getD k 0).sum : Nat) : Int)) := hs
    clear hs
    generalize (L.map fun r => r.getD k 0).sum = sm at *
    simp -implicitDefEqProofs [-Int.natCast_add]
    rw [compL_map (enc := natT) (g := fun r => .int ((r.getD k 0 : Nat) : Int)) L (fun r hr' => by
      have hl := hr r hr'
      have hx : dIx (natT r) (.int (k : Int)) = some (.int ((r.getD k 0 : Nat) : Int)) := d_ixt (by rw [List.getElem?_map, List.getD_eq_getElem?_getD, List.getElem?_eq_getElem (by omega)]; rfl)
      simp -implicitDefEqProofs [-Int.natCast_add, hx])]
    have hz' : (L.map fun r => D.int ((r.getD k 0 : Nat) : Int)).length ≤ sizeLine := by rw [List.length_map]; exact hz
    generalize (L.map fun r => D.int ((r.getD k 0 : Nat) : Int)) = Q at *
    simp -implicitDefEqProofs [-Int.natCast_add, hz', hs'])]
  have hzm : m ≤ sizeLine := by rw [szl]; omega
  have e : ((List.range m).map fun k => D.int (((L.map fun r => r.getD k 0).sum : Nat) : Int)) = (colSum m L).map fun (n : Nat) => D.int (n : Int) := by
    unfold colSum
    rw [List.map_map]
    rfl
  rw [e]
  have hcl : (colSum m L).length ≤ sizeLine := by rw [colSum_len]; exact hzm
  simp -implicitDefEqProofs [-Int.natCast_add, hcl]
theorem added_tup {m : Nat} {L : List (List Nat)} (hL : L.length ≤ 100000) (hr : ∀ r ∈ L, r.length = m) (hm : m ≤ 1000) (S : Sto) : m__law_added [.tup (L.map natT), .int (m : Int)] S = .ok (natT (colSum m L)) S := by
  unfold m__law_added b__law_added
  simp -implicitDefEqProofs [-Int.natCast_add]
  rw [rg1 (by omega)]
  simp -implicitDefEqProofs [-Int.natCast_add]
  have hz : L.length ≤ sizeLine := by rw [szl]; omega
  rw [compL_range (g := fun k => .int (((L.map fun r => r.getD k 0).sum : Nat) : Int)) m (fun k hk => by
    have hs := sum_natT (L.map fun r => r.getD k 0)
    rw [d_sumA_tup, List.map_map] at hs
    have hs' : dSum [.lst (L.map fun r => D.int ((r.getD k 0 : Nat) : Int))] = some (.int (((L.map fun r => r.getD k 0).sum : Nat) : Int)) := hs
    clear hs
    generalize (L.map fun r => r.getD k 0).sum = sm at *
    simp -implicitDefEqProofs [-Int.natCast_add]
    rw [compL_map (enc := natT) (g := fun r => .int ((r.getD k 0 : Nat) : Int)) L (fun r hr' => by
      have hl := hr r hr'
      have hx : dIx (natT r) (.int (k : Int)) = some (.int ((r.getD k 0 : Nat) : Int)) := d_ixt (by rw [List.getElem?_map, List.getD_eq_getElem?_getD, List.getElem?_eq_getElem (by omega)]; rfl)
      simp -implicitDefEqProofs [-Int.natCast_add, hx])]
    have hz' : (L.map fun r => D.int ((r.getD k 0 : Nat) : Int)).length ≤ sizeLine := by rw [List.length_map]; exact hz
    generalize (L.map fun r => D.int ((r.getD k 0 : Nat) : Int)) = Q at *
    simp -implicitDefEqProofs [-Int.natCast_add, hz', hs'])]
  have hzm : m ≤ sizeLine := by rw [szl]; omega
  have e : ((List.range m).map fun k => D.int (((L.map fun r => r.getD k 0).sum : Nat) : Int)) = (colSum m L).map fun (n : Nat) => D.int (n : Int) := by
    unfold colSum
    rw [List.map_map]
    rfl
  rw [e]
  have hcl : (colSum m L).length ≤ sizeLine := by rw [colSum_len]; exact hzm
  simp -implicitDefEqProofs [-Int.natCast_add, hcl]

/-! ### the judges of a Split -/
def splD (a : D) : D := .obj "Split" [("patterns", a)]
def stpD (a : D) : D := .obj "Stopped" [("layers", a)]
section
variable (a : D) (S : Sto)
theorem sp_pat : attrD at_patterns "patterns" (splD a) S = .ok a S := by
  unfold attrD splD
  simp only
  rw [if_pos (by decide +kernel)]
  rfl
theorem st_lay : attrD at_layers "layers" (stpD a) S = .ok a S := by
  unfold attrD stpD
  simp only
  rw [if_pos (by decide +kernel)]
  rfl
theorem sp_is : isOwn OWN "Split" (splD a) = some true := by
  unfold isOwn splD
  simp only
  rw [if_pos (by decide +kernel)]
  decide +kernel
theorem st_is : isOwn OWN "Stopped" (stpD a) = some true := by
  unfold isOwn stpD
  simp only
  rw [if_pos (by decide +kernel)]
  decide +kernel
theorem sp_isnt : isOwn OWN "Stopped" (splD a) = some false := by
  unfold isOwn splD
  simp only
  rw [if_pos (by decide +kernel)]
  decide +kernel
theorem st_isnt : isOwn OWN "Split" (stpD a) = some false := by
  unfold isOwn stpD
  simp only
  rw [if_pos (by decide +kernel)]
  decide +kernel
end
/-- where the walk stands: a shop of one bar, its faults -/
structure At (s : ShopT) (x : Str × Nat × Option Nat × Nat) (L : List Fl) : Prop where
  hs : Sh s
  hx : s.stocks = [x]
  ok : FlOk x.2.1 L
theorem need_faults_ok {s : ShopT} {x : Str × Nat × Option Nat × Nat} {L : List Fl} (A : At s x L) (S : Sto) : m_need_faults [s.o, .int 0, .tup (L.map faultD)] S = .ok (.tup (L.map faultD)) S := by
  have hf := are_faults_ok A.ok S
  have hsl : (s.stocks.map stockD).length = 1 := by rw [A.hx]; rfl
  have hs0 : dIx (.tup (s.stocks.map stockD)) (.int 0) = some (stockD x) := by rw [A.hx]; exact d_ix0 _ _
  have hx1 : dIx (stockD x) (.int 1) = some (.int (x.2.1 : Int)) := d_ix1 _ _ _
  have hi : m_is_index [.int 0, .int 1] S = .ok (.bl true) S := by
    have := index_pl (n := 0) (d := .int 0) rfl 1 S
    exact this
  have hn : m_need_stock [s.o, .int 0] S = .ok .non S := by
    unfold m_need_stock b_need_stock
    rw [ShopT.o]
    have hsl2 : s.stocks.length = 1 := by rw [A.hx]; rfl
    simp -implicitDefEqProofs [-Int.natCast_add, hsl2, hi]
  unfold m_need_faults b_need_faults
  generalize hfd : L.map faultD = fd at *
  rw [ShopT.o] at *
  simp -implicitDefEqProofs [-Int.natCast_add, hn, hs0, hx1, hf]
theorem free_of {s : ShopT} {x : Str × Nat × Option Nat × Nat} {L : List Fl} (A : At s x L) (S : Sto) : m_free_by [s.o, .int 0, .tup (L.map faultD)] S = .ok (natT (freeL x.2.1 L)) S := free_by_ok A.hx A.ok.n3 S
theorem npat_ok {s : ShopT} {r : List Nat} (hl : r.length = s.pieces.length) (h3 : r.length ≤ 1000) (S : Sto) : m_need_pattern [s.o, natT r] S = .ok (natT r) S := by
  have h := nums_pl (n := 1) s (d := natT r) (pl_nats 0 r (by omega)) S
  rw [show isNums s.pieces.length (natT r) = true by rw [← hl]; exact isNums_nat r] at h
  unfold m_need_pattern b_need_pattern
  simp -implicitDefEqProofs [-Int.natCast_add, h, isTyS]
def rowOk (s : ShopT) (len : Nat) (d : D) : Bool := isNums s.pieces.length d && decide (sizeW s.ws (natsOf d) ≤ len + s.kerf)
def totS (s : ShopT) (rs : List D) (j : Nat) : List Nat := colSum s.pieces.length ((rs.take j).map natsOf)
def okS (s : ShopT) (lens : List Nat) (rs : List D) : Bool := (lens.zip rs).all (fun q => rowOk s q.1 q.2)
def okJ (s : ShopT) (lens : List Nat) (rs : List D) (j : Nat) : Bool := ((lens.zip rs).take j).all (fun q => rowOk s q.1 q.2)
theorem totS_len (s : ShopT) (rs : List D) (j : Nat) : (totS s rs j).length = s.pieces.length := colSum_len _ _
theorem totS_0 (s : ShopT) (rs : List D) : totS s rs 0 = List.replicate s.pieces.length 0 := colSum_nil _
theorem totS_all (s : ShopT) (rs : List D) {j : Nat} (h : rs.length ≤ j) : totS s rs j = colSum s.pieces.length (rs.map natsOf) := by
  unfold totS
  rw [List.take_of_length_le h]
theorem totS_next {s : ShopT} {rs : List D} {j : Nat} {d : D} (h : rs[j]? = some d) (hl : (natsOf d).length = s.pieces.length) : totS s rs (j + 1) = addV (totS s rs j) (natsOf d) := by
  unfold totS
  rw [take_next h, List.map_append]
  exact colSum_snoc _ hl
theorem okJ_next {s : ShopT} {lens : List Nat} {rs : List D} {j : Nat} {q : Nat × D} (h : (lens.zip rs)[j]? = some q) (h1 : okJ s lens rs j = true) (h2 : rowOk s q.1 q.2 = true) : okJ s lens rs (j + 1) = true := by
  unfold okJ at *
  rw [take_next h, List.all_append, h1]
  simpa using h2
theorem okS_stop {s : ShopT} {lens : List Nat} {rs : List D} {j : Nat} {q : Nat × D} (h : (lens.zip rs)[j]? = some q) (h2 : rowOk s q.1 q.2 = false) : okS s lens rs = false := by
  cases h3 : okS s lens rs with
  | false => rfl
  | true => rw [List.all_eq_true.mp h3 q (List.mem_of_getElem? h)] at h2; cases h2
theorem okJ_all {s : ShopT} {lens : List Nat} {rs : List D} (h : okJ s lens rs (lens.zip rs).length = true) : okS s lens rs = true := by
  unfold okJ at h
  rw [List.take_length] at h
  exact h
def RightS (s : ShopT) (lens tg : List Nat) : D → Bool
  | .tup rs => decide (rs.length = lens.length) && (okS s lens rs && decide (totS s rs rs.length = tg))
  | _ => false
theorem freeL_len {len : Nat} {L : List Fl} (h : L.length ≤ 3) : (freeL len L).length ≤ 4 := by
  have h1 := List.length_filter_le (fun i => decide (0 < i)) (gapsI 0 len L)
  have h2 : (freeL len L).length = ((gapsI 0 len L).filter fun i => decide (0 < i)).length := List.length_map ..
  have h3 := gapsI_len 0 len L
  omega
theorem split_pl {n : Nat} (hn : n ≤ 50) {s : ShopT} {x : Str × Nat × Option Nat × Nat} {L : List Fl} (A : At s x L) {tg : List Nat} (ht : tg.length = s.pieces.length) {a : D} (ha : pl n a = true) (S : Sto) :
    m_split_holds [s.o, .int 0, .tup (L.map faultD), natT tg, splD a] S = .ok (.bl (RightS s (freeL x.2.1 L) tg a)) S := by
  have hs := A.hs
  have hp3 := hs.p3
  have hm1 := hs.pc.len.1
  have hf := need_faults_ok A S
  have hfree := free_of A S
  have hpat := npat_ok ht (by omega) S
  have h1 : attrD at_patterns "patterns" (splD a) S = .ok a S := sp_pat a S
  have h3 : isOwn OWN "Split" (splD a) = some true := sp_is a
  have hll := freeL_len (len := x.2.1) A.ok.n3
  generalize freeL x.2.1 L = lens at *
  generalize splD a = v at *
  unfold m_split_holds b_split_holds
  refine post_ok ?_
  generalize L.map faultD = fd at *
  cases a with
  | tup rs =>
    cases n with
    | zero => cases ha
    | succ n =>
    obtain ⟨pr, lr⟩ := pl_tup ha
    by_cases q1 : rs.length = lens.length
    · have q1' : (rs.length : Int) = (lens.length : Int) := by omega
      have hz := zero_row (n := s.pieces.length) hm1 (by omega)
      rw [← ht] at hz
      have hkf : attrD at_kerf "kerf" s.o S = .ok (.int (s.kerf : Int)) S := sh_kerf _ _ _ S
      have hzip := zip_nat (fun d : D => d) lens rs
      rw [List.map_id'] at hzip
      simp -implicitDefEqProofs [-Int.natCast_add, hf, hfree, hpat, h1, h3, q1', hz]
      rw [hzip]
      refine then_post (P := fun o S' => S' = S ∧ ((okS s lens rs = false ∧ o = .rt (.bl false)) ∨ (okS s lens rs = true ∧ ∃ ρ', o = .nx ρ' ∧ St [none, none, none, none, none, none, some (natT tg), some (natT (totS s rs rs.length)), none, none] ρ'))) (forL_map (enc := fun q : Nat × D => D.tup [.int (q.1 : Int), q.2]) (P := fun j ρ S' => S' = S ∧ okJ s lens rs j = true ∧ St [some (s.o), none, none, none, some (v), none, some (natT tg), some (natT (totS s rs j)), none, none] ρ) (lens.zip rs) ⟨rfl, rfl, by rw [totS_0, ← ht]; simp⟩ (fun j q hq ρ S' ⟨e1, e2, h⟩ => ?_) fun ρ S' ⟨e1, e2, h⟩ => ⟨e1, .inr ⟨okJ_all e2, ρ, rfl, ?_⟩⟩) fun o S' ⟨e1, ho⟩ => ?_
      · repeat (first | (replace h := St.some h; obtain ⟨_, rfl, h⟩ := h) | (replace h := St.none h; obtain ⟨_, _, rfl, h⟩ := h))
        cases St.nil h
        subst e1
        obtain ⟨hql, hqr⟩ := List.getElem?_zip_eq_some.mp hq
        have px := pls_mem pr _ (List.mem_of_getElem? hqr)
        have hnum := nums_pl s px S'
        have hnext := okJ_next hq e2
        have hstop := okS_stop (s := s) hq
        obtain ⟨len, d⟩ := q
        by_cases n1 : isNums s.pieces.length d = true
        · rw [n1] at hnum
          obtain ⟨ed, hrl⟩ := isNums_ex n1
          have hsum := totS_next hqr hrl
          generalize natsOf d = r at *
          subst ed
          have hany := anyA_nat r
          have hsz := size_ok s hs.w6 hrl (by omega) S'
          have hkf : attrD at_kerf "kerf" s.o S' = .ok (.int (s.kerf : Int)) S' := sh_kerf _ _ _ S'
          have hlk : (len : Int) + (s.kerf : Int) = ((len + s.kerf : Nat) : Int) := by omega
          have hro : rowOk s len (natT r) = decide (sizeW s.ws r ≤ len + s.kerf) := by
            unfold rowOk
            rw [n1, natsOf_nat]
            rfl
          have hnext := fun h => hnext (hro.trans h)
          have hstop := fun h => hstop (hro.trans h)
          have hcl := totS_len s rs j
          have hsm := summed_ok (a := totS s rs j) (b := r) (by omega) S'
          rw [← hsum] at hsm
          by_cases q2 : sizeW s.ws r ≤ len + s.kerf
          · have q2' : ¬ ((sizeW s.ws r : Nat) : Int) > ((len + s.kerf : Nat) : Int) := by omega
            rw [decide_eq_true q2] at hnext
            have hn' := hnext rfl
            cases q3 : r.any (· != 0) with
            | true => rw [q3] at hany; simp -implicitDefEqProofs [-Int.natCast_add, hnum, hany, hsz, hkf, hlk, q2', hsm, stepP, hn']
            | false => rw [q3] at hany; simp -implicitDefEqProofs [-Int.natCast_add, hnum, hany, hsm, stepP, hn']
          · have q2' : ((sizeW s.ws r : Nat) : Int) > ((len + s.kerf : Nat) : Int) := by omega
            rw [decide_eq_false q2] at hstop
            have hs' := hstop rfl
            have q3 : r.any (· != 0) = true := by
              rw [any_sum, decide_eq_true_eq]
              refine Nat.pos_of_ne_zero fun z => ?_
              have := size_zero (s := s) z
              omega
            rw [q3] at hany
            simp -implicitDefEqProofs [-Int.natCast_add, hnum, hany, hsz, hkf, hlk, q2', stepP, hs']
        · have n1' : isNums s.pieces.length d = false := by simpa using n1
          rw [n1'] at hnum
          have hro : rowOk s len d = false := by
            unfold rowOk
            rw [n1']
            rfl
          simp -implicitDefEqProofs [-Int.natCast_add, hnum, stepP, hstop hro]
      · have hzl : (lens.zip rs).length = rs.length := by rw [List.length_zip]; omega
        rw [hzl] at h
        repeat (first | (replace h := St.some h; obtain ⟨_, rfl, h⟩ := h) | (replace h := St.none h; obtain ⟨_, _, rfl, h⟩ := h))
        cases St.nil h
        simp
      · subst e1
        rcases ho with ⟨q5, rfl⟩ | ⟨q5, ρ', rfl, h⟩
        · have : RightS s lens tg (.tup rs) = false := by
            show (decide (rs.length = lens.length) && (okS s lens rs && _)) = false
            rw [q5, Bool.false_and, Bool.and_false]
          rw [this]
          simp -implicitDefEqProofs [-Int.natCast_add]
        · have : RightS s lens tg (.tup rs) = decide (totS s rs rs.length = tg) := by
            show (decide (rs.length = lens.length) && (okS s lens rs && _)) = _
            rw [q5, decide_eq_true q1]
            rfl
          rw [this]
          repeat (first | (replace h := St.some h; obtain ⟨_, rfl, h⟩ := h) | (replace h := St.none h; obtain ⟨_, _, rfl, h⟩ := h))
          cases St.nil h
          have heq := encRow.eq (a := totS s rs rs.length) (b := tg) trivial trivial false
          rw [if_neg (by decide)] at heq
          generalize totS s rs rs.length = T at *
          have heq' : dEqv false (natT T) (natT tg) = some (.bl (decide (T = tg))) := heq
          simp -implicitDefEqProofs [-Int.natCast_add, heq']
    · have q1' : ¬ (rs.length : Int) = (lens.length : Int) := by omega
      have : RightS s lens tg (.tup rs) = false := by
        show (decide (rs.length = lens.length) && _) = false
        rw [decide_eq_false q1]
        rfl
      rw [this]
      simp -implicitDefEqProofs [-Int.natCast_add, hf, hfree, hpat, h1, h3, q1']
  | non => simp -implicitDefEqProofs [-Int.natCast_add, hf, hfree, hpat, h1, h3, isTyS, RightS]
  | bl b => simp -implicitDefEqProofs [-Int.natCast_add, hf, hfree, hpat, h1, h3, isTyS, RightS]
  | int i => simp -implicitDefEqProofs [-Int.natCast_add, hf, hfree, hpat, h1, h3, isTyS, RightS]
  | str z => simp -implicitDefEqProofs [-Int.natCast_add, hf, hfree, hpat, h1, h3, isTyS, RightS]
  | _ => cases n <;> cases ha
theorem all_nums {m : Nat} : ∀ {rs : List D}, rs.all (isNums m) = true → rs = (rs.map natsOf).map natT ∧ ∀ r ∈ rs.map natsOf, r.length = m
  | [], _ => ⟨rfl, fun r hr => (nomatch hr)⟩
  | d :: rs, h => by
    rw [List.all_cons, Bool.and_eq_true] at h
    obtain ⟨e, hl⟩ := isNums_ex h.1
    obtain ⟨e2, h2⟩ := all_nums h.2
    refine ⟨by rw [List.map_cons, List.map_cons, ← e2, ← e], fun r hr => ?_⟩
    rw [List.map_cons] at hr
    rcases List.mem_cons.mp hr with rfl | hr
    · exact hl
    · exact h2 r hr
def fitK (s : ShopT) (lens : List Nat) (R : List (List Nat)) (k : Nat) : Bool := decide (sizeW s.ws (R.getD k []) ≤ lens.getD k 0 + s.kerf)
theorem okS_nums {s : ShopT} {lens : List Nat} {R : List (List Nat)} (hl : R.length = lens.length) (hR : ∀ r ∈ R, r.length = s.pieces.length) : okS s lens (R.map natT) = (List.range lens.length).all (fitK s lens R) := by
  unfold okS
  rw [Bool.eq_iff_iff, List.all_eq_true, List.all_eq_true]
  have key : ∀ k, (hk : k < lens.length) → ∃ r, R[k]? = some r ∧ R.getD k [] = r ∧ lens.getD k 0 = lens[k] ∧ (lens.zip (R.map natT))[k]? = some (lens[k], natT r) ∧ rowOk s lens[k] (natT r) = decide (sizeW s.ws r ≤ lens[k] + s.kerf) := fun k hk => by
    have hr : R[k]? = some (R[k]'(by omega)) := List.getElem?_eq_getElem (by omega)
    refine ⟨R[k]'(by omega), hr, by rw [List.getD_eq_getElem?_getD, hr]; rfl, by rw [List.getD_eq_getElem?_getD, List.getElem?_eq_getElem hk]; rfl, ?_, ?_⟩
    · exact List.getElem?_zip_eq_some.mpr ⟨List.getElem?_eq_getElem hk, by rw [List.getElem?_map, hr]; rfl⟩
    · unfold rowOk
      have hn := isNums_nat (R[k]'(by omega))
      rw [hR _ (List.getElem_mem _)] at hn
      rw [hn, natsOf_nat]
      rfl
  constructor
  · intro h k hk
    have hk' := List.mem_range.mp hk
    obtain ⟨r, _, h2, h3, h4, h5⟩ := key k hk'
    have := h _ (List.mem_of_getElem? h4)
    rw [h5] at this
    unfold fitK
    rw [h2, h3]
    exact this
  · intro h q hq
    obtain ⟨k, hk⟩ := List.getElem?_of_mem hq
    have hkl := (List.getElem?_eq_some_iff.mp hk).1
    rw [List.length_zip, List.length_map] at hkl
    obtain ⟨r, _, h2, h3, h4, h5⟩ := key k (by omega)
    rw [hk] at h4
    cases h4
    rw [h5]
    have := h k (List.mem_range.mpr (by omega))
    unfold fitK at this
    rw [h2, h3] at this
    exact this
theorem lsplit_pl {n : Nat} (hn : n ≤ 50) {s : ShopT} (hs : Sh s) {lens : List Nat} (hll : lens.length ≤ 4) {tg : List Nat} (ht : tg.length = s.pieces.length) {a : D} (ha : pl n a = true) (S : Sto) :
    m__law_split_right [s.t, natT lens, natT tg, splD a] S = .ok (.bl (RightS s lens tg a)) S := by
  have hp3 := hs.p3
  have hm1 := hs.pc.len.1
  have h1 : attrD at_patterns "patterns" (splD a) S = .ok a S := sp_pat a S
  have h3 : isOwn OWN "Split" (splD a) = some true := sp_is a
  generalize splD a = v at *
  unfold m__law_split_right b__law_split_right
  have ht1 : dIx s.t (.int 1) = some (.tup (s.pieces.map pieceD)) := d_ix1 _ _ _
  cases a with
  | tup rs =>
    cases n with
    | zero => cases ha
    | succ n =>
    obtain ⟨pr, lr⟩ := pl_tup ha
    by_cases q1 : rs.length = lens.length
    · have q1' : (rs.length : Int) = (lens.length : Int) := by omega
      simp -implicitDefEqProofs [-Int.natCast_add, h1, h3, q1']
      rw [compL_selfF (g := fun x => x) (p := fun x => !isNums s.pieces.length x) rs (fun x hx => by
        have := lnums_pl (by omega) (pls_mem pr x hx) s.pieces.length S
        cases q : isNums s.pieces.length x with
        | true => rw [q] at this; simp -implicitDefEqProofs [-Int.natCast_add, ht1, this]
        | false => rw [q] at this; simp -implicitDefEqProofs [-Int.natCast_add, ht1, this])]
      have hc := cmp_nilL (n := n) (ds := rs.filter fun x => !isNums s.pieces.length x) (by omega) (pls_filter pr _) true
      rw [filter_emp] at hc
      have hLz : (rs.filter fun x => !isNums s.pieces.length x).length ≤ sizeLine := by
        have := List.length_filter_le (fun x => !isNums s.pieces.length x) rs
        rw [szl]; omega
      rw [List.map_id']
      generalize (rs.filter fun x => !isNums s.pieces.length x) = LL at *
      rw [show (rs.all fun x => !!isNums s.pieces.length x) = rs.all (isNums s.pieces.length) by congr 1; funext x; exact Bool.not_not _] at hc
      by_cases q2 : rs.all (isNums s.pieces.length) = true
      · rw [q2] at hc
        obtain ⟨er, hR⟩ := all_nums q2
        have htot := totS_all s rs (Nat.le_refl _)
        generalize rs.map natsOf = R at *
        subst er
        have hRl : R.length = lens.length := by rw [← q1, List.length_map]
        have hRs : RightS s lens tg (.tup (R.map natT)) = ((List.range lens.length).all (fitK s lens R) && decide (colSum s.pieces.length R = tg)) := by
          show (decide ((R.map natT).length = lens.length) && (okS s lens (R.map natT) && decide (totS s (R.map natT) (R.map natT).length = tg))) = _
          rw [decide_eq_true q1, okS_nums hRl hR, htot, Bool.true_and]
        rw [hRs]
        clear hRs htot
        simp -implicitDefEqProofs [-Int.natCast_add, hLz, hc, h1]
        rw [rg1 (by omega)]
        simp -implicitDefEqProofs [-Int.natCast_add]
        rw [compL_rangeF (g := fun k => .int (k : Int)) (p := fun k => !fitK s lens R k) lens.length (fun k hk => by
          have h1x : dIx (natT lens) (.int (k : Int)) = some (.int ((lens.getD k 0 : Nat) : Int)) := d_ixt (by rw [List.getElem?_map, List.getD_eq_getElem?_getD, List.getElem?_eq_getElem hk]; rfl)
          have h2x : dIx (.tup (R.map natT)) (.int (k : Int)) = some (natT (R.getD k [])) := d_ixt (by rw [List.getElem?_map, List.getD_eq_getElem?_getD, List.getElem?_eq_getElem (by omega)]; rfl)
          have hg := lgives_ok hs (lens.getD k 0) (R.getD k []) S
          rw [show decide (sizeW s.ws (R.getD k []) ≤ lens.getD k 0 + s.kerf) = fitK s lens R k from rfl] at hg
          generalize R.getD k [] = r at *
          generalize lens.getD k 0 = len at *
          cases q3 : fitK s lens R k with
          | true => rw [q3] at hg; simp -implicitDefEqProofs [-Int.natCast_add, h1, h1x, h2x, hg]
          | false => rw [q3] at hg; simp -implicitDefEqProofs [-Int.natCast_add, h1, h1x, h2x, hg])]
        have hc2 := cmp_nilL (n := 0) (ds := ((List.range lens.length).filter fun k => !fitK s lens R k).map fun (k : Nat) => D.int (k : Int)) (by omega) (pls_of fun d hd => by
          obtain ⟨k, _, rfl⟩ := List.mem_map.mp hd
          rfl) true
        rw [List.isEmpty_map, filter_emp, show ((List.range lens.length).all fun x => !!fitK s lens R x) = (List.range lens.length).all (fitK s lens R) by congr 1; funext x; exact Bool.not_not _, if_pos rfl] at hc2
        have hLz2 : (((List.range lens.length).filter fun k => !fitK s lens R k).map fun (k : Nat) => D.int (k : Int)).length ≤ sizeLine := by
          have := List.length_filter_le (fun k => !fitK s lens R k) (List.range lens.length)
          rw [List.length_range] at this
          rw [List.length_map, szl]; omega
        generalize ((List.range lens.length).filter fun k => !fitK s lens R k).map (fun (k : Nat) => D.int (k : Int)) = L2 at *
        by_cases q3 : (List.range lens.length).all (fitK s lens R) = true
        · rw [q3] at hc2 ⊢
          have hadd := added_tup (L := R) (by omega) hR (by omega) S
          rw [← ht] at hadd ⊢
          have heq := encRow.eq (a := colSum tg.length R) (b := tg) trivial trivial false
          rw [if_neg (by decide)] at heq
          have heq' : dEqv false (natT (colSum tg.length R)) (natT tg) = some (.bl (decide (colSum tg.length R = tg))) := heq
          generalize colSum tg.length R = T at *
          simp -implicitDefEqProofs [-Int.natCast_add, hLz2, hc2, h1, hadd, heq']
        · have q3' : (List.range lens.length).all (fitK s lens R) = false := by simpa using q3
          rw [q3'] at hc2 ⊢
          simp -implicitDefEqProofs [-Int.natCast_add, hLz2, hc2]
      · have q2' : rs.all (isNums s.pieces.length) = false := by simpa using q2
        rw [q2'] at hc
        have : RightS s lens tg (.tup rs) = false := by
          have h0 : okS s lens rs = false := by
            cases h4 : okS s lens rs with
            | false => rfl
            | true =>
              exfalso
              apply q2
              rw [List.all_eq_true]
              intro x hx
              obtain ⟨i, hi⟩ := List.getElem?_of_mem hx
              have hil := (List.getElem?_eq_some_iff.mp hi).1
              have hz : (lens.zip rs)[i]? = some (lens[i]'(by omega), x) := List.getElem?_zip_eq_some.mpr ⟨List.getElem?_eq_getElem (by omega), hi⟩
              have := List.all_eq_true.mp h4 _ (List.mem_of_getElem? hz)
              unfold rowOk at this
              rw [Bool.and_eq_true] at this
              exact this.1
          show (decide (rs.length = lens.length) && (okS s lens rs && _)) = false
          rw [h0, Bool.false_and, Bool.and_false]
        rw [this]
        simp -implicitDefEqProofs [-Int.natCast_add, hLz, hc]
    · have q1' : ¬ (rs.length : Int) = (lens.length : Int) := by omega
      have : RightS s lens tg (.tup rs) = false := by
        show (decide (rs.length = lens.length) && _) = false
        rw [decide_eq_false q1]
        rfl
      rw [this]
      simp -implicitDefEqProofs [-Int.natCast_add, h1, h3, q1']
  | non => simp -implicitDefEqProofs [-Int.natCast_add, h1, h3, isTyS, RightS]
  | bl b => simp -implicitDefEqProofs [-Int.natCast_add, h1, h3, isTyS, RightS]
  | int i => simp -implicitDefEqProofs [-Int.natCast_add, h1, h3, isTyS, RightS]
  | str z => simp -implicitDefEqProofs [-Int.natCast_add, h1, h3, isTyS, RightS]
  | _ => cases n <;> cases ha

/-! ### the judges of a Stopped: rows -/
def belowV (a b : List Nat) : Bool := (a.zip b).all fun q => decide (q.1 ≤ q.2)
theorem is_below_ok {a b : List Nat} (h : a.length ≤ 1000) (S : Sto) : m_is_below [natT a, natT b] S = .ok (.bl (belowV a b)) S := by
  unfold m_is_below b_is_below
  simp -implicitDefEqProofs [-Int.natCast_add]
  rw [zip_nat (fun (n : Nat) => D.int (n : Int)), compL_map (g := fun q => D.bl (decide (q.1 ≤ q.2))) _ (fun q hq => by
    by_cases c : q.1 ≤ q.2
    · have c' : (q.1 : Int) ≤ (q.2 : Int) := by omega
      simp -implicitDefEqProofs [-Int.natCast_add, c, c']
    · have c' : ¬ (q.1 : Int) ≤ (q.2 : Int) := by omega
      simp -implicitDefEqProofs [-Int.natCast_add, c, c'])]
  have hz : ((a.zip b).map fun q => D.bl (decide (q.1 ≤ q.2))).length ≤ sizeLine := by rw [List.length_map, List.length_zip, szl]; omega
  have ha := all_map (fun q : Nat × Nat => decide (q.1 ≤ q.2)) (a.zip b)
  rw [show ((a.zip b).all fun q => decide (q.1 ≤ q.2)) = belowV a b from rfl] at ha
  generalize ((a.zip b).map fun q => D.bl (decide (q.1 ≤ q.2))) = Q at *
  simp -implicitDefEqProofs [-Int.natCast_add, hz, ha]
theorem lbelow_ok {a b : List Nat} (h : a.length ≤ 1000) (hl : a.length = b.length) (S : Sto) : m__law_is_below [natT a, natT b] S = .ok (.bl (belowV a b)) S := by
  unfold m__law_is_below b__law_is_below
  simp -implicitDefEqProofs [-Int.natCast_add]
  rw [rg1 (by omega)]
  simp -implicitDefEqProofs [-Int.natCast_add]
  rw [compL_rangeF (g := fun k => .int (k : Int)) (p := fun k => !decide (a.getD k 0 ≤ b.getD k 0)) a.length (fun k hk => by
    have h1 : dIx (natT a) (.int (k : Int)) = some (.int ((a.getD k 0 : Nat) : Int)) := d_ixt (by rw [List.getElem?_map, List.getD_eq_getElem?_getD, List.getElem?_eq_getElem hk]; rfl)
    have h2 : dIx (natT b) (.int (k : Int)) = some (.int ((b.getD k 0 : Nat) : Int)) := d_ixt (by rw [List.getElem?_map, List.getD_eq_getElem?_getD, List.getElem?_eq_getElem (by omega)]; rfl)
    generalize a.getD k 0 = x at *
    generalize b.getD k 0 = y at *
    by_cases c : x ≤ y
    · have c' : ¬ (x : Int) > (y : Int) := by omega
      simp -implicitDefEqProofs [-Int.natCast_add, h1, h2, c, c']
    · have c' : (x : Int) > (y : Int) := by omega
      simp -implicitDefEqProofs [-Int.natCast_add, h1, h2, c, c'])]
  have hc2 := cmp_nilL (n := 0) (ds := ((List.range a.length).filter fun k => !decide (a.getD k 0 ≤ b.getD k 0)).map fun (k : Nat) => D.int (k : Int)) (by omega) (pls_of fun d hd => by
    obtain ⟨k, _, rfl⟩ := List.mem_map.mp hd
    rfl) false
  have e : ((List.range a.length).all fun k => !!decide (a.getD k 0 ≤ b.getD k 0)) = belowV a b := by
    unfold belowV
    rw [Bool.eq_iff_iff, List.all_eq_true, List.all_eq_true]
    constructor
    · intro q z hz
      obtain ⟨k, hk⟩ := List.getElem?_of_mem hz
      obtain ⟨h1, h2⟩ := List.getElem?_zip_eq_some.mp hk
      have hka := (List.getElem?_eq_some_iff.mp h1).1
      have := q k (List.mem_range.mpr hka)
      rw [Bool.not_not, List.getD_eq_getElem?_getD, List.getD_eq_getElem?_getD, h1, h2] at this
      exact this
    · intro q k hk
      have hka := List.mem_range.mp hk
      have hz : (a.zip b)[k]? = some (a[k], b[k]'(by omega)) := List.getElem?_zip_eq_some.mpr ⟨List.getElem?_eq_getElem hka, List.getElem?_eq_getElem (by omega)⟩
      have := q _ (List.mem_of_getElem? hz)
      rw [Bool.not_not, List.getD_eq_getElem?_getD, List.getD_eq_getElem?_getD, List.getElem?_eq_getElem hka, List.getElem?_eq_getElem (show k < b.length by omega)]
      exact this
  rw [List.isEmpty_map, filter_emp, e, if_neg (by decide)] at hc2
  have hLz2 : (((List.range a.length).filter fun k => !decide (a.getD k 0 ≤ b.getD k 0)).map fun (k : Nat) => D.int (k : Int)).length ≤ sizeLine := by
    have := List.length_filter_le (fun k => !decide (a.getD k 0 ≤ b.getD k 0)) (List.range a.length)
    rw [List.length_range] at this
    rw [List.length_map, szl]; omega
  generalize ((List.range a.length).filter fun k => !decide (a.getD k 0 ≤ b.getD k 0)).map (fun (k : Nat) => D.int (k : Int)) = L2 at *
  simp -implicitDefEqProofs [-Int.natCast_add, hLz2, hc2]
/-- ascending rows -/
def ascR (L : List (List Nat)) : Bool := (List.range (L.length - 1)).all fun k => decide (L.getD k [] < L.getD (k + 1) [])
theorem alike_natP (a b : List Nat) : PySem.W.alike (natP a) (natP b) = true := by
  have e : ∀ r : List Nat, (r.map fun (n : Nat) => PyData.int (n : Int)) = (r.map fun (n : Nat) => (n : Int)).map PyData.int := fun r => by simp
  show PySem.W.alike (.tuple _) (.tuple _) = true
  rw [PySem.W.alike, e, e]
  exact PySem.W.alike_ints _ _
theorem row_cmp (f : PyData → PyData → Bool) (a b : List Nat) : dCmp f (natT a) (natT b) = some (.bl (f (natP a) (natP b))) := by
  unfold dCmp
  rw [encRow.py, encRow.py]
  show (if cmpOk (natP a) (natP b) = true then _ else _) = _
  have : cmpOk (natP a) (natP b) = true := by
    unfold cmpOk
    rw [alike_natP, Bool.true_and, Bool.and_eq_true, decide_eq_true_eq]
    exact ⟨rfl, Nat.le_trans (encRow.dep a) (by decide)⟩
  rw [if_pos this]
theorem row_lt (a b : List Nat) : dCmp (fun d e => PySem.W.dataLt d e) (natT a) (natT b) = some (.bl (decide (a < b))) := by
  have := row_cmp (fun d e => PySem.W.dataLt d e) a b
  rw [natP_lt] at this
  exact this
theorem row_ge (a b : List Nat) : dCmp (fun d e => !PySem.W.dataLt d e) (natT a) (natT b) = some (.bl (!decide (a < b))) := by
  have := row_cmp (fun d e => !PySem.W.dataLt d e) a b
  rw [natP_lt] at this
  exact this
theorem rt_at {L : List (List Nat)} {k : Nat} (h : k < L.length) : dIx (.tup (L.map natT)) (.int (k : Int)) = some (natT (L.getD k [])) := d_ixt (by rw [List.getElem?_map, List.getD_eq_getElem?_getD, List.getElem?_eq_getElem h]; rfl)
def rowsOk (m : Nat) : D → Bool
  | .tup rs => rs.all (isNums m) && ascR (rs.map natsOf)
  | _ => false
theorem rgm1 {n : Nat} (h : n ≤ 1000000) : dRange [.int ((n : Int) - 1)] = some ((List.range (n - 1)).map fun (k : Nat) => .int (k : Int)) := by
  cases n with
  | zero =>
    show (if rgOk (((0 : Nat) : Int) - 1) then some (rangeD 0 (((0 : Nat) : Int) - 1).toNat) else none) = _
    rw [if_pos (rgOk_of (by decide))]
    rfl
  | succ n =>
    rw [show ((n + 1 : Nat) : Int) - 1 = (n : Int) by omega, rg1 (by omega)]
    rfl
theorem are_rows_pl {n : Nat} {s : ShopT} (h3 : s.pieces.length ≤ 3) {d : D} (h : pl n d = true) (S : Sto) : m_are_rows [s.o, d] S = .ok (.bl (rowsOk s.pieces.length d)) S := by
  unfold m_are_rows b_are_rows
  cases d with
  | tup rs =>
    cases n with
    | zero => cases h
    | succ n =>
    obtain ⟨pr, lr⟩ := pl_tup h
    simp -implicitDefEqProofs [-Int.natCast_add]
    rw [compL_self (g := fun x => .bl (isNums s.pieces.length x)) rs (fun x hx => by simp -implicitDefEqProofs [-Int.natCast_add, nums_pl s (pls_mem pr x hx)])]
    have ha := all_map (isNums s.pieces.length) rs
    have hz : (rs.map fun x => D.bl (isNums s.pieces.length x)).length ≤ sizeLine := by rw [List.length_map, szl]; omega
    generalize (rs.map fun x => D.bl (isNums s.pieces.length x)) = Q at *
    by_cases q : rs.all (isNums s.pieces.length) = true
    · have hR : rowsOk s.pieces.length (.tup rs) = ascR (rs.map natsOf) := by
        show (rs.all (isNums s.pieces.length) && _) = _
        rw [q]
        rfl
      rw [hR]
      rw [q] at ha
      obtain ⟨er, hl⟩ := all_nums q
      generalize rs.map natsOf = R at *
      subst er
      have hRl : R.length ≤ 100000 := by simpa using lr
      simp -implicitDefEqProofs [-Int.natCast_add, hz, ha]
      rw [rgm1 (by omega)]
      simp -implicitDefEqProofs [-Int.natCast_add]
      rw [compL_range (g := fun k => .bl (decide (R.getD k [] < R.getD (k + 1) []))) (R.length - 1) (fun k hk => by
        have e : (k : Int) + 1 = ((k + 1 : Nat) : Int) := by omega
        have e1 := rt_at (L := R) (show k < R.length by omega)
        have e2 := rt_at (L := R) (show k + 1 < R.length by omega)
        have e3 := row_lt (R.getD k []) (R.getD (k + 1) [])
        generalize R.getD k [] = a at *
        generalize R.getD (k + 1) [] = b at *
        have e3' : dCmp (fun d e => PySem.W.dataLt d e) (.tup (a.map fun (n : Nat) => .int (n : Int))) (.tup (b.map fun (n : Nat) => .int (n : Int))) = some (.bl (decide (a < b))) := e3
        simp -implicitDefEqProofs [-Int.natCast_add, e, e1, e2, e3'])]
      have ha2 := all_map (fun k => decide (R.getD k [] < R.getD (k + 1) [])) (List.range (R.length - 1))
      rw [show ((List.range (R.length - 1)).all fun k => decide (R.getD k [] < R.getD (k + 1) [])) = ascR R from rfl] at ha2
      have hz2 : ((List.range (R.length - 1)).map fun k => D.bl (decide (R.getD k [] < R.getD (k + 1) []))).length ≤ sizeLine := by rw [List.length_map, List.length_range, szl]; omega
      generalize ((List.range (R.length - 1)).map fun k => D.bl (decide (R.getD k [] < R.getD (k + 1) []))) = Q2 at *
      simp -implicitDefEqProofs [-Int.natCast_add, hz2, ha2]
    · have q' : rs.all (isNums s.pieces.length) = false := by simpa using q
      have hR : rowsOk s.pieces.length (.tup rs) = false := by
        show (rs.all (isNums s.pieces.length) && _) = _
        rw [q']
        rfl
      rw [hR]
      rw [q'] at ha
      simp -implicitDefEqProofs [-Int.natCast_add, hz, ha]
  | non => simp -implicitDefEqProofs [-Int.natCast_add, isTyS, rowsOk]
  | bl b => simp -implicitDefEqProofs [-Int.natCast_add, isTyS, rowsOk]
  | int i => simp -implicitDefEqProofs [-Int.natCast_add, isTyS, rowsOk]
  | str z => simp -implicitDefEqProofs [-Int.natCast_add, isTyS, rowsOk]
  | _ => cases n <;> cases h

/-! ### the judge of a Stopped -/
abbrev layD (R : List (List Nat)) : D := .tup (R.map natT)
def rowsOf : D → List (List Nat)
  | .tup rs => rs.map natsOf
  | _ => []
theorem all_layers {m : Nat} : ∀ {ls : List D}, ls.all (rowsOk m) = true → ls = (ls.map rowsOf).map layD ∧ ∀ R ∈ ls.map rowsOf, ∀ r ∈ R, r.length = m
  | [], _ => ⟨rfl, fun r hr => (nomatch hr)⟩
  | d :: ls, h => by
    rw [List.all_cons, Bool.and_eq_true] at h
    obtain ⟨e2, h2⟩ := all_layers h.2
    cases d with
    | tup rs =>
      have h1 : (rs.all (isNums m) && ascR (rs.map natsOf)) = true := h.1
      rw [Bool.and_eq_true] at h1
      obtain ⟨e, hl⟩ := all_nums h1.1
      refine ⟨?_, fun R hR => ?_⟩
      · rw [List.map_cons, List.map_cons, ← e2]
        show D.tup rs :: ls = D.tup ((rs.map natsOf).map natT) :: ls
        rw [← e]
      · rw [List.map_cons] at hR
        rcases List.mem_cons.mp hR with rfl | hR
        · exact hl
        · exact h2 R hR
    | _ => cases h.1
def badR (tg : List Nat) (nxt : List (List Nat)) (rows : List (List Nat)) (row : List Nat) : Bool := rows.any fun more => belowV (addV row more) tg && !decide (addV row more ∈ nxt)
def stepK (s : ShopT) (lens tg : List Nat) (Ls : List (List (List Nat))) (k : Nat) : Bool := (Ls.getD k []).all fun row => !badR tg (Ls.getD (k + 1) []) (rowsW s.ws (lens.getD k 0 + s.kerf)) row
def endsOk (m : Nat) (tg : List Nat) (Ls : List (List (List Nat))) (k : Nat) : Bool := decide (List.replicate m 0 ∈ Ls.getD 0 []) && !decide (tg ∈ Ls.getD k [])
def RightT (s : ShopT) (lens tg : List Nat) : D → Bool
  | .tup ls => decide (ls.length = lens.length + 1) && (ls.all (rowsOk s.pieces.length) && (endsOk s.pieces.length tg (ls.map rowsOf) lens.length && (List.range lens.length).all (stepK s lens tg (ls.map rowsOf))))
  | _ => false
theorem lay_at {Ls : List (List (List Nat))} {k : Nat} (h : k < Ls.length) : dIx (.tup (Ls.map layD)) (.int (k : Int)) = some (layD (Ls.getD k [])) := d_ixt (by rw [List.getElem?_map, List.getD_eq_getElem?_getD, List.getElem?_eq_getElem h]; rfl)
theorem ix_last {xs : List D} {n : Nat} {d : D} (hl : xs.length = n + 1) (h : xs[n]? = some d) : dIx (.tup xs) (.int (-1)) = some d := by
  show atI xs (-1) = _
  unfold atI ixN
  rw [if_neg (by decide), if_pos (by omega)]
  show xs[(-1 + (xs.length : Int)).toNat]? = _
  rw [show (-1 + (xs.length : Int)).toNat = n by omega]
  exact h
theorem row_in (neg : Bool) (a : List Nat) (R : List (List Nat)) : dIn neg (natT a) (.lst (R.map natT)) = some (.bl (if neg then !decide (a ∈ R) else decide (a ∈ R))) := by
  refine (encRow.mem (a := a) (xs := R) trivial (fun _ _ => trivial) neg).trans ?_
  cases neg with
  | true => exact congrArg (fun b => some (D.bl (!b))) (decide_eq_decide.mpr Iff.rfl)
  | false => exact congrArg (fun b => some (D.bl b)) (decide_eq_decide.mpr Iff.rfl)
def okT (s : ShopT) (lens tg : List Nat) (Ls : List (List (List Nat))) (j : Nat) : Bool := (List.range j).all (stepK s lens tg Ls)
theorem okT_next {s : ShopT} {lens tg : List Nat} {Ls : List (List (List Nat))} {j : Nat} (h : okT s lens tg Ls j = true) (h2 : stepK s lens tg Ls j = true) : okT s lens tg Ls (j + 1) = true := by
  unfold okT at *
  rw [List.range_succ, List.all_append, h]
  simpa using h2
theorem okT_stop {s : ShopT} {lens tg : List Nat} {Ls : List (List (List Nat))} {j n : Nat} (hj : j < n) (h2 : stepK s lens tg Ls j = false) : okT s lens tg Ls n = false := by
  cases h : okT s lens tg Ls n with
  | false => rfl
  | true => rw [List.all_eq_true.mp h j (List.mem_range.mpr hj)] at h2; cases h2
def okR (s : ShopT) (lens tg : List Nat) (Ls : List (List (List Nat))) (k i : Nat) : Bool := ((Ls.getD k []).take i).all fun row => !badR tg (Ls.getD (k + 1) []) (rowsW s.ws (lens.getD k 0 + s.kerf)) row
theorem okR_next {s : ShopT} {lens tg : List Nat} {Ls : List (List (List Nat))} {k i : Nat} {row : List Nat} (hr : (Ls.getD k [])[i]? = some row) (h : okR s lens tg Ls k i = true) (h2 : badR tg (Ls.getD (k + 1) []) (rowsW s.ws (lens.getD k 0 + s.kerf)) row = false) : okR s lens tg Ls k (i + 1) = true := by
  unfold okR at *
  rw [take_next hr, List.all_append, h, Bool.true_and]
  show (!badR tg (Ls.getD (k + 1) []) (rowsW s.ws (lens.getD k 0 + s.kerf)) row && true) = true
  rw [h2]
  rfl
theorem okR_all {s : ShopT} {lens tg : List Nat} {Ls : List (List (List Nat))} {k : Nat} (h : okR s lens tg Ls k (Ls.getD k []).length = true) : stepK s lens tg Ls k = true := by
  unfold okR at h
  rw [List.take_length] at h
  exact h
theorem okR_stop {s : ShopT} {lens tg : List Nat} {Ls : List (List (List Nat))} {k i : Nat} {row : List Nat} (hr : (Ls.getD k [])[i]? = some row) (h2 : badR tg (Ls.getD (k + 1) []) (rowsW s.ws (lens.getD k 0 + s.kerf)) row = true) : stepK s lens tg Ls k = false := by
  cases h : stepK s lens tg Ls k with
  | false => rfl
  | true =>
    have := List.all_eq_true.mp h row (List.mem_of_getElem? hr)
    rw [h2] at this
    cases this
theorem stopped_pl {n : Nat} (hn : n ≤ 50) {s : ShopT} {x : Str × Nat × Option Nat × Nat} {L : List Fl} (A : At s x L) (hle : ∀ l ∈ freeL x.2.1 L, l ≤ 15) {tg : List Nat} (ht : tg.length = s.pieces.length) {a : D} (ha : pl n a = true) (S : Sto) :
    m_stopped_holds [s.o, .int 0, .tup (L.map faultD), natT tg, stpD a] S = .ok (.bl (RightT s (freeL x.2.1 L) tg a)) S := by
  have hs := A.hs
  have hp3 := hs.p3
  have hm1 := hs.pc.len.1
  have hf := need_faults_ok A S
  have hfree := free_of A S
  have hpat := npat_ok ht (by omega) S
  have h1 : attrD at_layers "layers" (stpD a) S = .ok a S := st_lay a S
  have h3 : isOwn OWN "Stopped" (stpD a) = some true := st_is a
  have hll := freeL_len (len := x.2.1) A.ok.n3
  generalize freeL x.2.1 L = lens at *
  generalize stpD a = v at *
  unfold m_stopped_holds b_stopped_holds
  refine post_ok ?_
  generalize L.map faultD = fd at *
  cases a with
  | tup ls =>
    cases n with
    | zero => cases ha
    | succ n =>
    obtain ⟨pr, lr⟩ := pl_tup ha
    by_cases q1 : ls.length = lens.length + 1
    · have q1' : (ls.length : Int) = (lens.length : Int) + 1 := by omega
      simp -implicitDefEqProofs [-Int.natCast_add, hf, hfree, hpat, h1, h3, q1']
      rw [compL_self (g := fun x => .bl (rowsOk s.pieces.length x)) ls (fun x hx => by simp -implicitDefEqProofs [-Int.natCast_add, are_rows_pl hp3 (pls_mem pr x hx)])]
      have hal := all_map (rowsOk s.pieces.length) ls
      have hz : (ls.map fun x => D.bl (rowsOk s.pieces.length x)).length ≤ sizeLine := by rw [List.length_map, szl]; omega
      generalize (ls.map fun x => D.bl (rowsOk s.pieces.length x)) = Q at *
      by_cases q2 : ls.all (rowsOk s.pieces.length) = true
      · rw [q2] at hal
        have hR : RightT s lens tg (.tup ls) = (endsOk s.pieces.length tg (ls.map rowsOf) lens.length && okT s lens tg (ls.map rowsOf) lens.length) := by
          show (decide (ls.length = lens.length + 1) && (ls.all (rowsOk s.pieces.length) && _)) = _
          rw [q2, decide_eq_true q1]
          rfl
        rw [hR]
        clear hR
        obtain ⟨els, hlr⟩ := all_layers q2
        have hLl : (ls.map rowsOf).length = lens.length + 1 := by rw [List.length_map]; exact q1
        generalize ls.map rowsOf = Ls at *
        subst els
        have hz0 := zero_row (n := s.pieces.length) hm1 (by omega)
        rw [← ht] at hz0
        have hl0 : dIx (.tup (Ls.map layD)) (.int 0) = some (layD (Ls.getD 0 [])) := lay_at (Ls := Ls) (k := 0) (by omega)
        have hl1 := ix_last (xs := Ls.map layD) (n := lens.length) (d := layD (Ls.getD lens.length [])) (by rw [List.length_map]; exact hLl) (by rw [List.getElem?_map, List.getD_eq_getElem?_getD, List.getElem?_eq_getElem (by omega)]; rfl)
        have hin0 := row_in true (List.replicate tg.length 0) (Ls.getD 0 [])
        have hin1 := row_in false tg (Ls.getD lens.length [])
        rw [if_pos rfl] at hin0
        rw [if_neg (by decide)] at hin1
        have hE : endsOk s.pieces.length tg Ls lens.length = (decide (List.replicate tg.length 0 ∈ Ls.getD 0 []) && !decide (tg ∈ Ls.getD lens.length [])) := by rw [ht]; rfl
        rw [hE]
        clear hE
        generalize Ls.getD 0 [] = L0 at *
        generalize Ls.getD lens.length [] = Ln at *
        by_cases z0 : List.replicate tg.length 0 ∈ L0
        · by_cases z1 : tg ∈ Ln
          · rw [decide_eq_true z0] at hin0 ⊢
            rw [decide_eq_true z1] at hin1 ⊢
            simp -implicitDefEqProofs [-Int.natCast_add, hz, hal, h1, hz0, hl0, hl1, hin0, hin1]
          · rw [decide_eq_true z0] at hin0 ⊢
            rw [decide_eq_false z1] at hin1 ⊢
            simp -implicitDefEqProofs [-Int.natCast_add, hz, hal, h1, hz0, hl0, hl1, hin0, hin1]
            clear hz hal Q hl0 hin0 hl1 hin1 z0 z1 L0 Ln
            refine then_post (P := fun o S' => S' = S ∧ ((okT s lens tg Ls lens.length = false ∧ o = .rt (.bl false)) ∨ (okT s lens tg Ls lens.length = true ∧ ∃ ρ', o = .nx ρ'))) (forL_enum (e := fun (n : Nat) => D.int (n : Int)) (fun j ρ S' => S' = S ∧ okT s lens tg Ls j = true ∧ St [some (s.o), none, none, none, some (v), none, some (natT tg), none, none, none, none, none, none, none, none] ρ) lens ⟨rfl, rfl, by simp⟩ (fun j len hj ρ S' ⟨e1, e2, h⟩ => ?_) fun ρ S' ⟨e1, e2, h⟩ => ⟨e1, .inr ⟨e2, ρ, rfl⟩⟩) fun o S' ⟨e1, ho⟩ => ?_
            · repeat (first | (replace h := St.some h; obtain ⟨_, rfl, h⟩ := h) | (replace h := St.none h; obtain ⟨_, _, rfl, h⟩ := h))
              cases St.nil h
              subst e1
              obtain ⟨hjl, hje⟩ := List.getElem?_eq_some_iff.mp hj
              have hlen : lens.getD j 0 = len := by rw [List.getD_eq_getElem?_getD, hj]; rfl
              have hl15 := hle len (List.mem_of_getElem? hj)
              have hkk := hs.kf
              have hkf : attrD at_kerf "kerf" s.o S' = .ok (.int (s.kerf : Int)) S' := sh_kerf _ _ _ S'
              have hlk : (len : Int) + (s.kerf : Int) = ((len + s.kerf : Nat) : Int) := by omega
              have hrw := rows_within_ok s hs.pc hs.w6 (room := len + s.kerf) (hs.rw (by omega)) S'
              have hlj := lay_at (Ls := Ls) (k := j) (by omega)
              simp -implicitDefEqProofs [-Int.natCast_add, hkf, hlk, hrw, h1, hlj]
              have hrl : ∀ r ∈ Ls.getD j [], r.length = s.pieces.length := fun r hr => by
                refine hlr (Ls.getD j []) ?_ r hr
                rw [List.getD_eq_getElem?_getD, List.getElem?_eq_getElem (show j < Ls.length by omega)]
                exact List.getElem_mem _
              refine Res.post_mono (forL_map (enc := natT) (P := fun i ρ S2 => S2 = S' ∧ okR s lens tg Ls j i = true ∧ St [some (s.o), none, none, none, some (v), none, some (natT tg), some (.int (j : Int)), none, some (.lst ((rowsW s.ws (len + s.kerf)).map natT)), none, none, none, none, none] ρ) (Q := fun o S2 => S2 = S' ∧ ((stepK s lens tg Ls j = false ∧ o = .rt (.bl false)) ∨ (stepK s lens tg Ls j = true ∧ ∃ ρ', o = .nx ρ' ∧ St [some (s.o), none, none, none, some (v), none, some (natT tg), none, none, none, none, none, none, none, none] ρ'))) (Ls.getD j []) ⟨rfl, rfl, by simp⟩ (fun i row hi ρ S2 ⟨e1, e3, h⟩ => ?_) fun ρ S2 ⟨e1, e3, h⟩ => ⟨e1, .inr ⟨okR_all e3, ρ, rfl, ?_⟩⟩) fun o S2 ⟨e1, ho⟩ => ?_
              · repeat (first | (replace h := St.some h; obtain ⟨_, rfl, h⟩ := h) | (replace h := St.none h; obtain ⟨_, _, rfl, h⟩ := h))
                cases St.nil h
                subst e1
                have hrow := hrl row (List.mem_of_getElem? hi)
                have hRl : (rowsW s.ws (len + s.kerf)).length ≤ 3000 := by
                  unfold rowsW
                  rw [List.length_map, rows_len _ _ hs.pos]
                  exact hs.rw (by omega)
                have hRm : ∀ r ∈ rowsW s.ws (len + s.kerf), r.length = s.pieces.length := fun r hr => by
                  rw [((rowsW_mem hs.pos).mp hr).1, ws_len]
                have hstop := okR_stop (s := s) (lens := lens) (tg := tg) (k := j) hi
                have hnext := okR_next hi e3
                rw [hlen] at hstop hnext
                have hl2 := lay_at (Ls := Ls) (k := j + 1) (by omega)
                have ej : (j : Int) + 1 = ((j + 1 : Nat) : Int) := by omega
                generalize Ls.getD (j + 1) [] = nxt at *
                generalize rowsW s.ws (len + s.kerf) = RW at *
                have hzR : RW.length ≤ sizeLine := by rw [szl]; omega
                simp -implicitDefEqProofs [-Int.natCast_add]
                rw [compL_map (enc := natT) (g := fun more => natT (addV row more)) RW (fun more hm => by simp -implicitDefEqProofs [-Int.natCast_add, summed_ok (a := row) (b := more) (by omega)])]
                have hz1 : (RW.map fun more => natT (addV row more)).length ≤ sizeLine := by rw [List.length_map]; exact hzR
                have em : (RW.map fun more => natT (addV row more)) = (RW.map (addV row)).map natT := by rw [List.map_map]; rfl
                rw [em] at hz1 ⊢
                have hlaterl : ∀ one ∈ RW.map (addV row), one.length = s.pieces.length := fun one ho => by
                  obtain ⟨more, hm, rfl⟩ := List.mem_map.mp ho
                  rw [addV_len (by rw [hrow, hRm more hm]), hrow]
                have hbad : badR tg nxt RW row = (RW.map (addV row)).any fun one => belowV one tg && !decide (one ∈ nxt) := by
                  unfold badR
                  rw [List.any_map]
                  rfl
                rw [hbad] at hstop hnext
                have hLl' : (RW.map (addV row)).length ≤ sizeLine := by rw [List.length_map]; exact hzR
                generalize RW.map (addV row) = later at *
                generalize hlt : later.map natT = laterD at *
                simp -implicitDefEqProofs [-Int.natCast_add, hz1]
                subst hlt
                rw [compL_map (enc := natT) (g := fun one => .bl (belowV one tg && !decide (one ∈ nxt))) later (fun one ho => by
                  have hb := is_below_ok (a := one) (b := tg) (by have := hlaterl one ho; omega) S2
                  have hin := row_in true one nxt
                  rw [if_pos rfl] at hin
                  cases q : belowV one tg with
                  | true => rw [q] at hb; simp -implicitDefEqProofs [-Int.natCast_add, hb, h1, ej, hl2, hin]
                  | false => rw [q] at hb; simp -implicitDefEqProofs [-Int.natCast_add, hb])]
                have hany := any_map (fun one => belowV one tg && !decide (one ∈ nxt)) later
                have hz2 : (later.map fun one => D.bl (belowV one tg && !decide (one ∈ nxt))).length ≤ sizeLine := by rw [List.length_map]; exact hLl'
                generalize (later.map fun one => D.bl (belowV one tg && !decide (one ∈ nxt))) = Q2 at *
                cases q : later.any fun one => belowV one tg && !decide (one ∈ nxt) with
                | true => rw [q] at hany; simp -implicitDefEqProofs [-Int.natCast_add, hz2, hany, stepP, hstop q]
                | false => rw [q] at hany; simp -implicitDefEqProofs [-Int.natCast_add, hz2, hany, stepP, hnext q]
              · repeat (first | (replace h := St.some h; obtain ⟨_, rfl, h⟩ := h) | (replace h := St.none h; obtain ⟨_, _, rfl, h⟩ := h))
                cases St.nil h
                simp
              · subst e1
                rcases ho with ⟨q5, rfl⟩ | ⟨q5, ρ', rfl, h⟩
                · exact ⟨rfl, .inl ⟨okT_stop hjl q5, rfl⟩⟩
                · exact ⟨rfl, okT_next e2 q5, h⟩
            · subst e1
              rcases ho with ⟨q5, rfl⟩ | ⟨q5, ρ', rfl⟩
              · rw [q5]
                simp -implicitDefEqProofs [-Int.natCast_add]
              · rw [q5]
                simp -implicitDefEqProofs [-Int.natCast_add]
        · rw [decide_eq_false z0] at hin0 ⊢
          simp -implicitDefEqProofs [-Int.natCast_add, hz, hal, h1, hz0, hl0, hin0]
      · have q2' : ls.all (rowsOk s.pieces.length) = false := by simpa using q2
        rw [q2'] at hal
        have : RightT s lens tg (.tup ls) = false := by
          show (decide (ls.length = lens.length + 1) && (ls.all (rowsOk s.pieces.length) && _)) = false
          rw [q2', Bool.false_and, Bool.and_false]
        rw [this]
        simp -implicitDefEqProofs [-Int.natCast_add, hz, hal]
    · have q1' : ¬ (ls.length : Int) = (lens.length : Int) + 1 := by omega
      have : RightT s lens tg (.tup ls) = false := by
        show (decide (ls.length = lens.length + 1) && _) = false
        rw [decide_eq_false q1]
        rfl
      rw [this]
      simp -implicitDefEqProofs [-Int.natCast_add, hf, hfree, hpat, h1, h3, q1']
  | non => simp -implicitDefEqProofs [-Int.natCast_add, hf, hfree, hpat, h1, h3, isTyS, RightT]
  | bl b => simp -implicitDefEqProofs [-Int.natCast_add, hf, hfree, hpat, h1, h3, isTyS, RightT]
  | int i => simp -implicitDefEqProofs [-Int.natCast_add, hf, hfree, hpat, h1, h3, isTyS, RightT]
  | str z => simp -implicitDefEqProofs [-Int.natCast_add, hf, hfree, hpat, h1, h3, isTyS, RightT]
  | _ => cases n <;> cases ha

/-! ### the law's judge of a Stopped -/
theorem any_not {α : Type} (p : α → Bool) (xs : List α) : (xs.all fun x => !p x) = !xs.any p := by
  induction xs with
  | nil => rfl
  | cons x r ih => rw [List.all_cons, List.any_cons, ih]; cases p x <;> simp
theorem colSum_two {m : Nat} {a b : List Nat} (ha : a.length = m) (hb : b.length = m) : colSum m [a, b] = addV a b := by
  have h1 := colSum_snoc (m := m) [a] hb
  have h2 := colSum_snoc (m := m) [] ha
  rw [colSum_nil] at h2
  have h3 : colSum m [a, b] = addV (colSum m [a]) b := h1
  have h4 : colSum m [a] = addV (List.replicate m 0) a := h2
  rw [h3, h4]
  have h5 : addV (List.replicate m 0) a = a := by
    unfold addV
    apply List.ext_getElem?
    intro i
    rw [List.getElem?_map]
    by_cases hi : i < m
    · have : ((List.replicate m 0).zip a)[i]? = some (0, a[i]'(by omega)) := List.getElem?_zip_eq_some.mpr ⟨by rw [List.getElem?_replicate, if_pos hi], List.getElem?_eq_getElem (by omega)⟩
      rw [this, List.getElem?_eq_getElem (by omega)]
      simp
    · rw [List.getElem?_eq_none (by rw [List.length_zip, List.length_replicate]; omega), List.getElem?_eq_none (by omega)]
      rfl
  rw [h5]
theorem rg_one' {n : Nat} (h : n ≤ 1000000) : dRange [.int 1, .int (n : Int)] = some ((List.range (n - 1)).map fun (k : Nat) => .int (1 + (k : Int))) := by
  rw [show (1 : Int) = ((1 : Nat) : Int) from rfl, rg2n (by omega) (by omega)]
def descR (L : List (List Nat)) : List D := ((List.range (L.length - 1)).filter fun k => !decide (L.getD k [] < L.getD (k + 1) [])).map fun k => D.int ((k + 1 : Nat) : Int)
theorem descR_len (L : List (List Nat)) : (descR L).length ≤ L.length := by
  unfold descR
  rw [List.length_map]
  refine Nat.le_trans (List.length_filter_le _ _) ?_
  rw [List.length_range]
  omega
theorem descR_ne (L : List (List Nat)) : dEqv true (.lst (descR L)) (.lst []) = some (.bl (!ascR L)) := by
  have := cmp_nilL (n := 0) (ds := descR L) (by omega) (pls_of fun d hd => by
    obtain ⟨k, _, rfl⟩ := List.mem_map.mp hd
    rfl) true
  have e : (descR L).isEmpty = ascR L := by
    unfold descR ascR
    rw [List.isEmpty_map, filter_emp]
    congr 1
    funext k
    exact Bool.not_not _
  rw [e] at this
  exact this
theorem descR_comp {f : D → M (Option D)} {S : Sto} {L : List (List Nat)} (h : ∀ k, k < L.length - 1 → f (.int ((k + 1 : Nat) : Int)) S = .ok (if !decide (L.getD k [] < L.getD (k + 1) []) then some (.int ((k + 1 : Nat) : Int)) else none) S) :
    compL f ((List.range (L.length - 1)).map fun (k : Nat) => .int (1 + (k : Int))) S = .ok (descR L) S := by
  have := compL_filter (S := S) (f := f) (enc := fun (k : Nat) => D.int ((k + 1 : Nat) : Int)) (g := fun (k : Nat) => D.int ((k + 1 : Nat) : Int)) (p := fun k => !decide (L.getD k [] < L.getD (k + 1) [])) (List.range (L.length - 1)) (fun k hk => h k (List.mem_range.mp hk))
  rw [← show ((List.range (L.length - 1)).map fun (k : Nat) => D.int (1 + (k : Int))) = (List.range (L.length - 1)).map fun (k : Nat) => D.int ((k + 1 : Nat) : Int) from List.map_congr_left fun k _ => by congr 1; omega] at this
  exact this
theorem forL_self {body : D → DEnv → M Out} {P : Nat → DEnv → Sto → Prop} {Q : Out → Sto → Prop} (xs : List D) {ρ : DEnv} {S : Sto}
    (h0 : P 0 ρ S) (h1 : ∀ j x, xs[j]? = some x → ∀ ρ S, P j ρ S → (body x ρ S).post (stepP (P (j + 1)) Q)) (h2 : ∀ ρ S, P xs.length ρ S → Q (.nx ρ) S) : (forL body xs ρ S).post Q := by
  have := forL_map (enc := fun x : D => x) (P := P) (Q := Q) (body := body) xs h0 h1 h2
  simpa using this
def okL (m : Nat) (ls : List D) (j : Nat) : Bool := (ls.take j).all (rowsOk m)
def okLs (m : Nat) (ls : List D) : Bool := ls.all (rowsOk m)
theorem okL_next {m : Nat} {ls : List D} {j : Nat} {d : D} (h : ls[j]? = some d) (h1 : okL m ls j = true) (h2 : rowsOk m d = true) : okL m ls (j + 1) = true := by
  unfold okL at *
  rw [take_next h, List.all_append, h1]
  simpa using h2
theorem okL_stop {m : Nat} {ls : List D} {j : Nat} {d : D} (h : ls[j]? = some d) (h2 : rowsOk m d = false) : okLs m ls = false := by
  cases h3 : okLs m ls with
  | false => rfl
  | true => rw [List.all_eq_true.mp h3 d (List.mem_of_getElem? h)] at h2; cases h2
theorem okL_all {m : Nat} {ls : List D} (h : okL m ls ls.length = true) : okLs m ls = true := by
  unfold okL at h
  rw [List.take_length] at h
  exact h
theorem lstopped_pl {n : Nat} (hn : n ≤ 50) {s : ShopT} (hs : Sh s) {lens : List Nat} (hll : lens.length ≤ 4) (hle : ∀ l ∈ lens, l ≤ 15) {tg : List Nat} (ht : tg.length = s.pieces.length) {a : D} (ha : pl n a = true) (S : Sto) :
    m__law_stopped_right [s.t, natT lens, natT tg, stpD a] S = .ok (.bl (RightT s lens tg a)) S := by
  have hp3 := hs.p3
  have hm1 := hs.pc.len.1
  have h1 : attrD at_layers "layers" (stpD a) S = .ok a S := st_lay a S
  have h3 : isOwn OWN "Stopped" (stpD a) = some true := st_is a
  generalize stpD a = v at *
  unfold m__law_stopped_right b__law_stopped_right
  have ht1 : dIx s.t (.int 1) = some (.tup (s.pieces.map pieceD)) := d_ix1 _ _ _
  refine post_ok ?_
  cases a with
  | tup ls =>
    cases n with
    | zero => cases ha
    | succ n =>
    obtain ⟨pr, lr⟩ := pl_tup ha
    by_cases q1 : ls.length = lens.length + 1
    · have q1' : (ls.length : Int) = (lens.length : Int) + 1 := by omega
      simp -implicitDefEqProofs [-Int.natCast_add, ht1, h1, h3, q1']
      refine then_post (P := fun o S' => S' = S ∧ ((okLs s.pieces.length ls = false ∧ o = .rt (.bl false)) ∨ (okLs s.pieces.length ls = true ∧ ∃ ρ', o = .nx ρ' ∧ St [some (s.t), some (natT lens), some (natT tg), some (v), some (.int (s.pieces.length : Int)), none, none, none, none, none, none, none] ρ'))) (forL_self (P := fun j ρ S' => S' = S ∧ okL s.pieces.length ls j = true ∧ St [some (s.t), some (natT lens), some (natT tg), some (v), some (.int (s.pieces.length : Int)), none, none, none, none, none, none, none] ρ) ls ⟨rfl, rfl, by simp⟩ (fun j d hd ρ S' ⟨e1, e2, h⟩ => ?_) fun ρ S' ⟨e1, e2, h⟩ => ⟨e1, .inr ⟨okL_all e2, ρ, rfl, h⟩⟩) fun o S' ⟨e1, ho⟩ => ?_
      · repeat (first | (replace h := St.some h; obtain ⟨_, rfl, h⟩ := h) | (replace h := St.none h; obtain ⟨_, _, rfl, h⟩ := h))
        cases St.nil h
        subst e1
        have hdm := List.mem_of_getElem? hd
        have px := pls_mem pr d hdm
        have hnext := okL_next hd e2
        have hstop := okL_stop (m := s.pieces.length) hd
        cases d with
        | non => simp -implicitDefEqProofs [-Int.natCast_add, isTyS, stepP, hstop rfl]
        | bl b => simp -implicitDefEqProofs [-Int.natCast_add, isTyS, stepP, hstop rfl]
        | int i => simp -implicitDefEqProofs [-Int.natCast_add, isTyS, stepP, hstop rfl]
        | str x => simp -implicitDefEqProofs [-Int.natCast_add, isTyS, stepP, hstop rfl]
        | tup rs =>
          cases n with
          | zero => cases px
          | succ n =>
          obtain ⟨pr2, lr2⟩ := pl_tup px
          simp -implicitDefEqProofs [-Int.natCast_add]
          rw [compL_selfF (g := fun x => x) (p := fun x => !isNums s.pieces.length x) rs (fun x hx => by
            have := lnums_pl (by omega) (pls_mem pr2 x hx) s.pieces.length S'
            cases q : isNums s.pieces.length x with
            | true => rw [q] at this; simp -implicitDefEqProofs [-Int.natCast_add, this]
            | false => rw [q] at this; simp -implicitDefEqProofs [-Int.natCast_add, this])]
          have hc := cmp_nilL (n := n) (ds := rs.filter fun x => !isNums s.pieces.length x) (by omega) (pls_filter pr2 _) true
          rw [filter_emp] at hc
          have hLz : (rs.filter fun x => !isNums s.pieces.length x).length ≤ sizeLine := by
            have := List.length_filter_le (fun x => !isNums s.pieces.length x) rs
            rw [szl]; omega
          rw [List.map_id']
          generalize (rs.filter fun x => !isNums s.pieces.length x) = LL at *
          rw [show (rs.all fun x => !!isNums s.pieces.length x) = rs.all (isNums s.pieces.length) by congr 1; funext x; exact Bool.not_not _] at hc
          by_cases q2 : rs.all (isNums s.pieces.length) = true
          · rw [q2] at hc
            have hR : rowsOk s.pieces.length (.tup rs) = ascR (rs.map natsOf) := by
              show (rs.all (isNums s.pieces.length) && _) = _
              rw [q2]
              rfl
            rw [hR] at hnext hstop
            obtain ⟨er, hl⟩ := all_nums q2
            generalize rs.map natsOf = R at *
            subst er
            have hRl : R.length ≤ 100000 := by simpa using lr2
            simp -implicitDefEqProofs [-Int.natCast_add, hLz, hc]
            rw [rg_one' (by omega)]
            simp -implicitDefEqProofs [-Int.natCast_add]
            rw [descR_comp (L := R) (fun k hk => by
              have e1 := rt_at (L := R) (show k < R.length by omega)
              have e2 := rt_at (L := R) (show k + 1 < R.length by omega)
              have e4 := row_ge (R.getD k []) (R.getD (k + 1) [])
              have e5 : ((k + 1 : Nat) : Int) - 1 = (k : Int) := by omega
              generalize R.getD k [] = ga at *
              generalize R.getD (k + 1) [] = gb at *
              generalize ((k + 1 : Nat) : Int) = k1 at *
              have e4' : dCmp (fun d e => !PySem.W.dataLt d e) (.tup (ga.map fun (n : Nat) => .int (n : Int))) (.tup (gb.map fun (n : Nat) => .int (n : Int))) = some (.bl (!decide (ga < gb))) := e4
              by_cases q : ga < gb
              · simp -implicitDefEqProofs [-Int.natCast_add, e5, e1, e2, e4', q]
              · simp -implicitDefEqProofs [-Int.natCast_add, e5, e1, e2, e4', q])]
            have hdn := descR_ne R
            have hdl : (descR R).length ≤ sizeLine := Nat.le_trans (descR_len R) (by rw [szl]; omega)
            generalize descR R = LD at *
            cases q3 : ascR R with
            | true => rw [q3] at hdn; simp -implicitDefEqProofs [-Int.natCast_add, hdl, hdn, stepP, hnext q3]
            | false => rw [q3] at hdn; simp -implicitDefEqProofs [-Int.natCast_add, hdl, hdn, stepP, hstop q3]
          · have q2' : rs.all (isNums s.pieces.length) = false := by simpa using q2
            rw [q2'] at hc
            have hR : rowsOk s.pieces.length (.tup rs) = false := by
              show (rs.all (isNums s.pieces.length) && _) = _
              rw [q2']
              rfl
            simp -implicitDefEqProofs [-Int.natCast_add, hLz, hc, stepP, hstop hR]
        | _ => cases n <;> cases px
      · subst e1
        rcases ho with ⟨q2, rfl⟩ | ⟨q2, ρ', rfl, h⟩
        · have : RightT s lens tg (.tup ls) = false := by
            show (decide (ls.length = lens.length + 1) && (okLs s.pieces.length ls && _)) = false
            rw [q2, Bool.false_and, Bool.and_false]
          rw [this]
          simp -implicitDefEqProofs [-Int.natCast_add]
        · have hR : RightT s lens tg (.tup ls) = (endsOk s.pieces.length tg (ls.map rowsOf) lens.length && okT s lens tg (ls.map rowsOf) lens.length) := by
            show (decide (ls.length = lens.length + 1) && (okLs s.pieces.length ls && _)) = _
            rw [q2, decide_eq_true q1]
            rfl
          rw [hR]
          clear hR
          repeat (first | (replace h := St.some h; obtain ⟨_, rfl, h⟩ := h) | (replace h := St.none h; obtain ⟨_, _, rfl, h⟩ := h))
          cases St.nil h
          obtain ⟨els, hlr⟩ := all_layers q2
          have hLl : (ls.map rowsOf).length = lens.length + 1 := by rw [List.length_map]; exact q1
          generalize ls.map rowsOf = Ls at *
          subst els
          have hz0 := zero_row (n := s.pieces.length) hm1 (by omega)
          have hl0 : dIx (.tup (Ls.map layD)) (.int 0) = some (layD (Ls.getD 0 [])) := lay_at (Ls := Ls) (k := 0) (by omega)
          have hl1 := ix_last (xs := Ls.map layD) (n := lens.length) (d := layD (Ls.getD lens.length [])) (by rw [List.length_map]; exact hLl) (by rw [List.getElem?_map, List.getD_eq_getElem?_getD, List.getElem?_eq_getElem (by omega)]; rfl)
          have hin0 := row_in true (List.replicate s.pieces.length 0) (Ls.getD 0 [])
          have hin1 := row_in false tg (Ls.getD lens.length [])
          rw [if_pos rfl] at hin0
          rw [if_neg (by decide)] at hin1
          have hE : endsOk s.pieces.length tg Ls lens.length = (decide (List.replicate s.pieces.length 0 ∈ Ls.getD 0 []) && !decide (tg ∈ Ls.getD lens.length [])) := rfl
          rw [hE]
          clear hE
          generalize Ls.getD 0 [] = L0 at *
          generalize Ls.getD lens.length [] = Ln at *
          by_cases z0 : List.replicate s.pieces.length 0 ∈ L0
          · by_cases z1 : tg ∈ Ln
            · rw [decide_eq_true z0] at hin0 ⊢
              rw [decide_eq_true z1] at hin1 ⊢
              simp -implicitDefEqProofs [-Int.natCast_add, h1, hz0, hl0, hl1, hin0, hin1]
            · rw [decide_eq_true z0] at hin0 ⊢
              rw [decide_eq_false z1] at hin1 ⊢
              simp -implicitDefEqProofs [-Int.natCast_add, h1, hz0, hl0, hl1, hin0, hin1]
              rw [rg1 (by omega)]
              simp -implicitDefEqProofs [-Int.natCast_add]
              clear hl0 hin0 hl1 hin1 z0 z1 L0 Ln
              refine then_post (P := fun o S2 => S2 = S' ∧ ((okT s lens tg Ls lens.length = false ∧ o = .rt (.bl false)) ∨ (okT s lens tg Ls lens.length = true ∧ ∃ ρ', o = .nx ρ'))) (forL_range (fun j ρ S2 => S2 = S' ∧ okT s lens tg Ls j = true ∧ St [some (s.t), some (natT lens), some (natT tg), some (v), some (.int (s.pieces.length : Int)), none, none, none, none, none, none, none] ρ) lens.length ⟨rfl, rfl, by simp⟩ (fun j hjl ρ S2 ⟨e1, e2, h⟩ => ?_) fun ρ S2 ⟨e1, e2, h⟩ => ⟨e1, .inr ⟨e2, ρ, rfl⟩⟩) fun o S2 ⟨e1, ho⟩ => ?_
              · repeat (first | (replace h := St.some h; obtain ⟨_, rfl, h⟩ := h) | (replace h := St.none h; obtain ⟨_, _, rfl, h⟩ := h))
                cases St.nil h
                subst e1
                have hj : lens[j]? = some lens[j] := List.getElem?_eq_getElem hjl
                have hx : dIx (natT lens) (.int (j : Int)) = some (.int (lens[j] : Int)) := d_ixt (by rw [List.getElem?_map, hj]; rfl)
                generalize lens[j] = len at *
                have hlen : lens.getD j 0 = len := by rw [List.getD_eq_getElem?_getD, hj]; rfl
                have hl15 := hle len (List.mem_of_getElem? hj)
                have hkk := hs.kf
                have hrw := lpat_ok s hs.pc (len := len) (by omega) (hs.rw (by omega)) S2
                have hlj := lay_at (Ls := Ls) (k := j) (by omega)
                simp -implicitDefEqProofs [-Int.natCast_add, hx, hrw, h1, hlj]
                have hrl : ∀ r ∈ Ls.getD j [], r.length = s.pieces.length := fun r hr => by
                  refine hlr (Ls.getD j []) ?_ r hr
                  rw [List.getD_eq_getElem?_getD, List.getElem?_eq_getElem (show j < Ls.length by omega)]
                  exact List.getElem_mem _
                refine Res.post_mono (forL_map (enc := natT) (P := fun i ρ S3 => S3 = S2 ∧ okR s lens tg Ls j i = true ∧ St [some (s.t), some (natT lens), some (natT tg), some (v), some (.int (s.pieces.length : Int)), none, some (.int (j : Int)), some (.lst ((rowsW s.ws (len + s.kerf)).map natT)), none, none, none, none] ρ) (Q := fun o S3 => S3 = S2 ∧ ((stepK s lens tg Ls j = false ∧ o = .rt (.bl false)) ∨ (stepK s lens tg Ls j = true ∧ ∃ ρ', o = .nx ρ' ∧ St [some (s.t), some (natT lens), some (natT tg), some (v), some (.int (s.pieces.length : Int)), none, none, none, none, none, none, none] ρ'))) (Ls.getD j []) ⟨rfl, rfl, by simp⟩ (fun i row hi ρ S3 ⟨e1, e3, h⟩ => ?_) fun ρ S3 ⟨e1, e3, h⟩ => ⟨e1, .inr ⟨okR_all e3, ρ, rfl, ?_⟩⟩) fun o S3 ⟨e1, ho⟩ => ?_
                · repeat (first | (replace h := St.some h; obtain ⟨_, rfl, h⟩ := h) | (replace h := St.none h; obtain ⟨_, _, rfl, h⟩ := h))
                  cases St.nil h
                  subst e1
                  have hrow := hrl row (List.mem_of_getElem? hi)
                  have hRl : (rowsW s.ws (len + s.kerf)).length ≤ 3000 := by
                    unfold rowsW
                    rw [List.length_map, rows_len _ _ hs.pos]
                    exact hs.rw (by omega)
                  have hRm : ∀ r ∈ rowsW s.ws (len + s.kerf), r.length = s.pieces.length := fun r hr => by
                    rw [((rowsW_mem hs.pos).mp hr).1, ws_len]
                  have hstop := okR_stop (s := s) (lens := lens) (tg := tg) (k := j) hi
                  have hnext := okR_next hi e3
                  rw [hlen] at hstop hnext
                  have hl2 := lay_at (Ls := Ls) (k := j + 1) (by omega)
                  have ej : (j : Int) + 1 = ((j + 1 : Nat) : Int) := by omega
                  generalize Ls.getD (j + 1) [] = nxt at *
                  generalize rowsW s.ws (len + s.kerf) = RW at *
                  have hzR : RW.length ≤ sizeLine := by rw [szl]; omega
                  simp -implicitDefEqProofs [-Int.natCast_add]
                  rw [compL_map (enc := natT) (g := fun more => natT (addV row more)) RW (fun more hm => by
                    have hadd := added_list (m := s.pieces.length) (L := [row, more]) (by simp) (fun r hr => by
                      simp only [List.mem_cons, List.not_mem_nil, or_false] at hr
                      rcases hr with rfl | rfl
                      · exact hrow
                      · exact hRm _ hm) (by omega) S3
                    rw [colSum_two hrow (hRm more hm)] at hadd
                    have hadd' : m__law_added [.lst [natT row, natT more], .int (s.pieces.length : Int)] S3 = .ok (natT (addV row more)) S3 := hadd
                    simp -implicitDefEqProofs [-Int.natCast_add, hadd'])]
                  have hz1 : (RW.map fun more => natT (addV row more)).length ≤ sizeLine := by rw [List.length_map]; exact hzR
                  have em : (RW.map fun more => natT (addV row more)) = (RW.map (addV row)).map natT := by rw [List.map_map]; rfl
                  rw [em] at hz1 ⊢
                  have hlaterl : ∀ one ∈ RW.map (addV row), one.length = s.pieces.length := fun one ho => by
                    obtain ⟨more, hm, rfl⟩ := List.mem_map.mp ho
                    rw [addV_len (by rw [hrow, hRm more hm]), hrow]
                  have hbad : badR tg nxt RW row = (RW.map (addV row)).any fun one => belowV one tg && !decide (one ∈ nxt) := by
                    unfold badR
                    rw [List.any_map]
                    rfl
                  rw [hbad] at hstop hnext
                  have hLl' : (RW.map (addV row)).length ≤ 3000 := by rw [List.length_map]; exact hRl
                  generalize RW.map (addV row) = later at *
                  generalize hlt : later.map natT = laterD at *
                  simp -implicitDefEqProofs [-Int.natCast_add, hz1]
                  subst hlt
                  rw [compL_filter (enc := natT) (g := natT) (p := fun one => belowV one tg && !decide (one ∈ nxt)) later (fun one ho => by
                    have hol := hlaterl one ho
                    have hb := lbelow_ok (a := one) (b := tg) (by omega) (by omega) S3
                    have hin := row_in true one nxt
                    rw [if_pos rfl] at hin
                    cases q : belowV one tg with
                    | true =>
                      rw [q] at hb
                      cases q2 : decide (one ∈ nxt) with
                      | true => rw [q2] at hin; simp -implicitDefEqProofs [-Int.natCast_add, hb, h1, ej, hl2, hin]
                      | false => rw [q2] at hin; simp -implicitDefEqProofs [-Int.natCast_add, hb, h1, ej, hl2, hin]
                    | false => rw [q] at hb; simp -implicitDefEqProofs [-Int.natCast_add, hb])]
                  have hc := cmp_nilL (n := 1) (ds := (later.filter fun one => belowV one tg && !decide (one ∈ nxt)).map natT) (by omega) (pls_of fun d hd => by
                    obtain ⟨one, ho, rfl⟩ := List.mem_map.mp hd
                    have := hlaterl one (List.mem_filter.mp ho).1
                    exact pl_nats 0 one (by omega)) true
                  rw [List.isEmpty_map, filter_emp, if_pos rfl] at hc
                  have hno : (later.all fun one => !(belowV one tg && !decide (one ∈ nxt))) = !(later.any fun one => belowV one tg && !decide (one ∈ nxt)) := any_not _ _
                  rw [hno, Bool.not_not] at hc
                  have hz2 : ((later.filter fun one => belowV one tg && !decide (one ∈ nxt)).map natT).length ≤ sizeLine := by
                    have := List.length_filter_le (fun one => belowV one tg && !decide (one ∈ nxt)) later
                    rw [List.length_map, szl]; omega
                  generalize (later.filter fun one => belowV one tg && !decide (one ∈ nxt)).map natT = Q2 at *
                  cases q : later.any fun one => belowV one tg && !decide (one ∈ nxt) with
                  | true => rw [q] at hc; simp -implicitDefEqProofs [-Int.natCast_add, hz2, hc, stepP, hstop q]
                  | false => rw [q] at hc; simp -implicitDefEqProofs [-Int.natCast_add, hz2, hc, stepP, hnext q]
                · repeat (first | (replace h := St.some h; obtain ⟨_, rfl, h⟩ := h) | (replace h := St.none h; obtain ⟨_, _, rfl, h⟩ := h))
                  cases St.nil h
                  simp
                · subst e1
                  rcases ho with ⟨q5, rfl⟩ | ⟨q5, ρ', rfl, h⟩
                  · exact ⟨rfl, .inl ⟨okT_stop hjl q5, rfl⟩⟩
                  · exact ⟨rfl, okT_next e2 q5, h⟩
              · subst e1
                rcases ho with ⟨q5, rfl⟩ | ⟨q5, ρ', rfl⟩
                · rw [q5]
                  simp -implicitDefEqProofs [-Int.natCast_add]
                · rw [q5]
                  simp -implicitDefEqProofs [-Int.natCast_add]
          · rw [decide_eq_false z0] at hin0 ⊢
            simp -implicitDefEqProofs [-Int.natCast_add, h1, hz0, hl0, hin0]
    · have q1' : ¬ (ls.length : Int) = (lens.length : Int) + 1 := by omega
      have : RightT s lens tg (.tup ls) = false := by
        show (decide (ls.length = lens.length + 1) && _) = false
        rw [decide_eq_false q1]
        rfl
      rw [this]
      simp -implicitDefEqProofs [-Int.natCast_add, ht1, h1, h3, q1']
  | non => simp -implicitDefEqProofs [-Int.natCast_add, ht1, h1, h3, isTyS, RightT]
  | bl b => simp -implicitDefEqProofs [-Int.natCast_add, ht1, h1, h3, isTyS, RightT]
  | int i => simp -implicitDefEqProofs [-Int.natCast_add, ht1, h1, h3, isTyS, RightT]
  | str z => simp -implicitDefEqProofs [-Int.natCast_add, ht1, h1, h3, isTyS, RightT]
  | _ => cases n <;> cases ha

/-! ### dicts of rows -/
abbrev keyR (r : List Nat) : List Key := r.map fun (n : Nat) => (Sum.inl (n : Int) : Key)
theorem keyR_inj {a b : List Nat} (h : keyR a = keyR b) : a = b := by
  have := congrArg (List.map fun k : Key => match k with
    | .inl i => i.toNat
    | .inr _ => 0) h
  rw [List.map_map, List.map_map] at this
  have e : ((fun k : Key => match k with
    | .inl i => i.toNat
    | .inr _ => 0) ∘ fun (n : Nat) => (Sum.inl (n : Int) : Key)) = id := by
    funext n
    show ((n : Int)).toNat = n
    simp
  rw [e, List.map_id, List.map_id] at this
  exact this
theorem keys_natT (r : List Nat) : keysD (natT r) = some (keyR r) := by
  show keysL (r.map fun (n : Nat) => D.int (n : Int)) = _
  induction r with
  | nil => rfl
  | cons a r ih =>
    show (match keyD (.int (a : Int)), keysL (r.map fun (n : Nat) => D.int (n : Int)) with
      | some k, some ks => some (k :: ks)
      | _, _ => none) = _
    rw [ih]
    rfl
theorem keyT_R (r : List Nat) : keyT (keyR r) = natT r := by
  show D.tup ((r.map fun (n : Nat) => (Sum.inl (n : Int) : Key)).map kD) = _
  rw [List.map_map]
  rfl
abbrev Ent := List Nat × D
def kdsOf (L : List Ent) : List (List Key × D) := L.map fun q => (keyR q.1, q.2)
def putE (L : List Ent) (r : List Nat) (d : D) : List Ent := if r ∈ L.map (·.1) then L.map (fun q => if q.1 = r then (q.1, d) else q) else L ++ [(r, d)]
theorem any_keys (L : List Ent) (r : List Nat) : ((kdsOf L).any fun kv => decide (kv.1 = keyR r)) = decide (r ∈ L.map (·.1)) := by
  unfold kdsOf
  rw [List.any_map, Bool.eq_iff_iff, List.any_eq_true, decide_eq_true_eq, List.mem_map]
  constructor
  · rintro ⟨q, hq, h⟩
    exact ⟨q, hq, keyR_inj (of_decide_eq_true h)⟩
  · rintro ⟨q, hq, rfl⟩
    exact ⟨q, hq, decide_eq_true rfl⟩
theorem put_kds (L : List Ent) (r : List Nat) (d : D) : putKD (kdsOf L) (keyR r) d = kdsOf (putE L r d) := by
  unfold putKD putE
  rw [any_keys]
  by_cases h : r ∈ L.map (·.1)
  · rw [if_pos (decide_eq_true h), if_pos h]
    unfold kdsOf
    rw [List.map_map, List.map_map]
    refine List.map_congr_left fun q _ => ?_
    show (if keyR q.1 = keyR r then (keyR q.1, d) else (keyR q.1, q.2)) = _
    by_cases e : q.1 = r
    · have e2 : keyR q.1 = keyR r := by rw [e]
      rw [if_pos e2]
      show (keyR q.1, d) = ((fun q : Ent => (keyR q.1, q.2)) (if q.1 = r then (q.1, d) else q))
      rw [if_pos e]
    · rw [if_neg (fun z => e (keyR_inj z))]
      show _ = (keyR (if q.1 = r then (q.1, d) else q).1, (if q.1 = r then (q.1, d) else q).2)
      rw [if_neg e]
  · rw [if_neg (by simpa using h), if_neg h]
    unfold kdsOf
    rw [List.map_append]
    rfl
theorem val_kds (L : List Ent) (r : List Nat) : valK (kdsOf L) (keyR r) = (L.find? fun q => decide (q.1 = r)).map (·.2) := by
  unfold valK kdsOf
  rw [List.find?_map, Option.map_map]
  congr 1
  congr 1
  funext q
  show decide (keyR q.1 = keyR r) = decide (q.1 = r)
  exact decide_eq_decide.mpr ⟨keyR_inj, fun h => by rw [h]⟩
/-- every key once, every entry as it should be -/
structure EntOk (P : List Nat → D → Prop) (L : List Ent) : Prop where
  nd : (L.map (·.1)).Nodup
  all : ∀ q ∈ L, P q.1 q.2
theorem EntOk.nil {P : List Nat → D → Prop} : EntOk P [] := ⟨List.nodup_nil, fun q hq => (nomatch hq)⟩
theorem putE_keys (L : List Ent) (r : List Nat) (d : D) : (putE L r d).map (·.1) = if r ∈ L.map (·.1) then L.map (·.1) else L.map (·.1) ++ [r] := by
  unfold putE
  split
  · rw [List.map_map]
    refine List.map_congr_left fun q _ => ?_
    show (if q.1 = r then (q.1, d) else q).1 = q.1
    split <;> rfl
  · rw [List.map_append]
    rfl
theorem EntOk.put {P : List Nat → D → Prop} {L : List Ent} (h : EntOk P L) {r : List Nat} {d : D} (hp : P r d) : EntOk P (putE L r d) where
  nd := by
    rw [putE_keys]
    split
    · exact h.nd
    · rename_i hr
      rw [List.nodup_append]
      refine ⟨h.nd, by simp, fun a ha b hb => ?_⟩
      rw [List.mem_singleton] at hb
      subst hb
      exact fun z => hr (z ▸ ha)
  all := fun q hq => by
    unfold putE at hq
    split at hq
    · obtain ⟨q', hq', rfl⟩ := List.mem_map.mp hq
      split
      · rename_i e
        show P q'.1 d
        rw [e]
        exact hp
      · exact h.all q' hq'
    · rcases List.mem_append.mp hq with hq | hq
      · exact h.all q hq
      · rw [List.mem_singleton] at hq
        subst hq
        exact hp
theorem kdsOf_len (L : List Ent) : (kdsOf L).length = L.length := List.length_map ..
theorem EntOk.len {P : List Nat → D → Prop} {L : List Ent} (h : EntOk P L) {s : ShopT} (hs : Sh s) {B : Nat} (hP : ∀ r d, P r d → r.length = s.pieces.length ∧ sizeW s.ws r ≤ B) : L.length ≤ Rw s.ws B := by
  have : (rowsW s.ws B).length = Rw s.ws B := by unfold rowsW; rw [List.length_map, rows_len _ _ hs.pos]
  rw [← this, ← List.length_map (f := fun q : Ent => q.1)]
  refine sub_len h.nd fun r hr => ?_
  obtain ⟨q, hq, rfl⟩ := List.mem_map.mp hr
  obtain ⟨h1, h2⟩ := hP _ _ (h.all q hq)
  exact (rowsW_mem hs.pos).mpr ⟨by rw [ws_len]; exact h1, h2⟩
/-- the store's last object -/
theorem get_last {S : Sto} {m : MO} : (S ++ [m])[S.length]? = some m := by
  rw [List.getElem?_append_right (Nat.le_refl _), Nat.sub_self]
  rfl
theorem put_last {S : Sto} {L : List Ent} {r : List Nat} {d : D} (h : L.length < 1000000) : putO (S ++ [.t false (kdsOf L)]) (.mref S.length) (natT r) d = some (S ++ [.t false (kdsOf (putE L r d))]) := by
  show (((S ++ [MO.t false (kdsOf L)])[S.length]?.bind fun m => putM m (natT r) d).map ((S ++ [MO.t false (kdsOf L)]).set S.length)) = _
  rw [get_last]
  show (((keysD (natT r)).bind fun key => if (kdsOf L).length < sizeLine then some (MO.t false (putKD (kdsOf L) key d)) else none).map ((S ++ [MO.t false (kdsOf L)]).set S.length)) = _
  rw [keys_natT]
  show ((if (kdsOf L).length < sizeLine then some (MO.t false (putKD (kdsOf L) (keyR r) d)) else none).map ((S ++ [MO.t false (kdsOf L)]).set S.length)) = _
  rw [if_pos (by rw [kdsOf_len, szl]; omega), put_kds]
  show some ((S ++ [MO.t false (kdsOf L)]).set S.length (MO.t false (kdsOf (putE L r d)))) = _
  rw [List.set_append_right _ _ (Nat.le_refl _), Nat.sub_self]
  rfl
theorem sorted_last {S : Sto} {L : List Ent} : sortedS (S ++ [.t false (kdsOf L)]) (.mref S.length) = dSorted [.lst ((L.map (·.1)).map natT)] := by
  show ((S ++ [MO.t false (kdsOf L)])[S.length]?.bind fun m => match m with
    | .t _ kds => dSorted [.lst (kds.map fun kd => keyT kd.1)]
    | _ => none) = _
  rw [get_last]
  show dSorted [.lst ((kdsOf L).map fun kd => keyT kd.1)] = _
  congr 3
  unfold kdsOf
  rw [List.map_map, List.map_map]
  refine List.map_congr_left fun q _ => ?_
  exact keyT_R q.1

/-! ### the sums that come out -/
def OutP (s : ShopT) (B : Nat) (r : List Nat) (_ : D) : Prop := r.length = s.pieces.length ∧ sizeW s.ws r ≤ B
theorem sizeW_add : ∀ (ws a b : List Nat), a.length = ws.length → b.length = ws.length → sizeW ws (addV a b) = sizeW ws a + sizeW ws b
  | [], [], [], _, _ => rfl
  | w :: ws, x :: a, y :: b, h1, h2 => by
    have ih := sizeW_add ws a b (by simpa using h1) (by simpa using h2)
    show (x + y) * w + sizeW ws (addV a b) = (x * w + sizeW ws a) + (y * w + sizeW ws b)
    rw [ih, Nat.add_mul]
    omega
theorem Rw68 : Rw (List.replicate 3 1) 68 ≤ 60000 := by
  rw [← Rf_eq 200 _ _ (by decide)]
  decide +kernel
theorem Sh.rw68 {s : ShopT} (h : Sh s) {t : Nat} (ht : t ≤ 68) : Rw s.ws t ≤ 60000 :=
  Nat.le_trans (Rw_narrow (v := 1) (by decide) s.ws 3 t 68 (fun w hw => h.pos w hw) (by rw [ws_len]; exact h.p3) ht) Rw68
theorem zero_in (s : ShopT) (hs : Sh s) (t : Nat) : List.replicate s.pieces.length 0 ∈ rowsW s.ws t := by
  rw [rowsW_mem hs.pos]
  refine ⟨by rw [List.length_replicate, ws_len], ?_⟩
  rw [sizeW_zero]
  exact Nat.zero_le _
/-- what is found so far -/
structure FoundOk (s : ShopT) (B : Nat) (F : List (List Nat)) : Prop where
  ne : F ≠ []
  ln : F.length ≤ 60000
  all : ∀ r ∈ F, r.length = s.pieces.length ∧ sizeW s.ws r ≤ B
/-- the store behind S, with one dict more -/
def Beh (s : ShopT) (B i : Nat) (S S' : Sto) : Prop := ∃ L : List Ent, S' = S ++ [.t false (kdsOf L)] ∧ EntOk (OutP s B) L ∧ (i = 0 ∨ L ≠ [])
theorem putE_ne (L : List Ent) (r : List Nat) (d : D) : putE L r d ≠ [] := by
  unfold putE
  split
  · rename_i h
    intro e
    rw [List.map_eq_nil_iff] at e
    subst e
    cases h
  · simp
theorem law_out_ok {s : ShopT} (hs : Sh s) {lens : List Nat} (hll : lens.length ≤ 4) (hle : ∀ l ∈ lens, l ≤ 15) : (m__law_out [s.t, natT lens] []).post fun d _ => ∃ F : List (List Nat), d = .lst (F.map natT) ∧ FoundOk s 68 F := by
  have hp3 := hs.p3
  have hm1 := hs.pc.len.1
  have hz0 := zero_row (n := s.pieces.length) hm1 (by omega)
  have ht1 : dIx s.t (.int 1) = some (.tup (s.pieces.map pieceD)) := d_ix1 _ _ _
  unfold m__law_out b__law_out
  simp -implicitDefEqProofs [-Int.natCast_add, ht1, hz0]
  refine then_post (P := fun o S' => ∃ ρ' F, o = .nx ρ' ∧ FoundOk s 68 F ∧ St [none, none, some (.lst (F.map natT)), none, none, none, none, none] ρ') (forL_map (enc := fun (n : Nat) => D.int (n : Int)) (P := fun j ρ S' => ∃ F, FoundOk s (j * 17) F ∧ St [some (s.t), none, some (.lst (F.map natT)), none, none, none, none, none] ρ) lens ⟨[List.replicate s.pieces.length 0], ⟨by simp, by simp, fun r hr => by
    rw [List.mem_singleton] at hr
    subst hr
    exact ⟨List.length_replicate, by rw [sizeW_zero]; exact Nat.zero_le _⟩⟩, by simp⟩ (fun j len hj ρ S ⟨F, hF, h⟩ => ?_) fun ρ S ⟨F, hF, h⟩ => ⟨ρ, F, rfl, ⟨hF.ne, hF.ln, fun r hr => ⟨(hF.all r hr).1, by have := (hF.all r hr).2; omega⟩⟩, ?_⟩) fun o S' ⟨ρ, F, e, hF, h⟩ => ?_
  · repeat (first | (replace h := St.some h; obtain ⟨_, rfl, h⟩ := h) | (replace h := St.none h; obtain ⟨_, _, rfl, h⟩ := h))
    cases St.nil h
    have hjl := (List.getElem?_eq_some_iff.mp hj).1
    have hl15 := hle len (List.mem_of_getElem? hj)
    have hkk := hs.kf
    have hpat := lpat_ok s hs.pc (len := len) (by omega) (hs.rw (by omega)) S
    have hRm : ∀ r ∈ rowsW s.ws (len + s.kerf), r.length = s.pieces.length ∧ sizeW s.ws r ≤ 17 := fun r hr => by
      have := (rowsW_mem hs.pos).mp hr
      rw [ws_len] at this
      exact ⟨this.1, by omega⟩
    have hRne : 0 < (rowsW s.ws (len + s.kerf)).length := List.length_pos_of_mem (zero_in s hs _)
    generalize rowsW s.ws (len + s.kerf) = RW at *
    simp -implicitDefEqProofs [-Int.natCast_add, hpat]
    have hB : (j + 1) * 17 ≤ 68 := by omega
    refine then_post (P := fun o S' => Beh s ((j + 1) * 17) 1 S S' ∧ ∃ ρ', o = .nx ρ' ∧ St [some (s.t), none, none, none, none, some (.mref S.length), none, none] ρ') (forL_map (enc := natT) (P := fun i ρ S' => Beh s ((j + 1) * 17) i S S' ∧ St [some (s.t), none, none, none, some (.lst (RW.map natT)), some (.mref S.length), none, none] ρ) F ⟨⟨[], rfl, .nil, .inl rfl⟩, by simp⟩ (fun i row hi ρ S1 ⟨hb, h⟩ => ?_) fun ρ S1 ⟨⟨L, e1, e2, e3⟩, h⟩ => ⟨⟨L, e1, e2, ?_⟩, ρ, rfl, ?_⟩) fun o S1 ⟨hb, ρ, e, h⟩ => ?_
    · repeat (first | (replace h := St.some h; obtain ⟨_, rfl, h⟩ := h) | (replace h := St.none h; obtain ⟨_, _, rfl, h⟩ := h))
      cases St.nil h
      obtain ⟨hrl, hrs⟩ := hF.all row (List.mem_of_getElem? hi)
      simp -implicitDefEqProofs [-Int.natCast_add]
      refine Res.post_mono (forL_map (enc := natT) (P := fun k ρ S' => Beh s ((j + 1) * 17) (i + k) S S' ∧ St [some (s.t), none, none, none, some (.lst (RW.map natT)), some (.mref S.length), some (natT row), none] ρ) (Q := fun o S' => Beh s ((j + 1) * 17) (i + 1) S S' ∧ ∃ ρ', o = .nx ρ' ∧ St [some (s.t), none, none, none, some (.lst (RW.map natT)), some (.mref S.length), none, none] ρ') RW ⟨hb, by simp⟩ (fun k more hk ρ S2 ⟨hb, h⟩ => ?_) fun ρ S2 ⟨⟨L, e1, e2, e3⟩, h⟩ => ⟨⟨L, e1, e2, ?_⟩, ρ, rfl, ?_⟩) fun o S2 ⟨hb, ρ', e, h⟩ => ?_
      · repeat (first | (replace h := St.some h; obtain ⟨_, rfl, h⟩ := h) | (replace h := St.none h; obtain ⟨_, _, rfl, h⟩ := h))
        cases St.nil h
        obtain ⟨L, e1, e2, e3⟩ := hb
        subst e1
        obtain ⟨hml, hms⟩ := hRm more (List.mem_of_getElem? hk)
        have hadd := added_list (m := s.pieces.length) (L := [row, more]) (by simp) (fun r hr => by
          simp only [List.mem_cons, List.not_mem_nil, or_false] at hr
          rcases hr with rfl | rfl
          · exact hrl
          · exact hml) (by omega) (S ++ [.t false (kdsOf L)])
        rw [colSum_two hrl hml] at hadd
        have hadd' : m__law_added [.lst [natT row, natT more], .int (s.pieces.length : Int)] (S ++ [.t false (kdsOf L)]) = .ok (natT (addV row more)) (S ++ [.t false (kdsOf L)]) := hadd
        have hLl : L.length ≤ 60000 := Nat.le_trans (e2.len hs (B := (j + 1) * 17) fun r d h => h) (hs.rw68 hB)
        have hput := put_last (S := S) (L := L) (r := addV row more) (d := .bl true) (by omega)
        have hp : OutP s ((j + 1) * 17) (addV row more) (.bl true) := ⟨by rw [addV_len (by omega), hrl], by rw [sizeW_add _ _ _ (by rw [hrl, ws_len]) (by rw [hml, ws_len])]; omega⟩
        have hbeh : Beh s ((j + 1) * 17) (i + (k + 1)) S (S ++ [.t false (kdsOf (putE L (addV row more) (.bl true)))]) := ⟨_, rfl, e2.put hp, .inr (putE_ne _ _ _)⟩
        have hrl' : (row.length : Int) = (s.pieces.length : Int) := by omega
        generalize S ++ [MO.t false (kdsOf (putE L (addV row more) (.bl true)))] = S3 at *
        generalize S ++ [MO.t false (kdsOf L)] = S2 at *
        generalize S.length = J at *
        unfold fBody
        simp -implicitDefEqProofs [-Int.natCast_add, hrl', hadd', putD', hput, putR, stepP]
        exact hbeh
      · rcases e3 with e3 | e3
        · omega
        · exact .inr e3
      · repeat (first | (replace h := St.some h; obtain ⟨_, rfl, h⟩ := h) | (replace h := St.none h; obtain ⟨_, _, rfl, h⟩ := h))
        cases St.nil h
        simp
      · subst e
        exact ⟨hb, h⟩
    · rcases e3 with e3 | e3
      · exact absurd (List.length_eq_zero_iff.mp e3) hF.ne
      · exact .inr e3
    · repeat (first | (replace h := St.some h; obtain ⟨_, rfl, h⟩ := h) | (replace h := St.none h; obtain ⟨_, _, rfl, h⟩ := h))
      cases St.nil h
      simp
    · subst e
      repeat (first | (replace h := St.some h; obtain ⟨_, rfl, h⟩ := h) | (replace h := St.none h; obtain ⟨_, _, rfl, h⟩ := h))
      cases St.nil h
      obtain ⟨L, e1, e2, e3⟩ := hb
      subst e1
      have hLlen : L.length ≤ 60000 := Nat.le_trans (e2.len hs (B := (j + 1) * 17) fun r d h => h) (hs.rw68 hB)
      have hLne : L ≠ [] := by
        rcases e3 with e3 | e3
        · cases e3
        · exact e3
      have hk : ∀ r ∈ L.map (·.1), r.length = s.pieces.length ∧ sizeW s.ws r ≤ (j + 1) * 17 := fun r hr => by
        obtain ⟨q, hq, rfl⟩ := List.mem_map.mp hr
        exact e2.all q hq
      have hso := sorted_rows (rs := L.map (·.1)) fun r hr => by
        intro z
        have := (hk r hr).1
        rw [z] at this
        simp at this
        omega
      have hsl := sorted_last (S := S) (L := L)
      rw [hso] at hsl
      generalize S ++ [MO.t false (kdsOf L)] = S3 at *
      generalize S.length = J at *
      simp -implicitDefEqProofs [-Int.natCast_add, hsl, stepP]
      have hLl : L.length ≤ 60000 := hLlen
      refine ⟨(L.map (·.1)).mergeSort leW, ⟨?_, by rw [List.length_mergeSort, List.length_map]; exact hLl, fun r hr => ?_⟩, ?_⟩
      · intro z
        have := congrArg List.length z
        rw [List.length_mergeSort, List.length_map, List.length_nil] at this
        exact hLne (List.length_eq_zero_iff.mp this)
      · rw [List.mem_mergeSort] at hr
        exact hk r hr
      · simp
  · repeat (first | (replace h := St.some h; obtain ⟨_, rfl, h⟩ := h) | (replace h := St.none h; obtain ⟨_, _, rfl, h⟩ := h))
    cases St.nil h
    simp
  · subst e
    repeat (first | (replace h := St.some h; obtain ⟨_, rfl, h⟩ := h) | (replace h := St.none h; obtain ⟨_, _, rfl, h⟩ := h))
    cases St.nil h
    simp -implicitDefEqProofs [-Int.natCast_add]
    exact ⟨F, rfl, hF⟩

/-! ### the rows that fit and are not too many -/
theorem sizeW_snoc : ∀ (vs r : List Nat) (w n : Nat), r.length = vs.length → sizeW (vs ++ [w]) (r ++ [n]) = sizeW vs r + n * w
  | [], [], w, n, _ => by
    show n * w + 0 = 0 + n * w
    omega
  | v :: vs, k :: r, w, n, h => by
    have := sizeW_snoc vs r w n (by simpa using h)
    show k * v + sizeW (vs ++ [w]) (r ++ [n]) = k * v + sizeW vs r + n * w
    omega
structure RowQ (s : ShopT) (w : List Nat) (room j : Nat) (q : List Nat × Nat) : Prop where
  ln : q.1.length = j
  le : ∀ i, i < j → q.1.getD i 0 ≤ w.getD i 0
  sz : sizeW (s.ws.take j) q.1 + q.2 = room
structure RowsQ (s : ShopT) (w : List Nat) (room j b : Nat) (L : List (List Nat × Nat)) : Prop where
  ln : L.length ≤ b
  all : ∀ q ∈ L, RowQ s w room j q
theorem RowQ.next {s : ShopT} {w : List Nat} {room j k wd : Nat} {r : List Nat} {l : Nat} (h : RowQ s w room j (r, l)) (hw : s.ws[j]? = some wd) (h1 : k ≤ w.getD j 0) (h2 : k * wd ≤ l) : RowQ s w room (j + 1) (r ++ [k], l - k * wd) where
  ln := by show (r ++ [k]).length = _; rw [List.length_append, List.length_singleton]; exact congrArg (· + 1) h.ln
  le := fun i hi => by
    have hln : r.length = j := h.ln
    show (r ++ [k]).getD i 0 ≤ _
    rw [List.getD_eq_getElem?_getD]
    by_cases c : i < j
    · rw [List.getElem?_append_left (by omega), ← List.getD_eq_getElem?_getD]
      exact h.le i c
    · have e : i = j := by omega
      subst e
      rw [List.getElem?_append_right (by omega), hln, Nat.sub_self]
      exact h1
  sz := by
    have hln : r.length = j := h.ln
    have hj := (List.getElem?_eq_some_iff.mp hw).1
    have hs : sizeW (s.ws.take j) r + l = room := h.sz
    show sizeW (s.ws.take (j + 1)) (r ++ [k]) + (l - k * wd) = room
    rw [take_next hw, sizeW_snoc _ _ _ _ (by rw [List.length_take]; omega)]
    omega
theorem min_nat (a b : Nat) : dMin [.int (a : Int), .int (b : Int)] = some (.int ((min a b : Nat) : Int)) := by
  show some (D.int (if (b : Int) < (a : Int) then (b : Int) else (a : Int))) = _
  by_cases h : b < a
  · rw [if_pos (by omega), Nat.min_eq_right (by omega)]
  · rw [if_neg (by omega), Nat.min_eq_left (by omega)]
theorem rows_for_ok {s : ShopT} (hs : Sh s) {w : List Nat} (hwl : w.length = s.pieces.length) {len : Nat} (hl : len ≤ 15) (S : Sto) : (m_rows_for [s.o, natT w, .int (len : Int)] S).post fun d S' => S' = S ∧ ∃ F : List (List Nat), d = .lst (F.map natT) ∧ F.length ≤ 8000 ∧ ∀ r ∈ F, r.length = s.pieces.length ∧ (∀ i, i < s.pieces.length → r.getD i 0 ≤ w.getD i 0) ∧ sizeW s.ws r ≤ len + s.kerf := by
  have hp3 := hs.p3
  have hkk := hs.kf
  have hkf : attrD at_kerf "kerf" s.o S = .ok (.int (s.kerf : Int)) S := sh_kerf _ _ _ S
  have hlk : (len : Int) + (s.kerf : Int) = ((len + s.kerf : Nat) : Int) := by omega
  have hroom : len + s.kerf ≤ 17 := by omega
  unfold m_rows_for b_rows_for
  simp -implicitDefEqProofs [-Int.natCast_add, hkf, hlk]
  generalize len + s.kerf = room at *
  refine then_post (P := fun o S' => S' = S ∧ ∃ ρ' L, o = .nx ρ' ∧ RowsQ s w room s.pieces.length 8000 L ∧ St [none, none, none, some (.lst (L.map rowD)), none, none, none, none, none, none, none] ρ') (forL_enum (e := fun (n : Nat) => D.int (n : Int)) (fun j ρ S' => S' = S ∧ ∃ L, RowsQ s w room j (20 ^ j) L ∧ St [some (s.o), none, none, some (.lst (L.map rowD)), none, none, none, none, none, none, none] ρ) w ⟨rfl, [([], room)], ⟨by simp, fun q hq => by
    rw [List.mem_singleton] at hq
    subst hq
    exact ⟨rfl, fun i hi => by omega, by simp [sizeW]⟩⟩, by simp [rowD]⟩ (fun j most hj ρ S' ⟨e1, L, hL, h⟩ => ?_) fun ρ S' ⟨e1, L, hL, h⟩ => ⟨e1, ρ, L, rfl, ?_, ?_⟩) fun o S' ⟨e1, ρ, L, e, hL, h⟩ => ?_
  · repeat (first | (replace h := St.some h; obtain ⟨_, rfl, h⟩ := h) | (replace h := St.none h; obtain ⟨_, _, rfl, h⟩ := h))
    cases St.nil h
    subst e1
    have hjl := (List.getElem?_eq_some_iff.mp hj).1
    obtain ⟨wd, hw⟩ : ∃ wd, s.ws[j]? = some wd := ⟨_, List.getElem?_eq_getElem (by rw [ws_len]; omega)⟩
    have hwp := hs.pos _ (List.mem_of_getElem? hw)
    have hw6 := hs.w6 _ (List.mem_of_getElem? hw)
    have hwidth := width_ok s hw S'
    have hmost : w.getD j 0 = most := by rw [List.getD_eq_getElem?_getD, hj]; rfl
    have hpj : 20 ^ j ≤ 400 := by
      have : j ≤ 2 := by omega
      exact Nat.le_trans (Nat.pow_le_pow_right (by omega) this) (by decide)
    have hLn := hL.ln
    simp -implicitDefEqProofs [-Int.natCast_add, hwidth]
    refine then_post (P := fun o S2 => S2 = S' ∧ ∃ ρ' L2, o = .nx ρ' ∧ RowsQ s w room (j + 1) (20 ^ (j + 1)) L2 ∧ St [some (s.o), none, none, none, none, none, some (.lst (L2.map rowD)), none, none, none, none] ρ') (forL_map (enc := rowD) (P := fun i ρ S2 => S2 = S' ∧ ∃ L2, RowsQ s w room (j + 1) (i * 20) L2 ∧ St [some (s.o), none, none, none, none, some (.int (most : Int)), some (.lst (L2.map rowD)), some (.int (wd : Int)), none, none, none] ρ) L ⟨rfl, [], ⟨by simp, fun q hq => (nomatch hq)⟩, by simp⟩ (fun i q hi ρ S2 ⟨e1, L2, hL2, h⟩ => ?_) fun ρ S2 ⟨e1, L2, hL2, h⟩ => ⟨e1, ρ, L2, rfl, ⟨Nat.le_trans hL2.ln (by rw [Nat.pow_succ]; exact Nat.mul_le_mul_right _ hLn), hL2.all⟩, ?_⟩) fun o S2 ⟨e1, ρ, L2, e, hL2, h⟩ => ?_
    · repeat (first | (replace h := St.some h; obtain ⟨_, rfl, h⟩ := h) | (replace h := St.none h; obtain ⟨_, _, rfl, h⟩ := h))
      cases St.nil h
      subst e1
      have hq := hL.all q (List.mem_of_getElem? hi)
      obtain ⟨r, l⟩ := q
      have hrl : r.length = j := hq.ln
      have hl17 : l ≤ 17 := by have : sizeW (s.ws.take j) r + l = room := hq.sz; omega
      have hdiv : l / wd ≤ 17 := Nat.le_trans (Nat.div_le_self _ _) hl17
      have hmin : min most (l / wd) ≤ 17 := Nat.le_trans (Nat.min_le_right _ _) hdiv
      have hil := (List.getElem?_eq_some_iff.mp hi).1
      have hL2n := hL2.ln
      have hrz : r.length + 1 ≤ sizeLine := by rw [szl]; omega
      have hmn : dMin [.int (most : Int), .int ((l : Int) / (wd : Int))] = some (.int ((min most (l / wd) : Nat) : Int)) := by
        rw [← Int.natCast_ediv]
        exact min_nat most (l / wd)
      have hfd := fdiv_nat (l := l) hwp hw6
      have hone : ((min most (l / wd) : Nat) : Int) + 1 = ((min most (l / wd) + 1 : Nat) : Int) := by omega
      have hkle : ∀ k, k < min most (l / wd) + 1 → k ≤ most ∧ k * wd ≤ l := fun k hk => ⟨by omega, (Nat.le_div_iff_mul_le hwp).mp (by omega)⟩
      generalize min most (l / wd) = mm at *
      have hrgm := rg1 (j := mm + 1) (by omega)
      have hgt : rowD (r, l) = D.tup [natT r, .int (l : Int)] := rfl
      simp -implicitDefEqProofs [-Int.natCast_add, hgt, hfd, hmn, hone, hrgm]
      rw [compL_map (g := fun k => rowD (r ++ [k], l - k * wd)) _ (fun k hk => by
        obtain ⟨c1, c2⟩ := hkle k (List.mem_range.mp hk)
        have hmu := mul_nat (k := k) (w := wd) hw6
        have hsb : (l : Int) - (k : Int) * (wd : Int) = ((l - k * wd : Nat) : Int) := by rw [Int.ofNat_sub c2, Int.natCast_mul]
        simp -implicitDefEqProofs [-Int.natCast_add, hrz, hmu, hsb, rowD])]
      have hex : mExtend (L2.map rowD) [.lst ((List.range (mm + 1)).map fun k => rowD (r ++ [k], l - k * wd))] = some ((L2 ++ (List.range (mm + 1)).map fun k => (r ++ [k], l - k * wd)).map rowD, .non) := by
        show (if _ then _ else _) = _
        have hi2 : i * 20 ≤ 8000 := by
          have : i ≤ 400 := by omega
          omega
        rw [if_pos (by rw [List.length_map, List.length_map, List.length_range, szl]; omega), List.map_append, List.map_map]
        rfl
      have hz : ((List.range (mm + 1)).map fun k => rowD (r ++ [k], l - k * wd)).length ≤ sizeLine := by rw [List.length_map, List.length_range, szl]; omega
      have hnew : RowsQ s w room (j + 1) ((i + 1) * 20) (L2 ++ (List.range (mm + 1)).map fun k => (r ++ [k], l - k * wd)) := ⟨by rw [List.length_append, List.length_map, List.length_range]; omega, fun q hq2 => by
        rcases List.mem_append.mp hq2 with hq2 | hq2
        · exact hL2.all q hq2
        · obtain ⟨k, hk, rfl⟩ := List.mem_map.mp hq2
          obtain ⟨c1, c2⟩ := hkle k (List.mem_range.mp hk)
          exact hq.next hw (by rw [hmost]; exact c1) c2⟩
      generalize ((List.range (mm + 1)).map fun k => rowD (r ++ [k], l - k * wd)) = NW at *
      generalize (L2 ++ (List.range (mm + 1)).map fun k => (r ++ [k], l - k * wd)) = L3 at *
      simp -implicitDefEqProofs [-Int.natCast_add, hz, hex, stepP]
      exact ⟨L3, hnew, rfl⟩
    · repeat (first | (replace h := St.some h; obtain ⟨_, rfl, h⟩ := h) | (replace h := St.none h; obtain ⟨_, _, rfl, h⟩ := h))
      cases St.nil h
      simp
    · subst e1 e
      repeat (first | (replace h := St.some h; obtain ⟨_, rfl, h⟩ := h) | (replace h := St.none h; obtain ⟨_, _, rfl, h⟩ := h))
      cases St.nil h
      simp -implicitDefEqProofs [-Int.natCast_add, stepP]
      exact ⟨L2, hL2, rfl⟩
  · rw [hwl] at hL
    exact ⟨Nat.le_trans hL.ln (Nat.le_trans (Nat.pow_le_pow_right (by omega) hp3) (by decide)), hL.all⟩
  · repeat (first | (replace h := St.some h; obtain ⟨_, rfl, h⟩ := h) | (replace h := St.none h; obtain ⟨_, _, rfl, h⟩ := h))
    cases St.nil h
    simp
  · subst e1 e
    repeat (first | (replace h := St.some h; obtain ⟨_, rfl, h⟩ := h) | (replace h := St.none h; obtain ⟨_, _, rfl, h⟩ := h))
    cases St.nil h
    simp -implicitDefEqProofs [-Int.natCast_add]
    rw [compL_map (enc := rowD) (g := fun q => natT q.1) L (fun q hq => by
      unfold rowD
      simp -implicitDefEqProofs [-Int.natCast_add])]
    have hz : (L.map fun q => natT q.1).length ≤ sizeLine := by rw [List.length_map, szl]; have := hL.ln; omega
    have e : (L.map fun q => natT q.1) = (L.map (·.1)).map natT := by rw [List.map_map]; rfl
    rw [e] at hz ⊢
    have hF : (L.map (·.1)).length ≤ 8000 ∧ ∀ r ∈ L.map (·.1), r.length = s.pieces.length ∧ (∀ i, i < s.pieces.length → r.getD i 0 ≤ w.getD i 0) ∧ sizeW s.ws r ≤ room := ⟨by rw [List.length_map]; exact hL.ln, fun r hr => by
      obtain ⟨q, hq, rfl⟩ := List.mem_map.mp hr
      have h := hL.all q hq
      refine ⟨h.ln, h.le, ?_⟩
      have := h.sz
      rw [List.take_of_length_le (by rw [ws_len]; exact Nat.le_refl _)] at this
      omega⟩
    generalize L.map (·.1) = F at *
    have hz' : F.length ≤ sizeLine := by rw [szl]; omega
    simp -implicitDefEqProofs [-Int.natCast_add, hz']
    exact ⟨F, rfl, hF⟩

/-! ### layers: a dict of rows for every stretch -/
theorem alike_rows : ∀ A B : List (List Nat), PySem.W.alikeAll (A.map natP) (B.map natP) = true
  | [], _ => by rw [List.map_nil, PySem.W.alikeAll]
  | _ :: _, [] => by rw [List.map_nil, List.map_cons, PySem.W.alikeAll]
  | a :: A, b :: B => by
    rw [List.map_cons, List.map_cons, PySem.W.alikeAll, alike_natP, alike_rows A B]
    rfl
theorem lay_cmp (f : PyData → PyData → Bool) (A B : List (List Nat)) : dCmp f (layD A) (layD B) = some (.bl (f (.tuple (A.map natP)) (.tuple (B.map natP)))) := by
  unfold dCmp
  rw [encRow.tup.py, encRow.tup.py]
  show (if cmpOk (.tuple (A.map natP)) (.tuple (B.map natP)) = true then _ else _) = _
  have : cmpOk (.tuple (A.map natP)) (.tuple (B.map natP)) = true := by
    unfold cmpOk
    rw [PySem.W.alike, alike_rows, Bool.true_and, Bool.and_eq_true, decide_eq_true_eq]
    exact ⟨rfl, Nat.le_trans (encRow.tup.dep A) (by decide)⟩
  rw [if_pos this]
theorem lock_post {so : SE} {ss : SS} {ρ : DEnv} {S : Sto} {j : Nat} {kds : List (List Key × D)} {P : DEnv → Sto → Prop} (hso : so ρ S = .ok (.mref j) S) (hj : S[j]? = some (.t false kds))
    (h : (ss ρ (S.set j (.t true kds))).post fun o S' => ∃ ρ', o = .nx ρ' ∧ ∃ kds', S'[j]? = some (.t true kds') ∧ P ρ' (S'.set j (.t false kds'))) : (lockS so ss ρ S).post fun o S' => ∃ ρ', o = .nx ρ' ∧ P ρ' S' := by
  unfold lockS
  rw [hso]
  show ((match S[j]? with
    | some (.t false kds) => (ss ρ (S.set j (.t true kds))).then (unlk j)
    | _ => .bad)).post _
  rw [hj]
  refine then_post h fun o S' ⟨ρ', e, kds', e1, hp⟩ => ?_
  subst e
  show ((match S'[j]? with
    | some (.t true kds) => .ok (.nx ρ') (S'.set j (.t false kds))
    | _ => .bad) : Res Out).post _
  rw [e1]
  exact ⟨ρ', rfl, hp⟩
/-- the store inside the loop: layers, the one walked, the one made -/
def midS (F : Sto) (lk : Bool) (L N : List Ent) : Sto := F ++ [.t lk (kdsOf L), .t false (kdsOf N)]
theorem mid_at (F : Sto) (lk : Bool) (L N : List Ent) : (midS F lk L N)[F.length]? = some (.t lk (kdsOf L)) := by
  unfold midS
  rw [List.getElem?_append_right (Nat.le_refl _), Nat.sub_self]
  rfl
theorem mid_at2 (F : Sto) (lk : Bool) (L N : List Ent) : (midS F lk L N)[F.length + 1]? = some (.t false (kdsOf N)) := by
  unfold midS
  rw [List.getElem?_append_right (by omega), show F.length + 1 - F.length = 1 by omega]
  rfl
theorem mid_set (F : Sto) (lk lk' : Bool) (L N : List Ent) : (midS F lk L N).set F.length (.t lk' (kdsOf L)) = midS F lk' L N := by
  unfold midS
  rw [List.set_append_right _ _ (Nat.le_refl _), Nat.sub_self]
  rfl
theorem mid_put {F : Sto} {lk : Bool} {L N : List Ent} {r : List Nat} {d : D} (h : N.length < 1000000) : putO (midS F lk L N) (.mref (F.length + 1)) (natT r) d = some (midS F lk L (putE N r d)) := by
  show (((midS F lk L N)[F.length + 1]?.bind fun m => putM m (natT r) d).map ((midS F lk L N).set (F.length + 1))) = _
  rw [mid_at2]
  show (((keysD (natT r)).bind fun key => if (kdsOf N).length < sizeLine then some (MO.t false (putKD (kdsOf N) key d)) else none).map ((midS F lk L N).set (F.length + 1))) = _
  rw [keys_natT]
  show ((if (kdsOf N).length < sizeLine then some (MO.t false (putKD (kdsOf N) (keyR r) d)) else none).map ((midS F lk L N).set (F.length + 1))) = _
  rw [if_pos (by rw [kdsOf_len, szl]; omega), put_kds]
  show some ((midS F lk L N).set (F.length + 1) (MO.t false (kdsOf (putE N r d)))) = _
  unfold midS
  rw [List.set_append_right _ _ (by omega), show F.length + 1 - F.length = 1 by omega]
  rfl
theorem find_in : ∀ {L : List Ent} {q : Ent}, (L.map (·.1)).Nodup → q ∈ L → (L.find? fun p => decide (p.1 = q.1)) = some q
  | p :: L, q, hn, hq => by
    rw [List.map_cons, List.nodup_cons] at hn
    rcases List.mem_cons.mp hq with rfl | hq
    · exact List.find?_cons_of_pos (by simp)
    · have : p.1 ≠ q.1 := fun e => hn.1 (List.mem_map.mpr ⟨q, hq, e.symm⟩)
      rw [List.find?_cons_of_neg (by simpa using this)]
      exact find_in hn.2 hq
theorem mid_ix {F : Sto} {lk : Bool} {L N : List Ent} {q : Ent} (hn : (L.map (·.1)).Nodup) (hq : q ∈ L) : ixS (midS F lk L N) (.mref F.length) (natT q.1) = some q.2 := by
  show ((midS F lk L N)[F.length]?.bind fun m => getM m (natT q.1)) = _
  rw [mid_at]
  show ((keysD (natT q.1)).bind (valK (kdsOf L))) = _
  rw [keys_natT]
  show valK (kdsOf L) (keyR q.1) = _
  rw [val_kds, find_in hn hq]
  rfl
theorem mid_ix2 {F : Sto} {lk : Bool} {L N : List Ent} {q : Ent} (hn : (N.map (·.1)).Nodup) (hq : q ∈ N) : ixS (midS F lk L N) (.mref (F.length + 1)) (natT q.1) = some q.2 := by
  show ((midS F lk L N)[F.length + 1]?.bind fun m => getM m (natT q.1)) = _
  rw [mid_at2]
  show ((keysD (natT q.1)).bind (valK (kdsOf N))) = _
  rw [keys_natT]
  show valK (kdsOf N) (keyR q.1) = _
  rw [val_kds, find_in hn hq]
  rfl
theorem find_some (L : List Ent) (r : List Nat) : (L.find? fun q => decide (q.1 = r)).isSome = decide (r ∈ L.map (·.1)) := by
  rw [Bool.eq_iff_iff, List.find?_isSome, decide_eq_true_eq, List.mem_map]
  constructor
  · rintro ⟨q, hq, h⟩
    exact ⟨q, hq, of_decide_eq_true h⟩
  · rintro ⟨q, hq, h⟩
    exact ⟨q, hq, decide_eq_true h⟩
theorem in_at {S : Sto} {j : Nat} {lk : Bool} {L : List Ent} (h : S[j]? = some (.t lk (kdsOf L))) (neg : Bool) (r : List Nat) : inS neg S (natT r) (.mref j) = some (.bl (if neg then !decide (r ∈ L.map (·.1)) else decide (r ∈ L.map (·.1)))) := by
  show (S[j]?.bind fun m => inM neg m (natT r)) = _
  rw [h]
  show (if ((keysD (natT r)).isSome) = true then some (D.bl (if neg then !((keysD (natT r)).bind (valK (kdsOf L))).isSome else ((keysD (natT r)).bind (valK (kdsOf L))).isSome)) else none) = _
  rw [keys_natT]
  show some (D.bl (if neg then !(valK (kdsOf L) (keyR r)).isSome else (valK (kdsOf L) (keyR r)).isSome)) = _
  rw [val_kds, Option.isSome_map, find_some]
theorem ix_lastL {xs : List D} {n : Nat} {d : D} (hl : xs.length = n + 1) (h : xs[n]? = some d) : dIx (.lst xs) (.int (-1)) = some d := ix_last hl h
/-- coordinatewise what is left -/
def subV (a b : List Nat) : List Nat := (a.zip b).map fun q => q.1 - q.2
theorem subV_len {a b : List Nat} (h : a.length = b.length) : (subV a b).length = a.length := by
  unfold subV
  rw [List.length_map, List.length_zip]
  omega
theorem subV_at {a b : List Nat} (h : a.length = b.length) {i : Nat} (hi : i < a.length) : (subV a b).getD i 0 = a.getD i 0 - b.getD i 0 := by
  unfold subV
  rw [List.getD_eq_getElem?_getD, List.getD_eq_getElem?_getD, List.getD_eq_getElem?_getD, List.getElem?_map, List.getElem?_eq_getElem (by rw [List.length_zip]; omega), List.getElem?_eq_getElem hi, List.getElem?_eq_getElem (by omega : i < b.length), List.getElem_zip]
  rfl
theorem addV_at {a b : List Nat} (h : a.length = b.length) {i : Nat} (hi : i < a.length) : (addV a b).getD i 0 = a.getD i 0 + b.getD i 0 := by
  unfold addV
  rw [List.getD_eq_getElem?_getD, List.getD_eq_getElem?_getD, List.getD_eq_getElem?_getD, List.getElem?_map, List.getElem?_eq_getElem (by rw [List.length_zip]; omega), List.getElem?_eq_getElem hi, List.getElem?_eq_getElem (by omega : i < b.length), List.getElem_zip]
  rfl
/-- what an entry of the layer after k stretches is -/
structure EntL (s : ShopT) (tg : List Nat) (k : Nat) (r : List Nat) (d : D) : Prop where
  ln : r.length = s.pieces.length
  le : ∀ i, i < s.pieces.length → r.getD i 0 ≤ tg.getD i 0
  sz : sizeW s.ws r ≤ k * 17
  val : ∃ R : List (List Nat), d = layD R ∧ R.length = k ∧ ∀ q ∈ R, q.length = s.pieces.length
theorem EntL.next {s : ShopT} {tg : List Nat} {k : Nat} {r : List Nat} {R : List (List Nat)} (htl : tg.length = s.pieces.length) (h : EntL s tg k r (layD R)) (hR : R.length = k ∧ ∀ q ∈ R, q.length = s.pieces.length) {m : List Nat} (hm : m.length = s.pieces.length) (hle : ∀ i, i < s.pieces.length → m.getD i 0 ≤ (subV tg r).getD i 0) (hsz : sizeW s.ws m ≤ 17) : EntL s tg (k + 1) (addV r m) (layD (R ++ [m])) where
  ln := by rw [addV_len (by rw [h.ln, hm]), h.ln]
  le := fun i hi => by
    have h1 := hle i hi
    have h2 := h.le i hi
    rw [subV_at (by rw [htl, h.ln]) (by omega)] at h1
    rw [addV_at (by rw [h.ln, hm]) (by rw [h.ln]; exact hi)]
    omega
  sz := by
    have := h.sz
    rw [sizeW_add _ _ _ (by rw [h.ln, ws_len]) (by rw [hm, ws_len])]
    omega
  val := ⟨R ++ [m], rfl, by rw [List.length_append, hR.1]; rfl, fun q hq => by
    rcases List.mem_append.mp hq with hq | hq
    · exact hR.2 q hq
    · rw [List.mem_singleton] at hq
      subst hq
      exact hm⟩
theorem sub_ok {a b : List Nat} (h : a.length ≤ 1000) (hle : ∀ q ∈ a.zip b, q.2 ≤ q.1) : ∀ q ∈ a.zip b, (q.1 : Int) - (q.2 : Int) = ((q.1 - q.2 : Nat) : Int) := fun q hq => by
  have := hle q hq
  omega
theorem zip_le {a b : List Nat} (h : a.length = b.length) (hle : ∀ i, i < a.length → b.getD i 0 ≤ a.getD i 0) : ∀ q ∈ a.zip b, q.2 ≤ q.1 := fun q hq => by
  obtain ⟨i, hi⟩ := List.mem_iff_getElem?.mp hq
  obtain ⟨h1, h2⟩ := List.getElem?_eq_some_iff.mp hi
  rw [List.length_zip] at h1
  rw [List.getElem_zip] at h2
  subst h2
  have := hle i (by omega)
  rw [List.getD_eq_getElem?_getD, List.getD_eq_getElem?_getD, List.getElem?_eq_getElem (by omega : i < b.length), List.getElem?_eq_getElem (by omega : i < a.length)] at this
  exact this

/-! ### all the layers -/
structure LayOk (s : ShopT) (tg : List Nat) (k : Nat) (L : List Ent) : Prop where
  ok : EntOk (EntL s tg k) L
theorem LayOk.len {s : ShopT} {tg : List Nat} {k : Nat} {L : List Ent} (hs : Sh s) (h : EntOk (EntL s tg k) L) (hk : k ≤ 4) : L.length ≤ 60000 :=
  Nat.le_trans (h.len hs (B := k * 17) fun r d h => ⟨h.ln, h.sz⟩) (hs.rw68 (by omega))
def layS (Ds : List (List Ent)) : Sto := Ds.map fun L => .t false (kdsOf L)
def refs (n : Nat) : List D := (List.range n).map .mref
theorem refs_last (n : Nat) : dIx (.lst (refs (n + 1))) (.int (-1)) = some (.mref n) := ix_lastL (n := n) (by unfold refs; rw [List.length_map, List.length_range]) (by unfold refs; rw [List.getElem?_map, List.getElem?_range (by omega)]; rfl)
theorem refs_snoc (n : Nat) : refs n ++ [.mref n] = refs (n + 1) := by
  unfold refs
  rw [List.range_succ, List.map_append]
  rfl
theorem layS_snoc (Ds : List (List Ent)) (L N : List Ent) : layS (Ds ++ [L]) ++ [.t false (kdsOf N)] = midS (layS Ds) false L N := by
  unfold layS midS
  rw [List.map_append, List.append_assoc]
  rfl
theorem layS_mid (Ds : List (List Ent)) (L N : List Ent) : midS (layS Ds) false L N = layS (Ds ++ [L] ++ [N]) := by
  rw [← layS_snoc]
  unfold layS
  rw [List.map_append (l₂ := [N])]
  rfl
theorem layS_len (Ds : List (List Ent)) : (layS Ds).length = Ds.length := List.length_map ..
structure LaysOk (s : ShopT) (tg : List Nat) (Ds : List (List Ent)) : Prop where
  all : ∀ i L, Ds[i]? = some L → EntOk (EntL s tg i) L
theorem itd_mid {so : SE} {ρ : DEnv} {F : Sto} {L N : List Ent} (h : so ρ (midS F true L N) = .ok (.mref F.length) (midS F true L N)) : sItD so ρ (midS F true L N) = .ok (L.map fun q => natT q.1) (midS F true L N) := by
  unfold sItD
  rw [h]
  show (match (midS F true L N)[F.length]? with
    | some (.t true kds) => Res.ok (kds.map fun kd : List Key × D => keyT kd.1) (midS F true L N)
    | _ => .bad) = _
  rw [mid_at]
  show Res.ok ((kdsOf L).map fun kd => keyT kd.1) _ = _
  congr 1
  unfold kdsOf
  rw [List.map_map]
  refine List.map_congr_left fun q _ => ?_
  exact keyT_R q.1
theorem layers_to_ok {s : ShopT} (hs : Sh s) {lens tg : List Nat} (hll : lens.length ≤ 4) (hle : ∀ l ∈ lens, l ≤ 15) (htl : tg.length = s.pieces.length) : (m_layers_to [s.o, natT lens, natT tg] []).post fun d S => ∃ Ds : List (List Ent), S = layS Ds ∧ d = .lst (refs Ds.length) ∧ Ds.length = lens.length + 1 ∧ LaysOk s tg Ds := by
  have hp3 := hs.p3
  have hm1 := hs.pc.len.1
  have hz0 := zero_row (n := s.pieces.length) hm1 (by omega)
  have hkk := hs.kf
  unfold m_layers_to b_layers_to
  have htl' : (tg.length : Int) = (s.pieces.length : Int) := by omega
  have hnew : newT (natT (List.replicate s.pieces.length 0)) (.tup []) [] = .ok (.mref 0) (layS [[(List.replicate s.pieces.length 0, layD [])]]) := by
    unfold newT
    rw [keys_natT]
    rfl
  simp -implicitDefEqProofs [-Int.natCast_add, htl', hz0, hnew]
  refine then_post (P := fun o S' => ∃ ρ' Ds, o = .nx ρ' ∧ S' = layS Ds ∧ Ds.length = lens.length + 1 ∧ LaysOk s tg Ds ∧ St [none, none, none, some (.lst (refs Ds.length)), none, none, none, none, none, none, none, none] ρ') (forL_map (enc := fun (n : Nat) => D.int (n : Int)) (P := fun j ρ S' => ∃ Ds, S' = layS Ds ∧ Ds.length = j + 1 ∧ LaysOk s tg Ds ∧ St [some (s.o), none, some (natT tg), some (.lst (refs Ds.length)), none, none, none, none, none, none, none, none] ρ) lens ⟨_, rfl, rfl, ⟨fun i L hi => ?_⟩, ?_⟩ (fun j len hj ρ S ⟨Ds, e1, e2, hD, h⟩ => ?_) fun ρ S ⟨Ds, e1, e2, hD, h⟩ => ⟨ρ, Ds, rfl, e1, e2, hD, ?_⟩) fun o S' ⟨ρ, Ds, e, e1, e2, hD, h⟩ => ?_
  · match i, hi with
    | 0, hi =>
      cases hi
      refine ⟨by simp, fun q hq => ?_⟩
      rw [List.mem_singleton] at hq
      subst hq
      exact ⟨List.length_replicate, fun i hi => by simp [List.getD_eq_getElem?_getD, List.getElem?_replicate, hi], by rw [sizeW_zero]; exact Nat.zero_le _, [], rfl, rfl, fun q hq => (nomatch hq)⟩
  · simp [refs]
  · repeat (first | (replace h := St.some h; obtain ⟨_, rfl, h⟩ := h) | (replace h := St.none h; obtain ⟨_, _, rfl, h⟩ := h))
    cases St.nil h
    have hjl := (List.getElem?_eq_some_iff.mp hj).1
    have hl15 := hle len (List.mem_of_getElem? hj)
    obtain ⟨Df, L, rfl⟩ : ∃ Df L, Ds = Df ++ [L] := ⟨Ds.dropLast, Ds.getLast (fun z => by rw [z] at e2; cases e2), (List.dropLast_concat_getLast _).symm⟩
    have hfl : Df.length = j := by rw [List.length_append] at e2; exact Nat.succ.inj e2
    have hL : EntOk (EntL s tg j) L := hD.all j L (by rw [List.getElem?_append_right (by omega), hfl, Nat.sub_self]; rfl)
    subst e1
    have hrf : (Df ++ [L]).length = j + 1 := e2
    rw [hrf]
    simp -implicitDefEqProofs [-Int.natCast_add]
    have hsn : layS (Df ++ [L]) ++ [MO.t false []] = midS (layS Df) false L [] := layS_snoc Df L []
    rw [layS_len, hrf, hsn]
    have hFl : (layS Df).length = j := by rw [layS_len]; exact hfl
    have hback : ∀ N, midS (layS Df) false L N = layS (Df ++ [L] ++ [N]) := layS_mid Df L
    generalize layS Df = F at *
    subst hFl
    have hlast := refs_last F.length
    have hk4 : F.length + 1 ≤ 4 := by omega
    refine then_post (P := fun o S' => ∃ ρ', o = .nx ρ' ∧ ∃ N, S' = midS F false L N ∧ EntOk (EntL s tg (F.length + 1)) N ∧ St [some (s.o), none, some (natT tg), some (.lst (refs (F.length + 1))), none, some (.mref (F.length + 1)), none, none, none, none, none, none] ρ') (lock_post (j := F.length) (kds := kdsOf L) (P := fun ρ' S' => ∃ N, S' = midS F false L N ∧ EntOk (EntL s tg (F.length + 1)) N ∧ St [some (s.o), none, some (natT tg), some (.lst (refs (F.length + 1))), none, some (.mref (F.length + 1)), none, none, none, none, none, none] ρ') ?_ (mid_at F false L []) ?_) fun o S' ⟨ρ, e, N, e1, hN, h⟩ => ?_
    · simp -implicitDefEqProofs [-Int.natCast_add, hlast]
    · rw [mid_set, e_for, itd_mid (by simp -implicitDefEqProofs [-Int.natCast_add, hlast])]
      show (forL _ _ _ _).post _
      refine forL_map (enc := fun q : Ent => natT q.1) (P := fun i ρ S' => ∃ N, S' = midS F true L N ∧ EntOk (EntL s tg (F.length + 1)) N ∧ St [some (s.o), none, some (natT tg), some (.lst (refs (F.length + 1))), some (.int (len : Int)), some (.mref (F.length + 1)), none, none, none, none, none, none] ρ) L ⟨[], rfl, .nil, by simp⟩ (fun i q hi ρ S' ⟨N, e1, hN, h⟩ => ?_) fun ρ S' ⟨N, e1, hN, h⟩ => ⟨ρ, rfl, kdsOf L, ?_, N, ?_, hN, ?_⟩
      · repeat (first | (replace h := St.some h; obtain ⟨_, rfl, h⟩ := h) | (replace h := St.none h; obtain ⟨_, _, rfl, h⟩ := h))
        cases St.nil h
        subst e1
        have hqm := List.mem_of_getElem? hi
        have hq := hL.all q hqm
        obtain ⟨R, hd, hR⟩ := hq.val
        have htq : tg.length = q.1.length := by rw [htl, hq.ln]
        have hsub := zip_le htq (fun i hi => hq.le i (by omega))
        have hix := fun N => mid_ix (F := F) (lk := true) (N := N) hL.nd hqm
        rw [hd] at hq hix
        simp -implicitDefEqProofs [-Int.natCast_add]
        rw [zip_nat (fun (n : Nat) => D.int (n : Int)), compL_map (g := fun p => D.int ((p.1 - p.2 : Nat) : Int)) _ (fun p hp => by
          have := hsub p hp
          simp -implicitDefEqProofs [-Int.natCast_add]
          omega)]
        have hz : ((tg.zip q.1).map fun p => D.int ((p.1 - p.2 : Nat) : Int)).length ≤ sizeLine := by rw [List.length_map, List.length_zip, szl]; omega
        have e : ((tg.zip q.1).map fun p => D.int ((p.1 - p.2 : Nat) : Int)) = (subV tg q.1).map fun (n : Nat) => D.int (n : Int) := by
          unfold subV
          rw [List.map_map]
          rfl
        rw [e] at hz ⊢
        rw [List.length_map] at hz
        have hrows := rows_for_ok hs (w := subV tg q.1) (by rw [subV_len htq, htl]) hl15 (midS F true L N)
        obtain ⟨d, S2, er, e1, RS, ed, hRl, hRS⟩ := Res.post_ex hrows
        subst e1 ed
        simp -implicitDefEqProofs [-Int.natCast_add, hz, er]
        refine Res.post_mono (forL_map (enc := natT) (P := fun _ ρ S' => ∃ N, S' = midS F true L N ∧ EntOk (EntL s tg (F.length + 1)) N ∧ St [some (s.o), none, some (natT tg), some (.lst (refs (F.length + 1))), some (.int (len : Int)), some (.mref (F.length + 1)), some (natT q.1), none, none, none, none, none] ρ) (Q := fun o S' => ∃ ρ', o = .nx ρ' ∧ ∃ N, S' = midS F true L N ∧ EntOk (EntL s tg (F.length + 1)) N ∧ St [some (s.o), none, some (natT tg), some (.lst (refs (F.length + 1))), some (.int (len : Int)), some (.mref (F.length + 1)), none, none, none, none, none, none] ρ') RS ⟨N, rfl, hN, by simp⟩ (fun k more hk ρ S2 ⟨N, e1, hN, h⟩ => ?_) fun ρ S2 ⟨N, e1, hN, h⟩ => ⟨ρ, rfl, N, e1, hN, ?_⟩) fun o S2 ⟨ρ', e, hb⟩ => ?_
        · repeat (first | (replace h := St.some h; obtain ⟨_, rfl, h⟩ := h) | (replace h := St.none h; obtain ⟨_, _, rfl, h⟩ := h))
          cases St.nil h
          subst e1
          obtain ⟨hml, hmle, hmsz⟩ := hRS more (List.mem_of_getElem? hk)
          have hent := hq.next htl hR hml hmle (by omega)
          have hsum := summed_ok (a := q.1) (b := more) (by rw [← htq]; omega) (midS F true L N)
          have hixN := hix N
          have hin := in_at (mid_at2 F true L N) true (addV q.1 more)
          have hNl : N.length ≤ 60000 := LayOk.len hs hN hk4
          have hput := mid_put (F := F) (lk := true) (L := L) (N := N) (r := addV q.1 more) (d := layD (R ++ [more])) (by omega)
          have hR4 : R.length ≤ 4 := by omega
          have hcat : dAdd (layD R) (.tup [natT more]) = some (layD (R ++ [more])) := by
            rw [d_add_tup _ _ (by rw [List.length_map, List.length_singleton, szl]; omega)]
            show _ = some (D.tup ((R ++ [more]).map natT))
            rw [List.map_append]
            rfl
          have hdone : ∃ N', midS F true L (putE N (addV q.1 more) (layD (R ++ [more]))) = midS F true L N' ∧ EntOk (EntL s tg (F.length + 1)) N' := ⟨_, rfl, hN.put hent⟩
          have hsame : ∃ N', midS F true L N = midS F true L N' ∧ EntOk (EntL s tg (F.length + 1)) N' := ⟨_, rfl, hN⟩
          by_cases c : addV q.1 more ∈ N.map (·.1)
          · obtain ⟨q2, hq2, e2⟩ := List.mem_map.mp c
            obtain ⟨R2, hd2, hR2⟩ := (hN.all q2 hq2).val
            have hix2 := mid_ix2 (F := F) (lk := true) (L := L) hN.nd hq2
            rw [e2, hd2] at hix2
            have hcmp := lay_cmp (fun d e => PySem.W.dataLt d e) (R ++ [more]) R2
            rw [if_pos rfl, decide_eq_true c] at hin
            generalize R ++ [more] = R3 at *
            generalize PySem.W.dataLt (PyData.tuple (R3.map natP)) (PyData.tuple (R2.map natP)) = b at *
            generalize addV q.1 more = sm at *
            generalize midS F true L (putE N sm (layD R3)) = S3 at *
            generalize midS F true L N = S2 at *
            generalize F.length = J at *
            cases b with
            | true =>
              unfold fBody
              simp -implicitDefEqProofs [-Int.natCast_add, hsum, hlast, hixN, hcat, hin, hix2, hcmp, putD', hput, putR, stepP]
              exact hdone
            | false =>
              unfold fBody
              simp -implicitDefEqProofs [-Int.natCast_add, hsum, hlast, hixN, hcat, hin, hix2, hcmp, putD', hput, putR, stepP]
              exact hsame
          · rw [if_pos rfl, decide_eq_false c] at hin
            generalize R ++ [more] = R3 at *
            generalize addV q.1 more = sm at *
            generalize midS F true L (putE N sm (layD R3)) = S3 at *
            generalize midS F true L N = S2 at *
            generalize F.length = J at *
            unfold fBody
            simp -implicitDefEqProofs [-Int.natCast_add, hsum, hlast, hixN, hcat, hin, putD', hput, putR, stepP]
            exact hdone
        · repeat (first | (replace h := St.some h; obtain ⟨_, rfl, h⟩ := h) | (replace h := St.none h; obtain ⟨_, _, rfl, h⟩ := h))
          cases St.nil h
          simp
        · subst e
          exact hb
      · rw [e1]
        exact mid_at ..
      · rw [e1, mid_set]
      · repeat (first | (replace h := St.some h; obtain ⟨_, rfl, h⟩ := h) | (replace h := St.none h; obtain ⟨_, _, rfl, h⟩ := h))
        cases St.nil h
        simp
    · subst e e1
      repeat (first | (replace h := St.some h; obtain ⟨_, rfl, h⟩ := h) | (replace h := St.none h; obtain ⟨_, _, rfl, h⟩ := h))
      cases St.nil h
      have happ : mAppend (refs (F.length + 1)) [.mref (F.length + 1)] = some (refs (F.length + 2), .non) := by
        show (if _ then _ else _) = _
        rw [if_pos (by unfold refs; rw [List.length_map, List.length_range, szl]; omega), refs_snoc]
      have hb := hback N
      have hln : (Df ++ [L] ++ [N]).length = F.length + 2 := by rw [List.length_append, e2]; rfl
      have hall : LaysOk s tg (Df ++ [L] ++ [N]) := ⟨fun i M hi => by
        by_cases c : i < (Df ++ [L]).length
        · rw [List.getElem?_append_left c] at hi
          exact hD.all i M hi
        · have hi2 := (List.getElem?_eq_some_iff.mp hi).1
          have e : i = F.length + 1 := by omega
          subst e
          rw [List.getElem?_append_right (by omega), e2, Nat.sub_self] at hi
          cases hi
          exact hN⟩
      generalize Df ++ [L] ++ [N] = D2 at *
      simp -implicitDefEqProofs [-Int.natCast_add, happ, stepP]
      exact ⟨D2, hb, hln, hall, by rw [hln]⟩
  · repeat (first | (replace h := St.some h; obtain ⟨_, rfl, h⟩ := h) | (replace h := St.none h; obtain ⟨_, _, rfl, h⟩ := h))
    cases St.nil h
    simp
  · subst e e1
    repeat (first | (replace h := St.some h; obtain ⟨_, rfl, h⟩ := h) | (replace h := St.none h; obtain ⟨_, _, rfl, h⟩ := h))
    cases St.nil h
    simp -implicitDefEqProofs [-Int.natCast_add]
    exact ⟨Ds, rfl, rfl, e2, hD⟩

/-! ### the makers of Split and Stopped -/
theorem putp1 (a : D) : putD (Str.ofString "patterns") a [] = [(Str.ofString "patterns", a)] := rfl
theorem putl1 (a : D) : putD (Str.ofString "layers") a [] = [(Str.ofString "layers", a)] := rfl
theorem init_split {a : D} {S S' : Sto} {a' : D} (h1 : m_as_tuples [a] S = .ok a' S') : m_Split_init [a] S = .ok (splD a') S' := by
  unfold m_Split_init b_Split_init
  have c1 : (Str.ofString "Split" : Str) ∈ at_patterns := by decide +kernel
  simp [h1, c1, putp1]
  rfl
theorem init_stopped {a : D} {S S' : Sto} {a' : D} (h1 : m_as_tuples [a] S = .ok a' S') : m_Stopped_init [a] S = .ok (stpD a') S' := by
  unfold m_Stopped_init b_Stopped_init
  have c1 : (Str.ofString "Stopped" : Str) ∈ at_layers := by decide +kernel
  simp [h1, c1, putl1]
  rfl
/-- as_tuples -/
theorem as_pl : ∀ (n : Nat) (d : D) (S : Sto), pl n d = true → r_as_tuples (n + 1) [d] S = .ok d S := by
  intro n
  induction n with
  | zero =>
    intro d S h
    show runD 2 (b_as_tuples (r_as_tuples 0)) [d] S = _
    unfold b_as_tuples
    cases d with
    | non => simp -implicitDefEqProofs [-Int.natCast_add, isTyS]
    | bl b => simp -implicitDefEqProofs [-Int.natCast_add, isTyS]
    | int i => simp -implicitDefEqProofs [-Int.natCast_add, isTyS]
    | str x => simp -implicitDefEqProofs [-Int.natCast_add, isTyS]
    | _ => cases h
  | succ n ih =>
    intro d S h
    show runD 2 (b_as_tuples (r_as_tuples (n + 1))) [d] S = _
    unfold b_as_tuples
    cases d with
    | non => simp -implicitDefEqProofs [-Int.natCast_add, isTyS]
    | bl b => simp -implicitDefEqProofs [-Int.natCast_add, isTyS]
    | int i => simp -implicitDefEqProofs [-Int.natCast_add, isTyS]
    | str x => simp -implicitDefEqProofs [-Int.natCast_add, isTyS]
    | tup xs =>
      obtain ⟨h1, h2⟩ := pl_tup h
      have hz : xs.length ≤ sizeLine := by rw [szl]; omega
      simp -implicitDefEqProofs [-Int.natCast_add]
      rw [compL_self (g := fun x => x) xs (fun x hx => by simp -implicitDefEqProofs [-Int.natCast_add, ih x S (pls_mem h1 x hx)])]
      simp -implicitDefEqProofs [-Int.natCast_add, hz]
    | _ => cases h
theorem as_pls {n : Nat} {xs : List D} (S : Sto) (h : pls n xs = true) (hl : xs.length ≤ 100000) : r_as_tuples (n + 2) [.lst xs] S = .ok (.tup xs) S := by
  show runD 2 (b_as_tuples (r_as_tuples (n + 1))) [.lst xs] S = _
  unfold b_as_tuples
  have hz : xs.length ≤ sizeLine := by rw [szl]; omega
  simp -implicitDefEqProofs [-Int.natCast_add]
  rw [compL_self (g := fun x => x) xs (fun x hx => by simp -implicitDefEqProofs [-Int.natCast_add, as_pl n x S (pls_mem h x hx)])]
  simp -implicitDefEqProofs [-Int.natCast_add, hz]
theorem as_plain {n : Nat} (hn : n ≤ 11) {d : D} (S : Sto) (h : pl n d = true) : m_as_tuples [d] S = .ok d S := as_pl 11 d S (pl_mono h hn)
theorem as_list {n : Nat} (hn : n ≤ 10) {xs : List D} (S : Sto) (h : pls n xs = true) (hl : xs.length ≤ 100000) : m_as_tuples [.lst xs] S = .ok (.tup xs) S := as_pls (n := 10) S (pls_of fun d hd => pl_mono (pls_mem h d hd) hn) hl

/-! ### what is free -/
theorem gapsI_le (len : Nat) : ∀ (L : List Fl) (st : Int), 0 ≤ st → (∀ p ∈ L, p.1 ≤ p.2 ∧ p.2 ≤ len) → ∀ i ∈ gapsI st len L, i ≤ (len : Int)
  | [], st, h0, _, i, hi => by
    have hi : i ∈ [(len : Int) - st] := hi
    rw [List.mem_singleton] at hi
    omega
  | p :: L, st, h0, h, i, hi => by
    rcases List.mem_cons.mp hi with hi | hi
    · have := h p List.mem_cons_self
      omega
    · exact gapsI_le len L (p.2 : Int) (by omega) (fun q hq => h q (List.mem_cons_of_mem _ hq)) i hi
theorem freeL_le {len : Nat} {L : List Fl} (h : FlOk len L) : ∀ l ∈ freeL len L, l ≤ len := fun l hl => by
  obtain ⟨i, hi, rfl⟩ := List.mem_map.mp hl
  have := gapsI_le len L 0 (by omega) (fun p hp => ⟨(h.bd p hp).1, (h.bd p hp).2.1⟩) i (List.mem_filter.mp hi).1
  omega
theorem freeL_ne {len : Nat} {L : List Fl} (h : FlOk len L) (h5 : 5 ≤ len) : freeL len L ≠ [] := fun z => by
  have hno : ∀ i ∈ gapsI 0 len L, i ≤ 0 := fun i hi => by
    have e : freeI len L = [] := List.map_eq_nil_iff.mp z
    have := List.filter_eq_nil_iff.mp e i hi
    simpa using this
  match L, h, hno with
  | [], _, hno =>
    have := hno ((len : Int) - 0) (List.mem_singleton.mpr rfl)
    omega
  | [p], h, hno =>
    have h1 := hno ((p.1 : Int) - 0) List.mem_cons_self
    have h2 := hno ((len : Int) - (p.2 : Int)) (List.mem_cons_of_mem _ (List.mem_singleton.mpr rfl))
    have := h.bd p List.mem_cons_self
    omega
  | p :: q :: L, h, hno =>
    have h1 := hno ((q.1 : Int) - (p.2 : Int)) (List.mem_cons_of_mem _ List.mem_cons_self)
    have := (List.pairwise_cons.mp h.pw).1 q List.mem_cons_self
    omega
/-! ### split -/
/-- rows of m numbers each -/
def RowsM (m : Nat) (R : List (List Nat)) : Prop := ∀ r ∈ R, r.length = m
structure SplitP (s : ShopT) (lens : List Nat) (R : List (List Nat)) : Prop where
  ln : R.length = lens.length
  all : RowsM s.pieces.length R
structure StopP (s : ShopT) (lens : List Nat) (Ls : List (List (List Nat))) : Prop where
  ln : Ls.length = lens.length + 1
  all : ∀ R ∈ Ls, RowsM s.pieces.length R ∧ R.length ≤ 60000
theorem layS_at {Ds : List (List Ent)} {i : Nat} {L : List Ent} (h : Ds[i]? = some L) : (layS Ds)[i]? = some (.t false (kdsOf L)) := by
  unfold layS
  rw [List.getElem?_map, h]
  rfl
theorem ix_at {S : Sto} {j : Nat} {lk : Bool} {L : List Ent} {q : Ent} (h : S[j]? = some (.t lk (kdsOf L))) (hn : (L.map (·.1)).Nodup) (hq : q ∈ L) : ixS S (.mref j) (natT q.1) = some q.2 := by
  show (S[j]?.bind fun m => getM m (natT q.1)) = _
  rw [h]
  show ((keysD (natT q.1)).bind (valK (kdsOf L))) = _
  rw [keys_natT]
  show valK (kdsOf L) (keyR q.1) = _
  rw [val_kds, find_in hn hq]
  rfl
theorem sorted_at {S : Sto} {j : Nat} {lk : Bool} {L : List Ent} (h : S[j]? = some (.t lk (kdsOf L))) : sortedS S (.mref j) = dSorted [.lst ((L.map (·.1)).map natT)] := by
  show (S[j]?.bind fun m => match m with
    | .t _ kds => dSorted [.lst (kds.map fun kd => keyT kd.1)]
    | _ => none) = _
  rw [h]
  show dSorted [.lst ((kdsOf L).map fun kd : List Key × D => keyT kd.1)] = _
  congr 3
  unfold kdsOf
  rw [List.map_map, List.map_map]
  refine List.map_congr_left fun q _ => ?_
  exact keyT_R q.1
theorem stop_pl {s : ShopT} {lens : List Nat} {Ls : List (List (List Nat))} (h : StopP s lens Ls) (h4 : lens.length ≤ 4) (hp : s.pieces.length ≤ 3) : pl 3 (.tup (Ls.map layD)) = true := by
  show (pls 2 (Ls.map layD) && decide ((Ls.map layD).length ≤ 100000)) = true
  rw [Bool.and_eq_true, decide_eq_true_eq, List.length_map]
  refine ⟨pls_of fun d hd => ?_, by rw [h.ln]; omega⟩
  obtain ⟨R, hR, rfl⟩ := List.mem_map.mp hd
  have := h.all R hR
  exact pl_rows 0 R (by omega) fun r hr => by rw [this.1 r hr]; omega
theorem split_ok {s : ShopT} {x : Str × Nat × Option Nat × Nat} {L : List Fl} (A : At s x L) (h15 : x.2.1 ≤ 15) {tg : List Nat} (ht : tg.length = s.pieces.length) : (m_split [s.o, .int 0, .tup (L.map faultD), natT tg] []).post fun d _ => (∃ R, d = splD (layD R) ∧ SplitP s (freeL x.2.1 L) R) ∨ (∃ Ls, d = stpD (.tup (Ls.map layD)) ∧ StopP s (freeL x.2.1 L) Ls) := by
  have hs := A.hs
  have hp3 := hs.p3
  have hm1 := hs.pc.len.1
  have hf := need_faults_ok A []
  have hfree := free_of A []
  have hpat := npat_ok ht (by omega) []
  have hl4 := freeL_len (len := x.2.1) A.ok.n3
  have hle : ∀ l ∈ freeL x.2.1 L, l ≤ 15 := fun l hl => Nat.le_trans (freeL_le A.ok l hl) h15
  generalize freeL x.2.1 L = lens at *
  obtain ⟨d, S, er, Ds, e1, ed, hDl, hD⟩ := Res.post_ex (layers_to_ok hs hl4 hle ht)
  subst e1 ed
  rw [hDl] at er
  have hlast := refs_last lens.length
  obtain ⟨M, hM⟩ : ∃ M, Ds[lens.length]? = some M := ⟨_, List.getElem?_eq_getElem (by omega)⟩
  have hMok := hD.all _ _ hM
  have hat := layS_at hM
  have hin := in_at hat false tg
  rw [if_neg (by decide)] at hin
  generalize L.map faultD = fd at *
  unfold m_split b_split
  by_cases c : tg ∈ M.map (·.1)
  · rw [decide_eq_true c] at hin
    obtain ⟨q, hq, e⟩ := List.mem_map.mp c
    obtain ⟨R, hd, hRl, hR⟩ := (hMok.all q hq).val
    have hix := ix_at hat hMok.nd hq
    rw [e, hd] at hix
    have hmk := init_split (as_plain (n := 2) (by omega) (layS Ds) (pl_rows 0 R (by omega) fun r hr => by rw [hR r hr]; omega))
    have hres : (∃ R', splD (layD R) = splD (layD R') ∧ SplitP s lens R') ∨ (∃ Ls, splD (layD R) = stpD (.tup (Ls.map layD)) ∧ StopP s lens Ls) := .inl ⟨R, rfl, hRl, hR⟩
    generalize layS Ds = S at *
    generalize splD (layD R) = v at *
    simp -implicitDefEqProofs [-Int.natCast_add, hf, hpat, hfree, er, hlast, hin, hix, hmk]
    exact hres
  · rw [decide_eq_false c] at hin
    have hkeys : ∀ D0 ∈ Ds, RowsM s.pieces.length (D0.map (·.1)) ∧ D0.length ≤ 60000 := fun D0 hD0 => by
      obtain ⟨i, hi⟩ := List.mem_iff_getElem?.mp hD0
      have hil := (List.getElem?_eq_some_iff.mp hi).1
      have h := hD.all i D0 hi
      refine ⟨fun r hr => ?_, LayOk.len hs h (by omega)⟩
      obtain ⟨q, hq, rfl⟩ := List.mem_map.mp hr
      exact (h.all q hq).ln
    simp -implicitDefEqProofs [-Int.natCast_add, hf, hpat, hfree, er, hlast, hin]
    unfold refs
    rw [compL_map (enc := D.mref) (g := fun i => layD (((Ds.getD i []).map (·.1)).mergeSort leW)) _ (fun i hi => by
      have hil : i < Ds.length := by rw [hDl]; exact List.mem_range.mp hi
      have hd : Ds[i]? = some (Ds.getD i []) := by rw [List.getD_eq_getElem?_getD, List.getElem?_eq_getElem hil]; rfl
      have hk := hkeys _ (List.mem_of_getElem? hd)
      have h1 := sorted_at (layS_at hd)
      rw [sorted_rows (fun r hr => by
        intro z
        have := hk.1 r hr
        rw [z] at this
        simp at this
        omega)] at h1
      generalize layS Ds = S at *
      simp -implicitDefEqProofs [-Int.natCast_add, h1])]
    have hLs : StopP s lens ((List.range (lens.length + 1)).map fun i => ((Ds.getD i []).map (·.1)).mergeSort leW) := ⟨by rw [List.length_map, List.length_range], fun R hR => by
      obtain ⟨i, hi, rfl⟩ := List.mem_map.mp hR
      have hil : i < Ds.length := by rw [hDl]; exact List.mem_range.mp hi
      have hd : Ds[i]? = some (Ds.getD i []) := by rw [List.getD_eq_getElem?_getD, List.getElem?_eq_getElem hil]; rfl
      have hk := hkeys _ (List.mem_of_getElem? hd)
      refine ⟨fun r hr => hk.1 r (List.mem_mergeSort.mp hr), ?_⟩
      rw [List.length_mergeSort, List.length_map]
      exact hk.2⟩
    have e : ((List.range (lens.length + 1)).map fun i => layD (((Ds.getD i []).map (·.1)).mergeSort leW)) = ((List.range (lens.length + 1)).map fun i => ((Ds.getD i []).map (·.1)).mergeSort leW).map layD := by rw [List.map_map]; rfl
    rw [e]
    generalize ((List.range (lens.length + 1)).map fun i => ((Ds.getD i []).map (·.1)).mergeSort leW) = Ls at *
    have hmk := init_stopped (as_plain (n := 3) (by omega) (layS Ds) (d := .tup (Ls.map layD)) (stop_pl hLs (by omega) (by omega)))
    have hz : Ls.length ≤ sizeLine := by rw [hLs.ln, szl]; omega
    generalize layS Ds = S at *
    simp -implicitDefEqProofs [-Int.natCast_add, hz, hmk]
    exact .inr ⟨Ls, rfl, hLs⟩

/-! ### values that as_tuples makes plain -/
def AsN (n : Nat) (d : D) : Prop := ∃ a, pl n a = true ∧ ∀ S, r_as_tuples (n + 1) [d] S = .ok a S
theorem AsN.of {m n : Nat} {d : D} (h : pl m d = true) (hm : m ≤ n) : AsN n d := ⟨d, pl_mono h hm, fun S => as_pl n d S (pl_mono h hm)⟩
theorem asN_fn {n : Nat} {xs : List D} (h : ∀ x ∈ xs, AsN n x) : ∃ g : D → D, ∀ x ∈ xs, pl n (g x) = true ∧ ∀ S, r_as_tuples (n + 1) [x] S = .ok (g x) S := by
  classical
  refine ⟨fun x => if q : AsN n x then q.choose else .non, fun x hx => ?_⟩
  have q := h x hx
  simp only [dif_pos q]
  exact q.choose_spec
theorem AsN.tup {n : Nat} {xs : List D} (h : ∀ x ∈ xs, AsN n x) (hl : xs.length ≤ 100000) : AsN (n + 1) (.tup xs) := by
  obtain ⟨g, hg⟩ := asN_fn h
  refine ⟨.tup (xs.map g), pl_mk (pls_of fun d hd => ?_) (by rw [List.length_map]; exact hl), fun S => ?_⟩
  · obtain ⟨x, hx, rfl⟩ := List.mem_map.mp hd
    exact (hg x hx).1
  · show runD 2 (b_as_tuples (r_as_tuples (n + 1))) [.tup xs] S = _
    unfold b_as_tuples
    have hz : (xs.map g).length ≤ sizeLine := by rw [List.length_map, szl]; omega
    simp -implicitDefEqProofs [-Int.natCast_add]
    rw [compL_self (g := g) xs (fun x hx => by simp -implicitDefEqProofs [-Int.natCast_add, (hg x hx).2 S])]
    generalize xs.map g = ys at *
    simp -implicitDefEqProofs [-Int.natCast_add, hz]
theorem AsN.lst {n : Nat} {xs : List D} (h : ∀ x ∈ xs, AsN n x) (hl : xs.length ≤ 100000) : AsN (n + 1) (.lst xs) := by
  obtain ⟨g, hg⟩ := asN_fn h
  refine ⟨.tup (xs.map g), pl_mk (pls_of fun d hd => ?_) (by rw [List.length_map]; exact hl), fun S => ?_⟩
  · obtain ⟨x, hx, rfl⟩ := List.mem_map.mp hd
    exact (hg x hx).1
  · show runD 2 (b_as_tuples (r_as_tuples (n + 1))) [.lst xs] S = _
    unfold b_as_tuples
    have hz : (xs.map g).length ≤ sizeLine := by rw [List.length_map, szl]; omega
    simp -implicitDefEqProofs [-Int.natCast_add]
    rw [compL_self (g := g) xs (fun x hx => by simp -implicitDefEqProofs [-Int.natCast_add, (hg x hx).2 S])]
    generalize xs.map g = ys at *
    simp -implicitDefEqProofs [-Int.natCast_add, hz]
/-- what the law hands to the judges -/
def BentS (d : D) : Prop := (∃ a, d = splD a ∧ pl 11 a = true) ∨ (∃ a, d = stpD a ∧ pl 11 a = true) ∨ d = .non ∨ ∃ xs, d = .tup xs
theorem AsN.split {d : D} (h : AsN 11 d) : ∃ v, BentS v ∧ ∀ S, m_Split_init [d] S = .ok v S := by
  obtain ⟨a, ha, h⟩ := h
  exact ⟨splD a, .inl ⟨a, rfl, ha⟩, fun S => init_split (h S)⟩
theorem AsN.stopped {d : D} (h : AsN 11 d) : ∃ v, BentS v ∧ ∀ S, m_Stopped_init [d] S = .ok v S := by
  obtain ⟨a, ha, h⟩ := h
  exact ⟨stpD a, .inr (.inl ⟨a, rfl, ha⟩), fun S => init_stopped (h S)⟩

/-! ### parts of plain values -/
theorem cut_mem {xs : List D} {lo hi : Option Int} {d : D} (h : d ∈ Ev.cutD xs lo hi) : d ∈ xs := by
  unfold Ev.cutD at h
  exact List.mem_of_mem_drop (List.mem_of_mem_take h)
theorem cut_len (xs : List D) (lo hi : Option Int) : (Ev.cutD xs lo hi).length ≤ xs.length := by
  unfold Ev.cutD
  rw [List.length_take, List.length_drop]
  omega
theorem pls_cut {n : Nat} {xs : List D} (h : pls n xs = true) (lo hi : Option Int) : pls n (Ev.cutD xs lo hi) = true := pls_of fun d hd => pls_mem h d (cut_mem hd)
theorem pls_app {n : Nat} {xs ys : List D} (h : pls n xs = true) (h2 : pls n ys = true) : pls n (xs ++ ys) = true := pls_of fun d hd => by
  rcases List.mem_append.mp hd with hd | hd
  · exact pls_mem h d hd
  · exact pls_mem h2 d hd
theorem pls_cons {n : Nat} {d : D} {ds : List D} (h : pl n d = true) (h2 : pls n ds = true) : pls n (d :: ds) = true := pls_of fun x hx => by
  rcases List.mem_cons.mp hx with rfl | hx
  · exact h
  · exact pls_mem h2 x hx
theorem pls_rev {n : Nat} {xs : List D} (h : pls n xs = true) : pls n xs.reverse = true := pls_of fun d hd => pls_mem h d (List.mem_reverse.mp hd)
theorem max1 (n : Nat) : dMax [.int 1, .int (n : Int)] = some (.int ((max 1 n : Nat) : Int)) := by
  show some (D.int (if (n : Int) > 1 then (n : Int) else 1)) = _
  by_cases h : (n : Int) > 1
  · rw [if_pos h, Nat.max_eq_right (by omega)]
  · rw [if_neg h, Nat.max_eq_left (by omega)]
    rfl
theorem catL {xs ys : List D} (h1 : xs.length ≤ 10000) (h2 : ys.length ≤ 10000) : dCatF (.lst xs) (.lst ys) = some (.lst (xs ++ ys)) := by
  show (if xs.length + ys.length ≤ sizeLine then some (D.lst (xs ++ ys)) else none) = _
  rw [if_pos (by rw [szl]; omega)]
theorem appL {xs : List D} {d : D} (h1 : xs.length ≤ 10000) : mAppend xs [d] = some (xs ++ [d], .non) := by
  show (if _ then _ else _) = _
  rw [if_pos (by rw [szl]; omega)]
theorem tadd {xs ys : List D} (h1 : xs.length ≤ 20000) (h2 : ys.length ≤ 20000) : dAdd (.tup xs) (.tup ys) = some (.tup (xs ++ ys)) := by
  show (if xs.length + ys.length ≤ sizeLine then some (D.tup (xs ++ ys)) else none) = _
  rw [if_pos (by rw [szl]; omega)]
theorem rgFour : dRange [.int 4] = some ((List.range 4).map fun (k : Nat) => .int (k : Int)) := rg1 (j := 4) (by omega)

/-! ### a Split bent -/
theorem asN_rows {m : Nat} {R : List (List Nat)} (h : RowsM m R) (hm : m ≤ 3) : ∀ x ∈ R.map natT, AsN 10 x := fun x hx => by
  obtain ⟨r, hr, rfl⟩ := List.mem_map.mp hx
  exact .of (pl_nats 0 r (by rw [h r hr]; omega)) (by omega)
theorem asN_sub {n : Nat} {xs ys : List D} (h : ∀ x ∈ xs, AsN n x) (hs : ∀ y ∈ ys, y ∈ xs) : ∀ y ∈ ys, AsN n y := fun y hy => h y (hs y hy)
theorem asN_app {n : Nat} {xs ys : List D} (h : ∀ x ∈ xs, AsN n x) (h2 : ∀ x ∈ ys, AsN n x) : ∀ x ∈ xs ++ ys, AsN n x := fun x hx => (List.mem_append.mp hx).elim (h x) (h2 x)
theorem asN_one {n : Nat} {d : D} (h : AsN n d) : ∀ x ∈ [d], AsN n x := fun x hx => by
  rw [List.mem_singleton] at hx
  subst hx
  exact h
theorem asN_rep {n k : Nat} {d : D} (h : AsN n d) : ∀ x ∈ List.replicate k d, AsN n x := fun x hx => by
  rw [List.eq_of_mem_replicate hx]
  exact h
theorem rep_tup {d : D} {n : Nat} (h1 : 1 ≤ n) (h2 : n ≤ 100) : dMulA (.tup [d]) (.int (n : Int)) = some (.tup (List.replicate n d)) := by
  have e : ∀ n : Nat, (List.replicate n [d]).flatten = List.replicate n d := fun n => by
    induction n with
    | zero => rfl
    | succ n ih => rw [List.replicate_succ, List.flatten_cons, ih, List.replicate_succ]; rfl
  by_cases h1 : n = 1
  · subst h1
    rfl
  · show (if (n : Int) = 1 then some (D.tup [d]) else if ([d] ≠ [] ∧ 2 ≤ (n : Int) ∧ (n : Int) ≤ 1000 ∧ [d].length ≤ 1000) then some (D.tup (List.replicate (n : Int).toNat [d]).flatten) else none) = _
    rw [if_neg (by omega), if_pos ⟨by simp, by omega, by omega, by simp⟩, Int.toNat_natCast, e]
theorem rep5 (v : D) : dRepF (.lst [v]) (.int 5) = some (.lst [v, v, v, v, v]) := by
  have e : rpOk 1 5 = true := by decide +kernel
  show (if rpOk 1 5 = true then some (D.lst (List.replicate 5 [v]).flatten) else none) = _
  rw [if_pos e]
  rfl
theorem before_at {xs : List D} {k : Nat} (h : k < xs.length) : ∃ d ∈ xs, dIx (.tup xs) (.int ((k : Int) - 1)) = some d := by
  match k, h with
  | 0, h =>
    refine ⟨_, List.getElem_mem (l := xs) (n := xs.length - 1) (by omega), ?_⟩
    exact ix_last (n := xs.length - 1) (by omega) (List.getElem?_eq_getElem (by omega))
  | k + 1, h =>
    refine ⟨_, List.getElem_mem (l := xs) (n := k) (by omega), ?_⟩
    rw [show ((k + 1 : Nat) : Int) - 1 = (k : Int) by omega]
    exact d_ixt (List.getElem?_eq_getElem (by omega))
theorem bentS_ok {R S : Sto} (h : PenS R S) {s : ShopT} (hs : Sh s) {rows : List (List Nat)} (hr : RowsM s.pieces.length rows) (hr1 : 0 < rows.length) (hr4 : rows.length ≤ 4) : (m__law_bent [.mref 0, s.t, splD (layD rows)] S).post fun d S' => BentS d ∧ PenS R S' := by
  have hp3 := hs.p3
  have hm1 := hs.pc.len.1
  have ht1 : dIx s.t (.int 1) = some (.tup (s.pieces.map pieceD)) := d_ix1 _ _ _
  have hz := zero_row (n := s.pieces.length) hm1 (by omega)
  have h1 : attrD at_patterns "patterns" (splD (layD rows)) S = .ok (.tup (rows.map natT)) S := sp_pat _ S
  have h3 : isOwn OWN "Split" (splD (layD rows)) = some true := sp_is _
  have hra := asN_rows hr hp3
  generalize splD (layD rows) = tl at *
  have hrn : (rows.map natT).length = rows.length := List.length_map ..
  unfold m__law_bent b__law_bent
  simp -implicitDefEqProofs [-Int.natCast_add, ht1, hz, h3, h1, max1]
  refine then_post (draw_post h (by omega) (by omega)) fun d S1 ⟨⟨at_, e, hat⟩, h⟩ => ?_
  subst e
  rw [Nat.max_eq_right hr1] at hat
  have hpls : pls 1 (rows.map natT) = true := pls_of fun d hd => by
    obtain ⟨r, hr', rfl⟩ := List.mem_map.mp hd
    exact pl_nats 0 r (by rw [hr r hr']; omega)
  have hne := cmp_nilT (n := 1) (by omega) hpls true
  have hat' : at_ < rows.length := by omega
  obtain ⟨row, hrow⟩ : ∃ row, rows[at_]? = some row := ⟨_, List.getElem?_eq_getElem hat'⟩
  have hrl := hr row (List.mem_of_getElem? hrow)
  have hix : dIx (.tup (rows.map natT)) (.int (at_ : Int)) = some (.tup (row.map fun (n : Nat) => D.int (n : Int))) := d_ixt (by rw [List.getElem?_map, hrow]; rfl)
  obtain ⟨lv, hlv⟩ : ∃ lv, row[s.pieces.length - 1]? = some lv := ⟨_, List.getElem?_eq_getElem (by omega)⟩
  have hlast : dIx (.tup (row.map fun (n : Nat) => D.int (n : Int))) (.int (-1)) = some (.int (lv : Int)) := ix_last (n := s.pieces.length - 1) (by rw [List.length_map]; omega) (by rw [List.getElem?_map, hlv]; rfl)
  obtain ⟨bf, hbf, hbe⟩ := before_at (xs := rows.map natT) (k := at_) (by omega)
  have hbA := hra bf hbf
  have hrA : ∀ x ∈ row.map (fun (n : Nat) => D.int (n : Int)), AsN 9 x := fun x hx => by
    obtain ⟨n, _, rfl⟩ := List.mem_map.mp hx
    exact .of (m := 0) rfl (by omega)
  have hzA : AsN 10 (natT (List.replicate s.pieces.length 0)) := .of (pl_nats 0 _ (by rw [List.length_replicate]; omega)) (by omega)
  have ht1 := rep_tup (d := .bl true) hm1 (by omega)
  have ht2 := rep_tup (d := .int (-1)) hm1 (by omega)
  have htA : AsN 10 (.tup (List.replicate s.pieces.length (.bl true))) := .tup (asN_rep (.of (m := 0) rfl (by omega))) (by rw [List.length_replicate]; omega)
  have hmA : AsN 10 (.tup (List.replicate s.pieces.length (.int (-1)))) := .tup (asN_rep (.of (m := 0) rfl (by omega))) (by rw [List.length_replicate]; omega)
  have hA1 := tadd (xs := rows.map natT) (ys := [natT (List.replicate s.pieces.length 0)]) (by omega) (by simp)
  have hM1 := rep_tup (d := natT (List.replicate s.pieces.length 0)) hr1 (by omega)
  have hAA : ∀ x ∈ rows.map natT ++ [natT (List.replicate s.pieces.length 0)], AsN 10 x := asN_app hra (asN_one hzA)
  have hMA : ∀ x ∈ List.replicate rows.length (natT (List.replicate s.pieces.length 0)), AsN 10 x := asN_rep hzA
  have hAl : (rows.map natT ++ [natT (List.replicate s.pieces.length 0)]).length ≤ 1000 := by rw [List.length_append, List.length_singleton]; omega
  have hMl : (List.replicate rows.length (natT (List.replicate s.pieces.length 0))).length ≤ 1000 := by rw [List.length_replicate]; omega
  generalize List.replicate rows.length (natT (List.replicate s.pieces.length 0)) = mz at *
  generalize natT (List.replicate s.pieces.length 0) = zr at *
  generalize D.tup (List.replicate s.pieces.length (.bl true)) = tr at *
  generalize D.tup (List.replicate s.pieces.length (.int (-1))) = mr at *
  generalize rows.map natT = xs at *
  have hxne : xs ≠ [] := fun z => by rw [z] at hrn; simp at hrn; omega
  have hrdl : (row.map fun (n : Nat) => D.int (n : Int)).length ≤ 3 := by rw [List.length_map]; omega
  generalize (row.map fun (n : Nat) => D.int (n : Int)) = rd at *
  have hcl := cut_len rd none (some (-1))
  have hA2 := tadd (xs := Ev.cutD rd none (some (-1))) (ys := [.int ((lv : Int) + 1)]) (by omega) (by simp)
  simp -implicitDefEqProofs [-Int.natCast_add, hA1, hM1, hne, hxne, hix, hlast, hA2, ht1, ht2, hbe, rgFour]
  have hcx := fun a b => cut_len xs a b
  have hcx3 := hcx none (some (at_ : Int))
  have hcx4 := hcx (some ((at_ : Int) + 1)) none
  have p3 := asN_sub hra (ys := Ev.cutD xs none (some (at_ : Int))) fun y hy => cut_mem hy
  have p4 := asN_sub hra (ys := Ev.cutD xs (some ((at_ : Int) + 1)) none) fun y hy => cut_mem hy
  refine then_post (compL_post (I := PenS R) (R := fun d y => AsN 11 y) _ _ h fun d hd S h => ?_) fun ys S5 ⟨h, es⟩ => ?_
  · simp -implicitDefEqProofs [-Int.natCast_add]
    refine then_post (pick_lst h (by simp) (by simp)) fun d S4 ⟨hd, h⟩ => ?_
    have hp : AsN 10 d := by
      simp only [List.mem_cons, List.not_mem_nil, or_false] at hd
      rcases hd with rfl | rfl | rfl | rfl | rfl | rfl | rfl | rfl
      · exact .tup (asN_app (asN_sub hrA fun y hy => cut_mem hy) (asN_one (.of (m := 0) rfl (by omega)))) (by rw [List.length_append, List.length_singleton]; omega)
      · exact hzA
      · exact .tup (asN_sub hrA fun y hy => cut_mem hy) (by have := cut_len rd (some 1) none; omega)
      · exact .of (m := 0) rfl (by omega)
      · exact .lst hrA (by omega)
      · exact htA
      · exact hmA
      · exact hbA
    clear hd
    generalize Ev.cutD xs none (some (at_ : Int)) = c1 at *
    generalize Ev.cutD xs (some ((at_ : Int) + 1)) none = c2 at *
    have t1 := tadd (xs := c1) (ys := [d]) (by omega) (by simp)
    have t2 := tadd (xs := c1 ++ [d]) (ys := c2) (by rw [List.length_append, List.length_singleton]; omega) (by omega)
    have pl2 : AsN 11 (.tup (c1 ++ [d] ++ c2)) := .tup (asN_app (asN_app p3 (asN_one hp)) p4) (by simp only [List.length_append, List.length_singleton]; omega)
    rw [t1]
    simp -implicitDefEqProofs [-Int.natCast_add]
    have t2' : dAdd (.tup (c1 ++ [d])) (.tup c2) = some (.tup (c1 ++ d :: c2)) := by rw [t2]; simp
    have pl2' : AsN 11 (.tup (c1 ++ d :: c2)) := by rw [show c1 ++ d :: c2 = c1 ++ [d] ++ c2 by simp]; exact pl2
    simp -implicitDefEqProofs [-Int.natCast_add, t2']
    exact ⟨h, pl2'⟩
  · have hyl : ys.length = 4 := by have := es.length; simpa using this.symm
    have hyb : ∀ y ∈ ys, AsN 11 y := fun y hy => by
      obtain ⟨_, _, h⟩ := es.mem y hy
      exact h
    have hyz : ys.length ≤ sizeLine := by rw [hyl, szl]; omega
    have hcat := catL (xs := [D.tup (Ev.cutD xs (some 1) none), D.tup xs.reverse, D.tup (xs ++ [zr]), D.lst xs, D.non, D.tup mz]) (ys := ys) (by simp) (by omega)
    have hall : ∀ d ∈ [D.tup (Ev.cutD xs (some 1) none), D.tup xs.reverse, D.tup (xs ++ [zr]), D.lst xs, D.non, D.tup mz] ++ ys, AsN 11 d := asN_app (fun d hd => by
      simp only [List.mem_cons, List.not_mem_nil, or_false] at hd
      rcases hd with rfl | rfl | rfl | rfl | rfl | rfl
      · exact .tup (asN_sub hra fun y hy => cut_mem hy) (by have := hcx (some 1) none; omega)
      · exact .tup (asN_sub hra fun y hy => List.mem_reverse.mp hy) (by rw [List.length_reverse]; omega)
      · exact .tup hAA (by omega)
      · exact .lst hra (by omega)
      · exact .of (m := 0) rfl (by omega)
      · exact .tup hMA (by omega)) hyb
    have hn0 : [D.tup (Ev.cutD xs (some 1) none), D.tup xs.reverse, D.tup (xs ++ [zr]), D.lst xs, D.non, D.tup mz] ++ ys ≠ [] := by simp
    have hn1 : ([D.tup (Ev.cutD xs (some 1) none), D.tup xs.reverse, D.tup (xs ++ [zr]), D.lst xs, D.non, D.tup mz] ++ ys).length < 1073741824 := by rw [List.length_append]; simp; omega
    generalize [D.tup (Ev.cutD xs (some 1) none), D.tup xs.reverse, D.tup (xs ++ [zr]), D.lst xs, D.non, D.tup mz] ++ ys = XS at *
    simp -implicitDefEqProofs [-Int.natCast_add, hyz, hcat]
    refine then_post (pick_lst h hn0 hn1) fun d S6 ⟨hd, h⟩ => ?_
    obtain ⟨v, hv, hmk⟩ := (hall d hd).split
    simp -implicitDefEqProofs [-Int.natCast_add, hmk S6]
    have hrep := rep5 v
    have hcat2 := catL (xs := [v, v, v, v, v]) (ys := [.tup xs, .non]) (by simp) (by simp)
    simp -implicitDefEqProofs [-Int.natCast_add, hrep, hcat2]
    refine Res.post_mono (then_post (pick_lst h (by simp) (by simp)) fun d S7 ⟨hd, h⟩ => ?_) fun a S h => h
    refine ⟨?_, h⟩
    simp only [List.mem_append, List.mem_cons, List.not_mem_nil, or_false] at hd
    rcases hd with rfl | rfl | rfl | rfl | rfl | rfl | rfl
    · exact hv
    · exact hv
    · exact hv
    · exact hv
    · exact hv
    · exact .inr (.inr (.inr ⟨_, rfl⟩))
    · exact .inr (.inr (.inl rfl))

/-! ### a Stopped bent -/
theorem mul99 {n : Nat} (h1 : 1 ≤ n) (h2 : n ≤ 100) : dMulA (.tup [.int 99]) (.int (n : Int)) = some (.tup (List.replicate n (.int 99))) := rep_tup h1 h2
theorem asN_lay {m : Nat} {R : List (List Nat)} (h : RowsM m R) (hm : m ≤ 3) (hl : R.length ≤ 60000) : AsN 11 (layD R) := .tup (asN_rows h hm) (by rw [List.length_map]; omega)
theorem asN_lay10 {m : Nat} {R : List (List Nat)} (h : RowsM m R) (hm : m ≤ 3) (hl : R.length ≤ 60000) : AsN 10 (layD R) := .of (pl_rows 0 R (by omega) fun r hr => by rw [h r hr]; omega) (by omega)
theorem bentT_ok {R S : Sto} (h : PenS R S) {s : ShopT} (hs : Sh s) {lens : List Nat} (hl4 : lens.length ≤ 4) {Ls : List (List (List Nat))} (hL : StopP s lens Ls) : (m__law_bent [.mref 0, s.t, stpD (.tup (Ls.map layD))] S).post fun d S' => BentS d ∧ PenS R S' := by
  have hp3 := hs.p3
  have hm1 := hs.pc.len.1
  have hln := hL.ln
  have ht1 : dIx s.t (.int 1) = some (.tup (s.pieces.map pieceD)) := d_ix1 _ _ _
  have h1 : attrD at_layers "layers" (stpD (.tup (Ls.map layD))) S = .ok (.tup (Ls.map layD)) S := st_lay _ S
  have h3 : isOwn OWN "Split" (stpD (.tup (Ls.map layD))) = some false := st_isnt _
  have hra : ∀ x ∈ Ls.map layD, AsN 10 x := fun x hx => by
    obtain ⟨R, hR, rfl⟩ := List.mem_map.mp hx
    exact asN_lay10 (hL.all R hR).1 hp3 (hL.all R hR).2
  generalize stpD (.tup (Ls.map layD)) = tl at *
  have hrn : (Ls.map layD).length = Ls.length := List.length_map ..
  unfold m__law_bent b__law_bent
  simp -implicitDefEqProofs [-Int.natCast_add, ht1, h3, h1]
  refine then_post (draw_post h (by omega) (by omega)) fun d S1 ⟨⟨at_, e, hat⟩, h⟩ => ?_
  subst e
  have hat' : at_ < Ls.length := by omega
  obtain ⟨lay, hlay⟩ : ∃ lay, Ls[at_]? = some lay := ⟨_, List.getElem?_eq_getElem hat'⟩
  have hlR := hL.all lay (List.mem_of_getElem? hlay)
  have hix : dIx (.tup (Ls.map layD)) (.int (at_ : Int)) = some (.tup (lay.map natT)) := d_ixt (by rw [List.getElem?_map, hlay]; rfl)
  have hrA : ∀ x ∈ lay.map natT, AsN 9 x := fun x hx => by
    obtain ⟨r, hr, rfl⟩ := List.mem_map.mp hx
    exact .of (pl_nats 0 r (by rw [hlR.1 r hr]; omega)) (by omega)
  have hrdl : (lay.map natT).length ≤ 60000 := by rw [List.length_map]; exact hlR.2
  generalize lay.map natT = rd at *
  generalize Ls.map layD = xs at *
  have hm99 := rep_tup (d := .int 99) hm1 (by omega)
  have hm99' : dMulA (.tup [.int 99]) (.int ((s.pieces.length : Int) + 1)) = some (.tup (List.replicate (s.pieces.length + 1) (.int 99))) := rep_tup (n := s.pieces.length + 1) (by omega) (by omega)
  have hmm1 := rep_tup (d := .int (-1)) hm1 (by omega)
  have h9A : AsN 9 (.tup (List.replicate s.pieces.length (.int 99))) := .tup (asN_rep (.of (m := 0) rfl (by omega))) (by rw [List.length_replicate]; omega)
  have h9A' : AsN 9 (.tup (List.replicate (s.pieces.length + 1) (.int 99))) := .tup (asN_rep (.of (m := 0) rfl (by omega))) (by rw [List.length_replicate]; omega)
  have hmA : AsN 9 (.tup (List.replicate s.pieces.length (.int (-1)))) := .tup (asN_rep (.of (m := 0) rfl (by omega))) (by rw [List.length_replicate]; omega)
  generalize D.tup (List.replicate s.pieces.length (.int 99)) = n1 at *
  generalize D.tup (List.replicate (s.pieces.length + 1) (.int 99)) = n2 at *
  generalize D.tup (List.replicate s.pieces.length (.int (-1))) = n3 at *
  have hcr := fun a b => cut_len rd a b
  have a1 : dAdd (.tup rd) (.tup (Ev.cutD rd none (some 1))) = some (.tup (rd ++ Ev.cutD rd none (some 1))) := by
    rw [d_add_tup]
    have : (Ev.cutD rd none (some 1)).length ≤ rd.length := hcr none (some 1)
    rw [szl]
    omega
  have a2 := d_add_tup rd [n1] (by rw [szl, List.length_singleton]; omega)
  have a3 := d_add_tup rd [n2] (by rw [szl, List.length_singleton]; omega)
  have a4 := d_add_tup rd [.non] (by rw [szl, List.length_singleton]; omega)
  have a5 := d_add_tup [n3] rd (by rw [szl, List.length_singleton]; omega)
  have hc1 : (Ev.cutD rd none (some 1)).length ≤ 1 := by
    unfold Ev.cutD
    rw [HT.sIx_none, show HT.sIx rd.length rd.length (some 1) = min 1 rd.length from HT.sIx_nat _ _ 1, List.length_take]
    omega
  have rgF : dRange [.int 5] = some ((List.range 5).map fun (k : Nat) => .int (k : Int)) := rg1 (j := 5) (by omega)
  have hcx := fun a b => cut_len xs a b
  have hcx3 := hcx none (some (at_ : Int))
  have hcx4 := hcx (some ((at_ : Int) + 1)) none
  have p3 := asN_sub hra (ys := Ev.cutD xs none (some (at_ : Int))) fun y hy => cut_mem hy
  have p4 := asN_sub hra (ys := Ev.cutD xs (some ((at_ : Int) + 1)) none) fun y hy => cut_mem hy
  simp -implicitDefEqProofs [-Int.natCast_add, hix, hm99, hm99', hmm1, a1, a2, a3, a4, a5, rgF]
  refine then_post (compL_post (I := PenS R) (R := fun d y => AsN 11 y) _ _ h fun d hd S h => ?_) fun ys S5 ⟨h, es⟩ => ?_
  · simp -implicitDefEqProofs [-Int.natCast_add]
    refine then_post (pick_lst h (by simp) (by simp)) fun d S4 ⟨hd, h⟩ => ?_
    have hp : AsN 10 d := by
      simp only [List.mem_cons, List.not_mem_nil, or_false] at hd
      rcases hd with rfl | rfl | rfl | rfl | rfl | rfl | rfl | rfl | rfl | rfl | rfl
      · exact .tup (asN_sub hrA fun y hy => cut_mem hy) (by have := hcr (some 1) none; omega)
      · exact .tup (asN_sub hrA fun y hy => cut_mem hy) (by have := hcr none (some (-1)); omega)
      · exact .tup (asN_sub hrA fun y hy => List.mem_reverse.mp hy) (by rw [List.length_reverse]; omega)
      · exact .tup (asN_app hrA (asN_sub hrA fun y hy => cut_mem hy)) (by rw [List.length_append]; omega)
      · exact .tup (fun x hx => (nomatch hx)) (by simp)
      · exact .of (m := 0) rfl (by omega)
      · exact .lst hrA (by omega)
      · exact .tup (asN_app hrA (asN_one h9A)) (by rw [List.length_append, List.length_singleton]; omega)
      · exact .tup (asN_app hrA (asN_one h9A')) (by rw [List.length_append, List.length_singleton]; omega)
      · exact .tup (asN_app hrA (asN_one (.of (m := 0) rfl (by omega)))) (by rw [List.length_append, List.length_singleton]; omega)
      · exact .tup (asN_app (asN_one hmA) hrA) (by rw [List.length_cons]; omega)
    clear hd
    generalize Ev.cutD xs none (some (at_ : Int)) = c1 at *
    generalize Ev.cutD xs (some ((at_ : Int) + 1)) none = c2 at *
    have t1 := tadd (xs := c1) (ys := [d]) (by omega) (by simp)
    have t2 := tadd (xs := c1 ++ [d]) (ys := c2) (by rw [List.length_append, List.length_singleton]; omega) (by omega)
    have pl2 : AsN 11 (.tup (c1 ++ [d] ++ c2)) := .tup (asN_app (asN_app p3 (asN_one hp)) p4) (by simp only [List.length_append, List.length_singleton]; omega)
    rw [t1]
    simp -implicitDefEqProofs [-Int.natCast_add]
    have t2' : dAdd (.tup (c1 ++ [d])) (.tup c2) = some (.tup (c1 ++ d :: c2)) := by rw [t2]; simp
    have pl2' : AsN 11 (.tup (c1 ++ d :: c2)) := by rw [show c1 ++ d :: c2 = c1 ++ [d] ++ c2 by simp]; exact pl2
    simp -implicitDefEqProofs [-Int.natCast_add, t2']
    exact ⟨h, pl2'⟩
  · have hyl : ys.length = 5 := by have := es.length; simpa using this.symm
    have hyb : ∀ y ∈ ys, AsN 11 y := fun y hy => by
      obtain ⟨_, _, h⟩ := es.mem y hy
      exact h
    have hyz : ys.length ≤ sizeLine := by rw [hyl, szl]; omega
    have hA1 := tadd (xs := xs) (ys := [.tup []]) (by omega) (by simp)
    have heA : AsN 10 (.tup []) := .tup (n := 9) (fun x hx => (nomatch hx)) (by simp)
    have hcat := catL (xs := ys) (ys := [D.tup (Ev.cutD xs (some 1) none), D.tup xs.reverse, D.tup (xs ++ [.tup []]), D.lst xs, D.non]) (by omega) (by simp)
    have hall : ∀ d ∈ ys ++ [D.tup (Ev.cutD xs (some 1) none), D.tup xs.reverse, D.tup (xs ++ [.tup []]), D.lst xs, D.non], AsN 11 d := asN_app hyb (fun d hd => by
      simp only [List.mem_cons, List.not_mem_nil, or_false] at hd
      rcases hd with rfl | rfl | rfl | rfl | rfl
      · exact .tup (asN_sub hra fun y hy => cut_mem hy) (by have := hcx (some 1) none; omega)
      · exact .tup (asN_sub hra fun y hy => List.mem_reverse.mp hy) (by rw [List.length_reverse]; omega)
      · exact .tup (asN_app hra (asN_one heA)) (by rw [List.length_append, List.length_singleton]; omega)
      · exact .lst hra (by omega)
      · exact .of (m := 0) rfl (by omega))
    have hn0 : ys ++ [D.tup (Ev.cutD xs (some 1) none), D.tup xs.reverse, D.tup (xs ++ [.tup []]), D.lst xs, D.non] ≠ [] := by simp
    have hn1 : (ys ++ [D.tup (Ev.cutD xs (some 1) none), D.tup xs.reverse, D.tup (xs ++ [.tup []]), D.lst xs, D.non]).length < 1073741824 := by rw [List.length_append]; simp; omega
    generalize ys ++ [D.tup (Ev.cutD xs (some 1) none), D.tup xs.reverse, D.tup (xs ++ [.tup []]), D.lst xs, D.non] = XS at *
    simp -implicitDefEqProofs [-Int.natCast_add, hyz, hA1, hcat]
    refine then_post (pick_lst h hn0 hn1) fun d S6 ⟨hd, h⟩ => ?_
    obtain ⟨v, hv, hmk⟩ := (hall d hd).stopped
    have hrep := rep5 v
    have hcat2 := catL (xs := [v, v, v, v, v]) (ys := [.tup xs, .non]) (by simp) (by simp)
    simp -implicitDefEqProofs [-Int.natCast_add, hmk S6, hrep, hcat2]
    refine Res.post_mono (then_post (pick_lst h (by simp) (by simp)) fun d S7 ⟨hd, h⟩ => ?_) fun a S h => h
    refine ⟨?_, h⟩
    simp only [List.mem_append, List.mem_cons, List.not_mem_nil, or_false] at hd
    rcases hd with rfl | rfl | rfl | rfl | rfl | rfl | rfl
    · exact hv
    · exact hv
    · exact hv
    · exact hv
    · exact hv
    · exact .inr (.inr (.inr ⟨_, rfl⟩))
    · exact .inr (.inr (.inl rfl))

/-! ### the judges agree -/
section
variable {s : ShopT} {x : Str × Nat × Option Nat × Nat} {L : List Fl} {tg : List Nat} {v : D}
theorem split_not (A : At s x L) (ht : tg.length = s.pieces.length) (h : isOwn OWN "Split" v = some false) (S : Sto) : m_split_holds [s.o, .int 0, .tup (L.map faultD), natT tg, v] S = .ok (.bl false) S := by
  have hp3 := A.hs.p3
  have hf := need_faults_ok A S
  have hfree := free_of A S
  have hpat := npat_ok ht (by omega) S
  generalize L.map faultD = fd at *
  unfold m_split_holds b_split_holds
  simp -implicitDefEqProofs [-Int.natCast_add, hf, hfree, hpat, h]
theorem stopped_not (A : At s x L) (ht : tg.length = s.pieces.length) (h : isOwn OWN "Stopped" v = some false) (S : Sto) : m_stopped_holds [s.o, .int 0, .tup (L.map faultD), natT tg, v] S = .ok (.bl false) S := by
  have hp3 := A.hs.p3
  have hf := need_faults_ok A S
  have hfree := free_of A S
  have hpat := npat_ok ht (by omega) S
  generalize L.map faultD = fd at *
  unfold m_stopped_holds b_stopped_holds
  simp -implicitDefEqProofs [-Int.natCast_add, hf, hfree, hpat, h]
theorem lsplit_not {lens : List Nat} (h : isOwn OWN "Split" v = some false) (S : Sto) : m__law_split_right [s.t, natT lens, natT tg, v] S = .ok (.bl false) S := by
  have ht1 : dIx s.t (.int 1) = some (.tup (s.pieces.map pieceD)) := d_ix1 _ _ _
  unfold m__law_split_right b__law_split_right
  simp -implicitDefEqProofs [-Int.natCast_add, ht1, h]
theorem lstopped_not {lens : List Nat} (h : isOwn OWN "Stopped" v = some false) (S : Sto) : m__law_stopped_right [s.t, natT lens, natT tg, v] S = .ok (.bl false) S := by
  have ht1 : dIx s.t (.int 1) = some (.tup (s.pieces.map pieceD)) := d_ix1 _ _ _
  unfold m__law_stopped_right b__law_stopped_right
  simp -implicitDefEqProofs [-Int.natCast_add, ht1, h]
theorem judges_ok (A : At s x L) (h15 : x.2.1 ≤ 15) (ht : tg.length = s.pieces.length) (hv : BentS v) (S : Sto) : ∃ b c, m_split_holds [s.o, .int 0, .tup (L.map faultD), natT tg, v] S = .ok (.bl b) S ∧ m__law_split_right [s.t, natT (freeL x.2.1 L), natT tg, v] S = .ok (.bl b) S ∧ m_stopped_holds [s.o, .int 0, .tup (L.map faultD), natT tg, v] S = .ok (.bl c) S ∧ m__law_stopped_right [s.t, natT (freeL x.2.1 L), natT tg, v] S = .ok (.bl c) S := by
  have hl4 := freeL_len (len := x.2.1) A.ok.n3
  have hle : ∀ l ∈ freeL x.2.1 L, l ≤ 15 := fun l hl => Nat.le_trans (freeL_le A.ok l hl) h15
  rcases hv with ⟨a, rfl, ha⟩ | ⟨a, rfl, ha⟩ | rfl | ⟨xs, rfl⟩
  · exact ⟨_, _, split_pl (n := 11) (by omega) A ht ha S, lsplit_pl (n := 11) (by omega) A.hs hl4 ht ha S, stopped_not A ht (sp_isnt a) S, lstopped_not (sp_isnt a) S⟩
  · exact ⟨_, _, split_not A ht (st_isnt a) S, lsplit_not (st_isnt a) S, stopped_pl (n := 11) (by omega) A hle ht ha S, lstopped_pl (n := 11) (by omega) A.hs hl4 hle ht ha S⟩
  · exact ⟨_, _, split_not A ht rfl S, lsplit_not rfl S, stopped_not A ht rfl S, lstopped_not rfl S⟩
  · exact ⟨_, _, split_not A ht rfl S, lsplit_not rfl S, stopped_not A ht rfl S, lstopped_not rfl S⟩
end

/-! ### the changed shop -/
theorem cut_to (xs : List D) (n : Nat) (h : n ≤ xs.length) : Ev.cutD xs none (some (n : Int)) = xs.take n := by
  unfold Ev.cutD
  rw [HT.sIx_none, HT.sIx_nat, Nat.sub_zero, List.drop_zero, Nat.min_eq_left h]
theorem cut_from (xs : List D) (n : Nat) (h : n < xs.length) : Ev.cutD xs (some ((n : Int) + 1)) none = xs.drop (n + 1) := by
  unfold Ev.cutD
  rw [HT.sIx_none, show ((n : Int) + 1) = ((n + 1 : Nat) : Int) by omega, HT.sIx_nat, Nat.min_eq_left (by omega)]
  rw [List.take_of_length_le (by rw [List.length_drop]; omega)]
theorem cut_set {xs : List D} {n : Nat} (h : n < xs.length) (hl : xs.length ≤ 1000) (d : D) :
    dAdd (.tup (Ev.cutD xs none (some (n : Int)))) (.tup [d]) = some (.tup (xs.take n ++ [d])) ∧ dAdd (.tup (xs.take n ++ [d])) (.tup (Ev.cutD xs (some ((n : Int) + 1)) none)) = some (.tup (xs.set n d)) := by
  rw [cut_to xs n (by omega), cut_from xs n h]
  refine ⟨tadd (by rw [List.length_take]; omega) (by simp), ?_⟩
  rw [tadd (by rw [List.length_append, List.length_take, List.length_singleton]; omega) (by rw [List.length_drop]; omega), List.set_eq_take_append_cons_drop, if_pos h]
  simp
theorem cut_tail (xs : List D) : Ev.cutD xs (some 1) none = xs.tail := by
  cases xs with
  | nil => rfl
  | cons a xs => exact cut_from (a :: xs) 0 (by simp)
/-! ### what split gave -/
def PaperOk (s : ShopT) (lens : List Nat) (v : D) : Prop := (∃ R, v = splD (layD R) ∧ SplitP s lens R) ∨ (∃ Ls, v = stpD (.tup (Ls.map layD)) ∧ StopP s lens Ls)
theorem paper_bent {R S : Sto} (h : PenS R S) {s : ShopT} (hs : Sh s) {lens : List Nat} (h1 : lens ≠ []) (h4 : lens.length ≤ 4) {v : D} (hv : PaperOk s lens v) : (m__law_bent [.mref 0, s.t, v] S).post fun d S' => BentS d ∧ PenS R S' := by
  rcases hv with ⟨Q, rfl, hQ⟩ | ⟨Ls, rfl, hL⟩
  · exact bentS_ok h hs hQ.all (by rw [hQ.ln]; exact List.length_pos_iff.mpr h1) (by rw [hQ.ln]; exact h4)
  · exact bentT_ok h hs h4 hL
theorem paper_plain {s : ShopT} (hs : Sh s) {lens : List Nat} (h4 : lens.length ≤ 4) {v : D} (hv : PaperOk s lens v) : BentS v := by
  have hp3 := hs.p3
  rcases hv with ⟨Q, rfl, hQ⟩ | ⟨Ls, rfl, hL⟩
  · exact .inl ⟨_, rfl, pl_mono (pl_rows 0 Q (by rw [hQ.ln]; omega) fun r hr => by rw [hQ.all r hr]; omega) (by omega)⟩
  · exact .inr (.inl ⟨_, rfl, pl_mono (stop_pl hL h4 hp3) (by omega)⟩)
theorem turn_ok {s : ShopT} {x : Str × Nat × Option Nat × Nat} {L : List Fl} (A : At s x L) (h5 : 5 ≤ x.2.1) (h15 : x.2.1 ≤ 15) {F : List (List Nat)} (hF : FoundOk s 68 F) {tg : List Nat} (ht : tg.length = s.pieces.length) {pv : D} (hpv : PaperOk s (freeL x.2.1 L) pv) {j : Nat} (hj : j < 9) {ρ : DEnv} {S : Sto} (hp : PenS [] S)
    (h : St [none, some (.mref 0), none, some (s.t), some (s.o), some (.int (x.2.1 : Int)), some (.tup (L.map faultD)), some (.lst (F.map natT)), some (natT tg), none, some (pv), some (.int (j : Int)), none, none, none, none, none, none] ρ) :
    (b_law_f402 ρ S).post fun o S' => PenS [] S' ∧ ∃ ρ', o = .nx ρ' ∧ St [none, some (.mref 0), none, some (s.t), some (s.o), some (.int (x.2.1 : Int)), some (.tup (L.map faultD)), some (.lst (F.map natT)), some (natT tg), none, some (pv), none, none, none, none, none, none, none] ρ' := by
  have hl4 := freeL_len (len := x.2.1) A.ok.n3
  have hlne := freeL_ne A.ok h5
  unfold b_law_f402
  refine then_post (P := fun o S' => PenS [] S' ∧ ∃ ρ' v, o = .nx ρ' ∧ BentS v ∧ St [none, some (.mref 0), none, some (s.t), some (s.o), some (.int (x.2.1 : Int)), some (.tup (L.map faultD)), some (.lst (F.map natT)), some (natT tg), none, some (pv), none, some (v), none, none, none, none, none] ρ') ?_ fun o S1 ⟨hp, ρ, v, e, hv, h⟩ => ?_
  · repeat (first | (replace h := St.some h; obtain ⟨_, rfl, h⟩ := h) | (replace h := St.none h; obtain ⟨_, _, rfl, h⟩ := h))
    cases St.nil h
    by_cases q : j = 0
    · subst q
      have hb := paper_plain A.hs hl4 hpv
      simp -implicitDefEqProofs [-Int.natCast_add]
      exact ⟨hp, hb⟩
    · have q' : ¬ (j : Int) = 0 := by omega
      simp -implicitDefEqProofs [-Int.natCast_add, q', q]
      refine then_post (paper_bent hp A.hs hlne hl4 hpv) fun v S2 ⟨hv, hp⟩ => ?_
      simp -implicitDefEqProofs [-Int.natCast_add]
      exact ⟨hp, hv⟩
  · subst e
    repeat (first | (replace h := St.some h; obtain ⟨_, rfl, h⟩ := h) | (replace h := St.none h; obtain ⟨_, _, rfl, h⟩ := h))
    cases St.nil h
    simp -implicitDefEqProofs [-Int.natCast_add]
    refine then_post (pick_lst hp (by simpa using hF.ne) (by rw [List.length_map]; have := hF.ln; omega)) fun d S2 ⟨hd, hp⟩ => ?_
    obtain ⟨r2, hr2, rfl⟩ := List.mem_map.mp hd
    refine then_post (pick_lst hp (by simp) (by simp)) fun d S3 ⟨hd, hp⟩ => ?_
    obtain ⟨tg2, e, ht2⟩ : ∃ tg2 : List Nat, d = natT tg2 ∧ tg2.length = s.pieces.length := by
      simp only [List.mem_cons, List.not_mem_nil, or_false] at hd
      rcases hd with rfl | rfl | rfl | rfl
      · exact ⟨tg, rfl, ht⟩
      · exact ⟨tg, rfl, ht⟩
      · exact ⟨tg, rfl, ht⟩
      · exact ⟨r2, rfl, (hF.all r2 hr2).1⟩
    subst e
    have hct := cut_tail (L.map faultD)
    simp -implicitDefEqProofs [-Int.natCast_add, hct]
    refine then_post (pick_lst hp (by simp) (by simp)) fun d S4 ⟨hd, hp⟩ => ?_
    obtain ⟨L2, e, hL2⟩ : ∃ L2 : List Fl, d = .tup (L2.map faultD) ∧ FlOk x.2.1 L2 := by
      simp only [List.mem_cons, List.not_mem_nil, or_false] at hd
      rcases hd with rfl | rfl | rfl | rfl
      · exact ⟨L, rfl, A.ok⟩
      · exact ⟨L, rfl, A.ok⟩
      · exact ⟨L, rfl, A.ok⟩
      · exact ⟨L.tail, by rw [List.map_tail], A.ok.tail⟩
    subst e
    have A2 : At s x L2 := ⟨A.hs, A.hx, hL2⟩
    obtain ⟨b, c, j1, j2, j3, j4⟩ := judges_ok A2 h15 ht2 hv S4
    have hlf := law_free_ok (len := x.2.1) hL2.n3 S4
    have i1 := is_bool b b S4
    have i2 := is_bool c c S4
    generalize freeL x.2.1 L2 = ln2 at *
    generalize L2.map faultD = fd2 at *
    simp -implicitDefEqProofs [-Int.natCast_add, hlf, j1, j2, j3, j4, i1, i2]
    exact hp

/-! ### the law k83 -/
theorem Few13.sh {s : ShopT} (h : s.Few 1 3) : Sh s where
  st := h.st
  pc := h.pc
  p3 := h.pm
  kf := h.kf
  sl := fun x hx => by have := h.sl x hx; omega
  pl := fun x hx => by have := h.pl x hx; omega
theorem noMs_of : ∀ {ds : List D}, (∀ d ∈ ds, noM d = true) → noMs ds = true
  | [], _ => rfl
  | d :: ds, h => by
    show (noM d && noMs ds) = true
    rw [h d List.mem_cons_self, noMs_of fun x hx => h x (List.mem_cons_of_mem _ hx)]
    rfl
theorem noM_nat (r : List Nat) : noM (natT r) = true := noMs_of (ds := r.map fun (n : Nat) => D.int (n : Int)) fun d hd => by
  obtain ⟨n, _, rfl⟩ := List.mem_map.mp hd
  rfl
theorem noM_lay (R : List (List Nat)) : noM (layD R) = true := noMs_of (ds := R.map natT) fun d hd => by
  obtain ⟨r, _, rfl⟩ := List.mem_map.mp hd
  exact noM_nat r
theorem noM_flt (L : List Fl) : noM (.tup (L.map faultD)) = true := noMs_of (ds := L.map faultD) fun d hd => by
  obtain ⟨r, _, rfl⟩ := List.mem_map.mp hd
  rfl
theorem noM_stocks (s : ShopT) : noM (.tup (s.stocks.map stockD)) = true := noMs_of (ds := s.stocks.map stockD) fun d hd => by
  obtain ⟨⟨a, b, c, e⟩, _, rfl⟩ := List.mem_map.mp hd
  cases c <;> rfl
theorem noM_pieces (s : ShopT) : noM (.tup (s.pieces.map pieceD)) = true := noMs_of (ds := s.pieces.map pieceD) fun d hd => by
  obtain ⟨r, _, rfl⟩ := List.mem_map.mp hd
  rfl
theorem noM_t (s : ShopT) : noM s.t = true := by
  show (noM (.tup (s.stocks.map stockD)) && (noM (.tup (s.pieces.map pieceD)) && true)) = true
  rw [noM_stocks, noM_pieces]
  rfl
theorem noM_o (s : ShopT) : noM s.o = true := by
  show (noM (.tup (s.stocks.map stockD)) && (noM (.tup (s.pieces.map pieceD)) && true)) = true
  rw [noM_stocks, noM_pieces]
  rfl
theorem noM_paper {s : ShopT} {lens : List Nat} {v : D} (h : PaperOk s lens v) : noM v = true := by
  rcases h with ⟨R, rfl, _⟩ | ⟨Ls, rfl, _⟩
  · show (noM (layD R) && true) = true
    rw [noM_lay]
    rfl
  · show (noMs (Ls.map layD) && true) = true
    rw [noMs_of fun d hd => by
      obtain ⟨r, _, rfl⟩ := List.mem_map.mp hd
      exact noM_lay r]
    rfl
theorem lap_ok {ρ : DEnv} {S : Sto} (hp : PenS [] S) (h : St [none, some (.mref 0), none, none, none, none, none, none, none, none, none, none, none, none, none, none, none, none] ρ) : (b_law_f393 ρ S).post fun o S' => PenS [] S' ∧ ∃ ρ', o = .nx ρ' ∧ St [none, some (.mref 0), none, none, none, none, none, none, none, none, none, none, none, none, none, none, none, none] ρ' := by
  repeat (first | (replace h := St.some h; obtain ⟨_, rfl, h⟩ := h) | (replace h := St.none h; obtain ⟨_, _, rfl, h⟩ := h))
  cases St.nil h
  unfold b_law_f393
  simp -implicitDefEqProofs [-Int.natCast_add]
  refine then_post (few_ok hp (bars := 1) (most := 3) (by omega) (by omega)) fun d S1 ⟨⟨s, e, hf⟩, hp⟩ => ?_
  subst e
  have hs := Few13.sh hf
  obtain ⟨x, hx⟩ : ∃ x, s.stocks = [x] := by
    have h1 := hf.st.len.1
    have h2 := hf.s3
    exact List.length_eq_one_iff.mp (by omega)
  have hxs := hf.sl x (by rw [hx]; exact List.mem_singleton.mpr rfl)
  have h5 : 5 ≤ x.2.1 := hxs.1
  have h15 : x.2.1 ≤ 15 := by omega
  have g0 : dIx s.t (.int 0) = some (.tup (s.stocks.map stockD)) := d_ix0 _ _
  have g1 : dIx (.tup (s.stocks.map stockD)) (.int 0) = some (stockD x) := by rw [hx]; exact d_ix0 _ _
  have g2 : dIx (stockD x) (.int 1) = some (.int (x.2.1 : Int)) := d_ix1 _ _ _
  simp -implicitDefEqProofs [-Int.natCast_add, madeO_ok hs.st hs.pc, g0, g1, g2]
  refine then_post (drawn_faults hp (len := x.2.1)) fun d S2 ⟨⟨L, e, hL⟩, hp⟩ => ?_
  subst e
  have A : At s x L := ⟨hs, hx, hL⟩
  have hl4 := freeL_len (len := x.2.1) hL.n3
  have hle : ∀ l ∈ freeL x.2.1 L, l ≤ 15 := fun l hl => Nat.le_trans (freeL_le hL l hl) h15
  have hlf := law_free_ok (len := x.2.1) hL.n3 S2
  obtain ⟨d, S3, er, F, ed, hF⟩ := Res.post_ex (law_out_ok hs hl4 hle)
  subst ed
  have n1 := noM_t s
  have n2 := noM_nat (freeL x.2.1 L)
  have n3 : noM (.lst (F.map natT)) = true := noM_lay F
  have n4 := noM_o s
  have n5 := noM_flt L
  have hno : noMs [s.t, natT (freeL x.2.1 L)] = true := by
    show (noM s.t && (noM (natT (freeL x.2.1 L)) && true)) = true
    rw [n1, n2]
    rfl
  simp -implicitDefEqProofs [-Int.natCast_add, hlf, hno, er, n3]
  refine then_post (pick_lst hp (by simpa using hF.ne) (by rw [List.length_map]; have := hF.ln; omega)) fun d S4 ⟨hd, hp⟩ => ?_
  obtain ⟨r, hr, rfl⟩ := List.mem_map.mp hd
  have hrl := (hF.all r hr).1
  have hm1 := hs.pc.len.1
  have hp3 := hs.p3
  simp -implicitDefEqProofs [-Int.natCast_add]
  refine then_post (draw_post hp (by omega) (by omega)) fun d S5 ⟨⟨at_, e, hat⟩, hp⟩ => ?_
  subst e
  have hat' : at_ < r.length := by omega
  obtain ⟨v, hv⟩ : ∃ v, r[at_]? = some v := ⟨_, List.getElem?_eq_getElem hat'⟩
  have hix : dIx (natT r) (.int (at_ : Int)) = some (.int (v : Int)) := d_ixt (by rw [List.getElem?_map, hv]; rfl)
  obtain ⟨c1, c2⟩ := cut_set (xs := r.map fun (n : Nat) => D.int (n : Int)) (n := at_) (by rw [List.length_map]; exact hat') (by rw [List.length_map]; omega) (.int ((v : Int) + 1))
  have e2 : (r.map fun (n : Nat) => D.int (n : Int)).set at_ (.int ((v : Int) + 1)) = (r.set at_ (v + 1)).map fun (n : Nat) => D.int (n : Int) := by
    rw [List.map_set]
    rfl
  rw [e2] at c2
  generalize (r.map fun (n : Nat) => D.int (n : Int)).take at_ ++ [D.int ((v : Int) + 1)] = mid at *
  simp -implicitDefEqProofs [-Int.natCast_add, hix, c1, c2]
  refine then_post (pick_lst hp (by simp) (by simp)) fun d S6 ⟨hd, hp⟩ => ?_
  obtain ⟨tg, e, ht⟩ : ∃ tg : List Nat, d = natT tg ∧ tg.length = s.pieces.length := by
    simp only [List.mem_cons, List.not_mem_nil, or_false] at hd
    rcases hd with rfl | rfl
    · exact ⟨r, rfl, hrl⟩
    · exact ⟨r.set at_ (v + 1), congrArg D.tup (List.map_set).symm, by rw [List.length_set]; exact hrl⟩
  subst e
  obtain ⟨pv, S7, er2, hpv⟩ := Res.post_ex (split_ok A h15 ht)
  have n6 := noM_nat tg
  have n7 := noM_paper (s := s) (lens := freeL x.2.1 L) hpv
  have hno2 : noMs [s.o, .int 0, .tup (L.map faultD), natT tg] = true := by
    show (noM s.o && (true && (noM (.tup (L.map faultD)) && (noM (natT tg) && true)))) = true
    rw [n4, n5, n6]
    rfl
  have h9 : dRange [.int 9] = some ((List.range 9).map fun (k : Nat) => .int (k : Int)) := rg1 (j := 9) (by omega)
  simp -implicitDefEqProofs [-Int.natCast_add, hno2, er2, n7, h9]
  refine forL_range (Q := fun o S' => PenS [] S' ∧ ∃ ρ', o = .nx ρ' ∧ St [none, some (.mref 0), none, none, none, none, none, none, none, none, none, none, none, none, none, none, none, none] ρ') (fun j ρ S => PenS [] S ∧ St [none, some (.mref 0), none, some (s.t), some (s.o), some (.int (x.2.1 : Int)), some (.tup (L.map faultD)), some (.lst (F.map natT)), some (natT tg), none, some (pv), none, none, none, none, none, none, none] ρ) 9 ⟨hp, by simp⟩ (fun j hj ρ S ⟨hp, h⟩ => ?_) fun ρ S ⟨hp, h⟩ => ⟨hp, ρ, rfl, ?_⟩
  · repeat (first | (replace h := St.some h; obtain ⟨_, rfl, h⟩ := h) | (replace h := St.none h; obtain ⟨_, _, rfl, h⟩ := h))
    cases St.nil h
    simp -implicitDefEqProofs [-Int.natCast_add]
    refine Res.post_mono (turn_ok A h5 h15 hF ht hpv hj hp (by simp)) fun o S' ⟨hp, ρ', e, h⟩ => ?_
    subst e
    exact ⟨hp, h⟩
  · repeat (first | (replace h := St.some h; obtain ⟨_, rfl, h⟩ := h) | (replace h := St.none h; obtain ⟨_, _, rfl, h⟩ := h))
    cases St.nil h
    simp
theorem as_i (n : Nat) (i : Int) (S : Sto) : r_as_tuples (n + 1) [.int i] S = .ok (.int i) S := by
  show runD 2 (b_as_tuples (r_as_tuples n)) [.int i] S = _
  unfold b_as_tuples
  simp -implicitDefEqProofs [-Int.natCast_add, isTyS]
theorem as_pair (n : Nat) (i j : Int) (S : Sto) : r_as_tuples (n + 2) [.lst [.int i, .int j]] S = .ok (.tup [.int i, .int j]) S := by
  show runD 2 (b_as_tuples (r_as_tuples (n + 1))) [.lst [.int i, .int j]] S = _
  unfold b_as_tuples
  simp -implicitDefEqProofs [-Int.natCast_add, compL, as_i n]
theorem as_nest1 (S : Sto) : m_as_tuples [.lst [.lst [.int 0, .int 1]]] S = .ok (.tup [.tup [.int 0, .int 1]]) S := by
  show runD 2 (b_as_tuples (r_as_tuples 11)) [.lst [.lst [.int 0, .int 1]]] S = _
  unfold b_as_tuples
  simp -implicitDefEqProofs [-Int.natCast_add, compL, as_pair 9]
theorem as_nest2 (S : Sto) : m_as_tuples [.lst [.lst [.lst [.int 0, .int 0]], .lst []]] S = .ok (.tup [.tup [.tup [.int 0, .int 0]], .tup []]) S := by
  have h1 : r_as_tuples 11 [.lst [.lst [.int 0, .int 0]]] S = .ok (.tup [.tup [.int 0, .int 0]]) S := by
    show runD 2 (b_as_tuples (r_as_tuples 10)) [.lst [.lst [.int 0, .int 0]]] S = _
    unfold b_as_tuples
    simp -implicitDefEqProofs [-Int.natCast_add, compL, as_pair 8]
  have h2 : r_as_tuples 11 [.lst []] S = .ok (.tup []) S := by
    show runD 2 (b_as_tuples (r_as_tuples 10)) [.lst []] S = _
    unfold b_as_tuples
    simp -implicitDefEqProofs [-Int.natCast_add, compL]
  show runD 2 (b_as_tuples (r_as_tuples 11)) [.lst [.lst [.lst [.int 0, .int 0]], .lst []]] S = _
  unfold b_as_tuples
  simp -implicitDefEqProofs [-Int.natCast_add, compL, h1, h2]
theorem sp_obj (a : D) : Ev.isObj "Split" (splD a) = true := by
  show decide (("Split" : Str) = "Split") = true
  exact decide_eq_true rfl
theorem sp_okC (a : D) : okC OWN (splD a) = true := by
  show decide (("Split" : Str) ∈ OWN) = true
  exact decide_eq_true (by decide +kernel)
theorem st_obj (a : D) : Ev.isObj "Stopped" (stpD a) = true := by
  show decide (("Stopped" : Str) = "Stopped") = true
  exact decide_eq_true rfl
theorem st_okC (a : D) : okC OWN (stpD a) = true := by
  show decide (("Stopped" : Str) ∈ OWN) = true
  exact decide_eq_true (by decide +kernel)
theorem eq_split {a b : D} {r : Bool} (h : dEqv false a b = some (.bl r)) (S : Sto) : m_Split_eq [splD a, splD b] S = .ok (.bl r) S := by
  unfold m_Split_eq b_Split_eq
  have i1 := sp_is b
  have p1 : attrD at_patterns "patterns" (splD a) S = .ok a S := sp_pat a S
  have p2 : attrD at_patterns "patterns" (splD b) S = .ok b S := sp_pat b S
  generalize splD a = x at *
  generalize splD b = y at *
  simp -implicitDefEqProofs [-Int.natCast_add, i1, p1, p2, h]
theorem ne_split {a b : D} {r : Bool} (h : dEqv false a b = some (.bl r)) (S : Sto) : m_Split_ne [splD a, splD b] S = .ok (.bl !r) S := by
  unfold m_Split_ne b_Split_ne
  have e := eq_split h S
  have i1 := sp_obj a
  have i2 := sp_okC b
  generalize splD a = x at *
  generalize splD b = y at *
  simp -implicitDefEqProofs [-Int.natCast_add, i1, i2, e]
theorem eq_stopped {a b : D} {r : Bool} (h : dEqv false a b = some (.bl r)) (S : Sto) : m_Stopped_eq [stpD a, stpD b] S = .ok (.bl r) S := by
  unfold m_Stopped_eq b_Stopped_eq
  have i1 := st_is b
  have p1 : attrD at_layers "layers" (stpD a) S = .ok a S := st_lay a S
  have p2 : attrD at_layers "layers" (stpD b) S = .ok b S := st_lay b S
  generalize stpD a = x at *
  generalize stpD b = y at *
  simp -implicitDefEqProofs [-Int.natCast_add, i1, p1, p2, h]
theorem ne_stopped {a b : D} {r : Bool} (h : dEqv false a b = some (.bl r)) (S : Sto) : m_Stopped_ne [stpD a, stpD b] S = .ok (.bl !r) S := by
  unfold m_Stopped_ne b_Stopped_ne
  have e := eq_stopped h S
  have i1 := st_obj a
  have i2 := st_okC b
  generalize stpD a = x at *
  generalize stpD b = y at *
  simp -implicitDefEqProofs [-Int.natCast_add, i1, i2, e]
theorem law_ok (ns : List Int) (hns : ns.length ≤ 63) : ∃ S, m_law [.scr ns] [] = .ok (.bl true) S := by
  have go : (m_law [.scr ns] []).post fun d S' => d = .bl true := by
    unfold m_law b_law
    have h2 : dRange [.int 2] = some ((List.range 2).map fun (k : Nat) => .int (k : Int)) := rg1 (j := 2) (by omega)
    simp -implicitDefEqProofs [-Int.natCast_add]
    refine then_post (pen_ok ns (by omega)) fun d S1 ⟨e, hp⟩ => ?_
    subst e
    simp -implicitDefEqProofs [-Int.natCast_add, h2]
    refine then_post (forL_range (Q := fun x S' => PenS [] S' ∧ ∃ ρ', x = .nx ρ' ∧ St [none, some (.mref 0), none, none, none, none, none, none, none, none, none, none, none, none, none, none, none, none] ρ') (fun j ρ S => PenS [] S ∧ St [none, some (.mref 0), none, none, none, none, none, none, none, none, none, none, none, none, none, none, none, none] ρ) 2 ⟨hp, by simp⟩ (fun j hj ρ S ⟨hp, h⟩ => ?_) fun ρ S ⟨hp, h⟩ => ⟨hp, ρ, rfl, h⟩) fun o S2 ⟨hp, ρ, e, h⟩ => ?_
    · repeat (first | (replace h := St.some h; obtain ⟨_, rfl, h⟩ := h) | (replace h := St.none h; obtain ⟨_, _, rfl, h⟩ := h))
      cases St.nil h
      simp -implicitDefEqProofs [-Int.natCast_add]
      refine Res.post_mono (lap_ok hp (by simp)) fun x S' ⟨hp, ρ', e, h⟩ => ?_
      subst e
      exact ⟨hp, h⟩
    · subst e
      repeat (first | (replace h := St.some h; obtain ⟨_, rfl, h⟩ := h) | (replace h := St.none h; obtain ⟨_, _, rfl, h⟩ := h))
      cases St.nil h
      have i1 := init_split (as_nest1 S2)
      have i2 := init_stopped (as_nest2 S2)
      have i3 := init_split (as_plain (n := 11) (by omega) S2 (d := .tup [.tup [.int 0, .int 1]]) rfl)
      have i4 := init_split (as_plain (n := 11) (by omega) S2 (d := .tup []) rfl)
      have i5 := init_stopped (as_plain (n := 11) (by omega) S2 (d := .tup [.tup [.tup [.int 0, .int 0]], .tup []]) rfl)
      have i6 := init_stopped (as_plain (n := 11) (by omega) S2 (d := .tup []) rfl)
      have v1 : dEqv false (.tup [.tup [.int 0, .int 1]]) (.tup [.tup [.int 0, .int 1]]) = some (.bl true) := by simp [dEqv, D.py, pyAll, SeqAt.shaped, PyData.canLay0, PyData.canLayAll0, PyData.depth, PyData.depthAll, PyData.eqv, PyData.eqvAll]
      have v2 : dEqv false (.tup [.tup [.int 0, .int 1]]) (.tup []) = some (.bl false) := by simp [dEqv, D.py, pyAll, SeqAt.shaped, PyData.canLay0, PyData.canLayAll0, PyData.depth, PyData.depthAll, PyData.eqv, PyData.eqvAll]
      have v3 : dEqv false (.tup [.tup [.tup [.int 0, .int 0]], .tup []]) (.tup [.tup [.tup [.int 0, .int 0]], .tup []]) = some (.bl true) := by simp [dEqv, D.py, pyAll, SeqAt.shaped, PyData.canLay0, PyData.canLayAll0, PyData.depth, PyData.depthAll, PyData.eqv, PyData.eqvAll]
      have v4 : dEqv false (.tup [.tup [.tup [.int 0, .int 0]], .tup []]) (.tup []) = some (.bl false) := by simp [dEqv, D.py, pyAll, SeqAt.shaped, PyData.canLay0, PyData.canLayAll0, PyData.depth, PyData.depthAll, PyData.eqv, PyData.eqvAll]
      have w1 := eq_split v1 S2
      have w2 := ne_split v2 S2
      have w3 := eq_stopped v3 S2
      have w4 := ne_stopped v4 S2
      have w5 : m_Split_eq [splD (.tup [.tup [.int 0, .int 1]]), .tup [.tup [.int 0, .int 1]]] S2 = .ok (.bl false) S2 := by
        unfold m_Split_eq b_Split_eq
        simp -implicitDefEqProofs [-Int.natCast_add, isOwn]
      have w6 : m_Stopped_eq [stpD (.tup [.tup [.tup [.int 0, .int 0]], .tup []]), splD (.tup [.tup [.int 0, .int 1]])] S2 = .ok (.bl false) S2 := by
        unfold m_Stopped_eq b_Stopped_eq
        simp -implicitDefEqProofs [-Int.natCast_add, sp_isnt]
      have k2 : okC OWN (.tup [.tup [.int 0, .int 1]]) = true := by rfl
      have hk : attrD at_patterns "patterns" (splD (.tup [.tup [.int 0, .int 1]])) S2 = .ok (.tup [.tup [.int 0, .int 1]]) S2 := sp_pat _ S2
      simp -implicitDefEqProofs [-Int.natCast_add, i1, i2, i3, i4, i5, i6, w1, w2, w3, w4, w5, w6, sp_obj, sp_okC, st_obj, st_okC, k2, hk]
  obtain ⟨d, S, e, rfl⟩ := Res.post_ex go
  exact ⟨S, e⟩

end K83
namespace K83
open PySem PySem.Spec PyProof.Rows L2 Ev
def top (i : Nat) : Stmt := PySem.Challenge.pw_barscut_k83_splits_and_stops_bent.main.body.getD i (.Pass ⟨0, 0, 0, 0⟩)
def names0 : List PySem.Str := ["CutError", "BadName", "BadNumber", "BadRow", "TakenName", "is_whole", "is_number", "as_tuples", "is_index", "LETTERS", "DIGITS", "SIGNS", "is_name", "MOST_STOCKS", "MOST_PIECES", "LENGTH_AT", "MANY_AT", "PRICE_AT", "Shop", "shop_parts", "need_new_name", "is_length", "need_length", "need_stocks", "need_pieces", "width_by", "need_stock", "is_numbers_row", "need_pattern", "size_by"]
def names1 : List PySem.Str := ["rows_within", "rows_for", "MOST_FAULTS", "Split", "Stopped", "are_faults", "need_faults", "free_by", "summed", "layers_to", "split", "split_holds", "are_rows", "is_below", "stopped_holds", "_law_pen", "_law_draw", "_law_pick", "_law_is", "_law_name", "_law_names", "_law_whole", "_law_made", "_law_cut", "_law_patterns", "_law_few_shop", "_law_is_numbers", "_law_size", "_law_gives", "_law_added"]
def names2 : List PySem.Str := ["_law_drawn_faults", "_law_free", "_law_out", "_law_split_right", "_law_is_below", "_law_stopped_right", "_law_bent"]
def names : List PySem.Str := names0 ++ names1 ++ names2
abbrev st__law_draw : Stmt := top 54
def d__law_draw : He.DefD := ⟨("_law_draw", none), "_law_draw", "_law_draw", defArgs st__law_draw, defBody st__law_draw, defScope st__law_draw, [], []⟩
abbrev st__law_pick : Stmt := top 55
def d__law_pick : He.DefD := ⟨("_law_pick", none), "_law_pick", "_law_pick", defArgs st__law_pick, defBody st__law_pick, defScope st__law_pick, [], []⟩
abbrev st_as_tuples : Stmt := top 9
def d_as_tuples : He.DefD := ⟨("as_tuples", none), "as_tuples", "as_tuples", defArgs st_as_tuples, defBody st_as_tuples, defScope st_as_tuples, [], []⟩
abbrev st_Split_init : Stmt := inClass (top 40) 0
def d_Split_init : He.DefD := ⟨("Split", some "__init__"), "__init__", "Split.__init__", defArgs st_Split_init, defBody st_Split_init, defScope st_Split_init, [], []⟩
abbrev st_Stopped_init : Stmt := inClass (top 41) 0
def d_Stopped_init : He.DefD := ⟨("Stopped", some "__init__"), "__init__", "Stopped.__init__", defArgs st_Stopped_init, defBody st_Stopped_init, defScope st_Stopped_init, [], []⟩
abbrev st__law_bent : Stmt := top 74
def d__law_bent : He.DefD := ⟨("_law_bent", none), "_law_bent", "_law_bent", defArgs st__law_bent, defBody st__law_bent, defScope st__law_bent, [], []⟩
abbrev st__law_drawn_faults : Stmt := top 68
def d__law_drawn_faults : He.DefD := ⟨("_law_drawn_faults", none), "_law_drawn_faults", "_law_drawn_faults", defArgs st__law_drawn_faults, defBody st__law_drawn_faults, defScope st__law_drawn_faults, [], []⟩
abbrev st__law_name : Stmt := top 57
def d__law_name : He.DefD := ⟨("_law_name", none), "_law_name", "_law_name", defArgs st__law_name, defBody st__law_name, defScope st__law_name, [], []⟩
abbrev st__law_names : Stmt := top 58
def d__law_names : He.DefD := ⟨("_law_names", none), "_law_names", "_law_names", defArgs st__law_names, defBody st__law_names, defScope st__law_names, [], []⟩
abbrev st__law_few_shop : Stmt := top 63
def d__law_few_shop : He.DefD := ⟨("_law_few_shop", none), "_law_few_shop", "_law_few_shop", defArgs st__law_few_shop, defBody st__law_few_shop, defScope st__law_few_shop, [], []⟩
abbrev st__law_free : Stmt := top 69
def d__law_free : He.DefD := ⟨("_law_free", none), "_law_free", "_law_free", defArgs st__law_free, defBody st__law_free, defScope st__law_free, [], []⟩
abbrev st__law_is : Stmt := top 56
def d__law_is : He.DefD := ⟨("_law_is", none), "_law_is", "_law_is", defArgs st__law_is, defBody st__law_is, defScope st__law_is, [], []⟩
abbrev st_is_whole : Stmt := top 7
def d_is_whole : He.DefD := ⟨("is_whole", none), "is_whole", "is_whole", defArgs st_is_whole, defBody st_is_whole, defScope st_is_whole, [], []⟩
abbrev st_is_number : Stmt := top 8
def d_is_number : He.DefD := ⟨("is_number", none), "is_number", "is_number", defArgs st_is_number, defBody st_is_number, defScope st_is_number, [], []⟩
abbrev st_is_length : Stmt := top 25
def d_is_length : He.DefD := ⟨("is_length", none), "is_length", "is_length", defArgs st_is_length, defBody st_is_length, defScope st_is_length, [], []⟩
abbrev st_need_length : Stmt := top 26
def d_need_length : He.DefD := ⟨("need_length", none), "need_length", "need_length", defArgs st_need_length, defBody st_need_length, defScope st_need_length, [], []⟩
abbrev st_is_name : Stmt := top 15
def d_is_name : He.DefD := ⟨("is_name", none), "is_name", "is_name", defArgs st_is_name, defBody st_is_name, defScope st_is_name, [], []⟩
abbrev st_need_new_name : Stmt := top 24
def d_need_new_name : He.DefD := ⟨("need_new_name", none), "need_new_name", "need_new_name", defArgs st_need_new_name, defBody st_need_new_name, defScope st_need_new_name, [], []⟩
abbrev st_need_pieces : Stmt := top 28
def d_need_pieces : He.DefD := ⟨("need_pieces", none), "need_pieces", "need_pieces", defArgs st_need_pieces, defBody st_need_pieces, defScope st_need_pieces, [], []⟩
abbrev st_need_stocks : Stmt := top 27
def d_need_stocks : He.DefD := ⟨("need_stocks", none), "need_stocks", "need_stocks", defArgs st_need_stocks, defBody st_need_stocks, defScope st_need_stocks, [], []⟩
abbrev st_Shop_init : Stmt := inClass (top 22) 0
def d_Shop_init : He.DefD := ⟨("Shop", some "__init__"), "__init__", "Shop.__init__", defArgs st_Shop_init, defBody st_Shop_init, defScope st_Shop_init, [], []⟩
abbrev st__law_made : Stmt := top 60
def d__law_made : He.DefD := ⟨("_law_made", none), "_law_made", "_law_made", defArgs st__law_made, defBody st__law_made, defScope st__law_made, [], []⟩
abbrev st__law_added : Stmt := top 67
def d__law_added : He.DefD := ⟨("_law_added", none), "_law_added", "_law_added", defArgs st__law_added, defBody st__law_added, defScope st__law_added, [], []⟩
abbrev st__law_cut : Stmt := top 61
def d__law_cut : He.DefD := ⟨("_law_cut", none), "_law_cut", "_law_cut", defArgs st__law_cut, defBody st__law_cut, defScope st__law_cut, [], []⟩
abbrev st__law_patterns : Stmt := top 62
def d__law_patterns : He.DefD := ⟨("_law_patterns", none), "_law_patterns", "_law_patterns", defArgs st__law_patterns, defBody st__law_patterns, defScope st__law_patterns, [], []⟩
abbrev st__law_out : Stmt := top 70
def d__law_out : He.DefD := ⟨("_law_out", none), "_law_out", "_law_out", defArgs st__law_out, defBody st__law_out, defScope st__law_out, [], []⟩
abbrev st__law_pen : Stmt := top 53
def d__law_pen : He.DefD := ⟨("_law_pen", none), "_law_pen", "_law_pen", defArgs st__law_pen, defBody st__law_pen, defScope st__law_pen, [], []⟩
abbrev st__law_size : Stmt := top 65
def d__law_size : He.DefD := ⟨("_law_size", none), "_law_size", "_law_size", defArgs st__law_size, defBody st__law_size, defScope st__law_size, [], []⟩
abbrev st__law_gives : Stmt := top 66
def d__law_gives : He.DefD := ⟨("_law_gives", none), "_law_gives", "_law_gives", defArgs st__law_gives, defBody st__law_gives, defScope st__law_gives, [], []⟩
abbrev st__law_whole : Stmt := top 59
def d__law_whole : He.DefD := ⟨("_law_whole", none), "_law_whole", "_law_whole", defArgs st__law_whole, defBody st__law_whole, defScope st__law_whole, [], []⟩
abbrev st__law_is_numbers : Stmt := top 64
def d__law_is_numbers : He.DefD := ⟨("_law_is_numbers", none), "_law_is_numbers", "_law_is_numbers", defArgs st__law_is_numbers, defBody st__law_is_numbers, defScope st__law_is_numbers, [], []⟩
abbrev st__law_split_right : Stmt := top 71
def d__law_split_right : He.DefD := ⟨("_law_split_right", none), "_law_split_right", "_law_split_right", defArgs st__law_split_right, defBody st__law_split_right, defScope st__law_split_right, [], []⟩
abbrev st__law_is_below : Stmt := top 72
def d__law_is_below : He.DefD := ⟨("_law_is_below", none), "_law_is_below", "_law_is_below", defArgs st__law_is_below, defBody st__law_is_below, defScope st__law_is_below, [], []⟩
abbrev st__law_stopped_right : Stmt := top 73
def d__law_stopped_right : He.DefD := ⟨("_law_stopped_right", none), "_law_stopped_right", "_law_stopped_right", defArgs st__law_stopped_right, defBody st__law_stopped_right, defScope st__law_stopped_right, [], []⟩
abbrev st_free_by : Stmt := top 44
def d_free_by : He.DefD := ⟨("free_by", none), "free_by", "free_by", defArgs st_free_by, defBody st_free_by, defScope st_free_by, [], []⟩
abbrev st_width_by : Stmt := top 29
def d_width_by : He.DefD := ⟨("width_by", none), "width_by", "width_by", defArgs st_width_by, defBody st_width_by, defScope st_width_by, [], []⟩
abbrev st_rows_for : Stmt := top 37
def d_rows_for : He.DefD := ⟨("rows_for", none), "rows_for", "rows_for", defArgs st_rows_for, defBody st_rows_for, defScope st_rows_for, [], []⟩
abbrev st_summed : Stmt := top 45
def d_summed : He.DefD := ⟨("summed", none), "summed", "summed", defArgs st_summed, defBody st_summed, defScope st_summed, [], []⟩
abbrev st_layers_to : Stmt := top 46
def d_layers_to : He.DefD := ⟨("layers_to", none), "layers_to", "layers_to", defArgs st_layers_to, defBody st_layers_to, defScope st_layers_to, [], []⟩
abbrev st_are_faults : Stmt := top 42
def d_are_faults : He.DefD := ⟨("are_faults", none), "are_faults", "are_faults", defArgs st_are_faults, defBody st_are_faults, defScope st_are_faults, [], []⟩
abbrev st_is_index : Stmt := top 10
def d_is_index : He.DefD := ⟨("is_index", none), "is_index", "is_index", defArgs st_is_index, defBody st_is_index, defScope st_is_index, [], []⟩
abbrev st_need_stock : Stmt := top 31
def d_need_stock : He.DefD := ⟨("need_stock", none), "need_stock", "need_stock", defArgs st_need_stock, defBody st_need_stock, defScope st_need_stock, [], []⟩
abbrev st_need_faults : Stmt := top 43
def d_need_faults : He.DefD := ⟨("need_faults", none), "need_faults", "need_faults", defArgs st_need_faults, defBody st_need_faults, defScope st_need_faults, [], []⟩
abbrev st_is_numbers_row : Stmt := top 32
def d_is_numbers_row : He.DefD := ⟨("is_numbers_row", none), "is_numbers_row", "is_numbers_row", defArgs st_is_numbers_row, defBody st_is_numbers_row, defScope st_is_numbers_row, [], []⟩
abbrev st_need_pattern : Stmt := top 33
def d_need_pattern : He.DefD := ⟨("need_pattern", none), "need_pattern", "need_pattern", defArgs st_need_pattern, defBody st_need_pattern, defScope st_need_pattern, [], []⟩
abbrev st_split : Stmt := top 47
def d_split : He.DefD := ⟨("split", none), "split", "split", defArgs st_split, defBody st_split, defScope st_split, [], []⟩
abbrev st_size_by : Stmt := top 34
def d_size_by : He.DefD := ⟨("size_by", none), "size_by", "size_by", defArgs st_size_by, defBody st_size_by, defScope st_size_by, [], []⟩
abbrev st_split_holds : Stmt := top 48
def d_split_holds : He.DefD := ⟨("split_holds", none), "split_holds", "split_holds", defArgs st_split_holds, defBody st_split_holds, defScope st_split_holds, [], []⟩
abbrev st_are_rows : Stmt := top 49
def d_are_rows : He.DefD := ⟨("are_rows", none), "are_rows", "are_rows", defArgs st_are_rows, defBody st_are_rows, defScope st_are_rows, [], []⟩
abbrev st_is_below : Stmt := top 50
def d_is_below : He.DefD := ⟨("is_below", none), "is_below", "is_below", defArgs st_is_below, defBody st_is_below, defScope st_is_below, [], []⟩
abbrev st_rows_within : Stmt := top 35
def d_rows_within : He.DefD := ⟨("rows_within", none), "rows_within", "rows_within", defArgs st_rows_within, defBody st_rows_within, defScope st_rows_within, [], []⟩
abbrev st_stopped_holds : Stmt := top 51
def d_stopped_holds : He.DefD := ⟨("stopped_holds", none), "stopped_holds", "stopped_holds", defArgs st_stopped_holds, defBody st_stopped_holds, defScope st_stopped_holds, [], []⟩
abbrev st_Split_eq : Stmt := inClass (top 40) 1
def d_Split_eq : He.DefD := ⟨("Split", some "__eq__"), "__eq__", "Split.__eq__", defArgs st_Split_eq, defBody st_Split_eq, defScope st_Split_eq, [], []⟩
abbrev st_Split_ne : Stmt := inClass (top 40) 2
def d_Split_ne : He.DefD := ⟨("Split", some "__ne__"), "__ne__", "Split.__ne__", defArgs st_Split_ne, defBody st_Split_ne, defScope st_Split_ne, [], []⟩
abbrev st_Stopped_eq : Stmt := inClass (top 41) 1
def d_Stopped_eq : He.DefD := ⟨("Stopped", some "__eq__"), "__eq__", "Stopped.__eq__", defArgs st_Stopped_eq, defBody st_Stopped_eq, defScope st_Stopped_eq, [], []⟩
abbrev st_Stopped_ne : Stmt := inClass (top 41) 2
def d_Stopped_ne : He.DefD := ⟨("Stopped", some "__ne__"), "__ne__", "Stopped.__ne__", defArgs st_Stopped_ne, defBody st_Stopped_ne, defScope st_Stopped_ne, [], []⟩
abbrev st_law : Stmt := top 75
def d_law : He.DefD := ⟨("law", none), "law", "law", defArgs st_law, defBody st_law, defScope st_law, [], []⟩
def fn0 : List He.DefD := [d__law_draw, d__law_pick, d_as_tuples, d_Split_init, d_Stopped_init, d__law_bent, d__law_drawn_faults, d__law_name, d__law_names, d__law_few_shop, d__law_free, d__law_is, d_is_whole, d_is_number, d_is_length, d_need_length, d_is_name, d_need_new_name, d_need_pieces, d_need_stocks, d_Shop_init, d__law_made, d__law_added, d__law_cut, d__law_patterns, d__law_out, d__law_pen, d__law_size, d__law_gives, d__law_whole]
def fn1 : List He.DefD := [d__law_is_numbers, d__law_split_right, d__law_is_below, d__law_stopped_right, d_free_by, d_width_by, d_rows_for, d_summed, d_layers_to, d_are_faults, d_is_index, d_need_stock, d_need_faults, d_is_numbers_row, d_need_pattern, d_split, d_size_by, d_split_holds, d_are_rows, d_is_below, d_rows_within, d_stopped_holds, d_Split_eq, d_Split_ne, d_Stopped_eq, d_Stopped_ne, d_law]
def fn : List He.DefD := fn0 ++ fn1
def fa0 : List He.Fa := [.glo "_law_draw", .glo "_law_pick", .glo "as_tuples", .glo "_law_bent", .glo "_law_drawn_faults", .glo "_law_name", .glo "_law_names", .glo "_law_few_shop", .glo "_law_free", .glo "_law_is", .glo "is_whole", .glo "is_number", .glo "is_length", .glo "need_length", .glo "is_name", .glo "need_new_name", .glo "need_pieces", .glo "need_stocks", .glo "_law_made", .glo "_law_added", .glo "_law_cut", .glo "_law_patterns", .glo "_law_out", .glo "_law_pen", .glo "_law_size", .glo "_law_gives", .glo "_law_whole", .glo "_law_is_numbers", .glo "_law_split_right", .glo "_law_is_below"]
def fa1 : List He.Fa := [.glo "_law_stopped_right", .glo "free_by", .glo "width_by", .glo "rows_for", .glo "summed", .glo "layers_to", .glo "are_faults", .glo "is_index", .glo "need_stock", .glo "need_faults", .glo "is_numbers_row", .glo "need_pattern", .glo "split", .glo "size_by", .glo "split_holds", .glo "are_rows", .glo "is_below", .glo "rows_within", .glo "stopped_holds", .glo "law", .glo "Shop", .glo "Split", .glo "Stopped", .free "all", .free "any", .free "bool", .free "enumerate", .free "int", .free "isinstance", .free "len"]
def fa2 : List He.Fa := [.free "list", .free "max", .free "min", .free "range", .free "sorted", .free "str", .free "sum", .free "tuple", .free "zip", .int "LENGTH_AT" 1, .int "MANY_AT" 2, .int "MOST_FAULTS" 6, .int "MOST_PIECES" 6, .int "MOST_STOCKS" 4, .int "PRICE_AT" 3, .str "LETTERS" "abcdefghijklmnopqrstuvwxyz", .str "SIGNS" "abcdefghijklmnopqrstuvwxyz0123456789", .cls "Shop", .cls "Split", .cls "Stopped", .noat "Shop" "kerf", .noat "Stopped" "layers", .noat "Split" "patterns", .noat "Shop" "pieces", .noat "Shop" "stocks", .mkr "Shop", .mkr "Split", .mkr "Stopped", .meth "Split" "__eq__", .meth "Split" "__ne__"]
def fa3 : List He.Fa := [.meth "Stopped" "__eq__", .meth "Stopped" "__ne__"]
def fa : List He.Fa := fa0 ++ fa1 ++ fa2 ++ fa3
def more (K : PySem.W.Frag) : Bool := clsFacts K OWN && eqFacts K OWN
/-- what is known of the text -/
structure Txt (K : PySem.W.Frag) (mg : Str → Option Value) : Prop where
  ex : ∃ h : Heap, K.In h ∧ h.Ns mainGlobals mg ∧ He.SaysD fa fn K ∧ more K = true
section
variable {K : PySem.W.Frag} {mg : Str → Option Value}
theorem g__law_draw (T : Txt K mg) : mg "_law_draw" = some (.ref (He.ga K "_law_draw")) := let ⟨_, X, G, c, _⟩ := T.ex; He.glo_ok X G (c.fact 0 (f := .glo "_law_draw") rfl)
theorem g__law_pick (T : Txt K mg) : mg "_law_pick" = some (.ref (He.ga K "_law_pick")) := let ⟨_, X, G, c, _⟩ := T.ex; He.glo_ok X G (c.fact 1 (f := .glo "_law_pick") rfl)
theorem g_as_tuples (T : Txt K mg) : mg "as_tuples" = some (.ref (He.ga K "as_tuples")) := let ⟨_, X, G, c, _⟩ := T.ex; He.glo_ok X G (c.fact 2 (f := .glo "as_tuples") rfl)
theorem g__law_bent (T : Txt K mg) : mg "_law_bent" = some (.ref (He.ga K "_law_bent")) := let ⟨_, X, G, c, _⟩ := T.ex; He.glo_ok X G (c.fact 3 (f := .glo "_law_bent") rfl)
theorem g__law_drawn_faults (T : Txt K mg) : mg "_law_drawn_faults" = some (.ref (He.ga K "_law_drawn_faults")) := let ⟨_, X, G, c, _⟩ := T.ex; He.glo_ok X G (c.fact 4 (f := .glo "_law_drawn_faults") rfl)
theorem g__law_name (T : Txt K mg) : mg "_law_name" = some (.ref (He.ga K "_law_name")) := let ⟨_, X, G, c, _⟩ := T.ex; He.glo_ok X G (c.fact 5 (f := .glo "_law_name") rfl)
theorem g__law_names (T : Txt K mg) : mg "_law_names" = some (.ref (He.ga K "_law_names")) := let ⟨_, X, G, c, _⟩ := T.ex; He.glo_ok X G (c.fact 6 (f := .glo "_law_names") rfl)
theorem g__law_few_shop (T : Txt K mg) : mg "_law_few_shop" = some (.ref (He.ga K "_law_few_shop")) := let ⟨_, X, G, c, _⟩ := T.ex; He.glo_ok X G (c.fact 7 (f := .glo "_law_few_shop") rfl)
theorem g__law_free (T : Txt K mg) : mg "_law_free" = some (.ref (He.ga K "_law_free")) := let ⟨_, X, G, c, _⟩ := T.ex; He.glo_ok X G (c.fact 8 (f := .glo "_law_free") rfl)
theorem g__law_is (T : Txt K mg) : mg "_law_is" = some (.ref (He.ga K "_law_is")) := let ⟨_, X, G, c, _⟩ := T.ex; He.glo_ok X G (c.fact 9 (f := .glo "_law_is") rfl)
theorem g_is_whole (T : Txt K mg) : mg "is_whole" = some (.ref (He.ga K "is_whole")) := let ⟨_, X, G, c, _⟩ := T.ex; He.glo_ok X G (c.fact 10 (f := .glo "is_whole") rfl)
theorem g_is_number (T : Txt K mg) : mg "is_number" = some (.ref (He.ga K "is_number")) := let ⟨_, X, G, c, _⟩ := T.ex; He.glo_ok X G (c.fact 11 (f := .glo "is_number") rfl)
theorem g_is_length (T : Txt K mg) : mg "is_length" = some (.ref (He.ga K "is_length")) := let ⟨_, X, G, c, _⟩ := T.ex; He.glo_ok X G (c.fact 12 (f := .glo "is_length") rfl)
theorem g_need_length (T : Txt K mg) : mg "need_length" = some (.ref (He.ga K "need_length")) := let ⟨_, X, G, c, _⟩ := T.ex; He.glo_ok X G (c.fact 13 (f := .glo "need_length") rfl)
theorem g_is_name (T : Txt K mg) : mg "is_name" = some (.ref (He.ga K "is_name")) := let ⟨_, X, G, c, _⟩ := T.ex; He.glo_ok X G (c.fact 14 (f := .glo "is_name") rfl)
theorem g_need_new_name (T : Txt K mg) : mg "need_new_name" = some (.ref (He.ga K "need_new_name")) := let ⟨_, X, G, c, _⟩ := T.ex; He.glo_ok X G (c.fact 15 (f := .glo "need_new_name") rfl)
theorem g_need_pieces (T : Txt K mg) : mg "need_pieces" = some (.ref (He.ga K "need_pieces")) := let ⟨_, X, G, c, _⟩ := T.ex; He.glo_ok X G (c.fact 16 (f := .glo "need_pieces") rfl)
theorem g_need_stocks (T : Txt K mg) : mg "need_stocks" = some (.ref (He.ga K "need_stocks")) := let ⟨_, X, G, c, _⟩ := T.ex; He.glo_ok X G (c.fact 17 (f := .glo "need_stocks") rfl)
theorem g__law_made (T : Txt K mg) : mg "_law_made" = some (.ref (He.ga K "_law_made")) := let ⟨_, X, G, c, _⟩ := T.ex; He.glo_ok X G (c.fact 18 (f := .glo "_law_made") rfl)
theorem g__law_added (T : Txt K mg) : mg "_law_added" = some (.ref (He.ga K "_law_added")) := let ⟨_, X, G, c, _⟩ := T.ex; He.glo_ok X G (c.fact 19 (f := .glo "_law_added") rfl)
theorem g__law_cut (T : Txt K mg) : mg "_law_cut" = some (.ref (He.ga K "_law_cut")) := let ⟨_, X, G, c, _⟩ := T.ex; He.glo_ok X G (c.fact 20 (f := .glo "_law_cut") rfl)
theorem g__law_patterns (T : Txt K mg) : mg "_law_patterns" = some (.ref (He.ga K "_law_patterns")) := let ⟨_, X, G, c, _⟩ := T.ex; He.glo_ok X G (c.fact 21 (f := .glo "_law_patterns") rfl)
theorem g__law_out (T : Txt K mg) : mg "_law_out" = some (.ref (He.ga K "_law_out")) := let ⟨_, X, G, c, _⟩ := T.ex; He.glo_ok X G (c.fact 22 (f := .glo "_law_out") rfl)
theorem g__law_pen (T : Txt K mg) : mg "_law_pen" = some (.ref (He.ga K "_law_pen")) := let ⟨_, X, G, c, _⟩ := T.ex; He.glo_ok X G (c.fact 23 (f := .glo "_law_pen") rfl)
theorem g__law_size (T : Txt K mg) : mg "_law_size" = some (.ref (He.ga K "_law_size")) := let ⟨_, X, G, c, _⟩ := T.ex; He.glo_ok X G (c.fact 24 (f := .glo "_law_size") rfl)
theorem g__law_gives (T : Txt K mg) : mg "_law_gives" = some (.ref (He.ga K "_law_gives")) := let ⟨_, X, G, c, _⟩ := T.ex; He.glo_ok X G (c.fact 25 (f := .glo "_law_gives") rfl)
theorem g__law_whole (T : Txt K mg) : mg "_law_whole" = some (.ref (He.ga K "_law_whole")) := let ⟨_, X, G, c, _⟩ := T.ex; He.glo_ok X G (c.fact 26 (f := .glo "_law_whole") rfl)
theorem g__law_is_numbers (T : Txt K mg) : mg "_law_is_numbers" = some (.ref (He.ga K "_law_is_numbers")) := let ⟨_, X, G, c, _⟩ := T.ex; He.glo_ok X G (c.fact 27 (f := .glo "_law_is_numbers") rfl)
theorem g__law_split_right (T : Txt K mg) : mg "_law_split_right" = some (.ref (He.ga K "_law_split_right")) := let ⟨_, X, G, c, _⟩ := T.ex; He.glo_ok X G (c.fact 28 (f := .glo "_law_split_right") rfl)
theorem g__law_is_below (T : Txt K mg) : mg "_law_is_below" = some (.ref (He.ga K "_law_is_below")) := let ⟨_, X, G, c, _⟩ := T.ex; He.glo_ok X G (c.fact 29 (f := .glo "_law_is_below") rfl)
theorem g__law_stopped_right (T : Txt K mg) : mg "_law_stopped_right" = some (.ref (He.ga K "_law_stopped_right")) := let ⟨_, X, G, c, _⟩ := T.ex; He.glo_ok X G (c.fact 30 (f := .glo "_law_stopped_right") rfl)
theorem g_free_by (T : Txt K mg) : mg "free_by" = some (.ref (He.ga K "free_by")) := let ⟨_, X, G, c, _⟩ := T.ex; He.glo_ok X G (c.fact 31 (f := .glo "free_by") rfl)
theorem g_width_by (T : Txt K mg) : mg "width_by" = some (.ref (He.ga K "width_by")) := let ⟨_, X, G, c, _⟩ := T.ex; He.glo_ok X G (c.fact 32 (f := .glo "width_by") rfl)
theorem g_rows_for (T : Txt K mg) : mg "rows_for" = some (.ref (He.ga K "rows_for")) := let ⟨_, X, G, c, _⟩ := T.ex; He.glo_ok X G (c.fact 33 (f := .glo "rows_for") rfl)
theorem g_summed (T : Txt K mg) : mg "summed" = some (.ref (He.ga K "summed")) := let ⟨_, X, G, c, _⟩ := T.ex; He.glo_ok X G (c.fact 34 (f := .glo "summed") rfl)
theorem g_layers_to (T : Txt K mg) : mg "layers_to" = some (.ref (He.ga K "layers_to")) := let ⟨_, X, G, c, _⟩ := T.ex; He.glo_ok X G (c.fact 35 (f := .glo "layers_to") rfl)
theorem g_are_faults (T : Txt K mg) : mg "are_faults" = some (.ref (He.ga K "are_faults")) := let ⟨_, X, G, c, _⟩ := T.ex; He.glo_ok X G (c.fact 36 (f := .glo "are_faults") rfl)
theorem g_is_index (T : Txt K mg) : mg "is_index" = some (.ref (He.ga K "is_index")) := let ⟨_, X, G, c, _⟩ := T.ex; He.glo_ok X G (c.fact 37 (f := .glo "is_index") rfl)
theorem g_need_stock (T : Txt K mg) : mg "need_stock" = some (.ref (He.ga K "need_stock")) := let ⟨_, X, G, c, _⟩ := T.ex; He.glo_ok X G (c.fact 38 (f := .glo "need_stock") rfl)
theorem g_need_faults (T : Txt K mg) : mg "need_faults" = some (.ref (He.ga K "need_faults")) := let ⟨_, X, G, c, _⟩ := T.ex; He.glo_ok X G (c.fact 39 (f := .glo "need_faults") rfl)
theorem g_is_numbers_row (T : Txt K mg) : mg "is_numbers_row" = some (.ref (He.ga K "is_numbers_row")) := let ⟨_, X, G, c, _⟩ := T.ex; He.glo_ok X G (c.fact 40 (f := .glo "is_numbers_row") rfl)
theorem g_need_pattern (T : Txt K mg) : mg "need_pattern" = some (.ref (He.ga K "need_pattern")) := let ⟨_, X, G, c, _⟩ := T.ex; He.glo_ok X G (c.fact 41 (f := .glo "need_pattern") rfl)
theorem g_split (T : Txt K mg) : mg "split" = some (.ref (He.ga K "split")) := let ⟨_, X, G, c, _⟩ := T.ex; He.glo_ok X G (c.fact 42 (f := .glo "split") rfl)
theorem g_size_by (T : Txt K mg) : mg "size_by" = some (.ref (He.ga K "size_by")) := let ⟨_, X, G, c, _⟩ := T.ex; He.glo_ok X G (c.fact 43 (f := .glo "size_by") rfl)
theorem g_split_holds (T : Txt K mg) : mg "split_holds" = some (.ref (He.ga K "split_holds")) := let ⟨_, X, G, c, _⟩ := T.ex; He.glo_ok X G (c.fact 44 (f := .glo "split_holds") rfl)
theorem g_are_rows (T : Txt K mg) : mg "are_rows" = some (.ref (He.ga K "are_rows")) := let ⟨_, X, G, c, _⟩ := T.ex; He.glo_ok X G (c.fact 45 (f := .glo "are_rows") rfl)
theorem g_is_below (T : Txt K mg) : mg "is_below" = some (.ref (He.ga K "is_below")) := let ⟨_, X, G, c, _⟩ := T.ex; He.glo_ok X G (c.fact 46 (f := .glo "is_below") rfl)
theorem g_rows_within (T : Txt K mg) : mg "rows_within" = some (.ref (He.ga K "rows_within")) := let ⟨_, X, G, c, _⟩ := T.ex; He.glo_ok X G (c.fact 47 (f := .glo "rows_within") rfl)
theorem g_stopped_holds (T : Txt K mg) : mg "stopped_holds" = some (.ref (He.ga K "stopped_holds")) := let ⟨_, X, G, c, _⟩ := T.ex; He.glo_ok X G (c.fact 48 (f := .glo "stopped_holds") rfl)
theorem g_law (T : Txt K mg) : mg "law" = some (.ref (He.ga K "law")) := let ⟨_, X, G, c, _⟩ := T.ex; He.glo_ok X G (c.fact 49 (f := .glo "law") rfl)
theorem g_Shop (T : Txt K mg) : mg "Shop" = some (.ref (He.ga K "Shop")) := let ⟨_, X, G, c, _⟩ := T.ex; He.glo_ok X G (c.fact 50 (f := .glo "Shop") rfl)
theorem g_Split (T : Txt K mg) : mg "Split" = some (.ref (He.ga K "Split")) := let ⟨_, X, G, c, _⟩ := T.ex; He.glo_ok X G (c.fact 51 (f := .glo "Split") rfl)
theorem g_Stopped (T : Txt K mg) : mg "Stopped" = some (.ref (He.ga K "Stopped")) := let ⟨_, X, G, c, _⟩ := T.ex; He.glo_ok X G (c.fact 52 (f := .glo "Stopped") rfl)
theorem z_all (T : Txt K mg) : mg "all" = none := let ⟨_, X, G, c, _⟩ := T.ex; He.free_ok X G (c.fact 53 (f := .free "all") rfl)
theorem z_any (T : Txt K mg) : mg "any" = none := let ⟨_, X, G, c, _⟩ := T.ex; He.free_ok X G (c.fact 54 (f := .free "any") rfl)
theorem z_bool (T : Txt K mg) : mg "bool" = none := let ⟨_, X, G, c, _⟩ := T.ex; He.free_ok X G (c.fact 55 (f := .free "bool") rfl)
theorem z_enumerate (T : Txt K mg) : mg "enumerate" = none := let ⟨_, X, G, c, _⟩ := T.ex; He.free_ok X G (c.fact 56 (f := .free "enumerate") rfl)
theorem z_int (T : Txt K mg) : mg "int" = none := let ⟨_, X, G, c, _⟩ := T.ex; He.free_ok X G (c.fact 57 (f := .free "int") rfl)
theorem z_isinstance (T : Txt K mg) : mg "isinstance" = none := let ⟨_, X, G, c, _⟩ := T.ex; He.free_ok X G (c.fact 58 (f := .free "isinstance") rfl)
theorem z_len (T : Txt K mg) : mg "len" = none := let ⟨_, X, G, c, _⟩ := T.ex; He.free_ok X G (c.fact 59 (f := .free "len") rfl)
theorem z_list (T : Txt K mg) : mg "list" = none := let ⟨_, X, G, c, _⟩ := T.ex; He.free_ok X G (c.fact 60 (f := .free "list") rfl)
theorem z_max (T : Txt K mg) : mg "max" = none := let ⟨_, X, G, c, _⟩ := T.ex; He.free_ok X G (c.fact 61 (f := .free "max") rfl)
theorem z_min (T : Txt K mg) : mg "min" = none := let ⟨_, X, G, c, _⟩ := T.ex; He.free_ok X G (c.fact 62 (f := .free "min") rfl)
theorem z_range (T : Txt K mg) : mg "range" = none := let ⟨_, X, G, c, _⟩ := T.ex; He.free_ok X G (c.fact 63 (f := .free "range") rfl)
theorem z_sorted (T : Txt K mg) : mg "sorted" = none := let ⟨_, X, G, c, _⟩ := T.ex; He.free_ok X G (c.fact 64 (f := .free "sorted") rfl)
theorem z_str (T : Txt K mg) : mg "str" = none := let ⟨_, X, G, c, _⟩ := T.ex; He.free_ok X G (c.fact 65 (f := .free "str") rfl)
theorem z_sum (T : Txt K mg) : mg "sum" = none := let ⟨_, X, G, c, _⟩ := T.ex; He.free_ok X G (c.fact 66 (f := .free "sum") rfl)
theorem z_tuple (T : Txt K mg) : mg "tuple" = none := let ⟨_, X, G, c, _⟩ := T.ex; He.free_ok X G (c.fact 67 (f := .free "tuple") rfl)
theorem z_zip (T : Txt K mg) : mg "zip" = none := let ⟨_, X, G, c, _⟩ := T.ex; He.free_ok X G (c.fact 68 (f := .free "zip") rfl)
theorem z_LENGTH_AT (T : Txt K mg) : ∃ t, mg "LENGTH_AT" = some (.int 1 t) := let ⟨_, X, G, c, _⟩ := T.ex; He.int_ok X G (c.fact 69 (f := .int "LENGTH_AT" 1) rfl)
theorem z_MANY_AT (T : Txt K mg) : ∃ t, mg "MANY_AT" = some (.int 2 t) := let ⟨_, X, G, c, _⟩ := T.ex; He.int_ok X G (c.fact 70 (f := .int "MANY_AT" 2) rfl)
theorem z_MOST_FAULTS (T : Txt K mg) : ∃ t, mg "MOST_FAULTS" = some (.int 6 t) := let ⟨_, X, G, c, _⟩ := T.ex; He.int_ok X G (c.fact 71 (f := .int "MOST_FAULTS" 6) rfl)
theorem z_MOST_PIECES (T : Txt K mg) : ∃ t, mg "MOST_PIECES" = some (.int 6 t) := let ⟨_, X, G, c, _⟩ := T.ex; He.int_ok X G (c.fact 72 (f := .int "MOST_PIECES" 6) rfl)
theorem z_MOST_STOCKS (T : Txt K mg) : ∃ t, mg "MOST_STOCKS" = some (.int 4 t) := let ⟨_, X, G, c, _⟩ := T.ex; He.int_ok X G (c.fact 73 (f := .int "MOST_STOCKS" 4) rfl)
theorem z_PRICE_AT (T : Txt K mg) : ∃ t, mg "PRICE_AT" = some (.int 3 t) := let ⟨_, X, G, c, _⟩ := T.ex; He.int_ok X G (c.fact 74 (f := .int "PRICE_AT" 3) rfl)
theorem z_LETTERS (T : Txt K mg) : ∃ t, mg "LETTERS" = some (.str "abcdefghijklmnopqrstuvwxyz" t) := let ⟨_, X, G, c, _⟩ := T.ex; He.str_ok X G (c.fact 75 (f := .str "LETTERS" "abcdefghijklmnopqrstuvwxyz") rfl)
theorem z_SIGNS (T : Txt K mg) : ∃ t, mg "SIGNS" = some (.str "abcdefghijklmnopqrstuvwxyz0123456789" t) := let ⟨_, X, G, c, _⟩ := T.ex; He.str_ok X G (c.fact 76 (f := .str "SIGNS" "abcdefghijklmnopqrstuvwxyz0123456789") rfl)
theorem ato_kerf (T : Txt K mg) : AttrOk K mg at_kerf "kerf" := fun c hc C hm => by
  obtain ⟨_, X, G, cc, _⟩ := T.ex
  have hc' : c = "Shop" := by simpa [at_kerf] using hc
  subst hc'
  · have e := (g_Shop T).symm.trans hm
    cases e
    exact ⟨He.cls_ok (cc.fact 77 (f := .cls "Shop") rfl), He.noat_ok (cc.fact 80 (f := .noat "Shop" "kerf") rfl)⟩
theorem ato_layers (T : Txt K mg) : AttrOk K mg at_layers "layers" := fun c hc C hm => by
  obtain ⟨_, X, G, cc, _⟩ := T.ex
  have hc' : c = "Stopped" := by simpa [at_layers] using hc
  subst hc'
  · have e := (g_Stopped T).symm.trans hm
    cases e
    exact ⟨He.cls_ok (cc.fact 79 (f := .cls "Stopped") rfl), He.noat_ok (cc.fact 81 (f := .noat "Stopped" "layers") rfl)⟩
theorem ato_patterns (T : Txt K mg) : AttrOk K mg at_patterns "patterns" := fun c hc C hm => by
  obtain ⟨_, X, G, cc, _⟩ := T.ex
  have hc' : c = "Split" := by simpa [at_patterns] using hc
  subst hc'
  · have e := (g_Split T).symm.trans hm
    cases e
    exact ⟨He.cls_ok (cc.fact 78 (f := .cls "Split") rfl), He.noat_ok (cc.fact 82 (f := .noat "Split" "patterns") rfl)⟩
theorem ato_pieces (T : Txt K mg) : AttrOk K mg at_pieces "pieces" := fun c hc C hm => by
  obtain ⟨_, X, G, cc, _⟩ := T.ex
  have hc' : c = "Shop" := by simpa [at_pieces] using hc
  subst hc'
  · have e := (g_Shop T).symm.trans hm
    cases e
    exact ⟨He.cls_ok (cc.fact 77 (f := .cls "Shop") rfl), He.noat_ok (cc.fact 83 (f := .noat "Shop" "pieces") rfl)⟩
theorem ato_stocks (T : Txt K mg) : AttrOk K mg at_stocks "stocks" := fun c hc C hm => by
  obtain ⟨_, X, G, cc, _⟩ := T.ex
  have hc' : c = "Shop" := by simpa [at_stocks] using hc
  subst hc'
  · have e := (g_Shop T).symm.trans hm
    cases e
    exact ⟨He.cls_ok (cc.fact 77 (f := .cls "Shop") rfl), He.noat_ok (cc.fact 84 (f := .noat "Shop" "stocks") rfl)⟩
theorem mk_Shop (T : Txt K mg) : Mk K (He.ga K "Shop") (He.ma K (He.ga K "Shop") "__init__") := let ⟨_, X, G, c, _⟩ := T.ex; He.mkr_ok (c.fact 85 (f := .mkr "Shop") rfl)
theorem mk_Split (T : Txt K mg) : Mk K (He.ga K "Split") (He.ma K (He.ga K "Split") "__init__") := let ⟨_, X, G, c, _⟩ := T.ex; He.mkr_ok (c.fact 86 (f := .mkr "Split") rfl)
theorem mk_Stopped (T : Txt K mg) : Mk K (He.ga K "Stopped") (He.ma K (He.ga K "Stopped") "__init__") := let ⟨_, X, G, c, _⟩ := T.ex; He.mkr_ok (c.fact 87 (f := .mkr "Stopped") rfl)
theorem clsok (T : Txt K mg) : ClsOk K mg OWN where
  glo := by
    intro c hc
    have hc2 : c = "Shop" ∨ c = "Split" ∨ c = "Stopped" := by simpa [OWN] using hc
    rcases hc2 with rfl | rfl | rfl
    · exact g_Shop T
    · exact g_Split T
    · exact g_Stopped T
  cls := by
    intro c hc
    have hc2 : c = "Shop" ∨ c = "Split" ∨ c = "Stopped" := by simpa [OWN] using hc
    rcases hc2 with rfl | rfl | rfl
    · exact (let ⟨_, X, G, cc, _⟩ := T.ex; He.cls_ok (cc.fact 77 (f := .cls "Shop") rfl))
    · exact (let ⟨_, X, G, cc, _⟩ := T.ex; He.cls_ok (cc.fact 78 (f := .cls "Split") rfl))
    · exact (let ⟨_, X, G, cc, _⟩ := T.ex; He.cls_ok (cc.fact 79 (f := .cls "Stopped") rfl))
  facts := let ⟨_, _, _, _, m⟩ := T.ex; (Bool.and_eq_true _ _ ▸ m : _ ∧ _).1
theorem eqok (T : Txt K mg) : eqFacts K OWN = true := let ⟨_, _, _, _, m⟩ := T.ex; (Bool.and_eq_true _ _ ▸ m : _ ∧ _).2
theorem fd__law_draw (T : Txt K mg) : ∃ fd, FunD K "_law_draw" "_law_draw" (defArgs st__law_draw) (defBody st__law_draw) (defScope st__law_draw) [] [] (He.fAd K ("_law_draw", none)) fd := let ⟨_, X, G, c, _⟩ := T.ex; c.def_ 0 (d := d__law_draw) rfl
theorem fd__law_pick (T : Txt K mg) : ∃ fd, FunD K "_law_pick" "_law_pick" (defArgs st__law_pick) (defBody st__law_pick) (defScope st__law_pick) [] [] (He.fAd K ("_law_pick", none)) fd := let ⟨_, X, G, c, _⟩ := T.ex; c.def_ 1 (d := d__law_pick) rfl
theorem fd_as_tuples (T : Txt K mg) : ∃ fd, FunD K "as_tuples" "as_tuples" (defArgs st_as_tuples) (defBody st_as_tuples) (defScope st_as_tuples) [] [] (He.fAd K ("as_tuples", none)) fd := let ⟨_, X, G, c, _⟩ := T.ex; c.def_ 2 (d := d_as_tuples) rfl
theorem fd_Split_init (T : Txt K mg) : ∃ fd, FunD K "__init__" "Split.__init__" (defArgs st_Split_init) (defBody st_Split_init) (defScope st_Split_init) [] [] (He.fAd K ("Split", some "__init__")) fd := let ⟨_, X, G, c, _⟩ := T.ex; c.def_ 3 (d := d_Split_init) rfl
theorem fd_Stopped_init (T : Txt K mg) : ∃ fd, FunD K "__init__" "Stopped.__init__" (defArgs st_Stopped_init) (defBody st_Stopped_init) (defScope st_Stopped_init) [] [] (He.fAd K ("Stopped", some "__init__")) fd := let ⟨_, X, G, c, _⟩ := T.ex; c.def_ 4 (d := d_Stopped_init) rfl
theorem fd__law_bent (T : Txt K mg) : ∃ fd, FunD K "_law_bent" "_law_bent" (defArgs st__law_bent) (defBody st__law_bent) (defScope st__law_bent) [] [] (He.fAd K ("_law_bent", none)) fd := let ⟨_, X, G, c, _⟩ := T.ex; c.def_ 5 (d := d__law_bent) rfl
theorem fd__law_drawn_faults (T : Txt K mg) : ∃ fd, FunD K "_law_drawn_faults" "_law_drawn_faults" (defArgs st__law_drawn_faults) (defBody st__law_drawn_faults) (defScope st__law_drawn_faults) [] [] (He.fAd K ("_law_drawn_faults", none)) fd := let ⟨_, X, G, c, _⟩ := T.ex; c.def_ 6 (d := d__law_drawn_faults) rfl
theorem fd__law_name (T : Txt K mg) : ∃ fd, FunD K "_law_name" "_law_name" (defArgs st__law_name) (defBody st__law_name) (defScope st__law_name) [] [] (He.fAd K ("_law_name", none)) fd := let ⟨_, X, G, c, _⟩ := T.ex; c.def_ 7 (d := d__law_name) rfl
theorem fd__law_names (T : Txt K mg) : ∃ fd, FunD K "_law_names" "_law_names" (defArgs st__law_names) (defBody st__law_names) (defScope st__law_names) [] [] (He.fAd K ("_law_names", none)) fd := let ⟨_, X, G, c, _⟩ := T.ex; c.def_ 8 (d := d__law_names) rfl
theorem fd__law_few_shop (T : Txt K mg) : ∃ fd, FunD K "_law_few_shop" "_law_few_shop" (defArgs st__law_few_shop) (defBody st__law_few_shop) (defScope st__law_few_shop) [] [] (He.fAd K ("_law_few_shop", none)) fd := let ⟨_, X, G, c, _⟩ := T.ex; c.def_ 9 (d := d__law_few_shop) rfl
theorem fd__law_free (T : Txt K mg) : ∃ fd, FunD K "_law_free" "_law_free" (defArgs st__law_free) (defBody st__law_free) (defScope st__law_free) [] [] (He.fAd K ("_law_free", none)) fd := let ⟨_, X, G, c, _⟩ := T.ex; c.def_ 10 (d := d__law_free) rfl
theorem fd__law_is (T : Txt K mg) : ∃ fd, FunD K "_law_is" "_law_is" (defArgs st__law_is) (defBody st__law_is) (defScope st__law_is) [] [] (He.fAd K ("_law_is", none)) fd := let ⟨_, X, G, c, _⟩ := T.ex; c.def_ 11 (d := d__law_is) rfl
theorem fd_is_whole (T : Txt K mg) : ∃ fd, FunD K "is_whole" "is_whole" (defArgs st_is_whole) (defBody st_is_whole) (defScope st_is_whole) [] [] (He.fAd K ("is_whole", none)) fd := let ⟨_, X, G, c, _⟩ := T.ex; c.def_ 12 (d := d_is_whole) rfl
theorem fd_is_number (T : Txt K mg) : ∃ fd, FunD K "is_number" "is_number" (defArgs st_is_number) (defBody st_is_number) (defScope st_is_number) [] [] (He.fAd K ("is_number", none)) fd := let ⟨_, X, G, c, _⟩ := T.ex; c.def_ 13 (d := d_is_number) rfl
theorem fd_is_length (T : Txt K mg) : ∃ fd, FunD K "is_length" "is_length" (defArgs st_is_length) (defBody st_is_length) (defScope st_is_length) [] [] (He.fAd K ("is_length", none)) fd := let ⟨_, X, G, c, _⟩ := T.ex; c.def_ 14 (d := d_is_length) rfl
theorem fd_need_length (T : Txt K mg) : ∃ fd, FunD K "need_length" "need_length" (defArgs st_need_length) (defBody st_need_length) (defScope st_need_length) [] [] (He.fAd K ("need_length", none)) fd := let ⟨_, X, G, c, _⟩ := T.ex; c.def_ 15 (d := d_need_length) rfl
theorem fd_is_name (T : Txt K mg) : ∃ fd, FunD K "is_name" "is_name" (defArgs st_is_name) (defBody st_is_name) (defScope st_is_name) [] [] (He.fAd K ("is_name", none)) fd := let ⟨_, X, G, c, _⟩ := T.ex; c.def_ 16 (d := d_is_name) rfl
theorem fd_need_new_name (T : Txt K mg) : ∃ fd, FunD K "need_new_name" "need_new_name" (defArgs st_need_new_name) (defBody st_need_new_name) (defScope st_need_new_name) [] [] (He.fAd K ("need_new_name", none)) fd := let ⟨_, X, G, c, _⟩ := T.ex; c.def_ 17 (d := d_need_new_name) rfl
theorem fd_need_pieces (T : Txt K mg) : ∃ fd, FunD K "need_pieces" "need_pieces" (defArgs st_need_pieces) (defBody st_need_pieces) (defScope st_need_pieces) [] [] (He.fAd K ("need_pieces", none)) fd := let ⟨_, X, G, c, _⟩ := T.ex; c.def_ 18 (d := d_need_pieces) rfl
theorem fd_need_stocks (T : Txt K mg) : ∃ fd, FunD K "need_stocks" "need_stocks" (defArgs st_need_stocks) (defBody st_need_stocks) (defScope st_need_stocks) [] [] (He.fAd K ("need_stocks", none)) fd := let ⟨_, X, G, c, _⟩ := T.ex; c.def_ 19 (d := d_need_stocks) rfl
theorem fd_Shop_init (T : Txt K mg) : ∃ fd, FunD K "__init__" "Shop.__init__" (defArgs st_Shop_init) (defBody st_Shop_init) (defScope st_Shop_init) [] [] (He.fAd K ("Shop", some "__init__")) fd := let ⟨_, X, G, c, _⟩ := T.ex; c.def_ 20 (d := d_Shop_init) rfl
theorem fd__law_made (T : Txt K mg) : ∃ fd, FunD K "_law_made" "_law_made" (defArgs st__law_made) (defBody st__law_made) (defScope st__law_made) [] [] (He.fAd K ("_law_made", none)) fd := let ⟨_, X, G, c, _⟩ := T.ex; c.def_ 21 (d := d__law_made) rfl
theorem fd__law_added (T : Txt K mg) : ∃ fd, FunD K "_law_added" "_law_added" (defArgs st__law_added) (defBody st__law_added) (defScope st__law_added) [] [] (He.fAd K ("_law_added", none)) fd := let ⟨_, X, G, c, _⟩ := T.ex; c.def_ 22 (d := d__law_added) rfl
theorem fd__law_cut (T : Txt K mg) : ∃ fd, FunD K "_law_cut" "_law_cut" (defArgs st__law_cut) (defBody st__law_cut) (defScope st__law_cut) [] [] (He.fAd K ("_law_cut", none)) fd := let ⟨_, X, G, c, _⟩ := T.ex; c.def_ 23 (d := d__law_cut) rfl
theorem fd__law_patterns (T : Txt K mg) : ∃ fd, FunD K "_law_patterns" "_law_patterns" (defArgs st__law_patterns) (defBody st__law_patterns) (defScope st__law_patterns) [] [] (He.fAd K ("_law_patterns", none)) fd := let ⟨_, X, G, c, _⟩ := T.ex; c.def_ 24 (d := d__law_patterns) rfl
theorem fd__law_out (T : Txt K mg) : ∃ fd, FunD K "_law_out" "_law_out" (defArgs st__law_out) (defBody st__law_out) (defScope st__law_out) [] [] (He.fAd K ("_law_out", none)) fd := let ⟨_, X, G, c, _⟩ := T.ex; c.def_ 25 (d := d__law_out) rfl
theorem fd__law_pen (T : Txt K mg) : ∃ fd, FunD K "_law_pen" "_law_pen" (defArgs st__law_pen) (defBody st__law_pen) (defScope st__law_pen) [] [] (He.fAd K ("_law_pen", none)) fd := let ⟨_, X, G, c, _⟩ := T.ex; c.def_ 26 (d := d__law_pen) rfl
theorem fd__law_size (T : Txt K mg) : ∃ fd, FunD K "_law_size" "_law_size" (defArgs st__law_size) (defBody st__law_size) (defScope st__law_size) [] [] (He.fAd K ("_law_size", none)) fd := let ⟨_, X, G, c, _⟩ := T.ex; c.def_ 27 (d := d__law_size) rfl
theorem fd__law_gives (T : Txt K mg) : ∃ fd, FunD K "_law_gives" "_law_gives" (defArgs st__law_gives) (defBody st__law_gives) (defScope st__law_gives) [] [] (He.fAd K ("_law_gives", none)) fd := let ⟨_, X, G, c, _⟩ := T.ex; c.def_ 28 (d := d__law_gives) rfl
theorem fd__law_whole (T : Txt K mg) : ∃ fd, FunD K "_law_whole" "_law_whole" (defArgs st__law_whole) (defBody st__law_whole) (defScope st__law_whole) [] [] (He.fAd K ("_law_whole", none)) fd := let ⟨_, X, G, c, _⟩ := T.ex; c.def_ 29 (d := d__law_whole) rfl
theorem fd__law_is_numbers (T : Txt K mg) : ∃ fd, FunD K "_law_is_numbers" "_law_is_numbers" (defArgs st__law_is_numbers) (defBody st__law_is_numbers) (defScope st__law_is_numbers) [] [] (He.fAd K ("_law_is_numbers", none)) fd := let ⟨_, X, G, c, _⟩ := T.ex; c.def_ 30 (d := d__law_is_numbers) rfl
theorem fd__law_split_right (T : Txt K mg) : ∃ fd, FunD K "_law_split_right" "_law_split_right" (defArgs st__law_split_right) (defBody st__law_split_right) (defScope st__law_split_right) [] [] (He.fAd K ("_law_split_right", none)) fd := let ⟨_, X, G, c, _⟩ := T.ex; c.def_ 31 (d := d__law_split_right) rfl
theorem fd__law_is_below (T : Txt K mg) : ∃ fd, FunD K "_law_is_below" "_law_is_below" (defArgs st__law_is_below) (defBody st__law_is_below) (defScope st__law_is_below) [] [] (He.fAd K ("_law_is_below", none)) fd := let ⟨_, X, G, c, _⟩ := T.ex; c.def_ 32 (d := d__law_is_below) rfl
theorem fd__law_stopped_right (T : Txt K mg) : ∃ fd, FunD K "_law_stopped_right" "_law_stopped_right" (defArgs st__law_stopped_right) (defBody st__law_stopped_right) (defScope st__law_stopped_right) [] [] (He.fAd K ("_law_stopped_right", none)) fd := let ⟨_, X, G, c, _⟩ := T.ex; c.def_ 33 (d := d__law_stopped_right) rfl
theorem fd_free_by (T : Txt K mg) : ∃ fd, FunD K "free_by" "free_by" (defArgs st_free_by) (defBody st_free_by) (defScope st_free_by) [] [] (He.fAd K ("free_by", none)) fd := let ⟨_, X, G, c, _⟩ := T.ex; c.def_ 34 (d := d_free_by) rfl
theorem fd_width_by (T : Txt K mg) : ∃ fd, FunD K "width_by" "width_by" (defArgs st_width_by) (defBody st_width_by) (defScope st_width_by) [] [] (He.fAd K ("width_by", none)) fd := let ⟨_, X, G, c, _⟩ := T.ex; c.def_ 35 (d := d_width_by) rfl
theorem fd_rows_for (T : Txt K mg) : ∃ fd, FunD K "rows_for" "rows_for" (defArgs st_rows_for) (defBody st_rows_for) (defScope st_rows_for) [] [] (He.fAd K ("rows_for", none)) fd := let ⟨_, X, G, c, _⟩ := T.ex; c.def_ 36 (d := d_rows_for) rfl
theorem fd_summed (T : Txt K mg) : ∃ fd, FunD K "summed" "summed" (defArgs st_summed) (defBody st_summed) (defScope st_summed) [] [] (He.fAd K ("summed", none)) fd := let ⟨_, X, G, c, _⟩ := T.ex; c.def_ 37 (d := d_summed) rfl
theorem fd_layers_to (T : Txt K mg) : ∃ fd, FunD K "layers_to" "layers_to" (defArgs st_layers_to) (defBody st_layers_to) (defScope st_layers_to) [] [] (He.fAd K ("layers_to", none)) fd := let ⟨_, X, G, c, _⟩ := T.ex; c.def_ 38 (d := d_layers_to) rfl
theorem fd_are_faults (T : Txt K mg) : ∃ fd, FunD K "are_faults" "are_faults" (defArgs st_are_faults) (defBody st_are_faults) (defScope st_are_faults) [] [] (He.fAd K ("are_faults", none)) fd := let ⟨_, X, G, c, _⟩ := T.ex; c.def_ 39 (d := d_are_faults) rfl
theorem fd_is_index (T : Txt K mg) : ∃ fd, FunD K "is_index" "is_index" (defArgs st_is_index) (defBody st_is_index) (defScope st_is_index) [] [] (He.fAd K ("is_index", none)) fd := let ⟨_, X, G, c, _⟩ := T.ex; c.def_ 40 (d := d_is_index) rfl
theorem fd_need_stock (T : Txt K mg) : ∃ fd, FunD K "need_stock" "need_stock" (defArgs st_need_stock) (defBody st_need_stock) (defScope st_need_stock) [] [] (He.fAd K ("need_stock", none)) fd := let ⟨_, X, G, c, _⟩ := T.ex; c.def_ 41 (d := d_need_stock) rfl
theorem fd_need_faults (T : Txt K mg) : ∃ fd, FunD K "need_faults" "need_faults" (defArgs st_need_faults) (defBody st_need_faults) (defScope st_need_faults) [] [] (He.fAd K ("need_faults", none)) fd := let ⟨_, X, G, c, _⟩ := T.ex; c.def_ 42 (d := d_need_faults) rfl
theorem fd_is_numbers_row (T : Txt K mg) : ∃ fd, FunD K "is_numbers_row" "is_numbers_row" (defArgs st_is_numbers_row) (defBody st_is_numbers_row) (defScope st_is_numbers_row) [] [] (He.fAd K ("is_numbers_row", none)) fd := let ⟨_, X, G, c, _⟩ := T.ex; c.def_ 43 (d := d_is_numbers_row) rfl
theorem fd_need_pattern (T : Txt K mg) : ∃ fd, FunD K "need_pattern" "need_pattern" (defArgs st_need_pattern) (defBody st_need_pattern) (defScope st_need_pattern) [] [] (He.fAd K ("need_pattern", none)) fd := let ⟨_, X, G, c, _⟩ := T.ex; c.def_ 44 (d := d_need_pattern) rfl
theorem fd_split (T : Txt K mg) : ∃ fd, FunD K "split" "split" (defArgs st_split) (defBody st_split) (defScope st_split) [] [] (He.fAd K ("split", none)) fd := let ⟨_, X, G, c, _⟩ := T.ex; c.def_ 45 (d := d_split) rfl
theorem fd_size_by (T : Txt K mg) : ∃ fd, FunD K "size_by" "size_by" (defArgs st_size_by) (defBody st_size_by) (defScope st_size_by) [] [] (He.fAd K ("size_by", none)) fd := let ⟨_, X, G, c, _⟩ := T.ex; c.def_ 46 (d := d_size_by) rfl
theorem fd_split_holds (T : Txt K mg) : ∃ fd, FunD K "split_holds" "split_holds" (defArgs st_split_holds) (defBody st_split_holds) (defScope st_split_holds) [] [] (He.fAd K ("split_holds", none)) fd := let ⟨_, X, G, c, _⟩ := T.ex; c.def_ 47 (d := d_split_holds) rfl
theorem fd_are_rows (T : Txt K mg) : ∃ fd, FunD K "are_rows" "are_rows" (defArgs st_are_rows) (defBody st_are_rows) (defScope st_are_rows) [] [] (He.fAd K ("are_rows", none)) fd := let ⟨_, X, G, c, _⟩ := T.ex; c.def_ 48 (d := d_are_rows) rfl
theorem fd_is_below (T : Txt K mg) : ∃ fd, FunD K "is_below" "is_below" (defArgs st_is_below) (defBody st_is_below) (defScope st_is_below) [] [] (He.fAd K ("is_below", none)) fd := let ⟨_, X, G, c, _⟩ := T.ex; c.def_ 49 (d := d_is_below) rfl
theorem fd_rows_within (T : Txt K mg) : ∃ fd, FunD K "rows_within" "rows_within" (defArgs st_rows_within) (defBody st_rows_within) (defScope st_rows_within) [] [] (He.fAd K ("rows_within", none)) fd := let ⟨_, X, G, c, _⟩ := T.ex; c.def_ 50 (d := d_rows_within) rfl
theorem fd_stopped_holds (T : Txt K mg) : ∃ fd, FunD K "stopped_holds" "stopped_holds" (defArgs st_stopped_holds) (defBody st_stopped_holds) (defScope st_stopped_holds) [] [] (He.fAd K ("stopped_holds", none)) fd := let ⟨_, X, G, c, _⟩ := T.ex; c.def_ 51 (d := d_stopped_holds) rfl
theorem fd_Split_eq (T : Txt K mg) : ∃ fd, FunD K "__eq__" "Split.__eq__" (defArgs st_Split_eq) (defBody st_Split_eq) (defScope st_Split_eq) [] [] (He.fAd K ("Split", some "__eq__")) fd := let ⟨_, X, G, c, _⟩ := T.ex; c.def_ 52 (d := d_Split_eq) rfl
theorem fd_Split_ne (T : Txt K mg) : ∃ fd, FunD K "__ne__" "Split.__ne__" (defArgs st_Split_ne) (defBody st_Split_ne) (defScope st_Split_ne) [] [] (He.fAd K ("Split", some "__ne__")) fd := let ⟨_, X, G, c, _⟩ := T.ex; c.def_ 53 (d := d_Split_ne) rfl
theorem fd_Stopped_eq (T : Txt K mg) : ∃ fd, FunD K "__eq__" "Stopped.__eq__" (defArgs st_Stopped_eq) (defBody st_Stopped_eq) (defScope st_Stopped_eq) [] [] (He.fAd K ("Stopped", some "__eq__")) fd := let ⟨_, X, G, c, _⟩ := T.ex; c.def_ 54 (d := d_Stopped_eq) rfl
theorem fd_Stopped_ne (T : Txt K mg) : ∃ fd, FunD K "__ne__" "Stopped.__ne__" (defArgs st_Stopped_ne) (defBody st_Stopped_ne) (defScope st_Stopped_ne) [] [] (He.fAd K ("Stopped", some "__ne__")) fd := let ⟨_, X, G, c, _⟩ := T.ex; c.def_ 55 (d := d_Stopped_ne) rfl
theorem fd_law (T : Txt K mg) : ∃ fd, FunD K "law" "law" (defArgs st_law) (defBody st_law) (defScope st_law) [] [] (He.fAd K ("law", none)) fd := let ⟨_, X, G, c, _⟩ := T.ex; c.def_ 56 (d := d_law) rfl
end
end K83
namespace K83
open PySem PySem.Spec PyProof.Rows L2 Ev
section
variable {P : Program} {w : World} {K : PySem.W.Frag} {mg : Str → Option Value} {base : Heap}
abbrev n__law_draw : List Str := ["pen", "many", "cell", "digit", "blend"]
theorem sc__law_draw : FnScope n__law_draw ["pen", "many"] (defScope st__law_draw) := ⟨rfl, rfl, rfl, by decide +kernel, rfl, by decide +kernel, by decide +kernel⟩
theorem gf__law_draw (T : Txt K mg) : GF P w K mg base 1 "_law_draw" 2 m__law_draw := by
  obtain ⟨fd, F⟩ := fd__law_draw T
  refine gf_of (b := b__law_draw) (n := 2) (N := n__law_draw) F (g__law_draw T) sc__law_draw rfl (by decide) (fun _ _ _ _ _ _ us hl => match us, hl with | [_, _], _ => rfl) fun cdv A outer s H E hr => ?_
  exact (simb_cons (own1 := []) (sim_put hr (sim_var (pv 0) (by decide)) sim_str (v_add (SimE.r (sim_get hr (sim_var (pv 0) (by decide)) sim_str)) (SimE.r sim_int)))
    (simb_cons (own1 := []) (sim_ifS (SimW.t (sim_andW (sim_cmpT (op_eqD hr.units) op2_eq (SimE.r (sim_get hr (sim_var (pv 0) (by decide)) sim_str)) (SimE.r sim_int) (nomark _)) (sim_and1 (sim_cmpT op_lt (op2_i2 _) (SimE.r (sim_get hr (sim_var (pv 0) (by decide)) sim_str)) (SimE.r (v_len (z_len T) (SimE.r (sim_get hr (sim_var (pv 0) (by decide)) sim_str)))) (nomark _))))) (simb_cons (own1 := []) (sim_set sc__law_draw.nd rfl (by first | exact .inl rfl | exact .inr rfl) (sim_ix (SimE.r (sim_get hr (sim_var (pv 0) (by decide)) sim_str)) (SimE.r (sim_get hr (sim_var (pv 0) (by decide)) sim_str)) (fun _ _ => rfl)))
    (simb_cons (own1 := []) (sim_put hr (sim_var (pv 0) (by decide)) sim_str (v_add (SimE.r (sim_get hr (sim_var (pv 0) (by decide)) sim_str)) (SimE.r sim_int)))
    (simb_one (sim_ifS (sim_cmpT op_ge (op2_i2 _) (SimE.r (sim_var (pv 2) (by decide))) (SimE.r (v_pow (SimE.r sim_int) (SimE.r sim_int))) (nomark _)) (simb_one (sim_put hr (sim_var (pv 0) (by decide)) sim_str (v_sub (SimE.r (sim_var (pv 2) (by decide))) (SimE.r (v_pow (SimE.r sim_int) (SimE.r sim_int)))))) (simb_one (sim_put hr (sim_var (pv 0) (by decide)) sim_str (v_mod (SimE.r (v_int (z_int T) (SimE.r (v_add (SimE.r (v_mul (SimE.r (sim_get hr (sim_var (pv 0) (by decide)) sim_str)) (SimE.r sim_int))) (SimE.r (sim_var (pv 2) (by decide))))))) (SimE.r sim_int)))))))) simb_nil)
    (simb_cons (own1 := []) (sim_ifS (sim_cmpT op_gt (op2_i2 _) (SimE.r (sim_get hr (sim_var (pv 0) (by decide)) sim_str)) (SimE.r sim_int) (nomark _)) (simb_cons (own1 := []) (sim_set sc__law_draw.nd rfl (by first | exact .inl rfl | exact .inr rfl) (v_mod (SimE.r (v_int (z_int T) (SimE.r (sim_get hr (sim_var (pv 0) (by decide)) sim_str)))) (SimE.r (sim_var (pv 1) (by decide)))))
    (simb_cons (own1 := []) (sim_put hr (sim_var (pv 0) (by decide)) sim_str (v_fdiv (SimE.r (sim_get hr (sim_var (pv 0) (by decide)) sim_str)) (SimE.r (sim_var (pv 1) (by decide)))))
    (simb_one (sim_ret (sim_var (pv 3) (by decide)))))) simb_nil)
    (simb_cons (own1 := []) (sim_set sc__law_draw.nd rfl (by first | exact .inl rfl | exact .inr rfl) (v_mod (SimE.r (v_int (z_int T) (SimE.r (v_add (SimE.r (v_add (SimE.r (v_mul (SimE.r (sim_get hr (sim_var (pv 0) (by decide)) sim_str)) (SimE.r sim_int))) (SimE.r (v_mul (SimE.r (sim_get hr (sim_var (pv 0) (by decide)) sim_str)) (SimE.r sim_int))))) (SimE.r sim_int))))) (SimE.r sim_int)))
    (simb_cons (own1 := []) (sim_set sc__law_draw.nd rfl (by first | exact .inl rfl | exact .inr rfl) (v_mod (SimE.r (v_int (z_int T) (SimE.r (v_add (SimE.r (v_add (SimE.r (v_mul (SimE.r (sim_var (pv 4) (by decide))) (SimE.r (sim_var (pv 4) (by decide))))) (SimE.r (v_mul (SimE.r sim_int) (SimE.r (sim_var (pv 4) (by decide))))))) (SimE.r (sim_get hr (sim_var (pv 0) (by decide)) sim_str)))))) (SimE.r sim_int)))
    (simb_cons (own1 := []) (sim_put hr (sim_var (pv 0) (by decide)) sim_str (v_mod (SimE.r (v_int (z_int T) (SimE.r (v_add (SimE.r (v_mul (SimE.r (sim_var (pv 4) (by decide))) (SimE.r sim_int))) (SimE.r sim_int))))) (SimE.r sim_int)))
    (simb_one (sim_ret (v_mod (SimE.r (v_int (z_int T) (SimE.r (v_fdiv (SimE.r (sim_var (pv 4) (by decide))) (SimE.r sim_int))))) (SimE.r (sim_var (pv 1) (by decide))))))))))))
abbrev n__law_pick : List Str := ["pen", "some"]
theorem sc__law_pick : FnScope n__law_pick ["pen", "some"] (defScope st__law_pick) := ⟨rfl, rfl, rfl, by decide +kernel, rfl, by decide +kernel, by decide +kernel⟩
theorem gf__law_pick (T : Txt K mg) : GF P w K mg base 2 "_law_pick" 2 m__law_pick := by
  obtain ⟨fd, F⟩ := fd__law_pick T
  refine gf_of (b := b__law_pick) (n := 2) (N := n__law_pick) F (g__law_pick T) sc__law_pick rfl (by decide) (fun _ _ _ _ _ _ us hl => match us, hl with | [_, _], _ => rfl) fun cdv A outer s H E hr => ?_
  exact (simb_one (sim_ret (sim_ix (SimE.r (sim_var (pv 1) (by decide))) (SimE.r (sim_call (gf__law_draw T) (hr.mono (by decide)) (by rfl) (sima_cons (sim_var (pv 0) (by decide)) (sima_cons (v_len (z_len T) (SimE.r (sim_var (pv 1) (by decide)))) sima_nil)))) (fun _ _ => rfl))))
abbrev n_as_tuples : List Str := ["value", "one"]
theorem sc_as_tuples : FnScope n_as_tuples ["value"] (defScope st_as_tuples) := ⟨rfl, rfl, rfl, by decide +kernel, rfl, by decide +kernel, by decide +kernel⟩
theorem rr_as_tuples (T : Txt K mg) : ∀ n : Nat, GF P w K mg base (0 + n) "as_tuples" 1 (r_as_tuples n)
  | 0 => by
    obtain ⟨fd, F⟩ := fd_as_tuples T
    exact gf_bad F (g_as_tuples T) sc_as_tuples rfl (fun _ _ _ _ _ _ us hl => match us, hl with | [_], _ => rfl)
  | n + 1 => by
    have G : GF P w K mg base (0 + n) "as_tuples" 1 (r_as_tuples n) := rr_as_tuples T n
    obtain ⟨fd, F⟩ := fd_as_tuples T
    refine gf_of (b := b_as_tuples (r_as_tuples n)) (n := 1) (N := n_as_tuples) F (g_as_tuples T) sc_as_tuples rfl (by decide) (fun _ _ _ _ _ _ us hl => match us, hl with | [_], _ => rfl) fun cdv A outer s H E hr => ?_
    exact (simb_cons (own1 := []) (sim_ifS (sim_truth (SimE.r (sim_isi2 (n := "list") (n2 := "tuple") (by rfl) (z_isinstance T) (by rfl) (z_list T) boot_list (by decide) (by rfl) (z_tuple T) boot_tuple (by decide) (SimE.r (sim_var (pv 0) (by decide)))))) (simb_one (sim_ret (v_tup (z_tuple T) (SimF.rr (simf_comp (ownc := [("one", 1)]) rfl sc_as_tuples.nd (own' := []) (simi_seq (sim_var (pv 0) (by decide))) (blkOk_by (own := [("one", 1)]) (N := n_as_tuples) (sc := defScope st_as_tuples) (by decide +kernel)) (fun _ _ _ _ _ => (simg_name sc_as_tuples.nd rfl (by first | exact .inl rfl | exact .inr rfl))) (fun _ _ _ _ _ => simts_nil) (fun _ _ _ _ _ => (sim_call G hr (by rfl) (sima_cons (sim_var (pv 1) (by decide)) sima_nil)))))))) simb_nil)
    (simb_one (sim_ret (sim_var (pv 0) (by decide)))))
theorem gf_as_tuples (T : Txt K mg) : GF P w K mg base 12 "as_tuples" 1 m_as_tuples := rr_as_tuples T 12
abbrev n_Split_init : List Str := ["self", "patterns"]
theorem sc_Split_init : FnScope n_Split_init ["self", "patterns"] (defScope st_Split_init) := ⟨rfl, rfl, rfl, by decide +kernel, rfl, by decide +kernel, by decide +kernel⟩
theorem gi_Split (T : Txt K mg) : GI P w K mg base 13 "Split" 1 m_Split_init := by
  obtain ⟨fd, F⟩ := fd_Split_init T
  refine gi_of (b := b_Split_init) (n := 1) (N := n_Split_init) F (g_Split T) (mk_Split T) sc_Split_init rfl (by decide) (fun _ _ _ _ _ _ us hl => match us, hl with | [_, _], _ => rfl) fun cdv A outer s H E hr => ?_
  exact (simb_one (sim_fld (by decide) (pv 0) (sim_call (gf_as_tuples T) (hr.mono (by decide)) (by rfl) (sima_cons (sim_var (pv 1) (by decide)) sima_nil)) (ato_patterns T)))
abbrev n_Stopped_init : List Str := ["self", "layers"]
theorem sc_Stopped_init : FnScope n_Stopped_init ["self", "layers"] (defScope st_Stopped_init) := ⟨rfl, rfl, rfl, by decide +kernel, rfl, by decide +kernel, by decide +kernel⟩
theorem gi_Stopped (T : Txt K mg) : GI P w K mg base 13 "Stopped" 1 m_Stopped_init := by
  obtain ⟨fd, F⟩ := fd_Stopped_init T
  refine gi_of (b := b_Stopped_init) (n := 1) (N := n_Stopped_init) F (g_Stopped T) (mk_Stopped T) sc_Stopped_init rfl (by decide) (fun _ _ _ _ _ _ us hl => match us, hl with | [_, _], _ => rfl) fun cdv A outer s H E hr => ?_
  exact (simb_one (sim_fld (by decide) (pv 0) (sim_call (gf_as_tuples T) (hr.mono (by decide)) (by rfl) (sima_cons (sim_var (pv 1) (by decide)) sima_nil)) (ato_layers T)))
abbrev n__law_bent : List Str := ["pen", "shop", "paper", "many", "rows", "at", "some", "row", "news", "layer", "lap"]
theorem sc__law_bent : FnScope n__law_bent ["pen", "shop", "paper"] (defScope st__law_bent) := ⟨rfl, rfl, rfl, by decide +kernel, rfl, by decide +kernel, by decide +kernel⟩
theorem gf__law_bent (T : Txt K mg) : GF P w K mg base 15 "_law_bent" 3 m__law_bent := by
  obtain ⟨fd, F⟩ := fd__law_bent T
  refine gf_of (b := b__law_bent) (n := 3) (N := n__law_bent) F (g__law_bent T) sc__law_bent rfl (by decide) (fun _ _ _ _ _ _ us hl => match us, hl with | [_, _, _], _ => rfl) fun cdv A outer s H E hr => ?_
  exact (simb_cons (own1 := []) (sim_set sc__law_bent.nd rfl (by first | exact .inl rfl | exact .inr rfl) (v_len (z_len T) (SimE.r (sim_ix (SimE.r (sim_var (pv 1) (by decide))) (SimE.r sim_int) (fun _ _ => rfl)))))
    (simb_cons (own1 := []) (sim_ifS (sim_truth (SimE.r (sim_isC (clsok T) (by decide +kernel) (by rfl) (z_isinstance T) (by rfl) (sim_var (pv 2) (by decide))))) (simb_cons (own1 := []) (sim_set sc__law_bent.nd rfl (by first | exact .inl rfl | exact .inr rfl) (sim_attr (sim_var (pv 2) (by decide)) (ato_patterns T)))
    (simb_cons (own1 := []) (sim_set sc__law_bent.nd rfl (by first | exact .inl rfl | exact .inr rfl) (sim_call (gf__law_draw T) (hr.mono (by decide)) (by rfl) (sima_cons (sim_var (pv 0) (by decide)) (sima_cons (v_max2 (z_max T) (SimE.r sim_int) (SimE.r (v_len (z_len T) (SimE.r (sim_var (pv 4) (by decide)))))) sima_nil))))
    (simb_cons (own1 := [6]) (sim_setF sc__law_bent.nd rfl (by first | exact .inl rfl | exact .inr rfl) (sim_lst (sima_cons (sim_slice (SimE.r (sim_var (pv 4) (by decide))) (sim_part sim_int) sim_noPart) (sima_cons (sim_rev (sim_var (pv 4) (by decide))) (sima_cons (v_add (SimE.r (sim_var (pv 4) (by decide))) (SimE.r (sim_tup (sima_cons (v_mul (SimE.r (sim_tup (sima_cons sim_int sima_nil))) (SimE.r (sim_var (pv 3) (by decide)))) sima_nil)))) (sima_cons (SimF.ee (f_lst (z_list T) (SimE.r (sim_var (pv 4) (by decide))))) (sima_cons sim_non (sima_cons (v_mul (SimE.r (sim_tup (sima_cons (v_mul (SimE.r (sim_tup (sima_cons sim_int sima_nil))) (SimE.r (sim_var (pv 3) (by decide)))) sima_nil))) (SimE.r (v_len (z_len T) (SimE.r (sim_var (pv 4) (by decide)))))) sima_nil))))))) IsL.l)
    (simb_cons (own1 := [6]) (sim_ifS (sim_cmpT (op_neD hr.units) op2_ne (SimE.r (sim_var (pv 4) (by decide))) (SimE.r (sim_tup sima_nil)) (nomark _)) (simb_cons (own1 := [6]) (sim_set sc__law_bent.nd rfl (by first | exact .inl rfl | exact .inr rfl) (sim_ix (SimE.r (sim_var (pv 4) (by decide))) (SimE.r (sim_var (pv 5) (by decide))) (fun _ _ => rfl)))
    (simb_cons (own1 := [8, 6]) (sim_setF sc__law_bent.nd rfl (by first | exact .inl rfl | exact .inr rfl) (sim_lst (sima_cons (v_add (SimE.r (sim_slice (SimE.r (sim_var (pv 7) (by decide))) sim_noPart (sim_part (v_neg (SimE.r sim_int))))) (SimE.r (sim_tup (sima_cons (v_add (SimE.r (sim_ix (SimE.r (sim_var (pv 7) (by decide))) (SimE.r (v_neg (SimE.r sim_int))) (fun _ _ => rfl))) (SimE.r sim_int)) sima_nil)))) (sima_cons (v_mul (SimE.r (sim_tup (sima_cons sim_int sima_nil))) (SimE.r (sim_var (pv 3) (by decide)))) (sima_cons (sim_slice (SimE.r (sim_var (pv 7) (by decide))) (sim_part sim_int) sim_noPart) (sima_cons sim_non (sima_cons (SimF.ee (f_lst (z_list T) (SimE.r (sim_var (pv 7) (by decide))))) (sima_cons (v_mul (SimE.r (sim_tup (sima_cons sim_bl sima_nil))) (SimE.r (sim_var (pv 3) (by decide)))) (sima_cons (v_mul (SimE.r (sim_tup (sima_cons (v_neg (SimE.r sim_int)) sima_nil))) (SimE.r (sim_var (pv 3) (by decide)))) (sima_cons (sim_ix (SimE.r (sim_var (pv 4) (by decide))) (SimE.r (v_sub (SimE.r (sim_var (pv 5) (by decide))) (SimE.r sim_int))) (fun _ _ => rfl)) sima_nil))))))))) IsL.l)
    (simb_one (sim_pre (own1 := [6]) (sim_setF sc__law_bent.nd rfl (by first | exact .inl rfl | exact .inr rfl) (f_cat (sim_varR (pv 6)) (SimF.rr (simf_comp (ownc := [("lap", 10)]) rfl sc__law_bent.nd (own' := [6]) (simi_range1 (by rfl) (z_range T) (sima_cons sim_int sima_nil)) (blkOk_by (own := [("lap", 10)]) (N := n__law_bent) (sc := defScope st__law_bent) (by decide +kernel)) (fun _ _ _ _ _ => (simg_name sc__law_bent.nd rfl (by first | exact .inl rfl | exact .inr rfl))) (fun _ _ _ _ _ => simts_nil) (fun _ _ _ _ _ => (v_add (SimE.r (v_add (SimE.r (sim_slice (SimE.r (sim_var (pv 4) (by decide))) sim_noPart (sim_part (sim_var (pv 5) (by decide))))) (SimE.r (sim_tup (sima_cons (sim_call (gf__law_pick T) (hr.mono (by decide)) (by rfl) (sima_cons (sim_var (pv 0) (by decide)) (sima_cons (sim_var (pv 8) (by decide)) sima_nil))) sima_nil))))) (SimE.r (sim_slice (SimE.r (sim_var (pv 4) (by decide))) (sim_part (v_add (SimE.r (sim_var (pv 5) (by decide))) (SimE.r sim_int))) sim_noPart))))))) IsL.l))))) simb_nil)
    (simb_one (sim_pre (own1 := []) (sim_ret (sim_call (gf__law_pick T) (hr.mono (by decide)) (by rfl) (sima_cons (sim_var (pv 0) (by decide)) (sima_cons (SimF.ee (f_cat (SimF.rr (f_rep (SimF.rr (sim_lst (sima_cons (sim_make (gi_Split T) (hr.mono (by decide)) (by rfl) (sima_cons (sim_call (gf__law_pick T) (hr.mono (by decide)) (by rfl) (sima_cons (sim_var (pv 0) (by decide)) (sima_cons (sim_var (pv 6) (by decide)) sima_nil))) sima_nil)) sima_nil))) (SimE.r sim_int))) (SimF.rr (sim_lst (sima_cons (sim_var (pv 4) (by decide)) (sima_cons sim_non sima_nil)))))) sima_nil)))))))))) simb_nil)
    (simb_cons (own1 := []) (sim_set sc__law_bent.nd rfl (by first | exact .inl rfl | exact .inr rfl) (sim_attr (sim_var (pv 2) (by decide)) (ato_layers T)))
    (simb_cons (own1 := []) (sim_set sc__law_bent.nd rfl (by first | exact .inl rfl | exact .inr rfl) (sim_call (gf__law_draw T) (hr.mono (by decide)) (by rfl) (sima_cons (sim_var (pv 0) (by decide)) (sima_cons (v_len (z_len T) (SimE.r (sim_var (pv 4) (by decide)))) sima_nil))))
    (simb_cons (own1 := []) (sim_set sc__law_bent.nd rfl (by first | exact .inl rfl | exact .inr rfl) (sim_ix (SimE.r (sim_var (pv 4) (by decide))) (SimE.r (sim_var (pv 5) (by decide))) (fun _ _ => rfl)))
    (simb_cons (own1 := [8]) (sim_setF sc__law_bent.nd rfl (by first | exact .inl rfl | exact .inr rfl) (sim_lst (sima_cons (sim_slice (SimE.r (sim_var (pv 9) (by decide))) (sim_part sim_int) sim_noPart) (sima_cons (sim_slice (SimE.r (sim_var (pv 9) (by decide))) sim_noPart (sim_part (v_neg (SimE.r sim_int)))) (sima_cons (sim_rev (sim_var (pv 9) (by decide))) (sima_cons (v_add (SimE.r (sim_var (pv 9) (by decide))) (SimE.r (sim_slice (SimE.r (sim_var (pv 9) (by decide))) sim_noPart (sim_part sim_int)))) (sima_cons (sim_tup sima_nil) (sima_cons sim_non (sima_cons (SimF.ee (f_lst (z_list T) (SimE.r (sim_var (pv 9) (by decide))))) (sima_cons (v_add (SimE.r (sim_var (pv 9) (by decide))) (SimE.r (sim_tup (sima_cons (v_mul (SimE.r (sim_tup (sima_cons sim_int sima_nil))) (SimE.r (sim_var (pv 3) (by decide)))) sima_nil)))) (sima_cons (v_add (SimE.r (sim_var (pv 9) (by decide))) (SimE.r (sim_tup (sima_cons (v_mul (SimE.r (sim_tup (sima_cons sim_int sima_nil))) (SimE.r (v_add (SimE.r (sim_var (pv 3) (by decide))) (SimE.r sim_int)))) sima_nil)))) (sima_cons (v_add (SimE.r (sim_var (pv 9) (by decide))) (SimE.r (sim_tup (sima_cons sim_non sima_nil)))) (sima_cons (v_add (SimE.r (sim_tup (sima_cons (v_mul (SimE.r (sim_tup (sima_cons (v_neg (SimE.r sim_int)) sima_nil))) (SimE.r (sim_var (pv 3) (by decide)))) sima_nil))) (SimE.r (sim_var (pv 9) (by decide)))) sima_nil)))))))))))) IsL.l)
    (simb_cons (own1 := [6]) (sim_pre (own1 := []) (sim_setF sc__law_bent.nd rfl (by first | exact .inl rfl | exact .inr rfl) (f_cat (SimF.rr (simf_comp (ownc := [("lap", 10)]) rfl sc__law_bent.nd (own' := []) (simi_range1 (by rfl) (z_range T) (sima_cons sim_int sima_nil)) (blkOk_by (own := [("lap", 10)]) (N := n__law_bent) (sc := defScope st__law_bent) (by decide +kernel)) (fun _ _ _ _ _ => (simg_name sc__law_bent.nd rfl (by first | exact .inl rfl | exact .inr rfl))) (fun _ _ _ _ _ => simts_nil) (fun _ _ _ _ _ => (v_add (SimE.r (v_add (SimE.r (sim_slice (SimE.r (sim_var (pv 4) (by decide))) sim_noPart (sim_part (sim_var (pv 5) (by decide))))) (SimE.r (sim_tup (sima_cons (sim_call (gf__law_pick T) (hr.mono (by decide)) (by rfl) (sima_cons (sim_var (pv 0) (by decide)) (sima_cons (sim_var (pv 8) (by decide)) sima_nil))) sima_nil))))) (SimE.r (sim_slice (SimE.r (sim_var (pv 4) (by decide))) (sim_part (v_add (SimE.r (sim_var (pv 5) (by decide))) (SimE.r sim_int))) sim_noPart)))))) (SimF.rr (sim_lst (sima_cons (sim_slice (SimE.r (sim_var (pv 4) (by decide))) (sim_part sim_int) sim_noPart) (sima_cons (sim_rev (sim_var (pv 4) (by decide))) (sima_cons (v_add (SimE.r (sim_var (pv 4) (by decide))) (SimE.r (sim_tup (sima_cons (sim_tup sima_nil) sima_nil)))) (sima_cons (SimF.ee (f_lst (z_list T) (SimE.r (sim_var (pv 4) (by decide))))) (sima_cons sim_non sima_nil)))))))) IsL.l))
    (simb_one (sim_pre (own1 := []) (sim_ret (sim_call (gf__law_pick T) (hr.mono (by decide)) (by rfl) (sima_cons (sim_var (pv 0) (by decide)) (sima_cons (SimF.ee (f_cat (SimF.rr (f_rep (SimF.rr (sim_lst (sima_cons (sim_make (gi_Stopped T) (hr.mono (by decide)) (by rfl) (sima_cons (sim_call (gf__law_pick T) (hr.mono (by decide)) (by rfl) (sima_cons (sim_var (pv 0) (by decide)) (sima_cons (sim_var (pv 6) (by decide)) sima_nil))) sima_nil)) sima_nil))) (SimE.r sim_int))) (SimF.rr (sim_lst (sima_cons (sim_var (pv 4) (by decide)) (sima_cons sim_non sima_nil)))))) sima_nil)))))))))))))
abbrev n__law_drawn_faults : List Str := ["pen", "length", "found", "at", "lap", "high"]
theorem sc__law_drawn_faults : FnScope n__law_drawn_faults ["pen", "length"] (defScope st__law_drawn_faults) := ⟨rfl, rfl, rfl, by decide +kernel, rfl, by decide +kernel, by decide +kernel⟩
theorem gf__law_drawn_faults (T : Txt K mg) : GF P w K mg base 3 "_law_drawn_faults" 2 m__law_drawn_faults := by
  obtain ⟨fd, F⟩ := fd__law_drawn_faults T
  refine gf_of (b := b__law_drawn_faults) (n := 2) (N := n__law_drawn_faults) F (g__law_drawn_faults T) sc__law_drawn_faults rfl (by decide) (fun _ _ _ _ _ _ us hl => match us, hl with | [_, _], _ => rfl) fun cdv A outer s H E hr => ?_
  exact (simb_cons (own1 := [2]) (sim_par2 (fun h => ps_par rfl sc__law_drawn_faults.nd rfl rfl (by decide) rfl rfl h (by with_unfolding_all rfl)) rfl rfl (SimF.xx (sim_lst sima_nil)) (SimE.x (sim_call (gf__law_draw T) (hr.mono (by decide)) (by rfl) (sima_cons (sim_var (pv 0) (by decide)) (sima_cons sim_int sima_nil)))))
    (simb_cons (own1 := [2]) (sim_for (ownT := [2]) PassesOwn.never rfl (simi_range1 (by rfl) (z_range T) (sima_cons (sim_call (gf__law_draw T) (hr.mono (by decide)) (by rfl) (sima_cons (sim_var (pv 0) (by decide)) (sima_cons sim_int sima_nil))) sima_nil)) (simg_name sc__law_drawn_faults.nd rfl (by first | exact .inl rfl | exact .inr rfl)) (simb_cons (own1 := [2]) (sim_set sc__law_drawn_faults.nd rfl (by first | exact .inl rfl | exact .inr rfl) (v_add (SimE.r (sim_var (pv 3) (by decide))) (SimE.r (sim_call (gf__law_pick T) (hr.mono (by decide)) (by rfl) (sima_cons (sim_var (pv 0) (by decide)) (sima_cons (SimF.ee (sim_lst (sima_cons sim_int (sima_cons sim_int (sima_cons sim_int (sima_cons sim_int sima_nil)))))) sima_nil))))))
    (simb_one (sim_ifS (sim_cmpT (opr_leA hr) (op2_cmpA _ _) (SimE.r (sim_var (pv 5) (by decide))) (SimE.r (sim_var (pv 1) (by decide))) (nomark _)) (simb_cons (own1 := [2]) (sim_dropM (simm_1 (by decide) (fun h => pe_bm PySem.F.plainAttrs_list PySem.F.slot_list_append PySem.F.type_list_append mt_append (pv 2) (pa_cons h pa_nil)) opm_append (SimE.m (sim_tup (sima_cons (sim_var (pv 3) (by decide)) (sima_cons (sim_var (pv 5) (by decide)) sima_nil))))))
    (simb_one (sim_set sc__law_drawn_faults.nd rfl (by first | exact .inl rfl | exact .inr rfl) (v_add (SimE.r (v_add (SimE.r (sim_var (pv 5) (by decide))) (SimE.r sim_int))) (SimE.r (sim_call (gf__law_draw T) (hr.mono (by decide)) (by rfl) (sima_cons (sim_var (pv 0) (by decide)) (sima_cons sim_int sima_nil)))))))) simb_nil))))
    (simb_one (sim_ret (v_tup (z_tuple T) (sim_varR (pv 2)))))))
abbrev n__law_name : List Str := ["pen", "letters", "signs", "long", "lap"]
theorem sc__law_name : FnScope n__law_name ["pen"] (defScope st__law_name) := ⟨rfl, rfl, rfl, by decide +kernel, rfl, by decide +kernel, by decide +kernel⟩
theorem gf__law_name (T : Txt K mg) : GF P w K mg base 3 "_law_name" 1 m__law_name := by
  obtain ⟨fd, F⟩ := fd__law_name T
  refine gf_of (b := b__law_name) (n := 1) (N := n__law_name) F (g__law_name T) sc__law_name rfl (by decide) (fun _ _ _ _ _ _ us hl => match us, hl with | [_], _ => rfl) fun cdv A outer s H E hr => ?_
  exact (simb_cons (own1 := []) (sim_tpar2 rfl sc__law_name.nd rfl (by first | exact .inl rfl | exact .inr rfl) rfl (by first | exact .inl rfl | exact .inr rfl) (SimE.x sim_str) (SimE.x sim_str))
    (simb_cons (own1 := []) (sim_set sc__law_name.nd rfl (by first | exact .inl rfl | exact .inr rfl) (sim_ix (SimF.rr (sim_lst (sima_cons sim_int (sima_cons sim_int (sima_cons sim_int (sima_cons sim_int (sima_cons sim_int (sima_cons sim_int sima_nil)))))))) (SimE.r (sim_call (gf__law_draw T) (hr.mono (by decide)) (by rfl) (sima_cons (sim_var (pv 0) (by decide)) (sima_cons sim_int sima_nil)))) (fun _ _ => rfl)))
    (simb_one (sim_ret (v_add (SimE.r (sim_call (gf__law_pick T) (hr.mono (by decide)) (by rfl) (sima_cons (sim_var (pv 0) (by decide)) (sima_cons (sim_var (pv 1) (by decide)) sima_nil)))) (SimE.r (v_join (SimE.r sim_str) (SimF.rr (simf_comp (ownc := [("lap", 4)]) rfl sc__law_name.nd (own' := []) (simi_range1 (by rfl) (z_range T) (sima_cons (sim_var (pv 3) (by decide)) sima_nil)) (blkOk_by (own := [("lap", 4)]) (N := n__law_name) (sc := defScope st__law_name) (by decide +kernel)) (fun _ _ _ _ _ => (simg_name sc__law_name.nd rfl (by first | exact .inl rfl | exact .inr rfl))) (fun _ _ _ _ _ => simts_nil) (fun _ _ _ _ _ => (sim_call (gf__law_pick T) (hr.mono (by decide)) (by rfl) (sima_cons (sim_var (pv 0) (by decide)) (sima_cons (sim_var (pv 2) (by decide)) sima_nil)))))))))))))
abbrev n__law_names : List Str := ["pen", "many", "found", "lap", "name"]
theorem sc__law_names : FnScope n__law_names ["pen", "many"] (defScope st__law_names) := ⟨rfl, rfl, rfl, by decide +kernel, rfl, by decide +kernel, by decide +kernel⟩
theorem gf__law_names (T : Txt K mg) : GF P w K mg base 4 "_law_names" 2 m__law_names := by
  obtain ⟨fd, F⟩ := fd__law_names T
  refine gf_of (b := b__law_names) (n := 2) (N := n__law_names) F (g__law_names T) sc__law_names rfl (by decide) (fun _ _ _ _ _ _ us hl => match us, hl with | [_, _], _ => rfl) fun cdv A outer s H E hr => ?_
  exact (simb_cons (own1 := [2]) (sim_setF sc__law_names.nd rfl (by first | exact .inl rfl | exact .inr rfl) (sim_lst sima_nil) IsL.l)
    (simb_cons (own1 := [2]) (sim_for (ownT := [2]) PassesOwn.never rfl (simi_range1 (by rfl) (z_range T) (sima_cons (sim_var (pv 1) (by decide)) sima_nil)) (simg_name sc__law_names.nd rfl (by first | exact .inl rfl | exact .inr rfl)) (simb_cons (own1 := [2]) (sim_set sc__law_names.nd rfl (by first | exact .inl rfl | exact .inr rfl) (sim_call (gf__law_name T) (hr.mono (by decide)) (by rfl) (sima_cons (sim_var (pv 0) (by decide)) sima_nil)))
    (simb_cons (own1 := [2]) (sim_ifS (sim_cmpT (opr_inA hr) (op2_inA _ op2_in) (SimE.r (sim_var (pv 4) (by decide))) (sim_varR (pv 2)) (by rfl)) (simb_one (sim_set sc__law_names.nd rfl (by first | exact .inl rfl | exact .inr rfl) (v_add (SimE.r (v_add (SimE.r sim_str) (SimE.r (v_str (z_str T) (SimE.r (sim_var (pv 3) (by decide))))))) (SimE.r sim_str)))) simb_nil)
    (simb_cons (own1 := [2]) (sim_while PassesOwn.never (sim_cmpT (opr_inA hr) (op2_inA _ op2_in) (SimE.r (sim_var (pv 4) (by decide))) (sim_varR (pv 2)) (by rfl)) (simb_one (sim_set sc__law_names.nd rfl (by first | exact .inl rfl | exact .inr rfl) (v_add (SimE.r (sim_var (pv 4) (by decide))) (SimE.r sim_str)))))
    (simb_one (sim_dropM (simm_1 (by decide) (fun h => pe_bm PySem.F.plainAttrs_list PySem.F.slot_list_append PySem.F.type_list_append mt_append (pv 2) (pa_cons h pa_nil)) opm_append (SimE.m (sim_var (pv 4) (by decide))))))))))
    (simb_one (sim_ret (v_tup (z_tuple T) (sim_varR (pv 2)))))))
abbrev n__law_few_shop : List Str := ["pen", "stocks", "pieces", "names", "kerf", "bars", "some", "at"]
theorem sc__law_few_shop : FnScope n__law_few_shop ["pen", "stocks", "pieces"] (defScope st__law_few_shop) := ⟨rfl, rfl, rfl, by decide +kernel, rfl, by decide +kernel, by decide +kernel⟩
theorem gf__law_few_shop (T : Txt K mg) : GF P w K mg base 5 "_law_few_shop" 3 m__law_few_shop := by
  obtain ⟨fd, F⟩ := fd__law_few_shop T
  refine gf_of (b := b__law_few_shop) (n := 3) (N := n__law_few_shop) F (g__law_few_shop T) sc__law_few_shop rfl (by decide) (fun _ _ _ _ _ _ us hl => match us, hl with | [_, _, _], _ => rfl) fun cdv A outer s H E hr => ?_
  exact (simb_cons (own1 := []) (sim_tpar2 rfl sc__law_few_shop.nd rfl (by first | exact .inl rfl | exact .inr rfl) rfl (by first | exact .inl rfl | exact .inr rfl) (SimE.x (sim_call (gf__law_names T) (hr.mono (by decide)) (by rfl) (sima_cons (sim_var (pv 0) (by decide)) (sima_cons (v_add (SimE.r (sim_var (pv 1) (by decide))) (SimE.r (sim_var (pv 2) (by decide)))) sima_nil)))) (SimE.x (sim_call (gf__law_pick T) (hr.mono (by decide)) (by rfl) (sima_cons (sim_var (pv 0) (by decide)) (sima_cons (SimF.ee (sim_lst (sima_cons sim_int (sima_cons sim_int (sima_cons sim_int (sima_cons sim_int sima_nil)))))) sima_nil)))))
    (simb_cons (own1 := [5]) (sim_setLc (own' := []) (ownc := [("at", 7)]) rfl sc__law_few_shop.nd rfl rfl (sw_true rfl rfl rfl (by decide +kernel)) (simi_range1 (by rfl) (z_range T) (sima_cons (v_add (SimE.r sim_int) (SimE.r (sim_call (gf__law_draw T) (hr.mono (by decide)) (by rfl) (sima_cons (sim_var (pv 0) (by decide)) (sima_cons (sim_var (pv 1) (by decide)) sima_nil))))) sima_nil)) (blkOk_by (own := [("at", 7)]) (N := n__law_few_shop) (sc := defScope st__law_few_shop) (by decide +kernel)) (fun _ _ _ _ _ => (simg_name sc__law_few_shop.nd rfl (by first | exact .inl rfl | exact .inr rfl))) (fun _ _ _ _ _ => simts_nil) (fun _ _ _ _ _ => (sim_tup (sima_cons (sim_ix (SimE.r (sim_var (pv 3) (by decide))) (SimE.r (sim_var (pv 7) (by decide))) (fun _ _ => rfl)) (sima_cons (v_add (SimE.r sim_int) (SimE.r (sim_call (gf__law_draw T) (hr.mono (by decide)) (by rfl) (sima_cons (sim_var (pv 0) (by decide)) (sima_cons sim_int sima_nil))))) (sima_cons (sim_call (gf__law_pick T) (hr.mono (by decide)) (by rfl) (sima_cons (sim_var (pv 0) (by decide)) (sima_cons (SimF.ee (sim_lst (sima_cons sim_non (sima_cons (sim_call (gf__law_draw T) (hr.mono (by decide)) (by rfl) (sima_cons (sim_var (pv 0) (by decide)) (sima_cons sim_int sima_nil))) sima_nil)))) sima_nil))) (sima_cons (sim_call (gf__law_draw T) (hr.mono (by decide)) (by rfl) (sima_cons (sim_var (pv 0) (by decide)) (sima_cons sim_int sima_nil))) sima_nil)))))))
    (simb_cons (own1 := [6, 5]) (sim_setLc (own' := [5]) (ownc := [("at", 7)]) rfl sc__law_few_shop.nd rfl rfl (sw_true rfl rfl rfl (by decide +kernel)) (simi_range1 (by rfl) (z_range T) (sima_cons (v_add (SimE.r sim_int) (SimE.r (sim_call (gf__law_draw T) (hr.mono (by decide)) (by rfl) (sima_cons (sim_var (pv 0) (by decide)) (sima_cons (sim_var (pv 2) (by decide)) sima_nil))))) sima_nil)) (blkOk_by (own := [("at", 7)]) (N := n__law_few_shop) (sc := defScope st__law_few_shop) (by decide +kernel)) (fun _ _ _ _ _ => (simg_name sc__law_few_shop.nd rfl (by first | exact .inl rfl | exact .inr rfl))) (fun _ _ _ _ _ => simts_nil) (fun _ _ _ _ _ => (sim_tup (sima_cons (sim_ix (SimE.r (sim_var (pv 3) (by decide))) (SimE.r (v_add (SimE.r (sim_var (pv 1) (by decide))) (SimE.r (sim_var (pv 7) (by decide))))) (fun _ _ => rfl)) (sima_cons (v_add (SimE.r sim_int) (SimE.r (sim_call (gf__law_draw T) (hr.mono (by decide)) (by rfl) (sima_cons (sim_var (pv 0) (by decide)) (sima_cons sim_int sima_nil))))) (sima_cons (sim_call (gf__law_draw T) (hr.mono (by decide)) (by rfl) (sima_cons (sim_var (pv 0) (by decide)) (sima_cons sim_int sima_nil))) sima_nil))))))
    (simb_one (sim_ret (sim_tup (sima_cons (v_tup (z_tuple T) (sim_varR (pv 5))) (sima_cons (v_tup (z_tuple T) (sim_varR (pv 6))) (sima_cons (sim_var (pv 4) (by decide)) sima_nil)))))))))
abbrev n__law_free : List Str := ["length", "faults", "ends", "low", "high", "at"]
theorem sc__law_free : FnScope n__law_free ["length", "faults"] (defScope st__law_free) := ⟨rfl, rfl, rfl, by decide +kernel, rfl, by decide +kernel, by decide +kernel⟩
theorem gf__law_free (T : Txt K mg) : GF P w K mg base 1 "_law_free" 2 m__law_free := by
  obtain ⟨fd, F⟩ := fd__law_free T
  refine gf_of (b := b__law_free) (n := 2) (N := n__law_free) F (g__law_free T) sc__law_free rfl (by decide) (fun _ _ _ _ _ _ us hl => match us, hl with | [_, _], _ => rfl) fun cdv A outer s H E hr => ?_
  exact (simb_cons (own1 := [2]) (sim_setF sc__law_free.nd rfl (by first | exact .inl rfl | exact .inr rfl) (sim_lst (sima_cons sim_int sima_nil)) IsL.l)
    (simb_cons (own1 := [2]) (sim_for (ownT := [2]) PassesOwn.never rfl (simi_seq (sim_var (pv 1) (by decide))) (simg_tup rfl (simgs_cons (simg_name sc__law_free.nd rfl (by first | exact .inl rfl | exact .inr rfl)) (simgs_cons (simg_name sc__law_free.nd rfl (by first | exact .inl rfl | exact .inr rfl)) simgs_nil))) (simb_one (sim_setF sc__law_free.nd rfl (by first | exact .inl rfl | exact .inr rfl) (f_cat (sim_varR (pv 2)) (SimF.rr (sim_lst (sima_cons (sim_var (pv 3) (by decide)) (sima_cons (sim_var (pv 4) (by decide)) sima_nil))))) IsL.l)))
    (simb_cons (own1 := [2]) (sim_dropM (simm_1 (by decide) (fun h => pe_bm PySem.F.plainAttrs_list PySem.F.slot_list_append PySem.F.type_list_append mt_append (pv 2) (pa_cons h pa_nil)) opm_append (SimE.m (sim_var (pv 0) (by decide)))))
    (simb_one (sim_ret (v_tup (z_tuple T) (SimF.rr (simf_comp (ownc := [("at", 5)]) rfl sc__law_free.nd (own' := [2]) (simi_rangeC (fun h => pi_range3 (by rfl) (z_range T) h) (sima_cons sim_int (sima_cons (v_len (z_len T) (sim_varR (pv 2))) (sima_cons sim_int sima_nil)))) (blkOk_by (own := [("at", 5)]) (N := n__law_free) (sc := defScope st__law_free) (by decide +kernel)) (fun _ _ _ _ _ => (simg_name sc__law_free.nd rfl (by first | exact .inl rfl | exact .inr rfl))) (fun _ _ _ _ _ => (simts_one (sim_cmpT (opr_gtA hr) (op2_cmpA _ _) (SimE.r (sim_ix (sim_varR (pv 2)) (SimE.r (v_add (SimE.r (sim_var (pv 5) (by decide))) (SimE.r sim_int))) (fun _ _ => rfl))) (SimE.r (sim_ix (sim_varR (pv 2)) (SimE.r (sim_var (pv 5) (by decide))) (fun _ _ => rfl))) (nomark _)))) (fun _ _ _ _ _ => (v_sub (SimE.r (sim_ix (sim_varR (pv 2)) (SimE.r (v_add (SimE.r (sim_var (pv 5) (by decide))) (SimE.r sim_int))) (fun _ _ => rfl))) (SimE.r (sim_ix (sim_varR (pv 2)) (SimE.r (sim_var (pv 5) (by decide))) (fun _ _ => rfl)))))))))))))
abbrev n__law_is : List Str := ["told", "due", "at"]
theorem sc__law_is : FnScope n__law_is ["told", "due"] (defScope st__law_is) := ⟨rfl, rfl, rfl, by decide +kernel, rfl, by decide +kernel, by decide +kernel⟩
theorem rr__law_is (T : Txt K mg) : ∀ n : Nat, GF P w K mg base (0 + n) "_law_is" 2 (r__law_is n)
  | 0 => by
    obtain ⟨fd, F⟩ := fd__law_is T
    exact gf_bad F (g__law_is T) sc__law_is rfl (fun _ _ _ _ _ _ us hl => match us, hl with | [_, _], _ => rfl)
  | n + 1 => by
    have G : GF P w K mg base (0 + n) "_law_is" 2 (r__law_is n) := rr__law_is T n
    obtain ⟨fd, F⟩ := fd__law_is T
    refine gf_of (b := b__law_is (r__law_is n)) (n := 2) (N := n__law_is) F (g__law_is T) sc__law_is rfl (by decide) (fun _ _ _ _ _ _ us hl => match us, hl with | [_, _], _ => rfl) fun cdv A outer s H E hr => ?_
    exact (simb_cons (own1 := []) (sim_ifS (sim_truth (SimE.r (sim_isi (n := "tuple") (by rfl) (z_isinstance T) (by rfl) (z_tuple T) boot_tuple (by decide) (SimE.r (sim_var (pv 1) (by decide)))))) (simb_cons (own1 := []) (sim_ifS (SimW.t (sim_orW (sim_notT (sim_truth (SimE.r (sim_isi (n := "tuple") (by rfl) (z_isinstance T) (by rfl) (z_tuple T) boot_tuple (by decide) (SimE.r (sim_var (pv 0) (by decide))))))) (sim_or1 (sim_cmpT (op_neD hr.units) op2_ne (SimE.r (v_len (z_len T) (SimE.r (sim_var (pv 0) (by decide))))) (SimE.r (v_len (z_len T) (SimE.r (sim_var (pv 1) (by decide))))) (nomark _))))) (simb_one (sim_ret sim_bl)) simb_nil)
    (simb_one (sim_ret (sim_cmp (op_eqD hr.units) op2_eq (SimF.rr (simf_comp (ownc := [("at", 2)]) rfl sc__law_is.nd (own' := []) (simi_range1 (by rfl) (z_range T) (sima_cons (v_len (z_len T) (SimE.r (sim_var (pv 1) (by decide)))) sima_nil)) (blkOk_by (own := [("at", 2)]) (N := n__law_is) (sc := defScope st__law_is) (by decide +kernel)) (fun _ _ _ _ _ => (simg_name sc__law_is.nd rfl (by first | exact .inl rfl | exact .inr rfl))) (fun _ _ _ _ _ => (simts_one (sim_notT (sim_truth (SimE.r (sim_call G hr (by rfl) (sima_cons (sim_ix (SimE.r (sim_var (pv 0) (by decide))) (SimE.r (sim_var (pv 2) (by decide))) (fun _ _ => rfl)) (sima_cons (sim_ix (SimE.r (sim_var (pv 1) (by decide))) (SimE.r (sim_var (pv 2) (by decide))) (fun _ _ => rfl)) sima_nil)))))))) (fun _ _ _ _ _ => (sim_var (pv 2) (by decide))))) (SimF.rr (sim_lst sima_nil)) (nomark _))))) simb_nil)
    (simb_cons (own1 := []) (sim_ifS (sim_cmpT op_isN op2_isN (SimE.r (sim_var (pv 1) (by decide))) (SimE.r sim_non) (nomark _)) (simb_one (sim_ret (sim_cmp op_isN op2_isN (SimE.r (sim_var (pv 0) (by decide))) (SimE.r sim_non) (nomark _)))) simb_nil)
    (simb_cons (own1 := []) (sim_ifS (sim_cmpT op_isBX op2_isBX (SimE.r (sim_var (pv 1) (by decide))) (SimE.r sim_bl) (nomark _)) (simb_one (sim_ret (sim_cmp op_isBX op2_isBX (SimE.r (sim_var (pv 0) (by decide))) (SimE.r sim_bl) (nomark _)))) simb_nil)
    (simb_cons (own1 := []) (sim_ifS (sim_cmpT op_isBX op2_isBX (SimE.r (sim_var (pv 1) (by decide))) (SimE.r sim_bl) (nomark _)) (simb_one (sim_ret (sim_cmp op_isBX op2_isBX (SimE.r (sim_var (pv 0) (by decide))) (SimE.r sim_bl) (nomark _)))) simb_nil)
    (simb_cons (own1 := []) (sim_ifS (sim_truth (SimE.r (sim_isi (n := "str") (by rfl) (z_isinstance T) (by rfl) (z_str T) boot_str (by decide) (SimE.r (sim_var (pv 1) (by decide)))))) (simb_one (sim_ret (sim_andV (sim_isi (n := "str") (by rfl) (z_isinstance T) (by rfl) (z_str T) boot_str (by decide) (SimE.r (sim_var (pv 0) (by decide)))) (sim_one (sim_cmp (op_eqD hr.units) op2_eq (SimE.r (sim_var (pv 0) (by decide))) (SimE.r (sim_var (pv 1) (by decide))) (nomark _)))))) simb_nil)
    (simb_one (sim_ret (sim_andV (sim_isi (n := "int") (by rfl) (z_isinstance T) (by rfl) (z_int T) boot_int (by decide) (SimE.r (sim_var (pv 0) (by decide)))) (sim_andV (sim_notV (SimE.r (sim_isi (n := "bool") (by rfl) (z_isinstance T) (by rfl) (z_bool T) boot_bool (by decide) (SimE.r (sim_var (pv 0) (by decide)))))) (sim_one (sim_cmp (op_eqD hr.units) op2_eq (SimE.r (sim_var (pv 0) (by decide))) (SimE.r (sim_var (pv 1) (by decide))) (nomark _))))))))))))
theorem gf__law_is (T : Txt K mg) : GF P w K mg base 12 "_law_is" 2 m__law_is := rr__law_is T 12
abbrev n_is_whole : List Str := ["value"]
theorem sc_is_whole : FnScope n_is_whole ["value"] (defScope st_is_whole) := ⟨rfl, rfl, rfl, by decide +kernel, rfl, by decide +kernel, by decide +kernel⟩
theorem gf_is_whole (T : Txt K mg) : GF P w K mg base 1 "is_whole" 1 m_is_whole := by
  obtain ⟨fd, F⟩ := fd_is_whole T
  refine gf_of (b := b_is_whole) (n := 1) (N := n_is_whole) F (g_is_whole T) sc_is_whole rfl (by decide) (fun _ _ _ _ _ _ us hl => match us, hl with | [_], _ => rfl) fun cdv A outer s H E hr => ?_
  exact (simb_one (sim_ret (sim_andV (sim_isi (n := "int") (by rfl) (z_isinstance T) (by rfl) (z_int T) boot_int (by decide) (SimE.r (sim_var (pv 0) (by decide)))) (sim_one (sim_notV (SimE.r (sim_isi (n := "bool") (by rfl) (z_isinstance T) (by rfl) (z_bool T) boot_bool (by decide) (SimE.r (sim_var (pv 0) (by decide))))))))))
abbrev n_is_number : List Str := ["value"]
theorem sc_is_number : FnScope n_is_number ["value"] (defScope st_is_number) := ⟨rfl, rfl, rfl, by decide +kernel, rfl, by decide +kernel, by decide +kernel⟩
theorem gf_is_number (T : Txt K mg) : GF P w K mg base 2 "is_number" 1 m_is_number := by
  obtain ⟨fd, F⟩ := fd_is_number T
  refine gf_of (b := b_is_number) (n := 1) (N := n_is_number) F (g_is_number T) sc_is_number rfl (by decide) (fun _ _ _ _ _ _ us hl => match us, hl with | [_], _ => rfl) fun cdv A outer s H E hr => ?_
  exact (simb_one (sim_ret (sim_andV (sim_call (gf_is_whole T) (hr.mono (by decide)) (by rfl) (sima_cons (sim_var (pv 0) (by decide)) sima_nil)) (sim_one (sim_cmp op_ge (op2_i2 _) (SimE.r (sim_var (pv 0) (by decide))) (SimE.r sim_int) (nomark _))))))
abbrev n_is_length : List Str := ["value"]
theorem sc_is_length : FnScope n_is_length ["value"] (defScope st_is_length) := ⟨rfl, rfl, rfl, by decide +kernel, rfl, by decide +kernel, by decide +kernel⟩
theorem gf_is_length (T : Txt K mg) : GF P w K mg base 2 "is_length" 1 m_is_length := by
  obtain ⟨fd, F⟩ := fd_is_length T
  refine gf_of (b := b_is_length) (n := 1) (N := n_is_length) F (g_is_length T) sc_is_length rfl (by decide) (fun _ _ _ _ _ _ us hl => match us, hl with | [_], _ => rfl) fun cdv A outer s H E hr => ?_
  exact (simb_one (sim_ret (sim_andV (sim_call (gf_is_whole T) (hr.mono (by decide)) (by rfl) (sima_cons (sim_var (pv 0) (by decide)) sima_nil)) (sim_one (sim_cmp op_ge (op2_i2 _) (SimE.r (sim_var (pv 0) (by decide))) (SimE.r sim_int) (nomark _))))))
abbrev n_need_length : List Str := ["length"]
theorem sc_need_length : FnScope n_need_length ["length"] (defScope st_need_length) := ⟨rfl, rfl, rfl, by decide +kernel, rfl, by decide +kernel, by decide +kernel⟩
theorem gf_need_length (T : Txt K mg) : GF P w K mg base 3 "need_length" 1 m_need_length := by
  obtain ⟨fd, F⟩ := fd_need_length T
  refine gf_of (b := b_need_length) (n := 1) (N := n_need_length) F (g_need_length T) sc_need_length rfl (by decide) (fun _ _ _ _ _ _ us hl => match us, hl with | [_], _ => rfl) fun cdv A outer s H E hr => ?_
  exact (simb_one (sim_ifS (sim_notT (sim_truth (SimE.r (sim_call (gf_is_length T) (hr.mono (by decide)) (by rfl) (sima_cons (sim_var (pv 0) (by decide)) sima_nil))))) (simb_one sim_never) simb_nil))
abbrev n_is_name : List Str := ["value", "sign"]
theorem sc_is_name : FnScope n_is_name ["value"] (defScope st_is_name) := ⟨rfl, rfl, rfl, by decide +kernel, rfl, by decide +kernel, by decide +kernel⟩
theorem gf_is_name (T : Txt K mg) : GF P w K mg base 1 "is_name" 1 m_is_name := by
  obtain ⟨fd, F⟩ := fd_is_name T
  refine gf_of (b := b_is_name) (n := 1) (N := n_is_name) F (g_is_name T) sc_is_name rfl (by decide) (fun _ _ _ _ _ _ us hl => match us, hl with | [_], _ => rfl) fun cdv A outer s H E hr => ?_
  exact (simb_cons (own1 := []) (sim_ifS (SimW.t (sim_orW (sim_notT (sim_truth (SimE.r (sim_isi (n := "str") (by rfl) (z_isinstance T) (by rfl) (z_str T) boot_str (by decide) (SimE.r (sim_var (pv 0) (by decide))))))) (sim_orW (sim_notT (sim_chainT op_le op_le (op2_i2 _) (op2_i2 _) (SimE.r sim_int) (SimE.r (v_len (z_len T) (SimE.r (sim_var (pv 0) (by decide))))) (SimE.r sim_int))) (sim_or1 (sim_cmpT (opr_notInA hr) (op2_notInA _ op2_notIn) (SimE.r (sim_ix (SimE.r (sim_var (pv 0) (by decide))) (SimE.r sim_int) (fun _ _ => rfl))) (SimE.r (sim_gstr (by rfl) (z_LETTERS T))) (by rfl)))))) (simb_one (sim_ret sim_bl)) simb_nil)
    (simb_one (sim_ret (v_all (z_all T) (SimF.rr (simf_comp (ownc := [("sign", 1)]) rfl sc_is_name.nd (own' := []) (simi_seq (sim_var (pv 0) (by decide))) (blkOk_by (own := [("sign", 1)]) (N := n_is_name) (sc := defScope st_is_name) (by decide +kernel)) (fun _ _ _ _ _ => (simg_name sc_is_name.nd rfl (by first | exact .inl rfl | exact .inr rfl))) (fun _ _ _ _ _ => simts_nil) (fun _ _ _ _ _ => (sim_cmp (opr_inA hr) (op2_inA _ op2_in) (SimE.r (sim_var (pv 1) (by decide))) (SimE.r (sim_gstr (by rfl) (z_SIGNS T))) (by rfl)))))))))
abbrev n_need_new_name : List Str := ["name", "ahead"]
theorem sc_need_new_name : FnScope n_need_new_name ["name", "ahead"] (defScope st_need_new_name) := ⟨rfl, rfl, rfl, by decide +kernel, rfl, by decide +kernel, by decide +kernel⟩
theorem gf_need_new_name (T : Txt K mg) : GF P w K mg base 2 "need_new_name" 2 m_need_new_name := by
  obtain ⟨fd, F⟩ := fd_need_new_name T
  refine gf_of (b := b_need_new_name) (n := 2) (N := n_need_new_name) F (g_need_new_name T) sc_need_new_name rfl (by decide) (fun _ _ _ _ _ _ us hl => match us, hl with | [_, _], _ => rfl) fun cdv A outer s H E hr => ?_
  exact (simb_cons (own1 := []) (sim_ifS (sim_notT (sim_truth (SimE.r (sim_call (gf_is_name T) (hr.mono (by decide)) (by rfl) (sima_cons (sim_var (pv 0) (by decide)) sima_nil))))) (simb_one sim_never) simb_nil)
    (simb_one (sim_ifS (sim_cmpT (opr_inA hr) (op2_inA _ op2_in) (SimE.r (sim_var (pv 0) (by decide))) (SimE.r (sim_var (pv 1) (by decide))) (by rfl)) (simb_one sim_never) simb_nil)))
abbrev n_need_pieces : List Str := ["pieces", "ahead", "row", "name", "length", "wanted"]
theorem sc_need_pieces : FnScope n_need_pieces ["pieces"] (defScope st_need_pieces) := ⟨rfl, rfl, rfl, by decide +kernel, rfl, by decide +kernel, by decide +kernel⟩
theorem gf_need_pieces (T : Txt K mg) : GF P w K mg base 4 "need_pieces" 1 m_need_pieces := by
  obtain ⟨fd, F⟩ := fd_need_pieces T
  refine gf_of (b := b_need_pieces) (n := 1) (N := n_need_pieces) F (g_need_pieces T) sc_need_pieces rfl (by decide) (fun _ _ _ _ _ _ us hl => match us, hl with | [_], _ => rfl) fun cdv A outer s H E hr => ?_
  exact (simb_cons (own1 := []) (sim_ifS (SimW.t (sim_orW (sim_notT (sim_truth (SimE.r (sim_isi2 (n := "list") (n2 := "tuple") (by rfl) (z_isinstance T) (by rfl) (z_list T) boot_list (by decide) (by rfl) (z_tuple T) boot_tuple (by decide) (SimE.r (sim_var (pv 0) (by decide))))))) (sim_or1 (sim_notT (sim_chainT op_le op_le (op2_i2 _) (op2_i2 _) (SimE.r sim_int) (SimE.r (v_len (z_len T) (SimE.r (sim_var (pv 0) (by decide))))) (SimE.r (sim_gint (by rfl) (z_MOST_PIECES T)))))))) (simb_one sim_never) simb_nil)
    (simb_cons (own1 := [1]) (sim_setF sc_need_pieces.nd rfl (by first | exact .inl rfl | exact .inr rfl) (sim_lst sima_nil) IsL.l)
    (simb_post (own1 := [1]) (simb_one (sim_for (ownT := [1]) PassesOwn.never rfl (simi_seq (sim_var (pv 0) (by decide))) (simg_name sc_need_pieces.nd rfl (by first | exact .inl rfl | exact .inr rfl)) (simb_cons (own1 := [1]) (sim_ifS (SimW.t (sim_orW (sim_notT (sim_truth (SimE.r (sim_isi (n := "tuple") (by rfl) (z_isinstance T) (by rfl) (z_tuple T) boot_tuple (by decide) (SimE.r (sim_var (pv 2) (by decide))))))) (sim_or1 (sim_cmpT (op_neD hr.units) op2_ne (SimE.r (v_len (z_len T) (SimE.r (sim_var (pv 2) (by decide))))) (SimE.r (v_add (SimE.r (sim_gint (by rfl) (z_MANY_AT T))) (SimE.r sim_int))) (nomark _))))) (simb_one sim_never) simb_nil)
    (simb_cons (own1 := [1]) (sim_asg (sim_var (pv 2) (by decide)) (simg_tup rfl (simgs_cons (simg_name sc_need_pieces.nd rfl (by first | exact .inl rfl | exact .inr rfl)) (simgs_cons (simg_name sc_need_pieces.nd rfl (by first | exact .inl rfl | exact .inr rfl)) (simgs_cons (simg_name sc_need_pieces.nd rfl (by first | exact .inl rfl | exact .inr rfl)) simgs_nil)))))
    (simb_cons (own1 := [1]) (sim_expr (sim_callL (gf_need_new_name T) (hr.mono (by decide)) (by rfl) (simr_cons (SimE.r (sim_var (pv 3) (by decide))) (simr_cons (sim_varR (pv 1)) simr_nil))))
    (simb_cons (own1 := [1]) (sim_expr (sim_call (gf_need_length T) (hr.mono (by decide)) (by rfl) (sima_cons (sim_var (pv 4) (by decide)) sima_nil)))
    (simb_cons (own1 := [1]) (sim_ifS (sim_notT (sim_truth (SimE.r (sim_call (gf_is_number T) (hr.mono (by decide)) (by rfl) (sima_cons (sim_var (pv 5) (by decide)) sima_nil))))) (simb_one sim_never) simb_nil)
    (simb_one (sim_dropM (simm_1 (by decide) (fun h => pe_bm PySem.F.plainAttrs_list PySem.F.slot_list_append PySem.F.type_list_append mt_append (pv 1) (pa_cons h pa_nil)) opm_append (SimE.m (sim_var (pv 3) (by decide))))))))))))))))
abbrev n_need_stocks : List Str := ["stocks", "ahead", "row", "name", "length", "many", "price"]
theorem sc_need_stocks : FnScope n_need_stocks ["stocks"] (defScope st_need_stocks) := ⟨rfl, rfl, rfl, by decide +kernel, rfl, by decide +kernel, by decide +kernel⟩
theorem gf_need_stocks (T : Txt K mg) : GF P w K mg base 4 "need_stocks" 1 m_need_stocks := by
  obtain ⟨fd, F⟩ := fd_need_stocks T
  refine gf_of (b := b_need_stocks) (n := 1) (N := n_need_stocks) F (g_need_stocks T) sc_need_stocks rfl (by decide) (fun _ _ _ _ _ _ us hl => match us, hl with | [_], _ => rfl) fun cdv A outer s H E hr => ?_
  exact (simb_cons (own1 := []) (sim_ifS (SimW.t (sim_orW (sim_notT (sim_truth (SimE.r (sim_isi2 (n := "list") (n2 := "tuple") (by rfl) (z_isinstance T) (by rfl) (z_list T) boot_list (by decide) (by rfl) (z_tuple T) boot_tuple (by decide) (SimE.r (sim_var (pv 0) (by decide))))))) (sim_or1 (sim_notT (sim_chainT op_le op_le (op2_i2 _) (op2_i2 _) (SimE.r sim_int) (SimE.r (v_len (z_len T) (SimE.r (sim_var (pv 0) (by decide))))) (SimE.r (sim_gint (by rfl) (z_MOST_STOCKS T)))))))) (simb_one sim_never) simb_nil)
    (simb_cons (own1 := [1]) (sim_setF sc_need_stocks.nd rfl (by first | exact .inl rfl | exact .inr rfl) (sim_lst sima_nil) IsL.l)
    (simb_post (own1 := [1]) (simb_one (sim_for (ownT := [1]) PassesOwn.never rfl (simi_seq (sim_var (pv 0) (by decide))) (simg_name sc_need_stocks.nd rfl (by first | exact .inl rfl | exact .inr rfl)) (simb_cons (own1 := [1]) (sim_ifS (SimW.t (sim_orW (sim_notT (sim_truth (SimE.r (sim_isi (n := "tuple") (by rfl) (z_isinstance T) (by rfl) (z_tuple T) boot_tuple (by decide) (SimE.r (sim_var (pv 2) (by decide))))))) (sim_or1 (sim_cmpT (op_neD hr.units) op2_ne (SimE.r (v_len (z_len T) (SimE.r (sim_var (pv 2) (by decide))))) (SimE.r (v_add (SimE.r (sim_gint (by rfl) (z_PRICE_AT T))) (SimE.r sim_int))) (nomark _))))) (simb_one sim_never) simb_nil)
    (simb_cons (own1 := [1]) (sim_asg (sim_var (pv 2) (by decide)) (simg_tup rfl (simgs_cons (simg_name sc_need_stocks.nd rfl (by first | exact .inl rfl | exact .inr rfl)) (simgs_cons (simg_name sc_need_stocks.nd rfl (by first | exact .inl rfl | exact .inr rfl)) (simgs_cons (simg_name sc_need_stocks.nd rfl (by first | exact .inl rfl | exact .inr rfl)) (simgs_cons (simg_name sc_need_stocks.nd rfl (by first | exact .inl rfl | exact .inr rfl)) simgs_nil))))))
    (simb_cons (own1 := [1]) (sim_expr (sim_callL (gf_need_new_name T) (hr.mono (by decide)) (by rfl) (simr_cons (SimE.r (sim_var (pv 3) (by decide))) (simr_cons (sim_varR (pv 1)) simr_nil))))
    (simb_cons (own1 := [1]) (sim_expr (sim_call (gf_need_length T) (hr.mono (by decide)) (by rfl) (sima_cons (sim_var (pv 4) (by decide)) sima_nil)))
    (simb_cons (own1 := [1]) (sim_ifS (SimW.t (sim_andW (sim_cmpT op_notN op2_notN (SimE.r (sim_var (pv 5) (by decide))) (SimE.r sim_non) (nomark _)) (sim_and1 (sim_notT (sim_truth (SimE.r (sim_call (gf_is_number T) (hr.mono (by decide)) (by rfl) (sima_cons (sim_var (pv 5) (by decide)) sima_nil)))))))) (simb_one sim_never) simb_nil)
    (simb_cons (own1 := [1]) (sim_ifS (sim_notT (sim_truth (SimE.r (sim_call (gf_is_number T) (hr.mono (by decide)) (by rfl) (sima_cons (sim_var (pv 6) (by decide)) sima_nil))))) (simb_one sim_never) simb_nil)
    (simb_one (sim_dropM (simm_1 (by decide) (fun h => pe_bm PySem.F.plainAttrs_list PySem.F.slot_list_append PySem.F.type_list_append mt_append (pv 1) (pa_cons h pa_nil)) opm_append (SimE.m (sim_var (pv 3) (by decide)))))))))))))))))
abbrev n_Shop_init : List Str := ["self", "stocks", "pieces", "kerf"]
theorem sc_Shop_init : FnScope n_Shop_init ["self", "stocks", "pieces", "kerf"] (defScope st_Shop_init) := ⟨rfl, rfl, rfl, by decide +kernel, rfl, by decide +kernel, by decide +kernel⟩
theorem gi_Shop (T : Txt K mg) : GI P w K mg base 5 "Shop" 3 m_Shop_init := by
  obtain ⟨fd, F⟩ := fd_Shop_init T
  refine gi_of (b := b_Shop_init) (n := 3) (N := n_Shop_init) F (g_Shop T) (mk_Shop T) sc_Shop_init rfl (by decide) (fun _ _ _ _ _ _ us hl => match us, hl with | [_, _, _, _], _ => rfl) fun cdv A outer s H E hr => ?_
  exact (simb_cons (own1 := [0]) (sim_expr (sim_call (gf_need_stocks T) (hr.mono (by decide)) (by rfl) (sima_cons (sim_var (pv 1) (by decide)) sima_nil)))
    (simb_cons (own1 := [0]) (sim_expr (sim_call (gf_need_pieces T) (hr.mono (by decide)) (by rfl) (sima_cons (sim_var (pv 2) (by decide)) sima_nil)))
    (simb_cons (own1 := [0]) (sim_ifS (sim_notT (sim_truth (SimE.r (sim_call (gf_is_number T) (hr.mono (by decide)) (by rfl) (sima_cons (sim_var (pv 3) (by decide)) sima_nil))))) (simb_one sim_never) simb_nil)
    (simb_cons (own1 := [0]) (sim_fld (by decide) (pv 0) (v_tup (z_tuple T) (SimE.r (sim_var (pv 1) (by decide)))) (ato_stocks T))
    (simb_cons (own1 := [0]) (sim_fld (by decide) (pv 0) (v_tup (z_tuple T) (SimE.r (sim_var (pv 2) (by decide)))) (ato_pieces T))
    (simb_one (sim_fld (by decide) (pv 0) (sim_var (pv 3) (by decide)) (ato_kerf T))))))))
abbrev n__law_made : List Str := ["shop"]
theorem sc__law_made : FnScope n__law_made ["shop"] (defScope st__law_made) := ⟨rfl, rfl, rfl, by decide +kernel, rfl, by decide +kernel, by decide +kernel⟩
theorem gf__law_made (T : Txt K mg) : GF P w K mg base 7 "_law_made" 1 m__law_made := by
  obtain ⟨fd, F⟩ := fd__law_made T
  refine gf_of (b := b__law_made) (n := 1) (N := n__law_made) F (g__law_made T) sc__law_made rfl (by decide) (fun _ _ _ _ _ _ us hl => match us, hl with | [_], _ => rfl) fun cdv A outer s H E hr => ?_
  exact (simb_one (sim_ret (sim_make (gi_Shop T) (hr.mono (by decide)) (by rfl) (sima_cons (sim_ix (SimE.r (sim_var (pv 0) (by decide))) (SimE.r sim_int) (fun _ _ => rfl)) (sima_cons (sim_ix (SimE.r (sim_var (pv 0) (by decide))) (SimE.r sim_int) (fun _ _ => rfl)) (sima_cons (sim_ix (SimE.r (sim_var (pv 0) (by decide))) (SimE.r sim_int) (fun _ _ => rfl)) sima_nil))))))
abbrev n__law_added : List Str := ["rows", "many", "piece", "row"]
theorem sc__law_added : FnScope n__law_added ["rows", "many"] (defScope st__law_added) := ⟨rfl, rfl, rfl, by decide +kernel, rfl, by decide +kernel, by decide +kernel⟩
theorem gf__law_added (T : Txt K mg) : GF P w K mg base 1 "_law_added" 2 m__law_added := by
  obtain ⟨fd, F⟩ := fd__law_added T
  refine gf_of (b := b__law_added) (n := 2) (N := n__law_added) F (g__law_added T) sc__law_added rfl (by decide) (fun _ _ _ _ _ _ us hl => match us, hl with | [_, _], _ => rfl) fun cdv A outer s H E hr => ?_
  exact (simb_one (sim_ret (v_tup (z_tuple T) (SimF.rr (simf_comp (ownc := [("piece", 2)]) rfl sc__law_added.nd (own' := []) (simi_range1 (by rfl) (z_range T) (sima_cons (sim_var (pv 1) (by decide)) sima_nil)) (blkOk_by (own := [("piece", 2)]) (N := n__law_added) (sc := defScope st__law_added) (by decide +kernel)) (fun _ _ _ _ _ => (simg_name sc__law_added.nd rfl (by first | exact .inl rfl | exact .inr rfl))) (fun _ _ _ _ _ => simts_nil) (fun _ _ _ _ _ => (v_sumA (z_sum T) (SimF.rr (simf_comp (ownc := [("row", 3)]) rfl sc__law_added.nd (own' := []) (simi_seq (sim_var (pv 0) (by decide))) (blkOk_by (own := [("row", 3)]) (by kernel_rfl)) (fun _ _ _ _ _ => (simg_name sc__law_added.nd rfl (by first | exact .inl rfl | exact .inr rfl))) (fun _ _ _ _ _ => simts_nil) (fun _ _ _ _ _ => (sim_ix (SimE.r (sim_var (pv 3) (by decide))) (SimE.r (sim_var (pv 2) (by decide))) (fun _ _ => rfl))))))))))))
abbrev n__law_cut : List Str := ["shop", "left", "piece"]
theorem sc__law_cut : FnScope n__law_cut ["shop", "left", "piece"] (defScope st__law_cut) := ⟨rfl, rfl, rfl, by decide +kernel, rfl, by decide +kernel, by decide +kernel⟩
theorem gf__law_cut (T : Txt K mg) : GF P w K mg base 1 "_law_cut" 3 m__law_cut := by
  obtain ⟨fd, F⟩ := fd__law_cut T
  refine gf_of (b := b__law_cut) (n := 3) (N := n__law_cut) F (g__law_cut T) sc__law_cut rfl (by decide) (fun _ _ _ _ _ _ us hl => match us, hl with | [_, _, _], _ => rfl) fun cdv A outer s H E hr => ?_
  exact (simb_cons (own1 := []) (sim_set sc__law_cut.nd rfl (by first | exact .inl rfl | exact .inr rfl) (v_sub (SimE.r (sim_var (pv 1) (by decide))) (SimE.r (sim_ix (SimE.r (sim_ix (SimE.r (sim_ix (SimE.r (sim_var (pv 0) (by decide))) (SimE.r sim_int) (fun _ _ => rfl))) (SimE.r (sim_var (pv 2) (by decide))) (fun _ _ => rfl))) (SimE.r sim_int) (fun _ _ => rfl)))))
    (simb_cons (own1 := []) (sim_ifS (sim_cmpT op_lt (op2_i2 _) (SimE.r (sim_var (pv 1) (by decide))) (SimE.r sim_int) (nomark _)) (simb_one (sim_ret sim_non)) simb_nil)
    (simb_one (sim_ret (v_sub (SimE.r (sim_var (pv 1) (by decide))) (SimE.r (v_min2 (z_min T) (SimE.r (sim_var (pv 1) (by decide))) (SimE.r (sim_ix (SimE.r (sim_var (pv 0) (by decide))) (SimE.r sim_int) (fun _ _ => rfl))))))))))
abbrev n__law_patterns : List Str := ["shop", "length", "rows", "piece", "longer", "row", "left", "number"]
theorem sc__law_patterns : FnScope n__law_patterns ["shop", "length"] (defScope st__law_patterns) := ⟨rfl, rfl, rfl, by decide +kernel, rfl, by decide +kernel, by decide +kernel⟩
theorem gf__law_patterns (T : Txt K mg) : GF P w K mg base 2 "_law_patterns" 2 m__law_patterns := by
  obtain ⟨fd, F⟩ := fd__law_patterns T
  refine gf_of (b := b__law_patterns) (n := 2) (N := n__law_patterns) F (g__law_patterns T) sc__law_patterns rfl (by decide) (fun _ _ _ _ _ _ us hl => match us, hl with | [_, _], _ => rfl) fun cdv A outer s H E hr => ?_
  exact (simb_cons (own1 := [2]) (sim_setF sc__law_patterns.nd rfl (by first | exact .inl rfl | exact .inr rfl) (sim_lst (sima_cons (sim_tup (sima_cons (sim_tup sima_nil) (sima_cons (sim_var (pv 1) (by decide)) sima_nil))) sima_nil)) IsL.l)
    (simb_cons (own1 := []) (sim_pre (own1 := []) (sim_for (ownT := []) PassesOwn.never rfl (simi_range1 (by rfl) (z_range T) (sima_cons (v_len (z_len T) (SimE.r (sim_ix (SimE.r (sim_var (pv 0) (by decide))) (SimE.r sim_int) (fun _ _ => rfl)))) sima_nil)) (simg_name sc__law_patterns.nd rfl (by first | exact .inl rfl | exact .inr rfl)) (simb_cons (own1 := [4]) (sim_setF sc__law_patterns.nd rfl (by first | exact .inl rfl | exact .inr rfl) (sim_lst sima_nil) IsL.l)
    (simb_cons (own1 := [4]) (sim_for (ownT := [4]) PassesOwn.never rfl (simi_seq (sim_var (pv 2) (by decide))) (simg_tup rfl (simgs_cons (simg_name sc__law_patterns.nd rfl (by first | exact .inl rfl | exact .inr rfl)) (simgs_cons (simg_name sc__law_patterns.nd rfl (by first | exact .inl rfl | exact .inr rfl)) simgs_nil))) (simb_cons (own1 := [4]) (sim_set sc__law_patterns.nd rfl (by first | exact .inl rfl | exact .inr rfl) sim_int)
    (simb_one (sim_while PassesOwn.never (sim_cmpT op_notN op2_notN (SimE.r (sim_var (pv 6) (by decide))) (SimE.r sim_non) (nomark _)) (simb_cons (own1 := [4]) (sim_dropM (simm_1 (by decide) (fun h => pe_bm PySem.F.plainAttrs_list PySem.F.slot_list_append PySem.F.type_list_append mt_append (pv 4) (pa_cons h pa_nil)) opm_append (SimE.m (sim_tup (sima_cons (v_add (SimE.r (sim_var (pv 5) (by decide))) (SimE.r (sim_tup (sima_cons (sim_var (pv 7) (by decide)) sima_nil)))) (sima_cons (sim_var (pv 6) (by decide)) sima_nil))))))
    (simb_one (sim_par2 (fun h => ps_par rfl sc__law_patterns.nd rfl rfl (by decide) rfl rfl h (by with_unfolding_all rfl)) rfl rfl (SimE.x (sim_call (gf__law_cut T) (hr.mono (by decide)) (by rfl) (sima_cons (sim_var (pv 0) (by decide)) (sima_cons (sim_var (pv 6) (by decide)) (sima_cons (sim_var (pv 3) (by decide)) sima_nil))))) (SimE.x (v_add (SimE.r (sim_var (pv 7) (by decide))) (SimE.r sim_int))))))))))
    (simb_one (sim_pre (own1 := []) (sim_set sc__law_patterns.nd rfl (by first | exact .inl rfl | exact .inr rfl) (sim_var (pv 4) (by decide)))))))))
    (simb_one (sim_ret (SimF.ee (simf_comp (ownc := [("row", 5), ("left", 6)]) rfl sc__law_patterns.nd (own' := []) (simi_seq (sim_var (pv 2) (by decide))) (blkOk_by (own := [("row", 5), ("left", 6)]) (N := n__law_patterns) (sc := defScope st__law_patterns) (by decide +kernel)) (fun _ _ _ _ _ => (simg_tup rfl (simgs_cons (simg_name sc__law_patterns.nd rfl (by first | exact .inl rfl | exact .inr rfl)) (simgs_cons (simg_name sc__law_patterns.nd rfl (by first | exact .inl rfl | exact .inr rfl)) simgs_nil)))) (fun _ _ _ _ _ => simts_nil) (fun _ _ _ _ _ => (sim_var (pv 5) (by decide)))))))))
abbrev n__law_out : List Str := ["shop", "lengths", "found", "length", "rows", "later", "row", "more"]
theorem sc__law_out : FnScope n__law_out ["shop", "lengths"] (defScope st__law_out) := ⟨rfl, rfl, rfl, by decide +kernel, rfl, by decide +kernel, by decide +kernel⟩
theorem gf__law_out (T : Txt K mg) : GF P w K mg base 3 "_law_out" 2 m__law_out := by
  obtain ⟨fd, F⟩ := fd__law_out T
  refine gf_of (b := b__law_out) (n := 2) (N := n__law_out) F (g__law_out T) sc__law_out rfl (by decide) (fun _ _ _ _ _ _ us hl => match us, hl with | [_, _], _ => rfl) fun cdv A outer s H E hr => ?_
  exact (simb_cons (own1 := [2]) (sim_setF sc__law_out.nd rfl (by first | exact .inl rfl | exact .inr rfl) (sim_lst (sima_cons (v_mul (SimE.r (sim_tup (sima_cons sim_int sima_nil))) (SimE.r (v_len (z_len T) (SimE.r (sim_ix (SimE.r (sim_var (pv 0) (by decide))) (SimE.r sim_int) (fun _ _ => rfl)))))) sima_nil)) IsL.l)
    (simb_cons (own1 := [2]) (sim_for (ownT := [2]) PassesOwn.never rfl (simi_seq (sim_var (pv 1) (by decide))) (simg_name sc__law_out.nd rfl (by first | exact .inl rfl | exact .inr rfl)) (simb_cons (own1 := [2]) (sim_par2 (fun h => ps_par rfl sc__law_out.nd rfl rfl (by decide) rfl rfl h (by with_unfolding_all rfl)) rfl rfl (SimE.x (sim_call (gf__law_patterns T) (hr.mono (by decide)) (by rfl) (sima_cons (sim_var (pv 0) (by decide)) (sima_cons (sim_var (pv 3) (by decide)) sima_nil)))) (SimE.x sim_dictT0))
    (simb_cons (own1 := []) (sim_pre (own1 := []) (sim_for (ownT := []) PassesOwn.never rfl (simi_seq (sim_var (pv 2) (by decide))) (simg_name sc__law_out.nd rfl (by first | exact .inl rfl | exact .inr rfl)) (simb_one (sim_for (ownT := []) PassesOwn.never rfl (simi_seq (sim_var (pv 4) (by decide))) (simg_name sc__law_out.nd rfl (by first | exact .inl rfl | exact .inr rfl)) (simb_one (sim_put hr (sim_var (pv 5) (by decide)) (sim_call (gf__law_added T) (hr.mono (by decide)) (by rfl) (sima_cons (SimF.ee (sim_lst (sima_cons (sim_var (pv 6) (by decide)) (sima_cons (sim_var (pv 7) (by decide)) sima_nil)))) (sima_cons (v_len (z_len T) (SimE.r (sim_var (pv 6) (by decide)))) sima_nil))) sim_bl))))))
    (simb_one (sim_setF sc__law_out.nd rfl (by first | exact .inl rfl | exact .inr rfl) (f_sortedS hr (z_sorted T) (SimE.r (sim_var (pv 5) (by decide)))) IsL.l)))))
    (simb_one (sim_pre (own1 := []) (sim_ret (sim_var (pv 2) (by decide)))))))
abbrev n__law_pen : List Str := ["script", "fold", "cell"]
theorem sc__law_pen : FnScope n__law_pen ["script"] (defScope st__law_pen) := ⟨rfl, rfl, rfl, by decide +kernel, rfl, by decide +kernel, by decide +kernel⟩
theorem gf__law_pen (T : Txt K mg) : GF P w K mg base 1 "_law_pen" 1 m__law_pen := by
  obtain ⟨fd, F⟩ := fd__law_pen T
  refine gf_of (b := b__law_pen) (n := 1) (N := n__law_pen) F (g__law_pen T) sc__law_pen rfl (by decide) (fun _ _ _ _ _ _ us hl => match us, hl with | [_], _ => rfl) fun cdv A outer s H E hr => ?_
  exact (simb_cons (own1 := []) (sim_set sc__law_pen.nd rfl (by first | exact .inl rfl | exact .inr rfl) sim_int)
    (simb_cons (own1 := []) (sim_for (ownT := []) PassesOwn.never rfl (simi_seq (sim_var (pv 0) (by decide))) (simg_name sc__law_pen.nd rfl (by first | exact .inl rfl | exact .inr rfl)) (simb_one (sim_set sc__law_pen.nd rfl (by first | exact .inl rfl | exact .inr rfl) (v_mod (SimE.r (v_int (z_int T) (SimE.r (v_add (SimE.r (v_mul (SimE.r (sim_var (pv 1) (by decide))) (SimE.r sim_int))) (SimE.r (sim_var (pv 2) (by decide))))))) (SimE.r sim_int)))))
    (simb_one (sim_ret (sim_dict (simd_cons (SimF.ee (f_lst (z_list T) (SimE.r (sim_var (pv 0) (by decide))))) (simd_cons sim_int (simd_cons sim_int (simd_cons sim_int (simd_cons (sim_var (pv 1) (by decide)) simd_nil))))))))))
abbrev n__law_size : List Str := ["shop", "pattern", "number", "row"]
theorem sc__law_size : FnScope n__law_size ["shop", "pattern"] (defScope st__law_size) := ⟨rfl, rfl, rfl, by decide +kernel, rfl, by decide +kernel, by decide +kernel⟩
theorem gf__law_size (T : Txt K mg) : GF P w K mg base 1 "_law_size" 2 m__law_size := by
  obtain ⟨fd, F⟩ := fd__law_size T
  refine gf_of (b := b__law_size) (n := 2) (N := n__law_size) F (g__law_size T) sc__law_size rfl (by decide) (fun _ _ _ _ _ _ us hl => match us, hl with | [_, _], _ => rfl) fun cdv A outer s H E hr => ?_
  exact (simb_one (sim_ret (v_sumA (z_sum T) (SimF.rr (simf_comp (ownc := [("number", 2), ("row", 3)]) rfl sc__law_size.nd (own' := []) (simi_zip (fun h => RZ.pi_zipA (by rfl) (z_zip T) h) (sim_var (pv 1) (by decide)) (sim_ix (SimE.r (sim_var (pv 0) (by decide))) (SimE.r sim_int) (fun _ _ => rfl))) (blkOk_by (own := [("number", 2), ("row", 3)]) (N := n__law_size) (sc := defScope st__law_size) (by decide +kernel)) (fun _ _ _ _ _ => (simg_tup rfl (simgs_cons (simg_name sc__law_size.nd rfl (by first | exact .inl rfl | exact .inr rfl)) (simgs_cons (simg_name sc__law_size.nd rfl (by first | exact .inl rfl | exact .inr rfl)) simgs_nil)))) (fun _ _ _ _ _ => simts_nil) (fun _ _ _ _ _ => (v_mul (SimE.r (sim_var (pv 2) (by decide))) (SimE.r (v_add (SimE.r (sim_ix (SimE.r (sim_var (pv 3) (by decide))) (SimE.r sim_int) (fun _ _ => rfl))) (SimE.r (sim_ix (SimE.r (sim_var (pv 0) (by decide))) (SimE.r sim_int) (fun _ _ => rfl))))))))))))
abbrev n__law_gives : List Str := ["shop", "length", "pattern"]
theorem sc__law_gives : FnScope n__law_gives ["shop", "length", "pattern"] (defScope st__law_gives) := ⟨rfl, rfl, rfl, by decide +kernel, rfl, by decide +kernel, by decide +kernel⟩
theorem gf__law_gives (T : Txt K mg) : GF P w K mg base 2 "_law_gives" 3 m__law_gives := by
  obtain ⟨fd, F⟩ := fd__law_gives T
  refine gf_of (b := b__law_gives) (n := 3) (N := n__law_gives) F (g__law_gives T) sc__law_gives rfl (by decide) (fun _ _ _ _ _ _ us hl => match us, hl with | [_, _, _], _ => rfl) fun cdv A outer s H E hr => ?_
  exact (simb_one (sim_ret (sim_orV (sim_cmp (op_eqD hr.units) op2_eq (SimE.r (v_sumA (z_sum T) (SimE.r (sim_var (pv 2) (by decide))))) (SimE.r sim_int) (nomark _)) (sim_one (sim_cmp op_le (op2_i2 _) (SimE.r (sim_call (gf__law_size T) (hr.mono (by decide)) (by rfl) (sima_cons (sim_var (pv 0) (by decide)) (sima_cons (sim_var (pv 2) (by decide)) sima_nil)))) (SimE.r (v_add (SimE.r (sim_var (pv 1) (by decide))) (SimE.r (sim_ix (SimE.r (sim_var (pv 0) (by decide))) (SimE.r sim_int) (fun _ _ => rfl))))) (nomark _))))))
abbrev n__law_whole : List Str := ["value"]
theorem sc__law_whole : FnScope n__law_whole ["value"] (defScope st__law_whole) := ⟨rfl, rfl, rfl, by decide +kernel, rfl, by decide +kernel, by decide +kernel⟩
theorem gf__law_whole (T : Txt K mg) : GF P w K mg base 1 "_law_whole" 1 m__law_whole := by
  obtain ⟨fd, F⟩ := fd__law_whole T
  refine gf_of (b := b__law_whole) (n := 1) (N := n__law_whole) F (g__law_whole T) sc__law_whole rfl (by decide) (fun _ _ _ _ _ _ us hl => match us, hl with | [_], _ => rfl) fun cdv A outer s H E hr => ?_
  exact (simb_one (sim_ret (sim_andV (sim_isi (n := "int") (by rfl) (z_isinstance T) (by rfl) (z_int T) boot_int (by decide) (SimE.r (sim_var (pv 0) (by decide)))) (sim_one (sim_notV (SimE.r (sim_isi (n := "bool") (by rfl) (z_isinstance T) (by rfl) (z_bool T) boot_bool (by decide) (SimE.r (sim_var (pv 0) (by decide))))))))))
abbrev n__law_is_numbers : List Str := ["value", "many", "one"]
theorem sc__law_is_numbers : FnScope n__law_is_numbers ["value", "many"] (defScope st__law_is_numbers) := ⟨rfl, rfl, rfl, by decide +kernel, rfl, by decide +kernel, by decide +kernel⟩
theorem gf__law_is_numbers (T : Txt K mg) : GF P w K mg base 2 "_law_is_numbers" 2 m__law_is_numbers := by
  obtain ⟨fd, F⟩ := fd__law_is_numbers T
  refine gf_of (b := b__law_is_numbers) (n := 2) (N := n__law_is_numbers) F (g__law_is_numbers T) sc__law_is_numbers rfl (by decide) (fun _ _ _ _ _ _ us hl => match us, hl with | [_, _], _ => rfl) fun cdv A outer s H E hr => ?_
  exact (simb_one (sim_ret (sim_andV (sim_isi (n := "tuple") (by rfl) (z_isinstance T) (by rfl) (z_tuple T) boot_tuple (by decide) (SimE.r (sim_var (pv 0) (by decide)))) (sim_andV (sim_cmp (op_eqD hr.units) op2_eq (SimE.r (v_len (z_len T) (SimE.r (sim_var (pv 0) (by decide))))) (SimE.r (sim_var (pv 1) (by decide))) (nomark _)) (sim_one (sim_cmp (op_eqD hr.units) op2_eq (SimF.rr (simf_comp (ownc := [("one", 2)]) rfl sc__law_is_numbers.nd (own' := []) (simi_seq (sim_var (pv 0) (by decide))) (blkOk_by (own := [("one", 2)]) (N := n__law_is_numbers) (sc := defScope st__law_is_numbers) (by decide +kernel)) (fun _ _ _ _ _ => (simg_name sc__law_is_numbers.nd rfl (by first | exact .inl rfl | exact .inr rfl))) (fun _ _ _ _ _ => (simts_one (SimW.t (sim_orW (sim_notT (sim_truth (SimE.r (sim_call (gf__law_whole T) (hr.mono (by decide)) (by rfl) (sima_cons (sim_var (pv 2) (by decide)) sima_nil))))) (sim_or1 (sim_cmpT op_lt (op2_i2 _) (SimE.r (sim_var (pv 2) (by decide))) (SimE.r sim_int) (nomark _))))))) (fun _ _ _ _ _ => (sim_var (pv 2) (by decide))))) (SimF.rr (sim_lst sima_nil)) (nomark _)))))))
abbrev n__law_split_right : List Str := ["shop", "lengths", "pattern", "told", "row", "at"]
theorem sc__law_split_right : FnScope n__law_split_right ["shop", "lengths", "pattern", "told"] (defScope st__law_split_right) := ⟨rfl, rfl, rfl, by decide +kernel, rfl, by decide +kernel, by decide +kernel⟩
theorem gf__law_split_right (T : Txt K mg) : GF P w K mg base 3 "_law_split_right" 4 m__law_split_right := by
  obtain ⟨fd, F⟩ := fd__law_split_right T
  refine gf_of (b := b__law_split_right) (n := 4) (N := n__law_split_right) F (g__law_split_right T) sc__law_split_right rfl (by decide) (fun _ _ _ _ _ _ us hl => match us, hl with | [_, _, _, _], _ => rfl) fun cdv A outer s H E hr => ?_
  exact (simb_cons (own1 := []) (sim_ifS (SimW.t (sim_orW (sim_notT (sim_truth (SimE.r (sim_isC (clsok T) (by decide +kernel) (by rfl) (z_isinstance T) (by rfl) (sim_var (pv 3) (by decide)))))) (sim_orW (sim_notT (sim_truth (SimE.r (sim_isi (n := "tuple") (by rfl) (z_isinstance T) (by rfl) (z_tuple T) boot_tuple (by decide) (SimE.r (sim_attr (sim_var (pv 3) (by decide)) (ato_patterns T))))))) (sim_or1 (sim_cmpT (op_neD hr.units) op2_ne (SimE.r (v_len (z_len T) (SimE.r (sim_attr (sim_var (pv 3) (by decide)) (ato_patterns T))))) (SimE.r (v_len (z_len T) (SimE.r (sim_var (pv 1) (by decide))))) (nomark _)))))) (simb_one (sim_ret sim_bl)) simb_nil)
    (simb_cons (own1 := []) (sim_ifS (sim_cmpT (op_neD hr.units) op2_ne (SimF.rr (simf_comp (ownc := [("row", 4)]) rfl sc__law_split_right.nd (own' := []) (simi_seq (sim_attr (sim_var (pv 3) (by decide)) (ato_patterns T))) (blkOk_by (own := [("row", 4)]) (N := n__law_split_right) (sc := defScope st__law_split_right) (by decide +kernel)) (fun _ _ _ _ _ => (simg_name sc__law_split_right.nd rfl (by first | exact .inl rfl | exact .inr rfl))) (fun _ _ _ _ _ => (simts_one (sim_notT (sim_truth (SimE.r (sim_call (gf__law_is_numbers T) (hr.mono (by decide)) (by rfl) (sima_cons (sim_var (pv 4) (by decide)) (sima_cons (v_len (z_len T) (SimE.r (sim_ix (SimE.r (sim_var (pv 0) (by decide))) (SimE.r sim_int) (fun _ _ => rfl)))) sima_nil)))))))) (fun _ _ _ _ _ => (sim_var (pv 4) (by decide))))) (SimF.rr (sim_lst sima_nil)) (nomark _)) (simb_one (sim_ret sim_bl)) simb_nil)
    (simb_cons (own1 := []) (sim_ifS (sim_cmpT (op_neD hr.units) op2_ne (SimF.rr (simf_comp (ownc := [("at", 5)]) rfl sc__law_split_right.nd (own' := []) (simi_range1 (by rfl) (z_range T) (sima_cons (v_len (z_len T) (SimE.r (sim_var (pv 1) (by decide)))) sima_nil)) (blkOk_by (own := [("at", 5)]) (N := n__law_split_right) (sc := defScope st__law_split_right) (by decide +kernel)) (fun _ _ _ _ _ => (simg_name sc__law_split_right.nd rfl (by first | exact .inl rfl | exact .inr rfl))) (fun _ _ _ _ _ => (simts_one (sim_notT (sim_truth (SimE.r (sim_call (gf__law_gives T) (hr.mono (by decide)) (by rfl) (sima_cons (sim_var (pv 0) (by decide)) (sima_cons (sim_ix (SimE.r (sim_var (pv 1) (by decide))) (SimE.r (sim_var (pv 5) (by decide))) (fun _ _ => rfl)) (sima_cons (sim_ix (SimE.r (sim_attr (sim_var (pv 3) (by decide)) (ato_patterns T))) (SimE.r (sim_var (pv 5) (by decide))) (fun _ _ => rfl)) sima_nil))))))))) (fun _ _ _ _ _ => (sim_var (pv 5) (by decide))))) (SimF.rr (sim_lst sima_nil)) (nomark _)) (simb_one (sim_ret sim_bl)) simb_nil)
    (simb_one (sim_ret (sim_cmp (op_eqD hr.units) op2_eq (SimE.r (sim_call (gf__law_added T) (hr.mono (by decide)) (by rfl) (sima_cons (sim_attr (sim_var (pv 3) (by decide)) (ato_patterns T)) (sima_cons (v_len (z_len T) (SimE.r (sim_var (pv 2) (by decide)))) sima_nil)))) (SimE.r (sim_var (pv 2) (by decide))) (nomark _)))))))
abbrev n__law_is_below : List Str := ["row", "pattern", "at"]
theorem sc__law_is_below : FnScope n__law_is_below ["row", "pattern"] (defScope st__law_is_below) := ⟨rfl, rfl, rfl, by decide +kernel, rfl, by decide +kernel, by decide +kernel⟩
theorem gf__law_is_below (T : Txt K mg) : GF P w K mg base 1 "_law_is_below" 2 m__law_is_below := by
  obtain ⟨fd, F⟩ := fd__law_is_below T
  refine gf_of (b := b__law_is_below) (n := 2) (N := n__law_is_below) F (g__law_is_below T) sc__law_is_below rfl (by decide) (fun _ _ _ _ _ _ us hl => match us, hl with | [_, _], _ => rfl) fun cdv A outer s H E hr => ?_
  exact (simb_one (sim_ret (sim_cmp (op_eqD hr.units) op2_eq (SimF.rr (simf_comp (ownc := [("at", 2)]) rfl sc__law_is_below.nd (own' := []) (simi_range1 (by rfl) (z_range T) (sima_cons (v_len (z_len T) (SimE.r (sim_var (pv 0) (by decide)))) sima_nil)) (blkOk_by (own := [("at", 2)]) (N := n__law_is_below) (sc := defScope st__law_is_below) (by decide +kernel)) (fun _ _ _ _ _ => (simg_name sc__law_is_below.nd rfl (by first | exact .inl rfl | exact .inr rfl))) (fun _ _ _ _ _ => (simts_one (sim_cmpT (opr_gtA hr) (op2_cmpA _ _) (SimE.r (sim_ix (SimE.r (sim_var (pv 0) (by decide))) (SimE.r (sim_var (pv 2) (by decide))) (fun _ _ => rfl))) (SimE.r (sim_ix (SimE.r (sim_var (pv 1) (by decide))) (SimE.r (sim_var (pv 2) (by decide))) (fun _ _ => rfl))) (nomark _)))) (fun _ _ _ _ _ => (sim_var (pv 2) (by decide))))) (SimF.rr (sim_lst sima_nil)) (nomark _))))
abbrev n__law_stopped_right : List Str := ["shop", "lengths", "pattern", "told", "many", "layer", "at", "rows", "row", "later", "more", "one"]
theorem sc__law_stopped_right : FnScope n__law_stopped_right ["shop", "lengths", "pattern", "told"] (defScope st__law_stopped_right) := ⟨rfl, rfl, rfl, by decide +kernel, rfl, by decide +kernel, by decide +kernel⟩
theorem gf__law_stopped_right (T : Txt K mg) : GF P w K mg base 3 "_law_stopped_right" 4 m__law_stopped_right := by
  obtain ⟨fd, F⟩ := fd__law_stopped_right T
  refine gf_of (b := b__law_stopped_right) (n := 4) (N := n__law_stopped_right) F (g__law_stopped_right T) sc__law_stopped_right rfl (by decide) (fun _ _ _ _ _ _ us hl => match us, hl with | [_, _, _, _], _ => rfl) fun cdv A outer s H E hr => ?_
  exact (simb_cons (own1 := []) (sim_set sc__law_stopped_right.nd rfl (by first | exact .inl rfl | exact .inr rfl) (v_len (z_len T) (SimE.r (sim_ix (SimE.r (sim_var (pv 0) (by decide))) (SimE.r sim_int) (fun _ _ => rfl)))))
    (simb_cons (own1 := []) (sim_ifS (SimW.t (sim_orW (sim_notT (sim_truth (SimE.r (sim_isC (clsok T) (by decide +kernel) (by rfl) (z_isinstance T) (by rfl) (sim_var (pv 3) (by decide)))))) (sim_orW (sim_notT (sim_truth (SimE.r (sim_isi (n := "tuple") (by rfl) (z_isinstance T) (by rfl) (z_tuple T) boot_tuple (by decide) (SimE.r (sim_attr (sim_var (pv 3) (by decide)) (ato_layers T))))))) (sim_or1 (sim_cmpT (op_neD hr.units) op2_ne (SimE.r (v_len (z_len T) (SimE.r (sim_attr (sim_var (pv 3) (by decide)) (ato_layers T))))) (SimE.r (v_add (SimE.r (v_len (z_len T) (SimE.r (sim_var (pv 1) (by decide))))) (SimE.r sim_int))) (nomark _)))))) (simb_one (sim_ret sim_bl)) simb_nil)
    (simb_cons (own1 := []) (sim_for (ownT := []) PassesOwn.never rfl (simi_seq (sim_attr (sim_var (pv 3) (by decide)) (ato_layers T))) (simg_name sc__law_stopped_right.nd rfl (by first | exact .inl rfl | exact .inr rfl)) (simb_cons (own1 := []) (sim_ifS (SimW.t (sim_orW (sim_notT (sim_truth (SimE.r (sim_isi (n := "tuple") (by rfl) (z_isinstance T) (by rfl) (z_tuple T) boot_tuple (by decide) (SimE.r (sim_var (pv 5) (by decide))))))) (sim_or1 (sim_cmpT (op_neD hr.units) op2_ne (SimF.rr (simf_comp (ownc := [("row", 8)]) rfl sc__law_stopped_right.nd (own' := []) (simi_seq (sim_var (pv 5) (by decide))) (blkOk_by (own := [("row", 8)]) (N := n__law_stopped_right) (sc := defScope st__law_stopped_right) (by decide +kernel)) (fun _ _ _ _ _ => (simg_name sc__law_stopped_right.nd rfl (by first | exact .inl rfl | exact .inr rfl))) (fun _ _ _ _ _ => (simts_one (sim_notT (sim_truth (SimE.r (sim_call (gf__law_is_numbers T) (hr.mono (by decide)) (by rfl) (sima_cons (sim_var (pv 8) (by decide)) (sima_cons (sim_var (pv 4) (by decide)) sima_nil)))))))) (fun _ _ _ _ _ => (sim_var (pv 8) (by decide))))) (SimF.rr (sim_lst sima_nil)) (nomark _))))) (simb_one (sim_ret sim_bl)) simb_nil)
    (simb_one (sim_ifS (sim_cmpT (op_neD hr.units) op2_ne (SimF.rr (simf_comp (ownc := [("at", 6)]) rfl sc__law_stopped_right.nd (own' := []) (simi_range2 (by rfl) (z_range T) (sima_cons sim_int (sima_cons (v_len (z_len T) (SimE.r (sim_var (pv 5) (by decide)))) sima_nil))) (blkOk_by (own := [("at", 6)]) (N := n__law_stopped_right) (sc := defScope st__law_stopped_right) (by decide +kernel)) (fun _ _ _ _ _ => (simg_name sc__law_stopped_right.nd rfl (by first | exact .inl rfl | exact .inr rfl))) (fun _ _ _ _ _ => (simts_one (sim_cmpT (opr_geA hr) (op2_cmpA _ _) (SimE.r (sim_ix (SimE.r (sim_var (pv 5) (by decide))) (SimE.r (v_sub (SimE.r (sim_var (pv 6) (by decide))) (SimE.r sim_int))) (fun _ _ => rfl))) (SimE.r (sim_ix (SimE.r (sim_var (pv 5) (by decide))) (SimE.r (sim_var (pv 6) (by decide))) (fun _ _ => rfl))) (nomark _)))) (fun _ _ _ _ _ => (sim_var (pv 6) (by decide))))) (SimF.rr (sim_lst sima_nil)) (nomark _)) (simb_one (sim_ret sim_bl)) simb_nil))))
    (simb_cons (own1 := []) (sim_ifS (SimW.t (sim_orW (sim_cmpT (opr_notInA hr) (op2_notInA _ op2_notIn) (SimE.r (v_mul (SimE.r (sim_tup (sima_cons sim_int sima_nil))) (SimE.r (sim_var (pv 4) (by decide))))) (SimE.r (sim_ix (SimE.r (sim_attr (sim_var (pv 3) (by decide)) (ato_layers T))) (SimE.r sim_int) (fun _ _ => rfl))) (by rfl)) (sim_or1 (sim_cmpT (opr_inA hr) (op2_inA _ op2_in) (SimE.r (sim_var (pv 2) (by decide))) (SimE.r (sim_ix (SimE.r (sim_attr (sim_var (pv 3) (by decide)) (ato_layers T))) (SimE.r (v_neg (SimE.r sim_int))) (fun _ _ => rfl))) (by rfl))))) (simb_one (sim_ret sim_bl)) simb_nil)
    (simb_cons (own1 := []) (sim_for (ownT := []) PassesOwn.never rfl (simi_range1 (by rfl) (z_range T) (sima_cons (v_len (z_len T) (SimE.r (sim_var (pv 1) (by decide)))) sima_nil)) (simg_name sc__law_stopped_right.nd rfl (by first | exact .inl rfl | exact .inr rfl)) (simb_cons (own1 := []) (sim_set sc__law_stopped_right.nd rfl (by first | exact .inl rfl | exact .inr rfl) (sim_call (gf__law_patterns T) (hr.mono (by decide)) (by rfl) (sima_cons (sim_var (pv 0) (by decide)) (sima_cons (sim_ix (SimE.r (sim_var (pv 1) (by decide))) (SimE.r (sim_var (pv 6) (by decide))) (fun _ _ => rfl)) sima_nil))))
    (simb_one (sim_for (ownT := []) PassesOwn.never rfl (simi_seq (sim_ix (SimE.r (sim_attr (sim_var (pv 3) (by decide)) (ato_layers T))) (SimE.r (sim_var (pv 6) (by decide))) (fun _ _ => rfl))) (simg_name sc__law_stopped_right.nd rfl (by first | exact .inl rfl | exact .inr rfl)) (simb_cons (own1 := [9]) (sim_setLc (own' := []) (ownc := [("more", 10)]) rfl sc__law_stopped_right.nd rfl rfl (sw_true rfl rfl rfl (by decide +kernel)) (simi_seq (sim_var (pv 7) (by decide))) (blkOk_by (own := [("more", 10)]) (N := n__law_stopped_right) (sc := defScope st__law_stopped_right) (by decide +kernel)) (fun _ _ _ _ _ => (simg_name sc__law_stopped_right.nd rfl (by first | exact .inl rfl | exact .inr rfl))) (fun _ _ _ _ _ => simts_nil) (fun _ _ _ _ _ => (sim_call (gf__law_added T) (hr.mono (by decide)) (by rfl) (sima_cons (SimF.ee (sim_lst (sima_cons (sim_var (pv 8) (by decide)) (sima_cons (sim_var (pv 10) (by decide)) sima_nil)))) (sima_cons (sim_var (pv 4) (by decide)) sima_nil)))))
    (simb_one (sim_pre (own1 := []) (sim_ifS (sim_cmpT (op_neD hr.units) op2_ne (SimF.rr (simf_comp (ownc := [("one", 11)]) rfl sc__law_stopped_right.nd (own' := []) (simi_seq (sim_var (pv 9) (by decide))) (blkOk_by (own := [("one", 11)]) (N := n__law_stopped_right) (sc := defScope st__law_stopped_right) (by decide +kernel)) (fun _ _ _ _ _ => (simg_name sc__law_stopped_right.nd rfl (by first | exact .inl rfl | exact .inr rfl))) (fun _ _ _ _ _ => (simts_one (SimW.t (sim_andW (sim_truth (SimE.r (sim_call (gf__law_is_below T) (hr.mono (by decide)) (by rfl) (sima_cons (sim_var (pv 11) (by decide)) (sima_cons (sim_var (pv 2) (by decide)) sima_nil))))) (sim_and1 (sim_cmpT (opr_notInA hr) (op2_notInA _ op2_notIn) (SimE.r (sim_var (pv 11) (by decide))) (SimE.r (sim_ix (SimE.r (sim_attr (sim_var (pv 3) (by decide)) (ato_layers T))) (SimE.r (v_add (SimE.r (sim_var (pv 6) (by decide))) (SimE.r sim_int))) (fun _ _ => rfl))) (by rfl))))))) (fun _ _ _ _ _ => (sim_var (pv 11) (by decide))))) (SimF.rr (sim_lst sima_nil)) (nomark _)) (simb_one (sim_ret sim_bl)) simb_nil))))))))
    (simb_one (sim_ret sim_bl)))))))
abbrev n_free_by : List Str := ["shop", "stock", "faults", "found", "start", "low", "high", "length"]
theorem sc_free_by : FnScope n_free_by ["shop", "stock", "faults"] (defScope st_free_by) := ⟨rfl, rfl, rfl, by decide +kernel, rfl, by decide +kernel, by decide +kernel⟩
theorem gf_free_by (T : Txt K mg) : GF P w K mg base 1 "free_by" 3 m_free_by := by
  obtain ⟨fd, F⟩ := fd_free_by T
  refine gf_of (b := b_free_by) (n := 3) (N := n_free_by) F (g_free_by T) sc_free_by rfl (by decide) (fun _ _ _ _ _ _ us hl => match us, hl with | [_, _, _], _ => rfl) fun cdv A outer s H E hr => ?_
  exact (simb_cons (own1 := [3]) (sim_par2 (fun h => ps_par rfl sc_free_by.nd rfl rfl (by decide) rfl rfl h (by with_unfolding_all rfl)) rfl rfl (SimF.xx (sim_lst sima_nil)) (SimE.x sim_int))
    (simb_cons (own1 := [3]) (sim_for (ownT := [3]) PassesOwn.never rfl (simi_seq (sim_var (pv 2) (by decide))) (simg_tup rfl (simgs_cons (simg_name sc_free_by.nd rfl (by first | exact .inl rfl | exact .inr rfl)) (simgs_cons (simg_name sc_free_by.nd rfl (by first | exact .inl rfl | exact .inr rfl)) simgs_nil))) (simb_cons (own1 := [3]) (sim_dropM (simm_1 (by decide) (fun h => pe_bm PySem.F.plainAttrs_list PySem.F.slot_list_append PySem.F.type_list_append mt_append (pv 3) (pa_cons h pa_nil)) opm_append (SimE.m (v_sub (SimE.r (sim_var (pv 5) (by decide))) (SimE.r (sim_var (pv 4) (by decide)))))))
    (simb_one (sim_set sc_free_by.nd rfl (by first | exact .inl rfl | exact .inr rfl) (sim_var (pv 6) (by decide))))))
    (simb_cons (own1 := [3]) (sim_dropM (simm_1 (by decide) (fun h => pe_bm PySem.F.plainAttrs_list PySem.F.slot_list_append PySem.F.type_list_append mt_append (pv 3) (pa_cons h pa_nil)) opm_append (SimE.m (v_sub (SimE.r (sim_ix (SimE.r (sim_ix (SimE.r (sim_attr (sim_var (pv 0) (by decide)) (ato_stocks T))) (SimE.r (sim_var (pv 1) (by decide))) (fun _ _ => rfl))) (SimE.r (sim_gint (by rfl) (z_LENGTH_AT T))) (fun _ _ => rfl))) (SimE.r (sim_var (pv 4) (by decide)))))))
    (simb_one (sim_pre (own1 := []) (sim_ret (v_tup (z_tuple T) (SimF.rr (simf_comp (ownc := [("length", 7)]) rfl sc_free_by.nd (own' := []) (simi_seq (sim_var (pv 3) (by decide))) (blkOk_by (own := [("length", 7)]) (N := n_free_by) (sc := defScope st_free_by) (by decide +kernel)) (fun _ _ _ _ _ => (simg_name sc_free_by.nd rfl (by first | exact .inl rfl | exact .inr rfl))) (fun _ _ _ _ _ => (simts_one (sim_cmpT op_gt (op2_i2 _) (SimE.r (sim_var (pv 7) (by decide))) (SimE.r sim_int) (nomark _)))) (fun _ _ _ _ _ => (sim_var (pv 7) (by decide))))))))))))
abbrev n_width_by : List Str := ["shop", "piece"]
theorem sc_width_by : FnScope n_width_by ["shop", "piece"] (defScope st_width_by) := ⟨rfl, rfl, rfl, by decide +kernel, rfl, by decide +kernel, by decide +kernel⟩
theorem gf_width_by (T : Txt K mg) : GF P w K mg base 1 "width_by" 2 m_width_by := by
  obtain ⟨fd, F⟩ := fd_width_by T
  refine gf_of (b := b_width_by) (n := 2) (N := n_width_by) F (g_width_by T) sc_width_by rfl (by decide) (fun _ _ _ _ _ _ us hl => match us, hl with | [_, _], _ => rfl) fun cdv A outer s H E hr => ?_
  exact (simb_one (sim_ret (v_add (SimE.r (sim_ix (SimE.r (sim_ix (SimE.r (sim_attr (sim_var (pv 0) (by decide)) (ato_pieces T))) (SimE.r (sim_var (pv 1) (by decide))) (fun _ _ => rfl))) (SimE.r (sim_gint (by rfl) (z_LENGTH_AT T))) (fun _ _ => rfl))) (SimE.r (sim_attr (sim_var (pv 0) (by decide)) (ato_kerf T))))))
abbrev n_rows_for : List Str := ["shop", "wanted", "length", "rows", "piece", "most", "longer", "width", "row", "left", "number"]
theorem sc_rows_for : FnScope n_rows_for ["shop", "wanted", "length"] (defScope st_rows_for) := ⟨rfl, rfl, rfl, by decide +kernel, rfl, by decide +kernel, by decide +kernel⟩
theorem gf_rows_for (T : Txt K mg) : GF P w K mg base 2 "rows_for" 3 m_rows_for := by
  obtain ⟨fd, F⟩ := fd_rows_for T
  refine gf_of (b := b_rows_for) (n := 3) (N := n_rows_for) F (g_rows_for T) sc_rows_for rfl (by decide) (fun _ _ _ _ _ _ us hl => match us, hl with | [_, _, _], _ => rfl) fun cdv A outer s H E hr => ?_
  exact (simb_cons (own1 := [3]) (sim_setF sc_rows_for.nd rfl (by first | exact .inl rfl | exact .inr rfl) (sim_lst (sima_cons (sim_tup (sima_cons (sim_tup sima_nil) (sima_cons (v_add (SimE.r (sim_var (pv 2) (by decide))) (SimE.r (sim_attr (sim_var (pv 0) (by decide)) (ato_kerf T)))) sima_nil))) sima_nil)) IsL.l)
    (simb_cons (own1 := []) (sim_pre (own1 := []) (sim_for (ownT := []) PassesOwn.never rfl (simi_enum (by rfl) (z_enumerate T) (sim_var (pv 1) (by decide))) (simg_tup rfl (simgs_cons (simg_name sc_rows_for.nd rfl (by first | exact .inl rfl | exact .inr rfl)) (simgs_cons (simg_name sc_rows_for.nd rfl (by first | exact .inl rfl | exact .inr rfl)) simgs_nil))) (simb_cons (own1 := [6]) (sim_tpar2 rfl sc_rows_for.nd rfl (by first | exact .inl rfl | exact .inr rfl) rfl (by first | exact .inl rfl | exact .inr rfl) (SimF.xx (sim_lst sima_nil)) (SimE.x (sim_call (gf_width_by T) (hr.mono (by decide)) (by rfl) (sima_cons (sim_var (pv 0) (by decide)) (sima_cons (sim_var (pv 4) (by decide)) sima_nil)))))
    (simb_cons (own1 := [6]) (sim_for (ownT := [6]) PassesOwn.never rfl (simi_seq (sim_var (pv 3) (by decide))) (simg_tup rfl (simgs_cons (simg_name sc_rows_for.nd rfl (by first | exact .inl rfl | exact .inr rfl)) (simgs_cons (simg_name sc_rows_for.nd rfl (by first | exact .inl rfl | exact .inr rfl)) simgs_nil))) (simb_one (sim_dropM (simm_1 (by decide) (fun h => pe_bm PySem.F.plainAttrs_list PySem.F.slot_list_extend PySem.F.type_list_extend mt_extend (pv 6) (pa_cons h pa_nil)) opm_extend (SimE.m (SimF.ee (simf_comp (ownc := [("number", 10)]) rfl sc_rows_for.nd (own' := [6]) (simi_range1 (by rfl) (z_range T) (sima_cons (v_add (SimE.r (v_min2 (z_min T) (SimE.r (sim_var (pv 5) (by decide))) (SimE.r (v_fdiv (SimE.r (sim_var (pv 9) (by decide))) (SimE.r (sim_var (pv 7) (by decide))))))) (SimE.r sim_int)) sima_nil)) (blkOk_by (own := [("number", 10)]) (N := n_rows_for) (sc := defScope st_rows_for) (by decide +kernel)) (fun _ _ _ _ _ => (simg_name sc_rows_for.nd rfl (by first | exact .inl rfl | exact .inr rfl))) (fun _ _ _ _ _ => simts_nil) (fun _ _ _ _ _ => (sim_tup (sima_cons (sim_tup (sima_star (SimE.r (sim_var (pv 8) (by decide))) (sima_cons (sim_var (pv 10) (by decide)) sima_nil))) (sima_cons (v_sub (SimE.r (sim_var (pv 9) (by decide))) (SimE.r (v_mul (SimE.r (sim_var (pv 10) (by decide))) (SimE.r (sim_var (pv 7) (by decide)))))) sima_nil)))))))))))
    (simb_one (sim_pre (own1 := []) (sim_set sc_rows_for.nd rfl (by first | exact .inl rfl | exact .inr rfl) (sim_var (pv 6) (by decide)))))))))
    (simb_one (sim_ret (SimF.ee (simf_comp (ownc := [("row", 8), ("left", 9)]) rfl sc_rows_for.nd (own' := []) (simi_seq (sim_var (pv 3) (by decide))) (blkOk_by (own := [("row", 8), ("left", 9)]) (N := n_rows_for) (sc := defScope st_rows_for) (by decide +kernel)) (fun _ _ _ _ _ => (simg_tup rfl (simgs_cons (simg_name sc_rows_for.nd rfl (by first | exact .inl rfl | exact .inr rfl)) (simgs_cons (simg_name sc_rows_for.nd rfl (by first | exact .inl rfl | exact .inr rfl)) simgs_nil)))) (fun _ _ _ _ _ => simts_nil) (fun _ _ _ _ _ => (sim_var (pv 8) (by decide)))))))))
abbrev n_summed : List Str := ["one", "other", "first", "second"]
theorem sc_summed : FnScope n_summed ["one", "other"] (defScope st_summed) := ⟨rfl, rfl, rfl, by decide +kernel, rfl, by decide +kernel, by decide +kernel⟩
theorem gf_summed (T : Txt K mg) : GF P w K mg base 1 "summed" 2 m_summed := by
  obtain ⟨fd, F⟩ := fd_summed T
  refine gf_of (b := b_summed) (n := 2) (N := n_summed) F (g_summed T) sc_summed rfl (by decide) (fun _ _ _ _ _ _ us hl => match us, hl with | [_, _], _ => rfl) fun cdv A outer s H E hr => ?_
  exact (simb_one (sim_ret (v_tup (z_tuple T) (SimF.rr (simf_comp (ownc := [("first", 2), ("second", 3)]) rfl sc_summed.nd (own' := []) (simi_zip (fun h => RZ.pi_zipA (by rfl) (z_zip T) h) (sim_var (pv 0) (by decide)) (sim_var (pv 1) (by decide))) (blkOk_by (own := [("first", 2), ("second", 3)]) (N := n_summed) (sc := defScope st_summed) (by decide +kernel)) (fun _ _ _ _ _ => (simg_tup rfl (simgs_cons (simg_name sc_summed.nd rfl (by first | exact .inl rfl | exact .inr rfl)) (simgs_cons (simg_name sc_summed.nd rfl (by first | exact .inl rfl | exact .inr rfl)) simgs_nil)))) (fun _ _ _ _ _ => simts_nil) (fun _ _ _ _ _ => (v_add (SimE.r (sim_var (pv 2) (by decide))) (SimE.r (sim_var (pv 3) (by decide))))))))))
abbrev n_layers_to : List Str := ["shop", "lengths", "target", "layers", "length", "longer", "row", "more", "behind", "way", "most", "one"]
theorem sc_layers_to : FnScope n_layers_to ["shop", "lengths", "target"] (defScope st_layers_to) := ⟨rfl, rfl, rfl, by decide +kernel, rfl, by decide +kernel, by decide +kernel⟩
theorem gf_layers_to (T : Txt K mg) : GF P w K mg base 3 "layers_to" 3 m_layers_to := by
  obtain ⟨fd, F⟩ := fd_layers_to T
  refine gf_of (b := b_layers_to) (n := 3) (N := n_layers_to) F (g_layers_to T) sc_layers_to rfl (by decide) (fun _ _ _ _ _ _ us hl => match us, hl with | [_, _, _], _ => rfl) fun cdv A outer s H E hr => ?_
  exact (simb_cons (own1 := [3]) (sim_setF sc_layers_to.nd rfl (by first | exact .inl rfl | exact .inr rfl) (sim_lst (sima_cons (sim_dictT1 hr (v_mul (SimE.r (sim_tup (sima_cons sim_int sima_nil))) (SimE.r (v_len (z_len T) (SimE.r (sim_var (pv 2) (by decide)))))) (sim_tup sima_nil)) sima_nil)) IsL.l)
    (simb_cons (own1 := [3]) (sim_for (ownT := [3]) PassesOwn.never rfl (simi_seq (sim_var (pv 1) (by decide))) (simg_name sc_layers_to.nd rfl (by first | exact .inl rfl | exact .inr rfl)) (simb_cons (own1 := [3]) (sim_set sc_layers_to.nd rfl (by first | exact .inl rfl | exact .inr rfl) sim_dictT0)
    (simb_cons (own1 := [3]) (sim_forD (ownT := [3]) PassesOwn.never rfl (sim_ix (sim_varR (pv 3)) (SimE.r (v_neg (SimE.r sim_int))) (fun _ _ => rfl)) (simg_name sc_layers_to.nd rfl (by first | exact .inl rfl | exact .inr rfl)) (simb_one (sim_for (ownT := [3]) PassesOwn.never rfl (simi_seq (sim_call (gf_rows_for T) (hr.mono (by decide)) (by rfl) (sima_cons (sim_var (pv 0) (by decide)) (sima_cons (v_tup (z_tuple T) (SimF.rr (simf_comp (ownc := [("most", 10), ("one", 11)]) rfl sc_layers_to.nd (own' := [3]) (simi_zip (fun h => RZ.pi_zipA (by rfl) (z_zip T) h) (sim_var (pv 2) (by decide)) (sim_var (pv 6) (by decide))) (blkOk_by (own := [("most", 10), ("one", 11)]) (N := n_layers_to) (sc := defScope st_layers_to) (by decide +kernel)) (fun _ _ _ _ _ => (simg_tup rfl (simgs_cons (simg_name sc_layers_to.nd rfl (by first | exact .inl rfl | exact .inr rfl)) (simgs_cons (simg_name sc_layers_to.nd rfl (by first | exact .inl rfl | exact .inr rfl)) simgs_nil)))) (fun _ _ _ _ _ => simts_nil) (fun _ _ _ _ _ => (v_sub (SimE.r (sim_var (pv 10) (by decide))) (SimE.r (sim_var (pv 11) (by decide)))))))) (sima_cons (sim_var (pv 4) (by decide)) sima_nil))))) (simg_name sc_layers_to.nd rfl (by first | exact .inl rfl | exact .inr rfl)) (simb_cons (own1 := [3]) (sim_par2 (fun h => ps_par rfl sc_layers_to.nd rfl rfl (by decide) rfl rfl h (by with_unfolding_all rfl)) rfl rfl (SimE.x (sim_call (gf_summed T) (hr.mono (by decide)) (by rfl) (sima_cons (sim_var (pv 6) (by decide)) (sima_cons (sim_var (pv 7) (by decide)) sima_nil)))) (SimE.x (v_add (SimE.r (sim_ixA hr (SimE.r (sim_ix (sim_varR (pv 3)) (SimE.r (v_neg (SimE.r sim_int))) (fun _ _ => rfl))) (SimE.r (sim_var (pv 6) (by decide))) (fun _ _ => rfl))) (SimE.r (sim_tup (sima_cons (sim_var (pv 7) (by decide)) sima_nil))))))
    (simb_one (sim_ifS (SimW.t (sim_orW (sim_notInAT hr (opr_notInA hr) (op2_notInA _ op2_notIn) (SimE.r (sim_var (pv 8) (by decide))) (SimE.r (sim_var (pv 5) (by decide))) (by rfl)) (sim_or1 (sim_cmpT (opr_ltA hr) (op2_cmpA _ _) (SimE.r (sim_var (pv 9) (by decide))) (SimE.r (sim_ixA hr (SimE.r (sim_var (pv 5) (by decide))) (SimE.r (sim_var (pv 8) (by decide))) (fun _ _ => rfl))) (nomark _))))) (simb_one (sim_put hr (sim_var (pv 5) (by decide)) (sim_var (pv 8) (by decide)) (sim_var (pv 9) (by decide)))) simb_nil))))))
    (simb_one (sim_dropM (simm_1 (by decide) (fun h => pe_bm PySem.F.plainAttrs_list PySem.F.slot_list_append PySem.F.type_list_append mt_append (pv 3) (pa_cons h pa_nil)) opm_append (SimE.m (sim_var (pv 5) (by decide)))))))))
    (simb_one (sim_pre (own1 := []) (sim_ret (sim_var (pv 3) (by decide)))))))
abbrev n_are_faults : List Str := ["length", "value", "last", "fault", "one"]
theorem sc_are_faults : FnScope n_are_faults ["length", "value"] (defScope st_are_faults) := ⟨rfl, rfl, rfl, by decide +kernel, rfl, by decide +kernel, by decide +kernel⟩
theorem gf_are_faults (T : Txt K mg) : GF P w K mg base 2 "are_faults" 2 m_are_faults := by
  obtain ⟨fd, F⟩ := fd_are_faults T
  refine gf_of (b := b_are_faults) (n := 2) (N := n_are_faults) F (g_are_faults T) sc_are_faults rfl (by decide) (fun _ _ _ _ _ _ us hl => match us, hl with | [_, _], _ => rfl) fun cdv A outer s H E hr => ?_
  exact (simb_cons (own1 := []) (sim_ifS (SimW.t (sim_orW (sim_notT (sim_truth (SimE.r (sim_isi2 (n := "list") (n2 := "tuple") (by rfl) (z_isinstance T) (by rfl) (z_list T) boot_list (by decide) (by rfl) (z_tuple T) boot_tuple (by decide) (SimE.r (sim_var (pv 1) (by decide))))))) (sim_or1 (sim_cmpT op_gt (op2_i2 _) (SimE.r (v_len (z_len T) (SimE.r (sim_var (pv 1) (by decide))))) (SimE.r (sim_gint (by rfl) (z_MOST_FAULTS T))) (nomark _))))) (simb_one (sim_ret sim_bl)) simb_nil)
    (simb_cons (own1 := []) (sim_set sc_are_faults.nd rfl (by first | exact .inl rfl | exact .inr rfl) (v_neg (SimE.r sim_int)))
    (simb_cons (own1 := []) (sim_for (ownT := []) PassesOwn.never rfl (simi_seq (sim_var (pv 1) (by decide))) (simg_name sc_are_faults.nd rfl (by first | exact .inl rfl | exact .inr rfl)) (simb_cons (own1 := []) (sim_ifS (SimW.t (sim_orW (sim_notT (sim_truth (SimE.r (sim_isi (n := "tuple") (by rfl) (z_isinstance T) (by rfl) (z_tuple T) boot_tuple (by decide) (SimE.r (sim_var (pv 3) (by decide))))))) (sim_orW (sim_cmpT (op_neD hr.units) op2_ne (SimE.r (v_len (z_len T) (SimE.r (sim_var (pv 3) (by decide))))) (SimE.r sim_int) (nomark _)) (sim_or1 (sim_notT (sim_truth (SimE.r (v_all (z_all T) (SimF.rr (simf_comp (ownc := [("one", 4)]) rfl sc_are_faults.nd (own' := []) (simi_seq (sim_var (pv 3) (by decide))) (blkOk_by (own := [("one", 4)]) (N := n_are_faults) (sc := defScope st_are_faults) (by decide +kernel)) (fun _ _ _ _ _ => (simg_name sc_are_faults.nd rfl (by first | exact .inl rfl | exact .inr rfl))) (fun _ _ _ _ _ => simts_nil) (fun _ _ _ _ _ => (sim_call (gf_is_whole T) (hr.mono (by decide)) (by rfl) (sima_cons (sim_var (pv 4) (by decide)) sima_nil))))))))))))) (simb_one (sim_ret sim_bl)) simb_nil)
    (simb_cons (own1 := []) (sim_ifS (sim_notT (sim_chain3T (opr_ltA hr) (opr_leA hr) (opr_leA hr) (op2_cmpA _ _) (op2_cmpA _ _) (op2_cmpA _ _) (SimE.r (sim_var (pv 2) (by decide))) (SimE.r (sim_ix (SimE.r (sim_var (pv 3) (by decide))) (SimE.r sim_int) (fun _ _ => rfl))) (SimE.r (sim_ix (SimE.r (sim_var (pv 3) (by decide))) (SimE.r sim_int) (fun _ _ => rfl))) (SimE.r (sim_var (pv 0) (by decide))))) (simb_one (sim_ret sim_bl)) simb_nil)
    (simb_one (sim_set sc_are_faults.nd rfl (by first | exact .inl rfl | exact .inr rfl) (sim_ix (SimE.r (sim_var (pv 3) (by decide))) (SimE.r sim_int) (fun _ _ => rfl)))))))
    (simb_one (sim_ret sim_bl)))))
abbrev n_is_index : List Str := ["value", "many"]
theorem sc_is_index : FnScope n_is_index ["value", "many"] (defScope st_is_index) := ⟨rfl, rfl, rfl, by decide +kernel, rfl, by decide +kernel, by decide +kernel⟩
theorem gf_is_index (T : Txt K mg) : GF P w K mg base 2 "is_index" 2 m_is_index := by
  obtain ⟨fd, F⟩ := fd_is_index T
  refine gf_of (b := b_is_index) (n := 2) (N := n_is_index) F (g_is_index T) sc_is_index rfl (by decide) (fun _ _ _ _ _ _ us hl => match us, hl with | [_, _], _ => rfl) fun cdv A outer s H E hr => ?_
  exact (simb_one (sim_ret (sim_andV (sim_call (gf_is_whole T) (hr.mono (by decide)) (by rfl) (sima_cons (sim_var (pv 0) (by decide)) sima_nil)) (sim_one (sim_chain op_le (opr_ltA hr) (op2_i2 _) (op2_cmpA _ _) (SimE.r sim_int) (SimE.r (sim_var (pv 0) (by decide))) (SimE.r (sim_var (pv 1) (by decide))))))))
abbrev n_need_stock : List Str := ["shop", "stock"]
theorem sc_need_stock : FnScope n_need_stock ["shop", "stock"] (defScope st_need_stock) := ⟨rfl, rfl, rfl, by decide +kernel, rfl, by decide +kernel, by decide +kernel⟩
theorem gf_need_stock (T : Txt K mg) : GF P w K mg base 3 "need_stock" 2 m_need_stock := by
  obtain ⟨fd, F⟩ := fd_need_stock T
  refine gf_of (b := b_need_stock) (n := 2) (N := n_need_stock) F (g_need_stock T) sc_need_stock rfl (by decide) (fun _ _ _ _ _ _ us hl => match us, hl with | [_, _], _ => rfl) fun cdv A outer s H E hr => ?_
  exact (simb_one (sim_ifS (sim_notT (sim_truth (SimE.r (sim_call (gf_is_index T) (hr.mono (by decide)) (by rfl) (sima_cons (sim_var (pv 1) (by decide)) (sima_cons (v_len (z_len T) (SimE.r (sim_attr (sim_var (pv 0) (by decide)) (ato_stocks T)))) sima_nil)))))) (simb_one sim_never) simb_nil))
abbrev n_need_faults : List Str := ["shop", "stock", "faults"]
theorem sc_need_faults : FnScope n_need_faults ["shop", "stock", "faults"] (defScope st_need_faults) := ⟨rfl, rfl, rfl, by decide +kernel, rfl, by decide +kernel, by decide +kernel⟩
theorem gf_need_faults (T : Txt K mg) : GF P w K mg base 4 "need_faults" 3 m_need_faults := by
  obtain ⟨fd, F⟩ := fd_need_faults T
  refine gf_of (b := b_need_faults) (n := 3) (N := n_need_faults) F (g_need_faults T) sc_need_faults rfl (by decide) (fun _ _ _ _ _ _ us hl => match us, hl with | [_, _, _], _ => rfl) fun cdv A outer s H E hr => ?_
  exact (simb_cons (own1 := []) (sim_expr (sim_call (gf_need_stock T) (hr.mono (by decide)) (by rfl) (sima_cons (sim_var (pv 0) (by decide)) (sima_cons (sim_var (pv 1) (by decide)) sima_nil))))
    (simb_cons (own1 := []) (sim_ifS (sim_notT (sim_truth (SimE.r (sim_call (gf_are_faults T) (hr.mono (by decide)) (by rfl) (sima_cons (sim_ix (SimE.r (sim_ix (SimE.r (sim_attr (sim_var (pv 0) (by decide)) (ato_stocks T))) (SimE.r (sim_var (pv 1) (by decide))) (fun _ _ => rfl))) (SimE.r (sim_gint (by rfl) (z_LENGTH_AT T))) (fun _ _ => rfl)) (sima_cons (sim_var (pv 2) (by decide)) sima_nil)))))) (simb_one sim_never) simb_nil)
    (simb_one (sim_ret (v_tup (z_tuple T) (SimE.r (sim_var (pv 2) (by decide))))))))
abbrev n_is_numbers_row : List Str := ["shop", "value", "one"]
theorem sc_is_numbers_row : FnScope n_is_numbers_row ["shop", "value"] (defScope st_is_numbers_row) := ⟨rfl, rfl, rfl, by decide +kernel, rfl, by decide +kernel, by decide +kernel⟩
theorem gf_is_numbers_row (T : Txt K mg) : GF P w K mg base 3 "is_numbers_row" 2 m_is_numbers_row := by
  obtain ⟨fd, F⟩ := fd_is_numbers_row T
  refine gf_of (b := b_is_numbers_row) (n := 2) (N := n_is_numbers_row) F (g_is_numbers_row T) sc_is_numbers_row rfl (by decide) (fun _ _ _ _ _ _ us hl => match us, hl with | [_, _], _ => rfl) fun cdv A outer s H E hr => ?_
  exact (simb_one (sim_ret (sim_andV (sim_isi (n := "tuple") (by rfl) (z_isinstance T) (by rfl) (z_tuple T) boot_tuple (by decide) (SimE.r (sim_var (pv 1) (by decide)))) (sim_andV (sim_cmp (op_eqD hr.units) op2_eq (SimE.r (v_len (z_len T) (SimE.r (sim_var (pv 1) (by decide))))) (SimE.r (v_len (z_len T) (SimE.r (sim_attr (sim_var (pv 0) (by decide)) (ato_pieces T))))) (nomark _)) (sim_one (v_all (z_all T) (SimF.rr (simf_comp (ownc := [("one", 2)]) rfl sc_is_numbers_row.nd (own' := []) (simi_seq (sim_var (pv 1) (by decide))) (blkOk_by (own := [("one", 2)]) (N := n_is_numbers_row) (sc := defScope st_is_numbers_row) (by decide +kernel)) (fun _ _ _ _ _ => (simg_name sc_is_numbers_row.nd rfl (by first | exact .inl rfl | exact .inr rfl))) (fun _ _ _ _ _ => simts_nil) (fun _ _ _ _ _ => (sim_call (gf_is_number T) (hr.mono (by decide)) (by rfl) (sima_cons (sim_var (pv 2) (by decide)) sima_nil)))))))))))
abbrev n_need_pattern : List Str := ["shop", "pattern", "known"]
theorem sc_need_pattern : FnScope n_need_pattern ["shop", "pattern"] (defScope st_need_pattern) := ⟨rfl, rfl, rfl, by decide +kernel, rfl, by decide +kernel, by decide +kernel⟩
theorem gf_need_pattern (T : Txt K mg) : GF P w K mg base 4 "need_pattern" 2 m_need_pattern := by
  obtain ⟨fd, F⟩ := fd_need_pattern T
  refine gf_of (b := b_need_pattern) (n := 2) (N := n_need_pattern) F (g_need_pattern T) sc_need_pattern rfl (by decide) (fun _ _ _ _ _ _ us hl => match us, hl with | [_, _], _ => rfl) fun cdv A outer s H E hr => ?_
  exact (simb_cons (own1 := []) (sim_set sc_need_pattern.nd rfl (by first | exact .inl rfl | exact .inr rfl) (sim_if (sim_truth (SimE.r (sim_isi (n := "list") (by rfl) (z_isinstance T) (by rfl) (z_list T) boot_list (by decide) (SimE.r (sim_var (pv 1) (by decide)))))) (v_tup (z_tuple T) (SimE.r (sim_var (pv 1) (by decide)))) (sim_var (pv 1) (by decide))))
    (simb_cons (own1 := []) (sim_ifS (sim_notT (sim_truth (SimE.r (sim_call (gf_is_numbers_row T) (hr.mono (by decide)) (by rfl) (sima_cons (sim_var (pv 0) (by decide)) (sima_cons (sim_var (pv 2) (by decide)) sima_nil)))))) (simb_one sim_never) simb_nil)
    (simb_one (sim_ret (sim_var (pv 2) (by decide))))))
abbrev n_split : List Str := ["shop", "stock", "faults", "pattern", "known", "target", "layers", "layer"]
theorem sc_split : FnScope n_split ["shop", "stock", "faults", "pattern"] (defScope st_split) := ⟨rfl, rfl, rfl, by decide +kernel, rfl, by decide +kernel, by decide +kernel⟩
theorem gf_split (T : Txt K mg) : GF P w K mg base 15 "split" 4 m_split := by
  obtain ⟨fd, F⟩ := fd_split T
  refine gf_of (b := b_split) (n := 4) (N := n_split) F (g_split T) sc_split rfl (by decide) (fun _ _ _ _ _ _ us hl => match us, hl with | [_, _, _, _], _ => rfl) fun cdv A outer s H E hr => ?_
  exact (simb_cons (own1 := []) (sim_set sc_split.nd rfl (by first | exact .inl rfl | exact .inr rfl) (sim_call (gf_need_faults T) (hr.mono (by decide)) (by rfl) (sima_cons (sim_var (pv 0) (by decide)) (sima_cons (sim_var (pv 1) (by decide)) (sima_cons (sim_var (pv 2) (by decide)) sima_nil)))))
    (simb_cons (own1 := []) (sim_set sc_split.nd rfl (by first | exact .inl rfl | exact .inr rfl) (sim_call (gf_need_pattern T) (hr.mono (by decide)) (by rfl) (sima_cons (sim_var (pv 0) (by decide)) (sima_cons (sim_var (pv 3) (by decide)) sima_nil))))
    (simb_cons (own1 := []) (sim_set sc_split.nd rfl (by first | exact .inl rfl | exact .inr rfl) (sim_call (gf_layers_to T) (hr.mono (by decide)) (by rfl) (sima_cons (sim_var (pv 0) (by decide)) (sima_cons (sim_call (gf_free_by T) (hr.mono (by decide)) (by rfl) (sima_cons (sim_var (pv 0) (by decide)) (sima_cons (sim_var (pv 1) (by decide)) (sima_cons (sim_var (pv 4) (by decide)) sima_nil)))) (sima_cons (sim_var (pv 5) (by decide)) sima_nil)))))
    (simb_cons (own1 := []) (sim_ifS (sim_inAT hr (opr_inA hr) (op2_inA _ op2_in) (SimE.r (sim_var (pv 5) (by decide))) (SimE.r (sim_ix (SimE.r (sim_var (pv 6) (by decide))) (SimE.r (v_neg (SimE.r sim_int))) (fun _ _ => rfl))) (by rfl)) (simb_one (sim_ret (sim_make (gi_Split T) (hr.mono (by decide)) (by rfl) (sima_cons (sim_ixA hr (SimE.r (sim_ix (SimE.r (sim_var (pv 6) (by decide))) (SimE.r (v_neg (SimE.r sim_int))) (fun _ _ => rfl))) (SimE.r (sim_var (pv 5) (by decide))) (fun _ _ => rfl)) sima_nil)))) simb_nil)
    (simb_one (sim_ret (sim_make (gi_Stopped T) (hr.mono (by decide)) (by rfl) (sima_cons (v_tup (z_tuple T) (SimF.rr (simf_comp (ownc := [("layer", 7)]) rfl sc_split.nd (own' := []) (simi_seq (sim_var (pv 6) (by decide))) (blkOk_by (own := [("layer", 7)]) (N := n_split) (sc := defScope st_split) (by decide +kernel)) (fun _ _ _ _ _ => (simg_name sc_split.nd rfl (by first | exact .inl rfl | exact .inr rfl))) (fun _ _ _ _ _ => simts_nil) (fun _ _ _ _ _ => (v_tup (z_tuple T) (SimF.rr (f_sortedS hr (z_sorted T) (SimE.r (sim_var (pv 7) (by decide)))))))))) sima_nil))))))))
abbrev n_size_by : List Str := ["shop", "pattern", "piece", "number"]
theorem sc_size_by : FnScope n_size_by ["shop", "pattern"] (defScope st_size_by) := ⟨rfl, rfl, rfl, by decide +kernel, rfl, by decide +kernel, by decide +kernel⟩
theorem gf_size_by (T : Txt K mg) : GF P w K mg base 2 "size_by" 2 m_size_by := by
  obtain ⟨fd, F⟩ := fd_size_by T
  refine gf_of (b := b_size_by) (n := 2) (N := n_size_by) F (g_size_by T) sc_size_by rfl (by decide) (fun _ _ _ _ _ _ us hl => match us, hl with | [_, _], _ => rfl) fun cdv A outer s H E hr => ?_
  exact (simb_one (sim_ret (v_sumA (z_sum T) (SimF.rr (simf_comp (ownc := [("piece", 2), ("number", 3)]) rfl sc_size_by.nd (own' := []) (simi_enum (by rfl) (z_enumerate T) (sim_var (pv 1) (by decide))) (blkOk_by (own := [("piece", 2), ("number", 3)]) (N := n_size_by) (sc := defScope st_size_by) (by decide +kernel)) (fun _ _ _ _ _ => (simg_tup rfl (simgs_cons (simg_name sc_size_by.nd rfl (by first | exact .inl rfl | exact .inr rfl)) (simgs_cons (simg_name sc_size_by.nd rfl (by first | exact .inl rfl | exact .inr rfl)) simgs_nil)))) (fun _ _ _ _ _ => simts_nil) (fun _ _ _ _ _ => (v_mul (SimE.r (sim_var (pv 3) (by decide))) (SimE.r (sim_call (gf_width_by T) (hr.mono (by decide)) (by rfl) (sima_cons (sim_var (pv 0) (by decide)) (sima_cons (sim_var (pv 2) (by decide)) sima_nil)))))))))))
abbrev n_split_holds : List Str := ["shop", "stock", "faults", "pattern", "value", "lengths", "target", "total", "length", "row"]
theorem sc_split_holds : FnScope n_split_holds ["shop", "stock", "faults", "pattern", "value"] (defScope st_split_holds) := ⟨rfl, rfl, rfl, by decide +kernel, rfl, by decide +kernel, by decide +kernel⟩
theorem gf_split_holds (T : Txt K mg) : GF P w K mg base 5 "split_holds" 5 m_split_holds := by
  obtain ⟨fd, F⟩ := fd_split_holds T
  refine gf_of (b := b_split_holds) (n := 5) (N := n_split_holds) F (g_split_holds T) sc_split_holds rfl (by decide) (fun _ _ _ _ _ _ us hl => match us, hl with | [_, _, _, _, _], _ => rfl) fun cdv A outer s H E hr => ?_
  exact (simb_cons (own1 := []) (sim_set sc_split_holds.nd rfl (by first | exact .inl rfl | exact .inr rfl) (sim_call (gf_free_by T) (hr.mono (by decide)) (by rfl) (sima_cons (sim_var (pv 0) (by decide)) (sima_cons (sim_var (pv 1) (by decide)) (sima_cons (sim_call (gf_need_faults T) (hr.mono (by decide)) (by rfl) (sima_cons (sim_var (pv 0) (by decide)) (sima_cons (sim_var (pv 1) (by decide)) (sima_cons (sim_var (pv 2) (by decide)) sima_nil)))) sima_nil)))))
    (simb_cons (own1 := []) (sim_set sc_split_holds.nd rfl (by first | exact .inl rfl | exact .inr rfl) (sim_call (gf_need_pattern T) (hr.mono (by decide)) (by rfl) (sima_cons (sim_var (pv 0) (by decide)) (sima_cons (sim_var (pv 3) (by decide)) sima_nil))))
    (simb_cons (own1 := []) (sim_ifS (SimW.t (sim_orW (sim_notT (sim_truth (SimE.r (sim_isC (clsok T) (by decide +kernel) (by rfl) (z_isinstance T) (by rfl) (sim_var (pv 4) (by decide)))))) (sim_orW (sim_notT (sim_truth (SimE.r (sim_isi (n := "tuple") (by rfl) (z_isinstance T) (by rfl) (z_tuple T) boot_tuple (by decide) (SimE.r (sim_attr (sim_var (pv 4) (by decide)) (ato_patterns T))))))) (sim_or1 (sim_cmpT (op_neD hr.units) op2_ne (SimE.r (v_len (z_len T) (SimE.r (sim_attr (sim_var (pv 4) (by decide)) (ato_patterns T))))) (SimE.r (v_len (z_len T) (SimE.r (sim_var (pv 5) (by decide))))) (nomark _)))))) (simb_one (sim_ret sim_bl)) simb_nil)
    (simb_cons (own1 := []) (sim_set sc_split_holds.nd rfl (by first | exact .inl rfl | exact .inr rfl) (v_mul (SimE.r (sim_tup (sima_cons sim_int sima_nil))) (SimE.r (v_len (z_len T) (SimE.r (sim_var (pv 6) (by decide)))))))
    (simb_cons (own1 := []) (sim_for (ownT := []) PassesOwn.never rfl (simi_zip (fun h => RZ.pi_zipA (by rfl) (z_zip T) h) (sim_var (pv 5) (by decide)) (sim_attr (sim_var (pv 4) (by decide)) (ato_patterns T))) (simg_tup rfl (simgs_cons (simg_name sc_split_holds.nd rfl (by first | exact .inl rfl | exact .inr rfl)) (simgs_cons (simg_name sc_split_holds.nd rfl (by first | exact .inl rfl | exact .inr rfl)) simgs_nil))) (simb_cons (own1 := []) (sim_ifS (SimW.t (sim_orW (sim_notT (sim_truth (SimE.r (sim_call (gf_is_numbers_row T) (hr.mono (by decide)) (by rfl) (sima_cons (sim_var (pv 0) (by decide)) (sima_cons (sim_var (pv 9) (by decide)) sima_nil)))))) (sim_or1 (SimW.t (sim_andW (sim_truth (SimE.r (v_any (z_any T) (SimE.r (sim_var (pv 9) (by decide)))))) (sim_and1 (sim_cmpT op_gt (op2_i2 _) (SimE.r (sim_call (gf_size_by T) (hr.mono (by decide)) (by rfl) (sima_cons (sim_var (pv 0) (by decide)) (sima_cons (sim_var (pv 9) (by decide)) sima_nil)))) (SimE.r (v_add (SimE.r (sim_var (pv 8) (by decide))) (SimE.r (sim_attr (sim_var (pv 0) (by decide)) (ato_kerf T))))) (nomark _)))))))) (simb_one (sim_ret sim_bl)) simb_nil)
    (simb_one (sim_set sc_split_holds.nd rfl (by first | exact .inl rfl | exact .inr rfl) (sim_call (gf_summed T) (hr.mono (by decide)) (by rfl) (sima_cons (sim_var (pv 7) (by decide)) (sima_cons (sim_var (pv 9) (by decide)) sima_nil)))))))
    (simb_one (sim_ret (sim_cmp (op_eqD hr.units) op2_eq (SimE.r (sim_var (pv 7) (by decide))) (SimE.r (sim_var (pv 6) (by decide))) (nomark _)))))))))
abbrev n_are_rows : List Str := ["shop", "value", "at", "row"]
theorem sc_are_rows : FnScope n_are_rows ["shop", "value"] (defScope st_are_rows) := ⟨rfl, rfl, rfl, by decide +kernel, rfl, by decide +kernel, by decide +kernel⟩
theorem gf_are_rows (T : Txt K mg) : GF P w K mg base 4 "are_rows" 2 m_are_rows := by
  obtain ⟨fd, F⟩ := fd_are_rows T
  refine gf_of (b := b_are_rows) (n := 2) (N := n_are_rows) F (g_are_rows T) sc_are_rows rfl (by decide) (fun _ _ _ _ _ _ us hl => match us, hl with | [_, _], _ => rfl) fun cdv A outer s H E hr => ?_
  exact (simb_cons (own1 := []) (sim_ifS (SimW.t (sim_orW (sim_notT (sim_truth (SimE.r (sim_isi (n := "tuple") (by rfl) (z_isinstance T) (by rfl) (z_tuple T) boot_tuple (by decide) (SimE.r (sim_var (pv 1) (by decide))))))) (sim_or1 (sim_notT (sim_truth (SimE.r (v_all (z_all T) (SimF.rr (simf_comp (ownc := [("row", 3)]) rfl sc_are_rows.nd (own' := []) (simi_seq (sim_var (pv 1) (by decide))) (blkOk_by (own := [("row", 3)]) (N := n_are_rows) (sc := defScope st_are_rows) (by decide +kernel)) (fun _ _ _ _ _ => (simg_name sc_are_rows.nd rfl (by first | exact .inl rfl | exact .inr rfl))) (fun _ _ _ _ _ => simts_nil) (fun _ _ _ _ _ => (sim_call (gf_is_numbers_row T) (hr.mono (by decide)) (by rfl) (sima_cons (sim_var (pv 0) (by decide)) (sima_cons (sim_var (pv 3) (by decide)) sima_nil))))))))))))) (simb_one (sim_ret sim_bl)) simb_nil)
    (simb_one (sim_ret (v_all (z_all T) (SimF.rr (simf_comp (ownc := [("at", 2)]) rfl sc_are_rows.nd (own' := []) (simi_range1 (by rfl) (z_range T) (sima_cons (v_sub (SimE.r (v_len (z_len T) (SimE.r (sim_var (pv 1) (by decide))))) (SimE.r sim_int)) sima_nil)) (blkOk_by (own := [("at", 2)]) (N := n_are_rows) (sc := defScope st_are_rows) (by decide +kernel)) (fun _ _ _ _ _ => (simg_name sc_are_rows.nd rfl (by first | exact .inl rfl | exact .inr rfl))) (fun _ _ _ _ _ => simts_nil) (fun _ _ _ _ _ => (sim_cmp (opr_ltA hr) (op2_cmpA _ _) (SimE.r (sim_ix (SimE.r (sim_var (pv 1) (by decide))) (SimE.r (sim_var (pv 2) (by decide))) (fun _ _ => rfl))) (SimE.r (sim_ix (SimE.r (sim_var (pv 1) (by decide))) (SimE.r (v_add (SimE.r (sim_var (pv 2) (by decide))) (SimE.r sim_int))) (fun _ _ => rfl))) (nomark _)))))))))
abbrev n_is_below : List Str := ["row", "target", "one", "most"]
theorem sc_is_below : FnScope n_is_below ["row", "target"] (defScope st_is_below) := ⟨rfl, rfl, rfl, by decide +kernel, rfl, by decide +kernel, by decide +kernel⟩
theorem gf_is_below (T : Txt K mg) : GF P w K mg base 1 "is_below" 2 m_is_below := by
  obtain ⟨fd, F⟩ := fd_is_below T
  refine gf_of (b := b_is_below) (n := 2) (N := n_is_below) F (g_is_below T) sc_is_below rfl (by decide) (fun _ _ _ _ _ _ us hl => match us, hl with | [_, _], _ => rfl) fun cdv A outer s H E hr => ?_
  exact (simb_one (sim_ret (v_all (z_all T) (SimF.rr (simf_comp (ownc := [("one", 2), ("most", 3)]) rfl sc_is_below.nd (own' := []) (simi_zip (fun h => RZ.pi_zipA (by rfl) (z_zip T) h) (sim_var (pv 0) (by decide)) (sim_var (pv 1) (by decide))) (blkOk_by (own := [("one", 2), ("most", 3)]) (N := n_is_below) (sc := defScope st_is_below) (by decide +kernel)) (fun _ _ _ _ _ => (simg_tup rfl (simgs_cons (simg_name sc_is_below.nd rfl (by first | exact .inl rfl | exact .inr rfl)) (simgs_cons (simg_name sc_is_below.nd rfl (by first | exact .inl rfl | exact .inr rfl)) simgs_nil)))) (fun _ _ _ _ _ => simts_nil) (fun _ _ _ _ _ => (sim_cmp (opr_leA hr) (op2_cmpA _ _) (SimE.r (sim_var (pv 2) (by decide))) (SimE.r (sim_var (pv 3) (by decide))) (nomark _))))))))
abbrev n_rows_within : List Str := ["shop", "room", "rows", "piece", "longer", "width", "row", "left", "number"]
theorem sc_rows_within : FnScope n_rows_within ["shop", "room"] (defScope st_rows_within) := ⟨rfl, rfl, rfl, by decide +kernel, rfl, by decide +kernel, by decide +kernel⟩
theorem gf_rows_within (T : Txt K mg) : GF P w K mg base 2 "rows_within" 2 m_rows_within := by
  obtain ⟨fd, F⟩ := fd_rows_within T
  refine gf_of (b := b_rows_within) (n := 2) (N := n_rows_within) F (g_rows_within T) sc_rows_within rfl (by decide) (fun _ _ _ _ _ _ us hl => match us, hl with | [_, _], _ => rfl) fun cdv A outer s H E hr => ?_
  exact (simb_cons (own1 := [2]) (sim_setF sc_rows_within.nd rfl (by first | exact .inl rfl | exact .inr rfl) (sim_lst (sima_cons (sim_tup (sima_cons (sim_tup sima_nil) (sima_cons (sim_var (pv 1) (by decide)) sima_nil))) sima_nil)) IsL.l)
    (simb_cons (own1 := []) (sim_pre (own1 := []) (sim_for (ownT := []) PassesOwn.never rfl (simi_range1 (by rfl) (z_range T) (sima_cons (v_len (z_len T) (SimE.r (sim_attr (sim_var (pv 0) (by decide)) (ato_pieces T)))) sima_nil)) (simg_name sc_rows_within.nd rfl (by first | exact .inl rfl | exact .inr rfl)) (simb_cons (own1 := [4]) (sim_tpar2 rfl sc_rows_within.nd rfl (by first | exact .inl rfl | exact .inr rfl) rfl (by first | exact .inl rfl | exact .inr rfl) (SimF.xx (sim_lst sima_nil)) (SimE.x (sim_call (gf_width_by T) (hr.mono (by decide)) (by rfl) (sima_cons (sim_var (pv 0) (by decide)) (sima_cons (sim_var (pv 3) (by decide)) sima_nil)))))
    (simb_cons (own1 := [4]) (sim_for (ownT := [4]) PassesOwn.never rfl (simi_seq (sim_var (pv 2) (by decide))) (simg_tup rfl (simgs_cons (simg_name sc_rows_within.nd rfl (by first | exact .inl rfl | exact .inr rfl)) (simgs_cons (simg_name sc_rows_within.nd rfl (by first | exact .inl rfl | exact .inr rfl)) simgs_nil))) (simb_one (sim_dropM (simm_1 (by decide) (fun h => pe_bm PySem.F.plainAttrs_list PySem.F.slot_list_extend PySem.F.type_list_extend mt_extend (pv 4) (pa_cons h pa_nil)) opm_extend (SimE.m (SimF.ee (simf_comp (ownc := [("number", 8)]) rfl sc_rows_within.nd (own' := [4]) (simi_range1 (by rfl) (z_range T) (sima_cons (v_add (SimE.r (v_fdiv (SimE.r (sim_var (pv 7) (by decide))) (SimE.r (sim_var (pv 5) (by decide))))) (SimE.r sim_int)) sima_nil)) (blkOk_by (own := [("number", 8)]) (N := n_rows_within) (sc := defScope st_rows_within) (by decide +kernel)) (fun _ _ _ _ _ => (simg_name sc_rows_within.nd rfl (by first | exact .inl rfl | exact .inr rfl))) (fun _ _ _ _ _ => simts_nil) (fun _ _ _ _ _ => (sim_tup (sima_cons (sim_tup (sima_star (SimE.r (sim_var (pv 6) (by decide))) (sima_cons (sim_var (pv 8) (by decide)) sima_nil))) (sima_cons (v_sub (SimE.r (sim_var (pv 7) (by decide))) (SimE.r (v_mul (SimE.r (sim_var (pv 8) (by decide))) (SimE.r (sim_var (pv 5) (by decide)))))) sima_nil)))))))))))
    (simb_one (sim_pre (own1 := []) (sim_set sc_rows_within.nd rfl (by first | exact .inl rfl | exact .inr rfl) (sim_var (pv 4) (by decide)))))))))
    (simb_one (sim_ret (SimF.ee (simf_comp (ownc := [("row", 6), ("left", 7)]) rfl sc_rows_within.nd (own' := []) (simi_seq (sim_var (pv 2) (by decide))) (blkOk_by (own := [("row", 6), ("left", 7)]) (N := n_rows_within) (sc := defScope st_rows_within) (by decide +kernel)) (fun _ _ _ _ _ => (simg_tup rfl (simgs_cons (simg_name sc_rows_within.nd rfl (by first | exact .inl rfl | exact .inr rfl)) (simgs_cons (simg_name sc_rows_within.nd rfl (by first | exact .inl rfl | exact .inr rfl)) simgs_nil)))) (fun _ _ _ _ _ => simts_nil) (fun _ _ _ _ _ => (sim_var (pv 6) (by decide)))))))))
abbrev n_stopped_holds : List Str := ["shop", "stock", "faults", "pattern", "value", "lengths", "target", "at", "length", "rows", "row", "later", "layer", "more", "one"]
theorem sc_stopped_holds : FnScope n_stopped_holds ["shop", "stock", "faults", "pattern", "value"] (defScope st_stopped_holds) := ⟨rfl, rfl, rfl, by decide +kernel, rfl, by decide +kernel, by decide +kernel⟩
theorem gf_stopped_holds (T : Txt K mg) : GF P w K mg base 5 "stopped_holds" 5 m_stopped_holds := by
  obtain ⟨fd, F⟩ := fd_stopped_holds T
  refine gf_of (b := b_stopped_holds) (n := 5) (N := n_stopped_holds) F (g_stopped_holds T) sc_stopped_holds rfl (by decide) (fun _ _ _ _ _ _ us hl => match us, hl with | [_, _, _, _, _], _ => rfl) fun cdv A outer s H E hr => ?_
  exact (simb_cons (own1 := []) (sim_set sc_stopped_holds.nd rfl (by first | exact .inl rfl | exact .inr rfl) (sim_call (gf_free_by T) (hr.mono (by decide)) (by rfl) (sima_cons (sim_var (pv 0) (by decide)) (sima_cons (sim_var (pv 1) (by decide)) (sima_cons (sim_call (gf_need_faults T) (hr.mono (by decide)) (by rfl) (sima_cons (sim_var (pv 0) (by decide)) (sima_cons (sim_var (pv 1) (by decide)) (sima_cons (sim_var (pv 2) (by decide)) sima_nil)))) sima_nil)))))
    (simb_cons (own1 := []) (sim_set sc_stopped_holds.nd rfl (by first | exact .inl rfl | exact .inr rfl) (sim_call (gf_need_pattern T) (hr.mono (by decide)) (by rfl) (sima_cons (sim_var (pv 0) (by decide)) (sima_cons (sim_var (pv 3) (by decide)) sima_nil))))
    (simb_cons (own1 := []) (sim_ifS (SimW.t (sim_orW (sim_notT (sim_truth (SimE.r (sim_isC (clsok T) (by decide +kernel) (by rfl) (z_isinstance T) (by rfl) (sim_var (pv 4) (by decide)))))) (sim_orW (sim_notT (sim_truth (SimE.r (sim_isi (n := "tuple") (by rfl) (z_isinstance T) (by rfl) (z_tuple T) boot_tuple (by decide) (SimE.r (sim_attr (sim_var (pv 4) (by decide)) (ato_layers T))))))) (sim_or1 (sim_cmpT (op_neD hr.units) op2_ne (SimE.r (v_len (z_len T) (SimE.r (sim_attr (sim_var (pv 4) (by decide)) (ato_layers T))))) (SimE.r (v_add (SimE.r (v_len (z_len T) (SimE.r (sim_var (pv 5) (by decide))))) (SimE.r sim_int))) (nomark _)))))) (simb_one (sim_ret sim_bl)) simb_nil)
    (simb_cons (own1 := []) (sim_ifS (sim_notT (sim_truth (SimE.r (v_all (z_all T) (SimF.rr (simf_comp (ownc := [("layer", 12)]) rfl sc_stopped_holds.nd (own' := []) (simi_seq (sim_attr (sim_var (pv 4) (by decide)) (ato_layers T))) (blkOk_by (own := [("layer", 12)]) (N := n_stopped_holds) (sc := defScope st_stopped_holds) (by decide +kernel)) (fun _ _ _ _ _ => (simg_name sc_stopped_holds.nd rfl (by first | exact .inl rfl | exact .inr rfl))) (fun _ _ _ _ _ => simts_nil) (fun _ _ _ _ _ => (sim_call (gf_are_rows T) (hr.mono (by decide)) (by rfl) (sima_cons (sim_var (pv 0) (by decide)) (sima_cons (sim_var (pv 12) (by decide)) sima_nil)))))))))) (simb_one (sim_ret sim_bl)) simb_nil)
    (simb_cons (own1 := []) (sim_ifS (SimW.t (sim_orW (sim_cmpT (opr_notInA hr) (op2_notInA _ op2_notIn) (SimE.r (v_mul (SimE.r (sim_tup (sima_cons sim_int sima_nil))) (SimE.r (v_len (z_len T) (SimE.r (sim_var (pv 6) (by decide))))))) (SimE.r (sim_ix (SimE.r (sim_attr (sim_var (pv 4) (by decide)) (ato_layers T))) (SimE.r sim_int) (fun _ _ => rfl))) (by rfl)) (sim_or1 (sim_cmpT (opr_inA hr) (op2_inA _ op2_in) (SimE.r (sim_var (pv 6) (by decide))) (SimE.r (sim_ix (SimE.r (sim_attr (sim_var (pv 4) (by decide)) (ato_layers T))) (SimE.r (v_neg (SimE.r sim_int))) (fun _ _ => rfl))) (by rfl))))) (simb_one (sim_ret sim_bl)) simb_nil)
    (simb_cons (own1 := []) (sim_for (ownT := []) PassesOwn.never rfl (simi_enum (by rfl) (z_enumerate T) (sim_var (pv 5) (by decide))) (simg_tup rfl (simgs_cons (simg_name sc_stopped_holds.nd rfl (by first | exact .inl rfl | exact .inr rfl)) (simgs_cons (simg_name sc_stopped_holds.nd rfl (by first | exact .inl rfl | exact .inr rfl)) simgs_nil))) (simb_cons (own1 := []) (sim_set sc_stopped_holds.nd rfl (by first | exact .inl rfl | exact .inr rfl) (sim_call (gf_rows_within T) (hr.mono (by decide)) (by rfl) (sima_cons (sim_var (pv 0) (by decide)) (sima_cons (v_add (SimE.r (sim_var (pv 8) (by decide))) (SimE.r (sim_attr (sim_var (pv 0) (by decide)) (ato_kerf T)))) sima_nil))))
    (simb_one (sim_for (ownT := []) PassesOwn.never rfl (simi_seq (sim_ix (SimE.r (sim_attr (sim_var (pv 4) (by decide)) (ato_layers T))) (SimE.r (sim_var (pv 7) (by decide))) (fun _ _ => rfl))) (simg_name sc_stopped_holds.nd rfl (by first | exact .inl rfl | exact .inr rfl)) (simb_cons (own1 := [11]) (sim_setLc (own' := []) (ownc := [("more", 13)]) rfl sc_stopped_holds.nd rfl rfl (sw_true rfl rfl rfl (by decide +kernel)) (simi_seq (sim_var (pv 9) (by decide))) (blkOk_by (own := [("more", 13)]) (N := n_stopped_holds) (sc := defScope st_stopped_holds) (by decide +kernel)) (fun _ _ _ _ _ => (simg_name sc_stopped_holds.nd rfl (by first | exact .inl rfl | exact .inr rfl))) (fun _ _ _ _ _ => simts_nil) (fun _ _ _ _ _ => (sim_call (gf_summed T) (hr.mono (by decide)) (by rfl) (sima_cons (sim_var (pv 10) (by decide)) (sima_cons (sim_var (pv 13) (by decide)) sima_nil)))))
    (simb_one (sim_pre (own1 := []) (sim_ifS (sim_truth (SimE.r (v_any (z_any T) (SimF.rr (simf_comp (ownc := [("one", 14)]) rfl sc_stopped_holds.nd (own' := []) (simi_seq (sim_var (pv 11) (by decide))) (blkOk_by (own := [("one", 14)]) (N := n_stopped_holds) (sc := defScope st_stopped_holds) (by decide +kernel)) (fun _ _ _ _ _ => (simg_name sc_stopped_holds.nd rfl (by first | exact .inl rfl | exact .inr rfl))) (fun _ _ _ _ _ => simts_nil) (fun _ _ _ _ _ => (sim_andV (sim_call (gf_is_below T) (hr.mono (by decide)) (by rfl) (sima_cons (sim_var (pv 14) (by decide)) (sima_cons (sim_var (pv 6) (by decide)) sima_nil))) (sim_one (sim_cmp (opr_notInA hr) (op2_notInA _ op2_notIn) (SimE.r (sim_var (pv 14) (by decide))) (SimE.r (sim_ix (SimE.r (sim_attr (sim_var (pv 4) (by decide)) (ato_layers T))) (SimE.r (v_add (SimE.r (sim_var (pv 7) (by decide))) (SimE.r sim_int))) (fun _ _ => rfl))) (by rfl)))))))))) (simb_one (sim_ret sim_bl)) simb_nil))))))))
    (simb_one (sim_ret sim_bl))))))))
abbrev n_Split_eq : List Str := ["self", "other"]
theorem sc_Split_eq : FnScope n_Split_eq ["self", "other"] (defScope st_Split_eq) := ⟨rfl, rfl, rfl, by decide +kernel, rfl, by decide +kernel, by decide +kernel⟩
theorem gm_Split_eq (T : Txt K mg) : GM P w K mg base 1 "Split" "__eq__" m_Split_eq := by
  obtain ⟨fd, F⟩ := fd_Split_eq T
  have M : Meth K (He.ga K "Split") "__eq__" (He.ma K (He.ga K "Split") "__eq__") := let ⟨_, X, G, c, _⟩ := T.ex; He.meth_ok (c.fact 88 (f := .meth "Split" "__eq__") rfl)
  refine gm_of (b := b_Split_eq) (N := n_Split_eq) F M sc_Split_eq rfl (by decide) (fun _ _ _ _ _ _ us hl => match us, hl with | [_, _], _ => rfl) fun cdv A outer s H E hr => ?_
  exact (simb_one (sim_ret (sim_andV (sim_isC (clsok T) (by decide +kernel) (by rfl) (z_isinstance T) (by rfl) (sim_var (pv 1) (by decide))) (sim_one (sim_cmp (op_eqD hr.units) op2_eq (SimE.r (sim_attr (sim_var (pv 0) (by decide)) (ato_patterns T))) (SimE.r (sim_attr (sim_var (pv 1) (by decide)) (ato_patterns T))) (nomark _))))))
abbrev n_Split_ne : List Str := ["self", "other"]
theorem sc_Split_ne : FnScope n_Split_ne ["self", "other"] (defScope st_Split_ne) := ⟨rfl, rfl, rfl, by decide +kernel, rfl, by decide +kernel, by decide +kernel⟩
theorem gm_Split_ne (T : Txt K mg) : GM P w K mg base 2 "Split" "__ne__" m_Split_ne := by
  obtain ⟨fd, F⟩ := fd_Split_ne T
  have M : Meth K (He.ga K "Split") "__ne__" (He.ma K (He.ga K "Split") "__ne__") := let ⟨_, X, G, c, _⟩ := T.ex; He.meth_ok (c.fact 89 (f := .meth "Split" "__ne__") rfl)
  refine gm_of (b := b_Split_ne) (N := n_Split_ne) F M sc_Split_ne rfl (by decide) (fun _ _ _ _ _ _ us hl => match us, hl with | [_, _], _ => rfl) fun cdv A outer s H E hr => ?_
  exact (simb_one (sim_ret (sim_notV (SimE.r (sim_own (clsok T) (eqok T) (by decide +kernel) rfl (gm_Split_eq T) (hr.mono (by decide)) (sim_var (pv 0) (by decide)) (sim_var (pv 1) (by decide)) (nomark _))))))
abbrev n_Stopped_eq : List Str := ["self", "other"]
theorem sc_Stopped_eq : FnScope n_Stopped_eq ["self", "other"] (defScope st_Stopped_eq) := ⟨rfl, rfl, rfl, by decide +kernel, rfl, by decide +kernel, by decide +kernel⟩
theorem gm_Stopped_eq (T : Txt K mg) : GM P w K mg base 1 "Stopped" "__eq__" m_Stopped_eq := by
  obtain ⟨fd, F⟩ := fd_Stopped_eq T
  have M : Meth K (He.ga K "Stopped") "__eq__" (He.ma K (He.ga K "Stopped") "__eq__") := let ⟨_, X, G, c, _⟩ := T.ex; He.meth_ok (c.fact 90 (f := .meth "Stopped" "__eq__") rfl)
  refine gm_of (b := b_Stopped_eq) (N := n_Stopped_eq) F M sc_Stopped_eq rfl (by decide) (fun _ _ _ _ _ _ us hl => match us, hl with | [_, _], _ => rfl) fun cdv A outer s H E hr => ?_
  exact (simb_one (sim_ret (sim_andV (sim_isC (clsok T) (by decide +kernel) (by rfl) (z_isinstance T) (by rfl) (sim_var (pv 1) (by decide))) (sim_one (sim_cmp (op_eqD hr.units) op2_eq (SimE.r (sim_attr (sim_var (pv 0) (by decide)) (ato_layers T))) (SimE.r (sim_attr (sim_var (pv 1) (by decide)) (ato_layers T))) (nomark _))))))
abbrev n_Stopped_ne : List Str := ["self", "other"]
theorem sc_Stopped_ne : FnScope n_Stopped_ne ["self", "other"] (defScope st_Stopped_ne) := ⟨rfl, rfl, rfl, by decide +kernel, rfl, by decide +kernel, by decide +kernel⟩
theorem gm_Stopped_ne (T : Txt K mg) : GM P w K mg base 2 "Stopped" "__ne__" m_Stopped_ne := by
  obtain ⟨fd, F⟩ := fd_Stopped_ne T
  have M : Meth K (He.ga K "Stopped") "__ne__" (He.ma K (He.ga K "Stopped") "__ne__") := let ⟨_, X, G, c, _⟩ := T.ex; He.meth_ok (c.fact 91 (f := .meth "Stopped" "__ne__") rfl)
  refine gm_of (b := b_Stopped_ne) (N := n_Stopped_ne) F M sc_Stopped_ne rfl (by decide) (fun _ _ _ _ _ _ us hl => match us, hl with | [_, _], _ => rfl) fun cdv A outer s H E hr => ?_
  exact (simb_one (sim_ret (sim_notV (SimE.r (sim_own (clsok T) (eqok T) (by decide +kernel) rfl (gm_Stopped_eq T) (hr.mono (by decide)) (sim_var (pv 0) (by decide)) (sim_var (pv 1) (by decide)) (nomark _))))))
abbrev n_law : List Str := ["script", "pen", "lap", "shop", "made", "length", "faults", "rows", "row", "at", "paper", "turn", "bent", "asked", "there", "lengths", "one", "two"]
theorem sc_law : FnScope n_law ["script"] (defScope st_law) := ⟨rfl, rfl, rfl, by decide +kernel, rfl, by decide +kernel, by decide +kernel⟩
theorem fo_law (T : Txt K mg) {fd : FuncData} (F : FunD K "law" "law" (defArgs st_law) (defBody st_law) (defScope st_law) [] [] (He.fAd K ("law", none)) fd) : FnOk P w K mg base CX0 16 (He.fAd K ("law", none)) fd ["script"] (spOf K mg 1 m_law) := by
  refine fo_of (b := b_law) (n := 1) (N := n_law) F sc_law rfl (by decide) fun cdv A outer s H E hr => ?_
  exact (simb_cons (own1 := []) (sim_set sc_law.nd rfl (by first | exact .inl rfl | exact .inr rfl) (sim_call (gf__law_pen T) (hr.mono (by decide)) (by rfl) (sima_cons (sim_var (pv 0) (by decide)) sima_nil)))
    (simb_cons (own1 := []) (sim_for (ownT := []) PassesOwn.never rfl (simi_range1 (by rfl) (z_range T) (sima_cons sim_int sima_nil)) (simg_name sc_law.nd rfl (by first | exact .inl rfl | exact .inr rfl)) (simb_cons (own1 := []) (sim_set sc_law.nd rfl (by first | exact .inl rfl | exact .inr rfl) (sim_call (gf__law_few_shop T) (hr.mono (by decide)) (by rfl) (sima_cons (sim_var (pv 1) (by decide)) (sima_cons sim_int (sima_cons sim_int sima_nil)))))
    (simb_cons (own1 := []) (sim_par2 (fun h => ps_par rfl sc_law.nd rfl rfl (by decide) rfl rfl h (by with_unfolding_all rfl)) rfl rfl (SimE.x (sim_call (gf__law_made T) (hr.mono (by decide)) (by rfl) (sima_cons (sim_var (pv 3) (by decide)) sima_nil))) (SimE.x (sim_ix (SimE.r (sim_ix (SimE.r (sim_ix (SimE.r (sim_var (pv 3) (by decide))) (SimE.r sim_int) (fun _ _ => rfl))) (SimE.r sim_int) (fun _ _ => rfl))) (SimE.r sim_int) (fun _ _ => rfl))))
    (simb_cons (own1 := []) (sim_set sc_law.nd rfl (by first | exact .inl rfl | exact .inr rfl) (sim_call (gf__law_drawn_faults T) (hr.mono (by decide)) (by rfl) (sima_cons (sim_var (pv 1) (by decide)) (sima_cons (sim_var (pv 5) (by decide)) sima_nil))))
    (simb_cons (own1 := []) (sim_set sc_law.nd rfl (by first | exact .inl rfl | exact .inr rfl) (sim_callD (gf__law_out T) (hr.mono (by decide)) (by rfl) (sima_cons (sim_var (pv 3) (by decide)) (sima_cons (sim_call (gf__law_free T) (hr.mono (by decide)) (by rfl) (sima_cons (sim_var (pv 5) (by decide)) (sima_cons (sim_var (pv 6) (by decide)) sima_nil))) sima_nil))))
    (simb_cons (own1 := []) (sim_set sc_law.nd rfl (by first | exact .inl rfl | exact .inr rfl) (sim_call (gf__law_pick T) (hr.mono (by decide)) (by rfl) (sima_cons (sim_var (pv 1) (by decide)) (sima_cons (sim_var (pv 7) (by decide)) sima_nil))))
    (simb_cons (own1 := []) (sim_set sc_law.nd rfl (by first | exact .inl rfl | exact .inr rfl) (sim_call (gf__law_draw T) (hr.mono (by decide)) (by rfl) (sima_cons (sim_var (pv 1) (by decide)) (sima_cons (v_len (z_len T) (SimE.r (sim_var (pv 8) (by decide)))) sima_nil))))
    (simb_cons (own1 := []) (sim_set sc_law.nd rfl (by first | exact .inl rfl | exact .inr rfl) (sim_call (gf__law_pick T) (hr.mono (by decide)) (by rfl) (sima_cons (sim_var (pv 1) (by decide)) (sima_cons (SimF.ee (sim_lst (sima_cons (sim_var (pv 8) (by decide)) (sima_cons (v_add (SimE.r (v_add (SimE.r (sim_slice (SimE.r (sim_var (pv 8) (by decide))) sim_noPart (sim_part (sim_var (pv 9) (by decide))))) (SimE.r (sim_tup (sima_cons (v_add (SimE.r (sim_ix (SimE.r (sim_var (pv 8) (by decide))) (SimE.r (sim_var (pv 9) (by decide))) (fun _ _ => rfl))) (SimE.r sim_int)) sima_nil))))) (SimE.r (sim_slice (SimE.r (sim_var (pv 8) (by decide))) (sim_part (v_add (SimE.r (sim_var (pv 9) (by decide))) (SimE.r sim_int))) sim_noPart))) sima_nil)))) sima_nil))))
    (simb_cons (own1 := []) (sim_set sc_law.nd rfl (by first | exact .inl rfl | exact .inr rfl) (sim_callD (gf_split T) (hr.mono (by decide)) (by rfl) (sima_cons (sim_var (pv 4) (by decide)) (sima_cons sim_int (sima_cons (sim_var (pv 6) (by decide)) (sima_cons (sim_var (pv 8) (by decide)) sima_nil))))))
    (simb_one (sim_for (ownT := []) PassesOwn.never rfl (simi_range1 (by rfl) (z_range T) (sima_cons sim_int sima_nil)) (simg_name sc_law.nd rfl (by first | exact .inl rfl | exact .inr rfl)) (simb_cons (own1 := []) (sim_set sc_law.nd rfl (by first | exact .inl rfl | exact .inr rfl) (sim_if (sim_cmpT (op_eqD hr.units) op2_eq (SimE.r (sim_var (pv 11) (by decide))) (SimE.r sim_int) (nomark _)) (sim_var (pv 10) (by decide)) (sim_call (gf__law_bent T) (hr.mono (by decide)) (by rfl) (sima_cons (sim_var (pv 1) (by decide)) (sima_cons (sim_var (pv 3) (by decide)) (sima_cons (sim_var (pv 10) (by decide)) sima_nil))))))
    (simb_cons (own1 := []) (sim_par2 (fun h => ps_par rfl sc_law.nd rfl rfl (by decide) rfl rfl h (by with_unfolding_all rfl)) rfl rfl (SimE.x (sim_call (gf__law_pick T) (hr.mono (by decide)) (by rfl) (sima_cons (sim_var (pv 1) (by decide)) (sima_cons (SimF.ee (sim_lst (sima_cons (sim_var (pv 8) (by decide)) (sima_cons (sim_var (pv 8) (by decide)) (sima_cons (sim_var (pv 8) (by decide)) (sima_cons (sim_call (gf__law_pick T) (hr.mono (by decide)) (by rfl) (sima_cons (sim_var (pv 1) (by decide)) (sima_cons (sim_var (pv 7) (by decide)) sima_nil))) sima_nil)))))) sima_nil)))) (SimE.x (sim_call (gf__law_pick T) (hr.mono (by decide)) (by rfl) (sima_cons (sim_var (pv 1) (by decide)) (sima_cons (SimF.ee (sim_lst (sima_cons (sim_var (pv 6) (by decide)) (sima_cons (sim_var (pv 6) (by decide)) (sima_cons (sim_var (pv 6) (by decide)) (sima_cons (sim_slice (SimE.r (sim_var (pv 6) (by decide))) (sim_part sim_int) sim_noPart) sima_nil)))))) sima_nil)))))
    (simb_cons (own1 := []) (sim_set sc_law.nd rfl (by first | exact .inl rfl | exact .inr rfl) (sim_call (gf__law_free T) (hr.mono (by decide)) (by rfl) (sima_cons (sim_var (pv 5) (by decide)) (sima_cons (sim_var (pv 14) (by decide)) sima_nil))))
    (simb_cons (own1 := []) (sim_ifS (sim_notT (sim_truth (SimE.r (sim_call (gf__law_is T) (hr.mono (by decide)) (by rfl) (sima_cons (sim_call (gf_split_holds T) (hr.mono (by decide)) (by rfl) (sima_cons (sim_var (pv 4) (by decide)) (sima_cons sim_int (sima_cons (sim_var (pv 14) (by decide)) (sima_cons (sim_var (pv 13) (by decide)) (sima_cons (sim_var (pv 12) (by decide)) sima_nil)))))) (sima_cons (sim_call (gf__law_split_right T) (hr.mono (by decide)) (by rfl) (sima_cons (sim_var (pv 3) (by decide)) (sima_cons (sim_var (pv 15) (by decide)) (sima_cons (sim_var (pv 13) (by decide)) (sima_cons (sim_var (pv 12) (by decide)) sima_nil))))) sima_nil)))))) (simb_one (sim_ret sim_bl)) simb_nil)
    (simb_one (sim_ifS (sim_notT (sim_truth (SimE.r (sim_call (gf__law_is T) (hr.mono (by decide)) (by rfl) (sima_cons (sim_call (gf_stopped_holds T) (hr.mono (by decide)) (by rfl) (sima_cons (sim_var (pv 4) (by decide)) (sima_cons sim_int (sima_cons (sim_var (pv 14) (by decide)) (sima_cons (sim_var (pv 13) (by decide)) (sima_cons (sim_var (pv 12) (by decide)) sima_nil)))))) (sima_cons (sim_call (gf__law_stopped_right T) (hr.mono (by decide)) (by rfl) (sima_cons (sim_var (pv 3) (by decide)) (sima_cons (sim_var (pv 15) (by decide)) (sima_cons (sim_var (pv 13) (by decide)) (sima_cons (sim_var (pv 12) (by decide)) sima_nil))))) sima_nil)))))) (simb_one (sim_ret sim_bl)) simb_nil)))))))))))))))))
    (simb_cons (own1 := []) (sim_par2 (fun h => ps_par rfl sc_law.nd rfl rfl (by decide) rfl rfl h (by with_unfolding_all rfl)) rfl rfl (SimE.x (sim_make (gi_Split T) (hr.mono (by decide)) (by rfl) (sima_cons (SimF.ee (sim_lst (sima_cons (SimF.ee (sim_lst (sima_cons sim_int (sima_cons sim_int sima_nil)))) sima_nil))) sima_nil))) (SimE.x (sim_make (gi_Stopped T) (hr.mono (by decide)) (by rfl) (sima_cons (SimF.ee (sim_lst (sima_cons (SimF.ee (sim_lst (sima_cons (SimF.ee (sim_lst (sima_cons sim_int (sima_cons sim_int sima_nil)))) sima_nil))) (sima_cons (SimF.ee (sim_lst sima_nil)) sima_nil)))) sima_nil))))
    (simb_cons (own1 := []) (sim_ifS (SimW.t (sim_orW (sim_cmpT op_notBX op2_notBX (SimE.r (sim_own (clsok T) (eqok T) (by decide +kernel) rfl (gm_Split_eq T) (hr.mono (by decide)) (sim_var (pv 16) (by decide)) (sim_make (gi_Split T) (hr.mono (by decide)) (by rfl) (sima_cons (sim_tup (sima_cons (sim_tup (sima_cons sim_int (sima_cons sim_int sima_nil))) sima_nil)) sima_nil)) (nomark _))) (SimE.r sim_bl) (nomark _)) (sim_orW (sim_cmpT op_notBX op2_notBX (SimE.r (sim_own (clsok T) (eqok T) (by decide +kernel) rfl (gm_Split_ne T) (hr.mono (by decide)) (sim_var (pv 16) (by decide)) (sim_make (gi_Split T) (hr.mono (by decide)) (by rfl) (sima_cons (sim_tup sima_nil) sima_nil)) (nomark _))) (SimE.r sim_bl) (nomark _)) (sim_or1 (sim_cmpT op_notBX op2_notBX (SimE.r (sim_own (clsok T) (eqok T) (by decide +kernel) rfl (gm_Split_eq T) (hr.mono (by decide)) (sim_var (pv 16) (by decide)) (sim_attr (sim_var (pv 16) (by decide)) (ato_patterns T)) (nomark _))) (SimE.r sim_bl) (nomark _)))))) (simb_one (sim_ret sim_bl)) simb_nil)
    (simb_one (sim_ret (sim_andV (sim_cmp op_isBX op2_isBX (SimE.r (sim_own (clsok T) (eqok T) (by decide +kernel) rfl (gm_Stopped_eq T) (hr.mono (by decide)) (sim_var (pv 17) (by decide)) (sim_make (gi_Stopped T) (hr.mono (by decide)) (by rfl) (sima_cons (sim_tup (sima_cons (sim_tup (sima_cons (sim_tup (sima_cons sim_int (sima_cons sim_int sima_nil))) sima_nil)) (sima_cons (sim_tup sima_nil) sima_nil))) sima_nil)) (nomark _))) (SimE.r sim_bl) (nomark _)) (sim_andV (sim_cmp op_isBX op2_isBX (SimE.r (sim_own (clsok T) (eqok T) (by decide +kernel) rfl (gm_Stopped_ne T) (hr.mono (by decide)) (sim_var (pv 17) (by decide)) (sim_make (gi_Stopped T) (hr.mono (by decide)) (by rfl) (sima_cons (sim_tup sima_nil) sima_nil)) (nomark _))) (SimE.r sim_bl) (nomark _)) (sim_one (sim_cmp op_isBX op2_isBX (SimE.r (sim_own (clsok T) (eqok T) (by decide +kernel) rfl (gm_Stopped_eq T) (hr.mono (by decide)) (sim_var (pv 17) (by decide)) (sim_var (pv 16) (by decide)) (nomark _))) (SimE.r sim_bl) (nomark _)))))))))))
end
end K83
namespace K83
open PySem PySem.Spec PyProof.Rows L2 Ev
abbrev R : PySem.W.OpenRow := PySem.W.OpenLaw.row PySem.Challenge.rw_barscut_k83_splits_and_stops_bent
abbrev hk : PySem.W.Hook := hookM 5 fa fn more
def ob (s : PySem.W.SharedT) : Bool × He.AlD := obsMG 5 fa fn more (HandSHeadRun.getT s)
theorem ob_eq (s : PySem.W.SharedT) : ob s = hk.obs s.abs := obsMG_eq (HandSHeadRun.getT_eq s)
theorem run (w : World) : HandSHeadRun.RunEq R (PySem.W.view R.prog [75]) hk ob 4000 names w := by
  intro os
  kernel_rfl
end K83
namespace K83
open PySem PySem.Spec PyProof.Rows L2 Ev
theorem ends {P : Program} {w : World} {K : PySem.W.Frag} {h : Heap} {mg : Str → Option Value} {f : Addr} (X : K.In h) (G : h.Ns mainGlobals mg) (hfa : mg ("law" : Str) = some (.ref f)) (c : He.SaysD fa fn K) (mo : more K = true) :
    ∃ fd : FuncData, (∀ (s : Shared) (v : Value), BindsTo s fd ⟨[v], []⟩ [("script", v)]) ∧ ∀ base : Heap, K.In base → base.Ns mainGlobals mg → FnOk P w K mg base CX0 16 f fd ["script"] (spOf K mg 1 m_law) := by
  obtain ⟨fd, F⟩ := c.def_ 56 (d := d_law) rfl
  have e := hfa.symm.trans (He.glo_ok X G (c.fact 49 (f := .glo "law") rfl))
  cases e
  have b := FunD.bindsA (ps := ["script"]) F fun _ _ _ _ _ _ us hl => match us, hl with | [_], _ => rfl
  exact ⟨fd, fun s v => b s [v] rfl, fun base _ _ => fo_law ⟨h, X, G, c, mo⟩ F⟩
end K83
open PySem PySem.W PySem.Calls PyProof.Rows
theorem PySem.Challenge.cw_barscut_k83_splits_and_stops_bent_holds : PySem.Challenge.rw_barscut_k83_splits_and_stops_bent.Holds := by
  w_on; o_law
  refine HandSHeadRun.head_any (r := OpenLaw.row PySem.Challenge.rw_barscut_k83_splits_and_stops_bent) (q := view (OpenLaw.row PySem.Challenge.rw_barscut_k83_splits_and_stops_bent).prog [75]) (H := K83.hk) (ob := K83.ob) (M := 4000) (loose := K83.names) (d := HandSHeadRun.topDef (OpenLaw.row PySem.Challenge.rw_barscut_k83_splits_and_stops_bent).prog 75) (kwd := []) K83.ob_eq
    (by kernel_rfl) (fun _ => by kernel_rfl) K83.run (by kernel_rfl) (by kernel_rfl) (by kernel_rfl) (by rfl) (by first | assumption | decide +kernel) (by decide +kernel) ⟨rfl, rfl, rfl, rfl, rfl, by decide +kernel⟩ ?hwit ?hcall
  case hwit => w_witness2
  case hcall =>
    refine L2.walk_ofE (l := PySem.Challenge.rw_barscut_k83_splits_and_stops_bent) (n := 63) (k := 16) (x := "script") (CX := L2.CX0) rfl (by decide) (by kernel_rfl) ⟨rfl, by decide, by decide⟩ ?G1 (fun _ _ _ _ q => q)
    intro wd mgl fadr hp Yp Gn hmg0
    obtain ⟨Kf, KX, cs, mo⟩ := Yp
    have hmg : mgl ("law" : PySem.Str) = some (.ref fadr) := by
      have en : (HandSHeadRun.topDef (OpenLaw.row PySem.Challenge.rw_barscut_k83_splits_and_stops_bent).prog 75).name = ("law" : PySem.Str) := by kernel_rfl
      rw [← en]
      exact hmg0
    obtain ⟨fd, hb, hF⟩ := K83.ends (P := (PySem.Challenge.rw_barscut_k83_splits_and_stops_bent).prog) (w := wd) KX Gn hmg cs mo
    refine ⟨Kf, fd, Ev.spOf Kf mgl 1 K83.m_law, KX, hb, fun H a ns hl _ hS => ?_, hF⟩
    obtain ⟨Sx, ex⟩ := K83.law_ok ns hl
    exact Ev.start_law hS ex
