import PyProof.Rows.All
import Wide.All
import OpenK.AllK
import Wide.FinOn
import KE.KStateDown
import KE.SortData
import HandS.ForMost
import HandS.ForExc
import HandS.Flow
import HandS.Style
import HandS.TupAny
import HandS.TupMul
import HandS.TupLe
import HandS.Deep
import HandS.Conv
import HandS.IsInst
import HandS.Zip
import HandS.Star
import HandS.More
import KE.GoesEnum
import HandS.Defaults
import HandS.SortInts
import HandS.Text
import HandS.Iter
import HandS.HeadHook2
import KE.DataCmp
import KE.SortCalls
import KE.KTupSum
import PyProof.P3In
import KE.KDictDisplayH
import KE.KDictSum
import PyProof.Rows.ChunkLeaf
import HandS.DictComp
import KE.DataMinKey
import PySem.Challenge.RW_barscut_k80_rods_that_are_longer
import HandS.Words
import HandS.WordsExc
import HandS.Head0
import HandS.Head1
import HandS.Head2
import HandS.HeadEnd
import HandS.HeadHook1
import Lean
set_option Elab.async false
set_option linter.all false
set_option maxRecDepth 100000
set_option maxHeartbeats 0
/-! ### Ev: data values, what they mean on the heap, states of bodies -/
namespace Ev
open PySem PySem.Spec PyProof.Rows L2

/-- data: what a value is worth, whatever its address. obj: a finished instance (class's name, fields); mref: the i-th changing object; scr: the script -/
inductive D where
  | non | bl (b : Bool) | int (i : Int) | str (x : Str)
  | tup (xs : List D) | lst (xs : List D) | obj (c : Str) (fs : List (Str × D)) | mref (i : Nat) | scr (ns : List Int)
/-- a changing object: a dict with keys that are ints, texts; one with keys that are tuples of them (locked while a loop walks it) -/
inductive MO where
  | k (kds : List (Key × D))
  | t (lk : Bool) (kds : List (List Key × D))
abbrev Sto := List MO
inductive Res (α : Type) where
  | ok (a : α) (s : Sto)
  | bad
abbrev M (α : Type) := Sto → Res α
def Res.then {α β : Type} (r : Res α) (k : α → Sto → Res β) : Res β := match r with
  | .ok a s => k a s
  | .bad => .bad
@[simp] theorem Res.then_ok {α β : Type} (a : α) (s : Sto) (k : α → Sto → Res β) : (Res.ok a s).then k = k a s := rfl
@[simp] theorem Res.then_bad {α β : Type} (k : α → Sto → Res β) : (Res.bad : Res α).then k = .bad := rfl
def Res.post {α : Type} (r : Res α) (P : α → Sto → Prop) : Prop := match r with
  | .ok a s => P a s
  | .bad => False
@[simp] theorem Res.post_ok {α : Type} (a : α) (s : Sto) (P : α → Sto → Prop) : (Res.ok a s).post P = P a s := rfl
@[simp] theorem Res.post_bad {α : Type} (P : α → Sto → Prop) : (Res.bad : Res α).post P = False := rfl
theorem Res.post_ex {α : Type} {r : Res α} {P : α → Sto → Prop} (h : r.post P) : ∃ a s, r = .ok a s ∧ P a s := by
  cases r with
  | ok a s => exact ⟨a, s, rfl, h⟩
  | bad => exact h.elim
theorem Res.then_ex {α β : Type} {r : Res α} {k : α → Sto → Res β} {b : β} {s' : Sto} (h : r.then k = .ok b s') : ∃ a s, r = .ok a s ∧ k a s = .ok b s' := by
  cases r with
  | ok a s => exact ⟨a, s, rfl, h⟩
  | bad => cases h
theorem Res.post_then {α β : Type} {r : Res α} {k : α → Sto → Res β} {P : β → Sto → Prop} : (r.then k).post P ↔ r.post fun a s => (k a s).post P := by
  cases r <;> rfl
theorem Res.post_mono {α : Type} {r : Res α} {P P' : α → Sto → Prop} (h : r.post P) (f : ∀ a s, P a s → P' a s) : r.post P' := by
  cases r with
  | ok a s => exact f _ _ h
  | bad => exact h.elim
def optR {α : Type} (o : Option α) (s : Sto) : Res α := match o with
  | some a => .ok a s
  | none => .bad
@[simp] theorem optR_some {α : Type} (a : α) (s : Sto) : optR (some a) s = .ok a s := rfl
@[simp] theorem optR_none {α : Type} (s : Sto) : optR (none : Option α) s = .bad := rfl
theorem optR_ex {α : Type} {o : Option α} {s s' : Sto} {a : α} (h : optR o s = .ok a s') : o = some a ∧ s = s' := by
  cases o with
  | some b => cases h; exact ⟨rfl, rfl⟩
  | none => cases h

/-- the ghost: what stands for good; where the changing objects are -/
structure Gh where
  F : Hp
  as : List Addr
  me : Addr

section
variable (K : PySem.W.Frag) (mg : Str → Option Value)
mutual
inductive Rep (g : Gh) : V → D → Prop
  | non : Rep g .non .non
  | bl (b : Bool) : Rep g (.bl b) (.bl b)
  | int (i : Int) : Rep g (.int i) (.int i)
  | str (x : Str) : Rep g (.str x) (.str x)
  | tup {a : Addr} {vs : List V} {ds : List D} : g.F a = some (.tup vs) → Reps g vs ds → Rep g (.ref a) (.tup ds)
  | lst {a : Addr} {vs : List V} {ds : List D} : g.F a = some (.lst vs) → Reps g vs ds → Rep g (.ref a) (.lst ds)
  | obj {a C dx : Addr} {fvs : List (Str × V)} {c : Str} {fs : List (Str × D)} : mg c = some (.ref C) → g.F a = some (.ins C dx fvs) → g.F dx = some (.own a) → FReps g fvs fs → Rep g (.ref a) (.obj c fs)
  | mref {i : Nat} {a : Addr} : g.as[i]? = some a → Rep g (.ref a) (.mref i)
  | scr {a : Addr} {ns : List Int} : SqL K g.F a (ns.map V.int) → Rep g (.ref a) (.scr ns)
inductive Reps (g : Gh) : List V → List D → Prop
  | nil : Reps g [] []
  | cons {v : V} {d : D} {vs : List V} {ds : List D} : Rep g v d → Reps g vs ds → Reps g (v :: vs) (d :: ds)
inductive FReps (g : Gh) : List (Str × V) → List (Str × D) → Prop
  | nil : FReps g [] []
  | cons {x : Str} {v : V} {d : D} {vs : List (Str × V)} {ds : List (Str × D)} : Rep g v d → FReps g vs ds → FReps g ((x, v) :: vs) ((x, d) :: ds)
end
end
section
variable {K : PySem.W.Frag} {mg : Str → Option Value} {g g' : Gh} {H H' : Hp} {S S' : Sto}
structure GLe (g g' : Gh) : Prop where
  F : Same g.F g'.F
  as : ∀ (i : Nat) (a : Addr), g.as[i]? = some a → g'.as[i]? = some a
  me : g'.me = g.me
theorem GLe.refl (g : Gh) : GLe g g := ⟨Same.refl _, fun _ _ h => h, rfl⟩
theorem GLe.trans {g1 g2 g3 : Gh} (a : GLe g1 g2) (b : GLe g2 g3) : GLe g1 g3 := ⟨a.F.trans b.F, fun i x h => b.as i x (a.as i x h), b.me.trans a.me⟩
mutual
theorem Rep.mono0 (lF : Same g.F g'.F) (la : ∀ (i : Nat) (a : Addr), g.as[i]? = some a → g'.as[i]? = some a) : ∀ {v : V} {d : D}, Rep K mg g v d → Rep K mg g' v d
  | _, _, .non => .non
  | _, _, .bl b => .bl b
  | _, _, .int i => .int i
  | _, _, .str x => .str x
  | _, _, .tup h r => .tup (lF _ _ h) (Reps.mono0 lF la r)
  | _, _, .lst h r => .lst (lF _ _ h) (Reps.mono0 lF la r)
  | _, _, .obj m h h2 r => .obj m (lF _ _ h) (lF _ _ h2) (FReps.mono0 lF la r)
  | _, _, .mref h => .mref (la _ _ h)
  | _, _, .scr h => .scr (lF.seq h)
theorem Reps.mono0 (lF : Same g.F g'.F) (la : ∀ (i : Nat) (a : Addr), g.as[i]? = some a → g'.as[i]? = some a) : ∀ {vs : List V} {ds : List D}, Reps K mg g vs ds → Reps K mg g' vs ds
  | _, _, .nil => .nil
  | _, _, .cons h r => .cons (Rep.mono0 lF la h) (Reps.mono0 lF la r)
theorem FReps.mono0 (lF : Same g.F g'.F) (la : ∀ (i : Nat) (a : Addr), g.as[i]? = some a → g'.as[i]? = some a) : ∀ {vs : List (Str × V)} {ds : List (Str × D)}, FReps K mg g vs ds → FReps K mg g' vs ds
  | _, _, .nil => .nil
  | _, _, .cons h r => .cons (Rep.mono0 lF la h) (FReps.mono0 lF la r)
end
theorem Rep.mono (l : GLe g g') {v : V} {d : D} (r : Rep K mg g v d) : Rep K mg g' v d := r.mono0 l.F l.as
theorem Reps.mono (l : GLe g g') {vs : List V} {ds : List D} (r : Reps K mg g vs ds) : Reps K mg g' vs ds := r.mono0 l.F l.as
theorem FReps.mono (l : GLe g g') {vs : List (Str × V)} {ds : List (Str × D)} (r : FReps K mg g vs ds) : FReps K mg g' vs ds := r.mono0 l.F l.as
theorem Reps.length : ∀ {vs : List V} {ds : List D}, Reps K mg g vs ds → vs.length = ds.length
  | _, _, .nil => rfl
  | _, _, .cons _ r => congrArg (· + 1) (Reps.length r)
theorem Reps.get : ∀ {vs : List V} {ds : List D} {i : Nat} {d : D}, Reps K mg g vs ds → ds[i]? = some d → ∃ v, vs[i]? = some v ∧ Rep K mg g v d
  | _, _, _, _, .nil, h => by simp at h
  | _, _, 0, _, .cons r _, h => by simp at h; subst h; exact ⟨_, rfl, r⟩
  | _, _, i + 1, _, .cons _ r, h => by
    obtain ⟨v, h1, h2⟩ := Reps.get (i := i) r (by simpa using h)
    exact ⟨v, by simpa using h1, h2⟩
theorem Reps.getV : ∀ {vs : List V} {ds : List D} {i : Nat} {v : V}, Reps K mg g vs ds → vs[i]? = some v → ∃ d, ds[i]? = some d ∧ Rep K mg g v d
  | _, _, _, _, .nil, h => by simp at h
  | _, _, 0, _, .cons r _, h => by simp at h; subst h; exact ⟨_, rfl, r⟩
  | _, _, i + 1, _, .cons _ r, h => by
    obtain ⟨v, h1, h2⟩ := Reps.getV (i := i) r (by simpa using h)
    exact ⟨v, by simpa using h1, h2⟩
theorem Reps.append : ∀ {vs ws : List V} {ds es : List D}, Reps K mg g vs ds → Reps K mg g ws es → Reps K mg g (vs ++ ws) (ds ++ es)
  | _, _, _, _, .nil, r => r
  | _, _, _, _, .cons h r, q => .cons h (Reps.append r q)
theorem Reps.one {v : V} {d : D} (h : Rep K mg g v d) : Reps K mg g [v] [d] := .cons h .nil
theorem Reps.set {v : V} {d : D} (h : Rep K mg g v d) : ∀ {vs : List V} {ds : List D} (i : Nat), Reps K mg g vs ds → Reps K mg g (vs.set i v) (ds.set i d)
  | _, _, _, .nil => .nil
  | _, _, 0, .cons _ r => .cons h r
  | _, _, i + 1, .cons q r => .cons q (Reps.set h i r)
theorem Reps.take : ∀ {vs : List V} {ds : List D} (n : Nat), Reps K mg g vs ds → Reps K mg g (vs.take n) (ds.take n)
  | _, _, 0, _ => .nil
  | _, _, _ + 1, .nil => .nil
  | _, _, n + 1, .cons h r => .cons h (Reps.take n r)
theorem Reps.drop : ∀ {vs : List V} {ds : List D} (n : Nat), Reps K mg g vs ds → Reps K mg g (vs.drop n) (ds.drop n)
  | _, _, 0, h => h
  | _, _, _ + 1, .nil => .nil
  | _, _, n + 1, .cons _ r => Reps.drop n r
theorem Reps.eraseIdx : ∀ {vs : List V} {ds : List D} (n : Nat), Reps K mg g vs ds → Reps K mg g (vs.eraseIdx n) (ds.eraseIdx n)
  | _, _, _, .nil => .nil
  | _, _, 0, .cons _ r => r
  | _, _, n + 1, .cons h r => .cons h (Reps.eraseIdx n r)
theorem Reps.dropLast : ∀ {vs : List V} {ds : List D}, Reps K mg g vs ds → Reps K mg g vs.dropLast ds.dropLast
  | _, _, .nil => .nil
  | _, _, .cons h .nil => .nil
  | _, _, .cons h (.cons h2 r) => .cons h (Reps.dropLast (.cons h2 r))
theorem Reps.rep {vs : List V} {ds : List D} (h : Reps K mg g vs ds) : ∀ k : Nat, Reps K mg g (List.replicate k vs).flatten (List.replicate k ds).flatten
  | 0 => .nil
  | k + 1 => by
    rw [List.replicate_succ, List.replicate_succ, List.flatten_cons, List.flatten_cons]
    exact h.append (Reps.rep h k)
theorem FReps.look : ∀ {vs : List (Str × V)} {ds : List (Str × D)} {f : Str} {d : D}, FReps K mg g vs ds → ds.lookup f = some d → ∃ v, vs.lookup f = some v ∧ Rep K mg g v d
  | _, _, _, _, .nil, h => by simp at h
  | _, _, f, d, .cons (x := x) r q, h => by
    by_cases e : (f == x) = true
    · simp only [List.lookup_cons, e] at h ⊢
      cases h
      exact ⟨_, rfl, r⟩
    · have e' : (f == x) = false := by simpa using e
      simp only [List.lookup_cons, e'] at h ⊢
      exact FReps.look q h
theorem FReps.length : ∀ {vs : List (Str × V)} {ds : List (Str × D)}, FReps K mg g vs ds → vs.length = ds.length
  | _, _, .nil => rfl
  | _, _, .cons _ r => congrArg (· + 1) (FReps.length r)
def putD (f : Str) (d : D) : List (Str × D) → List (Str × D)
  | [] => [(f, d)]
  | (x, e) :: r => if x = f then (f, d) :: r else (x, e) :: putD f d r
theorem FReps.put {f : Str} {v : V} {d : D} (h : Rep K mg g v d) : ∀ {vs : List (Str × V)} {ds : List (Str × D)}, FReps K mg g vs ds → FReps K mg g (putF f v vs) (putD f d ds)
  | _, _, .nil => .cons h .nil
  | _, _, .cons (x := x) r q => by
    unfold putF putD
    by_cases e : x = f
    · subst e
      simp only [if_true]
      exact .cons h q
    · simp only [if_neg e]
      exact .cons r (FReps.put h q)

/-- a dict's pairs -/
inductive KReps {κ : Type} (K : PySem.W.Frag) (mg : Str → Option Value) (g : Gh) : List (κ × V) → List (κ × D) → Prop
  | nil : KReps K mg g [] []
  | cons {k : κ} {v : V} {d : D} {vs : List (κ × V)} {ds : List (κ × D)} : Rep K mg g v d → KReps K mg g vs ds → KReps K mg g ((k, v) :: vs) ((k, d) :: ds)
theorem KReps.mono {κ : Type} (l : GLe g g') : ∀ {vs : List (κ × V)} {ds : List (κ × D)}, KReps K mg g vs ds → KReps K mg g' vs ds
  | _, _, .nil => .nil
  | _, _, .cons h r => .cons (h.mono l) (KReps.mono l r)
theorem KReps.mono0 {κ : Type} (lF : Same g.F g'.F) (la : ∀ (i : Nat) (a : Addr), g.as[i]? = some a → g'.as[i]? = some a) : ∀ {vs : List (κ × V)} {ds : List (κ × D)}, KReps K mg g vs ds → KReps K mg g' vs ds
  | _, _, .nil => .nil
  | _, _, .cons h r => .cons (h.mono0 lF la) (KReps.mono0 lF la r)
/-- a changing object as it stands -/
inductive MOk (K : PySem.W.Frag) (mg : Str → Option Value) (g : Gh) (a : Addr) : HO → MO → Prop
  | k {kvs : List (Key × V)} {kds : List (Key × D)} : KReps K mg g kvs kds → MOk K mg g a (.dK kvs) (.k kds)
  | t {kvs : List (List Key × V)} {kds : List (List Key × D)} : KReps K mg g kvs kds → MOk K mg g a (.dT kvs) (.t false kds)
  | l {o : Obj} {kvs : List (List Key × V)} {kds : List (List Key × D)} : g.F a = some (.frz o (.dT kvs)) → KReps K mg g kvs kds → MOk K mg g a (.frz o (.dT kvs)) (.t true kds)
theorem MOk.mono0 {a : Addr} (lF : Same g.F g'.F) (la : ∀ (i : Nat) (a : Addr), g.as[i]? = some a → g'.as[i]? = some a) {o : HO} {m : MO} (h : MOk K mg g a o m) : MOk K mg g' a o m := by
  cases h with
  | k r => exact .k (r.mono0 lF la)
  | t r => exact .t (r.mono0 lF la)
  | l hF r => exact .l (lF _ _ hF) (r.mono0 lF la)
theorem MOk.mono {a : Addr} (l : GLe g g') {o : HO} {m : MO} (h : MOk K mg g a o m) : MOk K mg g' a o m := h.mono0 l.F l.as
theorem MOk.ne_tup {a : Addr} {o : HO} {m : MO} (h : MOk K mg g a o m) (xs : List V) : o ≠ .tup xs := by
  cases h <;> exact fun z => nomatch z
theorem MOk.ne_lst {a : Addr} {o : HO} {m : MO} (h : MOk K mg g a o m) (xs : List V) : o ≠ .lst xs := by
  cases h <;> exact fun z => nomatch z
/-- a changing object's place in what stands for good: nothing, or the object while it is locked -/
def Lkd (o : Option HO) : Prop := o = none ∨ ∃ ob kvs, o = some (.frz ob (.dT kvs))

/-- the ghost is true of a heap -/
structure GOk (K : PySem.W.Frag) (mg : Str → Option Value) (g : Gh) (H : Hp) (S : Sto) : Prop where
  sub : Same g.F H
  nd : g.as.Nodup
  len : S.length = g.as.length
  nf : ∀ a ∈ g.as, Lkd (g.F a)
  st : ∀ (i : Nat) (a : Addr), g.as[i]? = some a → ∃ o m, H a = some o ∧ S[i]? = some m ∧ MOk K mg g a o m
/-- from one state to a later one -/
structure Stp (g : Gh) (H : Hp) (g' : Gh) (H' : Hp) : Prop where
  le : GLe g g'
  keep : ∀ a o, H a = some o → a ∉ g.as → H' a = some o
  there : ∀ a, H a ≠ none → H' a ≠ none
  newF : ∀ a, g'.F a ≠ none → g.F a ≠ none ∨ H a = none ∨ a ∈ g.as ∨ ∃ xs, H a = some (.tup xs)
  newA : ∀ a ∈ g'.as, a ∈ g.as ∨ H a = none
theorem Stp.refl : Stp g H g H := ⟨.refl _, fun _ _ h _ => h, fun _ h => h, fun _ h => .inl h, fun _ h => .inl h⟩
/-- what is neither for good nor a tuple nor a changing object stays so -/
theorem Stp.stay (s : Stp g H g' H') {q : Addr} {ob : HO} (hq : H q = some ob) (hF : g.F q = none) (hA : q ∉ g.as) (ht : ∀ xs, ob ≠ .tup xs) : g'.F q = none ∧ q ∉ g'.as := by
  refine ⟨?_, fun z => ?_⟩
  · cases e : g'.F q with
    | none => rfl
    | some u =>
      rcases s.newF q (by rw [e]; exact fun z => nomatch z) with z | z | z | ⟨xs, z⟩
      · exact absurd hF z
      · rw [hq] at z; cases z
      · exact absurd z hA
      · rw [hq] at z; cases z; exact absurd rfl (ht xs)
  · rcases s.newA q z with z | z
    · exact hA z
    · rw [hq] at z; cases z
theorem Stp.trans {g1 g2 g3 : Gh} {H1 H2 H3 : Hp} (a : Stp g1 H1 g2 H2) (b : Stp g2 H2 g3 H3) : Stp g1 H1 g3 H3 where
  le := a.le.trans b.le
  keep := fun x o h n => b.keep x o (a.keep x o h n) fun q => (a.newA x q).elim n fun z => by rw [z] at h; cases h
  there := fun x h => b.there x (a.there x h)
  newF := fun x h => by
    rcases b.newF x h with z | z | z | ⟨xs, z⟩
    · exact a.newF x z
    · refine .inr (.inl ?_)
      cases q : H1 x with
      | none => rfl
      | some o => exact absurd z (a.there x (by rw [q]; exact fun z => nomatch z))
    · rcases a.newA x z with y | y
      · exact .inr (.inr (.inl y))
      · exact .inr (.inl y)
    · cases q : H1 x with
      | none => exact .inr (.inl rfl)
      | some o =>
        by_cases hA : x ∈ g1.as
        · exact .inr (.inr (.inl hA))
        · have := a.keep x o q hA
          rw [z] at this
          cases this
          exact .inr (.inr (.inr ⟨xs, rfl⟩))
  newA := fun x h => (b.newA x h).elim (a.newA x) fun z => .inr (by
    cases q : H1 x with
    | none => rfl
    | some o => exact absurd z (a.there x (by rw [q]; exact fun z => nomatch z)))
/-- a new object, for good -/
def Gh.add (g : Gh) (p : Addr) (o : HO) : Gh := ⟨upd g.F p o, g.as, g.me⟩
theorem GOk.nfree (G : GOk K mg g H S) {p : Addr} (h : H p = none) : g.F p = none := G.sub.free h
theorem GOk.notin (G : GOk K mg g H S) {p : Addr} (h : H p = none) : p ∉ g.as := fun q => by
  obtain ⟨i, hi, e⟩ := List.mem_iff_getElem.mp q
  obtain ⟨_, _, h1, _⟩ := G.st i p (by rw [List.getElem?_eq_getElem hi, e])
  rw [h] at h1; cases h1
theorem gle_add {p : Addr} {o : HO} (h : g.F p = none) : GLe g (g.add p o) := ⟨fun b u e => by
  show upd g.F p o b = some u
  rw [upd_ne (ne_of_none e h)]; exact e, fun _ _ h => h, rfl⟩
theorem GOk.add (G : GOk K mg g H S) {p : Addr} {o : HO} (h : H p = none) : GOk K mg (g.add p o) (upd H p o) S := by
  have hf := G.nfree h
  refine ⟨fun b u e => ?_, G.nd, G.len, fun a ha => ?_, fun i a e => ?_⟩
  · have e' : upd g.F p o b = some u := e
    by_cases hb : b = p
    · subst hb; rw [upd_same] at e' ⊢; exact e'
    · rw [upd_ne hb] at e' ⊢; exact G.sub _ _ e'
  · show Lkd (upd g.F p o a)
    rw [upd_ne (fun z : a = p => G.notin h (z ▸ ha))]; exact G.nf a ha
  · obtain ⟨kvs, kds, h1, h2, h3⟩ := G.st i a e
    exact ⟨kvs, kds, by rw [upd_ne (ne_of_none h1 h)]; exact h1, h2, h3.mono (gle_add hf)⟩
theorem stp_add (G : GOk K mg g H S) {p : Addr} {o : HO} (h : H p = none) : Stp g H (g.add p o) (upd H p o) := by
  refine ⟨gle_add (G.nfree h), fun b u e _ => by rw [upd_ne (ne_of_none e h)]; exact e, fun b e => ?_, fun b e => ?_, fun b e => .inl e⟩
  · by_cases hb : b = p
    · subst hb; rw [upd_same]; exact fun z => nomatch z
    · rw [upd_ne hb]; exact e
  · by_cases hb : b = p
    · subst hb; exact .inr (.inl h)
    · have e' : upd g.F p o b ≠ Option.none := e
      rw [upd_ne hb] at e'; exact .inl e'
/-- a new object that is not for good yet -/
theorem GOk.fresh (G : GOk K mg g H S) {p : Addr} {o : HO} (h : H p = none) : GOk K mg g (upd H p o) S := by
  refine ⟨fun b u e => ?_, G.nd, G.len, G.nf, fun i a e => ?_⟩
  · rw [upd_ne (ne_of_none (G.sub _ _ e) h)]; exact G.sub _ _ e
  · obtain ⟨kvs, kds, h1, h2, h3⟩ := G.st i a e
    exact ⟨kvs, kds, by rw [upd_ne (ne_of_none h1 h)]; exact h1, h2, h3⟩
theorem stp_fresh {p : Addr} {o : HO} (h : H p = none) : Stp g H g (upd H p o) := by
  refine ⟨.refl _, fun b u e _ => by rw [upd_ne (ne_of_none e h)]; exact e, fun b e => ?_, fun b e => .inl e, fun b e => .inl e⟩
  by_cases hb : b = p
  · subst hb; rw [upd_same]; exact fun z => nomatch z
  · rw [upd_ne hb]; exact e
/-- an object that stands is for good from now on -/
theorem GOk.freeze (G : GOk K mg g H S) {p : Addr} {o : HO} (h : H p = some o) (hf : g.F p = none) (ha : p ∉ g.as) : GOk K mg (g.add p o) H S := by
  refine ⟨fun b u e => ?_, G.nd, G.len, fun a q => ?_, fun i a e => ?_⟩
  · have e' : upd g.F p o b = some u := e
    by_cases hb : b = p
    · subst hb; rw [upd_same] at e'; rw [h]; exact e'
    · rw [upd_ne hb] at e'; exact G.sub _ _ e'
  · show Lkd (upd g.F p o a)
    rw [upd_ne (fun z : a = p => ha (z ▸ q))]; exact G.nf a q
  · obtain ⟨kvs, kds, h1, h2, h3⟩ := G.st i a e
    exact ⟨kvs, kds, h1, h2, h3.mono (gle_add hf)⟩

/-- read: for good, or a list of the body's own that stands -/
def RepR (K : PySem.W.Frag) (mg : Str → Option Value) (g : Gh) (H : Hp) (v : V) (d : D) : Prop :=
  Rep K mg g v d ∨ ∃ p vs ds, v = .ref p ∧ d = .lst ds ∧ H p = some (.lst vs) ∧ p ∉ g.as ∧ Reps K mg g vs ds
theorem RepR.step {v : V} {d : D} (r : RepR K mg g H v d) (s : Stp g H g' H') : RepR K mg g' H' v d := by
  rcases r with r | ⟨p, vs, ds, e1, e2, h, n, r⟩
  · exact .inl (r.mono s.le)
  · refine .inr ⟨p, vs, ds, e1, e2, s.keep _ _ h n, fun q => ?_, r.mono s.le⟩
    rcases s.newA p q with z | z
    · exact n z
    · rw [h] at z; cases z
theorem RepR.lst {v : V} {ds : List D} (G : GOk K mg g H S) (r : RepR K mg g H v (.lst ds)) : ∃ p vs, v = .ref p ∧ H p = some (.lst vs) ∧ Reps K mg g vs ds := by
  rcases r with r | ⟨p, vs, ds', e1, e2, h, n, r⟩
  · cases r with
    | lst h r => exact ⟨_, _, rfl, G.sub _ _ h, r⟩
  · cases e2
    exact ⟨p, vs, e1, h, r⟩
theorem RepR.tup {v : V} {ds : List D} (G : GOk K mg g H S) (r : RepR K mg g H v (.tup ds)) : ∃ p vs, v = .ref p ∧ H p = some (.tup vs) ∧ Reps K mg g vs ds := by
  rcases r with r | ⟨p, vs, ds', e1, e2, h, n, r⟩
  · cases r with
    | tup h r => exact ⟨_, _, rfl, G.sub _ _ h, r⟩
  · cases e2
theorem RepR.rep {v : V} {d : D} (r : RepR K mg g H v d) (h : ∀ ds, d ≠ .lst ds) : Rep K mg g v d := by
  rcases r with r | ⟨p, vs, ds', e1, e2, _⟩
  · exact r
  · exact absurd e2 (h _)
theorem RepR.int {v : V} {i : Int} (r : RepR K mg g H v (.int i)) : v = .int i := by
  cases r.rep (fun _ e => nomatch e); rfl
theorem RepR.str {v : V} {x : Str} (r : RepR K mg g H v (.str x)) : v = .str x := by
  cases r.rep (fun _ e => nomatch e); rfl
theorem RepR.bl {v : V} {b : Bool} (r : RepR K mg g H v (.bl b)) : v = .bl b := by
  cases r.rep (fun _ e => nomatch e); rfl
theorem RepR.non {v : V} (r : RepR K mg g H v .non) : v = .non := by
  cases r.rep (fun _ e => nomatch e); rfl
inductive RepRs (K : PySem.W.Frag) (mg : Str → Option Value) (g : Gh) (H : Hp) : List V → List D → Prop
  | nil : RepRs K mg g H [] []
  | cons {v : V} {d : D} {vs : List V} {ds : List D} : RepR K mg g H v d → RepRs K mg g H vs ds → RepRs K mg g H (v :: vs) (d :: ds)
theorem Reps.r {vs : List V} {ds : List D} (h : Reps K mg g vs ds) : RepRs K mg g H vs ds := by
  induction vs generalizing ds with
  | nil => cases h; exact .nil
  | cons v vs ih => cases h with
    | cons h1 h2 => exact .cons (.inl h1) (ih h2)
end

abbrev DEnv := List (Option D)
/-- what the body owns at a slot: a list or an instance that is being made -/
def Owned (K : PySem.W.Frag) (mg : Str → Option Value) (g : Gh) (H H0 : Hp) (p : Addr) (d : D) : Prop :=
  g.F p = none ∧ p ∉ g.as ∧ H0 p = none ∧
  ((∃ vs ds, d = .lst ds ∧ H p = some (.lst vs) ∧ Reps K mg g vs ds) ∨
   (∃ C dx c fvs fs, (p = g.me ∧ d = .obj c fs) ∧ mg c = some (.ref C) ∧ H p = some (.ins C dx fvs) ∧ H dx = some (.own p) ∧ g.F dx = none ∧ dx ∉ g.as ∧ H0 dx = none ∧ FReps K mg g fvs fs))
/-- a body's state -/
structure EnvOk (K : PySem.W.Frag) (mg : Str → Option Value) (g0 : Gh) (H0 : Hp) (own : List Nat) (ρ : DEnv) (σ : L2.St) (g : Gh) (H : Hp) (S : Sto) : Prop where
  gok : GOk K mg g H S
  stp : Stp g0 H0 g H
  len : ρ.length = σ.length
  fro : ∀ (i : Nat) (d : D), ρ[i]? = some (some d) → i ∉ own → ∃ v, σ[i]? = some (some v) ∧ Rep K mg g v d
  ow : ∀ i ∈ own, ∃ p d, ρ[i]? = some (some d) ∧ σ[i]? = some (some (.ref p)) ∧ Owned K mg g H H0 p d
  dis : ∀ i ∈ own, ∀ j ∈ own, i ≠ j → σ[i]? ≠ σ[j]?
section
variable {K : PySem.W.Frag} {mg : Str → Option Value} {g0 g g' : Gh} {H0 H H' : Hp} {S S' : Sto} {own : List Nat} {ρ : DEnv} {σ : L2.St}
theorem Owned.step {p : Addr} {d : D} (o : Owned K mg g H H0 p d) (s : Stp g H g' H') : Owned K mg g' H' H0 p d := by
  obtain ⟨h1, h2, h3, h4⟩ := o
  rcases h4 with ⟨vs, ds, e, h, r⟩ | ⟨C, dx, c, fvs, fs, e, hm, h, hd, f1, f2, f3, r⟩
  · obtain ⟨q1, q2⟩ := s.stay h h1 h2 fun _ z => nomatch z
    exact ⟨q1, q2, h3, .inl ⟨vs, ds, e, s.keep _ _ h h2, r.mono s.le⟩⟩
  · obtain ⟨q1, q2⟩ := s.stay h h1 h2 fun _ z => nomatch z
    obtain ⟨q3, q4⟩ := s.stay hd f1 f2 fun _ z => nomatch z
    exact ⟨q1, q2, h3, .inr ⟨C, dx, c, fvs, fs, ⟨e.1.trans s.le.me.symm, e.2⟩, hm, s.keep _ _ h h2, s.keep _ _ hd f2, q3, q4, f3, r.mono s.le⟩⟩
/-- behind something that changes nothing of the body's own -/
theorem EnvOk.step (E : EnvOk K mg g0 H0 own ρ σ g H S) (G : GOk K mg g' H' S') (s : Stp g H g' H') : EnvOk K mg g0 H0 own ρ σ g' H' S' where
  gok := G
  stp := E.stp.trans s
  len := E.len
  fro := fun i d h n => by
    obtain ⟨v, h1, h2⟩ := E.fro i d h n
    exact ⟨v, h1, h2.mono s.le⟩
  ow := fun i hi => by
    obtain ⟨p, d, h1, h2, h3⟩ := E.ow i hi
    exact ⟨p, d, h1, h2, h3.step s⟩
  dis := E.dis
theorem EnvOk.read (E : EnvOk K mg g0 H0 own ρ σ g H S) {i : Nat} {d : D} (h : ρ[i]? = some (some d)) (hd : ∀ c fs, i ∈ own → d ≠ .obj c fs) : ∃ v, σ[i]? = some (some v) ∧ RepR K mg g H v d := by
  by_cases hi : i ∈ own
  · obtain ⟨p, d', h1, h2, h3, h4, _, h5⟩ := E.ow i hi
    rw [h] at h1; cases h1
    rcases h5 with ⟨vs, ds, e, hh, r⟩ | ⟨C, dx, c, fvs, fs, e, _⟩
    · exact ⟨_, h2, .inr ⟨p, vs, ds, rfl, e, hh, h4, r⟩⟩
    · exact absurd e.2 (hd c fs hi)
  · obtain ⟨v, h1, h2⟩ := E.fro i d h hi
    exact ⟨v, h1, .inl h2⟩
end
end Ev
namespace Ev
open PySem PySem.Spec PyProof.Rows L2
abbrev SE := DEnv → M D
abbrev SB := DEnv → M Bool
section
variable (X : Cx) (own : List Nat)
/-- an expression's value, for good | to be read | a new list -/
def tE (se : SE) : TE := fun σ H Q => ∃ g0 H0 ρ g S, EnvOk X.K X.mg g0 H0 own ρ σ g H S ∧ (se ρ S).post fun d S' => ∀ v g' H', GOk X.K X.mg g' H' S' → Stp g H g' H' → Rep X.K X.mg g' v d → Q v H'
def tR (se : SE) : TE := fun σ H Q => ∃ g0 H0 ρ g S, EnvOk X.K X.mg g0 H0 own ρ σ g H S ∧ (se ρ S).post fun d S' => ∀ v g' H', GOk X.K X.mg g' H' S' → Stp g H g' H' → RepR X.K X.mg g' H' v d → Q v H'
def tF (se : SE) : TE := fun σ H Q => ∃ g0 H0 ρ g S, EnvOk X.K X.mg g0 H0 own ρ σ g H S ∧ (se ρ S).post fun d S' => ∃ ds, d = .lst ds ∧ ∀ p vs g' H', GOk X.K X.mg g' H' S' → Stp g H g' H' → H' p = some (.lst vs) → g'.F p = none → p ∉ g'.as → H p = none → Reps X.K X.mg g' vs ds → Q (.ref p) H'
def tB (sb : SB) : TT := fun σ H Q => ∃ g0 H0 ρ g S, EnvOk X.K X.mg g0 H0 own ρ σ g H S ∧ (sb ρ S).post fun b S' => ∀ g' H', GOk X.K X.mg g' H' S' → Stp g H g' H' → Q b H'
def SimE (e : Expr) (se : SE) : Prop := PE X e (tE X own se)
def SimR (e : Expr) (se : SE) : Prop := PE X e (tR X own se)
def SimF (e : Expr) (se : SE) : Prop := PE X e (tF X own se)
def SimT (e : Expr) (sb : SB) : Prop := PT X e (tB X own sb)
def SimW (e : Expr) (sb : SB) : Prop := PW X e (tB X own sb)
end
theorem pe_weak {X : Cx} {e : Expr} {t t' : TE} (h : PE X e t) (w : ∀ σ H Q, t' σ H Q → t σ H Q) : PE X e t' := ⟨fun pins s σ H Q I q => h.run pins s σ H Q I (w σ H Q q)⟩
theorem pt_weak {X : Cx} {e : Expr} {t t' : TT} (h : PT X e t) (w : ∀ σ H Q, t' σ H Q → t σ H Q) : PT X e t' := ⟨fun pins s σ H Q I q => h.run pins s σ H Q I (w σ H Q q)⟩
theorem pw_weak {X : Cx} {e : Expr} {t t' : TT} (h : PW X e t) (w : ∀ σ H Q, t' σ H Q → t σ H Q) : PW X e t' := ⟨fun wh pins s σ H Q I q => h.run wh pins s σ H Q I (w σ H Q q)⟩
section
variable {X : Cx} {own : List Nat} {e a b c : Expr} {se sa sb sc : SE} {pos : Pos}
theorem SimE.r (h : SimE X own e se) : SimR X own e se := pe_weak h fun σ H Q ⟨g0, H0, ρ, g, S, E, q⟩ =>
  ⟨g0, H0, ρ, g, S, E, Res.post_mono q fun d S' k v g' H' G s r => k v g' H' G s (.inl r)⟩
theorem SimF.r (h : SimF X own e se) (hl : ∀ ρ S d S', se ρ S = .ok d S' → ∃ ds, d = .lst ds) : SimR X own e se := pe_weak h fun σ H Q ⟨g0, H0, ρ, g, S, E, q⟩ => by
  obtain ⟨d, S', e1, k⟩ := Res.post_ex q
  obtain ⟨ds, rfl⟩ := hl _ _ _ _ e1
  refine ⟨g0, H0, ρ, g, S, E, ?_⟩
  rw [e1]
  exact ⟨ds, rfl, fun p vs g' H' G s h1 h2 h3 h4 r => k _ g' H' G s (.inr ⟨p, vs, ds, rfl, rfl, h1, h3, r⟩)⟩
theorem SimF.ev (h : SimF X own e se) (hl : ∀ ρ S d S', se ρ S = .ok d S' → ∃ ds, d = .lst ds) : SimE X own e se := pe_weak h fun σ H Q ⟨g0, H0, ρ, g, S, E, q⟩ => by
  obtain ⟨d, S', e1, k⟩ := Res.post_ex q
  obtain ⟨ds, rfl⟩ := hl _ _ _ _ e1
  refine ⟨g0, H0, ρ, g, S, E, ?_⟩
  rw [e1]
  refine ⟨ds, rfl, fun p vs g' H' G s h1 h2 h3 h4 r => ?_⟩
  have le := gle_add (o := .lst vs) h2
  refine k _ (g'.add p (.lst vs)) H' (G.freeze h1 h2 h3) ⟨s.le.trans le, s.keep, s.there, fun a ha => ?_, s.newA⟩ (.lst (by exact upd_same) (r.mono le))
  by_cases e : a = p
  · subst e; exact .inr (.inl h4)
  · have ha' : upd g'.F p (.lst vs) a ≠ none := ha
    rw [upd_ne e] at ha'
    exact s.newF a ha'

/-! ### names, constants -/
def sVar (i : Nat) : SE := fun ρ S => match ρ[i]? with
  | some (some d) => .ok d S
  | _ => .bad
def sC (d : D) : SE := fun _ S => .ok d S
theorem sVar_ex {i : Nat} {ρ : DEnv} {S : Sto} {P : D → Sto → Prop} (h : (sVar i ρ S).post P) : ∃ d, ρ[i]? = some (some d) ∧ P d S := by
  unfold sVar at h
  split at h
  · exact ⟨_, ‹_›, h⟩
  · exact h.elim
theorem sim_var {i : Nat} {x : Str} (h : PE X (.Name x pos) (tVar i)) (hi : i ∉ own) : SimE X own (.Name x pos) (sVar i) := pe_weak h fun σ H Q ⟨g0, H0, ρ, g, S, E, q⟩ => by
  obtain ⟨d, h1, k⟩ := sVar_ex q
  obtain ⟨v, h2, r⟩ := E.fro i d h1 hi
  exact ⟨v, h2, k v g H E.gok .refl r⟩
/-- a name that is read where it stands: a list of the body's own, too (not an instance in the making) -/
def noObj : D → Bool
  | .obj _ _ => false
  | _ => true
def sVarR (i : Nat) : SE := fun ρ S => match ρ[i]? with
  | some (some d) => if noObj d then .ok d S else .bad
  | _ => .bad
theorem sim_varR {i : Nat} {x : Str} (h : PE X (.Name x pos) (tVar i)) : SimR X own (.Name x pos) (sVarR i) := pe_weak h fun σ H Q ⟨g0, H0, ρ, g, S, E, q⟩ => by
  unfold sVarR at q
  split at q
  · rename_i d h1
    split at q
    · rename_i hn
      obtain ⟨v, h2, r⟩ := E.read h1 fun c fs _ e => by subst e; cases hn
      exact ⟨v, h2, q v g H E.gok .refl r⟩
    · exact q.elim
  · exact q.elim
theorem sim_c {v : V} {d : D} (h : PE X e (tC v)) (r : ∀ g, Rep X.K X.mg g v d) : SimE X own e (sC d) := pe_weak h fun σ H Q ⟨g0, H0, ρ, g, S, E, q⟩ => q v g H E.gok .refl (r g)
theorem sim_int {i j} : SimE X own (.Constant (.int i) j pos) (sC (.int i)) := sim_c pe_int fun _ => .int i
theorem sim_bl {b j} : SimE X own (.Constant (.bool b) j pos) (sC (.bl b)) := sim_c pe_bl fun _ => .bl b
theorem sim_non {j} : SimE X own (.Constant .none j pos) (sC .non) := sim_c pe_non fun _ => .non
theorem sim_str {x j} : SimE X own (.Constant (.str x) j pos) (sC (.str x)) := sim_c pe_str fun _ => .str x
theorem sim_gint {x : Str} {i : Int} (hg : Gl X x) (hm : ∃ t, X.mg x = some (.int i t)) (hd : (x == ("__debug__" : Str)) = false := by decide) : SimE X own (.Name x pos) (sC (.int i)) := by
  obtain ⟨t, ht⟩ := hm
  exact sim_c (pe_glob hg ht (v := .int i) ⟨t, rfl⟩ hd) fun _ => .int i
theorem sim_gstr {x z : Str} (hg : Gl X x) (hm : ∃ t, X.mg x = some (.str z t)) (hd : (x == ("__debug__" : Str)) = false := by decide) : SimE X own (.Name x pos) (sC (.str z)) := by
  obtain ⟨t, ht⟩ := hm
  exact sim_c (pe_glob hg ht (v := .str z) ⟨t, rfl⟩ hd) fun _ => .str z

/-! ### operations on values -/
def sOp2 (f : D → D → Option D) (sa sb : SE) : SE := fun ρ S => (sa ρ S).then fun x S1 => (sb ρ S1).then fun y S2 => optR (f x y) S2
def sOp1 (f : D → Option D) (sa : SE) : SE := fun ρ S => (sa ρ S).then fun x S1 => optR (f x) S1
def Op2 (X : Cx) (f : D → D → Option D) (r : R2) : Prop := ∀ (g : Gh) (H : Hp) (S : Sto) (x y : V) (a b d : D) (Q : VK), GOk X.K X.mg g H S → RepR X.K X.mg g H x a → RepR X.K X.mg g H y b → f a b = some d →
  (∀ v g' H', GOk X.K X.mg g' H' S → Stp g H g' H' → Rep X.K X.mg g' v d → Q v H') → r x y H Q
def Op1 (X : Cx) (f : D → Option D) (r : V → Hp → VK → Prop) : Prop := ∀ (g : Gh) (H : Hp) (S : Sto) (x : V) (a d : D) (Q : VK), GOk X.K X.mg g H S → RepR X.K X.mg g H x a → f a = some d →
  (∀ v g' H', GOk X.K X.mg g' H' S → Stp g H g' H' → Rep X.K X.mg g' v d → Q v H') → r x H Q
theorem two_of {f : D → D → Option D} {r : R2} (hf : Op2 X f r) {σ : L2.St} {H : Hp} {Q : VK} (h : tE X own (sOp2 f sa sb) σ H Q) : tOp r (tR X own sa) (tR X own sb) σ H Q := by
  obtain ⟨g0, H0, ρ, g, S, E, q⟩ := h
  obtain ⟨d, S', e1, k⟩ := Res.post_ex q
  obtain ⟨x, S1, e2, e1⟩ := Res.then_ex e1
  obtain ⟨y, S2, e3, e1⟩ := Res.then_ex e1
  obtain ⟨e4, rfl⟩ := optR_ex e1
  refine ⟨g0, H0, ρ, g, S, E, ?_⟩
  rw [e2]
  intro v g1 H1 G1 s1 r1
  refine ⟨g0, H0, ρ, g1, S1, E.step G1 s1, ?_⟩
  rw [e3]
  intro v2 g2 H2 G2 s2 r2
  exact hf g2 H2 S2 v v2 x y d Q G2 (r1.step s2) r2 e4 fun v3 g3 H3 G3 s3 r3 => k v3 g3 H3 G3 ((s1.trans s2).trans s3) r3
theorem sim_op {op : Operator} {f : D → D → Option D} {r : R2} (ho : OpR X (binaryOp op) r) (hf : Op2 X f r) (ha : SimR X own a sa) (hb : SimR X own b sb) : SimE X own (.BinOp a op b pos) (sOp2 f sa sb) :=
  pe_weak (pe_op ho ha hb) fun _ _ _ h => two_of hf h
theorem sim_cmp {op : CmpOp} {f : D → D → Option D} {r : R2} (ho : OpR X (compareOp op) r) (hf : Op2 X f r) (ha : SimR X own a sa) (hb : SimR X own b sb) (hm : behindInMarks op b = false) : SimE X own (.Compare a [op] [b] pos) (sOp2 f sa sb) :=
  pe_weak (pe_cmpR ho ha hb hm) fun _ _ _ h => two_of hf h
def sBool (se : SE) : SB := fun ρ S => (se ρ S).then fun d S' => match d with
  | .bl b => .ok b S'
  | _ => .bad
theorem sBool_of {σ : L2.St} {H : Hp} {Q : Bool → Hp → Prop} (h : tB X own (sBool se) σ H Q) : tE X own se σ H fun v H' => ∃ k, v = .bl k ∧ Q k H' := by
  obtain ⟨g0, H0, ρ, g, S, E, q⟩ := h
  obtain ⟨b, S', e1, k⟩ := Res.post_ex q
  obtain ⟨d, S1, e2, e1⟩ := Res.then_ex e1
  refine ⟨g0, H0, ρ, g, S, E, ?_⟩
  rw [e2]
  intro v g' H' G s r
  cases d with
  | bl x =>
    cases e1
    cases r
    exact ⟨b, rfl, k g' H' G s⟩
  | _ => cases e1
theorem sim_cmpT {op : CmpOp} {f : D → D → Option D} {r : R2} (ho : OpR X (compareOp op) r) (hf : Op2 X f r) (ha : SimR X own a sa) (hb : SimR X own b sb) (hm : behindInMarks op b = false) : SimT X own (.Compare a [op] [b] pos) (sBool (sOp2 f sa sb)) :=
  pt_weak (pt_cmpR ho ha hb hm) fun _ _ _ h => two_of hf (sBool_of h)
theorem sim_un {op : UnaryOp} {f : D → Option D} {r : V → Hp → VK → Prop} (ho : UnR X (unaryOp op) r) (hf : Op1 X f r) (ha : SimR X own a sa) : SimE X own (.UnaryOp op a pos) (sOp1 f sa) :=
  pe_weak (pe_un ho ha) fun σ H Q ⟨g0, H0, ρ, g, S, E, q⟩ => by
    obtain ⟨d, S', e1, k⟩ := Res.post_ex q
    obtain ⟨x, S1, e2, e1⟩ := Res.then_ex e1
    obtain ⟨e4, rfl⟩ := optR_ex e1
    refine ⟨g0, H0, ρ, g, S, E, ?_⟩
    rw [e2]
    intro v g1 H1 G1 s1 r1
    exact hf g1 H1 S1 v x d Q G1 r1 e4 fun v3 g3 H3 G3 s3 r3 => k v3 g3 H3 G3 (s1.trans s3) r3
/-- a < b < c -/
def sChain (f f' : D → D → Option D) (sa sb sc : SE) : SE := fun ρ S => (sa ρ S).then fun x S1 => (sb ρ S1).then fun y S2 => (optR (f x y) S2).then fun z S3 => match z with
  | .bl true => (sc ρ S3).then fun w S4 => optR (f' y w) S4
  | .bl false => .ok (.bl false) S3
  | _ => .bad

/-! ### tests -/
def dTruth : D → Option Bool
  | .non => some false
  | .bl b => some b
  | .int i => some (i != 0)
  | .str x => if x.length ≤ sizeLine then some ((x.length : Int) != 0) else none
  | .tup xs => some (!xs.isEmpty)
  | .lst xs => some (!xs.isEmpty)
  | _ => none
theorem reps_empty {K : PySem.W.Frag} {mg : Str → Option Value} {g : Gh} {vs : List V} {ds : List D} (r : Reps K mg g vs ds) : (!vs.isEmpty) = !ds.isEmpty := by cases r <;> rfl
theorem tru_of {g : Gh} {H : Hp} {S : Sto} {v : V} {d : D} {k : Bool} (G : GOk X.K X.mg g H S) (r : RepR X.K X.mg g H v d) (h : dTruth d = some k) : TruV X.K v H k := by
  cases d with
  | non => cases r.non; cases h; rfl
  | bl b => cases r.bl; cases h; rfl
  | int i => cases r.int; cases h; rfl
  | str x =>
    cases r.str
    have h' : (if x.length ≤ sizeLine then some ((x.length : Int) != 0) else none) = some k := h
    split at h'
    · cases h'; exact ⟨‹_›, rfl⟩
    · cases h'
  | tup xs =>
    obtain ⟨p, vs, rfl, hp, rs⟩ := r.tup G
    cases h
    exact .inr (.inl ⟨vs, SqT.of hp, (reps_empty rs).symm⟩)
  | lst xs =>
    obtain ⟨p, vs, rfl, hp, rs⟩ := r.lst G
    cases h
    exact .inl ⟨vs, SqL.of hp, (reps_empty rs).symm⟩
  | _ => cases h
def sTru (se : SE) : SB := fun ρ S => (se ρ S).then fun d S' => optR (dTruth d) S'
theorem sim_truth (ha : SimR X own a sa) (he : ∀ whole, isTrue a X.env whole = (do let v ← whole; standAt a.pos; holding [v] (truthy v)) := by intro _; rfl) : SimT X own a (sTru sa) :=
  pt_weak (pt_truth ha he) fun σ H Q ⟨g0, H0, ρ, g, S, E, q⟩ => by
    obtain ⟨b, S', e1, k⟩ := Res.post_ex q
    obtain ⟨d, S1, e2, e1⟩ := Res.then_ex e1
    obtain ⟨e3, rfl⟩ := optR_ex e1
    refine ⟨g0, H0, ρ, g, S, E, ?_⟩
    rw [e2]
    exact fun v g' H' G s r => ⟨b, tru_of G r e3, k g' H' G s⟩
def sNotB (sb : SB) : SB := fun ρ S => (sb ρ S).then fun b S' => .ok (!b) S'
def sAndB (sb sc : SB) : SB := fun ρ S => (sb ρ S).then fun b S' => if b then sc ρ S' else .ok false S'
def sOrB (sb sc : SB) : SB := fun ρ S => (sb ρ S).then fun b S' => if b then .ok true S' else sc ρ S'
variable {ba bb : SB} {rest : List Expr}
theorem sim_notT (h : SimT X own a ba) : SimT X own (.UnaryOp .Not a pos) (sNotB ba) := pt_weak (pt_not h) fun σ H Q ⟨g0, H0, ρ, g, S, E, q⟩ => by
  obtain ⟨b, S', e1, k⟩ := Res.post_ex q
  obtain ⟨d, S1, e2, e1⟩ := Res.then_ex e1
  cases e1
  refine ⟨g0, H0, ρ, g, S, E, ?_⟩
  rw [e2]
  exact k
theorem sim_and1 (h : SimT X own a ba) : SimW X own (.BoolOp .And [a] pos) ba := pw_and1 h
theorem sim_or1 (h : SimT X own a ba) : SimW X own (.BoolOp .Or [a] pos) ba := pw_or1 h
theorem sim_andW (h : SimT X own a ba) (h2 : SimW X own (.BoolOp .And (b :: rest) pos) bb) : SimW X own (.BoolOp .And (a :: b :: rest) pos) (sAndB ba bb) := pw_weak (pw_and h h2) fun σ H Q ⟨g0, H0, ρ, g, S, E, q⟩ => by
  obtain ⟨c, S', e1, k⟩ := Res.post_ex q
  obtain ⟨d, S1, e2, e1⟩ := Res.then_ex e1
  refine ⟨g0, H0, ρ, g, S, E, ?_⟩
  rw [e2]
  intro g' H' G s
  cases d with
  | true =>
    refine ⟨g0, H0, ρ, g', S1, E.step G s, ?_⟩
    have e1' : bb ρ S1 = .ok c S' := e1
    rw [e1']
    exact fun g2 H2 G2 s2 => k g2 H2 G2 (s.trans s2)
  | false =>
    have e1' : (Res.ok false S1 : Res Bool) = .ok c S' := e1
    cases e1'
    exact k g' H' G s
theorem sim_orW (h : SimT X own a ba) (h2 : SimW X own (.BoolOp .Or (b :: rest) pos) bb) : SimW X own (.BoolOp .Or (a :: b :: rest) pos) (sOrB ba bb) := pw_weak (pw_or h h2) fun σ H Q ⟨g0, H0, ρ, g, S, E, q⟩ => by
  obtain ⟨c, S', e1, k⟩ := Res.post_ex q
  obtain ⟨d, S1, e2, e1⟩ := Res.then_ex e1
  refine ⟨g0, H0, ρ, g, S, E, ?_⟩
  rw [e2]
  intro g' H' G s
  cases d with
  | false =>
    refine ⟨g0, H0, ρ, g', S1, E.step G s, ?_⟩
    have e1' : bb ρ S1 = .ok c S' := e1
    rw [e1']
    exact fun g2 H2 G2 s2 => k g2 H2 G2 (s.trans s2)
  | true =>
    have e1' : (Res.ok true S1 : Res Bool) = .ok c S' := e1
    cases e1'
    exact k g' H' G s
theorem SimW.t {ba : SB} (h : SimW X own e ba) : SimT X own e ba := PW.pt h
/-- and, or, not as values -/
def sAndV (sa sb : SE) : SE := fun ρ S => (sBool sa ρ S).then fun b S' => if b then sb ρ S' else .ok (.bl false) S'
def sOrV (sa sb : SE) : SE := fun ρ S => (sBool sa ρ S).then fun b S' => if b then .ok (.bl true) S' else sb ρ S'
def sNotV (sb : SB) : SE := fun ρ S => (sb ρ S).then fun b S' => .ok (.bl (!b)) S'
theorem sBool_run {ρ : DEnv} {S S1 : Sto} {b : Bool} (e : sBool sa ρ S = .ok b S1) : sa ρ S = .ok (.bl b) S1 := by
  obtain ⟨d, S2, e2, e1⟩ := Res.then_ex e
  cases d with
  | bl x => cases e1; exact e2
  | _ => cases e1
theorem sim_one {op} (h : SimE X own a sa) : SimE X own (.BoolOp op [a] pos) sa := pe_one h
theorem sim_andV (h : SimE X own a sa) (h2 : SimE X own (.BoolOp .And (b :: rest) pos) sb) : SimE X own (.BoolOp .And (a :: b :: rest) pos) (sAndV sa sb) := pe_weak (pe_and h h2) fun σ H Q ⟨g0, H0, ρ, g, S, E, q⟩ => by
  obtain ⟨c, S', e1, k⟩ := Res.post_ex q
  obtain ⟨d, S1, e2, e1⟩ := Res.then_ex e1
  refine ⟨g0, H0, ρ, g, S, E, ?_⟩
  rw [sBool_run e2]
  intro v g' H' G s r
  cases r
  refine ⟨d, rfl, ?_⟩
  cases d with
  | true =>
    rw [if_pos rfl]
    refine ⟨g0, H0, ρ, g', S1, E.step G s, ?_⟩
    have e1' : sb ρ S1 = .ok c S' := e1
    rw [e1']
    exact fun v2 g2 H2 G2 s2 r2 => k v2 g2 H2 G2 (s.trans s2) r2
  | false =>
    rw [if_neg Bool.false_ne_true]
    have e1' : (Res.ok (.bl false) S1 : Res D) = .ok c S' := e1
    cases e1'
    exact k _ g' H' G s (.bl false)
theorem sim_orV (h : SimE X own a sa) (h2 : SimE X own (.BoolOp .Or (b :: rest) pos) sb) : SimE X own (.BoolOp .Or (a :: b :: rest) pos) (sOrV sa sb) := pe_weak (pe_or h h2) fun σ H Q ⟨g0, H0, ρ, g, S, E, q⟩ => by
  obtain ⟨c, S', e1, k⟩ := Res.post_ex q
  obtain ⟨d, S1, e2, e1⟩ := Res.then_ex e1
  refine ⟨g0, H0, ρ, g, S, E, ?_⟩
  rw [sBool_run e2]
  intro v g' H' G s r
  cases r
  refine ⟨d, rfl, ?_⟩
  cases d with
  | false =>
    rw [if_neg Bool.false_ne_true]
    refine ⟨g0, H0, ρ, g', S1, E.step G s, ?_⟩
    have e1' : sb ρ S1 = .ok c S' := e1
    rw [e1']
    exact fun v2 g2 H2 G2 s2 r2 => k v2 g2 H2 G2 (s.trans s2) r2
  | true =>
    rw [if_pos rfl]
    have e1' : (Res.ok (.bl true) S1 : Res D) = .ok c S' := e1
    cases e1'
    exact k _ g' H' G s (.bl true)
theorem sim_notV (h : SimR X own a sa) : SimE X own (.UnaryOp .Not a pos) (sNotV (sTru sa)) := pe_weak (pe_notT h) fun σ H Q ⟨g0, H0, ρ, g, S, E, q⟩ => by
  obtain ⟨c, S', e1, k⟩ := Res.post_ex q
  obtain ⟨d, S1, e2, e1⟩ := Res.then_ex e1
  obtain ⟨x, S2, e3, e2⟩ := Res.then_ex e2
  obtain ⟨e4, rfl⟩ := optR_ex e2
  cases e1
  refine ⟨g0, H0, ρ, g, S, E, ?_⟩
  rw [e3]
  exact fun v g' H' G s r => ⟨d, tru_of G r e4, k _ g' H' G s (.bl _)⟩
/-- a if t else b -/
def sIfE (st : SB) (sa sb : SE) : SE := fun ρ S => (st ρ S).then fun c S' => if c then sa ρ S' else sb ρ S'
theorem sim_if {t : Expr} {st : SB} (h : SimT X own t st) (ha : SimE X own a sa) (hb : SimE X own b sb) : SimE X own (.IfExp t a b pos) (sIfE st sa sb) := pe_weak (pe_ifExp h ha hb) fun σ H Q ⟨g0, H0, ρ, g, S, E, q⟩ => by
  obtain ⟨c, S', e1, k⟩ := Res.post_ex q
  obtain ⟨d, S1, e2, e1⟩ := Res.then_ex e1
  refine ⟨g0, H0, ρ, g, S, E, ?_⟩
  rw [e2]
  intro g' H' G s
  cases d with
  | true =>
    rw [if_pos rfl]
    refine ⟨g0, H0, ρ, g', S1, E.step G s, ?_⟩
    have e1' : sa ρ S1 = .ok c S' := e1
    rw [e1']
    exact fun v2 g2 H2 G2 s2 r2 => k v2 g2 H2 G2 (s.trans s2) r2
  | false =>
    rw [if_neg Bool.false_ne_true]
    refine ⟨g0, H0, ρ, g', S1, E.step G s, ?_⟩
    have e1' : sb ρ S1 = .ok c S' := e1
    rw [e1']
    exact fun v2 g2 H2 G2 s2 r2 => k v2 g2 H2 G2 (s.trans s2) r2
theorem chain_of {f f' : D → D → Option D} {r r' : R2} (hf : Op2 X f r) (hf' : Op2 X f' r') {σ : L2.St} {H : Hp} {Q : VK} (h : tE X own (sChain f f' sa sb sc) σ H Q) : tChain r r' (tR X own sa) (tR X own sb) (tR X own sc) σ H Q := by
  obtain ⟨g0, H0, ρ, g, S, E, q⟩ := h
  obtain ⟨d, S', e1, k⟩ := Res.post_ex q
  obtain ⟨x, S1, e2, e1⟩ := Res.then_ex e1
  obtain ⟨y, S2, e3, e1⟩ := Res.then_ex e1
  obtain ⟨z, S3, e4, e1⟩ := Res.then_ex e1
  obtain ⟨e4', eS⟩ := optR_ex e4
  subst eS
  refine ⟨g0, H0, ρ, g, S, E, ?_⟩
  rw [e2]
  intro v g1 H1 G1 s1 r1
  refine ⟨g0, H0, ρ, g1, S1, E.step G1 s1, ?_⟩
  rw [e3]
  intro v2 g2 H2 G2 s2 r2
  refine hf g2 H2 S2 v v2 x y z _ G2 (r1.step s2) r2 e4' fun v3 g3 H3 G3 s3 r3 => ?_
  cases z with
  | bl bz =>
    cases r3
    refine ⟨bz, rfl, ?_⟩
    cases bz with
    | false =>
      rw [if_neg Bool.false_ne_true]
      have e1' : (Res.ok (.bl false) S2 : Res D) = .ok d S' := e1
      cases e1'
      exact k _ g3 H3 G3 ((s1.trans s2).trans s3) (.bl false)
    | true =>
      rw [if_pos rfl]
      have e1' : ((sc ρ S2).then fun w S4 => optR (f' y w) S4) = .ok d S' := e1
      obtain ⟨w, S4, e5, e6⟩ := Res.then_ex e1'
      obtain ⟨e6', eS⟩ := optR_ex e6
      subst eS
      refine ⟨g0, H0, ρ, g3, S2, E.step G3 ((s1.trans s2).trans s3), ?_⟩
      rw [e5]
      intro v4 g4 H4 G4 s4 r4
      exact hf' g4 H4 S4 v2 v4 y w d Q G4 ((r2.step s3).step s4) r4 e6' fun v5 g5 H5 G5 s5 r5 => k v5 g5 H5 G5 ((((s1.trans s2).trans s3).trans s4).trans s5) r5
  | _ => cases e1
theorem sim_chain {op op' : CmpOp} {f f' : D → D → Option D} {r r' : R2} (ho : OpR X (compareOp op) r) (ho' : OpR X (compareOp op') r') (hf : Op2 X f r) (hf' : Op2 X f' r') (ha : SimR X own a sa) (hb : SimR X own b sb) (hc : SimR X own c sc)
    (hm : lastMarks [op, op'] [b, c] = false := by with_unfolding_all rfl) : SimE X own (.Compare a [op, op'] [b, c] pos) (sChain f f' sa sb sc) :=
  pe_weak (pe_chain ho ho' ha hb hc hm) fun _ _ _ h => chain_of hf hf' h
theorem sim_chainT {op op' : CmpOp} {f f' : D → D → Option D} {r r' : R2} (ho : OpR X (compareOp op) r) (ho' : OpR X (compareOp op') r') (hf : Op2 X f r) (hf' : Op2 X f' r') (ha : SimR X own a sa) (hb : SimR X own b sb) (hc : SimR X own c sc)
    (hm : lastMarks [op, op'] [b, c] = false := by with_unfolding_all rfl) : SimT X own (.Compare a [op, op'] [b, c] pos) (sBool (sChain f f' sa sb sc)) :=
  pt_weak (pt_chain ho ho' ha hb hc hm) fun _ _ _ h => chain_of hf hf' (sBool_of h)
end
end Ev
namespace Ev
open PySem PySem.Spec PyProof.Rows L2
section
variable {K : PySem.W.Frag} {mg : Str → Option Value} {g : Gh} {H : Hp} {S : Sto} {p : Addr} {vs : List V} {ds : List D}
theorem Rep.newT (G : GOk K mg g H S) (h : H p = none) (r : Reps K mg g vs ds) : Rep K mg (g.add p (.tup vs)) (.ref p) (.tup ds) := .tup upd_same (r.mono (gle_add (G.nfree h)))
theorem Rep.newL (G : GOk K mg g H S) (h : H p = none) (r : Reps K mg g vs ds) : Rep K mg (g.add p (.lst vs)) (.ref p) (.lst ds) := .lst upd_same (r.mono (gle_add (G.nfree h)))
end
/-! ### operators -/
def dAdd : D → D → Option D
  | .int i, .int j => some (.int (i + j))
  | .str x, .str y => if x.length + y.length ≤ sizeLine then some (.str (x ++ y)) else none
  | .tup xs, .tup ys => if xs.length + ys.length ≤ sizeLine then some (.tup (xs ++ ys)) else none
  | .lst xs, .lst ys => if xs.length + ys.length ≤ sizeLine then some (.lst (xs ++ ys)) else none
  | _, _ => none
def dSub : D → D → Option D
  | .int i, .int j => some (.int (i - j))
  | _, _ => none
theorem lg_lt {n k : Nat} (h : n.log2 < k) : n < 2 ^ k := by
  by_cases z : n = 0
  · subst z; exact Nat.two_pow_pos k
  · exact (Nat.log2_lt z).mp h
theorem lt_lg {n k : Nat} (hk : 0 < k) (h : n < 2 ^ k) : n.log2 < k := by
  by_cases z : n = 0
  · subst z; simpa using hk
  · exact (Nat.log2_lt z).mpr h
/-- guards: sizes by their logarithms -/
@[irreducible] def cMul (i j : Int) : Bool := decide (i.natAbs.log2 < 64) || decide (j.natAbs.log2 < 64)
@[irreducible] def fdOk (j : Int) : Bool := decide (j ≠ 0 ∧ j.natAbs.log2 < 30)
theorem fdOk_ok {j : Int} (h : fdOk j = true) : j ≠ 0 ∧ j.natAbs < 1073741824 := by
  unfold fdOk at h
  have h := of_decide_eq_true h
  exact ⟨h.1, lg_lt h.2⟩
theorem fdOk_of {j : Int} (h : j ≠ 0) (h2 : j.natAbs < 1073741824) : fdOk j = true := by
  unfold fdOk
  exact decide_eq_true ⟨h, lt_lg (by decide) h2⟩
@[irreducible] def pwOk (i j : Int) : Bool := decide (0 ≤ j ∧ j.natAbs.log2 < 19 ∧ i.natAbs.log2 < 64)
theorem pwOk_ok {i j : Int} (h : pwOk i j = true) : 0 ≤ j ∧ j ≤ 1000000 ∧ i.natAbs < 18446744073709551616 := by
  unfold pwOk at h
  have h := of_decide_eq_true h
  have h2 := lg_lt h.2.1
  have e : (2 : Nat) ^ 19 = 524288 := by decide
  exact ⟨h.1, by omega, lg_lt h.2.2⟩
theorem pwOk_of {i j : Int} (h : 0 ≤ j) (h1 : j < 524288) (h2 : i.natAbs < 18446744073709551616) : pwOk i j = true := by
  unfold pwOk
  have e : (2 : Nat) ^ 19 = 524288 := by decide
  exact decide_eq_true ⟨h, lt_lg (by decide) (by omega), lt_lg (by decide) h2⟩
@[irreducible] def rpOk (n : Nat) (k : Int) : Bool := decide (k.natAbs.log2 < 63 ∧ n * k.toNat ≤ sizeLine)
theorem rpOk_ok {n : Nat} {k : Int} (h : rpOk n k = true) : -9223372036854775808 ≤ k ∧ k < 9223372036854775808 ∧ n * k.toNat ≤ sizeLine := by
  unfold rpOk at h
  have h := of_decide_eq_true h
  have h2 := lg_lt h.1
  have e : (2 : Nat) ^ 63 = 9223372036854775808 := by decide
  exact ⟨by omega, by omega, h.2⟩
theorem rpOk_of {n : Nat} {k : Int} (h : k.natAbs < 9223372036854775808) (h2 : n * k.toNat ≤ sizeLine) : rpOk n k = true := by
  unfold rpOk
  exact decide_eq_true ⟨lt_lg (by decide) h, h2⟩
def dMul : D → D → Option D
  | .int i, .int j => if cMul i j then some (.int (i * j)) else none
  | .lst xs, .int k => if rpOk xs.length k then some (.lst (List.replicate k.toNat xs).flatten) else none
  | _, _ => none
def dFdiv : D → D → Option D
  | .int i, .int j => if fdOk j then some (.int (i.fdiv j)) else none
  | _, _ => none
def dMod : D → D → Option D
  | .int i, .int j => if j ≠ 0 then some (.int (i.fmod j)) else none
  | _, _ => none
def dPow : D → D → Option D
  | .int i, .int j => if pwOk i j then some (.int (i ^ j.toNat)) else none
  | _, _ => none
def dNeg : D → Option D
  | .int i => some (.int (-i))
  | _ => none
section
variable {X : Cx}
theorem op2_add : Op2 X dAdd (fun x y H Q => (rI0 (fun i j => .int (i + j)) x y H Q ∨ (∃ i j, x = .str i ∧ y = .str j ∧ i.length + j.length ≤ sizeLine ∧ Q (.str (i ++ j)) H)) ∨ (rCatA X.K x y H Q ∨ rCat x y H Q)) := by
  intro g H S x y a b d Q G ra rb e k
  unfold dAdd at e
  split at e
  · cases e
    cases ra.int
    cases rb.int
    exact .inl (.inl ⟨_, _, rfl, rfl, k _ g H G .refl (.int _)⟩)
  · split at e
    · cases e
      cases ra.str
      cases rb.str
      exact .inl (.inr ⟨_, _, rfl, rfl, by assumption, k _ g H G .refl (.str _)⟩)
    · cases e
  · split at e
    · rename_i xs ys hz
      cases e
      have fa := ra.rep (fun _ e => nomatch e)
      have fb := rb.rep (fun _ e => nomatch e)
      obtain ⟨p, vs, rfl, hp, rs⟩ := ra.tup G
      obtain ⟨q, ws, rfl, hq, rt⟩ := rb.tup G
      refine .inr (.inl ⟨p, q, vs, ws, rfl, rfl, SqT.of hp, SqT.of hq, by rw [rs.length, rt.length]; exact hz, fun e => ?_, fun _ e => ?_, fun _ _ l hl => ?_⟩)
      · subst e
        cases rs
        exact k _ g H G .refl fb
      · subst e
        cases rt
        rw [List.append_nil] at k
        exact k _ g H G .refl fa
      · exact k _ _ _ (G.add hl) (stp_add G hl) (.newT G hl (rs.append rt))
    · cases e
  · split at e
    · rename_i xs ys hz
      cases e
      obtain ⟨p, vs, rfl, hp, rs⟩ := ra.lst G
      obtain ⟨q, ws, rfl, hq, rt⟩ := rb.lst G
      refine .inr (.inr ⟨p, q, vs, ws, rfl, rfl, hp, hq, by rw [rs.length, rt.length]; exact hz, fun l hl => ?_⟩)
      exact k _ _ _ (G.add hl) (stp_add G hl) (.newL G hl (rs.append rt))
    · cases e
  · cases e
theorem opr_add : OpR X (binaryOp .Add) (fun x y H Q => (rI0 (fun i j => .int (i + j)) x y H Q ∨ (∃ i j, x = .str i ∧ y = .str j ∧ i.length + j.length ≤ sizeLine ∧ Q (.str (i ++ j)) H)) ∨ (rCatA X.K x y H Q ∨ rCat x y H Q)) :=
  (op_add.or op_add_str).or (op_catA.or op_cat)
theorem op2_sub : Op2 X dSub (rI0 fun i j => .int (i - j)) := by
  intro g H S x y a b d Q G ra rb e k
  unfold dSub at e
  split at e
  · cases e
    cases ra.int
    cases rb.int
    exact ⟨_, _, rfl, rfl, k _ g H G .refl (.int _)⟩
  · cases e
theorem cMul_ok {i j : Int} (h : cMul i j = true) : CMul i j := by
  unfold cMul at h
  rw [Bool.or_eq_true, decide_eq_true_eq, decide_eq_true_eq] at h
  have e : (2 : Int) ^ 64 = 18446744073709551616 := by decide
  have e2 : (2 : Nat) ^ 64 = 18446744073709551616 := by decide
  unfold CMul
  rw [e]
  rcases h with h | h
  · have := lg_lt h
    omega
  · have := lg_lt h
    omega
theorem cMul_of {i j : Int} (h : i.natAbs < 18446744073709551616 ∨ j.natAbs < 18446744073709551616) : cMul i j = true := by
  unfold cMul
  rw [Bool.or_eq_true, decide_eq_true_eq, decide_eq_true_eq]
  exact h.imp (lt_lg (by decide)) (lt_lg (by decide))
theorem op2_mul : Op2 X dMul (fun x y H Q => rI CMul (fun i j => .int (i * j)) x y H Q ∨ rRep x y H Q) := by
  intro g H S x y a b d Q G ra rb e k
  unfold dMul at e
  split at e
  · split at e
    · cases e
      cases ra.int
      cases rb.int
      exact .inl ⟨_, _, rfl, rfl, cMul_ok (by assumption), k _ g H G .refl (.int _)⟩
    · cases e
  · split at e
    · rename_i hz
      replace hz := rpOk_ok hz
      cases e
      cases rb.int
      obtain ⟨p, vs, rfl, hp, rs⟩ := ra.lst G
      have e63 : (2 : Int) ^ 63 = 9223372036854775808 := by decide
      refine .inr ⟨p, _, vs, rfl, rfl, hp, by rw [e63]; exact hz.1, by rw [e63]; exact hz.2.1, by rw [rs.length]; exact hz.2.2, fun l hl => ?_⟩
      exact k _ _ _ (G.add hl) (stp_add G hl) (.newL G hl (rs.rep _))
    · cases e
  · cases e
theorem opr_mul : OpR X (binaryOp .Mult) (fun x y H Q => rI CMul (fun i j => .int (i * j)) x y H Q ∨ rRep x y H Q) := op_mul.or op_rep
theorem op2_fdiv : Op2 X dFdiv (rI CDivN fun i j => .int (i.fdiv j)) := by
  intro g H S x y a b d Q G ra rb e k
  unfold dFdiv at e
  split at e
  · split at e
    · cases e
      cases ra.int
      cases rb.int
      exact ⟨_, _, rfl, rfl, fdOk_ok (by assumption), k _ g H G .refl (.int _)⟩
    · cases e
  · cases e
theorem op2_mod : Op2 X dMod (rI (fun _ j => j ≠ 0) fun i j => .int (i.fmod j)) := by
  intro g H S x y a b d Q G ra rb e k
  unfold dMod at e
  split at e
  · split at e
    · cases e
      cases ra.int
      cases rb.int
      exact ⟨_, _, rfl, rfl, by assumption, k _ g H G .refl (.int _)⟩
    · cases e
  · cases e
theorem op2_pow : Op2 X dPow (rI CPow fun i j => .int (i ^ j.toNat)) := by
  intro g H S x y a b d Q G ra rb e k
  unfold dPow at e
  split at e
  · split at e
    · cases e
      cases ra.int
      cases rb.int
      exact ⟨_, _, rfl, rfl, pwOk_ok (by assumption), k _ g H G .refl (.int _)⟩
    · cases e
  · cases e
theorem op1_neg : Op1 X dNeg (rU fun i => .int (-i)) := by
  intro g H S x a d Q G ra e k
  unfold dNeg at e
  split at e
  · cases e
    cases ra.int
    exact ⟨_, rfl, k _ g H G .refl (.int _)⟩
  · cases e
/-! ### comparisons -/
def dI2 (f : Int → Int → Bool) : D → D → Option D
  | .int i, .int j => some (.bl (f i j))
  | _, _ => none
theorem op2_i2 (f : Int → Int → Bool) : Op2 X (dI2 f) (rI0 fun i j => .bl (f i j)) := by
  intro g H S x y a b d Q G ra rb e k
  unfold dI2 at e
  split at e
  · cases e
    cases ra.int
    cases rb.int
    exact ⟨_, _, rfl, rfl, k _ g H G .refl (.bl _)⟩
  · cases e
abbrev dLt : D → D → Option D := dI2 fun i j => decide (i < j)
abbrev dLe : D → D → Option D := dI2 fun i j => decide (i ≤ j)
abbrev dGt : D → D → Option D := dI2 fun i j => decide (j < i)
abbrev dGe : D → D → Option D := dI2 fun i j => decide (j ≤ i)
mutual
def D.py : D → Option PyData
  | .non => some .none
  | .bl b => some (.bool b)
  | .int i => some (.int i)
  | .str x => some (.str x)
  | .tup xs => (pyAll xs).map .tuple
  | .lst xs => (pyAll xs).map .list
  | _ => none
def pyAll : List D → Option (List PyData)
  | [] => some []
  | d :: ds => match d.py, pyAll ds with
    | some x, some xs => some (x :: xs)
    | _, _ => none
end
section
variable {K : PySem.W.Frag} {mg : Str → Option Value} {g : Gh} {H : Hp}
mutual
theorem dp_of (hs : Same g.F H) : ∀ {v : V} {d : D} {x : PyData}, Rep K mg g v d → d.py = some x → Dp K H v x
  | _, _, _, .non, e => by cases (show some PyData.none = some _ from e); exact .non
  | _, _, _, .bl b, e => by cases (show some (PyData.bool b) = some _ from e); exact .bl b
  | _, _, _, .int i, e => by cases (show some (PyData.int i) = some _ from e); exact .int i
  | _, _, _, .str x, e => by cases (show some (PyData.str x) = some _ from e); exact .str x
  | _, _, _, .tup (ds := ds) h r, e => by
    have e' : (pyAll ds).map PyData.tuple = some _ := e
    cases q : pyAll ds with
    | none => rw [q] at e'; cases e'
    | some xs => rw [q] at e'; cases e'; exact .tup (SqT.of (hs _ _ h)) (dpAll_of hs r q)
  | _, _, _, .lst (ds := ds) h r, e => by
    have e' : (pyAll ds).map PyData.list = some _ := e
    cases q : pyAll ds with
    | none => rw [q] at e'; cases e'
    | some xs => rw [q] at e'; cases e'; exact .lst (SqL.of (hs _ _ h)) (dpAll_of hs r q)
  | _, _, _, .obj .., e => by cases (show (none : Option PyData) = some _ from e)
  | _, _, _, .mref _, e => by cases (show (none : Option PyData) = some _ from e)
  | _, _, _, .scr _, e => by cases (show (none : Option PyData) = some _ from e)
theorem dpAll_of (hs : Same g.F H) : ∀ {vs : List V} {ds : List D} {xs : List PyData}, Reps K mg g vs ds → pyAll ds = some xs → DpAll K H vs xs
  | _, _, _, .nil, e => by cases (show some ([] : List PyData) = some _ from e); exact .nil
  | _, _, xs, .cons (d := d) (ds := ds) h r, e => by
    have e' : (match d.py, pyAll ds with
      | some x, some xs => some (x :: xs)
      | _, _ => none) = some xs := e
    cases q : d.py with
    | none => rw [q] at e'; cases e'
    | some x => cases q2 : pyAll ds with
      | none => rw [q, q2] at e'; cases e'
      | some ys => rw [q, q2] at e'; cases e'; exact .cons (dp_of hs h q) (dpAll_of hs r q2)
end
theorem dp_read {S : Sto} {v : V} {d : D} {x : PyData} (G : GOk K mg g H S) (r : RepR K mg g H v d) (e : d.py = some x) : Dp K H v x := by
  rcases r with r | ⟨p, vs, ds, rfl, rfl, hp, _, r⟩
  · exact dp_of G.sub r e
  · have e' : (pyAll ds).map PyData.list = some _ := e
    cases q : pyAll ds with
    | none => rw [q] at e'; cases e'
    | some xs => rw [q] at e'; cases e'; exact .lst (SqL.of hp) (dpAll_of G.sub r q)
end
def dEqv (neg : Bool) (a b : D) : Option D := match a.py, b.py with
  | some x, some y => if (SeqAt.shaped x && SeqAt.shaped y) = true then some (.bl (if neg then !PyData.eqv x y else PyData.eqv x y)) else none
  | _, _ => none
abbrev dEq := dEqv false
abbrev dNe := dEqv true
theorem op2_eq : Op2 X dEq (rEqD X.K) := by
  intro g H S x y a b d Q G ra rb e k
  unfold dEq dEqv at e
  split at e
  · rename_i u w q1 q2
    split at e
    · rename_i hz
      cases e
      obtain ⟨h1, h2⟩ := Bool.and_eq_true_iff.mp hz
      exact ⟨u, w, dp_read G ra q1, dp_read G rb q2, h1, h2, k _ g H G .refl (.bl _)⟩
    · cases e
  · cases e
theorem op2_ne : Op2 X dNe (rNeD X.K) := by
  intro g H S x y a b d Q G ra rb e k
  unfold dNe dEqv at e
  split at e
  · rename_i u w q1 q2
    split at e
    · rename_i hz
      cases e
      obtain ⟨h1, h2⟩ := Bool.and_eq_true_iff.mp hz
      exact ⟨u, w, dp_read G ra q1, dp_read G rb q2, h1, h2, k _ g H G .refl (.bl _)⟩
    · cases e
  · cases e
/-- is None, is not None -/
def dIsN (neg : Bool) : D → D → Option D
  | a, .non => some (.bl (match a with
    | .non => !neg
    | _ => neg))
  | _, _ => none
theorem rep_non {K : PySem.W.Frag} {mg : Str → Option Value} {g : Gh} {H : Hp} {v : V} {d : D} (r : RepR K mg g H v d) : decide (v = .non) = (match d with
    | .non => true
    | _ => false) := by
  rcases r with r | ⟨p, vs, ds, rfl, rfl, _⟩
  · cases r <;> rfl
  · rfl
theorem op2_isN : Op2 X (dIsN false) (fun x y H Q => y = .non ∧ Q (.bl (decide (x = .non))) H) := by
  intro g H S x y a b d Q G ra rb e k
  unfold dIsN at e
  split at e
  · cases e
    refine ⟨rb.non, k _ g H G .refl ?_⟩
    rw [rep_non ra]
    cases a <;> exact .bl _
  · cases e
theorem op2_notN : Op2 X (dIsN true) (fun x y H Q => y = .non ∧ Q (.bl (!decide (x = .non))) H) := by
  intro g H S x y a b d Q G ra rb e k
  unfold dIsN at e
  split at e
  · cases e
    refine ⟨rb.non, k _ g H G .refl ?_⟩
    rw [rep_non ra]
    cases a <;> exact .bl _
  · cases e
/-- is True, is not True, of truth values -/
def dIsB (neg : Bool) : D → D → Option D
  | .bl a, .bl b => some (.bl (if neg then !decide (a = b) else decide (a = b)))
  | _, _ => none
theorem op2_isB : Op2 X (dIsB false) rIsB := by
  intro g H S x y a b d Q G ra rb e k
  unfold dIsB at e
  split at e
  · cases e
    cases ra.bl
    cases rb.bl
    exact ⟨_, _, rfl, rfl, k _ g H G .refl (.bl _)⟩
  · cases e
theorem op2_notB : Op2 X (dIsB true) rNotB := by
  intro g H S x y a b d Q G ra rb e k
  unfold dIsB at e
  split at e
  · cases e
    cases ra.bl
    cases rb.bl
    exact ⟨_, _, rfl, rfl, k _ g H G .refl (.bl _)⟩
  · cases e
/-- x in s, texts; x in a list of data -/
def dInS (x y : Str) : Bool := !(Builtin.Str.occurrences y x 0 y.length 1).isEmpty
def dIn (neg : Bool) (a b : D) : Option D := match a, b with
  | .str x, .str y => some (.bl (if neg then !dInS x y else dInS x y))
  | a, .lst ys => (match a.py, pyAll ys with
    | some x, some zs => if (SeqAt.shaped x && SeqAt.shaped (.list zs)) = true then some (.bl (if neg then !zs.any fun z => PyData.eqv z x else zs.any fun z => PyData.eqv z x)) else none
    | _, _ => none)
  | _, _ => none
theorem op2_in : Op2 X (dIn false) (fun x y H Q => (∃ i j, x = .str i ∧ y = .str j ∧ Q (.bl (!(Builtin.Str.occurrences j i 0 j.length 1).isEmpty)) H) ∨ rInD X.K x y H Q) := by
  intro g H S x y a b d Q G ra rb e k
  unfold dIn at e
  split at e
  · cases e
    cases ra.str
    cases rb.str
    exact .inl ⟨_, _, rfl, rfl, k _ g H G .refl (.bl _)⟩
  · rename_i ys
    split at e
    · rename_i u zs q1 q2
      split at e
      · rename_i hz
        cases e
        obtain ⟨h1, h2⟩ := Bool.and_eq_true_iff.mp hz
        refine .inr ⟨u, zs, dp_read G ra q1, dp_read G rb ?_, h1, h2, k _ g H G .refl (.bl _)⟩
        show (pyAll ys).map PyData.list = _
        rw [q2] <;> rfl
      · cases e
    · cases e
  · cases e
theorem op2_notIn : Op2 X (dIn true) (fun x y H Q => (∃ i j, x = .str i ∧ y = .str j ∧ Q (.bl (!(!(Builtin.Str.occurrences j i 0 j.length 1).isEmpty))) H) ∨ rNotInD X.K x y H Q) := by
  intro g H S x y a b d Q G ra rb e k
  unfold dIn at e
  split at e
  · cases e
    cases ra.str
    cases rb.str
    exact .inl ⟨_, _, rfl, rfl, k _ g H G .refl (.bl _)⟩
  · rename_i ys
    split at e
    · rename_i u zs q1 q2
      split at e
      · rename_i hz
        cases e
        obtain ⟨h1, h2⟩ := Bool.and_eq_true_iff.mp hz
        refine .inr ⟨u, zs, dp_read G ra q1, dp_read G rb ?_, h1, h2, k _ g H G .refl (.bl _)⟩
        show (pyAll ys).map PyData.list = _
        rw [q2] <;> rfl
      · cases e
    · cases e
  · cases e
theorem opr_in {k : Nat} (hr : Room k X.A) : OpR X (compareOp .In) (fun x y H Q => (∃ i j, x = .str i ∧ y = .str j ∧ Q (.bl (!(Builtin.Str.occurrences j i 0 j.length 1).isEmpty)) H) ∨ rInD X.K x y H Q) := op_in_str.or (op_inD (by have := hr.un; omega))
theorem opr_notIn {k : Nat} (hr : Room k X.A) : OpR X (compareOp .NotIn) (fun x y H Q => (∃ i j, x = .str i ∧ y = .str j ∧ Q (.bl (!(!(Builtin.Str.occurrences j i 0 j.length 1).isEmpty))) H) ∨ rNotInD X.K x y H Q) := op_notin_str.or (op_notInD (by have := hr.un; omega))

/-! ### subscripts -/
def dIx : D → D → Option D
  | .lst xs, .int i => atI xs i
  | .tup xs, .int i => atI xs i
  | .str z, .int i => if z.length ≤ sizeLine then (atI z.cps.toList i).map fun c => .str ⟨#[c]⟩ else none
  | _, _ => none
theorem atI_reps {K : PySem.W.Frag} {mg : Str → Option Value} {g : Gh} {vs : List V} {ds : List D} {i : Int} {d : D} (r : Reps K mg g vs ds) (e : atI ds i = some d) : ∃ v, atI vs i = some v ∧ Rep K mg g v d := by
  unfold atI at e ⊢
  rw [r.length]
  cases q : ixN ds.length i with
  | none => rw [q] at e; cases e
  | some j =>
    rw [q] at e
    exact r.get e
theorem op2_ix : Op2 X dIx (rIx X.K) := by
  intro g H S x y a b d Q G ra rb e k
  unfold dIx at e
  split at e
  · cases rb.int
    obtain ⟨p, vs, rfl, hp, rs⟩ := ra.lst G
    obtain ⟨v, h1, h2⟩ := atI_reps rs e
    exact .inl ⟨p, vs, _, v, rfl, rfl, SqL.of hp, h1, k v g H G .refl h2⟩
  · cases rb.int
    obtain ⟨p, vs, rfl, hp, rs⟩ := ra.tup G
    obtain ⟨v, h1, h2⟩ := atI_reps rs e
    exact .inr (.inl ⟨p, vs, _, v, rfl, rfl, SqT.of hp, h1, k v g H G .refl h2⟩)
  · cases ra.str
    cases rb.int
    split at e
    · rename_i z i hz
      cases q : atI z.cps.toList i with
      | none => rw [q] at e; cases e
      | some c =>
        rw [q] at e
        cases e
        exact .inr (.inr ⟨_, _, c, rfl, rfl, hz, q, k _ g H G .refl (.str _)⟩)
    · cases e
  · cases e
section
variable {own : List Nat} {e a b : Expr} {se sa sb : SE} {pos p2 : Pos}
theorem sim_ix (ha : SimR X own a sa) (hb : SimR X own b sb) (hs : PlainIx b) : SimE X own (.Subscript a b pos) (sOp2 dIx sa sb) := pe_weak (pe_ix ix_seq ha hb hs) fun _ _ _ h => two_of op2_ix h
/-- a slice's end -/
abbrev SO := DEnv → M (Option Int)
def tO (X : Cx) (own : List Nat) (so : SO) : TO := fun σ H Q => ∃ g0 H0 ρ g S, EnvOk X.K X.mg g0 H0 own ρ σ g H S ∧ (so ρ S).post fun o S' => ∀ g' H', GOk X.K X.mg g' H' S' → Stp g H g' H' → Q o H'
def SimO (X : Cx) (own : List Nat) (e : Option Expr) (so : SO) : Prop := PO X e (tO X own so)
def sNoPart : SO := fun _ S => .ok none S
def sPart (se : SE) : SO := fun ρ S => (se ρ S).then fun d S' => match d with
  | .int i => .ok (some i) S'
  | _ => .bad
theorem po_weak {o : Option Expr} {t t' : TO} (h : PO X o t) (w : ∀ σ H Q, t' σ H Q → t σ H Q) : PO X o t' := ⟨fun pins s σ H Q I q => h.run pins s σ H Q I (w σ H Q q)⟩
theorem sim_noPart : SimO X own none sNoPart := po_weak po_none fun σ H Q ⟨g0, H0, ρ, g, S, E, q⟩ => q g H E.gok .refl
theorem sim_part (h : SimE X own e se) : SimO X own (some e) (sPart se) := po_weak (po_some h) fun σ H Q ⟨g0, H0, ρ, g, S, E, q⟩ => by
  obtain ⟨o, S', e1, k⟩ := Res.post_ex q
  obtain ⟨d, S1, e2, e1⟩ := Res.then_ex e1
  refine ⟨g0, H0, ρ, g, S, E, ?_⟩
  rw [e2]
  intro v g' H' G s r
  cases d with
  | int i => cases e1; cases r; exact ⟨i, rfl, k g' H' G s⟩
  | _ => cases e1
def cutD (xs : List D) (lo hi : Option Int) : List D := (xs.drop (HT.sIx xs.length 0 lo)).take (HT.sIx xs.length xs.length hi - HT.sIx xs.length 0 lo)
theorem Reps.cut {K : PySem.W.Frag} {mg : Str → Option Value} {g : Gh} {vs : List V} {ds : List D} (r : Reps K mg g vs ds) (lo hi : Option Int) : Reps K mg g (cutV vs lo hi) (cutD ds lo hi) := by
  unfold cutV cutD
  rw [r.length]
  exact (r.drop _).take _
def sSlice (sa : SE) (sl sh : SO) : SE := fun ρ S => (sa ρ S).then fun x S1 => (sl ρ S1).then fun lo S2 => (sh ρ S2).then fun hi S3 => match x with
  | .tup xs => .ok (.tup (cutD xs lo hi)) S3
  | .lst xs => .ok (.lst (cutD xs lo hi)) S3
  | _ => .bad
theorem cut_whole {xs : List D} {lo hi : Option Int} (h : HT.sIx xs.length 0 lo = 0 ∧ HT.sIx xs.length xs.length hi = xs.length) : cutD xs lo hi = xs := by
  unfold cutD
  rw [h.1, h.2]
  simp
variable {lo hi : Option Expr} {sl sh : SO}
theorem sim_slice (ha : SimR X own a sa) (hl : SimO X own lo sl) (hh : SimO X own hi sh) : SimE X own (.Subscript a (.Slice lo hi none p2) pos) (sSlice sa sl sh) :=
  pe_weak (pe_slice (r := fun x lo hi H Q => rSlA X.K x lo hi H Q ∨ rSlL X.K x lo hi H Q) (sl_tupA.or sl_list) ha hl hh) fun σ H Q ⟨g0, H0, ρ, g, S, E, q⟩ => by
    obtain ⟨d, S', e1, k⟩ := Res.post_ex q
    obtain ⟨x, S1, e2, e1⟩ := Res.then_ex e1
    obtain ⟨l, S2, e3, e1⟩ := Res.then_ex e1
    obtain ⟨h, S3, e4, e1⟩ := Res.then_ex e1
    refine ⟨g0, H0, ρ, g, S, E, ?_⟩
    rw [e2]
    intro v g1 H1 G1 s1 r1
    refine ⟨g0, H0, ρ, g1, S1, E.step G1 s1, ?_⟩
    rw [e3]
    intro g2 H2 G2 s2
    refine ⟨g0, H0, ρ, g2, S2, E.step G2 (s1.trans s2), ?_⟩
    rw [e4]
    intro g3 H3 G3 s3
    have r3 := (r1.step s2).step s3
    cases x with
    | tup xs =>
      cases e1
      have f3 := r3.rep (fun _ e => nomatch e)
      obtain ⟨p, vs, rfl, hp, rs⟩ := r3.tup G3
      refine .inl ⟨p, vs, rfl, SqT.of hp, fun z => ?_, fun z l hl => ?_⟩
      · rw [rs.length] at z
        rw [cut_whole z] at k
        exact k _ g3 H3 G3 ((s1.trans s2).trans s3) f3
      · exact k _ _ _ (G3.add hl) (((s1.trans s2).trans s3).trans (stp_add G3 hl)) (.newT G3 hl (rs.cut _ _))
    | lst xs =>
      cases e1
      obtain ⟨p, vs, rfl, hp, rs⟩ := r3.lst G3
      refine .inr ⟨p, vs, rfl, SqL.of hp, fun l hl => ?_⟩
      exact k _ _ _ (G3.add hl) (((s1.trans s2).trans s3).trans (stp_add G3 hl)) (.newL G3 hl (rs.cut _ _))
    | _ => cases e1
end

/-! ### arguments, displays -/
section
variable {own : List Nat} {e : Expr} {es : List Expr} {se : SE} {pos : Pos}
def sArgs : List (Bool × SE) → DEnv → M (List D)
  | [], _ => fun S => .ok [] S
  | (star, a) :: as, ρ => fun S => (a ρ S).then fun d S1 => (match star, d with
    | false, d => some [d]
    | true, .tup xs => some xs
    | true, .lst xs => some xs
    | _, _ => none : Option (List D)).elim .bad fun xs => (sArgs as ρ S1).then fun ds S2 => .ok (xs ++ ds) S2
def tA (X : Cx) (own : List Nat) (sa : List (Bool × SE)) : TA := fun σ H Q => ∃ g0 H0 ρ g S, EnvOk X.K X.mg g0 H0 own ρ σ g H S ∧ (sArgs sa ρ S).post fun ds S' => ∀ vs g' H', GOk X.K X.mg g' H' S' → Stp g H g' H' → Reps X.K X.mg g' vs ds → Q vs H'
def tAR (X : Cx) (own : List Nat) (sa : List (Bool × SE)) : TA := fun σ H Q => ∃ g0 H0 ρ g S, EnvOk X.K X.mg g0 H0 own ρ σ g H S ∧ (sArgs sa ρ S).post fun ds S' => ∀ vs g' H', GOk X.K X.mg g' H' S' → Stp g H g' H' → RepRs X.K X.mg g' H' vs ds → Q vs H'
def SimA (X : Cx) (own : List Nat) (es : List Expr) (sa : List (Bool × SE)) : Prop := PA X es (tA X own sa)
def SimAR (X : Cx) (own : List Nat) (es : List Expr) (sa : List (Bool × SE)) : Prop := PA X es (tAR X own sa)
theorem pa_weak {es : List Expr} {t t' : TA} (h : PA X es t) (w : ∀ σ H Q, t' σ H Q → t σ H Q) : PA X es t' := ⟨fun pos pins s σ H Q I q => h.run pos pins s σ H Q I (w σ H Q q)⟩
variable {sas : List (Bool × SE)}
theorem sima_nil : SimA X own [] [] := pa_weak pa_nil fun σ H Q ⟨g0, H0, ρ, g, S, E, q⟩ => q [] g H E.gok .refl .nil
theorem sima_cons (h : SimE X own e se) (hr : SimA X own es sas) (hs : starEach (e :: es) X.env = (false, eval e X.env) :: starEach es X.env := by rfl) : SimA X own (e :: es) ((false, se) :: sas) := pa_weak (pa_cons h hr hs) fun σ H Q ⟨g0, H0, ρ, g, S, E, q⟩ => by
  obtain ⟨ds, S', e1, k⟩ := Res.post_ex q
  obtain ⟨d, S1, e2, e1⟩ := Res.then_ex e1
  obtain ⟨es', S2, e3, e1⟩ := Res.then_ex e1
  cases e1
  refine ⟨g0, H0, ρ, g, S, E, ?_⟩
  rw [e2]
  intro v g1 H1 G1 s1 r1
  refine ⟨g0, H0, ρ, g1, S1, E.step G1 s1, ?_⟩
  rw [e3]
  intro vs g2 H2 G2 s2 r2
  exact k (v :: vs) g2 H2 G2 (s1.trans s2) (.cons (r1.mono s2.le) r2)
theorem sima_star {sp : Pos} (h : SimR X own e se) (hr : SimA X own es sas) (hs : starEach (.Starred e sp :: es) X.env = (true, eval e X.env) :: starEach es X.env := by rfl) : SimA X own (.Starred e sp :: es) ((true, se) :: sas) := pa_weak (StX.pa_star h hr hs) fun σ H Q ⟨g0, H0, ρ, g, S, E, q⟩ => by
  obtain ⟨ds, S', e1, k⟩ := Res.post_ex q
  obtain ⟨d, S1, e2, e1⟩ := Res.then_ex e1
  refine ⟨g0, H0, ρ, g, S, E, ?_⟩
  rw [e2]
  intro v g1 H1 G1 s1 r1
  cases d with
  | tup xs =>
    obtain ⟨es', S2, e3, e1⟩ := Res.then_ex e1
    cases e1
    obtain ⟨p, vs, rfl, hp, rs⟩ := r1.tup G1
    refine ⟨p, vs, rfl, .inl (SqT.of hp), ?_⟩
    refine ⟨g0, H0, ρ, g1, S1, E.step G1 s1, ?_⟩
    rw [e3]
    intro ws g2 H2 G2 s2 r2
    exact k (vs ++ ws) g2 H2 G2 (s1.trans s2) ((rs.mono s2.le).append r2)
  | lst xs =>
    obtain ⟨es', S2, e3, e1⟩ := Res.then_ex e1
    cases e1
    obtain ⟨p, vs, rfl, hp, rs⟩ := r1.lst G1
    refine ⟨p, vs, rfl, .inr (SqL.of hp), ?_⟩
    refine ⟨g0, H0, ρ, g1, S1, E.step G1 s1, ?_⟩
    rw [e3]
    intro ws g2 H2 G2 s2 r2
    exact k (vs ++ ws) g2 H2 G2 (s1.trans s2) ((rs.mono s2.le).append r2)
  | _ => cases e1
theorem RepRs.step {g g' : Gh} {H H' : Hp} {vs : List V} {ds : List D} (r : RepRs X.K X.mg g H vs ds) (s : Stp g H g' H') : RepRs X.K X.mg g' H' vs ds := by
  induction r with
  | nil => exact .nil
  | cons h _ ih => exact .cons (h.step s) ih
theorem simr_nil : SimAR X own [] [] := pa_weak pa_nil fun σ H Q ⟨g0, H0, ρ, g, S, E, q⟩ => q [] g H E.gok .refl .nil
theorem simr_cons (h : SimR X own e se) (hr : SimAR X own es sas) (hs : starEach (e :: es) X.env = (false, eval e X.env) :: starEach es X.env := by rfl) : SimAR X own (e :: es) ((false, se) :: sas) := pa_weak (pa_cons h hr hs) fun σ H Q ⟨g0, H0, ρ, g, S, E, q⟩ => by
  obtain ⟨ds, S', e1, k⟩ := Res.post_ex q
  obtain ⟨d, S1, e2, e1⟩ := Res.then_ex e1
  obtain ⟨es', S2, e3, e1⟩ := Res.then_ex e1
  cases e1
  refine ⟨g0, H0, ρ, g, S, E, ?_⟩
  rw [e2]
  intro v g1 H1 G1 s1 r1
  refine ⟨g0, H0, ρ, g1, S1, E.step G1 s1, ?_⟩
  rw [e3]
  intro vs g2 H2 G2 s2 r2
  exact k (v :: vs) g2 H2 G2 (s1.trans s2) (.cons (r1.step s2) r2)
def sTup (sas : List (Bool × SE)) : SE := fun ρ S => (sArgs sas ρ S).then fun ds S' => if ds.length ≤ sizeLine then .ok (.tup ds) S' else .bad
def sLst (sas : List (Bool × SE)) : SE := fun ρ S => (sArgs sas ρ S).then fun ds S' => if ds.length ≤ sizeLine then .ok (.lst ds) S' else .bad
theorem sim_tup {x1} (h : SimA X own es sas) : SimE X own (.Tuple es x1 pos) (sTup sas) := pe_weak (pe_tup h) fun σ H Q ⟨g0, H0, ρ, g, S, E, q⟩ => by
  obtain ⟨d, S', e1, k⟩ := Res.post_ex q
  obtain ⟨ds, S1, e2, e1⟩ := Res.then_ex e1
  split at e1
  · cases e1
    refine ⟨g0, H0, ρ, g, S, E, ?_⟩
    rw [e2]
    intro vs g1 H1 G1 s1 r1
    exact ⟨by rw [r1.length]; assumption, fun p hp => k _ _ _ (G1.add hp) (s1.trans (stp_add G1 hp)) (.newT G1 hp r1)⟩
  · cases e1
theorem sLst_lst {ρ : DEnv} {S S' : Sto} {d : D} (e : sLst sas ρ S = .ok d S') : ∃ ds, d = .lst ds := by
  obtain ⟨ds, S1, _, e1⟩ := Res.then_ex e
  split at e1
  · cases e1; exact ⟨ds, rfl⟩
  · cases e1
/-- from a rule for a new list: its end -/
theorem fresh_end {g g1 : Gh} {H H1 : Hp} {S1 : Sto} {p : Addr} {vs : List V} {ds : List D} (G1 : GOk X.K X.mg g1 H1 S1) (s1 : Stp g H g1 H1) (hp : H1 p = none) (r1 : Reps X.K X.mg g1 vs ds) {Q : VK}
    (k : ∀ p vs g' H', GOk X.K X.mg g' H' S1 → Stp g H g' H' → H' p = some (.lst vs) → g'.F p = none → p ∉ g'.as → H p = none → Reps X.K X.mg g' vs ds → Q (.ref p) H') : Q (.ref p) (upd H1 p (.lst vs)) := by
  refine k p vs g1 _ (G1.fresh hp) (s1.trans (stp_fresh hp)) upd_same (G1.nfree hp) (G1.notin hp) ?_ r1
  cases q : H p with
  | none => rfl
  | some o => exact absurd hp (s1.there p (by rw [q]; exact fun z => nomatch z))
theorem sim_lst (h : SimA X own es sas) : SimF X own (.List es pos) (sLst sas) := pe_weak (pe_lst h) fun σ H Q ⟨g0, H0, ρ, g, S, E, q⟩ => by
  obtain ⟨d, S', e1, k⟩ := Res.post_ex q
  obtain ⟨ds, S1, e2, e1⟩ := Res.then_ex e1
  split at e1
  · cases e1
    obtain ⟨ds', e, k⟩ := k
    cases e
    refine ⟨g0, H0, ρ, g, S, E, ?_⟩
    rw [e2]
    intro vs g1 H1 G1 s1 r1
    exact ⟨by rw [r1.length]; assumption, fun p hp => fresh_end G1 s1 hp r1 k⟩
  · cases e1
end
end
end Ev
namespace Ev
open PySem PySem.Spec PyProof.Rows L2
/-! ### calls of built-ins -/
def sCallN (f : List D → Option D) (sas : List (Bool × SE)) : SE := fun ρ S => (sArgs sas ρ S).then fun ds S' => optR (f ds) S'
def OpN (X : Cx) (f : List D → Option D) (r : List V → Hp → VK → Prop) : Prop := ∀ (g : Gh) (H : Hp) (S : Sto) (xs : List V) (ds : List D) (d : D) (Q : VK), GOk X.K X.mg g H S → RepRs X.K X.mg g H xs ds → f ds = some d →
  (∀ v g' H', GOk X.K X.mg g' H' S → Stp g H g' H' → Rep X.K X.mg g' v d → Q v H') → r xs H Q
/-- .. that give a new list -/
def OpF (X : Cx) (f : List D → Option D) (r : List V → Hp → VK → Prop) : Prop := ∀ (g : Gh) (H : Hp) (S : Sto) (xs : List V) (ds : List D) (d : D) (Q : VK), GOk X.K X.mg g H S → RepRs X.K X.mg g H xs ds → f ds = some d →
  ∃ es, d = .lst es ∧ ((∀ p vs, H p = none → Reps X.K X.mg g vs es → Q (.ref p) (upd H p (.lst vs))) → r xs H Q)
section
variable {X : Cx} {own : List Nat} {e : Expr} {es : List Expr} {se : SE} {sas : List (Bool × SE)} {pos p : Pos} {x : Str} {f : List D → Option D} {r : List V → Hp → VK → Prop}
theorem callN_of (hf : OpN X f r) {σ : L2.St} {H : Hp} {Q : VK} (h : tE X own (sCallN f sas) σ H Q) : tCB r (tAR X own sas) σ H Q := by
  obtain ⟨g0, H0, ρ, g, S, E, q⟩ := h
  obtain ⟨d, S', e1, k⟩ := Res.post_ex q
  obtain ⟨ds, S1, e2, e1⟩ := Res.then_ex e1
  obtain ⟨e3, eS⟩ := optR_ex e1
  subst eS
  refine ⟨g0, H0, ρ, g, S, E, ?_⟩
  rw [e2]
  intro vs g1 H1 G1 s1 r1
  exact hf g1 H1 S1 vs ds d Q G1 r1 e3 fun v g2 H2 G2 s2 r2 => k v g2 H2 G2 (s1.trans s2) r2
theorem callF_of (hf : OpF X f r) {σ : L2.St} {H : Hp} {Q : VK} (h : tF X own (sCallN f sas) σ H Q) : tCB r (tAR X own sas) σ H Q := by
  obtain ⟨g0, H0, ρ, g, S, E, q⟩ := h
  obtain ⟨d, S', e1, k⟩ := Res.post_ex q
  obtain ⟨ds, S1, e2, e1⟩ := Res.then_ex e1
  obtain ⟨e3, eS⟩ := optR_ex e1
  subst eS
  refine ⟨g0, H0, ρ, g, S, E, ?_⟩
  rw [e2]
  intro vs g1 H1 G1 s1 r1
  obtain ⟨es, ed, kr⟩ := hf g1 H1 S1 vs ds d Q G1 r1 e3
  obtain ⟨es', ed', k⟩ := k
  rw [ed] at ed'
  cases ed'
  exact kr fun p vs hp rs => fresh_end G1 s1 hp rs k
theorem sim_callB {id : String} (hc : CallR X (.builtin id) r) (hf : OpN X f r) (hg : Gl X x) (hm : X.mg x = none) (hv : bootBuiltins x = some (.builtin id)) (ha : SimAR X own (e :: es) sas) (hn : x ≠ "__name__" := by decide) (hdb : (x == ("__debug__" : Str)) = false := by decide)
    (he : starEach (e :: es) X.env = (false, eval e X.env) :: starEach es X.env := by rfl) (hpl : (backTo pos (starEach es X.env)).any (·.1) = false := by rfl) : SimE X own (.Call (.Name x p) (e :: es) [] pos) (sCallN f sas) :=
  pe_weak (pe_callB hc hg hm hv ha hn hdb he hpl) fun _ _ _ h => callN_of hf h
theorem sim_callTy {id : String} (hc : CallR X (.type id) r) (hf : OpN X f r) (hg : Gl X x) (hm : X.mg x = none) (hv : bootBuiltins x = some (.type id)) (ha : SimAR X own (e :: es) sas) (hn : x ≠ "__name__" := by decide) (hdb : (x == ("__debug__" : Str)) = false := by decide)
    (he : starEach (e :: es) X.env = (false, eval e X.env) :: starEach es X.env := by rfl) (hpl : (backTo pos (starEach es X.env)).any (·.1) = false := by rfl) : SimE X own (.Call (.Name x p) (e :: es) [] pos) (sCallN f sas) :=
  pe_weak (pe_callTy hc hg hm hv ha hn hdb he hpl) fun _ _ _ h => callN_of hf h
theorem simf_callB {id : String} (hc : CallR X (.builtin id) r) (hf : OpF X f r) (hg : Gl X x) (hm : X.mg x = none) (hv : bootBuiltins x = some (.builtin id)) (ha : SimAR X own (e :: es) sas) (hn : x ≠ "__name__" := by decide) (hdb : (x == ("__debug__" : Str)) = false := by decide)
    (he : starEach (e :: es) X.env = (false, eval e X.env) :: starEach es X.env := by rfl) (hpl : (backTo pos (starEach es X.env)).any (·.1) = false := by rfl) : SimF X own (.Call (.Name x p) (e :: es) [] pos) (sCallN f sas) :=
  pe_weak (pe_callB hc hg hm hv ha hn hdb he hpl) fun _ _ _ h => callF_of hf h
theorem simf_callTy {id : String} (hc : CallR X (.type id) r) (hf : OpF X f r) (hg : Gl X x) (hm : X.mg x = none) (hv : bootBuiltins x = some (.type id)) (ha : SimAR X own (e :: es) sas) (hn : x ≠ "__name__" := by decide) (hdb : (x == ("__debug__" : Str)) = false := by decide)
    (he : starEach (e :: es) X.env = (false, eval e X.env) :: starEach es X.env := by rfl) (hpl : (backTo pos (starEach es X.env)).any (·.1) = false := by rfl) : SimF X own (.Call (.Name x p) (e :: es) [] pos) (sCallN f sas) :=
  pe_weak (pe_callTy hc hg hm hv ha hn hdb he hpl) fun _ _ _ h => callF_of hf h
end
section
variable {X : Cx}
theorem rr1 {g : Gh} {H : Hp} {xs : List V} {a : D} (r : RepRs X.K X.mg g H xs [a]) : ∃ x, xs = [x] ∧ RepR X.K X.mg g H x a := by
  cases r with
  | cons h r => cases r; exact ⟨_, rfl, h⟩
theorem rr2 {g : Gh} {H : Hp} {xs : List V} {a b : D} (r : RepRs X.K X.mg g H xs [a, b]) : ∃ x y, xs = [x, y] ∧ RepR X.K X.mg g H x a ∧ RepR X.K X.mg g H y b := by
  cases r with
  | cons h r => cases r with
    | cons h2 r => cases r; exact ⟨_, _, rfl, h, h2⟩
def dLen : List D → Option D
  | [.str x] => if x.length ≤ sizeLine then some (.int x.length) else none
  | [.tup xs] => some (.int xs.length)
  | [.lst xs] => some (.int xs.length)
  | [.scr ns] => some (.int ns.length)
  | _ => none
theorem opN_len : OpN X dLen (fun xs H Q => ∃ x n, xs = [x] ∧ LenV X.K x H n ∧ Q (.int n) H) := by
  intro g H S xs ds d Q G r e k
  unfold dLen at e
  split at e
  · split at e
    · cases e
      obtain ⟨x, rfl, h⟩ := rr1 r
      cases h.str
      exact ⟨_, _, rfl, ⟨by assumption, rfl⟩, k _ g H G .refl (.int _)⟩
    · cases e
  · cases e
    obtain ⟨x, rfl, h⟩ := rr1 r
    obtain ⟨p, vs, rfl, hp, rs⟩ := h.tup G
    exact ⟨_, _, rfl, .inr ⟨vs, SqT.of hp, rs.length.symm⟩, k _ g H G .refl (.int _)⟩
  · cases e
    obtain ⟨x, rfl, h⟩ := rr1 r
    obtain ⟨p, vs, rfl, hp, rs⟩ := h.lst G
    exact ⟨_, _, rfl, .inl ⟨vs, SqL.of hp, rs.length.symm⟩, k _ g H G .refl (.int _)⟩
  · rename_i ns
    cases e
    obtain ⟨x, rfl, h⟩ := rr1 r
    cases h.rep (fun _ e => nomatch e) with
    | scr hs => exact ⟨_, _, rfl, .inl ⟨_, G.sub.seq hs, (List.length_map _).symm⟩, k _ g H G .refl (.int _)⟩
  · cases e
def dIntOf : List D → Option D
  | [.int i] => some (.int i)
  | [.bl b] => some (.int (if b then 1 else 0))
  | _ => none
theorem opN_int : OpN X dIntOf (fun xs H Q => (∃ i, xs = [.int i] ∧ Q (.int i) H) ∨ ∃ k, xs = [.bl k] ∧ Q (.int (if k then 1 else 0)) H) := by
  intro g H S xs ds d Q G r e k
  unfold dIntOf at e
  split at e
  · cases e
    obtain ⟨x, rfl, h⟩ := rr1 r
    cases h.int
    exact .inl ⟨_, rfl, k _ g H G .refl (.int _)⟩
  · cases e
    obtain ⟨x, rfl, h⟩ := rr1 r
    cases h.bl
    exact .inr ⟨_, rfl, k _ g H G .refl (.int _)⟩
  · cases e
def dStrOf : List D → Option D
  | [.int i] => if i.natAbs.log2 < 1920 then some (.str (toString i)) else none
  | _ => none
theorem opN_str : OpN X dStrOf (fun xs H Q => ∃ i, xs = [.int i] ∧ i.natAbs.log2 < 1920 ∧ Q (.str (toString i)) H) := by
  intro g H S xs ds d Q G r e k
  unfold dStrOf at e
  split at e
  · split at e
    · cases e
      obtain ⟨x, rfl, h⟩ := rr1 r
      cases h.int
      exact ⟨_, rfl, by assumption, k _ g H G .refl (.str _)⟩
    · cases e
  · cases e
def dTupOf : List D → Option D
  | [.tup xs] => some (.tup xs)
  | [.lst xs] => some (.tup xs)
  | _ => none
theorem opN_tup : OpN X dTupOf (fun xs H Q => ∃ p ys, xs = [.ref p] ∧ ((SqL X.K H p ys ∧ ∀ l, H l = none → Q (.ref l) (upd H l (.tup ys))) ∨ (SqT X.K H p ys ∧ Q (.ref p) H))) := by
  intro g H S xs ds d Q G r e k
  unfold dTupOf at e
  split at e
  · cases e
    obtain ⟨x, rfl, h⟩ := rr1 r
    have f := h.rep (fun _ e => nomatch e)
    obtain ⟨p, vs, rfl, hp, rs⟩ := h.tup G
    exact ⟨p, vs, rfl, .inr ⟨SqT.of hp, k _ g H G .refl f⟩⟩
  · cases e
    obtain ⟨x, rfl, h⟩ := rr1 r
    obtain ⟨p, vs, rfl, hp, rs⟩ := h.lst G
    exact ⟨p, vs, rfl, .inl ⟨SqL.of hp, fun l hl => k _ _ _ (G.add hl) (stp_add G hl) (.newT G hl rs)⟩⟩
  · cases e
def dLstOf : List D → Option D
  | [.tup xs] => some (.lst xs)
  | [.lst xs] => some (.lst xs)
  | [.scr ns] => some (.lst (ns.map .int))
  | _ => none
theorem reps_ints {K : PySem.W.Frag} {mg : Str → Option Value} {g : Gh} : ∀ ns : List Int, Reps K mg g (ns.map V.int) (ns.map D.int)
  | [] => .nil
  | n :: r => .cons (.int n) (reps_ints r)
theorem opF_lst : OpF X dLstOf (fun xs H Q => ∃ p ys, xs = [.ref p] ∧ (SqL X.K H p ys ∨ SqT X.K H p ys) ∧ ∀ l, H l = none → Q (.ref l) (upd H l (.lst ys))) := by
  intro g H S xs ds d Q G r e
  unfold dLstOf at e
  split at e
  · cases e
    refine ⟨_, rfl, fun k => ?_⟩
    obtain ⟨x, rfl, h⟩ := rr1 r
    obtain ⟨p, vs, rfl, hp, rs⟩ := h.tup G
    exact ⟨p, vs, rfl, .inr (SqT.of hp), fun l hl => k l vs hl rs⟩
  · cases e
    refine ⟨_, rfl, fun k => ?_⟩
    obtain ⟨x, rfl, h⟩ := rr1 r
    obtain ⟨p, vs, rfl, hp, rs⟩ := h.lst G
    exact ⟨p, vs, rfl, .inl (SqL.of hp), fun l hl => k l vs hl rs⟩
  · cases e
    refine ⟨_, rfl, fun k => ?_⟩
    obtain ⟨x, rfl, h⟩ := rr1 r
    cases h.rep (fun _ e => nomatch e) with
    | scr hs => exact ⟨_, _, rfl, .inl (G.sub.seq hs), fun l hl => k l _ hl (reps_ints _)⟩
  · cases e
/-- lists of ints, of truth values -/
def intsD : List D → Option (List Int)
  | [] => some []
  | .int i :: r => (intsD r).map (i :: ·)
  | _ => none
def blsD : List D → Option (List Bool)
  | [] => some []
  | .bl b :: r => (blsD r).map (b :: ·)
  | _ => none
theorem ints_of {K : PySem.W.Frag} {mg : Str → Option Value} {g : Gh} : ∀ {ds : List D} {vs : List V} {ns : List Int}, Reps K mg g vs ds → intsD ds = some ns → vs = ns.map V.int
  | [], _, _, .nil, e => by cases (show some ([] : List Int) = some _ from e); rfl
  | .int i :: ds, _, ns, .cons h r, e => by
    cases h
    have e' : (intsD ds).map (i :: ·) = some ns := e
    cases q : intsD ds with
    | none => rw [q] at e'; cases e'
    | some ms => rw [q] at e'; cases e'; rw [ints_of r q] <;> rfl
  | .non :: _, _, _, _, e => by cases (show (none : Option (List Int)) = some _ from e)
  | .bl _ :: _, _, _, _, e => by cases (show (none : Option (List Int)) = some _ from e)
  | .str _ :: _, _, _, _, e => by cases (show (none : Option (List Int)) = some _ from e)
  | .tup _ :: _, _, _, _, e => by cases (show (none : Option (List Int)) = some _ from e)
  | .lst _ :: _, _, _, _, e => by cases (show (none : Option (List Int)) = some _ from e)
  | .obj _ _ :: _, _, _, _, e => by cases (show (none : Option (List Int)) = some _ from e)
  | .mref _ :: _, _, _, _, e => by cases (show (none : Option (List Int)) = some _ from e)
  | .scr _ :: _, _, _, _, e => by cases (show (none : Option (List Int)) = some _ from e)
theorem bls_of {K : PySem.W.Frag} {mg : Str → Option Value} {g : Gh} : ∀ {ds : List D} {vs : List V} {ns : List Bool}, Reps K mg g vs ds → blsD ds = some ns → vs = ns.map V.bl
  | [], _, _, .nil, e => by cases (show some ([] : List Bool) = some _ from e); rfl
  | .bl i :: ds, _, ns, .cons h r, e => by
    cases h
    have e' : (blsD ds).map (i :: ·) = some ns := e
    cases q : blsD ds with
    | none => rw [q] at e'; cases e'
    | some ms => rw [q] at e'; cases e'; rw [bls_of r q] <;> rfl
  | .non :: _, _, _, _, e => by cases (show (none : Option (List Bool)) = some _ from e)
  | .int _ :: _, _, _, _, e => by cases (show (none : Option (List Bool)) = some _ from e)
  | .str _ :: _, _, _, _, e => by cases (show (none : Option (List Bool)) = some _ from e)
  | .tup _ :: _, _, _, _, e => by cases (show (none : Option (List Bool)) = some _ from e)
  | .lst _ :: _, _, _, _, e => by cases (show (none : Option (List Bool)) = some _ from e)
  | .obj _ _ :: _, _, _, _, e => by cases (show (none : Option (List Bool)) = some _ from e)
  | .mref _ :: _, _, _, _, e => by cases (show (none : Option (List Bool)) = some _ from e)
  | .scr _ :: _, _, _, _, e => by cases (show (none : Option (List Bool)) = some _ from e)
@[simp] theorem intsD_map (ns : List Int) : intsD (ns.map .int) = some ns := by
  induction ns with
  | nil => rfl
  | cons n r ih =>
    show (intsD (r.map .int)).map (n :: ·) = _
    rw [ih] <;> rfl
@[simp] theorem blsD_map (ns : List Bool) : blsD (ns.map .bl) = some ns := by
  induction ns with
  | nil => rfl
  | cons n r ih =>
    show (blsD (r.map .bl)).map (n :: ·) = _
    rw [ih] <;> rfl
def dSum : List D → Option D
  | [.lst xs] => (intsD xs).map fun ns => .int ns.sum
  | _ => none
theorem opN_sum : OpN X dSum (rSum X.K) := by
  intro g H S xs ds d Q G r e k
  unfold dSum at e
  split at e
  · rename_i ys
    cases q : intsD ys with
    | none => rw [q] at e; cases e
    | some ns =>
      rw [q] at e
      cases e
      obtain ⟨x, rfl, h⟩ := rr1 r
      obtain ⟨p, vs, rfl, hp, rs⟩ := h.lst G
      cases ints_of rs q
      exact ⟨p, ns, rfl, SqL.of hp, k _ g H G .refl (.int _)⟩
  · cases e
def dAny : List D → Option D
  | [.lst xs] => (blsD xs).map fun ns => .bl (ns.any id)
  | _ => none
def dAll : List D → Option D
  | [.lst xs] => (blsD xs).map fun ns => .bl (ns.all id)
  | _ => none
theorem opN_any : OpN X dAny (rAny X.K) := by
  intro g H S xs ds d Q G r e k
  unfold dAny at e
  split at e
  · rename_i ys
    cases q : blsD ys with
    | none => rw [q] at e; cases e
    | some ns =>
      rw [q] at e
      cases e
      obtain ⟨x, rfl, h⟩ := rr1 r
      obtain ⟨p, vs, rfl, hp, rs⟩ := h.lst G
      cases bls_of rs q
      exact ⟨p, ns, rfl, SqL.of hp, k _ g H G .refl (.bl _)⟩
  · cases e
theorem opN_all : OpN X dAll (rAll X.K) := by
  intro g H S xs ds d Q G r e k
  unfold dAll at e
  split at e
  · rename_i ys
    cases q : blsD ys with
    | none => rw [q] at e; cases e
    | some ns =>
      rw [q] at e
      cases e
      obtain ⟨x, rfl, h⟩ := rr1 r
      obtain ⟨p, vs, rfl, hp, rs⟩ := h.lst G
      cases bls_of rs q
      exact ⟨p, ns, rfl, SqL.of hp, k _ g H G .refl (.bl _)⟩
  · cases e
def maxI : List Int → Int
  | [] => 0
  | [x] => x
  | x :: y :: r => maxI ((if y > x then y else x) :: r)
termination_by l => l.length
def minI : List Int → Int
  | [] => 0
  | [x] => x
  | x :: y :: r => minI ((if y < x then y else x) :: r)
termination_by l => l.length
theorem maxI_spec : ∀ (l : List Int), l ≠ [] → maxI l ∈ l ∧ ∀ y ∈ l, y ≤ maxI l
  | [], h => absurd rfl h
  | [x], _ => by unfold maxI; simp
  | x :: y :: r, _ => by
    unfold maxI
    obtain ⟨h1, h2⟩ := maxI_spec ((if y > x then y else x) :: r) (by simp)
    have hm := h2 _ List.mem_cons_self
    refine ⟨?_, fun z hz => ?_⟩
    · rcases List.mem_cons.mp h1 with e | e
      · rw [e]
        split <;> simp
      · simp [e]
    · rcases List.mem_cons.mp hz with rfl | hz
      · refine Int.le_trans ?_ hm
        split <;> omega
      · rcases List.mem_cons.mp hz with rfl | hz
        · refine Int.le_trans ?_ hm
          split <;> omega
        · exact h2 z (List.mem_cons_of_mem _ hz)
termination_by l => l.length
theorem minI_spec : ∀ (l : List Int), l ≠ [] → minI l ∈ l ∧ ∀ y ∈ l, minI l ≤ y
  | [], h => absurd rfl h
  | [x], _ => by unfold minI; simp
  | x :: y :: r, _ => by
    unfold minI
    obtain ⟨h1, h2⟩ := minI_spec ((if y < x then y else x) :: r) (by simp)
    have hm := h2 _ List.mem_cons_self
    refine ⟨?_, fun z hz => ?_⟩
    · rcases List.mem_cons.mp h1 with e | e
      · rw [e]
        split <;> simp
      · simp [e]
    · rcases List.mem_cons.mp hz with rfl | hz
      · refine Int.le_trans hm ?_
        split <;> omega
      · rcases List.mem_cons.mp hz with rfl | hz
        · refine Int.le_trans hm ?_
          split <;> omega
        · exact h2 z (List.mem_cons_of_mem _ hz)
termination_by l => l.length
def dMax : List D → Option D
  | [.int i, .int j] => some (.int (if j > i then j else i))
  | [.lst xs] => (intsD xs).bind fun ns => if ns.isEmpty then none else some (.int (maxI ns))
  | _ => none
def dMin : List D → Option D
  | [.int i, .int j] => some (.int (if j < i then j else i))
  | [.lst xs] => (intsD xs).bind fun ns => if ns.isEmpty then none else some (.int (minI ns))
  | _ => none
theorem ne_len {α : Type} {l : List α} (h : ¬ l.isEmpty = true) : l ≠ [] ∧ 0 < l.length := by
  cases l with
  | nil => exact absurd rfl h
  | cons a r => exact ⟨by simp, by simp⟩
theorem opN_max : OpN X dMax (fun xs H Q => (∃ i j, xs = [.int i, .int j] ∧ Q (.int (if j > i then j else i)) H) ∨ rMax X.K xs H Q) := by
  intro g H S xs ds d Q G r e k
  unfold dMax at e
  split at e
  · cases e
    obtain ⟨x, y, rfl, h, h2⟩ := rr2 r
    cases h.int
    cases h2.int
    exact .inl ⟨_, _, rfl, k _ g H G .refl (.int _)⟩
  · rename_i ys
    cases q : intsD ys with
    | none => rw [q] at e; cases e
    | some ns =>
      rw [q] at e
      have e' : (if ns.isEmpty then none else some (D.int (maxI ns))) = some d := e
      split at e'
      · cases e'
      · rename_i hne
        cases e'
        obtain ⟨x, rfl, h⟩ := rr1 r
        obtain ⟨p, vs, rfl, hp, rs⟩ := h.lst G
        cases ints_of rs q
        obtain ⟨h1, h2⟩ := ne_len hne
        refine .inr ⟨p, ns, rfl, SqL.of hp, h2, fun m hm hle => ?_⟩
        obtain ⟨z1, z2⟩ := maxI_spec ns h1
        have e3 : m = maxI ns := Int.le_antisymm (z2 m hm) (hle _ z1)
        rw [e3]
        exact k _ g H G .refl (.int _)
  · cases e
theorem opN_min : OpN X dMin (fun xs H Q => (∃ i j, xs = [.int i, .int j] ∧ Q (.int (if j < i then j else i)) H) ∨ rMin X.K xs H Q) := by
  intro g H S xs ds d Q G r e k
  unfold dMin at e
  split at e
  · cases e
    obtain ⟨x, y, rfl, h, h2⟩ := rr2 r
    cases h.int
    cases h2.int
    exact .inl ⟨_, _, rfl, k _ g H G .refl (.int _)⟩
  · rename_i ys
    cases q : intsD ys with
    | none => rw [q] at e; cases e
    | some ns =>
      rw [q] at e
      have e' : (if ns.isEmpty then none else some (D.int (minI ns))) = some d := e
      split at e'
      · cases e'
      · rename_i hne
        cases e'
        obtain ⟨x, rfl, h⟩ := rr1 r
        obtain ⟨p, vs, rfl, hp, rs⟩ := h.lst G
        cases ints_of rs q
        obtain ⟨h1, h2⟩ := ne_len hne
        refine .inr ⟨p, ns, rfl, SqL.of hp, h2, fun m hm hle => ?_⟩
        obtain ⟨z1, z2⟩ := minI_spec ns h1
        have e3 : m = minI ns := Int.le_antisymm (hle _ z1) (z2 m hm)
        rw [e3]
        exact k _ g H G .refl (.int _)
  · cases e
theorem call_maxA (hc : X.calm = true) : CallR X (.builtin "max") (fun xs H Q => (∃ i j, xs = [.int i, .int j] ∧ Q (.int (if j > i then j else i)) H) ∨ rMax X.K xs H Q) := (call_max2 hc).or (cr_max hc)
theorem call_minA (hc : X.calm = true) : CallR X (.builtin "min") (fun xs H Q => (∃ i j, xs = [.int i, .int j] ∧ Q (.int (if j < i then j else i)) H) ∨ rMin X.K xs H Q) := (call_min2 hc).or (cr_min hc)
/-! ### isinstance of built-in types -/
def tyD : D → Option String
  | .non => some "NoneType"
  | .bl _ => some "bool"
  | .int _ => some "int"
  | .str _ => some "str"
  | .tup _ => some "tuple"
  | .lst _ => some "list"
  | _ => none
def isTyS (t T : String) : Bool := t == T || (t == "bool" && T == "int")
def sIsi (Ts : List String) (sa : SE) : SE := fun ρ S => (sa ρ S).then fun d S' => match tyD d with
  | some t => .ok (.bl (Ts.any fun T => isTyS t T)) S'
  | none => .bad
theorem tyx_of {g : Gh} {H : Hp} {S : Sto} {v : V} {d : D} {t : String} (G : GOk X.K X.mg g H S) (r : RepR X.K X.mg g H v d) (e : tyD d = some t) : TyX X.K H v (.type t) := by
  cases d with
  | non => cases r.non; cases e; exact .base .non
  | bl b => cases r.bl; cases e; exact .base (.bl b)
  | int i => cases r.int; cases e; exact .base (.int i)
  | str x => cases r.str; cases e; exact .base (.str x)
  | tup xs =>
    obtain ⟨p, vs, rfl, hp, rs⟩ := r.tup G
    cases e
    exact .base (.tup hp)
  | lst xs =>
    obtain ⟨p, vs, rfl, hp, rs⟩ := r.lst G
    cases e
    exact .base (.lst hp)
  | _ => cases e
/-- the table of answers: seen once, by running -/
def tyNames : List String := ["NoneType", "bool", "int", "str", "tuple", "list"]
theorem ty_mem {d : D} {t : String} (e : tyD d = some t) : t ∈ tyNames := by
  cases d <;> cases e <;> decide
theorem kit_tab : ∀ t ∈ tyNames, ∀ T ∈ (["int", "bool", "str", "tuple", "list"] : List String), kitB t T = some (isTyS t T) := by decide +kernel
def isTypes : List String := ["int", "bool", "str", "tuple", "list"]
theorem kit_any {K : PySem.W.Frag} {t : String} (ht : t ∈ tyNames) : ∀ {Ts : List String}, (∀ T ∈ Ts, T ∈ isTypes) → PySem.W.kitAny K (.type t) (Ts.map Value.type) = some (Ts.any fun T => isTyS t T)
  | [], _ => rfl
  | T :: r, h => by
    have h1 := kit_ty (K := K) (kit_tab t ht T (h T List.mem_cons_self))
    have h2 := kit_any (K := K) ht (Ts := r) fun T hT => h T (List.mem_cons_of_mem _ hT)
    show PySem.W.kitAny K (.type t) (Value.type T :: r.map Value.type) = _
    unfold PySem.W.kitAny
    rw [h1, List.any_cons]
    cases isTyS t T with
    | true => rfl
    | false => simpa using h2
section
variable {own : List Nat} {a : Expr} {sa : SE} {pos p p2 p3 : Pos} {T T2 x1 x2 : Str}
theorem sim_isi {n : String} (hg : Gl X "isinstance") (hm : X.mg "isinstance" = none) (hg2 : Gl X T) (hm2 : X.mg T = none) (hv : bootBuiltins T = some (.type n)) (hT : n ∈ isTypes) (ha : SimR X own a sa) (hn : T ≠ "__name__" := by decide) (hdb : (T == ("__debug__" : Str)) = false := by decide)
    (he : starEach [a, .Name T p2] X.env = (false, eval a X.env) :: starEach [.Name T p2] X.env := by rfl) (hpl : (backTo pos (starEach [.Name T p2] X.env)).any (·.1) = false := by rfl) :
    SimE X own (.Call (.Name "isinstance" p) [a, .Name T p2] [] pos) (sIsi [n] sa) :=
  pe_weak (pe_callB call_isi hg hm (by decide +kernel) (pa_cons ha (pa_cons (pe_bltn (v := .ty n) hg2 hm2 hv rfl hn hdb) pa_nil) he) (by decide) (by decide) he hpl) fun σ H Q ⟨g0, H0, ρ, g, S, E, q⟩ => by
    obtain ⟨d, S', e1, k⟩ := Res.post_ex q
    obtain ⟨x, S1, e2, e1⟩ := Res.then_ex e1
    refine ⟨g0, H0, ρ, g, S, E, ?_⟩
    rw [e2]
    intro v g1 H1 G1 s1 r1
    cases q : tyD x with
    | none => rw [q] at e1; cases e1
    | some t =>
      rw [q] at e1
      have e1' : (Res.ok (.bl ([n].any fun T => isTyS t T)) S1 : Res D) = .ok d S' := e1
      cases e1'
      refine ⟨v, .ty n, .type t, .type n, _, rfl, .ty n, tyx_of G1 r1 q, kit_ty (kit_tab t (ty_mem q) n hT), k _ g1 H1 G1 s1 ?_⟩
      have e : ([n].any fun T => isTyS t T) = isTyS t n := by simp
      rw [e]
      exact .bl _
theorem sim_isi2 {n n2 : String} {x3} (hg : Gl X "isinstance") (hm : X.mg "isinstance" = none) (hg1 : Gl X T) (hm1 : X.mg T = none) (hv1 : bootBuiltins T = some (.type n)) (hT1 : n ∈ isTypes) (hg2 : Gl X T2) (hm2 : X.mg T2 = none) (hv2 : bootBuiltins T2 = some (.type n2)) (hT2 : n2 ∈ isTypes) (ha : SimR X own a sa)
    (hn : T ≠ "__name__" := by decide) (hdb : (T == ("__debug__" : Str)) = false := by decide) (hn2 : T2 ≠ "__name__" := by decide) (hdb2 : (T2 == ("__debug__" : Str)) = false := by decide)
    (he : starEach [a, .Tuple [.Name T p2, .Name T2 p3] x3 pos] X.env = (false, eval a X.env) :: starEach [.Tuple [.Name T p2, .Name T2 p3] x3 pos] X.env := by rfl) {pos2 : Pos} (hpl : (backTo pos2 (starEach [.Tuple [.Name T p2, .Name T2 p3] x3 pos] X.env)).any (·.1) = false := by rfl) :
    SimE X own (.Call (.Name "isinstance" p) [a, .Tuple [.Name T p2, .Name T2 p3] x3 pos] [] pos2) (sIsi [n, n2] sa) :=
  pe_weak (pe_callB call_isiT hg hm (by decide +kernel) (pa_cons ha (pa_cons (pe_tup (pa_cons (pe_bltn (v := .ty n) hg1 hm1 hv1 rfl hn hdb) (pa_cons (pe_bltn (v := .ty n2) hg2 hm2 hv2 rfl hn2 hdb2) pa_nil))) pa_nil) he) (by decide) (by decide) he hpl) fun σ H Q ⟨g0, H0, ρ, g, S, E, q⟩ => by
    obtain ⟨d, S', e1, k⟩ := Res.post_ex q
    obtain ⟨x, S1, e2, e1⟩ := Res.then_ex e1
    refine ⟨g0, H0, ρ, g, S, E, ?_⟩
    rw [e2]
    intro v g1 H1 G1 s1 r1
    refine ⟨by show 2 ≤ sizeLine; decide, fun l hl => ?_⟩
    cases q : tyD x with
    | none => rw [q] at e1; cases e1
    | some t =>
      rw [q] at e1
      have e1' : (Res.ok (.bl ([n, n2].any fun T => isTyS t T)) S1 : Res D) = .ok d S' := e1
      cases e1'
      have r2 := r1.step (stp_fresh (o := .tup [.ty n, .ty n2]) hl)
      have G2 := G1.fresh (o := .tup [.ty n, .ty n2]) hl
      refine ⟨v, l, [.ty n, .ty n2], .type t, [.type n, .type n2], _, rfl, upd_same, .cons (.ty n) (.cons (.ty n2) .nil), tyx_of G2 r2 q, kit_any (Ts := [n, n2]) (ty_mem q) (fun T hT => ?_), k _ g1 _ G2 (s1.trans (stp_fresh hl)) (.bl _)⟩
      rcases List.mem_cons.mp hT with rfl | hT
      · exact hT1
      · rcases List.mem_cons.mp hT with rfl | hT
        · exact hT2
        · cases hT
end
end
end Ev
namespace Ev
open PySem PySem.Spec PyProof.Rows L2
/-! ### calls of the text's own defs -/
def spOf (K : PySem.W.Frag) (mg : Str → Option Value) (n : Nat) (m : List D → M D) : Sp := fun vs H Q _ => ∃ g ds S, GOk K mg g H S ∧ Reps K mg g vs ds ∧ ds.length = n ∧ (m ds S).post fun d S' => ∀ v g' H', GOk K mg g' H' S' → Stp g H g' H' → Rep K mg g' v d → Q v H'
structure GF (P : Program) (w : World) (K : PySem.W.Frag) (mg : Str → Option Value) (base : Heap) (k : Nat) (x : Str) (n : Nat) (m : List D → M D) : Prop where
  ex : ∃ f fd ps, mg x = some (.ref f) ∧ PySem.W.keepIn K (.ref f) = true ∧ Binds K fd ps [] ∧ FnOk P w K mg base CX0 k f fd ps (spOf K mg n m)
def sCall (m : List D → M D) (sas : List (Bool × SE)) : SE := fun ρ S => (sArgs sas ρ S).then m
theorem sArgs_len : ∀ {sas : List (Bool × SE)} {ρ : DEnv} {S S' : Sto} {ds : List D}, (sas.all fun a => !a.1) = true → sArgs sas ρ S = .ok ds S' → ds.length = sas.length
  | [], _, _, _, _, _, e => by cases e; rfl
  | (true, _) :: _, _, _, _, _, h, _ => by simp at h
  | (false, a) :: as, ρ, S, S', ds, h, e => by
    obtain ⟨d, S1, _, e1⟩ := Res.then_ex e
    obtain ⟨es, S2, e3, e1⟩ := Res.then_ex (r := sArgs as ρ S1) (k := fun ds S2 => Res.ok ([d] ++ ds) S2) e1
    cases e1
    have := sArgs_len (sas := as) (by simpa using h) e3
    simp [this]
section
variable {X : Cx} {own : List Nat} {e : Expr} {es : List Expr} {se : SE} {sas : List (Bool × SE)} {pos p : Pos} {x : Str} {m : List D → M D} {n k : Nat}
theorem sim_call (F : GF X.prog X.w X.K X.mg X.base k x n m) (hr : Room k X.A) (hg : Gl X x) (ha : SimA X own (e :: es) sas) (hn : sas.length = n := by rfl) (hst : (sas.all fun a => !a.1) = true := by rfl) (hdb : (x == ("__debug__" : Str)) = false := by decide)
    (he : starEach (e :: es) X.env = (false, eval e X.env) :: starEach es X.env := by rfl) (hpl : (backTo pos (starEach es X.env)).any (·.1) = false := by rfl) : SimE X own (.Call (.Name x p) (e :: es) [] pos) (sCall m sas) := by
  obtain ⟨f, fd, ps, hm, hk, hb, F⟩ := F.ex
  refine pe_weak (pe_call F hr hg hm hk hb .nil pass0 ha hdb he hpl) fun σ H Q ⟨g0, H0, ρ, g, S, E, q⟩ => ?_
  obtain ⟨d, S', e1, k⟩ := Res.post_ex q
  obtain ⟨ds, S1, e2, e1⟩ := Res.then_ex e1
  refine ⟨g0, H0, ρ, g, S, E, ?_⟩
  have hl := sArgs_len hst e2
  rw [e2]
  intro vs g1 H1 G1 s1 r1
  rw [List.append_nil]
  refine ⟨g1, ds, S1, G1, r1, by rw [hl, hn], ?_⟩
  rw [e1]
  exact fun v g2 H2 G2 s2 r2 => k v g2 H2 G2 (s1.trans s2) r2
/-! ### fields -/
def sAttr (cs : List Str) (f : Str) (se : SE) : SE := fun ρ S => (se ρ S).then fun d S' => match d with
  | .obj c fs => if c ∈ cs then optR (fs.lookup f) S' else .bad
  | _ => .bad
def AttrOk (K : PySem.W.Frag) (mg : Str → Option Value) (cs : List Str) (f : Str) : Prop := ∀ c ∈ cs, ∀ C, mg c = some (.ref C) → Cls K C ∧ NoAttr K C f
theorem sim_attr {cs : List Str} {f : Str} (h : SimE X own e se) (hA : AttrOk X.K X.mg cs f) (hb : attributeBase e f X.env (eval e X.env) = eval e X.env := by rfl) : SimE X own (.Attribute e f pos) (sAttr cs f se) := pe_weak (pe_fld h hb) fun σ H Q ⟨g0, H0, ρ, g, S, E, q⟩ => by
  obtain ⟨d, S', e1, k⟩ := Res.post_ex q
  obtain ⟨d1, S1, e2, e1⟩ := Res.then_ex e1
  refine ⟨g0, H0, ρ, g, S, E, ?_⟩
  rw [e2]
  intro v g1 H1 G1 s1 r1
  cases d1 with
  | obj c fs =>
    have e1' : (if c ∈ cs then optR (fs.lookup f) S1 else .bad) = Res.ok d S' := e1
    split at e1'
    · rename_i hc
      obtain ⟨e3, eS⟩ := optR_ex e1'
      subst eS
      cases r1 with
      | obj hm h1 h2 rf =>
        obtain ⟨hcl, hna⟩ := hA c hc _ hm
        obtain ⟨v, hv, rv⟩ := rf.look e3
        exact ⟨_, _, _, _, v, rfl, G1.sub _ _ h1, hcl, hna, hv, k v g1 H1 G1 s1 rv⟩
    · cases e1'
  | _ => cases e1
end

/-! ### dicts that change (the pen) -/
def valK {κ : Type} [DecidableEq κ] (kds : List (κ × D)) (k : κ) : Option D := (kds.find? fun kv => decide (kv.1 = k)).map (·.2)
def putKD {κ : Type} [DecidableEq κ] (kds : List (κ × D)) (k : κ) (d : D) : List (κ × D) :=
  if (kds.any fun kv => decide (kv.1 = k)) = true then kds.map (fun kv => if kv.1 = k then (kv.1, d) else kv) else kds ++ [(k, d)]
def keyD : D → Option Key
  | .int i => some (.inl i)
  | .str x => some (.inr x)
  | _ => none
section
variable {K : PySem.W.Frag} {mg : Str → Option Value} {g : Gh}
theorem KReps.val {κ : Type} [DecidableEq κ] : ∀ {vs : List (κ × V)} {ds : List (κ × D)} {k : κ} {d : D}, KReps K mg g vs ds → valK ds k = some d → ∃ v, valV vs k = some v ∧ Rep K mg g v d
  | _, _, _, _, .nil, h => by cases h
  | _, _, k, d, .cons (k := k') (v := v') (vs := vs) (ds := ds) (d := d') r q, h => by
    unfold valK at h
    unfold valV
    simp only [List.find?_cons] at h ⊢
    by_cases e : k' = k
    · simp only [decide_eq_true e, Option.map_some, Option.some.injEq] at h ⊢
      subst h
      exact ⟨_, rfl, r⟩
    · simp only [decide_eq_false e] at h ⊢
      exact KReps.val (ds := ds) q h
theorem KReps.any {κ : Type} [DecidableEq κ] : ∀ {vs : List (κ × V)} {ds : List (κ × D)} {k : κ}, KReps K mg g vs ds → (vs.any fun kv => decide (kv.1 = k)) = ds.any fun kv => decide (kv.1 = k)
  | _, _, _, .nil => rfl
  | _, _, _, .cons r q => by
    rw [List.any_cons, List.any_cons, KReps.any q]
theorem KReps.len {κ : Type} : ∀ {vs : List (κ × V)} {ds : List (κ × D)}, KReps K mg g vs ds → vs.length = ds.length
  | _, _, .nil => rfl
  | _, _, .cons r q => congrArg (· + 1) (KReps.len q)
theorem KReps.map {κ : Type} [DecidableEq κ] {k : κ} {v : V} {d : D} (r : Rep K mg g v d) : ∀ {vs : List (κ × V)} {ds : List (κ × D)}, KReps K mg g vs ds → KReps K mg g (vs.map fun kv => if kv.1 = k then (kv.1, v) else kv) (ds.map fun kv => if kv.1 = k then (kv.1, d) else kv)
  | _, _, .nil => .nil
  | _, _, .cons (k := k') r' q => by
    rw [List.map_cons, List.map_cons]
    by_cases e : k' = k
    · simp only [if_pos e]
      exact .cons r (KReps.map r q)
    · simp only [if_neg e]
      exact .cons r' (KReps.map r q)
theorem KReps.app {κ : Type} [DecidableEq κ] {k : κ} {v : V} {d : D} (r : Rep K mg g v d) : ∀ {vs : List (κ × V)} {ds : List (κ × D)}, KReps K mg g vs ds → KReps K mg g (vs ++ [(k, v)]) (ds ++ [(k, d)])
  | _, _, .nil => .cons r .nil
  | _, _, .cons r' q => .cons r' (KReps.app r q)
theorem KReps.put {κ : Type} [DecidableEq κ] {k : κ} {v : V} {d : D} {vs : List (κ × V)} {ds : List (κ × D)} (r : Rep K mg g v d) (q : KReps K mg g vs ds) : KReps K mg g (putK vs k v) (putKD ds k d) := by
  unfold putK putKD
  rw [KReps.any q]
  split
  · exact q.map r
  · exact q.app r
end
def keysL : List D → Option (List Key)
  | [] => some []
  | d :: ds => (match keyD d, keysL ds with
    | some k, some ks => some (k :: ks)
    | _, _ => none)
def keysD : D → Option (List Key)
  | .tup ds => keysL ds
  | _ => none
/-- what a changing object holds at a key -/
def getM : MO → D → Option D
  | .k kds, k => (keyD k).bind (valK kds)
  | .t _ kds, k => (keysD k).bind (valK kds)
def okM : MO → D → Bool
  | .k _, k => (keyD k).isSome
  | .t _ _, k => (keysD k).isSome
def getO (S : Sto) : D → D → Option D
  | .mref i, k => S[i]?.bind fun m => getM m k
  | _, _ => none
def sGet (so sk : SE) : SE := fun ρ S => (so ρ S).then fun o S1 => (sk ρ S1).then fun k S2 => optR (getO S2 o k) S2
theorem rep_key {K : PySem.W.Frag} {mg : Str → Option Value} {g : Gh} {v : V} {d : D} {k : Key} (r : Rep K mg g v d) (e : keyD d = some k) : v = kV k := by
  cases r with
  | int i => cases e; rfl
  | str x => cases e; rfl
  | _ => cases e
theorem reps_keys {K : PySem.W.Frag} {mg : Str → Option Value} {g : Gh} : ∀ {vs : List V} {ds : List D} {ks : List Key}, Reps K mg g vs ds → keysL ds = some ks → vs = ks.map kV
  | _, _, _, .nil, e => by cases e; rfl
  | _, _, ks, .cons (d := d) (ds := ds) r rs, e => by
    have e' : (match keyD d, keysL ds with
      | some k, some ks => some (k :: ks)
      | _, _ => none) = some ks := e
    cases q1 : keyD d with
    | none => rw [q1] at e'; cases e'
    | some k =>
      cases q2 : keysL ds with
      | none => rw [q1, q2] at e'; cases e'
      | some ks' =>
        rw [q1, q2] at e'
        cases e'
        rw [rep_key r q1, reps_keys rs q2]
        rfl
theorem rep_keys {K : PySem.W.Frag} {mg : Str → Option Value} {g : Gh} {v : V} {d : D} {ks : List Key} (r : Rep K mg g v d) (e : keysD d = some ks) : ∃ b, v = .ref b ∧ g.F b = some (.tup (ks.map kV)) := by
  cases r with
  | tup h rs =>
    refine ⟨_, rfl, ?_⟩
    rw [h, reps_keys rs e]
  | _ => cases e
/-- the kit's reading of a key, there or not -/
theorem dget_of {K : PySem.W.Frag} {mg : Str → Option Value} {g : Gh} {H : Hp} {S : Sto} (G : GOk K mg g H S) {j : Nat} {a : Addr} (ha : g.as[j]? = some a) {m : MO} (hm : S[j]? = some m) {v : V} {k : D} (r : Rep K mg g v k) (hk : okM m k = true) : ∃ o, DGet H a v o ∧ (match getM m k, o with
      | some d, some u => Rep K mg g u d
      | none, none => True
      | _, _ => False) := by
  obtain ⟨o, m', h1, h2, h3⟩ := G.st j a ha
  rw [hm] at h2
  cases h2
  have fin : ∀ {κ : Type} [DecidableEq κ] {vs : List (κ × V)} {ds : List (κ × D)} {k : κ}, KReps K mg g vs ds → (match valK ds k, valV vs k with
      | some d, some u => Rep K mg g u d
      | none, none => True
      | _, _ => False) := fun {κ} _ {vs ds k} r => by
    cases q : valK ds k with
    | some d =>
      obtain ⟨u, e, ru⟩ := r.val q
      rw [e]
      exact ru
    | none =>
      have : valV vs k = none := by
        have ha := r.any (k := k)
        unfold valK at q
        have q' := Option.map_eq_none_iff.mp q
        unfold valV
        rw [Option.map_eq_none_iff, List.find?_eq_none]
        rw [List.find?_eq_none] at q'
        have hd : (ds.any fun kv => decide (kv.1 = k)) = false := by
          rw [List.any_eq_false]
          exact fun x hx => q' x hx
        rw [hd, List.any_eq_false] at ha
        exact fun x hx => ha x hx
      rw [this]
      trivial
  cases h3 with
  | k r3 =>
    have hk' : (keyD k).isSome = true := hk
    cases q : keyD k with
    | none => rw [q] at hk'; cases hk'
    | some key =>
      rw [rep_key r q]
      refine ⟨_, DGet.k h1, ?_⟩
      show (match (keyD k).bind (valK _), _ with
        | some d, some u => Rep K mg g u d
        | none, none => True
        | _, _ => False)
      rw [q]
      exact fin r3
  | t r3 =>
    have hk' : (keysD k).isSome = true := hk
    cases q : keysD k with
    | none => rw [q] at hk'; cases hk'
    | some key =>
      obtain ⟨b, e, hb⟩ := rep_keys r q
      rw [e]
      refine ⟨_, .inr ⟨_, key, b, .inl h1, rfl, G.sub _ _ hb, rfl⟩, ?_⟩
      show (match (keysD k).bind (valK _), _ with
        | some d, some u => Rep K mg g u d
        | none, none => True
        | _, _ => False)
      rw [q]
      exact fin r3
  | l _ r3 =>
    have hk' : (keysD k).isSome = true := hk
    cases q : keysD k with
    | none => rw [q] at hk'; cases hk'
    | some key =>
      obtain ⟨b, e, hb⟩ := rep_keys r q
      rw [e]
      refine ⟨_, .inr ⟨_, key, b, .inr ⟨_, h1⟩, rfl, G.sub _ _ hb, rfl⟩, ?_⟩
      show (match (keysD k).bind (valK _), _ with
        | some d, some u => Rep K mg g u d
        | none, none => True
        | _, _ => False)
      rw [q]
      exact fin r3
theorem getM_key {m : MO} {k d : D} (h : getM m k = some d) : okM m k = true := by
  cases m with
  | k kds =>
    have h' : (keyD k).bind (valK kds) = some d := h
    show (keyD k).isSome = true
    cases q : keyD k with
    | none => rw [q] at h'; cases h'
    | some _ => rfl
  | t lk kds =>
    have h' : (keysD k).bind (valK kds) = some d := h
    show (keysD k).isSome = true
    cases q : keysD k with
    | none => rw [q] at h'; cases h'
    | some _ => rfl
section
variable {X : Cx} {own : List Nat} {o i e : Expr} {so sk sv se : SE} {pos pos' : Pos} {k : Nat}
theorem sim_get (hr : Room k X.A) (ho : SimE X own o so) (hi : SimE X own i sk) (hs : NoSl i := by exact fun _ _ => rfl) : SimE X own (.Subscript o i pos) (sGet so sk) := pe_weak (pe_dget (hu_of hr) ho hi hs) fun σ H Q ⟨g0, H0, ρ, g, S, E, q⟩ => by
  obtain ⟨d, S', e1, k⟩ := Res.post_ex q
  obtain ⟨od, S1, e2, e1⟩ := Res.then_ex e1
  obtain ⟨kd, S2, e3, e1⟩ := Res.then_ex e1
  refine ⟨g0, H0, ρ, g, S, E, ?_⟩
  rw [e2]
  intro v g1 H1 G1 s1 r1
  refine ⟨g0, H0, ρ, g1, S1, E.step G1 s1, ?_⟩
  rw [e3]
  intro v2 g2 H2 G2 s2 r2
  obtain ⟨e4, eS⟩ := optR_ex e1
  subst eS
  cases od with
  | mref j =>
    have e5 : S2[j]?.bind (fun m => getM m kd) = some d := e4
    cases q5 : S2[j]? with
    | none => rw [q5] at e5; cases e5
    | some m =>
      rw [q5] at e5
      have e6 : getM m kd = some d := e5
      cases r1.mono s2.le with
      | mref ha =>
        obtain ⟨o, hg, hv⟩ := dget_of G2 ha q5 r2 (getM_key e6)
        rw [e6] at hv
        cases o with
        | none => exact hv.elim
        | some u => exact ⟨_, u, rfl, hg, k u g2 H2 G2 (s1.trans s2) hv⟩
  | _ => cases e4
/-- a changing object is written -/
theorem GOk.put {K : PySem.W.Frag} {mg : Str → Option Value} {g : Gh} {H : Hp} {S : Sto} (G : GOk K mg g H S) {j : Nat} {a : Addr} (ha : g.as[j]? = some a) {o : HO} {m : MO} (hF : g.F a = none) (r : MOk K mg g a o m) : GOk K mg g (upd H a o) (S.set j m) := by
  have hj := (List.getElem?_eq_some_iff.mp ha).1
  refine ⟨fun b u e => ?_, G.nd, by rw [List.length_set, G.len], G.nf, fun i b e => ?_⟩
  · rw [upd_ne (fun z : b = a => by
      rw [z, hF] at e; cases e)]
    exact G.sub _ _ e
  · by_cases hb : i = j
    · subst hb
      rw [ha] at e; cases e
      exact ⟨o, m, upd_same, by rw [List.getElem?_set_self (by rw [G.len]; exact hj)], r⟩
    · obtain ⟨kv, kd, h1, h2, h3⟩ := G.st i b e
      refine ⟨kv, kd, ?_, by rw [List.getElem?_set_ne (Ne.symm hb)]; exact h2, h3⟩
      rw [upd_ne (fun z : b = a => hb (nd_ix G.nd e (z ▸ ha)))]
      exact h1
theorem stp_put {g : Gh} {H : Hp} {a : Addr} {o : HO} (ha : a ∈ g.as) : Stp g H g (upd H a o) := by
  refine ⟨.refl _, fun b u e n => by rw [upd_ne (fun z : b = a => n (z ▸ ha))]; exact e, fun b e => ?_, fun _ h => .inl h, fun _ h => .inl h⟩
  by_cases hb : b = a
  · subst hb; rw [upd_same]; exact fun z => nomatch z
  · rw [upd_ne hb]; exact e

/-! ### statements -/
inductive Out where
  | nx (ρ : DEnv) | rt (d : D) | bk (ρ : DEnv) | ct (ρ : DEnv)
abbrev SS := DEnv → M Out
def OutOk (X : Cx) (g0 : Gh) (H0 : Hp) (gE : Gh) (own' ob : List Nat) (D : Ends) (S : Sto) : Out → Prop
  | .nx ρ => ∀ σ g H, GLe gE g → EnvOk X.K X.mg g0 H0 own' ρ σ g H S → D.nx σ H
  | .rt d => ∀ v g H, GOk X.K X.mg g H S → Stp g0 H0 g H → Rep X.K X.mg g v d → D.rt v H
  | .bk ρ => ∀ σ g H, GLe gE g → EnvOk X.K X.mg g0 H0 ob ρ σ g H S → D.bk σ H
  | .ct ρ => ∀ σ g H, GLe gE g → EnvOk X.K X.mg g0 H0 ob ρ σ g H S → D.ct σ H
theorem OutOk.mono {X : Cx} {g0 gE gE' : Gh} {H0 : Hp} {own' ob : List Nat} {D : Ends} {S : Sto} {o : Out} (h : OutOk X g0 H0 gE own' ob D S o) (l : GLe gE gE') : OutOk X g0 H0 gE' own' ob D S o := by
  cases o with
  | nx ρ => exact fun σ g H l2 E => h σ g H (l.trans l2) E
  | rt d => exact h
  | bk ρ => exact fun σ g H l2 E => h σ g H (l.trans l2) E
  | ct ρ => exact fun σ g H l2 E => h σ g H (l.trans l2) E
def tS (X : Cx) (own own' ob : List Nat) (ss : SS) : TS := fun D σ H => ∃ g0 H0 ρ g S, EnvOk X.K X.mg g0 H0 own ρ σ g H S ∧ (ss ρ S).post fun o S' => OutOk X g0 H0 g own' ob D S' o
def SimS (X : Cx) (own own' ob : List Nat) (st : Stmt) (ss : SS) : Prop := PS X st (tS X own own' ob ss)
def SimB (X : Cx) (own own' ob : List Nat) (st : List Stmt) (ss : SS) : Prop := PSs X st (tS X own own' ob ss)
theorem ps_weak {st : Stmt} {t t' : TS} (h : PS X st t) (w : ∀ D σ H, t' D σ H → t D σ H) : PS X st t' := ⟨fun pins s σ H D I q => h.run pins s σ H D I (w D σ H q)⟩
theorem pss_weak {st : List Stmt} {t t' : TS} (h : PSs X st t) (w : ∀ D σ H, t' D σ H → t D σ H) : PSs X st t' := ⟨fun pins s σ H D I q => h.run pins s σ H D I (w D σ H q)⟩
def sNext : SS := fun ρ S => .ok (.nx ρ) S
def sSeq (s t : SS) : SS := fun ρ S => (s ρ S).then fun o S' => match o with
  | .nx ρ' => t ρ' S'
  | o => .ok o S'
def sBad : SS := fun _ _ => .bad
variable {own1 own' own2 ob : List Nat} {st : Stmt} {sts : List Stmt} {ss tt uu : SS}
theorem simb_nil : SimB X own own ob [] sNext := pss_weak pss_nil fun D σ H ⟨g0, H0, ρ, g, S, E, q⟩ => q σ g H (.refl _) E
theorem simb_cons (h : SimS X own own1 ob st ss) (h2 : SimB X own1 own' ob sts tt) : SimB X own own' ob (st :: sts) (sSeq ss tt) := pss_weak (pss_cons h h2) fun D σ H ⟨g0, H0, ρ, g, S, E, q⟩ => by
  obtain ⟨o, S', e1, k⟩ := Res.post_ex q
  obtain ⟨o1, S1, e2, e1⟩ := Res.then_ex e1
  refine ⟨g0, H0, ρ, g, S, E, ?_⟩
  rw [e2]
  cases o1 with
  | nx ρ1 =>
    intro σ1 g1 H1 l1 E1
    have e1' : tt ρ1 S1 = .ok o S' := e1
    exact ⟨g0, H0, ρ1, g1, S1, E1, by rw [e1']; exact k.mono l1⟩
  | rt d => cases e1; exact k
  | bk ρ => cases e1; exact k
  | ct ρ => cases e1; exact k
theorem simb_one (h : SimS X own own' ob st ss) : SimB X own own' ob [st] ss := pss_one h
theorem sim_never : SimS X own own' ob st sBad := ps_weak ps_never fun D σ H ⟨g0, H0, ρ, g, S, E, q⟩ => q
theorem simb_never : SimB X own own' ob sts sBad := pss_weak pss_never fun D σ H ⟨g0, H0, ρ, g, S, E, q⟩ => q
theorem sim_pass : SimS X own own ob (.Pass pos) sNext := ps_weak ps_pass fun D σ H ⟨g0, H0, ρ, g, S, E, q⟩ => q σ g H (.refl _) E
def sBreak : SS := fun ρ S => .ok (.bk ρ) S
def sCont : SS := fun ρ S => .ok (.ct ρ) S
theorem sim_break : SimS X own own' own (.Break pos) sBreak := ps_weak ps_break fun D σ H ⟨g0, H0, ρ, g, S, E, q⟩ => q σ g H (.refl _) E
theorem sim_continue : SimS X own own' own (.Continue pos) sCont := ps_weak ps_continue fun D σ H ⟨g0, H0, ρ, g, S, E, q⟩ => q σ g H (.refl _) E
def sRet (se : SE) : SS := fun ρ S => (se ρ S).then fun d S' => .ok (.rt d) S'
theorem sim_ret (h : SimE X own e se) : SimS X own own' ob (.Return (some e) pos) (sRet se) := ps_weak (ps_ret h) fun D σ H ⟨g0, H0, ρ, g, S, E, q⟩ => by
  obtain ⟨o, S', e1, k⟩ := Res.post_ex q
  obtain ⟨d, S1, e2, e1⟩ := Res.then_ex e1
  cases e1
  refine ⟨g0, H0, ρ, g, S, E, ?_⟩
  rw [e2]
  exact fun v g1 H1 G1 s1 r1 => k v g1 H1 G1 (E.stp.trans s1) r1
def sRetN : SS := fun _ S => .ok (.rt .non) S
theorem sim_retN : SimS X own own' ob (.Return none pos) sRetN := ps_weak ps_retN fun D σ H ⟨g0, H0, ρ, g, S, E, q⟩ => q _ g H E.gok E.stp .non
def sDrop (se : SE) : SS := fun ρ S => (se ρ S).then fun _ S' => .ok (.nx ρ) S'
theorem sim_expr (h : SimE X own e se) (hs : swapsWith e none pos.line X.env = pure false := by rfl) : SimS X own own ob (.Expr e pos) (sDrop se) := ps_weak (ps_expr h hs) fun D σ H ⟨g0, H0, ρ, g, S, E, q⟩ => by
  obtain ⟨o, S', e1, k⟩ := Res.post_ex q
  obtain ⟨d, S1, e2, e1⟩ := Res.then_ex e1
  cases e1
  refine ⟨g0, H0, ρ, g, S, E, ?_⟩
  rw [e2]
  exact fun v g1 H1 G1 s1 r1 => k σ g1 H1 s1.le (E.step G1 s1)
def sIfS (sb : SB) (s t : SS) : SS := fun ρ S => (sb ρ S).then fun b S' => if b then s ρ S' else t ρ S'
theorem sim_ifS {c : Expr} {sb : SB} {a b : List Stmt} (hc : SimT X own c sb) (ha : SimB X own own' ob a ss) (hb : SimB X own own' ob b tt) : SimS X own own' ob (.If c a b pos) (sIfS sb ss tt) := ps_weak (ps_if hc ha hb) fun D σ H ⟨g0, H0, ρ, g, S, E, q⟩ => by
  obtain ⟨o, S', e1, k⟩ := Res.post_ex q
  obtain ⟨b, S1, e2, e1⟩ := Res.then_ex e1
  refine ⟨g0, H0, ρ, g, S, E, ?_⟩
  rw [e2]
  intro g1 H1 G1 s1
  cases b with
  | true =>
    rw [if_pos rfl]
    have e1' : ss ρ S1 = .ok o S' := e1
    exact ⟨g0, H0, ρ, g1, S1, E.step G1 s1, by rw [e1']; exact k.mono s1.le⟩
  | false =>
    rw [if_neg Bool.false_ne_true]
    have e1' : tt ρ S1 = .ok o S' := e1
    exact ⟨g0, H0, ρ, g1, S1, E.step G1 s1, by rw [e1']; exact k.mono s1.le⟩
end

/-! ### what is owned, given up -/
section
variable {K : PySem.W.Frag} {mg : Str → Option Value} {g0 g : Gh} {H0 H : Hp} {S : Sto} {own own' : List Nat} {ρ : DEnv} {σ : L2.St}
theorem EnvOk.congr (E : EnvOk K mg g0 H0 own ρ σ g H S) (h : ∀ i, i ∈ own' ↔ i ∈ own) : EnvOk K mg g0 H0 own' ρ σ g H S :=
  ⟨E.gok, E.stp, E.len, fun i d e n => E.fro i d e fun z => n ((h i).mpr z), fun i hi => E.ow i ((h i).mp hi), fun i hi j hj => E.dis i ((h i).mp hi) j ((h j).mp hj)⟩
theorem own_apart {p q : Addr} {d d' : D} (hp : Owned K mg g H H0 p d) (hq : Owned K mg g H H0 q d') (ne : q ≠ p) {o : HO} (ho : H p = some o) : Owned K mg (g.add p o) H H0 q d' := by
  obtain ⟨a1, a2, a3, a4⟩ := hp
  obtain ⟨b1, b2, b3, b4⟩ := hq
  have le := gle_add (g := g) (p := p) (o := o) a1
  refine ⟨by show upd g.F p o q = none; rw [upd_ne ne]; exact b1, b2, b3, ?_⟩
  rcases b4 with ⟨vs, ds, e, h, r⟩ | ⟨C, dx, c, fvs, fs, e, hm, h, hd, f1, f2, f3, r⟩
  · exact .inl ⟨vs, ds, e, h, r.mono le⟩
  · refine .inr ⟨C, dx, c, fvs, fs, e, hm, h, hd, ?_, f2, f3, r.mono le⟩
    show upd g.F p o dx = none
    by_cases z : dx = p
    · subst z
      -- the instance's dict is no list and no instance
      rcases a4 with ⟨vs, ds, _, h', _⟩ | ⟨_, _, _, _, _, _, _, h', _⟩
      · rw [hd] at h'; cases h'
      · rw [hd] at h'; cases h'
    · rw [upd_ne z]; exact f1
theorem EnvOk.drop (E : EnvOk K mg g0 H0 own ρ σ g H S) (i : Nat) : ∃ g', GLe g g' ∧ EnvOk K mg g0 H0 (own.filter fun j => decide (j ≠ i)) ρ σ g' H S := by
  by_cases hi : i ∈ own
  · obtain ⟨p, d, h1, h2, hO⟩ := E.ow i hi
    have hO' := hO
    obtain ⟨a1, a2, a3, a4⟩ := hO
    have out : ∀ j, j ∉ (own.filter fun j => decide (j ≠ i)) → j = i ∨ j ∉ own := fun j hj => by
      by_cases e : j = i
      · exact .inl e
      · exact .inr fun z => hj (List.mem_filter.mpr ⟨z, decide_eq_true e⟩)
    rcases a4 with ⟨vs, ds, e, h, r⟩ | ⟨C, dx, c, fvs, fs, e, hm, h, hd, f1, f2, f3, r⟩
    · have le := gle_add (g := g) (p := p) (o := .lst vs) a1
      refine ⟨g.add p (.lst vs), le, E.gok.freeze h a1 a2, ⟨E.stp.le.trans le, E.stp.keep, E.stp.there, fun a ha => ?_, E.stp.newA⟩, E.len, fun j d' hj n => ?_, fun j hj => ?_, fun j hj k hk => E.dis j (List.mem_filter.mp hj).1 k (List.mem_filter.mp hk).1⟩
      · by_cases e : a = p
        · subst e; exact .inr (.inl a3)
        · have ha' : upd g.F p (.lst vs) a ≠ none := ha
          rw [upd_ne e] at ha'
          exact E.stp.newF a ha'
      · rcases out j n with rfl | n'
        · rw [h1] at hj; cases hj
          subst e
          exact ⟨_, h2, .lst (by exact upd_same) (r.mono le)⟩
        · obtain ⟨v, q1, q2⟩ := E.fro j d' hj n'
          exact ⟨v, q1, q2.mono le⟩
      · obtain ⟨hj1, hj2⟩ := List.mem_filter.mp hj
        obtain ⟨q, d', q1, q2, q3⟩ := E.ow j hj1
        have ne : q ≠ p := fun z => E.dis j hj1 i hi (of_decide_eq_true hj2) (by rw [q2, h2, z])
        exact ⟨q, d', q1, q2, own_apart hO' q3 ne h⟩
    · have le1 := gle_add (g := g) (p := p) (o := .ins C dx fvs) a1
      have npd : dx ≠ p := fun z => by rw [z, h] at hd; cases hd
      have f1' : (g.add p (.ins C dx fvs)).F dx = none := by
        show upd g.F p _ dx = none
        rw [upd_ne npd]; exact f1
      have le2 := gle_add (g := g.add p (.ins C dx fvs)) (p := dx) (o := .own p) f1'
      have le := le1.trans le2
      refine ⟨(g.add p (.ins C dx fvs)).add dx (.own p), le, (E.gok.freeze h a1 a2).freeze hd f1' f2, ⟨E.stp.le.trans le, E.stp.keep, E.stp.there, fun a ha => ?_, E.stp.newA⟩, E.len, fun j d' hj n => ?_, fun j hj => ?_, fun j hj k hk => E.dis j (List.mem_filter.mp hj).1 k (List.mem_filter.mp hk).1⟩
      · have ha' : upd (upd g.F p (.ins C dx fvs)) dx (.own p) a ≠ none := ha
        by_cases e2 : a = dx
        · subst e2; exact .inr (.inl f3)
        · rw [upd_ne e2] at ha'
          by_cases e : a = p
          · subst e; exact .inr (.inl a3)
          · rw [upd_ne e] at ha'
            exact E.stp.newF a ha'
      · rcases out j n with rfl | n'
        · rw [h1] at hj; cases hj
          rw [e.2]
          refine ⟨_, h2, .obj hm (?_ : upd (upd g.F p (.ins C dx fvs)) dx (.own p) p = _) (by exact upd_same) (r.mono le)⟩
          rw [upd_ne (Ne.symm npd), upd_same]
        · obtain ⟨v, q1, q2⟩ := E.fro j d' hj n'
          exact ⟨v, q1, q2.mono le⟩
      · obtain ⟨hj1, hj2⟩ := List.mem_filter.mp hj
        obtain ⟨q, d', q1, q2, q3⟩ := E.ow j hj1
        have ne : q ≠ p := fun z => E.dis j hj1 i hi (of_decide_eq_true hj2) (by rw [q2, h2, z])
        have o1 := own_apart hO' q3 ne h
        refine ⟨q, d', q1, q2, ?_⟩
        obtain ⟨b1, b2, b3, b4⟩ := o1
        have nq : q ≠ dx := fun z => by
          rcases b4 with ⟨vs, ds, _, h', _⟩ | ⟨_, _, _, _, _, _, _, h', _⟩
          · rw [z, hd] at h'; cases h'
          · rw [z, hd] at h'; cases h'
        refine ⟨?_, b2, b3, ?_⟩
        · show upd (g.add p (.ins C dx fvs)).F dx (.own p) q = none
          rw [upd_ne nq]; exact b1
        · rcases b4 with ⟨vs, ds, e, h', r'⟩ | ⟨C', dy, c', fvs', fs', e, hm', h', hd', f1'', f2', f3', r'⟩
          · exact .inl ⟨vs, ds, e, h', r'.mono le2⟩
          · refine .inr ⟨C', dy, c', fvs', fs', e, hm', h', hd', ?_, f2', f3', r'.mono le2⟩
            show upd (g.add p (.ins C dx fvs)).F dx (.own p) dy = none
            rw [upd_ne (fun z : dy = dx => by
              rw [z, hd] at hd'
              cases hd'
              exact ne rfl)]
            exact f1''
  · refine ⟨g, .refl _, E.congr fun j => ?_⟩
    rw [List.mem_filter]
    exact ⟨fun h => h.1, fun h => ⟨h, decide_eq_true fun z => hi (z ▸ h)⟩⟩
theorem EnvOk.drops (l : List Nat) : ∀ {g : Gh} {own : List Nat}, EnvOk K mg g0 H0 own ρ σ g H S → ∃ g', GLe g g' ∧ EnvOk K mg g0 H0 (own.filter fun j => decide (j ∉ l)) ρ σ g' H S := by
  induction l with
  | nil => exact fun {g own} E => ⟨g, .refl _, E.congr fun j => by simp⟩
  | cons i l ih =>
    intro g own E
    obtain ⟨g1, l1, E1⟩ := E.drop i
    obtain ⟨g2, l2, E2⟩ := ih E1
    refine ⟨g2, l1.trans l2, E2.congr fun j => ?_⟩
    simp only [List.mem_filter, decide_eq_true_eq, List.mem_cons, not_or]
    exact ⟨fun ⟨a, b, c⟩ => ⟨⟨a, b⟩, c⟩, fun ⟨⟨a, b⟩, c⟩ => ⟨a, b, c⟩⟩
theorem EnvOk.sub (E : EnvOk K mg g0 H0 own ρ σ g H S) (h : ∀ i ∈ own', i ∈ own) : ∃ g', GLe g g' ∧ EnvOk K mg g0 H0 own' ρ σ g' H S := by
  obtain ⟨g', l', E'⟩ := E.drops (own.filter fun j => decide (j ∉ own'))
  refine ⟨g', l', E'.congr fun j => ?_⟩
  simp only [List.mem_filter, decide_eq_true_eq]
  constructor
  · exact fun z => ⟨h j z, fun q => q.2 z⟩
  · rintro ⟨a, b⟩
    by_cases z : j ∈ own'
    · exact z
    · exact absurd ⟨a, z⟩ b
end
section
variable {X : Cx} {own own1 own' own2 ob : List Nat} {st : Stmt} {sts : List Stmt} {ss : SS}
def subL (a b : List Nat) : Bool := a.all fun i => b.contains i
theorem subL_ok {a b : List Nat} (h : subL a b = true) : ∀ i ∈ a, i ∈ b := fun i hi => by
  have := List.all_eq_true.mp h i hi
  simpa using this
theorem simb_pre (h : SimB X own1 own' ob sts ss) (hs : subL own1 own = true := by rfl) : SimB X own own' ob sts ss := pss_weak h fun D σ H ⟨g0, H0, ρ, g, S, E, q⟩ => by
  obtain ⟨g', l', E'⟩ := E.sub (subL_ok hs)
  exact ⟨g0, H0, ρ, g', S, E', Res.post_mono q fun o S' k => k.mono l'⟩
theorem simb_post (h : SimB X own own1 ob sts ss) (hs : subL own' own1 = true := by rfl) : SimB X own own' ob sts ss := pss_weak h fun D σ H ⟨g0, H0, ρ, g, S, E, q⟩ => by
  refine ⟨g0, H0, ρ, g, S, E, Res.post_mono q fun o S' k => ?_⟩
  cases o with
  | nx ρ =>
    intro σ1 g1 H1 l1 E1
    obtain ⟨g', l', E'⟩ := E1.sub (subL_ok hs)
    exact k σ1 g' H1 (l1.trans l') E'
  | _ => exact k
theorem sim_pre (h : SimS X own1 own' ob st ss) (hs : subL own1 own = true := by rfl) : SimS X own own' ob st ss := ps_weak h fun D σ H ⟨g0, H0, ρ, g, S, E, q⟩ => by
  obtain ⟨g', l', E'⟩ := E.sub (subL_ok hs)
  exact ⟨g0, H0, ρ, g', S, E', Res.post_mono q fun o S' k => k.mono l'⟩
theorem sim_post (h : SimS X own own1 ob st ss) (hs : subL own' own1 = true := by rfl) : SimS X own own' ob st ss := ps_weak h fun D σ H ⟨g0, H0, ρ, g, S, E, q⟩ => by
  refine ⟨g0, H0, ρ, g, S, E, Res.post_mono q fun o S' k => ?_⟩
  cases o with
  | nx ρ =>
    intro σ1 g1 H1 l1 E1
    obtain ⟨g', l', E'⟩ := E1.sub (subL_ok hs)
    exact k σ1 g' H1 (l1.trans l') E'
  | _ => exact k
end
end Ev
namespace Ev
open PySem PySem.Spec PyProof.Rows L2
/-! ### enumerate of a tuple -/
theorem meets_enum1 {v : Value} {o : Obj} {H : Heap → Prop} (B : Begins v o H) :
    Meets (Builtin.«enumerate.__new__» ⟨[.type "enumerate", v], []⟩) (fun _ R s => H s.heap ∧
      R (.ok (.ret (.ref (s.heap.push o).objs.size))) { s with heap := (s.heap.push o).push { cls := .type "enumerate", data := .fields #[.none, .bool false, .ref s.heap.objs.size, rawInt 0, .none, .none] } }) :=
  .of_wp fun prog w A R s h => by
    obtain ⟨hp, g, d, tk, os⟩ := s; obtain ⟨h1, h⟩ := h
    have hsub := sub_enumerate
    have q1 : ∀ {A' : Around} {E : Value → Shared → Prop} {Q : Value → Shared → Prop}, Q (.ref hp.objs.size) ⟨hp.push o, g, d, tk, os⟩ → wpAny (model prog w) A' (pyIter v) Q E ⟨hp, g, d, tk, os⟩ :=
      fun q => B.iter prog w _ _ ⟨hp, g, d, tk, os⟩ _ h1 q
    wp_walk using q1
    refine wpAny_stack_any fun st => wpAny_pure ?_
    split
    · rename_i c _ _ _ _ _
      cases (c == Value.type "enumerate")
      · wp_walk using q1
        exact ⟨_, rfl, h⟩
      · wp_walk using q1
        exact ⟨_, rfl, h⟩
    · wp_walk using q1
      exact ⟨_, rfl, h⟩
theorem enum1_begins {prog : Program} {w : World} {A : Around} {E : Value → Shared → Prop} {s : Shared} {v : Value} {o : Obj} {H : Heap → Prop} {Q : Value → Shared → Prop} (B : Begins v o H) (h1 : H s.heap)
    (h : ∀ h', IsEnum h' (s.heap.objs.size + 1) s.heap.objs.size 0 .none → h'.get? s.heap.objs.size = some o → h'.objs.size = s.heap.objs.size + 2 →
      (∀ b o, s.heap.get? b = some o → h'.get? b = some o) → Q (.ref (s.heap.objs.size + 1)) { s with heap := h' }) :
    wpAny (model prog w) A (call (.type "enumerate") [v]) Q E s := by
  refine callType_new F.called_enumerate (by decide) (F.typeCall_enumerate_1 _) (F.newCall_enumerate_1 _) (fun obj => F.args_object_init_2 obj _) F.entry_enumerate_new
    (meets_enum1 B) ⟨h1, ?_⟩
  have hz : (s.heap.push o).objs.size = s.heap.objs.size + 1 := Heap.size_push ..
  show _ ∧ _
  rw [hz]
  have he : IsEnum ((s.heap.push o).push { cls := .type "enumerate", data := .fields #[.none, .bool false, .ref s.heap.objs.size, rawInt 0, .none, .none] }) (s.heap.objs.size + 1) s.heap.objs.size 0 .none := by
    have := Heap.get?_push_size (s.heap.push o) (o := { cls := .type "enumerate", data := .fields #[.none, .bool false, .ref s.heap.objs.size, rawInt 0, .none, .none] }) rfl
    rw [hz] at this; exact this
  refine ⟨⟨_, he, rfl⟩, h _ he (Heap.get?_push_of_some _ (Heap.get?_push_size _ B.free)) (by rw [Heap.size_push, hz]) fun b o x => Heap.get?_push_of_some _ (Heap.get?_push_of_some _ x)⟩
def IteT (K : PySem.W.Frag) (a : Addr) : It :=
  ⟨fun i H => ∃ (xs : List V) (x : V), SqT K H a xs ∧ xs[i]? = some x, fun i H v H' => ∃ T x, v = .ref T ∧ H T = none ∧ H' = upd H T (.tup [.int (i : Nat), x]) ∧ ∀ xs, SqT K H a xs → xs[i]? = some x, fun i H => ∃ xs : List V, SqT K H a xs ∧ xs.length ≤ i⟩
theorem turn_enumT {P : Program} {w : World} {K : PySem.W.Frag} {elts : List Expr} {kk : Nat} {tpos : Pos} (a e it : Addr) :
    Turn P w K (.Tuple elts kk tpos) (IteT K a) [e, it] e (fun i h => (∃ old, IsEnum h e it ((i : Nat) : Int) old) ∧ h.IsTupleIter it a i ∧ e ≠ it ∧ a ≠ it ∧ a ≠ e) where
  mem := by simp
  obj := fun i h st b hb => by
    obtain ⟨⟨old, he⟩, ⟨o, ho, hc, hd⟩, _⟩ := st
    have e' : b = e ∨ b = it := by simpa using hb
    rcases e' with z | z
    · rw [z]; exact ⟨_, he, fun v q => nomatch q⟩
    · rw [z]; exact ⟨o, ho, fun v q => by rw [hd] at q; cases q⟩
  keep := fun i h h' st k => let ⟨⟨old, he⟩, hi, hne⟩ := st; ⟨⟨old, k e (by simp) _ he⟩, hi.at fun o q => k it (by simp) o q, hne⟩
  item := by
    intro X hP hw hK hc i pins s σ H E I hf st hg
    subst hP hw hK
    obtain ⟨⟨old, he⟩, hit, hne, nai, nae⟩ := st
    obtain ⟨xs, x, hq, hx⟩ := hg
    obtain ⟨its, rv, p, hz⟩ := I.tuple hq
    obtain ⟨u, hu, ru⟩ := rv.get hx
    have hel : e < s.heap.objs.size := Heap.lt_size he
    have hil : it < s.heap.objs.size := by obtain ⟨_, q, _⟩ := hit; exact Heap.lt_size q
    have DT := Draws.tuple (prog := X.prog) (w := X.w) (A := X.A.in1) (I.ok.hd hc) it a nai its.toArray
    have hlt : i < its.toArray.size := by
      have := (List.getElem?_eq_some_iff.mp hu).1
      simpa using this
    have nef : e ∉ [it, a] := fun z => by
      have e' : e = it ∨ e = a := by simpa using z
      exact e'.elim hne (Ne.symm nae)
    refine wpAny_pyNext_enum_itemC DT he ⟨hit, p⟩ hlt hne nef fun u' h' tk hP ho hs' hT hsz hk => ?_
    have eu : u' = u := by
      have : its.toArray[i]? = some u := by simpa using hu
      rw [this] at hP
      exact (Option.some.inj hP).symm
    subst eu
    obtain ⟨hit', _⟩ := hs'
    refine ⟨_, rfl, wpAny_letOwnedTupleGo_enum (s := { s with heap := h', toks := tk + 1 }) ho fun h'' he' sb => ?_⟩
    have hT2 : h''.get? s.heap.objs.size = some { cls := .type "tuple", data := .seq #[.int i tk, u'] } := (sb.2 _ (Nat.ne_of_gt hel)).trans hT
    have new : ObjOk X.prog X.w (upd H s.heap.objs.size (.tup [.int (i : Nat), x])) h'' s.heap.objs.size (.tup [.int (i : Nat), x]) :=
      ⟨by show 2 ≤ sizeLine; decide, [.int i tk, u'], .cons ⟨_, rfl⟩ (.cons ru .nil), ⟨_, hT2, rfl, _, rfl⟩⟩
    have I1 : Inv X pins σ (upd H s.heap.objs.size (.tup [.int (i : Nat), x])) { s with heap := h'', toks := tk + 1 } :=
      I.turnedNew (ch := [e, it]) (fun b ob hb q => (sb.2 b (fun z => hb (by simp [z]))).trans (hk b ob (fun z => hb (by simp [z])) (fun z => hb (by simp [z])) q)) hf (Nat.le_refl _) new
    refine ⟨.ref s.heap.objs.size, _, I1, rfl, ⟨_, x, rfl, I.hok.fresh (Nat.le_refl _), rfl, fun ys hy => by rw [I.tuple_inj hy hq]; exact hx⟩, ⟨⟨u', ?_⟩, hit'.at fun o q => (sb.2 it (Ne.symm hne)).trans q, hne, nai, nae⟩, fun b hb => ?_⟩
    · have e1 : ((i + 1 : Nat) : Int) = (i : Int) + 1 := by omega
      rw [e1]; exact he'
    · have hb' : b < s.heap.objs.size := by
        have e' : b = e ∨ b = it := by simpa using hb
        rcases e' with z | z
        · rw [z]; exact hel
        · rw [z]; exact hil
      rw [upd_ne (Nat.ne_of_lt hb')]
      exact (hf b hb).1
  done := by
    intro X hP hw hK hc i pins s σ H E I hf st hg
    subst hP hw hK
    obtain ⟨⟨old, he⟩, hit, hne, nai, nae⟩ := st
    obtain ⟨xs, hq, hx⟩ := hg
    obtain ⟨its, rv, p, hz⟩ := I.tuple hq
    obtain ⟨f0, f1, f2, f3, f4, f5⟩ := hf it (by simp)
    have hl := rv.length
    have DT := Draws.tuple (prog := X.prog) (w := X.w) (A := X.A.in1) (I.ok.hd hc) it a nai its.toArray
    have D2 : Draws X.prog X.w X.A.in1 it [it, a] i (fun _ _ => False) (fun j h => j = i ∧ h.IsTupleIter it a j ∧ h.IsTuple a its.toArray) := {
      live := fun _ _ st => let ⟨o, ho, _⟩ := st.2.1; ⟨o, ho⟩
      frame := fun _ _ _ st hk => ⟨st.1, st.2.1.at fun o e => hk it (by simp) o e, st.2.2.at fun o e => hk a (by simp) o e⟩
      item := fun j s Q E hj st _ => absurd hj (by rw [st.1]; exact Nat.lt_irrefl _)
      done := fun s Q E st hE => wpAny_nextOf_tuple_end (I.ok.hd hc) st.2.1 st.2.2 (by simp; omega) hE }
    exact wpAny_pyNext_enum_endD D2 he ⟨rfl, hit, p⟩ fun h' eb => ⟨rfl, I.turned (t' := s.toks) (fun b o hb q => eb b o hb q) f0 f1 f3 f4 f5⟩
  self := fun A i s Q E st h => let ⟨⟨_, he⟩, _⟩ := st; wpAny_pyIter_enum he h
def iEnumT (K : PySem.W.Frag) (ta : TA) : TI := fun σ H R => ta σ H fun vs H1 => ∃ a xs, vs = [.ref a] ∧ ((SqT K H1 a xs ∧ R (IteT K a) H1) ∨ (SqL K H1 a xs ∧ R (Ite K a) H1))
theorem pi_enumT {X : Cx} {e : Expr} {ta : TA} {p pos tpos : Pos} {elts : List Expr} {kk : Nat} (hg : Gl X "enumerate") (hm : X.mg "enumerate" = none) (ha : PA X [e] ta) (hs : starEach [e] X.env = [(false, eval e X.env)] := by rfl) :
    PI X (.Tuple elts kk tpos) (.Call (.Name "enumerate" p) [e] [] pos) (iEnumT X.K ta) := by
  refine ⟨fun pins s σ H R I h => ?_⟩
  refine Call_ (ld_blt I hg hm boot_enumerate (PyProof.Rows.callWith_type1 (thn (ha.run pos pins s σ H _ I h) fun us s1 ⟨vs, H1, I1, r1, q1⟩ => ?_) hs rfl))
  obtain ⟨a, xs, ex, q⟩ := q1
  subst ex
  cases r1 with
  | cons r rr =>
    cases rr
    cases r
    rcases q with ⟨hq, q⟩ | ⟨hq, q⟩
    · obtain ⟨its, rv, p', hz⟩ := I1.tuple hq
      have lt : a < s1.heap.objs.size := p'.lt
      refine enum1_begins (begins_tuple a its.toArray) p' fun h' he hit hsz hk => wpAny_pyIter_enum he ?_
      have I2 : Inv X pins σ H1 { s1 with heap := h' } := I1.kept (t' := s1.toks) hk
      refine ⟨s1.heap.objs.size + 1, [s1.heap.objs.size + 1, s1.heap.objs.size], _, _, H1, rfl, I2, turn_enumT a (s1.heap.objs.size + 1) s1.heap.objs.size, ⟨⟨.none, he⟩, ⟨_, hit, rfl, rfl⟩, Nat.succ_ne_self _, Nat.ne_of_lt lt, Nat.ne_of_lt (Nat.lt_succ_of_lt lt)⟩, fun b hb => ?_, q⟩
      have e' : b = s1.heap.objs.size + 1 ∨ b = s1.heap.objs.size := by simpa using hb
      have hle : s1.heap.objs.size ≤ b := by
        rcases e' with z | z
        · rw [z]; exact Nat.le_succ _
        · rw [z]; exact Nat.le_refl _
      exact I1.fpOk hle (I1.hok.fresh hle)
    · obtain ⟨its, rv, p', hz⟩ := I1.list hq
      refine call_enumerate_list p'.isList fun h' he hit hsz hk => wpAny_pyIter_enum he ?_
      have I2 : Inv X pins σ H1 { s1 with heap := h' } := I1.kept (t' := s1.toks) hk
      refine ⟨s1.heap.objs.size + 1, [s1.heap.objs.size + 1, s1.heap.objs.size], _, _, H1, rfl, I2, turn_enum a (s1.heap.objs.size + 1) s1.heap.objs.size, ⟨⟨.none, he⟩, hit, Nat.succ_ne_self _⟩, fun b hb => ?_, q⟩
      have e' : b = s1.heap.objs.size + 1 ∨ b = s1.heap.objs.size := by simpa using hb
      have hle : s1.heap.objs.size ≤ b := by
        rcases e' with z | z
        · rw [z]; exact Nat.le_succ _
        · rw [z]; exact Nat.le_refl _
      exact I1.fpOk hle (I1.hok.fresh hle)
end Ev
namespace Ev
open PySem PySem.Spec PyProof.Rows L2
/-! ### stores -/
def er (own : List Nat) (i : Nat) : List Nat := own.filter fun j => decide (j ≠ i)
theorem mem_er {own : List Nat} {i j : Nat} : j ∈ er own i ↔ j ∈ own ∧ j ≠ i := by
  unfold er
  rw [List.mem_filter, decide_eq_true_eq]
section
variable {K : PySem.W.Frag} {mg : Str → Option Value} {g0 g g' : Gh} {H0 H H' : Hp} {S S' : Sto} {own own' : List Nat} {ρ : DEnv} {σ : L2.St}
/-- a slot is stored: a value for good -/
theorem EnvOk.set (E : EnvOk K mg g0 H0 own ρ σ g H S) {i : Nat} {v : V} {d : D} (r : Rep K mg g v d) : EnvOk K mg g0 H0 (er own i) (ρ.set i (some d)) (σ.set i (some v)) g H S where
  gok := E.gok
  stp := E.stp
  len := by rw [List.length_set, List.length_set, E.len]
  fro := fun j d' hj n => by
    by_cases e : i = j
    · subst e
      have hi : i < ρ.length := by
        have := (List.getElem?_eq_some_iff.mp hj).1
        simpa using this
      rw [List.getElem?_set_self hi] at hj
      cases hj
      exact ⟨v, by rw [List.getElem?_set_self (by rw [← E.len]; exact hi)], r⟩
    · rw [List.getElem?_set_ne e] at hj
      obtain ⟨w, q1, q2⟩ := E.fro j d' hj fun z => n (mem_er.mpr ⟨z, Ne.symm e⟩)
      exact ⟨w, by rw [List.getElem?_set_ne e]; exact q1, q2⟩
  ow := fun j hj => by
    obtain ⟨hj1, hj2⟩ := mem_er.mp hj
    obtain ⟨p, d', h1, h2, h3⟩ := E.ow j hj1
    exact ⟨p, d', by rw [List.getElem?_set_ne (Ne.symm hj2)]; exact h1, by rw [List.getElem?_set_ne (Ne.symm hj2)]; exact h2, h3⟩
  dis := fun j hj k hk ne => by
    obtain ⟨hj1, hj2⟩ := mem_er.mp hj
    obtain ⟨hk1, hk2⟩ := mem_er.mp hk
    rw [List.getElem?_set_ne (Ne.symm hj2), List.getElem?_set_ne (Ne.symm hk2)]
    exact E.dis j hj1 k hk1 ne
/-- a slot takes a new list, owned from now on -/
theorem EnvOk.setF (E : EnvOk K mg g0 H0 own ρ σ g H S) {i : Nat} {p : Addr} {vs : List V} {ds : List D} (hi : i < ρ.length) (h : H p = some (.lst vs)) (h1 : g.F p = none) (h2 : p ∉ g.as) (h3 : H0 p = none) (r : Reps K mg g vs ds)
    (hne : ∀ j ∈ own, σ[j]? ≠ some (some (.ref p))) : EnvOk K mg g0 H0 (i :: er own i) (ρ.set i (some (.lst ds))) (σ.set i (some (.ref p))) g H S where
  gok := E.gok
  stp := E.stp
  len := by rw [List.length_set, List.length_set, E.len]
  fro := fun j d' hj n => by
    have e : i ≠ j := fun z => n (by rw [z]; exact List.mem_cons_self)
    rw [List.getElem?_set_ne e] at hj
    obtain ⟨w, q1, q2⟩ := E.fro j d' hj fun z => n (List.mem_cons_of_mem _ (mem_er.mpr ⟨z, Ne.symm e⟩))
    exact ⟨w, by rw [List.getElem?_set_ne e]; exact q1, q2⟩
  ow := fun j hj => by
    by_cases e : i = j
    · subst e
      exact ⟨p, _, by rw [List.getElem?_set_self hi], by rw [List.getElem?_set_self (by rw [← E.len]; exact hi)], h1, h2, h3, .inl ⟨vs, ds, rfl, h, r⟩⟩
    · have hj' : j ∈ er own i := by
        rcases List.mem_cons.mp hj with z | z
        · exact absurd z.symm e
        · exact z
      obtain ⟨hj1, hj2⟩ := mem_er.mp hj'
      obtain ⟨q, d', q1, q2, q3⟩ := E.ow j hj1
      exact ⟨q, d', by rw [List.getElem?_set_ne e]; exact q1, by rw [List.getElem?_set_ne e]; exact q2, q3⟩
  dis := fun j hj k hk ne => by
    have get : ∀ l ∈ i :: er own i, l ≠ i → l ∈ own ∧ (σ.set i (some (.ref p)))[l]? = σ[l]? := fun l hl n => by
      rcases List.mem_cons.mp hl with z | z
      · exact absurd z n
      · exact ⟨(mem_er.mp z).1, by rw [List.getElem?_set_ne (Ne.symm n)]⟩
    have self : (σ.set i (some (.ref p)))[i]? = some (some (.ref p)) := by rw [List.getElem?_set_self (by rw [← E.len]; exact hi)]
    by_cases ej : j = i
    · have nk : k ≠ i := fun z => ne (ej.trans z.symm)
      obtain ⟨k1, k2⟩ := get k hk nk
      rw [ej, self, k2]
      exact fun z => hne k k1 z.symm
    · obtain ⟨j1, j2⟩ := get j hj ej
      by_cases ek : k = i
      · rw [ek, self, j2]
        exact hne j j1
      · obtain ⟨k1, k2⟩ := get k hk ek
        rw [j2, k2]
        exact E.dis j j1 k k1 ne
/-- what is new is none of the body's own -/
theorem EnvOk.other (E : EnvOk K mg g0 H0 own ρ σ g H S) {p : Addr} (hp : H p = none) : ∀ j ∈ own, σ[j]? ≠ some (some (.ref p)) := fun j hj e => by
  obtain ⟨q, d, _, h2, _, _, _, h⟩ := E.ow j hj
  rw [e] at h2
  cases h2
  rcases h with ⟨vs, ds, _, h, _⟩ | ⟨_, _, _, _, _, _, _, h, _⟩
  · rw [hp] at h; cases h
  · rw [hp] at h; cases h
theorem EnvOk.new0 (E : EnvOk K mg g0 H0 own ρ σ g H S) {p : Addr} (hp : H p = none) : H0 p = none := by
  cases q : H0 p with
  | none => rfl
  | some o => exact absurd hp (E.stp.there p (by rw [q]; exact fun z => nomatch z))
/-- a list of the body's own is changed in its place -/
theorem EnvOk.write (E : EnvOk K mg g0 H0 own ρ σ g H S) {i : Nat} (hi : i ∈ own) {ds es : List D} (h : ρ[i]? = some (some (.lst ds))) :
    ∃ p vs, σ[i]? = some (some (.ref p)) ∧ H p = some (.lst vs) ∧ Reps K mg g vs ds ∧ ∀ ws, Reps K mg g ws es → EnvOk K mg g0 H0 own (ρ.set i (some (.lst es))) σ g (upd H p (.lst ws)) S := by
  obtain ⟨p, d, h1, h2, a1, a2, a3, a4⟩ := E.ow i hi
  rw [h] at h1
  cases h1
  rcases a4 with ⟨vs, ds', e, hp, r⟩ | ⟨_, _, _, _, _, ⟨_, e⟩, _⟩
  · cases e
    refine ⟨p, vs, h2, hp, r, fun ws rw' => ?_⟩
    have hil : i < ρ.length := (List.getElem?_eq_some_iff.mp h).1
    have Fne : ∀ {b : Addr} {o : HO}, g.F b = some o → b ≠ p := fun {b o} e z => by rw [z, a1] at e; cases e
    refine ⟨⟨fun b o e => by rw [upd_ne (Fne e)]; exact E.gok.sub _ _ e, E.gok.nd, E.gok.len, E.gok.nf, fun j a ha => ?_⟩, ⟨E.stp.le, fun b o e n => ?_, fun b e => ?_, E.stp.newF, E.stp.newA⟩, by rw [List.length_set]; exact E.len, fun j d' hj n => ?_, fun j hj => ?_, E.dis⟩
    · obtain ⟨kvs, kds, q1, q2, q3⟩ := E.gok.st j a ha
      exact ⟨kvs, kds, by rw [upd_ne (fun z : a = p => a2 (z ▸ List.mem_of_getElem? ha))]; exact q1, q2, q3⟩
    · rw [upd_ne (fun z : b = p => by rw [z, a3] at e; cases e)]
      exact E.stp.keep b o e n
    · by_cases z : b = p
      · rw [z, upd_same]; exact fun z => nomatch z
      · rw [upd_ne z]; exact E.stp.there b e
    · have ne : i ≠ j := fun z => n (z ▸ hi)
      rw [List.getElem?_set_ne ne] at hj
      exact E.fro j d' hj n
    · by_cases e : i = j
      · subst e
        exact ⟨p, _, by rw [List.getElem?_set_self hil], h2, a1, a2, a3, .inl ⟨ws, es, rfl, upd_same, rw'⟩⟩
      · obtain ⟨q, d', q1, q2, b1, b2, b3, b4⟩ := E.ow j hj
        have nq : q ≠ p := fun z => E.dis i hi j hj e (by rw [h2, q2, z])
        refine ⟨q, d', by rw [List.getElem?_set_ne e]; exact q1, q2, b1, b2, b3, ?_⟩
        rcases b4 with ⟨vs', ds', e', h', r'⟩ | ⟨C', dy, c', fvs', fs', e', hm', h', hd', f1, f2, f3, r'⟩
        · exact .inl ⟨vs', ds', e', by rw [upd_ne nq]; exact h', r'⟩
        · exact .inr ⟨C', dy, c', fvs', fs', e', hm', by rw [upd_ne nq]; exact h', by rw [upd_ne (ne_of hd' hp (fun z => nomatch z))]; exact hd', f1, f2, f3, r'⟩
  · cases e
/-- a changing object is written -/
theorem EnvOk.put (E : EnvOk K mg g0 H0 own ρ σ g H S) {j : Nat} {a : Addr} (ha : g.as[j]? = some a) {o : HO} {m : MO} (hF : g.F a = none) (r : MOk K mg g a o m) : EnvOk K mg g0 H0 own ρ σ g (upd H a o) (S.set j m) :=
  E.step (E.gok.put ha hF r) (stp_put (List.mem_of_getElem? ha))
end
section
variable {X : Cx} {own own' own1 ob : List Nat} {e o idx : Expr} {se so sk sv : SE} {pos pos' pos2 : Pos} {i k : Nat} {x : Str}
def sSet (i : Nat) (se : SE) : SS := fun ρ S => (se ρ S).then fun d S' => .ok (.nx (ρ.set i (some d))) S'
theorem set_of {D : Ends} {σ : L2.St} {H : Hp} (h : tS X own (er own i) ob (sSet i se) D σ H) : tAsg (tE X own se) (gName i) D σ H := by
  obtain ⟨g0, H0, ρ, g, S, E, q⟩ := h
  obtain ⟨o, S', e1, k⟩ := Res.post_ex q
  obtain ⟨d, S1, e2, e1⟩ := Res.then_ex e1
  cases e1
  refine ⟨g0, H0, ρ, g, S, E, ?_⟩
  rw [e2]
  exact fun v g1 H1 G1 s1 r1 => k _ g1 H1 s1.le ((E.step G1 s1).set r1)
theorem setF_of (hi : i < X.N.length) {D : Ends} {σ : L2.St} {H : Hp} (hσ : σ.length = X.N.length) (hl : ∀ ρ S d S', se ρ S = .ok d S' → ∃ ds, d = .lst ds) (h : tS X own (i :: er own i) ob (sSet i se) D σ H) : tAsg (tF X own se) (gName i) D σ H := by
  obtain ⟨g0, H0, ρ, g, S, E, q⟩ := h
  obtain ⟨o, S', e1, k⟩ := Res.post_ex q
  obtain ⟨d, S1, e2, e1⟩ := Res.then_ex e1
  cases e1
  obtain ⟨ds, rfl⟩ := hl _ _ _ _ e2
  refine ⟨g0, H0, ρ, g, S, E, ?_⟩
  rw [e2]
  refine ⟨ds, rfl, fun p vs g1 H1 G1 s1 h1 h2 h3 h4 r => ?_⟩
  exact k _ g1 H1 s1.le ((E.step G1 s1).setF (by rw [E.len, hσ]; exact hi) h1 h2 h3 (E.new0 h4) r fun j hj => E.other h4 j hj)
/-- a statement's reading may lean on the frame's size -/
theorem ps_weakN {st : Stmt} {t t' : TS} (h : PS X st t) (w : ∀ D σ H, σ.length = X.N.length → t' D σ H → t D σ H) : PS X st t' := ⟨fun pins s σ H D I q => h.run pins s σ H D I (w D σ H I.len q)⟩
theorem sim_set (hN : X.N.Nodup) (hi : X.N[i]? = some x) (hx : Loc X.env.scope x) (he : SimE X own e se) (hs : swapsWith e (some (.Name x pos')) pos.line X.env = pure false := by rfl) (hf : X.fn x = true ∨ X.env.scope.names.lookup x = some .local := by first | exact .inl rfl | exact .inr rfl | assumption) :
    SimS X own (er own i) ob (.Assign [.Name x pos'] e pos) (sSet i se) := ps_weak (ps_set hN hi hx he hs hf) fun _ _ _ h => set_of h
theorem sim_setF (hN : X.N.Nodup) (hi : X.N[i]? = some x) (hx : Loc X.env.scope x) (he : SimF X own e se) (hl : ∀ ρ S d S', se ρ S = .ok d S' → ∃ ds, d = .lst ds) (hs : swapsWith e (some (.Name x pos')) pos.line X.env = pure false := by rfl) (hf : X.fn x = true ∨ X.env.scope.names.lookup x = some .local := by first | exact .inl rfl | exact .inr rfl | assumption) :
    SimS X own (i :: er own i) ob (.Assign [.Name x pos'] e pos) (sSet i se) := ps_weakN (ps_set hN hi hx he hs hf) fun _ _ _ hσ h => setF_of (List.getElem?_eq_some_iff.mp hi).1 hσ hl h

/-! ### expressions that change a list of the body's own -/
abbrev SM := DEnv → M (D × DEnv)
def tM (X : Cx) (own : List Nat) (sm : SM) : TE := fun σ H Q => ∃ g0 H0 ρ g S, EnvOk X.K X.mg g0 H0 own ρ σ g H S ∧ (sm ρ S).post fun dr S' => ∀ v g' H', GLe g g' → EnvOk X.K X.mg g0 H0 own dr.2 σ g' H' S' → Rep X.K X.mg g' v dr.1 → Q v H'
def SimM (X : Cx) (own : List Nat) (e : Expr) (sm : SM) : Prop := PE X e (tM X own sm)
def sPure (se : SE) : SM := fun ρ S => (se ρ S).then fun d S' => .ok (d, ρ) S'
theorem SimE.m (h : SimE X own e se) : SimM X own e (sPure se) := pe_weak h fun σ H Q ⟨g0, H0, ρ, g, S, E, q⟩ => by
  obtain ⟨o, S', e1, k⟩ := Res.post_ex q
  obtain ⟨d, S1, e2, e1⟩ := Res.then_ex e1
  cases e1
  refine ⟨g0, H0, ρ, g, S, E, ?_⟩
  rw [e2]
  exact fun v g1 H1 G1 s1 r1 => k v g1 H1 s1.le (E.step G1 s1) r1
/-- a method of a list: what it makes of the list and the arguments, and its value -/
def OpMt (X : Cx) (f : List D → List D → Option (List D × D)) (r : V → List V → Hp → VK → Prop) : Prop := ∀ (g : Gh) (H : Hp) (S : Sto) (p : Addr) (vs ws : List V) (xs ds es : List D) (d : D) (Q : VK), GOk X.K X.mg g H S → H p = some (.lst vs) → Reps X.K X.mg g vs xs → Reps X.K X.mg g ws ds → f xs ds = some (es, d) →
  (∀ vs' v, Reps X.K X.mg g vs' es → Rep X.K X.mg g v d → Q v (upd H p (.lst vs'))) → r (.ref p) ws H Q
def isLst : Option (Option D) → Bool
  | some (some (.lst _)) => true
  | _ => false
def mt1 (i : Nat) (f : List D → List D → Option (List D × D)) (sm : SM) : SM := fun ρ S => if isLst ρ[i]? then (sm ρ S).then fun dr S' => (match dr.2[i]? with
  | some (some (.lst xs)) => (match f xs [dr.1] with
    | some (ys, d) => .ok (d, dr.2.set i (some (.lst ys))) S'
    | none => .bad)
  | _ => .bad) else .bad
def mt0 (i : Nat) (f : List D → List D → Option (List D × D)) : SM := fun ρ S => match ρ[i]? with
  | some (some (.lst xs)) => (match f xs [] with
    | some (ys, d) => .ok (d, ρ.set i (some (.lst ys))) S
    | none => .bad)
  | _ => .bad
variable {m : Str} {apos : Pos} {sm : SM} {f : List D → List D → Option (List D × D)} {r : V → List V → Hp → VK → Prop}
theorem isLst_ex {o : Option (Option D)} (h : isLst o = true) : ∃ xs, o = some (some (.lst xs)) := by
  unfold isLst at h
  split at h
  · exact ⟨_, rfl⟩
  · cases h
theorem simm_1 {a : Expr} (hi : i ∈ own) (hpe : ∀ {ta : TE}, PE X a ta → PE X e (tBM X.K "list" r (tVar i) (tCons ta tNil))) (hf : OpMt X f r) (ha : SimM X own a sm) : SimM X own e (mt1 i f sm) :=
  pe_weak (hpe ha) fun σ H Q ⟨g0, H0, ρ, g, S, E, q⟩ => by
    obtain ⟨dr, S', e1, k⟩ := Res.post_ex q
    unfold mt1 at e1
    split at e1
    · rename_i hl
      obtain ⟨dr1, S1, e2, e1⟩ := Res.then_ex e1
      obtain ⟨xs0, h0⟩ := isLst_ex hl
      obtain ⟨p, vs0, hp1, hp2, _, _⟩ := E.write (es := []) hi h0
      refine ⟨_, hp1, .inl ⟨rfl, vs0, SqL.of hp2⟩, g0, H0, ρ, g, S, E, ?_⟩
      rw [e2]
      intro v g1 H1 l1 E1 r1
      split at e1
      · rename_i xs h1
        split at e1
        · rename_i ys d hfx
          cases e1
          obtain ⟨p', vs, hq1, hq2, rs, kw⟩ := E1.write (es := ys) hi h1
          rw [hp1] at hq1
          cases hq1
          refine hf g1 H1 _ p vs [v] xs [dr1.1] ys d _ E1.gok hq2 rs (.one r1) hfx fun vs' v' r' rv => ?_
          have E2 := kw vs' r'
          exact k v' g1 _ l1 E2 rv
        · cases e1
      · cases e1
    · cases e1
theorem simm_0 (hi : i ∈ own) (hpe : PE X e (tBM0 X.K "list" r (tVar i))) (hf : OpMt X f r) : SimM X own e (mt0 i f) :=
  pe_weak hpe fun σ H Q ⟨g0, H0, ρ, g, S, E, q⟩ => by
    obtain ⟨dr, S', e1, k⟩ := Res.post_ex q
    unfold mt0 at e1
    split at e1
    · rename_i xs h1
      split at e1
      · rename_i ys d hfx
        cases e1
        obtain ⟨p, vs, hp1, hp2, rs, kw⟩ := E.write (es := ys) hi h1
        refine ⟨_, hp1, .inl ⟨rfl, vs, SqL.of hp2⟩, ?_⟩
        refine hf g H S p vs [] xs [] ys d _ E.gok hp2 rs .nil hfx fun vs' v' r' rv => ?_
        exact k v' g _ (.refl _) (kw vs' r') rv
      · cases e1
    · cases e1
def sDropM (sm : SM) : SS := fun ρ S => (sm ρ S).then fun dr S' => .ok (.nx dr.2) S'
def sSetM (i : Nat) (sm : SM) : SS := fun ρ S => (sm ρ S).then fun dr S' => .ok (.nx (dr.2.set i (some dr.1))) S'
theorem sim_dropM (h : SimM X own e sm) (hs : swapsWith e none pos.line X.env = pure false := by rfl) : SimS X own own ob (.Expr e pos) (sDropM sm) := ps_weak (ps_expr h hs) fun D σ H ⟨g0, H0, ρ, g, S, E, q⟩ => by
  obtain ⟨o, S', e1, k⟩ := Res.post_ex q
  obtain ⟨d, S1, e2, e1⟩ := Res.then_ex e1
  cases e1
  refine ⟨g0, H0, ρ, g, S, E, ?_⟩
  rw [e2]
  exact fun v g1 H1 l1 E1 r1 => k σ g1 H1 l1 E1
theorem sim_setM (hN : X.N.Nodup) (hi : X.N[i]? = some x) (hx : Loc X.env.scope x) (he : SimM X own e sm) (hs : swapsWith e (some (.Name x pos')) pos.line X.env = pure false := by rfl) (hf : X.fn x = true ∨ X.env.scope.names.lookup x = some .local := by first | exact .inl rfl | exact .inr rfl | assumption) :
    SimS X own (er own i) ob (.Assign [.Name x pos'] e pos) (sSetM i sm) := ps_weak (ps_set hN hi hx he hs hf) fun D σ H ⟨g0, H0, ρ, g, S, E, q⟩ => by
  obtain ⟨o, S', e1, k⟩ := Res.post_ex q
  obtain ⟨d, S1, e2, e1⟩ := Res.then_ex e1
  cases e1
  refine ⟨g0, H0, ρ, g, S, E, ?_⟩
  rw [e2]
  exact fun v g1 H1 l1 E1 r1 => k _ g1 H1 l1 (E1.set r1)
def mAppend : List D → List D → Option (List D × D)
  | xs, [y] => if xs.length < sizeLine then some (xs ++ [y], .non) else none
  | _, _ => none
def mExtend : List D → List D → Option (List D × D)
  | xs, [.lst ys] => if xs.length + ys.length ≤ sizeLine then some (xs ++ ys, .non) else none
  | _, _ => none
@[irreducible] def pxOk (i : Int) : Bool := decide (0 ≤ i ∧ i.natAbs.log2 < 63)
theorem pxOk_ok {i : Int} (h : pxOk i = true) : 0 ≤ i ∧ i < 9223372036854775808 := by
  unfold pxOk at h
  have h := of_decide_eq_true h
  have h2 := lg_lt h.2
  have e : (2 : Nat) ^ 63 = 9223372036854775808 := by decide
  omega
theorem pxOk_of {i : Int} (h : 0 ≤ i) (h2 : i < 9223372036854775808) : pxOk i = true := by
  unfold pxOk
  have e : (2 : Nat) ^ 63 = 9223372036854775808 := by decide
  exact decide_eq_true ⟨h, lt_lg (by decide) (by omega)⟩
def mPop : List D → List D → Option (List D × D)
  | xs, [] => (xs[xs.length - 1]?).map fun y => (xs.dropLast, y)
  | xs, [.int i] => if pxOk i then (xs[i.toNat]?).map fun y => (xs.eraseIdx i.toNat, y) else none
  | _, _ => none
theorem opm_append : OpMt X mAppend rAppend := by
  intro g H S p vs ws xs ds es d Q G hp rs rw' e k
  unfold mAppend at e
  split at e
  · rename_i y
    split at e
    · rename_i hz
      cases e
      cases rw' with
      | cons r1 r2 =>
        cases r2
        exact ⟨p, vs, _, rfl, rfl, hp, by rw [rs.length]; exact hz, k _ _ (rs.append (.one r1)) .non⟩
    · cases e
  · cases e
theorem opm_extend : OpMt X mExtend rExtend := by
  intro g H S p vs ws xs ds es d Q G hp rs rw' e k
  unfold mExtend at e
  split at e
  · rename_i ys
    split at e
    · rename_i hz
      cases e
      cases rw' with
      | cons r1 r2 =>
        cases r2
        cases r1 with
        | lst h r =>
          exact ⟨p, _, vs, _, rfl, rfl, hp, G.sub _ _ h, by rw [rs.length, r.length]; exact hz, k _ _ (rs.append r) .non⟩
    · cases e
  · cases e
theorem opm_pop0 : OpMt X mPop rPop ∨ True := .inr trivial
theorem seq_nat {n j : Nat} (h : j < n) : seqIndex? (j : Int) n = some j := (ixN_seq (n := n) (i := (j : Int)) (j := j) (by
  unfold ixN
  rw [if_pos (by omega), if_pos (by omega)]
  simp)).1
theorem opm_pop : OpMt X mPop (fun x xs H Q => rPop x xs H Q ∨ rPopAt x xs H Q) := by
  intro g H S p vs ws xs ds es d Q G hp rs rw' e k
  unfold mPop at e
  split at e
  · cases rw'
    cases q : xs[xs.length - 1]? with
    | none => rw [q] at e; cases e
    | some y =>
      rw [q] at e
      cases e
      obtain ⟨v, hv, rv⟩ := rs.get q
      exact .inl ⟨p, vs, v, rfl, rfl, hp, by rw [rs.length]; exact hv, k _ _ rs.dropLast rv⟩
  · rename_i i
    split at e
    · rename_i hz
      replace hz := pxOk_ok hz
      cases q : xs[i.toNat]? with
      | none => rw [q] at e; cases e
      | some y =>
        rw [q] at e
        cases e
        cases rw' with
        | cons r1 r2 =>
          cases r2
          cases r1
          obtain ⟨v, hv, rv⟩ := rs.get q
          have hlt : i.toNat < vs.length := (List.getElem?_eq_some_iff.mp hv).1
          have e63 : (2 : Int) ^ 63 = 9223372036854775808 := by decide
          have ei : ((i.toNat : Nat) : Int) = i := Int.toNat_of_nonneg hz.1
          refine .inr ⟨p, vs, i, i.toNat, v, rfl, rfl, hp, by rw [e63]; omega, by rw [e63]; exact hz.2, ?_, hv, k _ _ (rs.eraseIdx _) rv⟩
          have := seq_nat hlt
          rw [ei] at this
          exact this
    · cases e
  · cases e
theorem mtr_pop : MtR X "list.pop" (fun x xs H Q => rPop x xs H Q ∨ rPopAt x xs H Q) := MtR.or mt_pop mt_popAt
/-! ### items stored -/
def sSetIx (i : Nat) (sk sv : SE) : SS := fun ρ S => (sv ρ S).then fun d S1 => (sk ρ S1).then fun k S2 => match ρ[i]?, k with
  | some (some (.lst xs)), .int k => (match ixN xs.length k with
    | some j => .ok (.nx (ρ.set i (some (.lst (xs.set j d))))) S2
    | none => .bad)
  | _, _ => .bad
theorem sim_setIx {tpos : Pos} {y : Str} (hi : i ∈ own) (hv : SimE X own e sv) (ho : PE X (.Name y pos2) (tVar i)) (hk : SimE X own idx sk)
    (hs : swapsWithSole [.Subscript (.Name y pos2) idx tpos] e pos.line X.env = pure false := by rfl) (hw : swappedStores [.Subscript (.Name y pos2) idx tpos] e X.env = pure none := by rfl)
    (h1 : (assignEach [.Subscript (.Name y pos2) idx tpos] X.env).map (·.2) = [assign (.Subscript (.Name y pos2) idx tpos) X.env] := by rfl)
    (ha : ∀ v, assign (.Subscript (.Name y pos2) idx tpos) X.env v = (do
      let ov ← holding [v] (eval (.Name y pos2) X.env)
      let iv ← holding [v, ov] (eval idx X.env)
      standAt tpos
      holding [v, ov, iv] (setItem ov iv v)
      release [v, ov, iv] []) := by intro _; rfl) :
    SimS X own own ob (.Assign [.Subscript (.Name y pos2) idx tpos] e pos) (sSetIx i sk sv) := ps_weak (ps_asg hv (pg_sub ho hk set_list ha) hs hw h1) fun D σ H ⟨g0, H0, ρ, g, S, E, q⟩ => by
  obtain ⟨o, S', e1, k⟩ := Res.post_ex q
  obtain ⟨d, S1, e2, e1⟩ := Res.then_ex e1
  obtain ⟨kd, S2, e3, e1⟩ := Res.then_ex e1
  refine ⟨g0, H0, ρ, g, S, E, ?_⟩
  rw [e2]
  intro v g1 H1 G1 s1 r1
  have E1 := E.step G1 s1
  split at e1
  · rename_i xs kk h0
    split at e1
    · rename_i j hj
      cases e1
      obtain ⟨p, vs, q1, _⟩ := E1.write (es := []) hi h0
      refine ⟨_, q1, g0, H0, ρ, g1, S1, E1, ?_⟩
      rw [e3]
      intro v2 g2 H2 G2 s2 r2
      cases r2
      have E2 := E1.step G2 s2
      obtain ⟨p', vs', q1', q2, rs, kw⟩ := E2.write (es := xs.set j d) hi h0
      rw [q1] at q1'
      cases q1'
      refine ⟨p, vs', kk, j, rfl, rfl, q2, by rw [rs.length]; exact hj, ?_⟩
      exact k _ g2 _ (s1.le.trans s2.le) (kw _ (rs.set (r1.mono s2.le) j))
    · cases e1
  · cases e1
def putM : MO → D → D → Option MO
  | .k kds, k, d => (keyD k).bind fun key => if kds.length < sizeLine then some (.k (putKD kds key d)) else none
  | .t false kds, k, d => (keysD k).bind fun key => if kds.length < sizeLine then some (.t false (putKD kds key d)) else none
  | .t true _, _, _ => none
def putO (S : Sto) : D → D → D → Option Sto
  | .mref j, k, d => (S[j]?.bind fun m => putM m k d).map (S.set j)
  | _, _, _ => none
def putR (ρ : DEnv) : Option Sto → Res Out
  | some S => .ok (.nx ρ) S
  | none => .bad
def sPut (so sk sv : SE) : SS := fun ρ S => (sv ρ S).then fun d S1 => (so ρ S1).then fun o S2 => (sk ρ S2).then fun k S3 => putR ρ (putO S3 o k d)
theorem dput_of {K : PySem.W.Frag} {mg : Str → Option Value} {g : Gh} {H : Hp} {S : Sto} (G : GOk K mg g H S) {j : Nat} {a : Addr} (ha : g.as[j]? = some a) {m m' : MO} (hm : S[j]? = some m) {v u : V} {k d : D} (r : Rep K mg g v k) (rd : Rep K mg g u d) (hp : putM m k d = some m') :
    ∃ o, DPut H a v u (upd H a o) ∧ g.F a = none ∧ MOk K mg g a o m' := by
  obtain ⟨o, m2, h1, h2, h3⟩ := G.st j a ha
  have hFa : (∀ ob u, o ≠ .frz ob u) → g.F a = none := fun hno => by
    rcases G.nf a (List.mem_of_getElem? ha) with z | ⟨ob, kvs, z⟩
    · exact z
    · have := G.sub _ _ z
      rw [h1] at this
      cases this
      exact absurd rfl (hno _ _)
  rw [hm] at h2
  cases h2
  cases h3 with
  | k r3 =>
    rename_i kvs kds
    have hp' : (keyD k).bind (fun key => if kds.length < sizeLine then some (MO.k (putKD kds key d)) else none) = some m' := hp
    cases q : keyD k with
    | none => rw [q] at hp'; cases hp'
    | some key =>
      rw [q] at hp'
      have hp'' : (if kds.length < sizeLine then some (MO.k (putKD kds key d)) else none) = some m' := hp'
      split at hp''
      · rename_i hz
        cases hp''
        rw [rep_key r q]
        exact ⟨_, DPut.k h1 (by rw [r3.len]; exact hz), hFa (fun _ _ z => nomatch z), .k (r3.put rd)⟩
      · cases hp''
  | t r3 =>
    rename_i kvs kds
    have hp' : (keysD k).bind (fun key => if kds.length < sizeLine then some (MO.t false (putKD kds key d)) else none) = some m' := hp
    cases q : keysD k with
    | none => rw [q] at hp'; cases hp'
    | some key =>
      rw [q] at hp'
      have hp'' : (if kds.length < sizeLine then some (MO.t false (putKD kds key d)) else none) = some m' := hp'
      split at hp''
      · rename_i hz
        cases hp''
        obtain ⟨b, e, hb⟩ := rep_keys r q
        rw [e]
        exact ⟨_, DPut.t h1 (G.sub _ _ hb) (by rw [r3.len]; exact hz), hFa (fun _ _ z => nomatch z), .t (r3.put rd)⟩
      · cases hp''
  | l _ r3 => cases (show (none : Option MO) = some m' from hp)
theorem sim_put (hr : Room k X.A) (ho : SimE X own o so) (hi : SimE X own idx sk) (hv : SimE X own e sv) (hs : swapsWith e (some (.Subscript o idx pos')) pos.line X.env = pure false := by rfl) : SimS X own own ob (.Assign [.Subscript o idx pos'] e pos) (sPut so sk sv) :=
  ps_weak (ps_dput (hu_of hr) ho hi hv hs) fun D σ H ⟨g0, H0, ρ, g, S, E, q⟩ => by
    obtain ⟨out, S', e1, k⟩ := Res.post_ex q
    obtain ⟨d, S1, e2, e1⟩ := Res.then_ex e1
    obtain ⟨od, S2, e3, e1⟩ := Res.then_ex e1
    obtain ⟨kd, S3, e4, e1⟩ := Res.then_ex e1
    refine ⟨g0, H0, ρ, g, S, E, ?_⟩
    rw [e2]
    intro v g1 H1 G1 s1 r1
    have E1 := E.step G1 s1
    refine ⟨g0, H0, ρ, g1, S1, E1, ?_⟩
    rw [e3]
    intro v2 g2 H2 G2 s2 r2
    have E2 := E1.step G2 s2
    refine ⟨g0, H0, ρ, g2, S2, E2, ?_⟩
    rw [e4]
    intro v3 g3 H3 G3 s3 r3
    have E3 := E2.step G3 s3
    cases q0 : putO S3 od kd d with
    | none => rw [q0] at e1; cases e1
    | some S4 =>
      rw [q0] at e1
      cases e1
      cases od with
      | mref j =>
        have q1 : (S3[j]?.bind fun m => putM m kd d).map (S3.set j) = some S' := q0
        obtain ⟨m', q2, rfl⟩ := Option.map_eq_some_iff.mp q1
        obtain ⟨m, q3, q4⟩ := Option.bind_eq_some_iff.mp q2
        cases r2.mono s3.le with
        | mref ha =>
          obtain ⟨o, hp, hF, hm⟩ := dput_of G3 ha q3 r3 ((r1.mono s2.le).mono s3.le) q4
          exact ⟨_, _, rfl, hp, k σ g3 _ ((s1.le.trans s2.le).trans s3.le) (E3.put ha hF hm)⟩
      | _ => cases q0
end
end Ev
namespace Ev
open PySem PySem.Spec PyProof.Rows L2
/-! ### targets -/
abbrev SG := D → DEnv → Option DEnv
def gN (i : Nat) : SG := fun d ρ => some (ρ.set i (some d))
def gAll : List SG → List D → DEnv → Option DEnv
  | [], [], ρ => some ρ
  | g :: gs, d :: ds, ρ => (g d ρ).bind (gAll gs ds)
  | _, _, _ => none
def gT (gs : List SG) : SG := fun d ρ => match d with
  | .tup xs => gAll gs xs ρ
  | _ => none
section
variable (X : Cx)
def Apart (ts : List Nat) (σ σ' : L2.St) : Prop := σ'.length = σ.length ∧ ∀ j, j ∉ ts → σ'[j]? = σ[j]?
def tG (own own' ts : List Nat) (sg : SG) : TG := fun v σ H Q => ∃ g0 H0 ρ g S d ρ', EnvOk X.K X.mg g0 H0 own ρ σ g H S ∧ Rep X.K X.mg g v d ∧ sg d ρ = some ρ' ∧ ∀ σ', Apart ts σ σ' → EnvOk X.K X.mg g0 H0 own' ρ' σ' g H S → Q σ' H
def tGs (own own' ts : List Nat) (gs : List SG) : TGs := fun vs σ H Q => ∃ g0 H0 ρ g S ds ρ', EnvOk X.K X.mg g0 H0 own ρ σ g H S ∧ Reps X.K X.mg g vs ds ∧ gAll gs ds ρ = some ρ' ∧ ∀ σ', Apart ts σ σ' → EnvOk X.K X.mg g0 H0 own' ρ' σ' g H S → Q σ' H
def SimG (own own' ts : List Nat) (e : Expr) (sg : SG) : Prop := PG X e (tG X own own' ts sg)
def SimGs (own own' ts : List Nat) (es : List Expr) (gs : List SG) : Prop := PGs X es (tGs X own own' ts gs)
end
theorem pg_weak {X : Cx} {e : Expr} {t t' : TG} (h : PG X e t) (w : ∀ v σ H Q, t' v σ H Q → t v σ H Q) : PG X e t' := ⟨fun pins s σ H v u Q I r q => h.run pins s σ H v u Q I r (w v σ H Q q)⟩
theorem pgs_weak {X : Cx} {es : List Expr} {t t' : TGs} (h : PGs X es t) (w : ∀ v σ H Q, t' v σ H Q → t v σ H Q) : PGs X es t' := ⟨fun pins s σ H v u Q I r q => h.run pins s σ H v u Q I r (w v σ H Q q)⟩
section
variable {X : Cx} {own own1 own' ob ts ts' : List Nat} {e iter : Expr} {es : List Expr} {se : SE} {sg : SG} {gs : List SG} {pos pos' : Pos} {i : Nat} {x : Str}
theorem simg_name (hN : X.N.Nodup) (hi : X.N[i]? = some x) (hx : Loc X.env.scope x) (hf : X.fn x = true ∨ X.env.scope.names.lookup x = some .local := by first | exact .inl rfl | exact .inr rfl | assumption) : SimG X own (er own i) [i] (.Name x pos) (gN i) :=
  pg_weak (pg_name hN hi hx hf) fun v σ H Q ⟨g0, H0, ρ, g, S, d, ρ', E, r, e, k⟩ => by
    cases e
    exact k _ ⟨List.length_set, fun j hj => by rw [List.getElem?_set_ne (fun z => hj (by simp [z]))]⟩ (E.set r)
theorem simgs_nil : SimGs X own own [] [] [] := pgs_weak pgs_nil fun vs σ H Q ⟨g0, H0, ρ, g, S, ds, ρ', E, r, e, k⟩ => by
  cases r with
  | nil => cases e; exact ⟨rfl, k σ ⟨rfl, fun _ _ => rfl⟩ E⟩
  | cons _ _ => cases e
theorem simgs_cons (h : SimG X own own1 ts e sg) (hr : SimGs X own1 own' ts' es gs) (hs : (assignEach (e :: es) X.env).map (·.2) = assign e X.env :: (assignEach es X.env).map (·.2) := by rfl) : SimGs X own own' (ts ++ ts') (e :: es) (sg :: gs) := pgs_weak (pgs_cons h hr hs) fun vs σ H Q ⟨g0, H0, ρ, g, S, ds, ρ', E, r, e, k⟩ => by
  cases r with
  | nil => cases e
  | @cons v d vs' ds' r1 r2 =>
    have e' : (sg d ρ).bind (gAll gs ds') = some ρ' := e
    cases q : sg d ρ with
    | none => rw [q] at e'; cases e'
    | some ρ1 =>
      rw [q] at e'
      exact ⟨v, vs', rfl, g0, H0, ρ, g, S, d, ρ1, E, r1, q, fun σ1 a1 E1 => ⟨g0, H0, ρ1, g, S, ds', ρ', E1, r2, e', fun σ2 a2 E2 => k σ2 ⟨a2.1.trans a1.1, fun j hj => (a2.2 j fun z => hj (List.mem_append_right _ z)).trans (a1.2 j fun z => hj (List.mem_append_left _ z))⟩ E2⟩⟩
theorem gAll_len : ∀ {gs : List SG} {ds : List D} {ρ ρ' : DEnv}, gAll gs ds ρ = some ρ' → ds.length = gs.length
  | [], [], _, _, _ => rfl
  | g :: gs, d :: ds, ρ, ρ', e => by
    have e' : (g d ρ).bind (gAll gs ds) = some ρ' := e
    cases q : g d ρ with
    | none => rw [q] at e'; cases e'
    | some ρ1 => rw [q] at e'; exact congrArg (· + 1) (gAll_len (gs := gs) e')
  | [], _ :: _, _, _, e => by cases e
  | _ :: _, [], _, _, e => by cases e
theorem simg_tup {k : Nat} (hc : X.calm = true) (h : SimGs X own own' ts es gs) (hn : (assignEach es X.env).length = gs.length := by rfl) (hst : (assignEach es X.env).findIdx? (·.1) = none := by rfl) : SimG X own own' ts (.Tuple es k pos) (gT gs) :=
  pg_weak (pg_tup hc h hn hst) fun v σ H Q ⟨g0, H0, ρ, g, S, d, ρ', E, r, e, kk⟩ => by
    cases r with
    | tup h r =>
      have l := gAll_len (gs := gs) e
      exact ⟨_, _, rfl, SqT.of (E.gok.sub _ _ h), by rw [r.length, l], g0, H0, ρ, g, S, _, ρ', E, r, e, kk⟩
    | _ => cases e
/-- a, b = e and the like -/
def sAsg (sg : SG) (se : SE) : SS := fun ρ S => (se ρ S).then fun d S' => match sg d ρ with
  | some ρ' => .ok (.nx ρ') S'
  | none => .bad
theorem sim_asg {tg : Expr} (he : SimE X own e se) (hg : SimG X own own' ts tg sg) (hs : swapsWithSole [tg] e pos.line X.env = pure false := by rfl) (hw : swappedStores [tg] e X.env = pure none := by rfl)
    (h1 : (assignEach [tg] X.env).map (·.2) = [assign tg X.env] := by rfl) : SimS X own own' ob (.Assign [tg] e pos) (sAsg sg se) := ps_weak (ps_asg he hg hs hw h1) fun D σ H ⟨g0, H0, ρ, g, S, E, q⟩ => by
  obtain ⟨o, S', e1, k⟩ := Res.post_ex q
  obtain ⟨d, S1, e2, e1⟩ := Res.then_ex e1
  split at e1
  · rename_i ρ' hsg
    cases e1
    refine ⟨g0, H0, ρ, g, S, E, ?_⟩
    rw [e2]
    intro v g1 H1 G1 s1 r1
    exact ⟨g0, H0, ρ, g1, S', d, ρ', E.step G1 s1, r1, hsg, fun σ' _ E' => k σ' g1 H1 s1.le E'⟩
  · cases e1

/-! ### what is walked -/
abbrev SI := DEnv → M (List D)
def Wk (X : Cx) (J : It) (ds : List D) (g1 : Gh) : Prop := ∀ (g : Gh) (H : Hp) (S : Sto), GOk X.K X.mg g H S → GLe g1 g → ∀ i : Nat,
  (∀ d, ds[i]? = some d → J.go i H ∧ ∀ x H', J.yld i H x H' → ∃ g', GOk X.K X.mg g' H' S ∧ Stp g H g' H' ∧ Rep X.K X.mg g' x d) ∧ (ds.length = i → J.stop i H)
def tI (X : Cx) (own : List Nat) (si : SI) : TI := fun σ H R => ∃ g0 H0 ρ g S, EnvOk X.K X.mg g0 H0 own ρ σ g H S ∧ (si ρ S).post fun ds S' => ∀ J g' H', GOk X.K X.mg g' H' S' → Stp g H g' H' → Wk X J ds g' → R J H'
def SimI (X : Cx) (own : List Nat) (tg it : Expr) (si : SI) : Prop := PI X tg it (tI X own si)
theorem pi_weak {X : Cx} {tg e : Expr} {t t' : TI} (h : PI X tg e t) (w : ∀ σ H R, t' σ H R → t σ H R) : PI X tg e t' := ⟨fun pins s σ H R I q => h.run pins s σ H R I (w σ H R q)⟩
theorem wk_list {g1 : Gh} {a : Addr} {vs : List V} {ds : List D} (h : g1.F a = some (.lst vs)) (r : Reps X.K X.mg g1 vs ds) : Wk X (Itl X.K a) ds g1 := fun g H S G l i => by
  have hq : SqL X.K H a vs := SqL.of (G.sub _ _ (l.F _ _ h))
  refine ⟨fun d hd => ?_, fun e => ⟨vs, hq, by rw [r.length, e]; exact Nat.le_refl _⟩⟩
  obtain ⟨v, hv, rv⟩ := r.get hd
  refine ⟨⟨vs, v, hq, hv⟩, fun x H' ⟨e, y⟩ => ?_⟩
  subst e
  have := y vs hq
  rw [hv] at this
  cases this
  exact ⟨g, G, .refl, rv.mono l⟩
theorem wk_tup {g1 : Gh} {a : Addr} {vs : List V} {ds : List D} (h : g1.F a = some (.tup vs)) (r : Reps X.K X.mg g1 vs ds) : Wk X (Itt X.K a) ds g1 := fun g H S G l i => by
  have hq : SqT X.K H a vs := SqT.of (G.sub _ _ (l.F _ _ h))
  refine ⟨fun d hd => ?_, fun e => ⟨vs, hq, by rw [r.length, e]; exact Nat.le_refl _⟩⟩
  obtain ⟨v, hv, rv⟩ := r.get hd
  refine ⟨⟨vs, v, hq, hv⟩, fun x H' ⟨e, y⟩ => ?_⟩
  subst e
  have := y vs hq
  rw [hv] at this
  cases this
  exact ⟨g, G, .refl, rv.mono l⟩
theorem wk_scr {g1 : Gh} {a : Addr} {ns : List Int} (h : SqL X.K g1.F a (ns.map V.int)) : Wk X (Itl X.K a) (ns.map .int) g1 := fun g H S G l i => by
  have hq : SqL X.K H a (ns.map V.int) := G.sub.seq (l.F.seq h)
  refine ⟨fun d hd => ?_, fun e => ⟨_, hq, by rw [List.length_map] at e ⊢; omega⟩⟩
  rw [List.getElem?_map] at hd
  cases q : ns[i]? with
  | none => rw [q] at hd; cases hd
  | some n =>
    rw [q] at hd
    cases hd
    have hv : (ns.map V.int)[i]? = some (.int n) := by rw [List.getElem?_map, q] <;> rfl
    refine ⟨⟨_, _, hq, hv⟩, fun x H' ⟨e, y⟩ => ?_⟩
    subst e
    have := y _ hq
    rw [hv] at this
    cases this
    exact ⟨g, G, .refl, .int n⟩
def rangeD (lo : Int) (n : Nat) : List D := (List.range n).map fun (k : Nat) => .int (lo + (k : Int))
theorem wk_range {g1 : Gh} {lo : Int} {n : Nat} : Wk X (Itr lo n) (rangeD lo n) g1 := fun g H S G l i => by
  unfold rangeD
  refine ⟨fun d hd => ?_, fun e => by rw [List.length_map, List.length_range] at e; show n ≤ i; omega⟩
  rw [List.getElem?_map] at hd
  cases q : (List.range n)[i]? with
  | none => rw [q] at hd; cases hd
  | some k =>
    rw [q] at hd
    cases hd
    obtain ⟨h1, h2⟩ := List.getElem?_eq_some_iff.mp q
    rw [List.getElem_range] at h2
    subst h2
    rw [List.length_range] at h1
    refine ⟨h1, fun x H' ⟨e, y⟩ => ?_⟩
    subst e y
    exact ⟨g, G, .refl, .int _⟩
def rangeC (lo c : Int) (n : Nat) : List D := (List.range n).map fun (k : Nat) => .int (lo + (k : Int) * c)
theorem wk_rangeC {g1 : Gh} {lo c : Int} {n : Nat} : Wk X (Itc lo c n) (rangeC lo c n) g1 := fun g H S G l i => by
  unfold rangeC
  refine ⟨fun d hd => ?_, fun e => by rw [List.length_map, List.length_range] at e; show n ≤ i; omega⟩
  rw [List.getElem?_map] at hd
  cases q : (List.range n)[i]? with
  | none => rw [q] at hd; cases hd
  | some k =>
    rw [q] at hd
    cases hd
    obtain ⟨h1, h2⟩ := List.getElem?_eq_some_iff.mp q
    rw [List.getElem_range] at h2
    subst h2
    rw [List.length_range] at h1
    refine ⟨h1, fun x H' ⟨e, y⟩ => ?_⟩
    subst e y
    exact ⟨g, G, .refl, .int _⟩
def enumD (ds : List D) : List D := (List.range ds.length).map fun (k : Nat) => .tup [.int (k : Int), ds.getD k .non]
theorem enumD_get {ds : List D} {i : Nat} {d : D} (h : (enumD ds)[i]? = some d) : ∃ x, ds[i]? = some x ∧ d = .tup [.int (i : Int), x] := by
  unfold enumD at h
  rw [List.getElem?_map] at h
  cases q : (List.range ds.length)[i]? with
  | none => rw [q] at h; cases h
  | some k =>
    rw [q] at h
    obtain ⟨h1, h2⟩ := List.getElem?_eq_some_iff.mp q
    rw [List.getElem_range] at h2
    subst h2
    rw [List.length_range] at h1
    cases h
    refine ⟨ds[i], by simp [h1], ?_⟩
    simp [List.getD, h1]
theorem wk_enumT {g1 : Gh} {a : Addr} {vs : List V} {ds : List D} (h : g1.F a = some (.tup vs)) (r : Reps X.K X.mg g1 vs ds) : Wk X (IteT X.K a) (enumD ds) g1 := fun g H S G l i => by
  have hq : SqT X.K H a vs := SqT.of (G.sub _ _ (l.F _ _ h))
  refine ⟨fun d hd => ?_, fun e => ⟨vs, hq, by rw [r.length, ← e]; simp [enumD]⟩⟩
  obtain ⟨x, hx, rfl⟩ := enumD_get hd
  obtain ⟨v, hv, rv⟩ := r.get hx
  refine ⟨⟨vs, v, hq, hv⟩, fun z H' ⟨T, y, e1, hT, e2, hy⟩ => ?_⟩
  subst e1 e2
  have := hy vs hq
  rw [hv] at this
  cases this
  exact ⟨_, G.add hT, stp_add G hT, .newT G hT (.cons (.int _) (.one (rv.mono l)))⟩
theorem wk_enumL {g1 : Gh} {a : Addr} {vs : List V} {ds : List D} (h : g1.F a = some (.lst vs)) (r : Reps X.K X.mg g1 vs ds) : Wk X (Ite X.K a) (enumD ds) g1 := fun g H S G l i => by
  have hq : SqL X.K H a vs := SqL.of (G.sub _ _ (l.F _ _ h))
  refine ⟨fun d hd => ?_, fun e => ⟨vs, hq, by rw [r.length, ← e]; simp [enumD]⟩⟩
  obtain ⟨x, hx, rfl⟩ := enumD_get hd
  obtain ⟨v, hv, rv⟩ := r.get hx
  refine ⟨⟨vs, v, hq, hv⟩, fun z H' ⟨T, y, e1, hT, e2, hy⟩ => ?_⟩
  subst e1 e2
  have := hy vs hq
  rw [hv] at this
  cases this
  exact ⟨_, G.add hT, stp_add G hT, .newT G hT (.cons (.int _) (.one (rv.mono l)))⟩
def zipD (xs ys : List D) : List D := (xs.zip ys).map fun p => .tup [p.1, p.2]
theorem zipD_get {xs ys : List D} {i : Nat} {d : D} (h : (zipD xs ys)[i]? = some d) : ∃ x y, xs[i]? = some x ∧ ys[i]? = some y ∧ d = .tup [x, y] := by
  unfold zipD at h
  rw [List.getElem?_map] at h
  cases q : (xs.zip ys)[i]? with
  | none => rw [q] at h; cases h
  | some p =>
    rw [q] at h
    cases h
    obtain ⟨h1, h2⟩ := List.getElem?_zip_eq_some.mp q
    exact ⟨p.1, p.2, h1, h2, rfl⟩
theorem zipD_stop {xs ys : List D} {vs ws : List V} {g : Gh} (r : Reps X.K X.mg g vs xs) (r2 : Reps X.K X.mg g ws ys) {i : Nat} (e : (zipD xs ys).length = i) : vs.length ≤ i ∨ ws.length ≤ i := by
  unfold zipD at e
  rw [List.length_map, List.length_zip] at e
  rw [r.length, r2.length]
  omega
theorem wk_zipT {g1 : Gh} {a b : Addr} {vs ws : List V} {ds es : List D} (h : g1.F a = some (.tup vs)) (r : Reps X.K X.mg g1 vs ds) (h2 : g1.F b = some (.tup ws)) (r2 : Reps X.K X.mg g1 ws es) : Wk X (RZ.ItzT X.K a b) (zipD ds es) g1 := fun g H S G l i => by
  have hq : SqT X.K H a vs := SqT.of (G.sub _ _ (l.F _ _ h))
  have hq2 : SqT X.K H b ws := SqT.of (G.sub _ _ (l.F _ _ h2))
  refine ⟨fun d hd => ?_, fun e => ⟨vs, ws, hq, hq2, zipD_stop r r2 e⟩⟩
  obtain ⟨x, y, hx, hy, rfl⟩ := zipD_get hd
  obtain ⟨v, hv, rv⟩ := r.get hx
  obtain ⟨w, hw, rw'⟩ := r2.get hy
  refine ⟨⟨vs, ws, v, w, hq, hq2, hv, hw⟩, fun z H' ⟨T, x', y', e1, hT, e2, hx', hy'⟩ => ?_⟩
  subst e1 e2
  have q1 := hx' vs hq
  have q2 := hy' ws hq2
  rw [hv] at q1
  rw [hw] at q2
  cases q1
  cases q2
  exact ⟨_, G.add hT, stp_add G hT, .newT G hT (.cons (rv.mono l) (.one (rw'.mono l)))⟩
theorem wk_zipL {g1 : Gh} {a b : Addr} {vs ws : List V} {ds es : List D} (h : g1.F a = some (.lst vs)) (r : Reps X.K X.mg g1 vs ds) (h2 : g1.F b = some (.lst ws)) (r2 : Reps X.K X.mg g1 ws es) : Wk X (Itz X.K a b) (zipD ds es) g1 := fun g H S G l i => by
  have hq : SqL X.K H a vs := SqL.of (G.sub _ _ (l.F _ _ h))
  have hq2 : SqL X.K H b ws := SqL.of (G.sub _ _ (l.F _ _ h2))
  refine ⟨fun d hd => ?_, fun e => ⟨vs, ws, hq, hq2, zipD_stop r r2 e⟩⟩
  obtain ⟨x, y, hx, hy, rfl⟩ := zipD_get hd
  obtain ⟨v, hv, rv⟩ := r.get hx
  obtain ⟨w, hw, rw'⟩ := r2.get hy
  refine ⟨⟨vs, ws, v, w, hq, hq2, hv, hw⟩, fun z H' ⟨T, x', y', e1, hT, e2, hx', hy'⟩ => ?_⟩
  subst e1 e2
  have q1 := hx' vs hq
  have q2 := hy' ws hq2
  rw [hv] at q1
  rw [hw] at q2
  cases q1
  cases q2
  exact ⟨_, G.add hT, stp_add G hT, .newT G hT (.cons (rv.mono l) (.one (rw'.mono l)))⟩
def sItL (se : SE) : SI := fun ρ S => (se ρ S).then fun d S' => match d with
  | .lst xs => .ok xs S'
  | .scr ns => .ok (ns.map .int) S'
  | _ => .bad
def sItT (se : SE) : SI := fun ρ S => (se ρ S).then fun d S' => match d with
  | .tup xs => .ok xs S'
  | _ => .bad
theorem simi_list {tg : Expr} (h : SimE X own e se) : SimI X own tg e (sItL se) := pi_weak (pi_list h) fun σ H R ⟨g0, H0, ρ, g, S, E, q⟩ => by
  obtain ⟨ds, S', e1, k⟩ := Res.post_ex q
  obtain ⟨d, S1, e2, e1⟩ := Res.then_ex e1
  refine ⟨g0, H0, ρ, g, S, E, ?_⟩
  rw [e2]
  intro v g1 H1 G1 s1 r1
  cases r1 with
  | lst h r => cases e1; exact ⟨_, rfl, ⟨_, SqL.of (G1.sub _ _ h)⟩, k _ g1 H1 G1 s1 (wk_list h r)⟩
  | scr h => cases e1; exact ⟨_, rfl, ⟨_, G1.sub.seq h⟩, k _ g1 H1 G1 s1 (wk_scr h)⟩
  | _ => cases e1
theorem simi_tup {tg : Expr} (h : SimE X own e se) : SimI X own tg e (sItT se) := pi_weak (pi_tup h) fun σ H R ⟨g0, H0, ρ, g, S, E, q⟩ => by
  obtain ⟨ds, S', e1, k⟩ := Res.post_ex q
  obtain ⟨d, S1, e2, e1⟩ := Res.then_ex e1
  refine ⟨g0, H0, ρ, g, S, E, ?_⟩
  rw [e2]
  intro v g1 H1 G1 s1 r1
  cases r1 with
  | tup h r => cases e1; exact ⟨_, rfl, ⟨_, SqT.of (G1.sub _ _ h)⟩, k _ g1 H1 G1 s1 (wk_tup h r)⟩
  | _ => cases e1
@[irreducible] def rgOk (i : Int) : Bool := decide (i.natAbs.log2 < 62)
theorem rgOk_ok {i : Int} (h : rgOk i = true) : -(2 ^ 62) ≤ i ∧ i < 2 ^ 62 := by
  unfold rgOk at h
  have h := lg_lt (of_decide_eq_true h)
  have e : (2 : Int) ^ 62 = 4611686018427387904 := by decide
  have e2 : (2 : Nat) ^ 62 = 4611686018427387904 := by decide
  rw [e]
  omega
theorem rgOk_of {i : Int} (h : i.natAbs < 4611686018427387904) : rgOk i = true := by
  unfold rgOk
  exact decide_eq_true (lt_lg (by decide) h)
def dRange : List D → Option (List D)
  | [.int j] => if rgOk j then some (rangeD 0 j.toNat) else none
  | [.int i, .int j] => if rgOk i && rgOk j then some (rangeD i (j - i).toNat) else none
  | [.int i, .int j, .int (-1)] => if rgOk i && rgOk j then some (rangeC i (-1) (i - j).toNat) else none
  | _ => none
def sItR (sas : List (Bool × SE)) : SI := fun ρ S => (sArgs sas ρ S).then fun ds S' => optR (dRange ds) S'
variable {sas : List (Bool × SE)} {a b c : Expr} {p : Pos}
theorem simi_range1 {tg : Expr} (hg : Gl X "range") (hm : X.mg "range" = none) (ha : SimA X own [a] sas) (hs : starEach [a] X.env = [(false, eval a X.env)] := by rfl) (hl : sas.length = 1 := by rfl) (hst : (sas.all fun a => !a.1) = true := by rfl) : SimI X own tg (.Call (.Name "range" p) [a] [] pos) (sItR sas) :=
  pi_weak (pi_range1 hg hm ha hs) fun σ H R ⟨g0, H0, ρ, g, S, E, q⟩ => by
    obtain ⟨ds, S', e1, k⟩ := Res.post_ex q
    obtain ⟨as, S1, e2, e1⟩ := Res.then_ex e1
    obtain ⟨e3, eS⟩ := optR_ex e1
    subst eS
    refine ⟨g0, H0, ρ, g, S, E, ?_⟩
    have hlen := sArgs_len hst e2
    rw [e2]
    intro vs g1 H1 G1 s1 r1
    cases r1 with
    | nil => rw [hl] at hlen; cases hlen
    | cons ra rr => cases rr with
      | cons _ _ => rw [hl] at hlen; simp at hlen
      | nil =>
        cases ra with
        | int j =>
          have e4 : (if rgOk j then some (rangeD 0 j.toNat) else none) = some ds := e3
          split at e4
          · rename_i hj
            cases e4
            obtain ⟨h1, h2⟩ := rgOk_ok hj
            exact ⟨j, rfl, h1, h2, k _ g1 H1 G1 s1 wk_range⟩
          · cases e4
        | _ => cases e3
theorem simi_range2 {tg : Expr} (hg : Gl X "range") (hm : X.mg "range" = none) (ha : SimA X own [a, b] sas) (hs : starEach [a, b] X.env = [(false, eval a X.env), (false, eval b X.env)] := by rfl) (hs2 : starEach [b] X.env = [(false, eval b X.env)] := by rfl) (hl : sas.length = 2 := by rfl) (hst : (sas.all fun a => !a.1) = true := by rfl) : SimI X own tg (.Call (.Name "range" p) [a, b] [] pos) (sItR sas) :=
  pi_weak (pi_range2 hg hm ha hs hs2) fun σ H R ⟨g0, H0, ρ, g, S, E, q⟩ => by
    obtain ⟨ds, S', e1, k⟩ := Res.post_ex q
    obtain ⟨as, S1, e2, e1⟩ := Res.then_ex e1
    obtain ⟨e3, eS⟩ := optR_ex e1
    subst eS
    refine ⟨g0, H0, ρ, g, S, E, ?_⟩
    have hlen := sArgs_len hst e2
    rw [e2]
    intro vs g1 H1 G1 s1 r1
    cases r1 with
    | nil => rw [hl] at hlen; cases hlen
    | cons ra rr => cases rr with
      | nil => rw [hl] at hlen; simp at hlen
      | cons rb rr => cases rr with
        | cons _ _ => rw [hl] at hlen; simp at hlen
        | nil =>
          cases ra with
          | int i => cases rb with
            | int j =>
              have e4 : (if rgOk i && rgOk j then some (rangeD i (j - i).toNat) else none) = some ds := e3
              split at e4
              · rename_i hj
                cases e4
                obtain ⟨h1, h2⟩ := Bool.and_eq_true_iff.mp hj
                obtain ⟨h3, h4⟩ := rgOk_ok h1
                obtain ⟨h5, h6⟩ := rgOk_ok h2
                exact ⟨i, j, rfl, ⟨h3, h4, h5, h6⟩, k _ g1 H1 G1 s1 wk_range⟩
              · cases e4
            | _ => cases e3
          | _ => cases rb <;> cases e3
theorem simi_range3 {tg : Expr} (hpi : ∀ {ta : TA}, PA X [a, b, c] ta → PI X tg e (iRng3 ta)) (ha : SimA X own [a, b, c] sas) (hl : sas.length = 3 := by rfl) (hst : (sas.all fun a => !a.1) = true := by rfl) : SimI X own tg e (sItR sas) :=
  pi_weak (hpi ha) fun σ H R ⟨g0, H0, ρ, g, S, E, q⟩ => by
    obtain ⟨ds, S', e1, k⟩ := Res.post_ex q
    obtain ⟨as, S1, e2, e1⟩ := Res.then_ex e1
    obtain ⟨e3, eS⟩ := optR_ex e1
    subst eS
    refine ⟨g0, H0, ρ, g, S, E, ?_⟩
    have hlen := sArgs_len hst e2
    rw [e2]
    intro vs g1 H1 G1 s1 r1
    unfold dRange at e3
    split at e3
    · rw [hl] at hlen; simp at hlen
    · rw [hl] at hlen; simp at hlen
    · rename_i i j
      split at e3
      · rename_i hj
        cases e3
        cases r1 with
        | cons ra rr => cases rr with
          | cons rb rr => cases rr with
            | cons rc rr =>
              cases rr
              cases ra
              cases rb
              cases rc
              obtain ⟨h1, h2⟩ := Bool.and_eq_true_iff.mp hj
              obtain ⟨h3, h4⟩ := rgOk_ok h1
              obtain ⟨h5, h6⟩ := rgOk_ok h2
              exact ⟨i, j, -1, _, rfl, RgC.neg h3 h4 h5 h6, k _ g1 H1 G1 s1 wk_rangeC⟩
      · cases e3
    · cases e3
def sItE (se : SE) : SI := fun ρ S => (se ρ S).then fun d S' => match d with
  | .tup xs => .ok (enumD xs) S'
  | .lst xs => .ok (enumD xs) S'
  | _ => .bad
theorem simi_enum {elts : List Expr} {kk : Nat} {tpos : Pos} (hg : Gl X "enumerate") (hm : X.mg "enumerate" = none) (h : SimE X own a se) (hs1 : starEach (a :: []) X.env = (false, eval a X.env) :: starEach [] X.env := by rfl) (hs : starEach [a] X.env = [(false, eval a X.env)] := by rfl) : SimI X own (.Tuple elts kk tpos) (.Call (.Name "enumerate" p) [a] [] pos) (sItE se) :=
  pi_weak (pi_enumT hg hm (pa_cons h pa_nil hs1) hs) fun σ H R ⟨g0, H0, ρ, g, S, E, q⟩ => by
    obtain ⟨ds, S', e1, k⟩ := Res.post_ex q
    obtain ⟨d, S1, e2, e1⟩ := Res.then_ex e1
    refine ⟨g0, H0, ρ, g, S, E, ?_⟩
    rw [e2]
    intro v g1 H1 G1 s1 r1
    cases r1 with
    | tup h r => cases e1; exact ⟨_, _, rfl, .inl ⟨SqT.of (G1.sub _ _ h), k _ g1 H1 G1 s1 (wk_enumT h r)⟩⟩
    | lst h r => cases e1; exact ⟨_, _, rfl, .inr ⟨SqL.of (G1.sub _ _ h), k _ g1 H1 G1 s1 (wk_enumL h r)⟩⟩
    | _ => cases e1
def sItZ (sa sb : SE) : SI := fun ρ S => (sa ρ S).then fun x S1 => (sb ρ S1).then fun y S2 => match x, y with
  | .tup xs, .tup ys => .ok (zipD xs ys) S2
  | .lst xs, .lst ys => .ok (zipD xs ys) S2
  | _, _ => .bad
variable {sa sb : SE}
theorem simi_zip {elts : List Expr} {kk : Nat} {tpos : Pos} (hpi : ∀ {ta : TA}, PA X [a, b] ta → PI X (.Tuple elts kk tpos) e (RZ.iZipA X.K ta)) (h : SimE X own a sa) (h2 : SimE X own b sb) (hs1 : starEach (a :: [b]) X.env = (false, eval a X.env) :: starEach [b] X.env := by rfl) (hs2 : starEach (b :: []) X.env = (false, eval b X.env) :: starEach [] X.env := by rfl) : SimI X own (.Tuple elts kk tpos) e (sItZ sa sb) :=
  pi_weak (hpi (pa_cons h (pa_cons h2 pa_nil hs2) hs1)) fun σ H R ⟨g0, H0, ρ, g, S, E, q⟩ => by
    obtain ⟨ds, S', e1, k⟩ := Res.post_ex q
    obtain ⟨x, S1, e2, e1⟩ := Res.then_ex e1
    obtain ⟨y, S2, e3, e1⟩ := Res.then_ex e1
    refine ⟨g0, H0, ρ, g, S, E, ?_⟩
    rw [e2]
    intro v g1 H1 G1 s1 r1
    refine ⟨g0, H0, ρ, g1, S1, E.step G1 s1, ?_⟩
    rw [e3]
    intro v2 g2 H2 G2 s2 r2
    have r1' := r1.mono s2.le
    cases r1' with
    | tup h r => cases r2 with
      | tup h2 r2 => cases e1; exact ⟨_, _, _, _, rfl, .inr ⟨SqT.of (G2.sub _ _ h), SqT.of (G2.sub _ _ h2), k _ g2 H2 G2 (s1.trans s2) (wk_zipT h r h2 r2)⟩⟩
      | _ => cases e1
    | lst h r => cases r2 with
      | lst h2 r2 => cases e1; exact ⟨_, _, _, _, rfl, .inl ⟨SqL.of (G2.sub _ _ h), SqL.of (G2.sub _ _ h2), k _ g2 H2 G2 (s1.trans s2) (wk_zipL h r h2 r2)⟩⟩
      | _ => cases e1
    | _ => cases r2 <;> cases e1
end
end Ev
namespace Ev
open PySem PySem.Spec PyProof.Rows L2
/-! ### loops -/
def forL (body : D → DEnv → M Out) : List D → DEnv → M Out
  | [], ρ => fun S => .ok (.nx ρ) S
  | d :: ds, ρ => fun S => (body d ρ S).then fun o S' => match o with
    | .nx ρ' => forL body ds ρ' S'
    | .ct ρ' => forL body ds ρ' S'
    | .bk ρ' => .ok (.nx ρ') S'
    | .rt d => .ok (.rt d) S'
def fBody (sg : SG) (sb : SS) : D → DEnv → M Out := fun d ρ S => match sg d ρ with
  | some ρ' => sb ρ' S
  | none => .bad
def sFor (si : SI) (sg : SG) (sb : SS) : SS := fun ρ S => (si ρ S).then fun ds S1 => forL (fBody sg sb) ds ρ S1
section
variable {X : Cx} {own ownT own' ob ts : List Nat} {e iter tg : Expr} {body : List Stmt} {si : SI} {sg : SG} {ss : SS} {se : SE} {sb : SB} {pos : Pos}
theorem sim_for (hp : PassesOwn (model X.prog X.w) X.A X.env X.xe) (hc : X.calm = true) (hi : SimI X own tg iter si) (hg : SimG X own ownT ts tg sg) (hb : SimB X ownT own own body ss)
    (hs : ∀ x, foldedSetIterable iter X.env x = pure x := by intro _; rfl) : SimS X own own ob (.For tg iter body [] pos) (sFor si sg ss) := ps_weak (ps_for hp hc hi hg hb hs) fun D σ H ⟨g0, H0, ρ, g, S, E, q⟩ => by
  obtain ⟨o, S', e1, k⟩ := Res.post_ex q
  obtain ⟨ds, S1, e2, e1⟩ := Res.then_ex e1
  refine ⟨g0, H0, ρ, g, S, E, ?_⟩
  rw [e2]
  intro J g1 H1 G1 s1 wk
  refine ⟨fun i m σ H => m + i = ds.length ∧ ∃ ρ g S, EnvOk X.K X.mg g0 H0 own ρ σ g H S ∧ GLe g1 g ∧ (forL (fBody sg ss) (ds.drop i) ρ S).post fun o S' => OutOk X g0 H0 g own ob D S' o,
    ⟨ds.length, rfl, ρ, g1, S1, E.step G1 s1, .refl _, ?_⟩, ?_⟩
  · rw [List.drop_zero, e1]
    exact k.mono s1.le
  · rintro i m σ2 H2 ⟨hm, ρ2, g2, S2, E2, l2, post⟩
    obtain ⟨w1, w2⟩ := wk g2 H2 S2 E2.gok l2 i
    cases hd : ds[i]? with
    | none =>
      have hlen : ds.length ≤ i := List.getElem?_eq_none_iff.mp hd
      have hi' : ds.length = i := by omega
      refine .inl ⟨w2 hi', ?_⟩
      rw [List.drop_eq_nil_of_le hlen] at post
      exact post σ2 g2 H2 (.refl _) E2
    | some d =>
      obtain ⟨go, y⟩ := w1 d hd
      have hlt : i < ds.length := (List.getElem?_eq_some_iff.mp hd).1
      have hdrop : ds.drop i = d :: ds.drop (i + 1) := by
        rw [List.drop_eq_getElem_cons hlt]
        congr 1
        exact (List.getElem?_eq_some_iff.mp hd).2
      rw [hdrop] at post
      refine .inr ⟨go, _, fun σ' H' z => z, fun x H' hy => ?_⟩
      obtain ⟨g3, G3, s3, r3⟩ := y x H' hy
      have post' := Res.post_then.mp (show ((fBody sg ss d ρ2 S2).then fun o S' => match o with
        | .nx ρ' => forL (fBody sg ss) (ds.drop (i + 1)) ρ' S'
        | .ct ρ' => forL (fBody sg ss) (ds.drop (i + 1)) ρ' S'
        | .bk ρ' => .ok (.nx ρ') S'
        | .rt d => .ok (.rt d) S').post _ from post)
      cases hsg : sg d ρ2 with
      | none =>
        unfold fBody at post'
        rw [hsg] at post'
        exact post'.elim
      | some ρ3 =>
        have eb : fBody sg ss d ρ2 S2 = ss ρ3 S2 := by unfold fBody; rw [hsg]
        rw [eb] at post'
        refine ⟨g0, H0, ρ2, g3, S2, d, ρ3, E2.step G3 s3, r3, hsg, fun σ4 _ E4 => ⟨g0, H0, ρ3, g3, S2, E4, Res.post_mono post' fun o S5 p5 => ?_⟩⟩
        cases o with
        | nx ρ5 =>
          intro σ6 g6 H6 l6 E6
          exact ⟨m - 1, by omega, by omega, ρ5, g6, S5, E6, l2.trans (s3.le.trans l6), Res.post_mono p5 fun o S7 p7 => p7.mono (s3.le.trans l6)⟩
        | ct ρ5 =>
          intro σ6 g6 H6 l6 E6
          exact ⟨m - 1, by omega, by omega, ρ5, g6, S5, E6, l2.trans (s3.le.trans l6), Res.post_mono p5 fun o S7 p7 => p7.mono (s3.le.trans l6)⟩
        | bk ρ5 => exact fun σ6 g6 H6 l6 E6 => p5 σ6 g6 H6 (s3.le.trans l6) E6
        | rt d => exact p5
def whL : Nat → SB → SS → SS
  | 0, _, _ => fun _ _ => .bad
  | n + 1, c, b => fun ρ S => (c ρ S).then fun t S1 => if t then (b ρ S1).then fun o S2 => (match o with
    | .nx ρ' => whL n c b ρ' S2
    | .ct ρ' => whL n c b ρ' S2
    | .bk ρ' => .ok (.nx ρ') S2
    | .rt d => .ok (.rt d) S2) else .ok (.nx ρ) S1
theorem sim_while {n : Nat} {c : Expr} (hp : PassesOwn (model X.prog X.w) X.A X.env X.xe) (hc : SimT X own c sb) (hb : SimB X own own own body ss) : SimS X own own ob (.While c body [] pos) (whL n sb ss) := ps_weak (ps_while hp hc hb) fun D σ H ⟨g0, H0, ρ, g, S, E, q⟩ => by
  refine ⟨fun m σ H => ∃ ρ g S, EnvOk X.K X.mg g0 H0 own ρ σ g H S ∧ (whL m sb ss ρ S).post fun o S' => OutOk X g0 H0 g own ob D S' o, ⟨n, ρ, g, S, E, q⟩, ?_⟩
  rintro m σ1 H1 ⟨ρ1, g1, S1, E1, post⟩
  cases m with
  | zero => exact post.elim
  | succ m =>
    obtain ⟨o, S', e1, k⟩ := Res.post_ex post
    obtain ⟨t, S2, e2, e1⟩ := Res.then_ex e1
    refine ⟨g0, H0, ρ1, g1, S1, E1, ?_⟩
    rw [e2]
    intro g2 H2 G2 s2
    cases t with
    | false =>
      rw [if_neg Bool.false_ne_true]
      have e1' : (Res.ok (.nx ρ1) S2 : Res Out) = .ok o S' := e1
      cases e1'
      exact k σ1 g2 H2 s2.le (E1.step G2 s2)
    | true =>
      rw [if_pos rfl]
      refine ⟨_, fun σ' H' z => z, g0, H0, ρ1, g2, S2, E1.step G2 s2, ?_⟩
      have e1' : ((ss ρ1 S2).then fun o S2 => (match o with
        | .nx ρ' => whL m sb ss ρ' S2
        | .ct ρ' => whL m sb ss ρ' S2
        | .bk ρ' => .ok (.nx ρ') S2
        | .rt d => .ok (.rt d) S2)) = .ok o S' := e1
      obtain ⟨o3, S3, e3, e4⟩ := Res.then_ex e1'
      rw [e3]
      cases o3 with
      | nx ρ3 =>
        intro σ4 g4 H4 l4 E4
        have e4' : whL m sb ss ρ3 S3 = .ok o S' := e4
        exact ⟨m, Nat.lt_succ_self _, ρ3, g4, S3, E4, by rw [e4']; exact k.mono (s2.le.trans l4)⟩
      | ct ρ3 =>
        intro σ4 g4 H4 l4 E4
        have e4' : whL m sb ss ρ3 S3 = .ok o S' := e4
        exact ⟨m, Nat.lt_succ_self _, ρ3, g4, S3, E4, by rw [e4']; exact k.mono (s2.le.trans l4)⟩
      | bk ρ3 =>
        cases e4
        exact fun σ4 g4 H4 l4 E4 => k σ4 g4 H4 (s2.le.trans l4) E4
      | rt d =>
        cases e4
        exact k
end
/-! ### comprehensions -/
def compL (f : D → M (Option D)) : List D → M (List D)
  | [] => fun S => .ok [] S
  | d :: ds => fun S => (f d S).then fun y S1 => (compL f ds S1).then fun ys S2 => .ok (match y with
    | some y => y :: ys
    | none => ys) S2
def wipeE (ρ : DEnv) : List Nat → DEnv
  | [] => ρ
  | v :: vs => (wipeE ρ vs).set v none
def cBody (sg : SG) (st : SB) (se : SE) (ρ : DEnv) : D → M (Option D) := fun d S => match sg d ρ with
  | some ρ2 => (st ρ2 S).then fun b S1 => if b then (se ρ2 S1).then fun y S2 => .ok (some y) S2 else .ok none S1
  | none => .bad
def sComp (vs : List Nat) (si : SI) (sg : SG) (st : SB) (se : SE) : SE := fun ρ S => (si ρ S).then fun ds S1 => (compL (cBody sg st se (wipeE ρ vs)) ds S1).then fun ys S2 => if ys.length ≤ sizeLine then .ok (.lst ys) S2 else .bad
theorem sComp_lst {vs : List Nat} {si : SI} {sg : SG} {st : SB} {se : SE} {ρ : DEnv} {S S' : Sto} {d : D} (e : sComp vs si sg st se ρ S = .ok d S') : ∃ ds, d = .lst ds := by
  obtain ⟨ds, S1, _, e1⟩ := Res.then_ex e
  obtain ⟨ys, S2, _, e1⟩ := Res.then_ex e1
  split at e1
  · cases e1; exact ⟨_, rfl⟩
  · cases e1
def sYes : SB := fun _ S => .ok true S
section
variable {K : PySem.W.Frag} {mg : Str → Option Value} {g0 g : Gh} {H0 H : Hp} {S : Sto} {own : List Nat} {ρ : DEnv} {σ : L2.St}
theorem EnvOk.forget (E : EnvOk K mg g0 H0 own ρ σ g H S) {i : Nat} (hi : i ∉ own) : EnvOk K mg g0 H0 own (ρ.set i none) (σ.set i none) g H S where
  gok := E.gok
  stp := E.stp
  len := by rw [List.length_set, List.length_set, E.len]
  fro := fun j d' hj n => by
    by_cases e : i = j
    · subst e
      have hi : i < ρ.length := by
        have := (List.getElem?_eq_some_iff.mp hj).1
        simpa using this
      rw [List.getElem?_set_self hi] at hj
      cases hj
    · rw [List.getElem?_set_ne e] at hj
      obtain ⟨w, q1, q2⟩ := E.fro j d' hj n
      exact ⟨w, by rw [List.getElem?_set_ne e]; exact q1, q2⟩
  ow := fun j hj => by
    have ne : i ≠ j := fun z => hi (z ▸ hj)
    obtain ⟨p, d', h1, h2, h3⟩ := E.ow j hj
    exact ⟨p, d', by rw [List.getElem?_set_ne ne]; exact h1, by rw [List.getElem?_set_ne ne]; exact h2, h3⟩
  dis := fun j hj k hk ne => by
    have n1 : i ≠ j := fun z => hi (z ▸ hj)
    have n2 : i ≠ k := fun z => hi (z ▸ hk)
    rw [List.getElem?_set_ne n1, List.getElem?_set_ne n2]
    exact E.dis j hj k hk ne
theorem EnvOk.wipe (E : EnvOk K mg g0 H0 own ρ σ g H S) : ∀ {vs : List Nat}, (∀ i ∈ vs, i ∉ own) → EnvOk K mg g0 H0 own (wipeE ρ vs) (wipe σ vs) g H S
  | [], _ => E
  | v :: vs, h => (EnvOk.wipe E (vs := vs) fun i hi => h i (List.mem_cons_of_mem _ hi)).forget (h v List.mem_cons_self)
/-- an object aside is written -/
theorem EnvOk.aside (E : EnvOk K mg g0 H0 own ρ σ g H S) {p : Addr} {o : HO} {xs : List V} (hp : H p = some (.lst xs)) (h1 : g.F p = none) (h2 : p ∉ g.as) (h3 : H0 p = none) (hne : ∀ j ∈ own, σ[j]? ≠ some (some (.ref p))) : EnvOk K mg g0 H0 own ρ σ g (upd H p o) S := by
  have Fne : ∀ {b : Addr} {u : HO}, g.F b = some u → b ≠ p := fun {b u} e z => by rw [z, h1] at e; cases e
  refine ⟨⟨fun b u e => by rw [upd_ne (Fne e)]; exact E.gok.sub _ _ e, E.gok.nd, E.gok.len, E.gok.nf, fun j a ha => ?_⟩, ⟨E.stp.le, fun b u e n => ?_, fun b e => ?_, E.stp.newF, E.stp.newA⟩, E.len, E.fro, fun j hj => ?_, E.dis⟩
  · obtain ⟨kvs, kds, q1, q2, q3⟩ := E.gok.st j a ha
    exact ⟨kvs, kds, by rw [upd_ne (fun z : a = p => h2 (z ▸ List.mem_of_getElem? ha))]; exact q1, q2, q3⟩
  · rw [upd_ne (fun z : b = p => by rw [z, h3] at e; cases e)]
    exact E.stp.keep b u e n
  · by_cases z : b = p
    · rw [z, upd_same]; exact fun z => nomatch z
    · rw [upd_ne z]; exact E.stp.there b e
  · obtain ⟨q, d', q1, q2, b1, b2, b3, b4⟩ := E.ow j hj
    have nq : q ≠ p := fun z => hne j hj (by rw [q2, z])
    refine ⟨q, d', q1, q2, b1, b2, b3, ?_⟩
    rcases b4 with ⟨vs', ds', e', h', r'⟩ | ⟨C', dy, c', fvs', fs', e', hm', h', hd', f1, f2, f3, r'⟩
    · exact .inl ⟨vs', ds', e', by rw [upd_ne nq]; exact h', r'⟩
    · exact .inr ⟨C', dy, c', fvs', fs', e', hm', by rw [upd_ne nq]; exact h', by rw [upd_ne (ne_of hd' hp (fun z => nomatch z))]; exact hd', f1, f2, f3, r'⟩
theorem wipe_apart {σ σ' : L2.St} : ∀ {vs : List Nat}, (∀ j, j ∉ vs → σ'[j]? = σ[j]?) → σ'.length = σ.length → wipe σ' vs = wipe σ vs := fun {vs} h hl => by
  apply List.ext_getElem?
  intro j
  have get : ∀ (τ : L2.St) (vs : List Nat), (wipe τ vs)[j]? = if j ∈ vs ∧ j < τ.length then some none else τ[j]? := fun τ vs => by
    induction vs with
    | nil => simp [wipe]
    | cons v vs ih =>
      unfold wipe
      by_cases e : v = j
      · subst e
        by_cases hlt : v < τ.length
        · rw [List.getElem?_set_self (by rw [wipe_length]; exact hlt)]
          simp [hlt]
        · rw [List.getElem?_eq_none (by rw [List.length_set, wipe_length]; omega)]
          simp [hlt]
      · rw [List.getElem?_set_ne e, ih]
        have : (j ∈ v :: vs) ↔ j ∈ vs := by simp [Ne.symm e]
        simp only [this]
  rw [get, get, hl]
  by_cases hj : j ∈ vs
  · by_cases hlt : j < σ.length
    · simp [hj, hlt]
    · have h1 : σ'[j]? = none := List.getElem?_eq_none (by omega)
      have h2 : σ[j]? = none := List.getElem?_eq_none (by omega)
      simp only [hlt, and_false, if_false, h1, h2]
  · simp [hj, h j hj]
end
section
variable {X : Cx} {own own' ts vs : List Nat} {si : SI} {sg : SG} {st : SB} {se : SE}
theorem comp_of (hv : ∀ i ∈ vs, i ∉ own) (hts : ∀ i ∈ ts, i ∈ vs) {σ : L2.St} {H : Hp} {Q : VK} (h : tF X own (sComp vs si sg st se) σ H Q) : tLc (tI X own si) (tG X own own' ts sg) (tB X own' st) (tE X own' se) vs σ H Q := by
  obtain ⟨g0, H0, ρ, g, S, E, q⟩ := h
  obtain ⟨d, S', e1, k⟩ := Res.post_ex q
  obtain ⟨ds, S1, e2, e1⟩ := Res.then_ex e1
  obtain ⟨ys, S2, e3, e1⟩ := Res.then_ex e1
  split at e1
  · rename_i hz
    cases e1
    obtain ⟨ds', ed, k⟩ := k
    cases ed
    refine ⟨g0, H0, ρ, g, S, E, ?_⟩
    rw [e2]
    intro J g1 H1 G1 s1 wk L hL
    have hHL : H L = none := by
      cases q : H L with
      | none => rfl
      | some o => exact absurd hL (s1.there L (by rw [q]; exact fun z => nomatch z))
    have hH0L := E.new0 hHL
    have other := E.other hHL
    have E1 := E.step G1 s1
    refine ⟨fun i m H2 => m + i = ds.length ∧ ∃ g2 S2' acc as, EnvOk X.K X.mg g0 H0 own (wipeE ρ vs) (wipe σ vs) g2 H2 S2' ∧ Stp g H g2 H2 ∧ GLe g1 g2 ∧ H2 L = some (.lst acc) ∧ g2.F L = none ∧ L ∉ g2.as ∧ Reps X.K X.mg g2 acc as ∧
      ∃ zs, compL (cBody sg st se (wipeE ρ vs)) (ds.drop i) S2' = .ok zs S' ∧ as ++ zs = ys, ⟨ds.length, rfl, g1, S1, [], [], ?_⟩, ?_⟩
    · refine ⟨(E1.step (G1.fresh hL) (stp_fresh hL)).wipe hv, s1.trans (stp_fresh hL), .refl _, upd_same, G1.nfree hL, G1.notin hL, .nil, ys, ?_, rfl⟩
      rw [List.drop_zero]
      exact e3
    · rintro i m H2 ⟨hm, g2, S3, acc, as, E2, s2, l2, hLa, hLF, hLA, rs, zs, ez, eys⟩
      have hneL : ∀ j ∈ own, (wipe σ vs)[j]? ≠ some (some (.ref L)) := fun j hj e => other j hj (wipe_some e).1
      obtain ⟨w1, w2⟩ := wk g2 H2 S3 E2.gok l2 i
      cases hd : ds[i]? with
      | none =>
        have hlen : ds.length ≤ i := List.getElem?_eq_none_iff.mp hd
        rw [List.drop_eq_nil_of_le hlen] at ez
        cases ez
        rw [List.append_nil] at eys
        subst eys
        exact .inl ⟨w2 (by omega), k L acc g2 H2 E2.gok s2 hLa hLF hLA hHL rs⟩
      | some d =>
        obtain ⟨go, y⟩ := w1 d hd
        have hlt : i < ds.length := (List.getElem?_eq_some_iff.mp hd).1
        have hdrop : ds.drop i = d :: ds.drop (i + 1) := by
          rw [List.drop_eq_getElem_cons hlt]
          congr 1
          exact (List.getElem?_eq_some_iff.mp hd).2
        rw [hdrop] at ez
        obtain ⟨yo, S4, e4, e5⟩ := Res.then_ex ez
        obtain ⟨zs', S5, e6, e7⟩ := Res.then_ex e5
        cases e7
        refine .inr ⟨go, _, fun H' z => z, fun x H' hy => ?_⟩
        obtain ⟨g3, G3, s3, r3⟩ := y x H' hy
        cases hsg : sg d (wipeE ρ vs) with
        | none => unfold cBody at e4; rw [hsg] at e4; cases e4
        | some ρ3 =>
          have eb : cBody sg st se (wipeE ρ vs) d S3 = (st ρ3 S3).then fun b S1 => if b then (se ρ3 S1).then fun y S2 => .ok (some y) S2 else .ok none S1 := by unfold cBody; rw [hsg]
          rw [eb] at e4
          have E3 := E2.step G3 s3
          refine ⟨g0, H0, wipeE ρ vs, g3, S3, d, ρ3, E3, r3, hsg, fun σ4 ap E4 => ⟨?_, ?_⟩⟩
          · have a1 : wipe σ4 vs = wipe (wipe σ vs) vs := wipe_apart (fun j hj => ap.2 j fun z => hj (hts j z)) ap.1
            rw [a1]
            exact wipe_apart (fun j hj => wipe_out hj) (wipe_length _ _)
          · obtain ⟨b, S6, e8, e9⟩ := Res.then_ex e4
            refine ⟨g0, H0, ρ3, g3, S3, E4, ?_⟩
            rw [e8]
            intro g7 H7 G7 s7
            have sl : Stp g2 H2 g7 H7 := s3.trans s7
            cases b with
            | true =>
              rw [if_pos rfl]
              have e9' : ((se ρ3 S6).then fun y S2 => Res.ok (some y) S2) = .ok yo S4 := e9
              obtain ⟨yv, S8, e10, e11⟩ := Res.then_ex e9'
              cases e11
              refine ⟨g0, H0, ρ3, g7, S6, E4.step G7 s7, ?_⟩
              rw [e10]
              intro v g8 H8 G8 s8 r8
              have s28 := sl.trans s8
              have hL8 : H8 L = some (.lst acc) := s28.keep _ _ hLa hLA
              have hF8 : g8.F L = none := (s28.stay hLa hLF hLA fun _ z => nomatch z).1
              have hA8 : L ∉ g8.as := fun z => (s28.newA L z).elim hLA fun z => by rw [hLa] at z; cases z
              have E8 := (E2.step G8 s28).aside (o := .lst (acc ++ [v])) hL8 hF8 hA8 hH0L hneL
              have hys : (as ++ yv :: zs').length ≤ sizeLine := by
                have : as ++ (match some yv with | some y => y :: zs' | none => zs') = ys := eys
                have e : as ++ yv :: zs' = ys := this
                rw [e]; exact hz
              refine ⟨acc, hL8, ?_, m - 1, by omega, by omega, g8, _, acc ++ [v], as ++ [yv], E8, ?_, l2.trans s28.le, upd_same, hF8, hA8, (rs.mono s28.le).append (.one r8), zs', e6, ?_⟩
              · rw [rs.length]
                rw [List.length_append, List.length_cons] at hys
                omega
              · refine ⟨s2.le.trans s28.le, fun b u e n => ?_, fun b e => ?_, fun b e => (s2.trans s28).newF b e, fun b e => (s2.trans s28).newA b e⟩
                · rw [upd_ne (fun z : b = L => by rw [z, hHL] at e; cases e)]
                  exact (s2.trans s28).keep b u e n
                · by_cases z : b = L
                  · rw [z, upd_same]; exact fun z => nomatch z
                  · rw [upd_ne z]; exact (s2.trans s28).there b e
              · rw [List.append_assoc]; exact eys
            | false =>
              rw [if_neg Bool.false_ne_true]
              have e9' : (Res.ok none S6 : Res (Option D)) = .ok yo S4 := e9
              cases e9'
              have hL8 : H7 L = some (.lst acc) := sl.keep _ _ hLa hLA
              have hF8 : g7.F L = none := (sl.stay hLa hLF hLA fun _ z => nomatch z).1
              have hA8 : L ∉ g7.as := fun z => (sl.newA L z).elim hLA fun z => by rw [hLa] at z; cases z
              exact ⟨m - 1, by omega, by omega, g7, _, acc, as, E2.step G7 sl, s2.trans sl, l2.trans sl.le, hL8, hF8, hA8, rs.mono sl.le, zs', e6, eys⟩
  · cases e1
end
end Ev
namespace Ev
open PySem PySem.Spec PyProof.Rows L2
def SimTs (X : Cx) (own : List Nat) (ifs : List Expr) (sb : SB) : Prop := PTs X ifs (tB X own sb)
section
variable {X : Cx} {own own' own1 ob ts vs : List Nat} {e' : Stmt} {e c elt tg iter : Expr} {ifs : List Expr} {si : SI} {sg : SG} {st sb : SB} {se : SE} {ss : SS} {scope : Scope} {ownc : List (Str × Nat)} {pos spos py : Pos} {i : Nat} {y : Str}
theorem pts_weak {t t' : TT} (h : PTs X ifs t) (w : ∀ σ H Q, t' σ H Q → t σ H Q) : PTs X ifs t' := ⟨fun pins s σ H Q I q => h.run pins s σ H Q I (w σ H Q q)⟩
theorem simts_nil : SimTs X own [] sYes := pts_weak pts_nil fun σ H Q ⟨g0, H0, ρ, g, S, E, q⟩ => q g H E.gok .refl
theorem simts_one (h : SimT X own c sb) : SimTs X own [c] sb := pts_one h
def noneIn (vs own : List Nat) : Bool := vs.all fun i => !own.contains i
theorem noneIn_ok {vs own : List Nat} (h : noneIn vs own = true) : ∀ i ∈ vs, i ∉ own := fun i hi => by
  have := List.all_eq_true.mp h i hi
  simpa using this
/-- [elt for tg in iter if ..] -/
theorem simf_comp (hc : X.calm = true) (hN : X.N.Nodup) (hi : SimI X own tg iter si) (ok : BlkOk X.N X.env.scope scope ownc)
    (hg : ∀ (s : Shared) (H : Hp) (C : Addr) (cl : List (Str × Addr)) (fp : List Addr), SimG (X.blk s H scope (compEnvC scope cl C X.env) fp) own own' ts tg sg)
    (ht : ∀ (s : Shared) (H : Hp) (C : Addr) (cl : List (Str × Addr)) (fp : List Addr), SimTs (X.blk s H scope (compEnvC scope cl C X.env) fp) own' ifs st)
    (he : ∀ (s : Shared) (H : Hp) (C : Addr) (cl : List (Str × Addr)) (fp : List Addr), SimE (X.blk s H scope (compEnvC scope cl C X.env) fp) own' elt se)
    (hv : noneIn (ownc.map (·.2)) own = true := by rfl) (hts : subL ts (ownc.map (·.2)) = true := by rfl) (hs : ∀ x, foldedSetIterable iter X.env x = pure x := by intro _; rfl) :
    SimF X own (.ListComp elt [⟨tg, iter, ifs, 0⟩] scope pos) (sComp (ownc.map (·.2)) si sg st se) :=
  pe_weak (pe_lc (g := tG X own own' ts sg) (tt := tB X own' st) (te := tE X own' se) hc hN hi ok (fun s H C cl fp => hg s H C cl fp) (fun s H C cl fp => ht s H C cl fp) (fun s H C cl fp => he s H C cl fp) hs) fun _ _ _ h => comp_of (noneIn_ok hv) (subL_ok hts) h
theorem tF_of {σ : L2.St} {H : Hp} {Q : VK} (hl : ∀ ρ S d S', se ρ S = .ok d S' → ∃ ds, d = .lst ds) (h : tE X own se σ H Q) : tF X own se σ H Q := by
  obtain ⟨g0, H0, ρ, g, S, E, q⟩ := h
  obtain ⟨d, S', e1, k⟩ := Res.post_ex q
  obtain ⟨ds, rfl⟩ := hl _ _ _ _ e1
  refine ⟨g0, H0, ρ, g, S, E, ?_⟩
  rw [e1]
  refine ⟨ds, rfl, fun p vs g' H' G s h1 h2 h3 h4 r => ?_⟩
  have le := gle_add (o := .lst vs) h2
  refine k _ (g'.add p (.lst vs)) H' (G.freeze h1 h2 h3) ⟨s.le.trans le, s.keep, s.there, fun a ha => ?_, s.newA⟩ (.lst (by exact upd_same) (r.mono le))
  by_cases e : a = p
  · subst e; exact .inr (.inl h4)
  · have ha' : upd g'.F p (.lst vs) a ≠ none := ha
    rw [upd_ne e] at ha'
    exact s.newF a ha'
/-- y = [..], y a local, on one line -/
theorem sim_setLc (hc : X.calm = true) (hN : X.N.Nodup) (hy : X.N[i]? = some y) (hyl : X.env.scope.names.lookup y = some .local)
    (hsw : swapsWith (.ListComp elt [⟨tg, iter, ifs, 0⟩] scope pos) (some (.Name y py)) spos.line X.env = pure true) (hi : SimI X own tg iter si) (ok : BlkOk X.N X.env.scope scope ownc)
    (hg : ∀ (s : Shared) (H : Hp) (C : Addr) (cl : List (Str × Addr)) (fp : List Addr), SimG (X.blk s H scope (compEnvC scope cl C X.env) fp) own own' ts tg sg)
    (ht : ∀ (s : Shared) (H : Hp) (C : Addr) (cl : List (Str × Addr)) (fp : List Addr), SimTs (X.blk s H scope (compEnvC scope cl C X.env) fp) own' ifs st)
    (he : ∀ (s : Shared) (H : Hp) (C : Addr) (cl : List (Str × Addr)) (fp : List Addr), SimE (X.blk s H scope (compEnvC scope cl C X.env) fp) own' elt se)
    (hv : noneIn (ownc.map (·.2)) own = true := by rfl) (hts : subL ts (ownc.map (·.2)) = true := by rfl) (hs : ∀ x, foldedSetIterable iter X.env x = pure x := by intro _; rfl) :
    SimS X own (i :: er own i) ob (.Assign [.Name y py] (.ListComp elt [⟨tg, iter, ifs, 0⟩] scope pos) spos) (sSet i (sComp (ownc.map (·.2)) si sg st se)) :=
  ps_weakN (ps_setLc (g := tG X own own' ts sg) (tt := tB X own' st) (te := tE X own' se) hc hN hy hyl hsw hi ok (fun s H C cl fp => hg s H C cl fp) (fun s H C cl fp => ht s H C cl fp) (fun s H C cl fp => he s H C cl fp) hs) fun _ _ _ hσ h => comp_of (noneIn_ok hv) (subL_ok hts) (setF_of (List.getElem?_eq_some_iff.mp hy).1 hσ (fun _ _ _ _ e => sComp_lst e) h)

/-! ### a, b = x, y and the like; m true: a new list, owned from now on -/
def MR (K : PySem.W.Frag) (mg : Str → Option Value) (m : Bool) (g : Gh) (H Hp0 : Hp) (v : V) (d : D) : Prop := match m with
  | true => ∃ p ws es, v = .ref p ∧ d = .lst es ∧ H p = some (.lst ws) ∧ g.F p = none ∧ p ∉ g.as ∧ Hp0 p = none ∧ Reps K mg g ws es
  | false => Rep K mg g v d
def owm (m : Bool) (i : Nat) (own : List Nat) : List Nat := match m with
  | true => i :: er own i
  | false => er own i
def tX (X : Cx) (m : Bool) (own : List Nat) (se : SE) : TE := fun σ H Q => ∃ g0 H0 ρ g S, EnvOk X.K X.mg g0 H0 own ρ σ g H S ∧ (se ρ S).post fun d S' => ∀ v g' H', GOk X.K X.mg g' H' S' → Stp g H g' H' → MR X.K X.mg m g' H' H v d → Q v H'
def SimX (X : Cx) (m : Bool) (own : List Nat) (e : Expr) (se : SE) : Prop := PE X e (tX X m own se)
theorem SimE.x (h : SimE X own e se) : SimX X false own e se := h
theorem SimF.x (h : SimF X own e se) (hl : ∀ ρ S d S', se ρ S = .ok d S' → ∃ ds, d = .lst ds) : SimX X true own e se := pe_weak h fun σ H Q ⟨g0, H0, ρ, g, S, E, q⟩ => by
  obtain ⟨d, S', e1, k⟩ := Res.post_ex q
  obtain ⟨ds, rfl⟩ := hl _ _ _ _ e1
  refine ⟨g0, H0, ρ, g, S, E, ?_⟩
  rw [e1]
  exact ⟨ds, rfl, fun p vs g' H' G s h1 h2 h3 h4 r => k _ g' H' G s ⟨p, vs, ds, rfl, rfl, h1, h2, h3, h4, r⟩⟩
theorem EnvOk.setX {K : PySem.W.Frag} {mg : Str → Option Value} {g0 g g' : Gh} {H0 H H' : Hp} {S S' : Sto} {own : List Nat} {ρ : DEnv} {σ : L2.St} (E : EnvOk K mg g0 H0 own ρ σ g H S) {m : Bool} {v : V} {d : D} {i : Nat} (hi : i < ρ.length)
    (G : GOk K mg g' H' S') (s : Stp g H g' H') (r : MR K mg m g' H' H v d) : EnvOk K mg g0 H0 (owm m i own) (ρ.set i (some d)) (σ.set i (some v)) g' H' S' := by
  cases m with
  | true =>
    obtain ⟨p, ws, es, rfl, rfl, h1, h2, h3, h4, r⟩ := r
    exact (E.step G s).setF hi h1 h2 h3 (E.new0 h4) r (E.other h4)
  | false => exact (E.step G s).set r
variable {m1 m2 m3 : Bool} {a b : Expr} {sa sb' sc : SE} {j l : Nat}
def sPar2 (i j : Nat) (sa sb : SE) : SS := fun ρ S => (sa ρ S).then fun d1 S1 => (sb ρ S1).then fun d2 S2 => .ok (.nx ((ρ.set i (some d1)).set j (some d2))) S2
def sPar3 (i j l : Nat) (sa sb sc : SE) : SS := fun ρ S => (sa ρ S).then fun d1 S1 => (sb ρ S1).then fun d2 S2 => (sc ρ S2).then fun d3 S3 => .ok (.nx (((ρ.set i (some d1)).set j (some d2)).set l (some d3))) S3
theorem par2_of (hi : i < X.N.length) (hj : j < X.N.length) {D : Ends} {σ : L2.St} {H : Hp} (hσ : σ.length = X.N.length) (h : tS X own (owm m2 j (owm m1 i own)) ob (sPar2 i j sa sb') D σ H) :
    tX X m1 own sa σ H fun v H1 => tX X m2 own sb' σ H1 fun w H2 => ∃ (g : Gh) (S : Sto), GOk X.K X.mg g H2 S ∧ ∀ g' H', GOk X.K X.mg g' H' S → Stp g H2 g' H' → D.nx ((σ.set i (some v)).set j (some w)) H' := by
  obtain ⟨g0, H0, ρ, g, S, E, q⟩ := h
  obtain ⟨o, S', e1, k⟩ := Res.post_ex q
  obtain ⟨d1, S1, e2, e1⟩ := Res.then_ex e1
  obtain ⟨d2, S2, e3, e1⟩ := Res.then_ex e1
  cases e1
  refine ⟨g0, H0, ρ, g, S, E, ?_⟩
  rw [e2]
  intro v g1 H1 G1 s1 r1
  refine ⟨g0, H0, ρ, g1, S1, E.step G1 s1, ?_⟩
  rw [e3]
  intro w g2 H2 G2 s2 r2
  have E1 := E.setX (i := i) (by rw [E.len, hσ]; exact hi) G1 s1 r1
  have E2 := E1.setX (i := j) (by rw [List.length_set, E.len, hσ]; exact hj) G2 s2 r2
  exact ⟨g2, _, G2, fun g' H' G' s' => k _ g' H' ((s1.trans s2).trans s').le (E2.step G' s')⟩
theorem par3_of (hi : i < X.N.length) (hj : j < X.N.length) (hl : l < X.N.length) {D : Ends} {σ : L2.St} {H : Hp} (hσ : σ.length = X.N.length) (h : tS X own (owm m3 l (owm m2 j (owm m1 i own))) ob (sPar3 i j l sa sb' sc) D σ H) :
    tX X m1 own sa σ H fun v H1 => tX X m2 own sb' σ H1 fun w H2 => tX X m3 own sc σ H2 fun u H3 => ∃ (g : Gh) (S : Sto), GOk X.K X.mg g H3 S ∧ ∀ g' H', GOk X.K X.mg g' H' S → Stp g H3 g' H' → D.nx (((σ.set i (some v)).set j (some w)).set l (some u)) H' := by
  obtain ⟨g0, H0, ρ, g, S, E, q⟩ := h
  obtain ⟨o, S', e1, k⟩ := Res.post_ex q
  obtain ⟨d1, S1, e2, e1⟩ := Res.then_ex e1
  obtain ⟨d2, S2, e3, e1⟩ := Res.then_ex e1
  obtain ⟨d3, S3, e4, e1⟩ := Res.then_ex e1
  cases e1
  refine ⟨g0, H0, ρ, g, S, E, ?_⟩
  rw [e2]
  intro v g1 H1 G1 s1 r1
  refine ⟨g0, H0, ρ, g1, S1, E.step G1 s1, ?_⟩
  rw [e3]
  intro w g2 H2 G2 s2 r2
  refine ⟨g0, H0, ρ, g2, S2, E.step G2 (s1.trans s2), ?_⟩
  rw [e4]
  intro u g3 H3 G3 s3 r3
  have E1 := E.setX (i := i) (by rw [E.len, hσ]; exact hi) G1 s1 r1
  have E2 := E1.setX (i := j) (by rw [List.length_set, E.len, hσ]; exact hj) G2 s2 r2
  have E3 := E2.setX (i := l) (by rw [List.length_set, List.length_set, E.len, hσ]; exact hl) G3 s3 r3
  exact ⟨g3, _, G3, fun g' H' G' s' => k _ g' H' (((s1.trans s2).trans s3).trans s').le (E3.step G' s')⟩
section
variable {x y z : Str} {px py' pz pt pt2 : Pos} {kt k2 : Nat}
/-- both names plain locals: no tuple is made -/
theorem sim_par2 (hpe : ∀ {ta : TA}, PA X [a, b] ta → PS X e' (tPar i j ta)) (hi : X.N[i]? = some x) (hj : X.N[j]? = some y) (ha : SimX X m1 own a sa) (hb : SimX X m2 own b sb')
    (h1 : starEach (a :: [b]) X.env = (false, eval a X.env) :: starEach [b] X.env := by rfl) (h2 : starEach (b :: []) X.env = (false, eval b X.env) :: starEach [] X.env := by rfl) : SimS X own (owm m2 j (owm m1 i own)) ob e' (sPar2 i j sa sb') :=
  ps_weakN (hpe (pa_cons ha (pa_cons hb pa_nil h2) h1)) fun D σ H hσ h => by
    obtain ⟨g0, H0, ρ, g, S, E, q⟩ := par2_of (List.getElem?_eq_some_iff.mp hi).1 (List.getElem?_eq_some_iff.mp hj).1 hσ h
    refine ⟨g0, H0, ρ, g, S, E, Res.post_mono q fun d S' k v g1 H1 G1 s1 r1 => ?_⟩
    obtain ⟨g0', H0', ρ', g', S', E', q'⟩ := k v g1 H1 G1 s1 r1
    refine ⟨g0', H0', ρ', g', S', E', Res.post_mono q' fun d S' k v2 g2 H2 G2 s2 r2 => ?_⟩
    obtain ⟨g3, S3, G3, k3⟩ := k v2 g2 H2 G2 s2 r2
    exact ⟨v, v2, rfl, k3 g3 H2 G3 .refl⟩
theorem sim_par3 (hpe : ∀ {ta : TA}, PA X [a, b, c] ta → PS X e' (tPar3 i j l ta)) (hi : X.N[i]? = some x) (hj : X.N[j]? = some y) (hl : X.N[l]? = some z) (ha : SimX X m1 own a sa) (hb : SimX X m2 own b sb') (hc : SimX X m3 own c sc)
    (h1 : starEach (a :: [b, c]) X.env = (false, eval a X.env) :: starEach [b, c] X.env := by rfl) (h2 : starEach (b :: [c]) X.env = (false, eval b X.env) :: starEach [c] X.env := by rfl) (h3 : starEach (c :: []) X.env = (false, eval c X.env) :: starEach [] X.env := by rfl) : SimS X own (owm m3 l (owm m2 j (owm m1 i own))) ob e' (sPar3 i j l sa sb' sc) :=
  ps_weakN (hpe (pa_cons ha (pa_cons hb (pa_cons hc pa_nil h3) h2) h1)) fun D σ H hσ h => by
    obtain ⟨g0, H0, ρ, g, S, E, q⟩ := par3_of (List.getElem?_eq_some_iff.mp hi).1 (List.getElem?_eq_some_iff.mp hj).1 (List.getElem?_eq_some_iff.mp hl).1 hσ h
    refine ⟨g0, H0, ρ, g, S, E, Res.post_mono q fun d S' k v g1 H1 G1 s1 r1 => ?_⟩
    obtain ⟨g0', H0', ρ', g', S', E', q'⟩ := k v g1 H1 G1 s1 r1
    refine ⟨g0', H0', ρ', g', S', E', Res.post_mono q' fun d S' k v2 g2 H2 G2 s2 r2 => ?_⟩
    obtain ⟨g0'', H0'', ρ'', g'', S'', E'', q''⟩ := k v2 g2 H2 G2 s2 r2
    refine ⟨g0'', H0'', ρ'', g'', S'', E'', Res.post_mono q'' fun d S' k v3 g4 H4 G4 s4 r4 => ?_⟩
    obtain ⟨g3, S3, G3, k3⟩ := k v3 g4 H4 G4 s4 r4
    exact ⟨v, v2, v3, rfl, k3 g3 H4 G3 .refl⟩
/-- some name captured: the tuple is made, and taken apart -/
theorem sim_tpar2 (hcalm : X.calm = true) (hN : X.N.Nodup) (hi : X.N[i]? = some x) (hx : Loc X.env.scope x) (hj : X.N[j]? = some y) (hy : Loc X.env.scope y) (ha : SimX X m1 own a sa) (hb : SimX X m2 own b sb')
    (hs : swapsWithSole [.Tuple [.Name x px, .Name y py'] kt pt] (.Tuple [a, b] k2 pt2) pos.line X.env = pure false := by rfl) (hw : swappedStores [.Tuple [.Name x px, .Name y py'] kt pt] (.Tuple [a, b] k2 pt2) X.env = pure none := by rfl)
    (hfx : X.fn x = true ∨ X.env.scope.names.lookup x = some .local := by first | exact .inl rfl | exact .inr rfl | assumption) (hfy : X.fn y = true ∨ X.env.scope.names.lookup y = some .local := by first | exact .inl rfl | exact .inr rfl | assumption)
    (h1 : starEach (a :: [b]) X.env = (false, eval a X.env) :: starEach [b] X.env := by rfl) (h2 : starEach (b :: []) X.env = (false, eval b X.env) :: starEach [] X.env := by rfl) :
    SimS X own (owm m2 j (owm m1 i own)) ob (.Assign [.Tuple [.Name x px, .Name y py'] kt pt] (.Tuple [a, b] k2 pt2) pos) (sPar2 i j sa sb') :=
  ps_weakN (ps_asg (pe_tup (pa_cons ha (pa_cons hb pa_nil h2) h1)) (pg_tup hcalm (pgs_cons (pg_name hN hi hx hfx) (pgs_cons (pg_name hN hj hy hfy) pgs_nil))) hs hw) fun D σ H hσ h => by
    obtain ⟨g0, H0, ρ, g, S, E, q⟩ := par2_of (List.getElem?_eq_some_iff.mp hi).1 (List.getElem?_eq_some_iff.mp hj).1 hσ h
    refine ⟨g0, H0, ρ, g, S, E, Res.post_mono q fun d S' k v g1 H1 G1 s1 r1 => ?_⟩
    obtain ⟨g0', H0', ρ', g', S', E', q'⟩ := k v g1 H1 G1 s1 r1
    refine ⟨g0', H0', ρ', g', S', E', Res.post_mono q' fun d S' k v2 g2 H2 G2 s2 r2 => ?_⟩
    obtain ⟨g3, S3, G3, k3⟩ := k v2 g2 H2 G2 s2 r2
    refine ⟨by show 2 ≤ sizeLine; decide, fun p hp => ⟨p, _, rfl, SqT.of upd_same, rfl, v, _, rfl, v2, _, rfl, rfl, ?_⟩⟩
    exact k3 g3 _ (G3.fresh hp) (stp_fresh hp)
theorem sim_tpar3 (hcalm : X.calm = true) (hN : X.N.Nodup) (hi : X.N[i]? = some x) (hx : Loc X.env.scope x) (hj : X.N[j]? = some y) (hy : Loc X.env.scope y) (hl : X.N[l]? = some z) (hz : Loc X.env.scope z) (ha : SimX X m1 own a sa) (hb : SimX X m2 own b sb') (hc : SimX X m3 own c sc)
    (hs : swapsWithSole [.Tuple [.Name x px, .Name y py', .Name z pz] kt pt] (.Tuple [a, b, c] k2 pt2) pos.line X.env = pure false := by rfl) (hw : swappedStores [.Tuple [.Name x px, .Name y py', .Name z pz] kt pt] (.Tuple [a, b, c] k2 pt2) X.env = pure none := by rfl)
    (hfx : X.fn x = true ∨ X.env.scope.names.lookup x = some .local := by first | exact .inl rfl | exact .inr rfl | assumption) (hfy : X.fn y = true ∨ X.env.scope.names.lookup y = some .local := by first | exact .inl rfl | exact .inr rfl | assumption) (hfz : X.fn z = true ∨ X.env.scope.names.lookup z = some .local := by first | exact .inl rfl | exact .inr rfl | assumption)
    (h1 : starEach (a :: [b, c]) X.env = (false, eval a X.env) :: starEach [b, c] X.env := by rfl) (h2 : starEach (b :: [c]) X.env = (false, eval b X.env) :: starEach [c] X.env := by rfl) (h3 : starEach (c :: []) X.env = (false, eval c X.env) :: starEach [] X.env := by rfl) :
    SimS X own (owm m3 l (owm m2 j (owm m1 i own))) ob (.Assign [.Tuple [.Name x px, .Name y py', .Name z pz] kt pt] (.Tuple [a, b, c] k2 pt2) pos) (sPar3 i j l sa sb' sc) :=
  ps_weakN (ps_asg (pe_tup (pa_cons ha (pa_cons hb (pa_cons hc pa_nil h3) h2) h1)) (pg_tup hcalm (pgs_cons (pg_name hN hi hx hfx) (pgs_cons (pg_name hN hj hy hfy) (pgs_cons (pg_name hN hl hz hfz) pgs_nil)))) hs hw) fun D σ H hσ h => by
    obtain ⟨g0, H0, ρ, g, S, E, q⟩ := par3_of (List.getElem?_eq_some_iff.mp hi).1 (List.getElem?_eq_some_iff.mp hj).1 (List.getElem?_eq_some_iff.mp hl).1 hσ h
    refine ⟨g0, H0, ρ, g, S, E, Res.post_mono q fun d S' k v g1 H1 G1 s1 r1 => ?_⟩
    obtain ⟨g0', H0', ρ', g', S', E', q'⟩ := k v g1 H1 G1 s1 r1
    refine ⟨g0', H0', ρ', g', S', E', Res.post_mono q' fun d S' k v2 g2 H2 G2 s2 r2 => ?_⟩
    obtain ⟨g0'', H0'', ρ'', g'', S'', E'', q''⟩ := k v2 g2 H2 G2 s2 r2
    refine ⟨g0'', H0'', ρ'', g'', S'', E'', Res.post_mono q'' fun d S' k v3 g4 H4 G4 s4 r4 => ?_⟩
    obtain ⟨g3, S3, G3, k3⟩ := k v3 g4 H4 G4 s4 r4
    refine ⟨by show 3 ≤ sizeLine; decide, fun p hp => ⟨p, _, rfl, SqT.of upd_same, rfl, v, _, rfl, v2, _, rfl, v3, _, rfl, rfl, ?_⟩⟩
    exact k3 g3 _ (G3.fresh hp) (stp_fresh hp)
end
end
/-! ### a def's promise by its body -/
def outD (r : Res Out) : Res D := r.then fun o S => match o with
  | .nx _ => .ok .non S
  | .rt d => .ok d S
  | _ => .bad
/-- a def of n names, its body's meaning b -/
def runD (n : Nat) (b : SS) : List D → M D := fun ds S => outD (b (ds.map some ++ List.replicate (n - ds.length) none) S)
theorem start_get {n : Nat} {ds : List D} {i : Nat} {d : D} (h : (ds.map some ++ List.replicate (n - ds.length) (none : Option D))[i]? = some (some d)) : ds[i]? = some d := by
  by_cases hi : i < ds.length
  · rw [List.getElem?_append_left (by simpa using hi), List.getElem?_map] at h
    cases q : ds[i]? with
    | none => rw [q] at h; cases h
    | some x => rw [q] at h; cases h; rfl
  · rw [List.getElem?_append_right (by simpa using hi), List.getElem?_replicate] at h
    split at h <;> cases h
theorem env_start {K : PySem.W.Frag} {mg : Str → Option Value} {g : Gh} {H : Hp} {S : Sto} {vs : List V} {ds : List D} {N : List Str} (G : GOk K mg g H S) (r : Reps K mg g vs ds) (hn : ds.length ≤ N.length) : EnvOk K mg g H [] (ds.map some ++ List.replicate (N.length - ds.length) none) (L2.start N vs) g H S where
  gok := G
  stp := .refl
  len := by
    unfold L2.start
    rw [List.length_append, List.length_append, List.length_map, List.length_map, List.length_replicate, List.length_replicate, r.length]
  fro := fun i d h _ => by
    have h' := start_get h
    obtain ⟨v, hv, rv⟩ := r.get h'
    refine ⟨v, ?_, rv⟩
    unfold L2.start
    have hlt := (List.getElem?_eq_some_iff.mp hv).1
    rw [List.getElem?_append_left (by simpa using hlt), List.getElem?_map, hv] <;> rfl
  ow := fun i hi => by cases hi
  dis := fun i hi => by cases hi
section
variable {P : Program} {w : World} {K : PySem.W.Frag} {mg : Str → Option Value} {base : Heap}
/-- the context of a def's body: nothing leaves it -/
abbrev Ctx (P : Program) (w : World) (K : PySem.W.Frag) (mg : Str → Option Value) (base : Heap) (N : List Str) (qual : Str) (scope : Scope) (f : Addr) (cd : Value) (A : Around) (outer : List Env) (s : Shared) (H : Hp) (E : XK) : Cx := (cxOf CX0 P w K mg base N qual scope f cd A outer s H E).nox
/-- THE RULE for a def -/
theorem gf_of {x qual : Str} {st : Stmt} {f : Addr} {fd : FuncData} {N ps : List Str} {k n : Nat} {b : SS} (F : FunD K x qual (defArgs st) (defBody st) (defScope st) [] [] f fd) {y : Str} (hm : mg y = some (.ref f)) (Sc : FnScope N ps (defScope st)) (hn : ps.length = n) (hN : n ≤ N.length)
    (hb : ∀ (kV doc pm : Value) (an : Option Addr) (cdv ct : Value) (us : List Value), us.length = ps.length → bindArgs (PySem.W.fnOf x qual (defArgs st) (defBody st) (defScope st) .none kV doc pm an cdv ct) ⟨us, []⟩ = pure (ps.zip us))
    (body : ∀ (cdv : Value) (A : Around) (outer : List Env) (s : Shared) (H : Hp) (E : XK), Room k (A.deeper (envOfC qual (defScope st) s.heap.objs.size f cdv)) → SimB (Ctx P w K mg base N qual (defScope st) f cdv A outer s H E) [] [] [] (defBody st) b) :
    GF P w K mg base (k + 1) y n (runD N.length b) := by
  refine ⟨f, fd, ps, hm, F.kp, F.bindsN hb, F.ok Sc (fun vs H Q E h => ?_) (fun cdv A outer s H vs Q E hr h => ⟨_, PSs.nox (body cdv A outer s H E hr), ?_⟩)⟩
  · obtain ⟨g, ds, S, G, r, hl, _⟩ := h
    rw [r.length, hl, hn]
  · obtain ⟨g, ds, S, G, r, hl, q⟩ := h
    refine ⟨g, H, _, g, S, env_start (N := N) G r (by rw [hl]; exact hN), ?_⟩
    have q' : (runD N.length b ds S).post _ := q
    unfold runD outD at q'
    refine Res.post_mono (Res.post_then.mp q') fun o S' k => ?_
    cases o with
    | nx ρ => exact fun σ g1 H1 l1 E1 => k _ g1 H1 E1.gok E1.stp .non
    | rt d => exact fun v g1 H1 G1 s1 r1 => k v g1 H1 G1 s1 r1
    | bk ρ => exact k.elim
    | ct ρ => exact k.elim
end
end Ev
namespace Ev
open PySem PySem.Spec PyProof.Rows L2
/-! ### instances in the making -/
section
variable {K : PySem.W.Frag} {mg : Str → Option Value} {g0 g g' : Gh} {H0 H H' : Hp} {S S' : Sto} {own own' : List Nat} {ρ : DEnv} {σ : L2.St}
theorem EnvOk.writeI (E : EnvOk K mg g0 H0 own ρ σ g H S) {i : Nat} (hi : i ∈ own) {c : Str} {fs gs : List (Str × D)} (h : ρ[i]? = some (some (.obj c fs))) :
    ∃ p C dx fvs, σ[i]? = some (some (.ref p)) ∧ p = g.me ∧ mg c = some (.ref C) ∧ H p = some (.ins C dx fvs) ∧ FReps K mg g fvs fs ∧ ∀ gvs, FReps K mg g gvs gs → EnvOk K mg g0 H0 own (ρ.set i (some (.obj c gs))) σ g (upd H p (.ins C dx gvs)) S := by
  obtain ⟨p, d, h1, h2, a1, a2, a3, a4⟩ := E.ow i hi
  rw [h] at h1
  cases h1
  rcases a4 with ⟨vs, ds', e, hp, r⟩ | ⟨C, dx, c', fvs, fs', ⟨em, e⟩, hm, hp, hd, f1, f2, f3, r⟩
  · cases e
  · cases e
    refine ⟨p, C, dx, fvs, h2, em, hm, hp, r, fun ws rw' => ?_⟩
    have hil : i < ρ.length := (List.getElem?_eq_some_iff.mp h).1
    have Fne : ∀ {b : Addr} {o : HO}, g.F b = some o → b ≠ p := fun {b o} e z => by rw [z, a1] at e; cases e
    have ndp : dx ≠ p := ne_of hd hp (fun z => nomatch z)
    refine ⟨⟨fun b o e => by rw [upd_ne (Fne e)]; exact E.gok.sub _ _ e, E.gok.nd, E.gok.len, E.gok.nf, fun j a ha => ?_⟩, ⟨E.stp.le, fun b o e n => ?_, fun b e => ?_, E.stp.newF, E.stp.newA⟩, by rw [List.length_set]; exact E.len, fun j d' hj n => ?_, fun j hj => ?_, E.dis⟩
    · obtain ⟨kvs, kds, q1, q2, q3⟩ := E.gok.st j a ha
      exact ⟨kvs, kds, by rw [upd_ne (fun z : a = p => a2 (z ▸ List.mem_of_getElem? ha))]; exact q1, q2, q3⟩
    · rw [upd_ne (fun z : b = p => by rw [z, a3] at e; cases e)]
      exact E.stp.keep b o e n
    · by_cases z : b = p
      · rw [z, upd_same]; exact fun z => nomatch z
      · rw [upd_ne z]; exact E.stp.there b e
    · have ne : i ≠ j := fun z => n (z ▸ hi)
      rw [List.getElem?_set_ne ne] at hj
      exact E.fro j d' hj n
    · by_cases e : i = j
      · subst e
        exact ⟨p, _, by rw [List.getElem?_set_self hil], h2, a1, a2, a3, .inr ⟨C, dx, c, ws, gs, ⟨em, rfl⟩, hm, upd_same, by rw [upd_ne ndp]; exact hd, f1, f2, f3, rw'⟩⟩
      · obtain ⟨q, d', q1, q2, b1, b2, b3, b4⟩ := E.ow j hj
        have nq : q ≠ p := fun z => E.dis i hi j hj e (by rw [h2, q2, z])
        refine ⟨q, d', by rw [List.getElem?_set_ne e]; exact q1, q2, b1, b2, b3, ?_⟩
        rcases b4 with ⟨vs', ds', e', h', r'⟩ | ⟨C', dy, c', fvs', fs', e', hm', h', hd', f1, f2, f3, r'⟩
        · exact .inl ⟨vs', ds', e', by rw [upd_ne nq]; exact h', r'⟩
        · exact absurd (e'.1.trans em.symm) nq
end
def sFldI (i : Nat) (cs : List Str) (f : Str) (se : SE) : SS := fun ρ S => (se ρ S).then fun d S' => match ρ[i]? with
  | some (some (.obj c fs)) => if c ∈ cs ∧ fs.length < 1000 then .ok (.nx (ρ.set i (some (.obj c (putD f d fs))))) S' else .bad
  | _ => .bad
theorem putF_eq (f : Str) (v : V) : ∀ fs : List (Str × V), putF f v fs = (match fs with
  | [] => [(f, v)]
  | (x, y) :: r => if x = f then (f, v) :: r else (x, y) :: putF f v r)
  | [] => rfl
  | (x, y) :: r => by
    show (if x = f then (x, v) :: r else (x, y) :: putF f v r) = if x = f then (f, v) :: r else (x, y) :: putF f v r
    by_cases e : x = f
    · subst e; simp
    · simp [e]
section
variable {X : Cx} {own own' own1 ob : List Nat} {e : Expr} {es : List Expr} {se : SE} {sas : List (Bool × SE)} {pos pos' pos2 p : Pos} {i k n : Nat} {x c : Str}
theorem sim_fld {cs : List Str} {f y : Str} (hi : i ∈ own) (ho : PE X (.Name y pos2) (tVar i)) (hv : SimE X own e se) (hA : AttrOk X.K X.mg cs f) (hs : swapsWith e (some (.Attribute (.Name y pos2) f pos')) pos.line X.env = pure false := by rfl) :
    SimS X own own ob (.Assign [.Attribute (.Name y pos2) f pos'] e pos) (sFldI i cs f se) := ps_weak (ps_fld ho hv hs) fun D σ H ⟨g0, H0, ρ, g, S, E, q⟩ => by
  obtain ⟨o, S', e1, k⟩ := Res.post_ex q
  obtain ⟨d, S1, e2, e1⟩ := Res.then_ex e1
  refine ⟨g0, H0, ρ, g, S, E, ?_⟩
  rw [e2]
  intro v g1 H1 G1 s1 r1
  have E1 := E.step G1 s1
  split at e1
  · rename_i c fs h0
    split at e1
    · rename_i hc
      cases e1
      obtain ⟨p, C, dx, fvs, h1, hme, hm, h2, fr, kw⟩ := E1.writeI (gs := putD f d fs) hi h0
      obtain ⟨hcl, hna⟩ := hA c hc.1 C hm
      refine ⟨_, h1, p, C, dx, fvs, rfl, h2, hcl, hna, by rw [fr.length]; exact hc.2, ?_⟩
      exact k _ g1 _ s1.le (kw _ (fr.put r1))
    · cases e1
  · cases e1

/-! ### C(..) -/
def spI (K : PySem.W.Frag) (mg : Str → Option Value) (c : Str) (n : Nat) (m : List D → M D) : Sp := fun vs H Q _ => ∃ g H1 x dx C vs' ds S, mg c = some (.ref C) ∧ vs = .ref x :: vs' ∧ H1 x = none ∧ H1 dx = none ∧ dx ≠ x ∧ H = upd (upd H1 dx (.own x)) x (.ins C dx []) ∧ g.me = x ∧
  GOk K mg g H1 S ∧ Reps K mg g vs' ds ∧ ds.length = n ∧ (m ds S).post fun d S' => ∀ g' H2, GOk K mg g' H2 S' → Stp g H1 g' H2 → Rep K mg g' (.ref x) d → Q .non H2
structure GI (P : Program) (w : World) (K : PySem.W.Frag) (mg : Str → Option Value) (base : Heap) (k : Nat) (c : Str) (n : Nat) (m : List D → M D) : Prop where
  ex : ∃ C f fd ps, mg c = some (.ref C) ∧ Mk K C f ∧ Binds K fd ps [] ∧ FnOk P w K mg base CX0 k f fd ps (spI K mg c n m)
theorem GOk.me {K : PySem.W.Frag} {mg : Str → Option Value} {g : Gh} {H : Hp} {S : Sto} (G : GOk K mg g H S) (x : Addr) : GOk K mg ⟨g.F, g.as, x⟩ H S :=
  ⟨G.sub, G.nd, G.len, G.nf, fun i a h => by
    obtain ⟨kvs, kds, h1, h2, h3⟩ := G.st i a h
    exact ⟨kvs, kds, h1, h2, h3.mono0 (g := g) (g' := ⟨g.F, g.as, x⟩) (Same.refl _) (fun _ _ h => h)⟩⟩
theorem sim_make {m : List D → M D} (F : GI X.prog X.w X.K X.mg X.base k x n m) (hr : Room (k + 1) X.A) (hg : Gl X x) (ha : SimA X own (e :: es) sas) (hn : sas.length = n := by rfl) (hst : (sas.all fun a => !a.1) = true := by rfl) (hdb : (x == ("__debug__" : Str)) = false := by decide)
    (he : starEach (e :: es) X.env = (false, eval e X.env) :: starEach es X.env := by rfl) (hpl : (backTo pos (starEach es X.env)).any (·.1) = false := by rfl) : SimE X own (.Call (.Name x p) (e :: es) [] pos) (sCall m sas) := by
  obtain ⟨C, f, fd, ps, hm, M, hb, F⟩ := F.ex
  refine pe_weak (pe_make M F hr hg hm hb .nil pass0 ha hdb he hpl) fun σ H Q ⟨g0, H0, ρ, g, S, E, q⟩ => ?_
  obtain ⟨d, S', e1, k⟩ := Res.post_ex q
  obtain ⟨ds, S1, e2, e1⟩ := Res.then_ex e1
  refine ⟨g0, H0, ρ, g, S, E, ?_⟩
  have hl := sArgs_len hst e2
  rw [e2]
  intro vs g1 H1 G1 s1 r1 xa dx hx hd hne
  rw [List.append_nil]
  refine ⟨⟨g1.F, g1.as, xa⟩, H1, xa, dx, C, vs, ds, S1, hm, rfl, hx, hd, hne, rfl, rfl, G1.me xa, Reps.mono0 (g := g1) (g' := ⟨g1.F, g1.as, xa⟩) (Same.refl _) (fun _ _ h => h) r1, by rw [hl, hn], ?_⟩
  rw [e1]
  intro g2 H2 G2 s2 r2
  refine ⟨rfl, k _ ⟨g2.F, g2.as, g1.me⟩ H2 (G2.me g1.me) (s1.trans ⟨⟨s2.le.F, s2.le.as, rfl⟩, s2.keep, s2.there, s2.newF, s2.newA⟩) (Rep.mono0 (g := g2) (g' := ⟨g2.F, g2.as, g1.me⟩) (Same.refl _) (fun _ _ h => h) r2)⟩
end
def runI (n : Nat) (c : Str) (b : SS) : List D → M D := fun ds S => (b (some (.obj c []) :: (ds.map some ++ List.replicate (n - 1 - ds.length) none)) S).then fun o S' => match o with
  | .nx ρ => (match ρ[0]? with
    | some (some (D.obj c fs)) => .ok (.obj c fs) S'
    | _ => .bad)
  | _ => .bad
section
variable {P : Program} {w : World} {K : PySem.W.Frag} {mg : Str → Option Value} {base : Heap}
theorem env_startI {g : Gh} {H1 : Hp} {S : Sto} {vs : List V} {ds : List D} {N : List Str} {x dx C : Addr} {c : Str} (G : GOk K mg g H1 S) (r : Reps K mg g vs ds) (hn : ds.length + 1 ≤ N.length) (hme : g.me = x) (hx : H1 x = none) (hd : H1 dx = none) (hne : dx ≠ x) (hm : mg c = some (.ref C)) :
    EnvOk K mg g H1 [0] (some (.obj c []) :: (ds.map some ++ List.replicate (N.length - 1 - ds.length) none)) (L2.start N (.ref x :: vs)) g (upd (upd H1 dx (.own x)) x (.ins C dx [])) S := by
  have hx' : upd H1 dx (.own x) x = none := by rw [upd_ne (Ne.symm hne)]; exact hx
  have G2 := (G.fresh (o := .own x) hd).fresh (o := .ins C dx []) hx'
  have s2 : Stp g H1 g (upd (upd H1 dx (.own x)) x (.ins C dx [])) := (stp_fresh hd).trans (stp_fresh hx')
  refine ⟨G2, s2, ?_, fun i d h n => ?_, fun i hi => ?_, fun i hi j hj ne => ?_⟩
  · unfold L2.start
    rw [List.length_append, List.length_map, List.length_replicate, List.length_cons, List.length_cons, List.length_append, List.length_map, List.length_replicate, r.length]
    omega
  · cases i with
    | zero => exact absurd (List.mem_singleton.mpr rfl) n
    | succ i =>
      have h' := start_get (n := N.length - 1) (show (ds.map some ++ List.replicate (N.length - 1 - ds.length) (none : Option D))[i]? = some (some d) from h)
      obtain ⟨v, hv, rv⟩ := r.get h'
      refine ⟨v, ?_, rv⟩
      unfold L2.start
      have hlt := (List.getElem?_eq_some_iff.mp hv).1
      rw [List.getElem?_append_left (by simp; omega), List.getElem?_map]
      show Option.map some ((V.ref x :: vs)[i + 1]?) = _
      rw [List.getElem?_cons_succ, hv] <;> rfl
  · have e : i = 0 := by simpa using hi
    subst e
    refine ⟨x, _, rfl, rfl, G.nfree hx, G.notin hx, hx, .inr ⟨C, dx, c, [], [], ⟨hme.symm, rfl⟩, hm, upd_same, by rw [upd_ne hne, upd_same], G.nfree hd, G.notin hd, hd, .nil⟩⟩
  · have e : i = 0 := by simpa using hi
    have e2 : j = 0 := by simpa using hj
    exact absurd (e.trans e2.symm) ne
theorem gi_of {x qual : Str} {st : Stmt} {f C : Addr} {fd : FuncData} {N ps : List Str} {k n : Nat} {b : SS} {c : Str} (F : FunD K x qual (defArgs st) (defBody st) (defScope st) [] [] f fd) (hm : mg c = some (.ref C)) (M : Mk K C f) (Sc : FnScope N ps (defScope st)) (hn : ps.length = n + 1) (hN : n + 1 ≤ N.length)
    (hb : ∀ (kV doc pm : Value) (an : Option Addr) (cdv ct : Value) (us : List Value), us.length = ps.length → bindArgs (PySem.W.fnOf x qual (defArgs st) (defBody st) (defScope st) .none kV doc pm an cdv ct) ⟨us, []⟩ = pure (ps.zip us))
    (body : ∀ (cdv : Value) (A : Around) (outer : List Env) (s : Shared) (H : Hp) (E : XK), Room k (A.deeper (envOfC qual (defScope st) s.heap.objs.size f cdv)) → SimB (Ctx P w K mg base N qual (defScope st) f cdv A outer s H E) [0] [0] [] (defBody st) b) :
    GI P w K mg base (k + 1) c n (runI N.length c b) := by
  refine ⟨C, f, fd, ps, hm, M, F.bindsN hb, F.ok Sc (fun vs H Q E h => ?_) (fun cdv A outer s H vs Q E hr h => ⟨_, PSs.nox (body cdv A outer s H E hr), ?_⟩)⟩
  · obtain ⟨g, H1, x, dx, C', vs', ds, S, _, rfl, _, _, _, _, _, G, r, hl, _⟩ := h
    rw [List.length_cons, r.length, hl, hn]
  · obtain ⟨g, H1, x, dx, C', vs', ds, S, hm', rfl, hx, hd, hne, rfl, hme, G, r, hl, q⟩ := h
    refine ⟨g, H1, _, g, S, env_startI (N := N) G r (by rw [hl]; exact hN) hme hx hd hne hm', ?_⟩
    have q' : (runI N.length c b ds S).post _ := q
    unfold runI at q'
    refine Res.post_mono (Res.post_then.mp q') fun o S' k => ?_
    cases o with
    | nx ρ =>
      intro σ g1 H2 l1 E1
      obtain ⟨p, d, h1, h2, hO⟩ := E1.ow 0 (by simp)
      have k' : (match ρ[0]? with
        | some (some (D.obj c fs)) => Res.ok (D.obj c fs) S'
        | _ => .bad).post fun d S' => ∀ g' H2, GOk K mg g' H2 S' → Stp g H1 g' H2 → Rep K mg g' (.ref x) d → Q .non H2 := k
      rw [h1] at k'
      obtain ⟨g2, l2, E2⟩ := E1.sub (own' := []) (fun i hi => by cases hi)
      obtain ⟨v, h3, rv⟩ := E2.fro 0 d h1 (fun z => by cases z)
      rw [h2] at h3
      cases h3
      obtain ⟨_, _, _, h4⟩ := hO
      rcases h4 with ⟨vs, ds', ed, hp, _⟩ | ⟨_, _, _, _, _, ⟨em, ed⟩, _⟩
      · subst ed
        exact k'.elim
      · have ex : p = x := by rw [em, l1.me, hme]
        subst ex ed
        exact k' g2 H2 E2.gok E2.stp rv
    | rt d => exact k.elim
    | bk ρ => exact k.elim
    | ct ρ => exact k.elim
end
/-! ### {'a': .., ..}: a new changing object -/
def mergeKD (kds more : List (Key × D)) : List (Key × D) := more.foldl (fun acc kv => putKD acc kv.1 kv.2) kds
def sItems : List (Str × SE) → DEnv → M (List (Key × D))
  | [], _ => fun S => .ok [] S
  | (x, a) :: r, ρ => fun S => (a ρ S).then fun d S1 => (sItems r ρ S1).then fun ds S2 => .ok ((Sum.inr x, d) :: ds) S2
def sDict (items : List (Str × SE)) : SE := fun ρ S => (sItems items ρ S).then fun kds S' => if kds.length ≤ 15 then .ok (.mref S'.length) (S' ++ [.k (mergeKD [] kds)]) else .bad
section
variable {K : PySem.W.Frag} {mg : Str → Option Value} {g : Gh}
theorem KReps.merge : ∀ {more : List (Key × V)} {rs : List (Key × D)} {kvs : List (Key × V)} {vs : List (Key × D)}, KReps K mg g more rs → KReps K mg g kvs vs → KReps K mg g (mergeK kvs more) (mergeKD vs rs) := by
  intro more rs kvs vs r
  induction r generalizing kvs vs with
  | nil => exact fun q => q
  | cons h _ ih => exact fun q => ih (q.put h)
/-- a new changing object -/
theorem GOk.newM {H : Hp} {S : Sto} (G : GOk K mg g H S) {p : Addr} {o0 o : HO} {m : MO} (hp : H p = some o0) (hF : g.F p = none) (hA : p ∉ g.as) (r : MOk K mg g p o m) : GOk K mg ⟨g.F, g.as ++ [p], g.me⟩ (upd H p o) (S ++ [m]) := by
  have la : ∀ (i : Nat) (a : Addr), g.as[i]? = some a → (g.as ++ [p])[i]? = some a := fun i a h => by
    have := (List.getElem?_eq_some_iff.mp h).1
    rw [List.getElem?_append_left this]; exact h
  have up : ∀ {a : Addr} {o : HO} {m : MO}, MOk K mg g a o m → MOk K mg ⟨g.F, g.as ++ [p], g.me⟩ a o m := fun r => r.mono0 (g := g) (g' := ⟨g.F, g.as ++ [p], g.me⟩) (Same.refl _) la
  refine ⟨fun b u e => ?_, ?_, by simp [G.len], fun a ha => ?_, fun i a e => ?_⟩
  · rw [upd_ne (fun z : b = p => by rw [z, hF] at e; cases e)]; exact G.sub _ _ e
  · rw [List.nodup_append]
    refine ⟨G.nd, by simp, fun a ha b hb => ?_⟩
    have e : b = p := by simpa using hb
    subst e
    exact fun z => hA (z ▸ ha)
  · rcases List.mem_append.mp ha with z | z
    · exact G.nf a z
    · have e : a = p := by simpa using z
      rw [e]; exact .inl hF
  · have e' : (g.as ++ [p])[i]? = some a := e
    by_cases hi : i < g.as.length
    · rw [List.getElem?_append_left hi] at e'
      obtain ⟨kv, kd, h1, h2, h3⟩ := G.st i a e'
      refine ⟨kv, kd, ?_, by rw [List.getElem?_append_left (by rw [G.len]; exact hi)]; exact h2, up h3⟩
      rw [upd_ne (fun z : a = p => hA (z ▸ List.mem_of_getElem? e'))]
      exact h1
    · rw [List.getElem?_append_right (by omega)] at e'
      have hi2 : i - g.as.length = 0 := by
        have := (List.getElem?_eq_some_iff.mp e').1
        simpa using this
      rw [hi2] at e'
      have ea : p = a := by simpa using e'
      subst ea
      refine ⟨o, m, upd_same, ?_, up r⟩
      rw [List.getElem?_append_right (by rw [G.len]; omega), G.len, hi2] <;> rfl
/-- an object that nobody knows yet becomes a changing one -/
theorem stp_newM {H H' : Hp} {S : Sto} {g' : Gh} {p : Addr} {o o' : HO} (hp : H p = none) (s2 : Stp g H g' H') (hA : p ∉ g.as) : Stp g H ⟨g'.F, g'.as ++ [p], g'.me⟩ (upd H' p o') := by
  refine ⟨⟨s2.le.F, fun i a h => ?_, s2.le.me⟩, fun b u e n => ?_, fun b e => ?_, s2.newF, fun a ha => ?_⟩
  · have h' := s2.le.as i a h
    have := (List.getElem?_eq_some_iff.mp h').1
    show (g'.as ++ [p])[i]? = some a
    rw [List.getElem?_append_left this]; exact h'
  · rw [upd_ne (ne_of_none e hp)]; exact s2.keep b u e n
  · rw [upd_ne (fun z : b = p => e (by rw [z]; exact hp))]; exact s2.there b e
  · rcases List.mem_append.mp ha with z | z
    · exact s2.newA a z
    · have e : a = p := by simpa using z
      rw [e]; exact .inr hp
end
/-- the pairs' terms -/
def SimD (X : Cx) (own : List Nat) (pos : Pos) (keys : List (Option Expr)) (vals : List Expr) (items : List (Str × SE)) : Prop := PPs X pos keys vals (items.map fun a => (tC (.str a.1), tE X own a.2))
section
variable {X : Cx} {own : List Nat} {k v : Expr} {ks : List (Option Expr)} {vs : List Expr} {items : List (Str × SE)} {se : SE} {pos : Pos} {x : Str}
theorem simd_nil : SimD X own pos [] [] [] := pps_nil
theorem simd_cons {j : Nat} {kp : Pos} (h : SimE X own v se) (hr : SimD X own pos ks vs items) : SimD X own pos (some (.Constant (.str x) j kp) :: ks) (v :: vs) ((x, se) :: items) := pps_cons pe_str h hr
theorem items_of : ∀ {items : List (Str × SE)} {g0 : Gh} {H0 : Hp} {ρ : DEnv} {σ : L2.St} {g : Gh} {H : Hp} {S S' : Sto} {kds : List (Key × D)} {Q : List (V × V) → Hp → Prop}, EnvOk X.K X.mg g0 H0 own ρ σ g H S → sItems items ρ S = .ok kds S' →
    (∀ kvs g' H', GOk X.K X.mg g' H' S' → Stp g H g' H' → KReps X.K X.mg g' kvs kds → Q (kvs.map fun kv => (kV kv.1, kv.2)) H') → tPairs (items.map fun a => (tC (.str a.1), tE X own a.2)) σ H Q
  | [], g0, H0, ρ, σ, g, H, S, S', kds, Q, E, e, k => by
    cases e
    exact k [] g H E.gok .refl .nil
  | (x, a) :: r, g0, H0, ρ, σ, g, H, S, S', kds, Q, E, e, k => by
    obtain ⟨d, S1, e1, e2⟩ := Res.then_ex e
    obtain ⟨ds, S2, e3, e4⟩ := Res.then_ex e2
    cases e4
    refine ⟨g0, H0, ρ, g, S, E, ?_⟩
    show (a ρ S).post _
    rw [e1]
    intro v g1 H1 G1 s1 r1
    refine items_of (E.step G1 s1) e3 fun kvs g' H' G' s' rr => ?_
    exact k ((Sum.inr x, v) :: kvs) g' H' G' (s1.trans s') (.cons (r1.mono s'.le) rr)
theorem sim_dict {keys : List (Option Expr)} {vals : List Expr} (h : SimD X own pos keys vals items) (hall : keys.all (·.isSome) = true := by rfl) (hl : keys.length = vals.length := by rfl) (h0 : keys ≠ [] := by exact fun z => by cases z) (h15 : keys.length ≤ 15 := by decide) : SimE X own (.Dict keys vals pos) (sDict items) :=
  pe_weak (pe_disp h hall hl h0 h15) fun σ H Q ⟨g0, H0, ρ, g, S, E, q⟩ => by
    obtain ⟨d, S', e1, k⟩ := Res.post_ex q
    obtain ⟨kds, S1, e2, e1⟩ := Res.then_ex e1
    intro p hp
    have E1 := E.step (E.gok.fresh (o := .dK []) hp) (stp_fresh hp)
    refine items_of E1 e2 fun kvs g' H' G' s' r => ?_
    split at e1
    · rename_i hz
      cases e1
      have hpa : p ∉ g.as := E.gok.notin hp
      have hp' : H' p = some (.dK []) := s'.keep _ _ upd_same hpa
      have hF : g'.F p = none := (s'.stay upd_same (E.gok.nfree hp) hpa fun _ z => nomatch z).1
      have hA : p ∉ g'.as := fun z => (s'.newA p z).elim hpa fun z => by rw [upd_same] at z; cases z
      have klen : kvs.length = kds.length := r.len
      refine ⟨hp', kvs, rfl, by rw [klen]; exact hz, ?_⟩
      have G2 := G'.newM hp' hF hA (.k (r.merge .nil))
      refine k _ _ _ G2 ?_ (.mref ?_)
      · have s2 := (stp_fresh (g := g) (o := .dK []) hp).trans s'
        refine ⟨⟨s2.le.F, fun i a h => ?_, s2.le.me⟩, fun b u e n => ?_, fun b e => ?_, s2.newF, fun a ha => ?_⟩
        · have h' := s2.le.as i a h
          have := (List.getElem?_eq_some_iff.mp h').1
          show (g'.as ++ [p])[i]? = some a
          rw [List.getElem?_append_left this]; exact h'
        · rw [upd_ne (ne_of_none e hp)]; exact s2.keep b u e n
        · rw [upd_ne (fun z : b = p => e (by rw [z]; exact hp))]; exact s2.there b e
        · rcases List.mem_append.mp ha with z | z
          · exact s2.newA a z
          · have e : a = p := by simpa using z
            rw [e]; exact .inr hp
      · show (g'.as ++ [p])[S1.length]? = some p
        rw [List.getElem?_append_right (by rw [G'.len]; exact Nat.le_refl _), G'.len] <;> simp
    · cases e1
end
end Ev
namespace Ev
open PySem PySem.Spec PyProof.Rows L2
/-! ### any of a tuple of ints -/
theorem truth_intsE {prog : Program} {w : World} {A : Around} {ns : List Int} {its : List Value} (e : IntsAre its ns) :
    TruthOf prog w A (fun i v => its.toArray[i]? = some v) (fun i => ns.getD i 0 != 0) := fun i v s Q E hv hq => by
  have hv' : its[i]? = some v := by simpa using hv
  have go : ∀ (its : List Value) (ns : List Int) (i : Nat), IntsAre its ns → its[i]? = some v → ∃ n t, v = .int n t ∧ ns[i]? = some n := by
    intro its
    induction its with
    | nil => intro ns i _ h; cases h
    | cons a r ih =>
      intro ns i h h2
      cases ns with
      | nil => cases h
      | cons n ns =>
        cases i with
        | zero =>
          cases h2
          cases h with
          | cons _ t _ => exact ⟨n, t, rfl, rfl⟩
        | succ i =>
          cases h with
          | cons _ _ h3 => exact ih ns i h3 h2
  obtain ⟨n, t, rfl, hn⟩ := go _ _ _ e hv'
  have hg : (ns.getD i 0 != 0) = (n != 0) := by rw [List.getD_eq_getElem?_getD, hn] <;> rfl
  have hq' : Q (ns.getD i 0 != 0) s := hq
  rw [hg] at hq'
  exact truthy_int hq'
theorem any_rangeI : ∀ ns : List Int, (List.range ns.length).any (fun i => ns.getD i 0 != 0) = ns.any (· != 0)
  | [] => rfl
  | b :: bs => by
    rw [List.length_cons, List.range_succ_eq_map, List.any_cons, List.any_map, List.any_cons, ← any_rangeI bs]
    all_goals rfl
def rAnyT (K : PySem.W.Frag) : List V → Hp → VK → Prop := fun vs H Q => ∃ (a : Addr) (ns : List Int), vs = [V.ref a] ∧ SqT K H a (ns.map V.int) ∧ Q (.bl (ns.any (· != 0))) H
section
variable {X : Cx}
theorem cr_anyT (hc : X.calm = true) : CallR X (.builtin "any") (rAnyT X.K) := by
  intro pins s σ H vs us Q I r h
  obtain ⟨a, ns, rfl, hs, q⟩ := h
  obtain ⟨its, rv, hl, _⟩ := I.tuple hs
  rw [Vals.ref1 r]
  have hi := rv.ints
  have hlen : its.length = ns.length := by rw [← rv.length, List.length_map]
  have hlt : a < s.heap.objs.size := by obtain ⟨_, e, _⟩ := hl; exact Heap.lt_size e
  have hne : a ≠ s.heap.objs.size := Nat.ne_of_lt hlt
  have hl2 : IsTup (s.heap.push { cls := .type "tuple_iterator", data := .fields #[.ref a, .int 0 0] }) a its.toArray := by
    obtain ⟨o, ho, hc, n, hd⟩ := hl
    exact ⟨o, Heap.get?_push_of_some _ ho, hc, n, hd⟩
  refine call_any_walk (iter_tuple hl ?_)
  refine ⟨_, _, _, _, _, _, _, rfl, Walks.tuple (A := X.A.in1) (I.ok.hd hc) _ a hne its.toArray, ⟨⟨_, Heap.get?_push_size _ rfl, rfl, rfl⟩, hl2⟩, truth_intsE hi, fun h' tk hk => ?_⟩
  refine ⟨.bl _, H, I.kept fun b o eo => hk b o (fun hmem => ?_) (Heap.get?_push_of_some _ eo), ?_, q⟩
  · rcases List.mem_cons.mp hmem with e1 | hmem
    · exact absurd (e1 ▸ Heap.lt_size eo) (Nat.lt_irrefl _)
    · cases hmem
  · show Value.bool _ = Value.bool _
    rw [← any_rangeI, List.size_toArray, hlen]
/-! ### is True, is False, of any value -/
def rIsBX : R2 := fun x y H Q => ∃ b : Bool, y = .bl b ∧ Q (.bl (match x with
  | .bl a => decide (a = b)
  | _ => false)) H
def rNotBX : R2 := fun x y H Q => ∃ b : Bool, y = .bl b ∧ Q (.bl (!(match x with
  | .bl a => decide (a = b)
  | _ => false))) H
theorem op_isBX : OpR X (compareOp .Is) rIsBX := by
  intro pins s σ H x y v u Q I rx ry h
  obtain ⟨b, rfl, q⟩ := h
  cases (show u = Value.bool b from ry)
  cases x with
  | bl a =>
    cases (show v = Value.bool a from rx)
    by_cases e : a = b
    · subst e
      exact wpAny_is_self rfl ⟨.bl true, H, I, rfl, by simpa using q⟩
    · exact wpAny_is_other rfl (fun z => e (Value.bool.inj z)) ⟨.bl false, H, I, rfl, by simpa [e] using q⟩
  | ref a => cases rx; exact wpAny_is_other rfl (fun z => nomatch z) ⟨.bl false, H, I, rfl, q⟩
  | non => cases rx; exact wpAny_is_other rfl (fun z => nomatch z) ⟨.bl false, H, I, rfl, q⟩
  | int i => obtain ⟨t, rfl⟩ := rx; exact wpAny_is_other rfl (fun z => nomatch z) ⟨.bl false, H, I, rfl, q⟩
  | str x => obtain ⟨t, rfl⟩ := rx; exact wpAny_is_other rfl (fun z => nomatch z) ⟨.bl false, H, I, rfl, q⟩
  | byt x => obtain ⟨t, rfl⟩ := rx; exact wpAny_is_other rfl (fun z => nomatch z) ⟨.bl false, H, I, rfl, q⟩
  | flt x => obtain ⟨t, rfl⟩ := rx; exact wpAny_is_other rfl (fun z => nomatch z) ⟨.bl false, H, I, rfl, q⟩
  | ty n => cases rx; exact wpAny_is_other rfl (fun z => nomatch z) ⟨.bl false, H, I, rfl, q⟩
theorem op_notBX : OpR X (compareOp .IsNot) rNotBX := by
  intro pins s σ H x y v u Q I rx ry h
  obtain ⟨b, rfl, q⟩ := h
  cases (show u = Value.bool b from ry)
  cases x with
  | bl a =>
    cases (show v = Value.bool a from rx)
    by_cases e : a = b
    · subst e
      exact wpAny_isNot_self rfl ⟨.bl false, H, I, rfl, by simpa using q⟩
    · exact wpAny_isNot_other rfl (fun z => e (Value.bool.inj z)) ⟨.bl true, H, I, rfl, by simpa [e] using q⟩
  | ref a => cases rx; exact wpAny_isNot_other rfl (fun z => nomatch z) ⟨.bl true, H, I, rfl, q⟩
  | non => cases rx; exact wpAny_isNot_other rfl (fun z => nomatch z) ⟨.bl true, H, I, rfl, q⟩
  | int i => obtain ⟨t, rfl⟩ := rx; exact wpAny_isNot_other rfl (fun z => nomatch z) ⟨.bl true, H, I, rfl, q⟩
  | str x => obtain ⟨t, rfl⟩ := rx; exact wpAny_isNot_other rfl (fun z => nomatch z) ⟨.bl true, H, I, rfl, q⟩
  | byt x => obtain ⟨t, rfl⟩ := rx; exact wpAny_isNot_other rfl (fun z => nomatch z) ⟨.bl true, H, I, rfl, q⟩
  | flt x => obtain ⟨t, rfl⟩ := rx; exact wpAny_isNot_other rfl (fun z => nomatch z) ⟨.bl true, H, I, rfl, q⟩
  | ty n => cases rx; exact wpAny_isNot_other rfl (fun z => nomatch z) ⟨.bl true, H, I, rfl, q⟩
def dIsBX (neg : Bool) (x y : D) : Option D := match y with
  | .bl b => some (.bl (match x with
    | .bl a => if neg then !decide (a = b) else decide (a = b)
    | _ => neg))
  | _ => none
theorem rep_blX {g : Gh} {H : Hp} {x : V} {d : D} (r : RepR X.K X.mg g H x d) (b : Bool) : (match x with
  | .bl a => decide (a = b)
  | _ => false) = (match d with
  | .bl a => decide (a = b)
  | _ => false) := by
  rcases r with r | ⟨p, vs, ds, rfl, rfl, _⟩
  · cases r <;> rfl
  · rfl
theorem op2_isBX : Op2 X (dIsBX false) rIsBX := by
  intro g H S x y a b d Q G ra rb e k
  unfold dIsBX at e
  split at e
  · cases e
    cases rb.bl
    refine ⟨_, rfl, k _ g H G .refl ?_⟩
    rw [rep_blX ra]
    cases a <;> exact .bl _
  · cases e
theorem op2_notBX : Op2 X (dIsBX true) rNotBX := by
  intro g H S x y a b d Q G ra rb e k
  unfold dIsBX at e
  split at e
  · cases e
    cases rb.bl
    refine ⟨_, rfl, k _ g H G .refl ?_⟩
    rw [rep_blX ra]
    cases a <;> exact .bl _
  · cases e
/-! ### t * 1 -/
theorem tuple_mul1 (l : Addr) (items : Array Value) (n : Nat) (dd : Option Addr) (sl : Array (Option Value)) (u : Tok) :
    Meets (Builtin.«tuple.__mul__» ⟨[.ref l, .int 1 u], []⟩) (fun _ R s => s.heap.get? l = some { cls := .type "tuple", dict := dd, data := .seq items n, slots := sl } ∧ R (.ok (.ret (Value.ref l))) s) :=
  .of_wp fun prog w A R s h => by
    obtain ⟨hp, g, d, tk, os⟩ := s
    obtain ⟨hl, h⟩ := h
    have f1 := AutoSeq1.idx_int
    have c1 : (items.isEmpty || (1 : Int) == 1) = true := by simp
    wp_walk using wpAny_loadPart' hl
    repeat (first
      | (refine wpAny_ite_true (decide_eq_true c1) ?_; wp_walk using wpAny_loadPart' hl)
      | (refine wpAny_ite_true (decide_eq_true rfl) ?_; wp_walk using wpAny_loadPart' hl))
    exact ⟨_, rfl, h⟩
def rRepT1 (K : PySem.W.Frag) : R2 := fun x y H Q => ∃ l xs, x = .ref l ∧ y = .int 1 ∧ SqT K H l xs ∧ Q (.ref l) H
theorem op_repT1 : OpR X (binaryOp .Mult) (rRepT1 X.K) := by
  intro pins s σ H x y v u Q I rx ry h
  obtain ⟨l, xs, rfl, rfl, hT, q⟩ := h
  cases rx
  obtain ⟨t, rfl⟩ := ry
  obtain ⟨its, r, ⟨⟨cls, dd, data, sl⟩, ho, hc, n, hd⟩, hs⟩ := I.tuple hT
  simp only at hc hd
  subst hc hd
  refine wpAny_binaryOp_repeat_ref (T := "tuple") (U := "int") (by decide) ⟨_, ho, rfl⟩ (fun s' => typeIs_int s' 1 t) noFill_tuple_mul F.fills_int_mul F.slot_int_rmul repeat_tuple F.slot_int_index.lookup
    (call_meets F.slot_int_rmul (typeIs_int s 1 t) F.entry_int_rmul (F.args_int_rmul_2 _ _) (int_rmul_tuple 1 t l its.toArray n dd sl)
      ⟨ho, rfl, ⟨_, ho, rfl⟩, call_meets F.slot_tuple_mul ⟨_, ho, rfl⟩ F.entry_tuple_mul (F.args_tuple_mul_2 _ _) (tuple_mul1 l its.toArray n dd sl t) ⟨ho, ?_⟩⟩)
  exact ⟨.ref l, H, I, rfl, q⟩
end
end Ev
namespace Ev
open PySem PySem.Spec PyProof.Rows L2
/-! ### operators that give a new list -/
def OpF2 (X : Cx) (f : D → D → Option D) (r : R2) : Prop := ∀ (g : Gh) (H : Hp) (S : Sto) (x y : V) (a b d : D) (Q : VK), GOk X.K X.mg g H S → RepR X.K X.mg g H x a → RepR X.K X.mg g H y b → f a b = some d →
  ∃ es, d = .lst es ∧ ((∀ p vs, H p = none → Reps X.K X.mg g vs es → Q (.ref p) (upd H p (.lst vs))) → r x y H Q)
def dRepF : D → D → Option D
  | .lst xs, .int k => if rpOk xs.length k then some (.lst (List.replicate k.toNat xs).flatten) else none
  | _, _ => none
def dCatF : D → D → Option D
  | .lst xs, .lst ys => if xs.length + ys.length ≤ sizeLine then some (.lst (xs ++ ys)) else none
  | _, _ => none
def dMulA : D → D → Option D
  | .int i, .int j => if cMul i j then some (.int (i * j)) else none
  | .lst xs, .int k => if rpOk xs.length k then some (.lst (List.replicate k.toNat xs).flatten) else none
  | .tup xs, .int k => if k = 1 then some (.tup xs) else if xs ≠ [] ∧ 2 ≤ k ∧ k ≤ 1000 ∧ xs.length ≤ 1000 then some (.tup (List.replicate k.toNat xs).flatten) else none
  | _, _ => none
section
variable {X : Cx} {own : List Nat} {e a b : Expr} {es : List Expr} {se sa sb : SE} {pos p2 apos : Pos}
theorem opF2_rep : OpF2 X dRepF rRep := by
  intro g H S x y a b d Q G ra rb e
  unfold dRepF at e
  split at e
  · split at e
    · rename_i hz
      replace hz := rpOk_ok hz
      cases e
      refine ⟨_, rfl, fun k => ?_⟩
      cases rb.int
      obtain ⟨p, vs, rfl, hp, rs⟩ := ra.lst G
      have e63 : (2 : Int) ^ 63 = 9223372036854775808 := by decide
      exact ⟨p, _, vs, rfl, rfl, hp, by rw [e63]; exact hz.1, by rw [e63]; exact hz.2.1, by rw [rs.length]; exact hz.2.2, fun l hl => k l _ hl (rs.rep _)⟩
    · cases e
  · cases e
theorem opF2_cat : OpF2 X dCatF rCat := by
  intro g H S x y a b d Q G ra rb e
  unfold dCatF at e
  split at e
  · split at e
    · rename_i hz
      cases e
      refine ⟨_, rfl, fun k => ?_⟩
      obtain ⟨p, vs, rfl, hp, rs⟩ := ra.lst G
      obtain ⟨q, ws, rfl, hq, rt⟩ := rb.lst G
      exact ⟨p, q, vs, ws, rfl, rfl, hp, hq, by rw [rs.length, rt.length]; exact hz, fun l hl => k l _ hl (rs.append rt)⟩
    · cases e
  · cases e
theorem twoF_of {f : D → D → Option D} {r : R2} (hf : OpF2 X f r) {σ : L2.St} {H : Hp} {Q : VK} (h : tF X own (sOp2 f sa sb) σ H Q) : tOp r (tR X own sa) (tR X own sb) σ H Q := by
  obtain ⟨g0, H0, ρ, g, S, E, q⟩ := h
  obtain ⟨d, S', e1, k⟩ := Res.post_ex q
  obtain ⟨x, S1, e2, e1⟩ := Res.then_ex e1
  obtain ⟨y, S2, e3, e1⟩ := Res.then_ex e1
  obtain ⟨e4, rfl⟩ := optR_ex e1
  refine ⟨g0, H0, ρ, g, S, E, ?_⟩
  rw [e2]
  intro v g1 H1 G1 s1 r1
  refine ⟨g0, H0, ρ, g1, S1, E.step G1 s1, ?_⟩
  rw [e3]
  intro v2 g2 H2 G2 s2 r2
  obtain ⟨es, ed, kr⟩ := hf g2 H2 S2 v v2 x y d Q G2 (r1.step s2) r2 e4
  obtain ⟨es', ed', k⟩ := k
  rw [ed] at ed'
  cases ed'
  exact kr fun p vs hp rs => fresh_end G2 (s1.trans s2) hp rs k
theorem simf_op {op : Operator} {f : D → D → Option D} {r : R2} (ho : OpR X (binaryOp op) r) (hf : OpF2 X f r) (ha : SimR X own a sa) (hb : SimR X own b sb) : SimF X own (.BinOp a op b pos) (sOp2 f sa sb) :=
  pe_weak (pe_op ho ha hb) fun _ _ _ h => twoF_of hf h
theorem opl_f {f : D → D → Option D} (hf : ∀ a b d, f a b = some d → ∃ ds, d = .lst ds) {ρ : DEnv} {S S' : Sto} {d : D} (e : sOp2 f sa sb ρ S = .ok d S') : ∃ ds, d = .lst ds := by
  obtain ⟨x, S1, _, e1⟩ := Res.then_ex e
  obtain ⟨y, S2, _, e1⟩ := Res.then_ex e1
  obtain ⟨e4, _⟩ := optR_ex e1
  exact hf _ _ _ e4
theorem rep_l {a b d : D} (e : dRepF a b = some d) : ∃ ds, d = .lst ds := by
  unfold dRepF at e
  split at e
  · split at e
    · cases e; exact ⟨_, rfl⟩
    · cases e
  · cases e
theorem cat_l {a b d : D} (e : dCatF a b = some d) : ∃ ds, d = .lst ds := by
  unfold dCatF at e
  split at e
  · split at e
    · cases e; exact ⟨_, rfl⟩
    · cases e
  · cases e
theorem callL {f : List D → Option D} {sas : List (Bool × SE)} (hf : ∀ ds d, f ds = some d → ∃ es, d = .lst es) {ρ : DEnv} {S S' : Sto} {d : D} (e : sCallN f sas ρ S = .ok d S') : ∃ ds, d = .lst ds := by
  obtain ⟨ds, S1, _, e1⟩ := Res.then_ex e
  obtain ⟨e4, _⟩ := optR_ex e1
  exact hf _ _ e4
theorem lstOf_l {ds : List D} {d : D} (e : dLstOf ds = some d) : ∃ es, d = .lst es := by
  unfold dLstOf at e
  split at e <;> first | (cases e; exact ⟨_, rfl⟩) | cases e
theorem op2_mulA : Op2 X dMulA (fun x y H Q => (rI CMul (fun i j => .int (i * j)) x y H Q ∨ rRep x y H Q) ∨ (rRepT X.K x y H Q ∨ rRepT1 X.K x y H Q)) := by
  intro g H S x y a b d Q G ra rb e k
  unfold dMulA at e
  split at e
  · split at e
    · cases e
      cases ra.int
      cases rb.int
      exact .inl (.inl ⟨_, _, rfl, rfl, cMul_ok (by assumption), k _ g H G .refl (.int _)⟩)
    · cases e
  · split at e
    · rename_i hz
      replace hz := rpOk_ok hz
      cases e
      cases rb.int
      obtain ⟨p, vs, rfl, hp, rs⟩ := ra.lst G
      have e63 : (2 : Int) ^ 63 = 9223372036854775808 := by decide
      refine .inl (.inr ⟨p, _, vs, rfl, rfl, hp, by rw [e63]; exact hz.1, by rw [e63]; exact hz.2.1, by rw [rs.length]; exact hz.2.2, fun l hl => ?_⟩)
      exact k _ _ _ (G.add hl) (stp_add G hl) (.newL G hl (rs.rep _))
    · cases e
  · cases rb.int
    have f1 := ra.rep (fun _ e => nomatch e)
    obtain ⟨p, vs, rfl, hp, rs⟩ := ra.tup G
    split at e
    · rename_i hk
      cases e
      subst hk
      exact .inr (.inr ⟨p, vs, rfl, rfl, SqT.of hp, k _ g H G .refl f1⟩)
    · split at e
      · rename_i hz
        cases e
        refine .inr (.inl ⟨p, _, vs, rfl, rfl, SqT.of hp, fun z => ?_, hz.2.1, hz.2.2.1, by rw [rs.length]; exact hz.2.2.2, fun l hl => ?_⟩)
        · subst z
          cases rs
          exact hz.1 rfl
        · exact k _ _ _ (G.add hl) (stp_add G hl) (.newT G hl (rs.rep _))
      · cases e
  · cases e
theorem opr_mulA : OpR X (binaryOp .Mult) (fun x y H Q => (rI CMul (fun i j => .int (i * j)) x y H Q ∨ rRep x y H Q) ∨ (rRepT X.K x y H Q ∨ rRepT1 X.K x y H Q)) := (op_mul.or op_rep).or (op_repT.or op_repT1)
/-- any of bools in a list, of ints in a tuple -/
def dAnyA : List D → Option D
  | [.lst xs] => (blsD xs).map fun ns => .bl (ns.any id)
  | [.tup xs] => (intsD xs).map fun ns => .bl (ns.any (· != 0))
  | _ => none
theorem opN_anyA : OpN X dAnyA (fun xs H Q => rAny X.K xs H Q ∨ rAnyT X.K xs H Q) := by
  intro g H S xs ds d Q G r e k
  unfold dAnyA at e
  split at e
  · rename_i ys
    cases q : blsD ys with
    | none => rw [q] at e; cases e
    | some ns =>
      rw [q] at e
      cases e
      obtain ⟨x, rfl, h⟩ := rr1 r
      obtain ⟨p, vs, rfl, hp, rs⟩ := h.lst G
      cases bls_of rs q
      exact .inl ⟨p, ns, rfl, SqL.of hp, k _ g H G .refl (.bl _)⟩
  · rename_i ys
    cases q : intsD ys with
    | none => rw [q] at e; cases e
    | some ns =>
      rw [q] at e
      cases e
      obtain ⟨x, rfl, h⟩ := rr1 r
      obtain ⟨p, vs, rfl, hp, rs⟩ := h.tup G
      cases ints_of rs q
      exact .inr ⟨p, ns, rfl, SqT.of hp, k _ g H G .refl (.bl _)⟩
  · cases e
theorem call_anyA (hc : X.calm = true) : CallR X (.builtin "any") (fun xs H Q => rAny X.K xs H Q ∨ rAnyT X.K xs H Q) := (cr_any hc).or (cr_anyT hc)
/-! ### methods of texts with one argument -/
theorem sim_sm1 {f : D → D → Option D} {r : V → List V → Hp → VK → Prop} (hpe : ∀ {ta tb : TE}, PE X a ta → PE X b tb → PE X e (tM1 r ta tb)) (hf : Op2 X f fun x y H Q => r x [y] H Q) (hs : ∀ x y d, f x y = some d → ∃ z, x = .str z) (ha : SimR X own a sa) (hb : SimR X own b sb) : SimE X own e (sOp2 f sa sb) :=
  pe_weak (hpe ha hb) fun σ H Q h => by
    obtain ⟨g0, H0, ρ, g, S, E, q⟩ := h
    obtain ⟨d, S', e1, k⟩ := Res.post_ex q
    obtain ⟨x, S1, e2, e1⟩ := Res.then_ex e1
    obtain ⟨y, S2, e3, e1⟩ := Res.then_ex e1
    obtain ⟨e4, rfl⟩ := optR_ex e1
    obtain ⟨z, rfl⟩ := hs _ _ _ e4
    refine ⟨g0, H0, ρ, g, S, E, ?_⟩
    rw [e2]
    intro v g1 H1 G1 s1 r1
    cases r1.str
    refine ⟨⟨_, rfl⟩, g0, H0, ρ, g1, S1, E.step G1 s1, ?_⟩
    rw [e3]
    intro v2 g2 H2 G2 s2 r2
    exact hf g2 H2 S2 _ v2 _ y d Q G2 (r1.step s2) r2 e4 fun v3 g3 H3 G3 s3 r3 => k v3 g3 H3 G3 ((s1.trans s2).trans s3) r3
def strsD : List D → Option (List Str)
  | [] => some []
  | .str i :: r => (strsD r).map (i :: ·)
  | _ => none
theorem strs_ofD {K : PySem.W.Frag} {mg : Str → Option Value} {g : Gh} : ∀ {ds : List D} {vs : List V} {ns : List Str}, Reps K mg g vs ds → strsD ds = some ns → vs = ns.map V.str
  | [], _, _, .nil, e => by cases (show some ([] : List Str) = some _ from e); rfl
  | .str i :: ds, _, ns, .cons h r, e => by
    cases h
    have e' : (strsD ds).map (i :: ·) = some ns := e
    cases q : strsD ds with
    | none => rw [q] at e'; cases e'
    | some ms => rw [q] at e'; cases e'; rw [strs_ofD r q] <;> rfl
  | .non :: _, _, _, _, e => by cases (show (none : Option (List Str)) = some _ from e)
  | .bl _ :: _, _, _, _, e => by cases (show (none : Option (List Str)) = some _ from e)
  | .int _ :: _, _, _, _, e => by cases (show (none : Option (List Str)) = some _ from e)
  | .tup _ :: _, _, _, _, e => by cases (show (none : Option (List Str)) = some _ from e)
  | .lst _ :: _, _, _, _, e => by cases (show (none : Option (List Str)) = some _ from e)
  | .obj _ _ :: _, _, _, _, e => by cases (show (none : Option (List Str)) = some _ from e)
  | .mref _ :: _, _, _, _, e => by cases (show (none : Option (List Str)) = some _ from e)
  | .scr _ :: _, _, _, _, e => by cases (show (none : Option (List Str)) = some _ from e)
@[simp] theorem strsD_map (ns : List Str) : strsD (ns.map .str) = some ns := by
  induction ns with
  | nil => rfl
  | cons n r ih =>
    show (strsD (r.map .str)).map (n :: ·) = _
    rw [ih] <;> rfl
def joinS (a : Str) (ys : List Str) : Option D := if (ys.map (·.length)).sum + ys.length * a.length ≤ 16777216 then some (.str (Txt.join a ys)) else none
def dJoin : D → D → Option D
  | .str a, .lst xs => (strsD xs).bind (joinS a)
  | .str a, .tup xs => (strsD xs).bind (joinS a)
  | _, _ => none
theorem join_str : ∀ x y d, dJoin x y = some d → ∃ z, x = .str z := by
  intro x y d e
  unfold dJoin at e
  split at e
  · exact ⟨_, rfl⟩
  · exact ⟨_, rfl⟩
  · cases e
theorem op2_join : Op2 X dJoin (fun x y H Q => ∃ a p, ∃ ys : List Str, x = .str a ∧ [y] = [.ref p] ∧ (SqL X.K H p (ys.map V.str) ∨ SqT X.K H p (ys.map V.str)) ∧ (ys.map (·.length)).sum + ys.length * a.length ≤ 16777216 ∧ Q (.str (Txt.join a ys)) H) := by
  intro g H S x y a b d Q G ra rb e k
  unfold dJoin at e
  split at e
  · rename_i z xs
    cases q : strsD xs with
    | none => rw [q] at e; cases e
    | some ys =>
      rw [q] at e
      have e' : joinS z ys = some d := e
      unfold joinS at e'
      split at e'
      · rename_i hz
        cases e'
        cases ra.str
        obtain ⟨p, vs, rfl, hp, rs⟩ := rb.lst G
        cases strs_ofD rs q
        exact ⟨z, p, ys, rfl, rfl, .inl (SqL.of hp), hz, k _ g H G .refl (.str _)⟩
      · cases e'
  · rename_i z xs
    cases q : strsD xs with
    | none => rw [q] at e; cases e
    | some ys =>
      rw [q] at e
      have e' : joinS z ys = some d := e
      unfold joinS at e'
      split at e'
      · rename_i hz
        cases e'
        cases ra.str
        obtain ⟨p, vs, rfl, hp, rs⟩ := rb.tup G
        cases strs_ofD rs q
        exact ⟨z, p, ys, rfl, rfl, .inr (SqT.of hp), hz, k _ g H G .refl (.str _)⟩
      · cases e'
  · cases e
end
/-! ### sorted -/
def isTupC : PyData → Bool
  | .tuple (_ :: _) => true
  | _ => false
def isOth : PyData → Bool
  | .none => false
  | .tuple _ => false
  | _ => true
def sortOk (ps : List PyData) : Bool := (ps.all fun a => ps.all fun b => PySem.W.alike a b) && (ps.all isTupC || ps.all isOth) && ps.all fun p => decide (p.depth ≤ 60)
theorem sortOk_al {ps : List PyData} (h : sortOk ps = true) : PySem.W.AllAlike ps ∧ PySem.W.Sortable ps ∧ ∀ p ∈ ps, p.depth ≤ 60 := by
  unfold sortOk at h
  rw [Bool.and_eq_true, Bool.and_eq_true, Bool.or_eq_true] at h
  obtain ⟨⟨h1, h2⟩, h3⟩ := h
  refine ⟨fun d hd d' hd' => List.all_eq_true.mp (List.all_eq_true.mp h1 d hd) d' hd', ?_, fun p hp => of_decide_eq_true (List.all_eq_true.mp h3 p hp)⟩
  rcases h2 with h2 | h2
  · refine .inl fun d hd => ?_
    have := List.all_eq_true.mp h2 d hd
    unfold isTupC at this
    split at this
    · exact ⟨_, _, rfl⟩
    · cases this
  · refine .inr fun d hd => ?_
    have := List.all_eq_true.mp h2 d hd
    unfold isOth at this
    split at this
    · cases this
    · cases this
    · exact ⟨by assumption, by assumption⟩
def rSortedD (K : PySem.W.Frag) : List V → Hp → VK → Prop := fun vs H Q => ∃ (a : Addr) (L : List (V × PyData)), vs = [V.ref a] ∧ SqL K H a (L.map (·.1)) ∧ (∀ x ∈ L, Dp K H x.1 x.2) ∧ sortOk (L.map (·.2)) = true ∧
  ∀ p, H p = none → Q (.ref p) (upd H p (.lst ((L.mergeSort (PySem.W.dataLe false (·.2))).map (·.1))))
theorem vals_each {R : Value → V × PyData → Prop} : ∀ {L : List (V × PyData)} {its : List Value}, Vals (L.map (·.1)) its → (∀ x ∈ L, ∀ u, RelV x.1 u → R u x) → PySem.W.EachIs R its L
  | [], its, r, h => by
    cases r
    exact .nil
  | x :: L, its, r, h => by
    cases r with
    | cons r1 r2 => exact .cons (h x List.mem_cons_self _ r1) (vals_each r2 fun y hy => h y (List.mem_cons_of_mem _ hy))
theorem each_vals : ∀ {L : List (V × PyData)} {its : List Value}, PySem.W.EachIs (fun u x => RelV x.1 u) its L → Vals (L.map (·.1)) its
  | [], _, .nil => .nil
  | _ :: _, _, .cons h r => .cons h (each_vals r)
section
variable {X : Cx}
theorem cr_sortedD (hu : X.A.units + 62 < cLine) : CallR X (.builtin "sorted") (rSortedD X.K) := by
  intro pins s σ H vs us Q I r h
  obtain ⟨a, L, rfl, hs, hd, ok, q⟩ := h
  obtain ⟨its, rv, hl, hz⟩ := I.list hs
  rw [Vals.ref1 r]
  obtain ⟨h1, h2, h3⟩ := sortOk_al ok
  rw [List.length_map] at hz
  refine PySem.W.sorted_data (bs := L) (enc := (·.2)) (R := fun u x => RelV x.1 u) hl.isList (vals_each rv fun x _ u h => h) (vals_each rv fun x hx u h => Dp.reads I _ _ _ (hd x hx) h) h1 h2 hz (fun b hb => ?_) fun out ho eo => ?_
  · have := h3 b.2 (List.mem_map.mpr ⟨b, hb, rfl⟩)
    omega
  · obtain ⟨ep, he'⟩ := PyProof.Rows.sortedAll_at s.heap its out.toArray
    have hlen : ((L.mergeSort (PySem.W.dataLe false (·.2))).map (·.1)).length ≤ sizeLine := by
      rw [List.length_map, List.length_mergeSort]
      exact hz
    exact ⟨.ref _, upd H (s.heap.objs.size + 1) (.lst ((L.mergeSort (PySem.W.dataLe false (·.2))).map (·.1))), I.laid (t' := s.toks) (fun _ _ => PyProof.Rows.sortedAll_old) (Nat.le_succ _) ⟨hlen, out, ep, each_vals eo, he'⟩, rfl, q _ (I.hok.fresh (Nat.le_succ _))⟩
def sortD (xs : List D) (ps : List PyData) : List D := ((xs.zip ps).mergeSort (PySem.W.dataLe false (·.2))).map (·.1)
def dSorted : List D → Option D
  | [.lst xs] => (pyAll xs).bind fun ps => if sortOk ps then some (.lst (sortD xs ps)) else none
  | _ => none
theorem sorted_l {ds : List D} {d : D} (e : dSorted ds = some d) : ∃ es, d = .lst es := by
  unfold dSorted at e
  split at e
  · rename_i xs
    cases q : pyAll xs with
    | none => rw [q] at e; cases e
    | some ps =>
      rw [q] at e
      have e' : (if sortOk ps then some (D.lst (sortD xs ps)) else none) = some d := e
      split at e'
      · cases e'; exact ⟨_, rfl⟩
      · cases e'
  · cases e
theorem zip_each {g : Gh} {H : Hp} (hs : Same g.F H) : ∀ {vs : List V} {ds : List D} {ps : List PyData}, Reps X.K X.mg g vs ds → pyAll ds = some ps →
    PySem.W.EachIs (fun (x : V × PyData) (y : D × PyData) => Rep X.K X.mg g x.1 y.1 ∧ x.2 = y.2 ∧ Dp X.K H x.1 x.2) (vs.zip ps) (ds.zip ps) ∧ vs.length = ps.length
  | _, _, ps, .nil, e => by cases (show some ([] : List PyData) = some _ from e); exact ⟨.nil, rfl⟩
  | _, _, xs, .cons (d := d) (ds := ds) h r, e => by
    have e' : (match d.py, pyAll ds with
      | some x, some xs => some (x :: xs)
      | _, _ => none) = some xs := e
    cases q : d.py with
    | none => rw [q] at e'; cases e'
    | some x => cases q2 : pyAll ds with
      | none => rw [q, q2] at e'; cases e'
      | some ys =>
        rw [q, q2] at e'
        cases e'
        obtain ⟨h1, h2⟩ := zip_each hs r q2
        exact ⟨.cons ⟨h, rfl, dp_of hs h q⟩ h1, congrArg (· + 1) h2⟩
theorem each_reps {g : Gh} {H : Hp} : ∀ {L : List (V × PyData)} {M : List (D × PyData)}, PySem.W.EachIs (fun (x : V × PyData) (y : D × PyData) => Rep X.K X.mg g x.1 y.1 ∧ x.2 = y.2 ∧ Dp X.K H x.1 x.2) L M → Reps X.K X.mg g (L.map (·.1)) (M.map (·.1)) ∧ (∀ x ∈ L, Dp X.K H x.1 x.2) ∧ L.map (·.2) = M.map (·.2)
  | _, _, .nil => ⟨.nil, fun x h => by (cases h), rfl⟩
  | _, _, .cons h r => by
    obtain ⟨h1, h2, h3⟩ := each_reps r
    refine ⟨.cons h.1 h1, fun x hx => ?_, by rw [List.map_cons, List.map_cons, h3, h.2.1]⟩
    rcases List.mem_cons.mp hx with rfl | hx
    · exact h.2.2
    · exact h2 x hx
theorem each_in {α β : Type} {R : α → β → Prop} : ∀ {as : List α} {bs : List β}, PySem.W.EachIs R as bs → ∀ p ∈ as.zip bs, R p.1 p.2
  | _, _, h, p, hp => h.zip p hp
theorem opF_sorted : OpF X dSorted (rSortedD X.K) := by
  intro g H S xs ds d Q G r e
  unfold dSorted at e
  split at e
  · rename_i ys
    cases q : pyAll ys with
    | none => rw [q] at e; cases e
    | some ps =>
      rw [q] at e
      have e' : (if sortOk ps then some (D.lst (sortD ys ps)) else none) = some d := e
      split at e'
      · rename_i ok
        cases e'
        refine ⟨_, rfl, fun k => ?_⟩
        obtain ⟨x, rfl, h⟩ := rr1 r
        obtain ⟨p, vs, rfl, hp, rs⟩ := h.lst G
        obtain ⟨ze, hl⟩ := zip_each G.sub rs q
        obtain ⟨_, hdp, _⟩ := each_reps ze
        have hsnd : (vs.zip ps).map (·.2) = ps := List.map_snd_zip (Nat.le_of_eq hl.symm)
        refine ⟨p, vs.zip ps, rfl, ?_, hdp, by rw [hsnd]; exact ok, fun l hl' => ?_⟩
        · have : (vs.zip ps).map (·.1) = vs := List.map_fst_zip (Nat.le_of_eq hl)
          rw [this]
          exact SqL.of hp
        · have ze2 := PySem.W.sort_each (r := PySem.W.dataLe false (·.2)) (s := PySem.W.dataLe false (·.2)) ze fun a ha b hb => by
            have h1 := (each_in ze a ha).2.1
            have h2 := (each_in ze b hb).2.1
            show PySem.W.dataLe false (fun x : V × PyData => x.2) a.1 b.1 = PySem.W.dataLe false (fun x : D × PyData => x.2) a.2 b.2
            unfold PySem.W.dataLe
            unfold PySem.W.sortLe
            simp only [h1, h2]
          exact k l _ hl' (each_reps ze2).1
      · cases e'
  · cases e
end
end Ev
namespace Ev
open PySem PySem.Spec PyProof.Rows L2
/-! ### walks over lists, tuples, texts -/
def iSeq (K : PySem.W.Frag) (tl : TE) : TI := fun σ H R => tl σ H fun x H1 => (∃ a, x = .ref a ∧ (∃ xs, SqL K H1 a xs) ∧ R (Itl K a) H1) ∨ (∃ a, x = .ref a ∧ (∃ xs, SqT K H1 a xs) ∧ R (Itt K a) H1) ∨ ∃ z, x = .str z ∧ R (Its z) H1
theorem pi_seq {X : Cx} {tg l : Expr} {tl : TE} (hl : PE X l tl) : PI X tg l (iSeq X.K tl) := by
  refine ⟨fun pins s σ H R I h => ?_⟩
  refine thn (hl.run pins s σ H _ I h) fun v s1 ⟨x, H1, I1, r1, q1⟩ => ?_
  rcases q1 with ⟨a, e, ⟨xs, hq⟩, q⟩ | ⟨a, e, ⟨xs, hq⟩, q⟩ | ⟨z, e, q⟩
  · subst e
    cases r1
    obtain ⟨its, rv, p, hz⟩ := I1.list hq
    refine wpAny_pyIter_list p.isList ?_
    refine ⟨s1.heap.objs.size, [s1.heap.objs.size], _, _, H1, rfl, I1.kept (t' := s1.toks) fun b o e => Heap.get?_push_of_some _ e, turn_list a _, ⟨_, Heap.get?_push_size _ rfl, rfl, rfl⟩, fun b hb => ?_, q⟩
    have e : b = s1.heap.objs.size := by simpa using hb
    subst e
    exact I1.fpOk (Nat.le_refl _) (I1.hok.fresh (Nat.le_refl _))
  · subst e
    cases r1
    obtain ⟨its, rv, p, hz⟩ := I1.tuple hq
    refine wpAny_pyIter_tuple (show s1.heap.IsTuple a its.toArray from p) ?_
    refine ⟨s1.heap.objs.size, [s1.heap.objs.size], _, _, H1, rfl, I1.kept (t' := s1.toks) fun b o e => Heap.get?_push_of_some _ e, turn_tuple a _, ⟨_, Heap.get?_push_size _ rfl, rfl, rfl⟩, fun b hb => ?_, q⟩
    have e : b = s1.heap.objs.size := by simpa using hb
    subst e
    exact I1.fpOk (Nat.le_refl _) (I1.hok.fresh (Nat.le_refl _))
  · subst e
    obtain ⟨t, rfl⟩ := r1
    cases ha : z.cps.all (· < 128)
    · exact wpAny_pyIter_wide ha (pi_one (tk := s1.toks) I1 _ (turn_str _ z t "str_iterator" (.inr rfl)) ⟨_, Heap.get?_push_size _ rfl, rfl, rfl⟩ q)
    · exact wpAny_pyIter_ascii ha (pi_one (tk := s1.toks) I1 _ (turn_str _ z t "str_ascii_iterator" (.inl rfl)) ⟨_, Heap.get?_push_size _ rfl, rfl, rfl⟩ q)
def signsD (z : Str) : List D := z.cps.toList.map fun c => .str ⟨#[c]⟩
section
variable {X : Cx} {own own' ob : List Nat} {e a b c : Expr} {es : List Expr} {se sa sb sc : SE} {pos p p2 : Pos}
theorem wk_str {g1 : Gh} {z : Str} : Wk X (Its z) (signsD z) g1 := fun g H S G l i => by
  unfold signsD
  refine ⟨fun d hd => ?_, fun e => by rw [List.length_map] at e; show z.cps.size ≤ i; rw [← e]; simp⟩
  rw [List.getElem?_map] at hd
  cases q : z.cps.toList[i]? with
  | none => rw [q] at hd; cases hd
  | some k =>
    rw [q] at hd
    cases hd
    have q' : z.cps[i]? = some k := by simpa using q
    have hlt : i < z.cps.size := (Array.getElem?_eq_some_iff.mp q').1
    refine ⟨hlt, fun x H' ⟨e, c, hc, hx⟩ => ?_⟩
    subst e hx
    rw [q'] at hc
    cases hc
    exact ⟨g, G, .refl, .str _⟩
def sItA (se : SE) : SI := fun ρ S => (se ρ S).then fun d S' => match d with
  | .lst xs => .ok xs S'
  | .tup xs => .ok xs S'
  | .scr ns => .ok (ns.map .int) S'
  | .str z => .ok (signsD z) S'
  | _ => .bad
theorem simi_seq {tg : Expr} (h : SimE X own e se) : SimI X own tg e (sItA se) := pi_weak (pi_seq h) fun σ H R ⟨g0, H0, ρ, g, S, E, q⟩ => by
  obtain ⟨ds, S', e1, k⟩ := Res.post_ex q
  obtain ⟨d, S1, e2, e1⟩ := Res.then_ex e1
  refine ⟨g0, H0, ρ, g, S, E, ?_⟩
  rw [e2]
  intro v g1 H1 G1 s1 r1
  cases r1 with
  | lst h r => cases e1; exact .inl ⟨_, rfl, ⟨_, SqL.of (G1.sub _ _ h)⟩, k _ g1 H1 G1 s1 (wk_list h r)⟩
  | scr h => cases e1; exact .inl ⟨_, rfl, ⟨_, G1.sub.seq h⟩, k _ g1 H1 G1 s1 (wk_scr h)⟩
  | tup h r => cases e1; exact .inr (.inl ⟨_, rfl, ⟨_, SqT.of (G1.sub _ _ h)⟩, k _ g1 H1 G1 s1 (wk_tup h r)⟩)
  | str z => cases e1; exact .inr (.inr ⟨_, rfl, k _ g1 H1 G1 s1 wk_str⟩)
  | _ => cases e1
/-! ### short forms -/
theorem v_len (hm : X.mg "len" = none) (ha : SimR X own a sa) (hg : Gl X "len" := by rfl) (he : starEach (a :: []) X.env = (false, eval a X.env) :: starEach [] X.env := by rfl) (hpl : (backTo pos (starEach ([] : List Expr) X.env)).any (·.1) = false := by rfl) : SimE X own (.Call (.Name "len" p) [a] [] pos) (sCallN dLen [(false, sa)]) := sim_callB call_len opN_len hg hm boot_len (simr_cons ha simr_nil he) (by decide) (by decide) he hpl
theorem v_any (hm : X.mg "any" = none) (ha : SimR X own a sa) (hc : X.calm = true := by rfl) (hg : Gl X "any" := by rfl) (he : starEach (a :: []) X.env = (false, eval a X.env) :: starEach [] X.env := by rfl) (hpl : (backTo pos (starEach ([] : List Expr) X.env)).any (·.1) = false := by rfl) : SimE X own (.Call (.Name "any" p) [a] [] pos) (sCallN dAnyA [(false, sa)]) := sim_callB (call_anyA hc) opN_anyA hg hm (by decide +kernel) (simr_cons ha simr_nil he) (by decide) (by decide) he hpl
theorem v_all (hm : X.mg "all" = none) (ha : SimR X own a sa) (hc : X.calm = true := by rfl) (hg : Gl X "all" := by rfl) (he : starEach (a :: []) X.env = (false, eval a X.env) :: starEach [] X.env := by rfl) (hpl : (backTo pos (starEach ([] : List Expr) X.env)).any (·.1) = false := by rfl) : SimE X own (.Call (.Name "all" p) [a] [] pos) (sCallN dAll [(false, sa)]) := sim_callB (cr_all hc) opN_all hg hm (by decide +kernel) (simr_cons ha simr_nil he) (by decide) (by decide) he hpl
theorem v_sum (hm : X.mg "sum" = none) (ha : SimR X own a sa) (hc : X.calm = true := by rfl) (hg : Gl X "sum" := by rfl) (he : starEach (a :: []) X.env = (false, eval a X.env) :: starEach [] X.env := by rfl) (hpl : (backTo pos (starEach ([] : List Expr) X.env)).any (·.1) = false := by rfl) : SimE X own (.Call (.Name "sum" p) [a] [] pos) (sCallN dSum [(false, sa)]) := sim_callB (cr_sum hc) opN_sum hg hm (by decide +kernel) (simr_cons ha simr_nil he) (by decide) (by decide) he hpl
theorem v_max1 (hm : X.mg "max" = none) (ha : SimR X own a sa) (hc : X.calm = true := by rfl) (hg : Gl X "max" := by rfl) (he : starEach (a :: []) X.env = (false, eval a X.env) :: starEach [] X.env := by rfl) (hpl : (backTo pos (starEach ([] : List Expr) X.env)).any (·.1) = false := by rfl) : SimE X own (.Call (.Name "max" p) [a] [] pos) (sCallN dMax [(false, sa)]) := sim_callB (call_maxA hc) opN_max hg hm (by decide +kernel) (simr_cons ha simr_nil he) (by decide) (by decide) he hpl
theorem v_min1 (hm : X.mg "min" = none) (ha : SimR X own a sa) (hc : X.calm = true := by rfl) (hg : Gl X "min" := by rfl) (he : starEach (a :: []) X.env = (false, eval a X.env) :: starEach [] X.env := by rfl) (hpl : (backTo pos (starEach ([] : List Expr) X.env)).any (·.1) = false := by rfl) : SimE X own (.Call (.Name "min" p) [a] [] pos) (sCallN dMin [(false, sa)]) := sim_callB (call_minA hc) opN_min hg hm (by decide +kernel) (simr_cons ha simr_nil he) (by decide) (by decide) he hpl
theorem v_max2 (hm : X.mg "max" = none) (ha : SimR X own a sa) (hb : SimR X own b sb) (hc : X.calm = true := by rfl) (hg : Gl X "max" := by rfl) (he : starEach (a :: [b]) X.env = (false, eval a X.env) :: starEach [b] X.env := by rfl) (he2 : starEach (b :: []) X.env = (false, eval b X.env) :: starEach [] X.env := by rfl) (hpl : (backTo pos (starEach [b] X.env)).any (·.1) = false := by rfl) : SimE X own (.Call (.Name "max" p) [a, b] [] pos) (sCallN dMax [(false, sa), (false, sb)]) := sim_callB (call_maxA hc) opN_max hg hm (by decide +kernel) (simr_cons ha (simr_cons hb simr_nil he2) he) (by decide) (by decide) he hpl
theorem v_min2 (hm : X.mg "min" = none) (ha : SimR X own a sa) (hb : SimR X own b sb) (hc : X.calm = true := by rfl) (hg : Gl X "min" := by rfl) (he : starEach (a :: [b]) X.env = (false, eval a X.env) :: starEach [b] X.env := by rfl) (he2 : starEach (b :: []) X.env = (false, eval b X.env) :: starEach [] X.env := by rfl) (hpl : (backTo pos (starEach [b] X.env)).any (·.1) = false := by rfl) : SimE X own (.Call (.Name "min" p) [a, b] [] pos) (sCallN dMin [(false, sa), (false, sb)]) := sim_callB (call_minA hc) opN_min hg hm (by decide +kernel) (simr_cons ha (simr_cons hb simr_nil he2) he) (by decide) (by decide) he hpl
theorem v_int (hm : X.mg "int" = none) (ha : SimR X own a sa) (hg : Gl X "int" := by rfl) (he : starEach (a :: []) X.env = (false, eval a X.env) :: starEach [] X.env := by rfl) (hpl : (backTo pos (starEach ([] : List Expr) X.env)).any (·.1) = false := by rfl) : SimE X own (.Call (.Name "int" p) [a] [] pos) (sCallN dIntOf [(false, sa)]) := sim_callTy call_int1 opN_int hg hm boot_int (simr_cons ha simr_nil he) (by decide) (by decide) he hpl
theorem v_str (hm : X.mg "str" = none) (ha : SimR X own a sa) (hg : Gl X "str" := by rfl) (he : starEach (a :: []) X.env = (false, eval a X.env) :: starEach [] X.env := by rfl) (hpl : (backTo pos (starEach ([] : List Expr) X.env)).any (·.1) = false := by rfl) : SimE X own (.Call (.Name "str" p) [a] [] pos) (sCallN dStrOf [(false, sa)]) := sim_callTy call_str_int opN_str hg hm boot_str (simr_cons ha simr_nil he) (by decide) (by decide) he hpl
theorem v_tup (hm : X.mg "tuple" = none) (ha : SimR X own a sa) (hg : Gl X "tuple" := by rfl) (he : starEach (a :: []) X.env = (false, eval a X.env) :: starEach [] X.env := by rfl) (hpl : (backTo pos (starEach ([] : List Expr) X.env)).any (·.1) = false := by rfl) : SimE X own (.Call (.Name "tuple" p) [a] [] pos) (sCallN dTupOf [(false, sa)]) := sim_callTy call_tuple_of opN_tup hg hm boot_tuple (simr_cons ha simr_nil he) (by decide) (by decide) he hpl
theorem f_lst (hm : X.mg "list" = none) (ha : SimR X own a sa) (hg : Gl X "list" := by rfl) (he : starEach (a :: []) X.env = (false, eval a X.env) :: starEach [] X.env := by rfl) (hpl : (backTo pos (starEach ([] : List Expr) X.env)).any (·.1) = false := by rfl) : SimF X own (.Call (.Name "list" p) [a] [] pos) (sCallN dLstOf [(false, sa)]) := simf_callTy call_list_of opF_lst hg hm boot_list (simr_cons ha simr_nil he) (by decide) (by decide) he hpl
theorem f_sorted {k : Nat} (hr : Room k X.A) (hm : X.mg "sorted" = none) (ha : SimR X own a sa) (hg : Gl X "sorted" := by rfl) (he : starEach (a :: []) X.env = (false, eval a X.env) :: starEach [] X.env := by rfl) (hpl : (backTo pos (starEach ([] : List Expr) X.env)).any (·.1) = false := by rfl) : SimF X own (.Call (.Name "sorted" p) [a] [] pos) (sCallN dSorted [(false, sa)]) := simf_callB (cr_sortedD (by have := hr.un; omega)) opF_sorted hg hm (by decide +kernel) (simr_cons ha simr_nil he) (by decide) (by decide) he hpl
theorem v_join {apos : Pos} (ha : SimR X own a sa) (hb : SimR X own b sb) (hs : starEach [b] X.env = [(false, eval b X.env)] := by rfl) (hbase : attributeBase a "join" X.env (eval a X.env) = eval a X.env := by rfl) (hline : (apos.endLine == pos.line) = true := by rfl) : SimE X own (.Call (.Attribute a "join" apos) [b] [] pos) (sOp2 dJoin sa sb) :=
  sim_sm1 (fun h1 h2 => pe_join h1 h2 hs hbase hline) op2_join join_str ha hb
theorem v_add (ha : SimR X own a sa) (hb : SimR X own b sb) : SimE X own (.BinOp a .Add b pos) (sOp2 dAdd sa sb) := sim_op opr_add op2_add ha hb
theorem v_sub (ha : SimR X own a sa) (hb : SimR X own b sb) : SimE X own (.BinOp a .Sub b pos) (sOp2 dSub sa sb) := sim_op op_sub op2_sub ha hb
theorem v_mul (ha : SimR X own a sa) (hb : SimR X own b sb) : SimE X own (.BinOp a .Mult b pos) (sOp2 dMulA sa sb) := sim_op opr_mulA op2_mulA ha hb
theorem v_fdiv (ha : SimR X own a sa) (hb : SimR X own b sb) : SimE X own (.BinOp a .FloorDiv b pos) (sOp2 dFdiv sa sb) := sim_op op_fdivN op2_fdiv ha hb
theorem v_mod (ha : SimR X own a sa) (hb : SimR X own b sb) : SimE X own (.BinOp a .Mod b pos) (sOp2 dMod sa sb) := sim_op op_modN op2_mod ha hb
theorem v_pow (ha : SimR X own a sa) (hb : SimR X own b sb) : SimE X own (.BinOp a .Pow b pos) (sOp2 dPow sa sb) := sim_op op_pow op2_pow ha hb
theorem v_neg (ha : SimR X own a sa) : SimE X own (.UnaryOp .USub a pos) (sOp1 dNeg sa) := sim_un un_neg op1_neg ha
theorem f_rep (ha : SimR X own a sa) (hb : SimR X own b sb) : SimF X own (.BinOp a .Mult b pos) (sOp2 dRepF sa sb) := simf_op op_rep opF2_rep ha hb
theorem f_cat (ha : SimR X own a sa) (hb : SimR X own b sb) : SimF X own (.BinOp a .Add b pos) (sOp2 dCatF sa sb) := simf_op op_cat opF2_cat ha hb
end
/-- what gives a new list -/
class IsL (se : SE) : Prop where
  l : ∀ ρ S d S', se ρ S = .ok d S' → ∃ ds, d = .lst ds
instance {sas : List (Bool × SE)} : IsL (sLst sas) := ⟨fun _ _ _ _ e => sLst_lst e⟩
instance {vs : List Nat} {si : SI} {sg : SG} {st : SB} {se : SE} : IsL (sComp vs si sg st se) := ⟨fun _ _ _ _ e => sComp_lst e⟩
instance {sa sb : SE} : IsL (sOp2 dRepF sa sb) := ⟨fun _ _ _ _ e => opl_f (fun _ _ _ h => rep_l h) e⟩
instance {sa sb : SE} : IsL (sOp2 dCatF sa sb) := ⟨fun _ _ _ _ e => opl_f (fun _ _ _ h => cat_l h) e⟩
instance {sas : List (Bool × SE)} : IsL (sCallN dLstOf sas) := ⟨fun _ _ _ _ e => callL (fun _ _ h => lstOf_l h) e⟩
instance {sas : List (Bool × SE)} : IsL (sCallN dSorted sas) := ⟨fun _ _ _ _ e => callL (fun _ _ h => sorted_l h) e⟩
section
variable {X : Cx} {own own' ob : List Nat} {e : Expr} {se : SE}
theorem SimF.ee [i : IsL se] (h : SimF X own e se) : SimE X own e se := h.ev i.l
theorem SimF.rr [i : IsL se] (h : SimF X own e se) : SimR X own e se := h.r i.l
theorem SimF.xx [i : IsL se] (h : SimF X own e se) : SimX X true own e se := SimF.x h i.l
end
end Ev
namespace Ev
open PySem PySem.Spec PyProof.Rows L2
/-! ### calls that only look at lists of the body's own -/
mutual
def noM : D → Bool
  | .mref _ => false
  | .tup xs => noMs xs
  | .lst xs => noMs xs
  | .obj _ fs => noMf fs
  | _ => true
def noMs : List D → Bool
  | [] => true
  | d :: ds => noM d && noMs ds
def noMf : List (Str × D) → Bool
  | [] => true
  | (_, d) :: ds => noM d && noMf ds
end
def flatD : D → Bool
  | .non => true
  | .bl _ => true
  | .int _ => true
  | .str _ => true
  | _ => false
section
variable {K : PySem.W.Frag} {mg : Str → Option Value} {g g' : Gh} {H H' : Hp} {S S' : Sto}
mutual
theorem Rep.noM (lF : Same g.F g'.F) : ∀ {v : V} {d : D}, Rep K mg g v d → noM d = true → Rep K mg g' v d
  | _, _, .non, _ => .non
  | _, _, .bl b, _ => .bl b
  | _, _, .int i, _ => .int i
  | _, _, .str x, _ => .str x
  | _, _, .tup (ds := ds) h r, e => .tup (lF _ _ h) (Reps.noM lF r (show noMs ds = true from e))
  | _, _, .lst (ds := ds) h r, e => .lst (lF _ _ h) (Reps.noM lF r (show noMs ds = true from e))
  | _, _, .obj (fs := fs) m h h2 r, e => .obj m (lF _ _ h) (lF _ _ h2) (FReps.noM lF r (show noMf fs = true from e))
  | _, _, .mref (i := i) h, e => by cases (show false = true from e)
  | _, _, .scr h, _ => .scr (lF.seq h)
theorem Reps.noM (lF : Same g.F g'.F) : ∀ {vs : List V} {ds : List D}, Reps K mg g vs ds → noMs ds = true → Reps K mg g' vs ds
  | _, _, .nil, _ => .nil
  | _, _, .cons (d := d) (ds := ds) h r, e => by
    have e' : (Ev.noM d && noMs ds) = true := e
    rw [Bool.and_eq_true] at e'
    exact .cons (Rep.noM lF h e'.1) (Reps.noM lF r e'.2)
theorem FReps.noM (lF : Same g.F g'.F) : ∀ {vs : List (Str × V)} {ds : List (Str × D)}, FReps K mg g vs ds → noMf ds = true → FReps K mg g' vs ds
  | _, _, .nil, _ => .nil
  | _, _, .cons (d := d) (ds := ds) (x := x) h r, e => by
    have e' : (Ev.noM d && noMf ds) = true := e
    rw [Bool.and_eq_true] at e'
    exact .cons (Rep.noM lF h e'.1) (FReps.noM lF r e'.2)
end
theorem whole (G : GOk K mg g H S) : ∀ {vs : List V} {ds : List D}, RepRs K mg g H vs ds → noMs ds = true → Reps K mg ⟨H, [], g.me⟩ vs ds
  | _, _, .nil, _ => .nil
  | _, _, .cons (d := d) (ds := ds) h r, e => by
    have e' : (Ev.noM d && noMs ds) = true := e
    rw [Bool.and_eq_true] at e'
    refine .cons ?_ (whole G r e'.2)
    rcases h with h | ⟨p, vs', ds', rfl, rfl, hp, _, r'⟩
    · exact Rep.noM (g' := ⟨H, [], g.me⟩) G.sub h e'.1
    · exact .lst hp (Reps.noM (g' := ⟨H, [], g.me⟩) G.sub r' (show noMs ds' = true from e'.1))
theorem GOk.whole : GOk K mg ⟨H, [], g.me⟩ H [] := ⟨Same.refl _, List.nodup_nil, rfl, fun _ h => (by cases h), fun i a h => by simp at h⟩
theorem GOk.keepAll (G : GOk K mg g H S) (k : ∀ a o, H a = some o → H' a = some o) : GOk K mg g H' S :=
  ⟨fun a o h => k a o (G.sub a o h), G.nd, G.len, G.nf, fun i a h => by
    obtain ⟨kvs, kds, h1, h2, h3⟩ := G.st i a h
    exact ⟨kvs, kds, k _ _ h1, h2, h3⟩⟩
theorem flat_rep {v : V} {d : D} (r : Rep K mg g v d) (f : flatD d = true) : Rep K mg g' v d := by
  cases r with
  | non => exact .non
  | bl b => exact .bl b
  | int i => exact .int i
  | str x => exact .str x
  | _ => cases f
end
def sCallL (m : List D → M D) (sas : List (Bool × SE)) : SE := fun ρ S => (sArgs sas ρ S).then fun ds S1 => if noMs ds then (match m ds [] with
  | .ok d [] => if flatD d then .ok d S1 else .bad
  | _ => .bad) else .bad
section
variable {X : Cx} {own : List Nat} {e : Expr} {es : List Expr} {se : SE} {sas : List (Bool × SE)} {pos p : Pos} {x : Str} {m : List D → M D} {n k : Nat}
theorem sim_callL (F : GF X.prog X.w X.K X.mg X.base k x n m) (hr : Room k X.A) (hg : Gl X x) (ha : SimAR X own (e :: es) sas) (hn : sas.length = n := by rfl) (hst : (sas.all fun a => !a.1) = true := by rfl) (hdb : (x == ("__debug__" : Str)) = false := by decide)
    (he : starEach (e :: es) X.env = (false, eval e X.env) :: starEach es X.env := by rfl) (hpl : (backTo pos (starEach es X.env)).any (·.1) = false := by rfl) : SimE X own (.Call (.Name x p) (e :: es) [] pos) (sCallL m sas) := by
  obtain ⟨f, fd, ps, hm, hk, hb, F⟩ := F.ex
  refine pe_weak (pe_call F hr hg hm hk hb .nil pass0 ha hdb he hpl) fun σ H Q ⟨g0, H0, ρ, g, S, E, q⟩ => ?_
  obtain ⟨d, S', e1, k⟩ := Res.post_ex q
  obtain ⟨ds, S1, e2, e1⟩ := Res.then_ex e1
  refine ⟨g0, H0, ρ, g, S, E, ?_⟩
  have hl := sArgs_len hst e2
  rw [e2]
  intro vs g1 H1 G1 s1 r1
  rw [List.append_nil]
  split at e1
  · rename_i hno
    split at e1
    · rename_i d1 em
      split at e1
      · rename_i hf
        cases e1
        refine ⟨⟨H1, [], g1.me⟩, ds, [], GOk.whole, whole G1 r1 hno, by rw [hl, hn], ?_⟩
        rw [em]
        intro v g2 H2 G2 s2 r2
        have kp : ∀ a o, H1 a = some o → H2 a = some o := fun a o h => s2.keep a o h (by simp)
        refine k v g1 H2 (G1.keepAll kp) (s1.trans ⟨.refl _, fun a o h _ => kp a o h, s2.there, fun _ h => .inl h, fun _ h => .inl h⟩) (flat_rep r2 hf)
      · cases e1
    · cases e1
  · cases e1
end
/-! ### a def that never answers here -/
section
variable {P : Program} {w : World} {K : PySem.W.Frag} {mg : Str → Option Value} {base : Heap}
theorem gf_bad {x qual : Str} {st : Stmt} {f : Addr} {fd : FuncData} {N ps : List Str} {k n : Nat} (F : FunD K x qual (defArgs st) (defBody st) (defScope st) [] [] f fd) {y : Str} (hm : mg y = some (.ref f)) (Sc : FnScope N ps (defScope st)) (hn : ps.length = n)
    (hb : ∀ (kV doc pm : Value) (an : Option Addr) (cdv ct : Value) (us : List Value), us.length = ps.length → bindArgs (PySem.W.fnOf x qual (defArgs st) (defBody st) (defScope st) .none kV doc pm an cdv ct) ⟨us, []⟩ = pure (ps.zip us)) :
    GF P w K mg base k y n (fun _ _ => .bad) := by
  refine ⟨f, fd, ps, hm, F.kp, F.bindsN hb, ⟨fun vs H Q E h => ?_, fun A outer s H args us vs Q E hr => ?_⟩⟩
  · obtain ⟨g, ds, S, G, r, hl, q⟩ := h
    exact q.elim
  · intros
    rename_i h
    obtain ⟨g, ds, S, G, r, hl, q⟩ := h
    exact q.elim
/-- the law's own def -/
theorem fo_of {x qual : Str} {st : Stmt} {f : Addr} {fd : FuncData} {N ps : List Str} {k n : Nat} {b : SS} (F : FunD K x qual (defArgs st) (defBody st) (defScope st) [] [] f fd) (Sc : FnScope N ps (defScope st)) (hn : ps.length = n) (hN : n ≤ N.length)
    (body : ∀ (cdv : Value) (A : Around) (outer : List Env) (s : Shared) (H : Hp) (E : XK), Room k (A.deeper (envOfC qual (defScope st) s.heap.objs.size f cdv)) → SimB (Ctx P w K mg base N qual (defScope st) f cdv A outer s H E) [] [] [] (defBody st) b) :
    FnOk P w K mg base CX0 (k + 1) f fd ps (spOf K mg n (runD N.length b)) := by
  refine F.ok Sc (fun vs H Q E h => ?_) (fun cdv A outer s H vs Q E hr h => ⟨_, PSs.nox (body cdv A outer s H E hr), ?_⟩)
  · obtain ⟨g, ds, S, G, r, hl, _⟩ := h
    rw [r.length, hl, hn]
  · obtain ⟨g, ds, S, G, r, hl, q⟩ := h
    refine ⟨g, H, _, g, S, env_start (N := N) G r (by rw [hl]; exact hN), ?_⟩
    have q' : (runD N.length b ds S).post _ := q
    unfold runD outD at q'
    refine Res.post_mono (Res.post_then.mp q') fun o S' k => ?_
    cases o with
    | nx ρ => exact fun σ g1 H1 l1 E1 => k _ g1 H1 E1.gok E1.stp .non
    | rt d => exact fun v g1 H1 G1 s1 r1 => k v g1 H1 G1 s1 r1
    | bk ρ => exact k.elim
    | ct ρ => exact k.elim
/-- what the law's def is asked at its start -/
theorem start_law {m : List D → M D} {a : Addr} {ns : List Int} {H : Hp} {E : XK} (hS : SqL K H a (ns.map V.int)) {S' : Sto} (h : m [.scr ns] [] = .ok (.bl true) S') : spOf K mg 1 m [.ref a] H (fun v _ => v = .bl true) E :=
  ⟨⟨H, [], 0⟩, [.scr ns], [], GOk.whole (g := ⟨H, [], 0⟩), .one (.scr hS), rfl, by rw [h]; intro v g' H' G s r; cases r; rfl⟩
end
end Ev
namespace Ev
open PySem PySem.Spec PyProof.Rows L2
/-! ### running mirrors: what simp unfolds -/
theorem then_congr {α β : Type} {r r' : Res α} {k : α → Sto → Res β} (h : r = r') : r.then k = r'.then k := by rw [h]
theorem post_congr {α : Type} {r r' : Res α} {P : α → Sto → Prop} (h : r = r') : r.post P = r'.post P := by rw [h]
def vEl : Option (Option D) → Sto → Res D
  | some (some d), S => .ok d S
  | _, _ => .bad
@[simp] theorem vEl_some (d : D) (S : Sto) : vEl (some (some d)) S = .ok d S := rfl
def vElR : Option (Option D) → Sto → Res D
  | some (some d), S => if noObj d then .ok d S else .bad
  | _, _ => .bad
@[simp] theorem vElR_lst (ds : List D) (S : Sto) : vElR (some (some (.lst ds))) S = .ok (.lst ds) S := rfl
section
variable (ρ : DEnv) (S : Sto) (i j l : Nat) (d : D) (f f' : D → D → Option D) (f1 : D → Option D) (fn : List D → Option D) (sa sb sc se so sk sv : SE) (ba bb st : SB) (ss tt uu : SS) (sas : List (Bool × SE)) (m : List D → M D) (sm : SM) (sg : SG) (gs : List SG) (si : SI)
@[simp] theorem e_var : sVar i ρ S = vEl ρ[i]? S := by
  unfold sVar
  cases ρ[i]? with
  | none => rfl
  | some o => cases o <;> rfl
@[simp] theorem e_varR : sVarR i ρ S = vElR ρ[i]? S := by
  unfold sVarR
  cases ρ[i]? with
  | none => rfl
  | some o => cases o <;> rfl
@[simp] theorem e_c : sC d ρ S = .ok d S := rfl
@[simp] theorem e_op2 : sOp2 f sa sb ρ S = (sa ρ S).then fun x S1 => (sb ρ S1).then fun y S2 => optR (f x y) S2 := rfl
@[simp] theorem e_op1 : sOp1 f1 sa ρ S = (sa ρ S).then fun x S1 => optR (f1 x) S1 := rfl
def rBool : D → Sto → Res Bool
  | .bl b, S => .ok b S
  | _, _ => .bad
@[simp] theorem rBool_bl (b : Bool) : rBool (.bl b) S = .ok b S := rfl
@[simp] theorem e_bool : sBool se ρ S = (se ρ S).then rBool := by
  unfold sBool
  congr 1
  funext d S'
  cases d <;> rfl
def chn (f' : D → D → Option D) (sc : SE) (ρ : DEnv) (y : D) : D → Sto → Res D
  | .bl true, S3 => (sc ρ S3).then fun w S4 => optR (f' y w) S4
  | .bl false, S3 => .ok (.bl false) S3
  | _, _ => .bad
@[simp] theorem chn_bl (y : D) (b : Bool) : chn f' sc ρ y (.bl b) S = if b then (sc ρ S).then fun w S4 => optR (f' y w) S4 else .ok (.bl false) S := by cases b <;> rfl
@[simp] theorem e_chain : sChain f f' sa sb sc ρ S = (sa ρ S).then fun x S1 => (sb ρ S1).then fun y S2 => (optR (f x y) S2).then (chn f' sc ρ y) := by
  unfold sChain
  congr 1
  funext x S1
  congr 1
  funext y S2
  congr 1
  funext z S3
  cases z with
  | bl b => cases b <;> rfl
  | _ => rfl
@[simp] theorem e_tru : sTru se ρ S = (se ρ S).then fun d S' => optR (dTruth d) S' := rfl
@[simp] theorem e_notB : sNotB ba ρ S = (ba ρ S).then fun b S' => .ok (!b) S' := rfl
@[simp] theorem e_andB : sAndB ba bb ρ S = (ba ρ S).then fun b S' => if b then bb ρ S' else .ok false S' := rfl
@[simp] theorem e_orB : sOrB ba bb ρ S = (ba ρ S).then fun b S' => if b then .ok true S' else bb ρ S' := rfl
@[simp] theorem e_andV : sAndV sa sb ρ S = (sBool sa ρ S).then fun b S' => if b then sb ρ S' else .ok (.bl false) S' := rfl
@[simp] theorem e_orV : sOrV sa sb ρ S = (sBool sa ρ S).then fun b S' => if b then .ok (.bl true) S' else sb ρ S' := rfl
@[simp] theorem e_notV : sNotV ba ρ S = (ba ρ S).then fun b S' => .ok (.bl (!b)) S' := rfl
@[simp] theorem e_ifE : sIfE st sa sb ρ S = (st ρ S).then fun c S' => if c then sa ρ S' else sb ρ S' := rfl
@[simp] theorem e_noPart : sNoPart ρ S = .ok none S := rfl
def rPart : D → Sto → Res (Option Int)
  | .int i, S => .ok (some i) S
  | _, _ => .bad
@[simp] theorem rPart_int (i : Int) : rPart (.int i) S = .ok (some i) S := rfl
@[simp] theorem e_part : sPart se ρ S = (se ρ S).then rPart := by
  unfold sPart
  congr 1
  funext d S'
  cases d <;> rfl
def dSlice : D → Option Int → Option Int → Option D
  | .tup xs, lo, hi => some (.tup (cutD xs lo hi))
  | .lst xs, lo, hi => some (.lst (cutD xs lo hi))
  | _, _, _ => none
@[simp] theorem dSlice_tup (xs : List D) (lo hi : Option Int) : dSlice (.tup xs) lo hi = some (.tup (cutD xs lo hi)) := rfl
@[simp] theorem dSlice_lst (xs : List D) (lo hi : Option Int) : dSlice (.lst xs) lo hi = some (.lst (cutD xs lo hi)) := rfl
@[simp] theorem e_slice (sl sh : SO) : sSlice sa sl sh ρ S = (sa ρ S).then fun x S1 => (sl ρ S1).then fun lo S2 => (sh ρ S2).then fun hi S3 => optR (dSlice x lo hi) S3 := by
  unfold sSlice
  congr 1
  funext x S1
  congr 1
  funext lo S2
  congr 1
  funext hi S3
  cases x <;> rfl
@[simp] theorem e_args0 : sArgs [] ρ S = .ok [] S := rfl
@[simp] theorem e_args1 : sArgs ((false, sa) :: sas) ρ S = (sa ρ S).then fun d S1 => (sArgs sas ρ S1).then fun ds S2 => .ok (d :: ds) S2 := rfl
def starD : D → Option (List D)
  | .tup xs => some xs
  | .lst xs => some xs
  | _ => none
@[simp] theorem starD_tup (xs : List D) : starD (.tup xs) = some xs := rfl
@[simp] theorem starD_lst (xs : List D) : starD (.lst xs) = some xs := rfl
@[simp] theorem e_args2 : sArgs ((true, sa) :: sas) ρ S = (sa ρ S).then fun d S1 => (optR (starD d) S1).then fun xs S1 => (sArgs sas ρ S1).then fun ds S2 => .ok (xs ++ ds) S2 := by
  rw [sArgs]
  show (sa ρ S).then _ = (sa ρ S).then _
  congr 1
  funext d S'
  cases d <;> simp [starD]
@[simp] theorem e_tup : sTup sas ρ S = (sArgs sas ρ S).then fun ds S' => if ds.length ≤ sizeLine then .ok (.tup ds) S' else .bad := rfl
@[simp] theorem e_lst : sLst sas ρ S = (sArgs sas ρ S).then fun ds S' => if ds.length ≤ sizeLine then .ok (.lst ds) S' else .bad := rfl
@[simp] theorem e_callN : sCallN fn sas ρ S = (sArgs sas ρ S).then fun ds S' => optR (fn ds) S' := rfl
@[simp] theorem e_isi (Ts : List String) : sIsi Ts sa ρ S = (sa ρ S).then fun d S' => (optR (tyD d) S').then fun t S' => .ok (.bl (Ts.any fun T => isTyS t T)) S' := by
  unfold sIsi
  congr 1
  funext d S'
  cases tyD d <;> rfl
@[simp] theorem e_call : sCall m sas ρ S = (sArgs sas ρ S).then m := rfl
def attrD (cs : List Str) (f : Str) : D → Sto → Res D
  | .obj c fs, S' => if c ∈ cs then optR (fs.lookup f) S' else .bad
  | _, _ => .bad
@[simp] theorem e_attr (cs : List Str) (x : Str) : sAttr cs x se ρ S = (se ρ S).then (attrD cs x) := by
  unfold sAttr
  congr 1
  funext d S'
  cases d <;> rfl
def getD' (o k : D) (S : Sto) : Res D := optR (getO S o k) S
@[simp] theorem e_get : sGet so sk ρ S = (so ρ S).then fun o S1 => (sk ρ S1).then fun k S2 => getD' o k S2 := rfl
@[simp] theorem e_next : sNext ρ S = .ok (.nx ρ) S := rfl
def thenO (t : SS) : Out → Sto → Res Out
  | .nx ρ', S' => t ρ' S'
  | o, S' => .ok o S'
@[simp] theorem thenO_nx (t : SS) : thenO t (.nx ρ) S = t ρ S := rfl
@[simp] theorem thenO_rt (t : SS) : thenO t (.rt d) S = .ok (.rt d) S := rfl
@[simp] theorem thenO_bk (t : SS) : thenO t (.bk ρ) S = .ok (.bk ρ) S := rfl
@[simp] theorem thenO_ct (t : SS) : thenO t (.ct ρ) S = .ok (.ct ρ) S := rfl
@[simp] theorem e_seq : sSeq ss tt ρ S = (ss ρ S).then (thenO tt) := by
  unfold sSeq
  congr 1
  funext o S'
  cases o <;> rfl
@[simp] theorem e_bad : sBad ρ S = .bad := rfl
@[simp] theorem e_break : sBreak ρ S = .ok (.bk ρ) S := rfl
@[simp] theorem e_cont : sCont ρ S = .ok (.ct ρ) S := rfl
@[simp] theorem e_ret : sRet se ρ S = (se ρ S).then fun d S' => .ok (.rt d) S' := rfl
@[simp] theorem e_retN : sRetN ρ S = .ok (.rt .non) S := rfl
@[simp] theorem e_drop : sDrop se ρ S = (se ρ S).then fun _ S' => .ok (.nx ρ) S' := rfl
@[simp] theorem e_ifS : sIfS st ss tt ρ S = (st ρ S).then fun b S' => if b then ss ρ S' else tt ρ S' := rfl
@[simp] theorem e_set : sSet i se ρ S = (se ρ S).then fun d S' => .ok (.nx (ρ.set i (some d))) S' := rfl
@[simp] theorem e_pure : sPure se ρ S = (se ρ S).then fun d S' => .ok (d, ρ) S' := rfl
def mtD (i : Nat) (f : List D → List D → Option (List D × D)) (a : List D) (ρ : DEnv) (S : Sto) : Option (Option D) → Res (D × DEnv)
  | some (some (.lst xs)) => (optR (f xs a) S).then fun yd S => .ok (yd.2, ρ.set i (some (.lst yd.1))) S
  | _ => .bad
@[simp] theorem mtD_lst (f : List D → List D → Option (List D × D)) (a xs : List D) : mtD i f a ρ S (some (some (.lst xs))) = (optR (f xs a) S).then fun yd S => .ok (yd.2, ρ.set i (some (.lst yd.1))) S := rfl
@[simp] theorem isLst_lst (xs : List D) : isLst (some (some (.lst xs))) = true := rfl
@[simp] theorem e_mt1 (f : List D → List D → Option (List D × D)) : mt1 i f sm ρ S = if isLst ρ[i]? then (sm ρ S).then fun dr S' => mtD i f [dr.1] dr.2 S' dr.2[i]? else .bad := by
  unfold mt1
  congr 2
  funext dr S'
  cases dr.2[i]? with
  | none => rfl
  | some o => cases o with
    | none => rfl
    | some d => cases d with
      | lst xs => show (match f xs [dr.1] with
          | some (ys, d) => Res.ok (d, dr.2.set i (some (.lst ys))) S'
          | none => .bad) = (optR (f xs [dr.1]) S').then _
                  cases f xs [dr.1] <;> rfl
      | _ => rfl
@[simp] theorem e_mt0 (f : List D → List D → Option (List D × D)) : mt0 i f ρ S = mtD i f [] ρ S ρ[i]? := by
  unfold mt0
  cases ρ[i]? with
  | none => rfl
  | some o => cases o with
    | none => rfl
    | some d => cases d with
      | lst xs => show (match f xs [] with
          | some (ys, d) => Res.ok (d, ρ.set i (some (.lst ys))) S
          | none => .bad) = (optR (f xs []) S).then _
                  cases f xs [] <;> rfl
      | _ => rfl
@[simp] theorem e_dropM : sDropM sm ρ S = (sm ρ S).then fun dr S' => .ok (.nx dr.2) S' := rfl
@[simp] theorem e_setM : sSetM i sm ρ S = (sm ρ S).then fun dr S' => .ok (.nx (dr.2.set i (some dr.1))) S' := rfl
def setIxD (i : Nat) (ρ : DEnv) (d k : D) (S : Sto) : Option (Option D) → Res Out
  | some (some (.lst xs)) => (match k with
    | .int k => (optR (ixN xs.length k) S).then fun j S => .ok (.nx (ρ.set i (some (.lst (xs.set j d))))) S
    | _ => .bad)
  | _ => .bad
@[simp] theorem setIxD_lst (xs : List D) (k : Int) : setIxD i ρ d (.int k) S (some (some (.lst xs))) = (optR (ixN xs.length k) S).then fun j S => .ok (.nx (ρ.set i (some (.lst (xs.set j d))))) S := rfl
@[simp] theorem e_setIx : sSetIx i sk sv ρ S = (sv ρ S).then fun d S1 => (sk ρ S1).then fun k S2 => setIxD i ρ d k S2 ρ[i]? := by
  unfold sSetIx
  congr 1
  funext d S1
  congr 1
  funext k S2
  cases ρ[i]? with
  | none => rfl
  | some o => cases o with
    | none => rfl
    | some x => cases x with
      | lst xs => cases k with
        | int k => show (match ixN xs.length k with
            | some j => Res.ok (Out.nx (ρ.set i (some (.lst (xs.set j d))))) S2
            | none => .bad) = (optR (ixN xs.length k) S2).then _
                   cases ixN xs.length k <;> rfl
        | _ => rfl
      | _ => cases k <;> rfl
def putD' (ρ : DEnv) (d o k : D) (S3 : Sto) : Res Out := putR ρ (putO S3 o k d)
@[simp] theorem e_put : sPut so sk sv ρ S = (sv ρ S).then fun d S1 => (so ρ S1).then fun o S2 => (sk ρ S2).then fun k S3 => putD' ρ d o k S3 := rfl
@[simp] theorem e_gN : gN i d ρ = some (ρ.set i (some d)) := rfl
@[simp] theorem e_gT (xs : List D) : gT gs (.tup xs) ρ = gAll gs xs ρ := rfl
@[simp] theorem e_gAll0 : gAll [] [] ρ = some ρ := rfl
@[simp] theorem e_gAll1 (ds : List D) : gAll (sg :: gs) (d :: ds) ρ = (sg d ρ).bind (gAll gs ds) := rfl
@[simp] theorem e_asg : sAsg sg se ρ S = (se ρ S).then fun d S' => (optR (sg d ρ) S').then fun ρ' S' => .ok (.nx ρ') S' := by
  unfold sAsg
  congr 1
  funext d S'
  cases sg d ρ <;> rfl
@[simp] theorem e_itR : sItR sas ρ S = (sArgs sas ρ S).then fun ds S' => optR (dRange ds) S' := rfl
def itE : D → Option (List D)
  | .tup xs => some (enumD xs)
  | .lst xs => some (enumD xs)
  | _ => none
@[simp] theorem itE_tup (xs : List D) : itE (.tup xs) = some (enumD xs) := rfl
@[simp] theorem itE_lst (xs : List D) : itE (.lst xs) = some (enumD xs) := rfl
@[simp] theorem e_itE : sItE se ρ S = (se ρ S).then fun d S' => optR (itE d) S' := by
  unfold sItE
  congr 1
  funext d S'
  cases d <;> rfl
def itZ : D → D → Option (List D)
  | .tup xs, .tup ys => some (zipD xs ys)
  | .lst xs, .lst ys => some (zipD xs ys)
  | _, _ => none
@[simp] theorem itZ_tup (xs ys : List D) : itZ (.tup xs) (.tup ys) = some (zipD xs ys) := rfl
@[simp] theorem itZ_lst (xs ys : List D) : itZ (.lst xs) (.lst ys) = some (zipD xs ys) := rfl
@[simp] theorem e_itZ : sItZ sa sb ρ S = (sa ρ S).then fun x S1 => (sb ρ S1).then fun y S2 => optR (itZ x y) S2 := by
  unfold sItZ
  congr 1
  funext x S1
  congr 1
  funext y S2
  cases x <;> cases y <;> rfl
def itA : D → Option (List D)
  | .lst xs => some xs
  | .tup xs => some xs
  | .scr ns => some (ns.map .int)
  | .str z => some (signsD z)
  | _ => none
@[simp] theorem itA_tup (xs : List D) : itA (.tup xs) = some xs := rfl
@[simp] theorem itA_lst (xs : List D) : itA (.lst xs) = some xs := rfl
@[simp] theorem itA_scr (ns : List Int) : itA (.scr ns) = some (ns.map .int) := rfl
@[simp] theorem itA_str (z : Str) : itA (.str z) = some (signsD z) := rfl
@[simp] theorem e_itA : sItA se ρ S = (se ρ S).then fun d S' => optR (itA d) S' := by
  unfold sItA
  congr 1
  funext d S'
  cases d <;> rfl
@[simp] theorem e_for : sFor si sg ss ρ S = (si ρ S).then fun ds S1 => forL (fBody sg ss) ds ρ S1 := rfl
@[simp] theorem e_fBody : fBody sg ss d ρ S = (optR (sg d ρ) S).then fun ρ' S => ss ρ' S := by
  unfold fBody
  cases sg d ρ <;> rfl
@[simp] theorem e_comp (vs : List Nat) : sComp vs si sg st se ρ S = (si ρ S).then fun ds S1 => (compL (cBody sg st se (wipeE ρ vs)) ds S1).then fun ys S2 => if ys.length ≤ sizeLine then .ok (.lst ys) S2 else .bad := rfl
@[simp] theorem e_cBody : cBody sg st se ρ d S = (optR (sg d ρ) S).then fun ρ2 S => (st ρ2 S).then fun b S1 => if b then (se ρ2 S1).then fun y S2 => .ok (some y) S2 else .ok none S1 := by
  unfold cBody
  cases sg d ρ <;> rfl
@[simp] theorem e_yes : sYes ρ S = .ok true S := rfl
@[simp] theorem e_wipe0 : wipeE ρ [] = ρ := rfl
@[simp] theorem e_wipe1 (vs : List Nat) : wipeE ρ (i :: vs) = (wipeE ρ vs).set i none := rfl
@[simp] theorem e_par2 : sPar2 i j sa sb ρ S = (sa ρ S).then fun d1 S1 => (sb ρ S1).then fun d2 S2 => .ok (.nx ((ρ.set i (some d1)).set j (some d2))) S2 := rfl
@[simp] theorem e_par3 : sPar3 i j l sa sb sc ρ S = (sa ρ S).then fun d1 S1 => (sb ρ S1).then fun d2 S2 => (sc ρ S2).then fun d3 S3 => .ok (.nx (((ρ.set i (some d1)).set j (some d2)).set l (some d3))) S3 := rfl
def outE : Out → Sto → Res D
  | .nx _, S => .ok .non S
  | .rt d, S => .ok d S
  | _, _ => .bad
@[simp] theorem outE_nx : outE (.nx ρ) S = .ok .non S := rfl
@[simp] theorem outE_rt : outE (.rt d) S = .ok d S := rfl
@[simp] theorem e_outD (r : Res Out) : outD r = r.then outE := by
  unfold outD
  congr 1
  funext o S'
  cases o <;> rfl
@[simp] theorem e_runD (n : Nat) (b : SS) (ds : List D) : runD n b ds S = (b (ds.map some ++ List.replicate (n - ds.length) none) S).then outE := e_outD _
def fldD (ρ : DEnv) (i : Nat) (cs : List Str) (f : Str) (d : D) (S : Sto) : Option (Option D) → Res Out
  | some (some (.obj c fs)) => if c ∈ cs ∧ fs.length < 1000 then .ok (.nx (ρ.set i (some (.obj c (putD f d fs))))) S else .bad
  | _ => .bad
@[simp] theorem fldD_obj (cs : List Str) (f c : Str) (fs : List (Str × D)) : fldD ρ i cs f d S (some (some (.obj c fs))) = if c ∈ cs ∧ fs.length < 1000 then .ok (.nx (ρ.set i (some (.obj c (putD f d fs))))) S else .bad := rfl
@[simp] theorem e_fldI (cs : List Str) (f : Str) : sFldI i cs f se ρ S = (se ρ S).then fun d S' => fldD ρ i cs f d S' ρ[i]? := by
  unfold sFldI
  congr 1
def outI (c : Str) : Out → Sto → Res D
  | .nx ρ, S' => (match ρ[0]? with
    | some (some (D.obj c fs)) => .ok (.obj c fs) S'
    | _ => .bad)
  | _, _ => .bad
@[simp] theorem outI_nx (c c' : Str) (fs : List (Str × D)) : outI c (.nx (some (.obj c' fs) :: ρ)) S = .ok (.obj c' fs) S := rfl
@[simp] theorem e_runI (n : Nat) (c : Str) (b : SS) (ds : List D) : runI n c b ds S = (b (some (.obj c []) :: (ds.map some ++ List.replicate (n - 1 - ds.length) none)) S).then (outI c) := by
  unfold runI
  congr 1
  funext o S'
  cases o <;> rfl
@[simp] theorem e_items0 : sItems [] ρ S = .ok [] S := rfl
@[simp] theorem e_items1 (x : Str) (r : List (Str × SE)) : sItems ((x, sa) :: r) ρ S = (sa ρ S).then fun d S1 => (sItems r ρ S1).then fun ds S2 => .ok ((Sum.inr x, d) :: ds) S2 := rfl
@[simp] theorem e_dict (items : List (Str × SE)) : sDict items ρ S = (sItems items ρ S).then fun kds S' => if kds.length ≤ 15 then .ok (.mref S'.length) (S' ++ [.k (mergeKD [] kds)]) else .bad := rfl
def lendD : Res D → Sto → Res D
  | .ok d [], S1 => if flatD d then .ok d S1 else .bad
  | _, _ => .bad
@[simp] theorem lendD_ok : lendD (.ok d []) S = if flatD d then .ok d S else .bad := rfl
@[simp] theorem e_callL : sCallL m sas ρ S = (sArgs sas ρ S).then fun ds S1 => if noMs ds then lendD (m ds []) S1 else .bad := by
  unfold sCallL
  congr 1
  funext ds S1
  congr 1
  cases m ds [] with
  | bad => rfl
  | ok d s => cases s <;> rfl
end
/-! ### operations at data -/
section
variable (i j : Int) (a b : D) (xs ys : List D) (x y : Str) (p q : Bool)
@[simp] theorem d_add_int : dAdd (.int i) (.int j) = some (.int (i + j)) := rfl
@[simp] theorem d_sub_int : dSub (.int i) (.int j) = some (.int (i - j)) := rfl
@[simp] theorem d_neg_int : dNeg (.int i) = some (.int (-i)) := rfl
@[simp] theorem d_i2 (f : Int → Int → Bool) : dI2 f (.int i) (.int j) = some (.bl (f i j)) := rfl
@[simp] theorem d_tr_bl : dTruth (.bl p) = some p := rfl
@[simp] theorem d_tr_int : dTruth (.int i) = some (i != 0) := rfl
@[simp] theorem d_tr_non : dTruth .non = some false := rfl
@[simp] theorem d_tr_tup : dTruth (.tup xs) = some (!xs.isEmpty) := rfl
@[simp] theorem d_tr_lst : dTruth (.lst xs) = some (!xs.isEmpty) := rfl
@[simp] theorem d_len_tup : dLen [.tup xs] = some (.int xs.length) := rfl
@[simp] theorem d_len_lst : dLen [.lst xs] = some (.int xs.length) := rfl
@[simp] theorem d_int_int : dIntOf [.int i] = some (.int i) := rfl
@[simp] theorem d_tup_tup : dTupOf [.tup xs] = some (.tup xs) := rfl
@[simp] theorem d_tup_lst : dTupOf [.lst xs] = some (.tup xs) := rfl
@[simp] theorem d_lst_tup : dLstOf [.tup xs] = some (.lst xs) := rfl
@[simp] theorem d_lst_lst : dLstOf [.lst xs] = some (.lst xs) := rfl
@[simp] theorem d_lst_scr (ns : List Int) : dLstOf [.scr ns] = some (.lst (ns.map .int)) := rfl
@[simp] theorem d_ty_non : tyD .non = some "NoneType" := rfl
@[simp] theorem d_ty_bl : tyD (.bl p) = some "bool" := rfl
@[simp] theorem d_ty_int : tyD (.int i) = some "int" := rfl
@[simp] theorem d_ty_str : tyD (.str x) = some "str" := rfl
@[simp] theorem d_ty_tup : tyD (.tup xs) = some "tuple" := rfl
@[simp] theorem d_ty_lst : tyD (.lst xs) = some "list" := rfl
@[simp] theorem d_isN_non (n : Bool) : dIsN n .non .non = some (.bl (!n)) := rfl
@[simp] theorem d_isN_bl (n : Bool) : dIsN n (.bl p) .non = some (.bl n) := rfl
@[simp] theorem d_isN_int (n : Bool) : dIsN n (.int i) .non = some (.bl n) := rfl
@[simp] theorem d_isN_str (n : Bool) : dIsN n (.str x) .non = some (.bl n) := rfl
@[simp] theorem d_isN_tup (n : Bool) : dIsN n (.tup xs) .non = some (.bl n) := rfl
@[simp] theorem d_isN_lst (n : Bool) : dIsN n (.lst xs) .non = some (.bl n) := rfl
@[simp] theorem d_isB_bl (n : Bool) : dIsBX n (.bl p) (.bl q) = some (.bl (if n then !decide (p = q) else decide (p = q))) := rfl
@[simp] theorem d_isB_int (n : Bool) : dIsBX n (.int i) (.bl q) = some (.bl n) := rfl
@[simp] theorem d_isB_str (n : Bool) : dIsBX n (.str x) (.bl q) = some (.bl n) := rfl
@[simp] theorem d_isB_tup (n : Bool) : dIsBX n (.tup xs) (.bl q) = some (.bl n) := rfl
@[simp] theorem d_isB_lst (n : Bool) : dIsBX n (.lst xs) (.bl q) = some (.bl n) := rfl
@[simp] theorem d_isB_non (n : Bool) : dIsBX n .non (.bl q) = some (.bl n) := rfl
@[simp] theorem d_ix0 : dIx (.tup (a :: xs)) (.int 0) = some a := atI_nat (j := 0) rfl
@[simp] theorem d_ixl0 : dIx (.lst (a :: xs)) (.int 0) = some a := atI_nat (j := 0) rfl
theorem atI_of {α : Type} {xs : List α} {n : Nat} {v : α} (h : xs[n]? = some v) : atI xs (n : Int) = some v := atI_nat h
theorem d_ixt {xs : List D} {n : Nat} {v : D} (h : xs[n]? = some v) : dIx (.tup xs) (.int (n : Int)) = some v := atI_nat h
theorem d_ixl {xs : List D} {n : Nat} {v : D} (h : xs[n]? = some v) : dIx (.lst xs) (.int (n : Int)) = some v := atI_nat h
@[simp] theorem d_ix1 (c : D) : dIx (.tup (a :: c :: xs)) (.int 1) = some c := d_ixt (n := 1) rfl
@[simp] theorem d_ix2 (c e : D) : dIx (.tup (a :: c :: e :: xs)) (.int 2) = some e := d_ixt (n := 2) rfl
@[simp] theorem d_ix3 (c e f : D) : dIx (.tup (a :: c :: e :: f :: xs)) (.int 3) = some f := d_ixt (n := 3) rfl
@[simp] theorem d_ixl1 (c : D) : dIx (.lst (a :: c :: xs)) (.int 1) = some c := d_ixl (n := 1) rfl
@[simp] theorem d_ixl2 (c e : D) : dIx (.lst (a :: c :: e :: xs)) (.int 2) = some e := d_ixl (n := 2) rfl
@[simp] theorem d_ixlast : dIx (.lst (xs ++ [a])) (.int (-1)) = some a := atI_last xs a
theorem szl : sizeLine = 16777216 := by decide +kernel
end
end Ev
namespace Ev
open PySem PySem.Spec PyProof.Rows L2
/-! ### loops: what holds behind them -/
@[simp] theorem then_assoc {α β γ : Type} (r : Res α) (k : α → Sto → Res β) (k2 : β → Sto → Res γ) : (r.then k).then k2 = r.then fun a S => (k a S).then k2 := by cases r <;> rfl
def stepP (P : DEnv → Sto → Prop) (Q : Out → Sto → Prop) : Out → Sto → Prop
  | .nx ρ, S => P ρ S
  | .ct ρ, S => P ρ S
  | .bk ρ, S => Q (.nx ρ) S
  | .rt d, S => Q (.rt d) S
theorem post_intro {α : Type} {r : Res α} {a : α} {S : Sto} {P : α → Sto → Prop} (e : r = .ok a S) (h : P a S) : r.post P := by rw [e]; exact h
theorem post_ok {α : Type} {r : Res α} {a : α} {S : Sto} (h : r.post fun x S' => x = a ∧ S' = S) : r = .ok a S := by
  obtain ⟨x, S', e, rfl, rfl⟩ := Res.post_ex h
  exact e
theorem then_post {α β : Type} {r : Res α} {k : α → Sto → Res β} {P : α → Sto → Prop} {Q : β → Sto → Prop} (h : r.post P) (h2 : ∀ a S, P a S → (k a S).post Q) : (r.then k).post Q := by
  obtain ⟨a, S, e, p⟩ := Res.post_ex h
  rw [e]
  exact h2 a S p
theorem forL_run {body : D → DEnv → M Out} {P : Nat → DEnv → Sto → Prop} {Q : Out → Sto → Prop} : ∀ (ds : List D) (i : Nat) (ρ : DEnv) (S : Sto),
    (∀ j d, ds[j]? = some d → ∀ ρ S, P (i + j) ρ S → (body d ρ S).post (stepP (P (i + j + 1)) Q)) → (∀ ρ S, P (i + ds.length) ρ S → Q (.nx ρ) S) → P i ρ S → (forL body ds ρ S).post Q
  | [], i, ρ, S, _, h2, h => h2 ρ S h
  | d :: ds, i, ρ, S, h1, h2, h => by
    refine Res.post_then.mpr (Res.post_mono (h1 0 d rfl ρ S h) fun o S' q => ?_)
    have next : ∀ ρ', P (i + 0 + 1) ρ' S' → (forL body ds ρ' S').post Q := fun ρ' q => by
      refine forL_run ds (i + 1) ρ' S' (fun j d hj ρ S hp => ?_) (fun ρ S hp => h2 ρ S ?_) q
      · have := h1 (j + 1) d (by simpa using hj) ρ S (by rw [show i + (j + 1) = i + 1 + j by omega]; exact hp)
        rw [show i + (j + 1) + 1 = i + 1 + j + 1 by omega] at this
        exact this
      · rw [List.length_cons, show i + (ds.length + 1) = i + 1 + ds.length by omega]
        exact hp
    cases o with
    | nx ρ' => exact next ρ' q
    | ct ρ' => exact next ρ' q
    | bk ρ' => exact q
    | rt d => exact q
/-- over a mapped list -/
theorem forL_map {α : Type} {enc : α → D} {body : D → DEnv → M Out} {P : Nat → DEnv → Sto → Prop} {Q : Out → Sto → Prop} (xs : List α) {ρ : DEnv} {S : Sto}
    (h0 : P 0 ρ S) (h1 : ∀ j x, xs[j]? = some x → ∀ ρ S, P j ρ S → (body (enc x) ρ S).post (stepP (P (j + 1)) Q)) (h2 : ∀ ρ S, P xs.length ρ S → Q (.nx ρ) S) : (forL body (xs.map enc) ρ S).post Q := by
  refine forL_run (P := P) (xs.map enc) 0 ρ S (fun j d hj ρ S hp => ?_) (fun ρ S hp => h2 ρ S (by simpa using hp)) h0
  rw [List.getElem?_map] at hj
  cases q : xs[j]? with
  | none => rw [q] at hj; cases hj
  | some x =>
    rw [q] at hj
    cases hj
    rw [Nat.zero_add] at hp ⊢
    exact h1 j x q ρ S hp
/-- over a mapped list: the state is a function of what has been seen -/
theorem forL_fold {α β : Type} {enc : α → D} {body : D → DEnv → M Out} {R : β → DEnv → Sto → Prop} {Q : Out → Sto → Prop} (f : β → α → β) : ∀ (xs : List α) (b : β) {ρ : DEnv} {S : Sto},
    R b ρ S → (∀ x ∈ xs, ∀ b ρ S, R b ρ S → (body (enc x) ρ S).post (stepP (R (f b x)) Q)) → (∀ ρ S, R (xs.foldl f b) ρ S → Q (.nx ρ) S) → (forL body (xs.map enc) ρ S).post Q
  | [], b, ρ, S, h0, _, h2 => h2 ρ S h0
  | x :: xs, b, ρ, S, h0, h1, h2 => by
    refine Res.post_then.mpr (Res.post_mono (h1 x List.mem_cons_self b ρ S h0) fun o S' q => ?_)
    have next : ∀ ρ', R (f b x) ρ' S' → (forL body (xs.map enc) ρ' S').post Q := fun ρ' q => forL_fold f xs (f b x) q (fun y hy => h1 y (List.mem_cons_of_mem _ hy)) h2
    cases o with
    | nx ρ' => exact next ρ' q
    | ct ρ' => exact next ρ' q
    | bk ρ' => exact q
    | rt d => exact q
theorem whL_run {c : SB} {b : SS} {P : Nat → DEnv → Sto → Prop} {Q : Out → Sto → Prop}
    (h : ∀ k ρ S, P k ρ S → (c ρ S).post fun t S1 => if t then ∃ k', k = k' + 1 ∧ (b ρ S1).post (stepP (P k') Q) else Q (.nx ρ) S1) : ∀ (n k : Nat) (ρ : DEnv) (S : Sto), k < n → P k ρ S → (whL n c b ρ S).post Q
  | 0, k, ρ, S, hk, _ => absurd hk (Nat.not_lt_zero _)
  | n + 1, k, ρ, S, hk, hp => by
    refine Res.post_then.mpr (Res.post_mono (h k ρ S hp) fun t S1 q => ?_)
    cases t with
    | false => exact q
    | true =>
      obtain ⟨k', rfl, q⟩ := q
      refine Res.post_then.mpr (Res.post_mono q fun o S2 q => ?_)
      cases o with
      | nx ρ' => exact whL_run h n k' ρ' S2 (by omega) q
      | ct ρ' => exact whL_run h n k' ρ' S2 (by omega) q
      | bk ρ' => exact q
      | rt d => exact q
/-! ### comprehensions -/
theorem compL_map {α : Type} {f : D → M (Option D)} {enc : α → D} {g : α → D} {S : Sto} : ∀ (xs : List α), (∀ x ∈ xs, f (enc x) S = .ok (some (g x)) S) → compL f (xs.map enc) S = .ok (xs.map g) S
  | [], _ => rfl
  | x :: xs, h => by
    show (f (enc x) S).then _ = _
    rw [h x List.mem_cons_self]
    show (compL f (xs.map enc) S).then _ = _
    rw [compL_map xs fun y hy => h y (List.mem_cons_of_mem _ hy)]
    rfl
theorem compL_filter {α : Type} {f : D → M (Option D)} {enc : α → D} {g : α → D} {p : α → Bool} {S : Sto} : ∀ (xs : List α), (∀ x ∈ xs, f (enc x) S = .ok (if p x then some (g x) else none) S) → compL f (xs.map enc) S = .ok ((xs.filter p).map g) S
  | [], _ => rfl
  | x :: xs, h => by
    show (f (enc x) S).then _ = _
    rw [h x List.mem_cons_self]
    show (compL f (xs.map enc) S).then _ = _
    rw [compL_filter xs fun y hy => h y (List.mem_cons_of_mem _ hy)]
    cases hp : p x <;> simp [hp]
/-- with a state that changes: what each value is -/
inductive Each {α β : Type} (R : α → β → Prop) : List α → List β → Prop
  | nil : Each R [] []
  | cons {a : α} {b : β} {as : List α} {bs : List β} : R a b → Each R as bs → Each R (a :: as) (b :: bs)
theorem Each.length {α β : Type} {R : α → β → Prop} {as : List α} {bs : List β} (h : Each R as bs) : as.length = bs.length := by
  induction h with
  | nil => rfl
  | cons _ _ ih => simp [ih]
theorem Each.get {α β : Type} {R : α → β → Prop} {as : List α} {bs : List β} (h : Each R as bs) : ∀ (i : Nat) (a : α), as[i]? = some a → ∃ b, bs[i]? = some b ∧ R a b := by
  induction h with
  | nil => intro i a e; simp at e
  | cons r _ ih =>
    intro i a e
    cases i with
    | zero => simp at e; subst e; exact ⟨_, rfl, r⟩
    | succ i => simpa using ih i a (by simpa using e)
theorem Each.getR {α β : Type} {R : α → β → Prop} {as : List α} {bs : List β} (h : Each R as bs) : ∀ (i : Nat) (b : β), bs[i]? = some b → ∃ a, as[i]? = some a ∧ R a b := by
  induction h with
  | nil => intro i a e; simp at e
  | cons r _ ih =>
    intro i a e
    cases i with
    | zero => simp at e; subst e; exact ⟨_, rfl, r⟩
    | succ i => simpa using ih i a (by simpa using e)
theorem Each.map {α β γ : Type} {R : α → β → Prop} {Q : γ → β → Prop} {g : α → γ} {as : List α} {bs : List β} (h : Each R as bs) (f : ∀ a b, R a b → Q (g a) b) : Each Q (as.map g) bs := by
  induction h with
  | nil => exact .nil
  | cons r _ ih => exact .cons (f _ _ r) ih
/-- each b is made of some c -/
theorem Each.pick {α β γ : Type} {R : α → β → Prop} {enc : γ → β} {W : α → γ → Prop} {as : List α} {bs : List β} (h : Each R as bs) (f : ∀ a b, R a b → ∃ c, b = enc c ∧ W a c) : ∃ cs, bs = cs.map enc ∧ Each W as cs := by
  induction h with
  | nil => exact ⟨[], rfl, .nil⟩
  | cons r _ ih =>
    obtain ⟨c, e, w⟩ := f _ _ r
    obtain ⟨cs, e2, w2⟩ := ih
    exact ⟨c :: cs, by rw [e, e2]; rfl, .cons w w2⟩
theorem Each.mem {α β : Type} {R : α → β → Prop} {as : List α} {bs : List β} (h : Each R as bs) : ∀ b ∈ bs, ∃ a ∈ as, R a b := by
  induction h with
  | nil => intro b hb; cases hb
  | cons r _ ih =>
    intro b hb
    rcases List.mem_cons.mp hb with rfl | hb
    · exact ⟨_, List.mem_cons_self, r⟩
    · obtain ⟨a, ha, hr⟩ := ih b hb
      exact ⟨a, List.mem_cons_of_mem _ ha, hr⟩
theorem compL_post {f : D → M (Option D)} {I : Sto → Prop} {R : D → D → Prop} : ∀ (ds : List D) (S : Sto), I S → (∀ d ∈ ds, ∀ S, I S → (f d S).post fun o S' => I S' ∧ ∃ y, o = some y ∧ R d y) → (compL f ds S).post fun ys S' => I S' ∧ Each R ds ys
  | [], S, h0, _ => ⟨h0, .nil⟩
  | d :: ds, S, h0, h => by
    refine then_post (h d List.mem_cons_self S h0) fun o S1 ⟨i1, y, e, r⟩ => ?_
    refine then_post (compL_post ds S1 i1 fun d hd => h d (List.mem_cons_of_mem _ hd)) fun ys S2 ⟨i2, es⟩ => ?_
    subst e
    exact ⟨i2, .cons r es⟩
theorem rangeD_map (lo : Int) (n : Nat) : rangeD lo n = (List.range n).map fun (k : Nat) => D.int (lo + (k : Int)) := rfl
theorem range0 (n : Nat) : rangeD 0 n = (List.range n).map fun (k : Nat) => D.int (k : Int) := by
  unfold rangeD
  congr 1
  funext k
  rw [Int.zero_add]
theorem rg1 {j : Nat} (h : j < 4611686018427387904) : dRange [.int (j : Int)] = some ((List.range j).map fun (k : Nat) => D.int (k : Int)) := by
  show (if rgOk (j : Int) then some (rangeD 0 (j : Int).toNat) else none) = _
  have : rgOk (j : Int) = true := rgOk_of (by omega)
  rw [if_pos this, range0, Int.toNat_natCast]
theorem rg2 {i j : Int} (h1 : -4611686018427387904 < i) (h2 : i < 4611686018427387904) (h3 : -4611686018427387904 < j) (h4 : j < 4611686018427387904) : dRange [.int i, .int j] = some ((List.range (j - i).toNat).map fun (k : Nat) => D.int (i + (k : Int))) := by
  show (if rgOk i && rgOk j then some (rangeD i (j - i).toNat) else none) = _
  have h5 : rgOk i = true := rgOk_of (by omega)
  have h6 : rgOk j = true := rgOk_of (by omega)
  rw [h5, h6]
  rfl
@[simp] theorem d_add_tup (xs ys : List D) (h : xs.length + ys.length ≤ sizeLine) : dAdd (.tup xs) (.tup ys) = some (.tup (xs ++ ys)) := by
  show (if _ then _ else _) = _
  rw [if_pos h]
end Ev
namespace Ev
open PySem PySem.Spec PyProof.Rows L2
/-! ### encodings of plain values: equality, membership, order -/
structure EncOk {α : Type} [DecidableEq α] (P : α → Prop) (e : α → D) (p : α → PyData) (h : Nat) : Prop where
  py : ∀ a, (e a).py = some (p a)
  lay : ∀ a, P a → (p a).canLay0 = true
  dep : ∀ a, (p a).depth ≤ h
  eqv : ∀ a b, PyData.eqv (p a) (p b) = decide (a = b)
theorem pyAll_map {α : Type} {e : α → D} {p : α → PyData} (h : ∀ a, (e a).py = some (p a)) : ∀ xs : List α, pyAll (xs.map e) = some (xs.map p)
  | [] => rfl
  | x :: xs => by
    show (match (e x).py, pyAll (xs.map e) with
      | some x, some xs => some (x :: xs)
      | _, _ => none) = _
    rw [h, pyAll_map h xs]
    rfl
theorem layAll_map {α : Type} {P : α → Prop} {p : α → PyData} (h : ∀ a, P a → (p a).canLay0 = true) : ∀ xs : List α, (∀ x ∈ xs, P x) → PyData.canLayAll0 (xs.map p) = true
  | [], _ => by simp [PyData.canLayAll0]
  | x :: xs, q => by
    show PyData.canLayAll0 (p x :: xs.map p) = true
    rw [PyData.canLayAll0, h x (q x List.mem_cons_self), layAll_map h xs fun y hy => q y (List.mem_cons_of_mem _ hy)]
    rfl
theorem depAll_map {α : Type} {p : α → PyData} {n : Nat} (h : ∀ a, (p a).depth ≤ n) : ∀ xs : List α, PyData.depthAll (xs.map p) ≤ n
  | [] => by simp [PyData.depthAll]
  | x :: xs => by
    show PyData.depthAll (p x :: xs.map p) ≤ n
    rw [PyData.depthAll]
    have h1 := h x
    have h2 := depAll_map h xs
    omega
theorem eqvAll_map {α : Type} [DecidableEq α] {p : α → PyData} (h : ∀ a b, PyData.eqv (p a) (p b) = decide (a = b)) : ∀ xs ys : List α, PyData.eqvAll (xs.map p) (ys.map p) = decide (xs = ys)
  | [], [] => by simp [PyData.eqvAll]
  | [], y :: ys => by simp [PyData.eqvAll]
  | x :: xs, [] => by simp [PyData.eqvAll]
  | x :: xs, y :: ys => by
    show PyData.eqvAll (p x :: xs.map p) (p y :: ys.map p) = _
    rw [PyData.eqvAll, h, eqvAll_map h xs ys, ← Bool.decide_and]
    simp
section
variable {α : Type} [DecidableEq α] {P : α → Prop} {e : α → D} {p : α → PyData} {n : Nat}
theorem EncOk.lst (o : EncOk P e p n) : EncOk (α := List α) (fun xs => ∀ x ∈ xs, P x) (fun xs => .lst (xs.map e)) (fun xs => .list (xs.map p)) (n + 1) where
  py := fun xs => by
    show (pyAll (xs.map e)).map PyData.list = _
    rw [pyAll_map o.py]
    rfl
  lay := fun xs h => by
    show PyData.canLay0 (.list (xs.map p)) = true
    rw [PyData.canLay0]
    exact layAll_map o.lay xs h
  dep := fun xs => by
    show PyData.depth (.list (xs.map p)) ≤ _
    rw [PyData.depth]
    exact Nat.succ_le_succ (depAll_map o.dep xs)
  eqv := fun xs ys => by
    show PyData.eqv (.list (xs.map p)) (.list (ys.map p)) = _
    rw [PyData.eqv]
    exact eqvAll_map o.eqv xs ys
theorem EncOk.tup (o : EncOk P e p n) : EncOk (α := List α) (fun xs => ∀ x ∈ xs, P x) (fun xs => .tup (xs.map e)) (fun xs => .tuple (xs.map p)) (n + 1) where
  py := fun xs => by
    show (pyAll (xs.map e)).map PyData.tuple = _
    rw [pyAll_map o.py]
    rfl
  lay := fun xs h => by
    show PyData.canLay0 (.tuple (xs.map p)) = true
    rw [PyData.canLay0]
    exact layAll_map o.lay xs h
  dep := fun xs => by
    show PyData.depth (.tuple (xs.map p)) ≤ _
    rw [PyData.depth]
    exact Nat.succ_le_succ (depAll_map o.dep xs)
  eqv := fun xs ys => by
    show PyData.eqv (.tuple (xs.map p)) (.tuple (ys.map p)) = _
    rw [PyData.eqv]
    exact eqvAll_map o.eqv xs ys
theorem EncOk.shaped (o : EncOk P e p n) {a : α} (ha : P a) (hn : n ≤ 64) : SeqAt.shaped (p a) = true := by
  unfold SeqAt.shaped
  rw [o.lay a ha, Bool.true_and]
  exact decide_eq_true (Nat.le_trans (o.dep a) hn)
theorem EncOk.eq (o : EncOk P e p n) {a b : α} (ha : P a) (hb : P b) (neg : Bool) (hn : n ≤ 64 := by decide) : dEqv neg (e a) (e b) = some (.bl (if neg then !decide (a = b) else decide (a = b))) := by
  unfold dEqv
  rw [o.py, o.py]
  show (if (SeqAt.shaped (p a) && SeqAt.shaped (p b)) = true then _ else _) = _
  rw [o.shaped ha hn, o.shaped hb hn, o.eqv]
  rfl
theorem any_eqv (o : EncOk P e p n) (a : α) : ∀ xs : List α, ((xs.map p).any fun z => PyData.eqv z (p a)) = decide (a ∈ xs)
  | [] => by simp
  | x :: xs => by
    rw [List.map_cons, List.any_cons, any_eqv o a xs, o.eqv, ← Bool.decide_or]
    congr 1
    rw [List.mem_cons, eq_comm (a := x)]
theorem dIn_lst {n : Bool} {a : D} {ys : List D} (h : ∀ x y, a = .str x → D.lst ys ≠ .str y) : dIn n a (.lst ys) = (match a.py, pyAll ys with
    | some x, some zs => if (SeqAt.shaped x && SeqAt.shaped (.list zs)) = true then some (.bl (if n then !zs.any fun z => PyData.eqv z x else zs.any fun z => PyData.eqv z x)) else none
    | _, _ => none) := by
  cases a <;> rfl
theorem EncOk.mem (o : EncOk P e p n) {a : α} {xs : List α} (ha : P a) (hx : ∀ x ∈ xs, P x) (neg : Bool) (hn : n + 1 ≤ 64 := by decide) : dIn neg (e a) (.lst (xs.map e)) = some (.bl (if neg then !decide (a ∈ xs) else decide (a ∈ xs))) := by
  rw [dIn_lst (fun _ _ _ => fun z => nomatch z), o.py, pyAll_map o.py]
  show (if (SeqAt.shaped (p a) && SeqAt.shaped (.list (xs.map p))) = true then _ else _) = _
  rw [o.shaped ha (by omega), o.lst.shaped (a := xs) hx hn, any_eqv o]
  rfl
end
theorem encInt : EncOk (α := Int) (fun _ => True) D.int PyData.int 0 := ⟨fun _ => rfl, fun _ _ => by simp [PyData.canLay0], fun _ => by simp [PyData.depth], fun a b => by
  rw [PyData.eqv]
  by_cases h : a = b <;> simp [h]⟩
theorem encNat : EncOk (α := Nat) (fun _ => True) (fun n => D.int (n : Int)) (fun n => PyData.int (n : Int)) 0 := ⟨fun _ => rfl, fun _ _ => by simp [PyData.canLay0], fun _ => by simp [PyData.depth], fun a b => by
  rw [PyData.eqv]
  by_cases h : a = b
  · simp [h]
  · have : (a : Int) ≠ b := by omega
    simp [h, this]⟩
theorem encStr : EncOk (α := Str) (fun x => PyData.strOk x = true) D.str PyData.str 0 := ⟨fun _ => rfl, fun _ h => by simpa [PyData.canLay0] using h, fun _ => by simp [PyData.depth], fun a b => by
  rw [PyData.eqv]
  by_cases h : a = b <;> simp [h]⟩
@[simp] theorem d_eq_int (i j : Int) (neg : Bool) : dEqv neg (.int i) (.int j) = some (.bl (if neg then !decide (i = j) else decide (i = j))) := encInt.eq trivial trivial neg
@[simp] theorem d_eq_bl (i j : Bool) (neg : Bool) : dEqv neg (.bl i) (.bl j) = some (.bl (if neg then !decide (i = j) else decide (i = j))) := by
  cases i <;> cases j <;> cases neg <;> rfl
@[simp] theorem sz_1 : (1 : Nat) ≤ sizeLine := by rw [szl]; decide
@[simp] theorem sw_1 : (1 : Nat) < sizeLine := by rw [szl]; decide
@[simp] theorem sz_2 : (2 : Nat) ≤ sizeLine := by rw [szl]; decide
@[simp] theorem sw_2 : (2 : Nat) < sizeLine := by rw [szl]; decide
@[simp] theorem sz_3 : (3 : Nat) ≤ sizeLine := by rw [szl]; decide
@[simp] theorem sw_3 : (3 : Nat) < sizeLine := by rw [szl]; decide
@[simp] theorem sz_4 : (4 : Nat) ≤ sizeLine := by rw [szl]; decide
@[simp] theorem sw_4 : (4 : Nat) < sizeLine := by rw [szl]; decide
@[simp] theorem sz_5 : (5 : Nat) ≤ sizeLine := by rw [szl]; decide
@[simp] theorem sw_5 : (5 : Nat) < sizeLine := by rw [szl]; decide
@[simp] theorem sz_6 : (6 : Nat) ≤ sizeLine := by rw [szl]; decide
@[simp] theorem sw_6 : (6 : Nat) < sizeLine := by rw [szl]; decide
@[simp] theorem sz_7 : (7 : Nat) ≤ sizeLine := by rw [szl]; decide
@[simp] theorem sw_7 : (7 : Nat) < sizeLine := by rw [szl]; decide
@[simp] theorem sz_8 : (8 : Nat) ≤ sizeLine := by rw [szl]; decide
@[simp] theorem sw_8 : (8 : Nat) < sizeLine := by rw [szl]; decide
@[simp] theorem sz_9 : (9 : Nat) ≤ sizeLine := by rw [szl]; decide
@[simp] theorem sw_9 : (9 : Nat) < sizeLine := by rw [szl]; decide
@[simp] theorem sz_10 : (10 : Nat) ≤ sizeLine := by rw [szl]; decide
@[simp] theorem sw_10 : (10 : Nat) < sizeLine := by rw [szl]; decide
@[simp] theorem sz_11 : (11 : Nat) ≤ sizeLine := by rw [szl]; decide
@[simp] theorem sw_11 : (11 : Nat) < sizeLine := by rw [szl]; decide
@[simp] theorem sz_12 : (12 : Nat) ≤ sizeLine := by rw [szl]; decide
@[simp] theorem sw_12 : (12 : Nat) < sizeLine := by rw [szl]; decide
@[simp] theorem sz_13 : (13 : Nat) ≤ sizeLine := by rw [szl]; decide
@[simp] theorem sw_13 : (13 : Nat) < sizeLine := by rw [szl]; decide
@[simp] theorem sz_14 : (14 : Nat) ≤ sizeLine := by rw [szl]; decide
@[simp] theorem sw_14 : (14 : Nat) < sizeLine := by rw [szl]; decide
@[simp] theorem sz_15 : (15 : Nat) ≤ sizeLine := by rw [szl]; decide
@[simp] theorem sw_15 : (15 : Nat) < sizeLine := by rw [szl]; decide
theorem szk {n : Nat} (h : n ≤ 1000) : n ≤ sizeLine := by rw [szl]; omega
/-- rows of counts -/
abbrev natT (r : List Nat) : D := .tup (r.map fun (n : Nat) => .int (n : Int))
abbrev natP (r : List Nat) : PyData := .tuple (r.map fun (n : Nat) => .int (n : Int))
theorem encRow : EncOk (α := List Nat) (fun _ => True) natT natP 1 := ⟨encNat.tup.py, fun a _ => encNat.tup.lay a (fun _ _ => trivial), encNat.tup.dep, encNat.tup.eqv⟩
end Ev
namespace Ev
open PySem PySem.Spec PyProof.Rows L2
/-! ### a Hook that tells more -/
def obsMG (n : Nat) (fa : List He.Fa) (fn : List He.DefD) (more : PySem.W.Frag → Bool) (g : Addr → Option Obj) : Bool × He.AlD := (more (He.frG g (He.asD g n)), He.obsDG n fa fn g)
def hookM (n : Nat) (fa : List He.Fa) (fn : List He.DefD) (more : PySem.W.Frag → Bool) : PySem.W.Hook where
  α := Bool × He.AlD
  obs := fun s => obsMG n fa fn more s.heap.get?
  val := fun _ => (true, He.valD fn)
  says := fun _ h => ∃ K : PySem.W.Frag, K.In h ∧ He.SaysD fa fn K ∧ more K = true
  of := fun _ _ e => ⟨_, He.frG_in, congrArg Prod.snd e, congrArg Prod.fst e⟩
  keeps := fun _ _ _ ⟨K, hK, c⟩ k => ⟨K, PySem.W.Frag.In.keeps hK k, c⟩
theorem obsMG_eq {n : Nat} {fa : List He.Fa} {fn : List He.DefD} {more : PySem.W.Frag → Bool} {g : Addr → Option Obj} {s : Shared} (h : ∀ a, g a = s.heap.get? a) : obsMG n fa fn more g = (hookM n fa fn more).obs s := by
  have e : g = s.heap.get? := funext h
  rw [e] <;> rfl
/-! ### isinstance of own classes -/
def clsFacts (K : PySem.W.Frag) (cs : List Str) : Bool :=
  (decide (PySem.W.specialIn K (.builtin "object.__class__") "__get__" = some (some (.builtin "getset_descriptor.__get__"))) && decide (PySem.W.takesIn K (.builtin "object.__class__") = some true)) &&
  cs.all fun c => (decide (PySem.W.findIn K (.ref (He.ga K c)) "__class__" = some (some (.builtin "object.__class__"))) && decide (PySem.W.mroIn K (He.ga K c) (.type "object") = some true)) &&
    ((cs.all fun d => decide (PySem.W.kitOne K (.ref (He.ga K c)) (.ref (He.ga K d)) = some (decide (c = d)))) && tyNames.all fun t => decide (PySem.W.kitOne K (.type t) (.ref (He.ga K c)) = some false))
structure ClsOk (K : PySem.W.Frag) (mg : Str → Option Value) (cs : List Str) : Prop where
  glo : ∀ c ∈ cs, mg c = some (.ref (He.ga K c))
  cls : ∀ c ∈ cs, Cls K (He.ga K c)
  facts : clsFacts K cs = true
def isOwn (cs : List Str) (cls : Str) : D → Option Bool
  | .obj c _ => if c ∈ cs then some (decide (c = cls)) else none
  | d => (tyD d).map fun _ => false
def sIsC (cs : List Str) (cls : Str) (sa : SE) : SE := fun ρ S => (sa ρ S).then fun d S' => (optR (isOwn cs cls d) S').then fun b S' => .ok (.bl b) S'
section
variable {X : Cx} {own : List Nat} {a : Expr} {sa : SE} {pos p p2 : Pos} {cs : List Str} {cls : Str}
theorem sim_isC (C : ClsOk X.K X.mg cs) (hc : cls ∈ cs) (hg : Gl X "isinstance") (hm : X.mg "isinstance" = none) (hg2 : Gl X cls) (ha : SimE X own a sa) (hdb : (cls == ("__debug__" : Str)) = false := by decide)
    (he : starEach [a, .Name cls p2] X.env = (false, eval a X.env) :: starEach [.Name cls p2] X.env := by rfl) (hpl : (backTo pos (starEach [.Name cls p2] X.env)).any (·.1) = false := by rfl) :
    SimE X own (.Call (.Name "isinstance" p) [a, .Name cls p2] [] pos) (sIsC cs cls sa) :=
  pe_weak (pe_callB call_isi hg hm (by decide +kernel) (pa_cons ha (pa_cons (pe_glob (v := .ref (He.ga X.K cls)) hg2 (C.glo cls hc) rfl hdb) pa_nil) he) (by decide) (by decide) he hpl) fun σ H Q ⟨g0, H0, ρ, g, S, E, q⟩ => by
    obtain ⟨d, S', e1, k⟩ := Res.post_ex q
    obtain ⟨x, S1, e2, e1⟩ := Res.then_ex e1
    obtain ⟨b, S2, e30, e1⟩ := Res.then_ex e1
    obtain ⟨e3, eS⟩ := optR_ex e30
    clear e30
    subst eS
    cases e1
    refine ⟨g0, H0, ρ, g, S, E, ?_⟩
    rw [e2]
    intro v g1 H1 G1 s1 r1
    have f := C.facts
    unfold clsFacts at f
    rw [Bool.and_eq_true, Bool.and_eq_true, decide_eq_true_eq, decide_eq_true_eq] at f
    obtain ⟨⟨f1, f2⟩, f3⟩ := f
    have fc := List.all_eq_true.mp f3 cls hc
    rw [Bool.and_eq_true, Bool.and_eq_true, Bool.and_eq_true, decide_eq_true_eq, decide_eq_true_eq] at fc
    have base : ∀ t, tyD x = some t → b = false → ∃ (y c : V) (t u : Value) (b' : Bool), [v, V.ref (He.ga X.K cls)] = [y, c] ∧ ClsV c u ∧ TyX X.K H1 y t ∧ PySem.W.kitOne X.K t u = some b' ∧ Q (.bl b') H1 := fun t ht hb => by
      subst hb
      have := List.all_eq_true.mp fc.2.2 t (ty_mem ht)
      rw [decide_eq_true_eq] at this
      exact ⟨v, .ref (He.ga X.K cls), .type t, .ref (He.ga X.K cls), false, rfl, .own _, tyx_of G1 (.inl r1) ht, this, k _ g1 H1 G1 s1 (.bl false)⟩
    cases x with
    | obj c fs =>
      have e3' : (if c ∈ cs then some (decide (c = cls)) else none) = some b := e3
      split at e3'
      · rename_i hcs
        cases e3'
        cases r1 with
        | @obj A C' dx fvs _ _ hmc h1 h2 rf =>
          have hCe : C' = He.ga X.K c := by
            have := (C.glo c hcs).symm.trans hmc
            cases this
            rfl
          subst hCe
          have fo := List.all_eq_true.mp f3 c hcs
          rw [Bool.and_eq_true, Bool.and_eq_true, Bool.and_eq_true, decide_eq_true_eq, decide_eq_true_eq] at fo
          have fk := List.all_eq_true.mp fo.2.1 cls hc
          rw [decide_eq_true_eq] at fk
          exact ⟨_, .ref (He.ga X.K cls), .ref (He.ga X.K c), .ref (He.ga X.K cls), _, rfl, .own _, .base (.ins (G1.sub _ _ h1) (C.cls c hcs) fo.1.1 f1 f2 fo.1.2), fk, k _ g1 H1 G1 s1 (.bl _)⟩
      · cases e3'
    | mref i => cases e3
    | scr ns => cases e3
    | non => cases e3; exact base _ rfl rfl
    | bl _ => cases e3; exact base _ rfl rfl
    | int _ => cases e3; exact base _ rfl rfl
    | str _ => cases e3; exact base _ rfl rfl
    | tup _ => cases e3; exact base _ rfl rfl
    | lst _ => cases e3; exact base _ rfl rfl
end
end Ev
namespace Ev
open PySem PySem.Spec PyProof.Rows L2
/-! ### states told by some of their slots -/
def St : List (Option D) → DEnv → Prop
  | [], [] => True
  | some d :: t, y :: ρ => y = some d ∧ St t ρ
  | none :: t, _ :: ρ => St t ρ
  | _, _ => False
theorem St.some {d : D} {t : List (Option D)} {ρ : DEnv} (h : St (some d :: t) ρ) : ∃ ρ', ρ = .some d :: ρ' ∧ St t ρ' := by
  cases ρ with
  | nil => exact h.elim
  | cons y ρ => exact ⟨ρ, by rw [h.1], h.2⟩
theorem St.none {t : List (Option D)} {ρ : DEnv} (h : St (none :: t) ρ) : ∃ y ρ', ρ = y :: ρ' ∧ St t ρ' := by
  cases ρ with
  | nil => exact h.elim
  | cons y ρ => exact ⟨y, ρ, rfl, h⟩
theorem St.nil {ρ : DEnv} (h : St [] ρ) : ρ = [] := by
  cases ρ with
  | nil => rfl
  | cons y ρ => exact h.elim
@[simp] theorem st_nil : St [] [] = True := rfl
@[simp] theorem st_some (d : D) (t : List (Option D)) (y : Option D) (ρ : DEnv) : St (some d :: t) (y :: ρ) = (y = some d ∧ St t ρ) := rfl
@[simp] theorem st_none (t : List (Option D)) (y : Option D) (ρ : DEnv) : St (none :: t) (y :: ρ) = St t ρ := rfl
/-- for i in range(n) -/
theorem forL_range {body : D → DEnv → M Out} {ρ : DEnv} {S : Sto} {Q : Out → Sto → Prop} (P : Nat → DEnv → Sto → Prop) (n : Nat) (h0 : P 0 ρ S)
    (h1 : ∀ j, j < n → ∀ ρ S, P j ρ S → (body (.int (j : Int)) ρ S).post (stepP (P (j + 1)) Q)) (h2 : ∀ ρ S, P n ρ S → Q (.nx ρ) S) : (forL body ((List.range n).map fun (k : Nat) => D.int (k : Int)) ρ S).post Q :=
  forL_map (P := P) (List.range n) h0 (fun j x hj ρ S hp => by
    obtain ⟨h, e⟩ := List.getElem?_eq_some_iff.mp hj
    rw [List.getElem_range] at e
    rw [List.length_range] at h
    subst e
    exact h1 j h ρ S hp) fun ρ S hp => h2 ρ S (by rw [List.length_range] at hp; exact hp)
/-- for i in range(lo, hi) -/
theorem forL_range2 {body : D → DEnv → M Out} {ρ : DEnv} {S : Sto} {Q : Out → Sto → Prop} (P : Nat → DEnv → Sto → Prop) (lo n : Nat) (h0 : P 0 ρ S)
    (h1 : ∀ j, j < n → ∀ ρ S, P j ρ S → (body (.int ((lo + j : Nat) : Int)) ρ S).post (stepP (P (j + 1)) Q)) (h2 : ∀ ρ S, P n ρ S → Q (.nx ρ) S) : (forL body ((List.range n).map fun (k : Nat) => D.int ((lo : Int) + (k : Int))) ρ S).post Q :=
  forL_map (P := P) (List.range n) h0 (fun j x hj ρ S hp => by
    obtain ⟨h, e⟩ := List.getElem?_eq_some_iff.mp hj
    rw [List.getElem_range] at e
    rw [List.length_range] at h
    subst e
    have := h1 j h ρ S hp
    rw [Int.natCast_add] at this
    exact this) fun ρ S hp => h2 ρ S (by rw [List.length_range] at hp; exact hp)
theorem rg2n {i j : Nat} (h1 : i < 4611686018427387904) (h2 : j < 4611686018427387904) : dRange [.int (i : Int), .int (j : Int)] = some ((List.range (j - i)).map fun (k : Nat) => .int ((i : Int) + (k : Int))) := by
  rw [rg2 (by omega) (by omega) (by omega) (by omega)]
  congr 3
  omega
/-- for i, x in enumerate(xs) -/
theorem enumD_map {α : Type} {e : α → D} (xs : List α) : enumD (xs.map e) = (List.range xs.length).map fun k => .tup [.int (k : Int), (xs.map e).getD k .non] := by
  unfold enumD
  rw [List.length_map]
theorem getD_at {α : Type} {e : α → D} {xs : List α} {k : Nat} {x : α} (h : xs[k]? = some x) : (xs.map e).getD k .non = e x := by
  rw [List.getD_eq_getElem?_getD, List.getElem?_map, h]
  rfl
theorem forL_enum {α : Type} {e : α → D} {body : D → DEnv → M Out} {ρ : DEnv} {S : Sto} {Q : Out → Sto → Prop} (P : Nat → DEnv → Sto → Prop) (xs : List α) (h0 : P 0 ρ S)
    (h1 : ∀ j x, xs[j]? = some x → ∀ ρ S, P j ρ S → (body (.tup [.int (j : Int), e x]) ρ S).post (stepP (P (j + 1)) Q)) (h2 : ∀ ρ S, P xs.length ρ S → Q (.nx ρ) S) : (forL body (enumD (xs.map e)) ρ S).post Q := by
  rw [enumD_map]
  refine forL_map (P := P) (List.range xs.length) h0 (fun j x hj ρ S hp => ?_) fun ρ S hp => h2 ρ S (by rw [List.length_range] at hp; exact hp)
  obtain ⟨h, e'⟩ := List.getElem?_eq_some_iff.mp hj
  rw [List.getElem_range] at e'
  rw [List.length_range] at h
  subst e'
  have hx : xs[j]? = some xs[j] := List.getElem?_eq_getElem h
  rw [getD_at hx]
  exact h1 j _ hx ρ S hp
theorem compL_range {f : D → M (Option D)} {g : Nat → D} {S : Sto} (n : Nat) (h : ∀ k, k < n → f (.int (k : Int)) S = .ok (some (g k)) S) : compL f ((List.range n).map fun (k : Nat) => D.int (k : Int)) S = .ok ((List.range n).map g) S :=
  compL_map (enc := fun (k : Nat) => D.int (k : Int)) _ fun k hk => h k (List.mem_range.mp hk)
theorem compL_rangeF {f : D → M (Option D)} {g : Nat → D} {p : Nat → Bool} {S : Sto} (n : Nat) (h : ∀ k, k < n → f (.int (k : Int)) S = .ok (if p k then some (g k) else none) S) : compL f ((List.range n).map fun (k : Nat) => D.int (k : Int)) S = .ok (((List.range n).filter p).map g) S :=
  compL_filter (enc := fun (k : Nat) => D.int (k : Int)) _ fun k hk => h k (List.mem_range.mp hk)
theorem compL_enum {α : Type} {e : α → D} {f : D → M (Option D)} {g : Nat → α → D} {S : Sto} {d0 : α} (xs : List α) (h : ∀ (k : Nat) (x : α), xs[k]? = some x → f (.tup [.int (k : Int), e x]) S = .ok (some (g k x)) S) : compL f (enumD (xs.map e)) S = .ok ((List.range xs.length).map fun (k : Nat) => g k (xs.getD k d0)) S := by
  rw [enumD_map]
  refine compL_map _ fun k hk => ?_
  have hk' := List.mem_range.mp hk
  have hx : xs[k]? = some xs[k] := List.getElem?_eq_getElem hk'
  rw [getD_at hx, h k _ hx]
  rw [List.getD_eq_getElem?_getD, hx]
  rfl
/-- all values of a loop that only looks -/
theorem ok_of_post {α : Type} {r : Res α} {P : α → Sto → Prop} (h : r.post P) : ∃ a S, r = .ok a S ∧ P a S := Res.post_ex h
theorem all_map {α : Type} (p : α → Bool) (r : List α) : dAll [.lst (r.map fun x => .bl (p x))] = some (.bl (r.all p)) := by
  show (blsD (r.map fun x => D.bl (p x))).map (fun ns => D.bl (ns.all id)) = _
  rw [show (r.map fun x => D.bl (p x)) = (r.map p).map D.bl by simp, blsD_map]
  simp
theorem any_map {α : Type} (p : α → Bool) (r : List α) : dAnyA [.lst (r.map fun x => .bl (p x))] = some (.bl (r.any p)) := by
  show (blsD (r.map fun x => D.bl (p x))).map (fun ns => D.bl (ns.any id)) = _
  rw [show (r.map fun x => D.bl (p x)) = (r.map p).map D.bl by simp, blsD_map]
  simp
section
variable (ρ : DEnv) (S : Sto) (sa : SE) (cs : List Str) (c : Str) (i : Int) (b : Bool) (xs : List D) (x : Str)
@[simp] theorem e_isC : sIsC cs c sa ρ S = (sa ρ S).then fun d S' => (optR (isOwn cs c d) S').then fun b S' => .ok (.bl b) S' := rfl
@[simp] theorem own_non : isOwn cs c .non = some false := rfl
@[simp] theorem own_bl : isOwn cs c (.bl b) = some false := rfl
@[simp] theorem own_int : isOwn cs c (.int i) = some false := rfl
@[simp] theorem own_str : isOwn cs c (.str x) = some false := rfl
@[simp] theorem own_tup : isOwn cs c (.tup xs) = some false := rfl
@[simp] theorem own_lst : isOwn cs c (.lst xs) = some false := rfl
end
theorem comp_end {α : Type} {ys : List α} (e : α → D) (h : ys.length ≤ sizeLine) (S : Sto) : (if (ys.map e).length ≤ sizeLine then (Res.ok (.lst (ys.map e)) S : Res D) else .bad) = .ok (.lst (ys.map e)) S := by
  rw [if_pos (by rw [List.length_map]; exact h)]
end Ev
namespace Ev
open PySem PySem.Spec PyProof.Rows L2
/-! ### list(range(n)), tuple(range(n)) -/
theorem reps_rg {K : PySem.W.Frag} {mg : Str → Option Value} {g : Gh} (a b : Int) : Reps K mg g (rgV a b) (rangeD a (b - a).toNat) := by
  unfold rgV rangeD
  generalize List.range (b - a).toNat = l
  induction l with
  | nil => exact .nil
  | cons i l ih => exact .cons (.int _) ih
def rgS (n : Int) : Bool := decide (0 ≤ n) && decide (n.toNat ≤ sizeLine)
theorem rgS_ok {n : Int} (h : rgS n = true) : RgOk 0 n := by
  unfold rgS at h
  rw [Bool.and_eq_true, decide_eq_true_eq, decide_eq_true_eq, szl] at h
  exact .of_le (by decide) (by omega) (by decide) h.1
theorem rgS_of {n : Nat} (h : n ≤ sizeLine) : rgS (n : Int) = true := by
  unfold rgS
  rw [Bool.and_eq_true, decide_eq_true_eq, decide_eq_true_eq]
  exact ⟨by omega, by rw [Int.toNat_natCast]; exact h⟩
def rgEnd (f : List D → D) : D → Sto → Res D
  | .int n, S => if rgS n then .ok (f (rangeD 0 n.toNat)) S else .bad
  | _, _ => .bad
def sRgL (sa : SE) : SE := fun ρ S => (sa ρ S).then (rgEnd .lst)
def sRgT (sa : SE) : SE := fun ρ S => (sa ρ S).then (rgEnd .tup)
@[simp] theorem e_rgL (sa : SE) (ρ : DEnv) (S : Sto) : sRgL sa ρ S = (sa ρ S).then (rgEnd .lst) := rfl
@[simp] theorem e_rgT (sa : SE) (ρ : DEnv) (S : Sto) : sRgT sa ρ S = (sa ρ S).then (rgEnd .tup) := rfl
theorem rgEnd_nat (f : List D → D) {n : Nat} (h : n ≤ sizeLine) (S : Sto) : rgEnd f (.int (n : Int)) S = .ok (f ((List.range n).map fun (k : Nat) => D.int (k : Int))) S := by
  show (if rgS (n : Int) then _ else _) = _
  rw [if_pos (rgS_of h), range0, Int.toNat_natCast]
section
variable {X : Cx} {own : List Nat} {a : Expr} {sa : SE} {pos p p2 pos2 : Pos}
theorem rg_ex {f : List D → D} {ρ : DEnv} {S S' : Sto} {d : D} (e : ((sa ρ S).then (rgEnd f)) = .ok d S') : ∃ n, sa ρ S = .ok (.int n) S' ∧ rgS n = true ∧ d = f (rangeD 0 n.toNat) := by
  obtain ⟨x, S1, e2, e1⟩ := Res.then_ex e
  cases x with
  | int n =>
    have e1' : (if rgS n then (Res.ok (f (rangeD 0 n.toNat)) S1 : Res D) else .bad) = .ok d S' := e1
    split at e1'
    · cases e1'
      exact ⟨n, e2, ‹_›, rfl⟩
    · cases e1'
  | _ => cases e1
theorem f_lstRg (hl : X.mg "list" = none) (hr : X.mg "range" = none) (ha : SimE X own a sa) (hc : X.calm = true := by rfl) (hgl : Gl X "list" := by rfl) (hgr : Gl X "range" := by rfl)
    (na : starEach [a] X.env = (false, eval a X.env) :: starEach [] X.env := by rfl)
    (na2 : starEach [.Call (.Name "range" p2) [a] [] pos2] X.env = (false, eval (.Call (.Name "range" p2) [a] [] pos2) X.env) :: starEach [] X.env := by rfl) :
    SimF X own (.Call (.Name "list" p) [.Call (.Name "range" p2) [a] [] pos2] [] pos) (sRgL sa) :=
  pe_weak (pe_listRg hc hgl hl (prg_1 hgr hr ha na) na2) fun σ H Q ⟨g0, H0, ρ, g, S, E, q⟩ => by
    obtain ⟨d, S', e1, ds, e3, k⟩ := Res.post_ex q
    subst e3
    obtain ⟨n, e2, hn, e4⟩ := rg_ex e1
    cases e4
    refine ⟨g0, H0, ρ, g, S, E, ?_⟩
    rw [e2]
    intro v g1 H1 G1 s1 r1
    cases r1
    refine ⟨n, rfl, rgS_ok hn, fun p' hp => ?_⟩
    have := reps_rg (K := X.K) (mg := X.mg) (g := g1) 0 n
    rw [Int.sub_zero] at this
    exact fresh_end G1 s1 hp this k
theorem v_tupRg (hl : X.mg "tuple" = none) (hr : X.mg "range" = none) (ha : SimE X own a sa) (hc : X.calm = true := by rfl) (hgl : Gl X "tuple" := by rfl) (hgr : Gl X "range" := by rfl)
    (na : starEach [a] X.env = (false, eval a X.env) :: starEach [] X.env := by rfl)
    (na2 : starEach [.Call (.Name "range" p2) [a] [] pos2] X.env = (false, eval (.Call (.Name "range" p2) [a] [] pos2) X.env) :: starEach [] X.env := by rfl) :
    SimE X own (.Call (.Name "tuple" p) [.Call (.Name "range" p2) [a] [] pos2] [] pos) (sRgT sa) :=
  pe_weak (pe_tupRg hc hgl hl (prg_1 hgr hr ha na) na2) fun σ H Q ⟨g0, H0, ρ, g, S, E, q⟩ => by
    obtain ⟨d, S', e1, k⟩ := Res.post_ex q
    obtain ⟨n, e2, hn, e4⟩ := rg_ex e1
    subst e4
    refine ⟨g0, H0, ρ, g, S, E, ?_⟩
    rw [e2]
    intro v g1 H1 G1 s1 r1
    cases r1
    refine ⟨n, rfl, rgS_ok hn, fun p' hp => ?_⟩
    have := reps_rg (K := X.K) (mg := X.mg) (g := g1) 0 n
    rw [Int.sub_zero] at this
    exact k _ _ _ (G1.add hp) (s1.trans (stp_add G1 hp)) (Rep.newT G1 hp this)
end
instance {sa : SE} : IsL (sRgL sa) := ⟨fun _ _ _ _ e => by
  obtain ⟨n, _, _, e4⟩ := rg_ex e
  exact ⟨_, e4⟩⟩
end Ev
namespace HT
open PySem PySem.Spec PyProof PyProof.Rows
section
variable {prog : Program} {w : World} {A : Around} {E : Value → Shared → Prop} {s : Shared}
theorem sliceApplied_rev {sl : Addr} {t : Tok} {n : Nat} {Q : Int × Int × Nat → Shared → Prop} (hs : s.heap.IsSliceOf sl .none .none (.int (-1) t))
    (h : Q ((n : Int) - 1, -1, n) s) : wpAny (model prog w) A (Builtin.Slice.sliceApplied (.ref sl) (pure (n : Int))) Q E s := by
  obtain ⟨os, hos, hcs, hds⟩ := id hs
  unfold Builtin.Slice.sliceApplied Builtin.Slice.sliceFields
  refine wpAny_bind (wpAny_bind (wpAny_field hos hds (x := .none) rfl (wpAny_bind (wpAny_field hos hds (x := .none) rfl (wpAny_bind (wpAny_field hos hds (x := .int (-1) t) rfl (wpAny_pure ?_)))))))
  refine wpAny_bind (slicePart_int ?_)
  show wpAny _ _ (if ((-1 : Int) == 0) = true then _ else _) _ _ s
  rw [if_neg (by decide)]
  refine wpAny_bind (slicePart_none (wpAny_bind (slicePart_none (wpAny_bind (wpAny_pure ?_)))))
  show wpAny _ _ (match Builtin.Slice.sliceAdjust none none (-1) (n : Int) with | (lo, hi) => pure (lo, (-1 : Int), Builtin.Slice.slicePlaces lo hi (-1))) _ _ s
  have e : Builtin.Slice.sliceAdjust none none (-1) (n : Int) = ((n : Int) - 1, -1) := rfl
  rw [e]
  show wpAny _ _ (pure ((n : Int) - 1, (-1 : Int), Builtin.Slice.slicePlaces ((n : Int) - 1) (-1) (-1))) _ _ s
  have e2 : Builtin.Slice.slicePlaces ((n : Int) - 1) (-1) (-1) = n := by
    unfold Builtin.Slice.slicePlaces
    rw [if_neg (by decide)]
    by_cases z : n = 0
    · subst z
      rfl
    · rw [if_pos (by omega), show -(-1 : Int) = 1 from rfl, Int.ediv_one]
      omega
  rw [e2]
  exact wpAny_pure h
theorem filterMap_all {α β : Type} {f : α → Option β} {g : α → β} : ∀ l : List α, (∀ m ∈ l, f m = some (g m)) → l.filterMap f = l.map g
  | [], _ => rfl
  | m :: l, h => by
    rw [List.filterMap_cons, h m List.mem_cons_self, List.map_cons, filterMap_all l fun x hx => h x (List.mem_cons_of_mem _ hx)]
theorem pick_rev (xs : Array Value) : ((List.range xs.size).filterMap fun (m : Nat) => xs[(((xs.size : Int) - 1) + (m : Int) * -1).toNat]?).toArray = xs.toList.reverse.toArray := by
  congr 1
  apply List.ext_getElem?
  intro i
  have e : ∀ m, m < xs.size → xs[(((xs.size : Int) - 1) + (m : Int) * -1).toNat]? = some xs.toList.reverse[m]! := fun m hm => by
    have : (((xs.size : Int) - 1) + (m : Int) * -1).toNat = xs.size - 1 - m := by omega
    rw [this, Array.getElem?_eq_getElem (by omega)]
    congr 1
    rw [getElem!_pos _ _ (by simpa using hm), List.getElem_reverse]
    simp
  rw [show ((List.range xs.size).filterMap fun (m : Nat) => xs[(((xs.size : Int) - 1) + (m : Int) * -1).toNat]?) = (List.range xs.size).map fun m => xs.toList.reverse[m]! from by
    exact filterMap_all _ fun m hm => e m (List.mem_range.mp hm)]
  rw [List.getElem?_map]
  by_cases hi : i < xs.size
  · rw [List.getElem?_range hi]
    show some (xs.toList.reverse[i]!) = _
    rw [getElem!_pos _ _ (by simpa using hi), List.getElem?_eq_getElem]
  · rw [List.getElem?_eq_none (by simp; omega), List.getElem?_eq_none (by simp; omega)]
    rfl
theorem getItem_tuple_rev {t sl : Addr} {items : Array Value} {tk : Tok} {Q : Value → Shared → Prop} (ht : IsTup s.heap t items) (hs : s.heap.IsSliceOf sl .none .none (.int (-1) tk))
    (h : Q (.ref s.heap.objs.size) { s with heap := s.heap.push { cls := .type "tuple", data := .seq items.toList.reverse.toArray } })
    (hsz : items.size ≤ sizeLine) : wpAny (model prog w) A (getItem (.ref t) (.ref sl)) Q E s := by
  have htake : sizeOk (.seq items.toList.reverse.toArray) := by
    show items.toList.reverse.toArray.size ≤ sizeLine
    simpa using hsz
  obtain ⟨os, hos, hcs, hds⟩ := id hs
  have hTs : s.TypeIs (.ref sl) "slice" := ⟨os, hos, hcs⟩
  unfold getItem
  try with_reducible refine wpAny_holding ?_
  first | refine wpAny_bind (wpAny_pure ?_) | skip
  refine wpAny_bind (wpAny_sequenceKey ht.typeIs (by decide) ?_)
  refine wpAny_bind (wpAny_callSpecial?_slot (name := Str.ofString "__getitem__") ht.typeIs PyProof.Rows.slot_tuple_getitem
    (wpAny_call_entry PyProof.Rows.slot_tuple_getitem ht.typeIs entry_tuple_getitem ?_ (args_tuple_getitem _ _)))
  show wpAny _ _ (Builtin.Tuple.tupleItemsOf (.ref t) >>= _) _ _ s
  refine wpAny_bind (tupleItemsOf_ ht ?_)
  refine wpAny_bind (wpAny_typeOf hTs ?_)
  rw [if_pos (by decide)]
  refine wpAny_bind (sliceApplied_rev hs ?_)
  have hno : ¬ ((((items.size : Int) - 1) == 0 && (-1 : Int) == 1 && items.size == items.size) = true) := by
    intro q
    rw [Bool.and_eq_true, Bool.and_eq_true] at q
    exact absurd q.1.2 (by decide)
  show wpAny _ _ (if (((items.size : Int) - 1) == 0 && (-1 : Int) == 1 && items.size == items.size) = true then _ else _) _ _ s
  rw [if_neg hno, pick_rev]
  first
    | exact wpAny_bind (m := Builtin.Tuple.tupleExact _) (wpAny_newObj_type (wpAny_pure ⟨_, rfl, wpAny_pure h⟩) htake)
    | exact wpAny_bind (m := Builtin.Tuple.tupleExact _) (wpAny_newObj_type (wpAny_bind (wpAny_pure (wpAny_pure ⟨_, rfl, wpAny_pure h⟩))) htake)
    | exact wpAny_bind (wpAny_bind (m := Builtin.Tuple.tupleExact _) (wpAny_newObj_type (wpAny_pure (wpAny_pure ⟨_, rfl, wpAny_pure h⟩)) htake))
    | exact wpAny_bind (wpAny_bind (m := Builtin.Tuple.tupleExact _) (wpAny_newObj_type (wpAny_pure ⟨_, rfl, wpAny_pure h⟩) htake))
end
end HT
namespace Ev
open PySem PySem.Spec PyProof.Rows L2
/-! ### xs[::-1] of a list or a tuple -/
def tRevA (K : PySem.W.Frag) (te : TE) : TE := fun σ H Q => te σ H fun x H1 => ∃ a xs, x = .ref a ∧ ((SqL K H1 a xs ∧ ∀ p, H1 p = none → Q (.ref p) (upd H1 p (.lst xs.reverse))) ∨ (SqT K H1 a xs ∧ ∀ p, H1 p = none → Q (.ref p) (upd H1 p (.tup xs.reverse))))
theorem pe_revA {X : Cx} {e : Expr} {te : TE} {k : Nat} {p1 p2 p3 pos : Pos} (he : PE X e te) : PE X (.Subscript e (.Slice none none (some (.UnaryOp .USub (.Constant (.int 1) k p1) p2)) p3) pos) (tRevA X.K te) := by
  refine ⟨fun pins s σ H Q I h => ?_⟩
  refine Subscript_ (thn (he.run pins s σ H _ I h) fun v s1 ⟨x, H1, I1, r1, q1⟩ => ?_)
  obtain ⟨a, xs, ex, q⟩ := q1
  subst ex
  cases r1
  have hst : PO X (some (.UnaryOp .USub (.Constant (.int 1) k p1) p2)) (tPart (tUn (rU fun i => .int (-i)) (tC (.int 1)))) := po_some (pe_un un_neg pe_int)
  refine wpAny_Slice (thn (po_none.run pins s1 σ H1 (fun o H2 => o = none ∧ H2 = H1) I1 ⟨rfl, rfl⟩) fun vl s2 ⟨l, H2, I2, pl, el, e2⟩ => ?_)
  subst el e2
  refine thn (po_none.run pins s2 σ H2 (fun o H3 => o = none ∧ H3 = H2) I2 ⟨rfl, rfl⟩) fun vu s3 ⟨u, H3, I3, pu, eu, e3⟩ => ?_
  subst eu e3
  refine thn (hst.run pins s3 σ H3 (fun o H4 => o = some (-1) ∧ H4 = H3) I3 ⟨1, rfl, -1, rfl, rfl, rfl⟩) fun vs s4 ⟨o, H4, I4, ps, eo, e4⟩ => ?_
  subst eo e4
  have I5 : Inv X pins σ H4 { s4 with heap := s4.heap.push { cls := .type "slice", data := .fields #[vl, vu, vs] } } := I4.kept (t' := s4.toks) fun b ob q => Heap.get?_push_of_some _ q
  show wpAny (model X.prog X.w) X.A (subscriptTail e (.Slice none none (some (.UnaryOp .USub (.Constant (.int 1) k p1) p2)) p3) (.ref a) (.ref s4.heap.objs.size)) (EP X pins σ Q) X.xe { s4 with heap := s4.heap.push { cls := .type "slice", data := .fields #[vl, vu, vs] } }
  rcases q with ⟨hx, q⟩ | ⟨hx, q⟩
  · obtain ⟨its, r, ht, hz⟩ := I5.list hx
    have hlen := r.length
    refine tail_any (ops := [.ref a, .ref s4.heap.objs.size]) ht.isList.typeIs (PySem.slot_list_getitem.lookup) ?_ (by with_unfolding_all rfl)
    refine wpAny_getItem_list_slice ht.isList (Heap.IsSliceOf.new _ vl vu vs) pl pu ps (by decide) ?_ (by rw [List.size_toArray]; omega)
    rw [PySem.W.krv_pick]
    refine ⟨.ref _, _, I5.laid (t' := s4.toks) (o := .lst xs.reverse) (fun b ob q => Heap.get?_push_of_some _ q) (Nat.le_refl _) ?_, rfl, q _ (I5.hok.fresh (Nat.le_refl _))⟩
    exact ⟨by rw [List.length_reverse]; exact hz, _, 0, r.reverse, Heap.get?_push_size _ rfl⟩
  · obtain ⟨its, r, ht, hz⟩ := I5.tuple hx
    have hlen : its.toArray.size = xs.length := by rw [List.size_toArray]; exact r.length.symm
    cases pl
    cases pu
    cases ps
    refine tail_any (ops := [.ref a, .ref s4.heap.objs.size]) ht.typeIs PyProof.Rows.slot_tuple_getitem.lookup ?_ (by with_unfolding_all rfl)
    refine HT.getItem_tuple_rev ht (Heap.IsSliceOf.new _ _ _ _) ?_ (by rw [hlen]; exact hz)
    refine ⟨.ref _, _, I5.laid (t' := s4.toks) (o := .tup xs.reverse) (fun b ob q => Heap.get?_push_of_some _ q) (Nat.le_refl _) ?_, rfl, q _ (I5.hok.fresh (Nat.le_refl _))⟩
    exact ⟨by rw [List.length_reverse]; exact hz, _, r.reverse, IsTup.new _ _⟩
theorem Reps.reverse {K : PySem.W.Frag} {mg : Str → Option Value} {g : Gh} : ∀ {vs : List V} {ds : List D}, Reps K mg g vs ds → Reps K mg g vs.reverse ds.reverse
  | _, _, .nil => .nil
  | _, _, .cons h r => by
    rw [List.reverse_cons, List.reverse_cons]
    exact (Reps.reverse r).append (.one h)
def revD : D → Option D
  | .lst xs => some (.lst xs.reverse)
  | .tup xs => some (.tup xs.reverse)
  | _ => none
@[simp] theorem rev_lst (xs : List D) : revD (.lst xs) = some (.lst xs.reverse) := rfl
@[simp] theorem rev_tup (xs : List D) : revD (.tup xs) = some (.tup xs.reverse) := rfl
def sRev (sa : SE) : SE := fun ρ S => (sa ρ S).then fun d S' => optR (revD d) S'
@[simp] theorem e_rev (sa : SE) (ρ : DEnv) (S : Sto) : sRev sa ρ S = (sa ρ S).then fun d S' => optR (revD d) S' := rfl
theorem sim_rev {X : Cx} {own : List Nat} {e : Expr} {sa : SE} {k : Nat} {p1 p2 p3 pos : Pos} (h : SimE X own e sa) : SimE X own (.Subscript e (.Slice none none (some (.UnaryOp .USub (.Constant (.int 1) k p1) p2)) p3) pos) (sRev sa) :=
  pe_weak (pe_revA h) fun σ H Q ⟨g0, H0, ρ, g, S, E, q⟩ => by
    obtain ⟨d, S', e1, kk⟩ := Res.post_ex q
    obtain ⟨x, S1, e2, e1⟩ := Res.then_ex e1
    obtain ⟨e3, eS⟩ := optR_ex e1
    subst eS
    refine ⟨g0, H0, ρ, g, S, E, ?_⟩
    rw [e2]
    intro v g1 H1 G1 s1 r1
    cases x with
    | lst xs =>
      cases e3
      obtain ⟨p, vs, rfl, hp, rs⟩ := RepR.lst G1 (.inl r1)
      exact ⟨p, vs, rfl, .inl ⟨SqL.of hp, fun p' hp' => kk _ _ _ (G1.add hp') (s1.trans (stp_add G1 hp')) (Rep.newL G1 hp' rs.reverse)⟩⟩
    | tup xs =>
      cases e3
      obtain ⟨p, vs, rfl, hp, rs⟩ := RepR.tup G1 (.inl r1)
      exact ⟨p, vs, rfl, .inr ⟨SqT.of hp, fun p' hp' => kk _ _ _ (G1.add hp') (s1.trans (stp_add G1 hp')) (Rep.newT G1 hp' rs.reverse)⟩⟩
    | _ => cases e3
/-! ### comparisons of data of any depth -/
def rCmpD (K : PySem.W.Frag) (f : PyData → PyData → Bool) : R2 := fun x y H Q => ∃ d e, Dp K H x d ∧ Dp K H y e ∧ PySem.W.alike d e = true ∧ d ≠ .none ∧ d.depth ≤ 60 ∧ Q (.bl (f d e)) H
section
variable {X : Cx}
theorem op_ltD (hu : X.A.units + 62 < cLine) : OpR X (compareOp .Lt) (rCmpD X.K fun d e => PySem.W.dataLt d e) := by
  intro pins s σ H x y v u Q I rx ry ⟨d, e, hd, he, ha, hn, hz, q⟩
  obtain ⟨as, r1⟩ := Dp.reads I _ _ _ hd rx
  obtain ⟨bs, r2⟩ := Dp.reads I _ _ _ he ry
  exact PySem.W.lt_data r1 r2 ha hn (by omega) ⟨.bl _, H, I, rfl, q⟩
theorem op_gtD (hu : X.A.units + 62 < cLine) : OpR X (compareOp .Gt) (rCmpD X.K fun d e => PySem.W.dataLt e d) := by
  intro pins s σ H x y v u Q I rx ry ⟨d, e, hd, he, ha, hn, hz, q⟩
  obtain ⟨as, r1⟩ := Dp.reads I _ _ _ hd rx
  obtain ⟨bs, r2⟩ := Dp.reads I _ _ _ he ry
  exact PySem.W.gt_data r1 r2 ha hn (by omega) ⟨.bl _, H, I, rfl, q⟩
theorem op_leD (hu : X.A.units + 62 < cLine) : OpR X (compareOp .LtE) (rCmpD X.K fun d e => !PySem.W.dataLt e d) := by
  intro pins s σ H x y v u Q I rx ry ⟨d, e, hd, he, ha, hn, hz, q⟩
  obtain ⟨as, r1⟩ := Dp.reads I _ _ _ hd rx
  obtain ⟨bs, r2⟩ := Dp.reads I _ _ _ he ry
  exact PySem.W.le_data r1 r2 ha hn (by omega) ⟨.bl _, H, I, rfl, q⟩
theorem op_geD (hu : X.A.units + 62 < cLine) : OpR X (compareOp .GtE) (rCmpD X.K fun d e => !PySem.W.dataLt d e) := by
  intro pins s σ H x y v u Q I rx ry ⟨d, e, hd, he, ha, hn, hz, q⟩
  obtain ⟨as, r1⟩ := Dp.reads I _ _ _ hd rx
  obtain ⟨bs, r2⟩ := Dp.reads I _ _ _ he ry
  exact PySem.W.ge_data r1 r2 ha hn (by omega) ⟨.bl _, H, I, rfl, q⟩
end
def notNon : PyData → Bool
  | .none => false
  | _ => true
theorem notNon_ok {x : PyData} (h : notNon x = true) : x ≠ .none := fun e => by subst e; cases h
def cmpOk (x y : PyData) : Bool := PySem.W.alike x y && (notNon x && decide (x.depth ≤ 60))
def dCmp (f : PyData → PyData → Bool) (a b : D) : Option D := match a.py, b.py with
  | some x, some y => if cmpOk x y then some (.bl (f x y)) else none
  | _, _ => none
/-- ints by themselves, all else as data -/
def dCmpA (h : Int → Int → Bool) (f : PyData → PyData → Bool) (a b : D) : Option D := match a, b with
  | .int i, .int j => some (.bl (h i j))
  | a, b => dCmp f a b
abbrev dLtA : D → D → Option D := dCmpA (fun i j => decide (i < j)) fun d e => PySem.W.dataLt d e
abbrev dGtA : D → D → Option D := dCmpA (fun i j => decide (j < i)) fun d e => PySem.W.dataLt e d
abbrev dLeA : D → D → Option D := dCmpA (fun i j => decide (i ≤ j)) fun d e => !PySem.W.dataLt e d
abbrev dGeA : D → D → Option D := dCmpA (fun i j => decide (j ≤ i)) fun d e => !PySem.W.dataLt d e
@[simp] theorem d_cmpA_int (h : Int → Int → Bool) (f : PyData → PyData → Bool) (i j : Int) : dCmpA h f (.int i) (.int j) = some (.bl (h i j)) := rfl
@[simp] theorem d_cmpA_tup (h : Int → Int → Bool) (f : PyData → PyData → Bool) (xs ys : List D) : dCmpA h f (.tup xs) (.tup ys) = dCmp f (.tup xs) (.tup ys) := rfl
@[simp] theorem d_cmpA_lst (h : Int → Int → Bool) (f : PyData → PyData → Bool) (xs ys : List D) : dCmpA h f (.lst xs) (.lst ys) = dCmp f (.lst xs) (.lst ys) := rfl
section
variable {X : Cx}
theorem op2_cmpA (h : Int → Int → Bool) (f : PyData → PyData → Bool) : Op2 X (dCmpA h f) (fun x y H Q => rI0 (fun i j => .bl (h i j)) x y H Q ∨ rCmpD X.K f x y H Q) := by
  intro g H S x y a b d Q G ra rb e k
  by_cases hi : ∃ i j, a = .int i ∧ b = .int j
  · obtain ⟨i, j, rfl, rfl⟩ := hi
    cases e
    cases ra.int
    cases rb.int
    exact .inl ⟨i, j, rfl, rfl, k _ _ _ G .refl (.bl _)⟩
  · have e' : dCmp f a b = some d := by
      unfold dCmpA at e
      split at e
      · exact absurd ⟨_, _, rfl, rfl⟩ hi
      · exact e
    unfold dCmp at e'
    cases p1 : a.py with
    | none => rw [p1] at e'; cases e'
    | some x1 => cases p2 : b.py with
      | none => rw [p1, p2] at e'; cases e'
      | some y1 =>
        rw [p1, p2] at e'
        have e2 : (if cmpOk x1 y1 then some (D.bl (f x1 y1)) else none) = some d := e'
        split at e2
        · rename_i ok
          cases e2
          unfold cmpOk at ok
          rw [Bool.and_eq_true, Bool.and_eq_true, decide_eq_true_eq] at ok
          exact .inr ⟨x1, y1, dp_read G ra p1, dp_read G rb p2, ok.1, notNon_ok ok.2.1, ok.2.2, k _ _ _ G .refl (.bl _)⟩
        · cases e2
theorem opr_ltA {k : Nat} (hr : Room k X.A) : OpR X (compareOp .Lt) (fun x y H Q => rI0 (fun i j => .bl (decide (i < j))) x y H Q ∨ rCmpD X.K (fun d e => PySem.W.dataLt d e) x y H Q) := op_lt.or (op_ltD (by have := hr.un; omega))
theorem opr_gtA {k : Nat} (hr : Room k X.A) : OpR X (compareOp .Gt) (fun x y H Q => rI0 (fun i j => .bl (decide (j < i))) x y H Q ∨ rCmpD X.K (fun d e => PySem.W.dataLt e d) x y H Q) := op_gt.or (op_gtD (by have := hr.un; omega))
theorem opr_leA {k : Nat} (hr : Room k X.A) : OpR X (compareOp .LtE) (fun x y H Q => rI0 (fun i j => .bl (decide (i ≤ j))) x y H Q ∨ rCmpD X.K (fun d e => !PySem.W.dataLt e d) x y H Q) := op_le.or (op_leD (by have := hr.un; omega))
theorem opr_geA {k : Nat} (hr : Room k X.A) : OpR X (compareOp .GtE) (fun x y H Q => rI0 (fun i j => .bl (decide (j ≤ i))) x y H Q ∨ rCmpD X.K (fun d e => !PySem.W.dataLt d e) x y H Q) := op_ge.or (op_geD (by have := hr.un; omega))
end
end Ev
namespace PySem.W
open PySem PySem.Calls PyProof.Rows
section
variable {prog : Program} {w : World} {A : Around} {E : Value → Shared → Prop} {s : Shared}
theorem collect_tupE {l : Addr} {vs : List Value} {Q : List Value → Shared → Prop} (hl : ∃ o, s.heap.get? l = some o ∧ o.cls = .type "tuple" ∧ ∃ n, o.data = .seq vs.toArray n)
    (h : Q vs { s with heap := (s.heap.push (seqObj "list" #[] 0)).update s.heap.objs.size (Obj.mapSeq (· ++ vs.toArray)) }) (hsz : vs.length ≤ sizeLine) :
    wpAny (model prog w) A (collect (.ref l)) Q E s := by
  obtain ⟨o, ho, hc, n, hd⟩ := id hl
  unfold collect
  refine wpAny_bind (wpAny_runValue (codeAny_builtin entry_proto_collect' ?_))
  show wpAny _ _ (do again (.builtin "list.__iadd__" ⟨[← newList [], .ref l], []⟩)) _ _ s
  refine wpAny_bind (wpAny_newList (wpAny_pure ⟨Code.quiet_builtin _ (by decide +kernel), codeAny_builtin entry_list_iadd' ?_⟩))
  show wpAny _ _ (Builtin.List.listExtendWith (.ref s.heap.objs.size) (.ref l) (.ref s.heap.objs.size)) _ _ { s with heap := s.heap.push (seqObj "list" #[] 0) }
  unfold Builtin.List.listExtendWith
  have ho' : (s.heap.push (seqObj "list" #[] 0)).get? l = some o := Heap.get?_push_of_some _ ho
  refine wpAny_bind (wpAny_typeOf (T := "tuple") ⟨o, ho', hc⟩ ?_)
  rw [if_pos (by simp)]
  refine wpAny_bind (listItems_at ho' hd ?_)
  refine wpAny_bind (listItems_at (xs := #[]) (n := 0) (Heap.get?_push_size _ rfl) rfl ?_)
  rw [if_neg (by simp)]
  refine wpAny_bind (listUpdate_at (xs := #[]) (n := 0) (Heap.get?_push_size _ rfl) rfl ?_ (Nat.zero_le _) (by show (#[] ++ vs.toArray).size ≤ sizeLine + 1; simp only [Array.size_append, List.size_toArray, List.length_nil]; omega))
  refine wpAny_pure ?_
  show wpAny (model prog w) A (do
      let o ← load s.heap.objs.size
      match o.data with
      | .seq xs _ => pure xs.toList
      | _ => unsupported "internal:collect") Q E { s with heap := (s.heap.push (seqObj "list" #[] 0)).update s.heap.objs.size (Obj.mapSeq (· ++ vs.toArray)) }
  refine wpAny_bind (wpAny_load (get?_update_seq (Heap.get?_push_size _ rfl) _) ?_)
  show wpAny _ _ (pure ((#[] : Array Value) ++ vs.toArray).toList) Q E _
  rw [show ((#[] : Array Value) ++ vs.toArray).toList = vs by simp]
  exact wpAny_pure h
theorem sorted_of_sortT {l : Addr} {vs : List Value} {kw : List (Str × Value)} {Q : Value → Shared → Prop} (hl : ∃ o, s.heap.get? l = some o ∧ o.cls = .type "tuple" ∧ ∃ n, o.data = .seq vs.toArray n) (hL : vs.length ≤ sizeLine) (ha1 : argsOk "sorted" ⟨[.ref l], kw⟩) (ha2 : ∀ x, argsOk "list.sort" ⟨[.ref x], kw⟩)
    (body : ∀ E' : Value → Shared → Prop, wpAny (model prog w) A.in1.in1 (Builtin.«list.sort» ⟨[.ref (s.heap.objs.size + 1)], kw⟩) (fun f s' => f = .done (.ret .none) ∧ Q (.ref (s.heap.objs.size + 1)) s') E' { s with heap := copyHeap s.heap vs }) :
    wpAny (model prog w) A (call (.builtin "sorted") [.ref l] kw) Q E s := by
  refine call_function_entry_kw kind_sorted plain_sorted entry_sorted ha1 ?_
  unfold Builtin.«sorted»
  refine wpAny_bind (m := checkCount "sorted" 1 1 _) (wpAny_pure ?_)
  refine wpAny_bind (collect_tupE hl ?_ hL)
  refine wpAny_bind (wpAny_newList ?_ hL)
  have hsz : ((s.heap.push (seqObj "list" #[] 0)).update s.heap.objs.size (Obj.mapSeq (· ++ vs.toArray))).objs.size = s.heap.objs.size + 1 := by
    rw [Heap.size_update, size_push']
  show wpAny _ _ _ _ _ { s with heap := copyHeap s.heap vs }
  rw [hsz]
  refine wpAny_bind (wpAny_holding (wpAny_call_entry_kw slot_list_sort ⟨_, copyHeap_at s.heap vs, rfl⟩ entry_list_sort ?body (ha2 _)))
  case body =>
    show wpAny (model prog w) A.in1.in1 (Builtin.«list.sort» ⟨[.ref (s.heap.objs.size + 1)], kw⟩) _ _ _
    refine wpAny_mono (body _) (fun f s' hf => ?_) fun _ _ e => e
    obtain ⟨rfl, hq⟩ := hf
    exact ⟨_, rfl, wpAny_pure ⟨_, rfl, hq⟩⟩
variable {β : Type} {vs : List Value} {bs : List β} {enc : β → PyData} {R : Value → β → Prop}
theorem sorted_dataT {l : Addr} {Q : Value → Shared → Prop} (hl : ∃ o, s.heap.get? l = some o ∧ o.cls = .type "tuple" ∧ ∃ n, o.data = .seq vs.toArray n) (e : EachIs R vs bs) (er : EachIs (fun v b => ∃ as, Reads s.heap v (enc b) as) vs bs) (hal : AllAlike (bs.map enc)) (hk : Sortable (bs.map enc)) (hL : bs.length ≤ sizeLine)
    (hu : ∀ b, b ∈ bs → A.units + 2 + (enc b).depth < cLine) (h : ∀ out, out.length = bs.length → EachIs R out (bs.mergeSort (dataLe false enc)) → Q (.ref (s.heap.objs.size + 1)) { s with heap := sortedAll s.heap vs (List.toArray out) }) :
    wpAny (model prog w) A (call (.builtin "sorted") [.ref l]) Q E s := by
  have er' : EachIs (fun v b => ∃ as, Reads (sortingHeap (copyHeap s.heap vs) (s.heap.objs.size + 1) vs) v (enc b) as) vs bs := er.mono fun _ _ ⟨as, r⟩ => ⟨as, PyProof.Rows.Reads.keeps (fun _ _ => sorting_copy_old) r⟩
  have hL' : vs.length ≤ sizeLine := by rw [e.length]; exact hL
  exact sorted_of_sortT hl hL' (args_sorted1 _) (fun _ => args_list_sort _) fun _ => list_sort_vals (s := { s with heap := copyHeap s.heap vs }) (copyHeap_at s.heap vs)
    (SortsAt.data (s := { s with heap := sortingHeap (copyHeap s.heap vs) (s.heap.objs.size + 1) vs }) (each_map (R := fun v d => ∃ as, Reads (sortingHeap (copyHeap s.heap vs) (s.heap.objs.size + 1) vs) v d as) enc er') hal hk (bound_map hu)) hL'
    ⟨rfl, h _ (by rw [sortVals_length false rfl]; exact e.length) (sortVals_data false e er' hal)⟩
end
end PySem.W
namespace Ev
open PySem PySem.Spec PyProof.Rows L2
def rSortedT (K : PySem.W.Frag) : List V → Hp → VK → Prop := fun vs H Q => ∃ (a : Addr) (L : List (V × PyData)), vs = [V.ref a] ∧ SqT K H a (L.map (·.1)) ∧ (∀ x ∈ L, Dp K H x.1 x.2) ∧ sortOk (L.map (·.2)) = true ∧
  ∀ p, H p = none → Q (.ref p) (upd H p (.lst ((L.mergeSort (PySem.W.dataLe false (·.2))).map (·.1))))
section
variable {X : Cx}
theorem cr_sortedT (hu : X.A.units + 62 < cLine) : CallR X (.builtin "sorted") (rSortedT X.K) := by
  intro pins s σ H vs us Q I r h
  obtain ⟨a, L, rfl, hs, hd, ok, q⟩ := h
  obtain ⟨its, rv, hl, hz⟩ := I.tuple hs
  rw [Vals.ref1 r]
  obtain ⟨h1, h2, h3⟩ := sortOk_al ok
  rw [List.length_map] at hz
  refine PySem.W.sorted_dataT (bs := L) (enc := (·.2)) (R := fun u x => RelV x.1 u) hl (vals_each rv fun x _ u h => h) (vals_each rv fun x hx u h => Dp.reads I _ _ _ (hd x hx) h) h1 h2 hz (fun b hb => ?_) fun out ho eo => ?_
  · have := h3 b.2 (List.mem_map.mpr ⟨b, hb, rfl⟩)
    omega
  · obtain ⟨ep, he'⟩ := PyProof.Rows.sortedAll_at s.heap its out.toArray
    have hlen : ((L.mergeSort (PySem.W.dataLe false (·.2))).map (·.1)).length ≤ sizeLine := by
      rw [List.length_map, List.length_mergeSort]
      exact hz
    exact ⟨.ref _, upd H (s.heap.objs.size + 1) (.lst ((L.mergeSort (PySem.W.dataLe false (·.2))).map (·.1))), I.laid (t' := s.toks) (fun _ _ => PyProof.Rows.sortedAll_old) (Nat.le_succ _) ⟨hlen, out, ep, each_vals eo, he'⟩, rfl, q _ (I.hok.fresh (Nat.le_succ _))⟩
def dSortedA : List D → Option D
  | [.tup xs] => dSorted [.lst xs]
  | ds => dSorted ds
@[simp] theorem d_sortedA_tup (xs : List D) : dSortedA [.tup xs] = dSorted [.lst xs] := rfl
@[simp] theorem d_sortedA_lst (xs : List D) : dSortedA [.lst xs] = dSorted [.lst xs] := rfl
theorem sortedA_l {ds : List D} {d : D} (e : dSortedA ds = some d) : ∃ es, d = .lst es := by
  unfold dSortedA at e
  split at e <;> exact sorted_l e
theorem opF_sortedA : OpF X dSortedA (fun xs H Q => rSortedD X.K xs H Q ∨ rSortedT X.K xs H Q) := by
  intro g H S xs ds d Q G r e
  unfold dSortedA at e
  split at e
  · rename_i ys
    obtain ⟨ws, e2, r2⟩ : ∃ x, xs = [x] ∧ RepR X.K X.mg g H x (.tup ys) := rr1 r
    subst e2
    obtain ⟨p, vs, rfl, hp, rs⟩ := r2.tup G
    cases q : pyAll ys with
    | none =>
      have e' : (pyAll ys).bind (fun ps => if sortOk ps then some (D.lst (sortD ys ps)) else none) = some d := e
      rw [q] at e'; cases e'
    | some ps =>
      have e'' : (pyAll ys).bind (fun ps => if sortOk ps then some (D.lst (sortD ys ps)) else none) = some d := e
      rw [q] at e''
      have e' : (if sortOk ps then some (D.lst (sortD ys ps)) else none) = some d := e''
      split at e'
      · rename_i ok
        cases e'
        refine ⟨_, rfl, fun k => .inr ?_⟩
        obtain ⟨ze, hl⟩ := zip_each G.sub rs q
        obtain ⟨_, hdp, _⟩ := each_reps ze
        have hsnd : (vs.zip ps).map (·.2) = ps := List.map_snd_zip (Nat.le_of_eq hl.symm)
        refine ⟨p, vs.zip ps, rfl, ?_, hdp, by rw [hsnd]; exact ok, fun l hl' => ?_⟩
        · have : (vs.zip ps).map (·.1) = vs := List.map_fst_zip (Nat.le_of_eq hl)
          rw [this]
          exact SqT.of hp
        · have ze2 := PySem.W.sort_each (r := PySem.W.dataLe false (·.2)) (s := PySem.W.dataLe false (·.2)) ze fun a ha b hb => by
            have h1 := (each_in ze a ha).2.1
            have h2 := (each_in ze b hb).2.1
            show PySem.W.dataLe false (fun x : V × PyData => x.2) a.1 b.1 = PySem.W.dataLe false (fun x : D × PyData => x.2) a.2 b.2
            unfold PySem.W.dataLe
            unfold PySem.W.sortLe
            simp only [h1, h2]
          exact k l _ hl' (each_reps ze2).1
      · cases e'
  · obtain ⟨es, ed, k⟩ := opF_sorted (X := X) g H S xs ds d Q G r e
    exact ⟨es, ed, fun kk => .inl (k kk)⟩
theorem f_sortedA {own : List Nat} {a : Expr} {sa : SE} {p pos : Pos} {k : Nat} (hr : Room k X.A) (hm : X.mg "sorted" = none) (ha : SimR X own a sa) (hg : Gl X "sorted" := by rfl) (he : starEach (a :: []) X.env = (false, eval a X.env) :: starEach [] X.env := by rfl) (hpl : (backTo pos (starEach ([] : List Expr) X.env)).any (·.1) = false := by rfl) : SimF X own (.Call (.Name "sorted" p) [a] [] pos) (sCallN dSortedA [(false, sa)]) :=
  simf_callB ((cr_sortedD (by have := hr.un; omega)).or (cr_sortedT (by have := hr.un; omega))) opF_sortedA hg hm (by decide +kernel) (simr_cons ha simr_nil he) (by decide) (by decide) he hpl
end
instance {sas : List (Bool × SE)} : IsL (sCallN dSortedA sas) := ⟨fun _ _ _ _ e => callL (fun _ _ h => sortedA_l h) e⟩
/-! ### == and != of own objects by their own methods -/
def eqFacts (K : PySem.W.Frag) (cs : List Str) : Bool := cs.all fun c => (cs.all fun d => PySem.W.notFirst K (He.ga K c) (.ref (He.ga K d))) && tyNames.all fun t => PySem.W.notFirst K (He.ga K c) (.type t)
/-- a value whose class is known -/
def okC (cs : List Str) : D → Bool
  | .obj c _ => decide (c ∈ cs)
  | d => (tyD d).isSome
def isObj (c : Str) : D → Bool
  | .obj c' _ => decide (c' = c)
  | _ => false
def sOwn (cs : List Str) (c : Str) (m : List D → M D) (sa sb : SE) : SE := fun ρ S => (sa ρ S).then fun x S1 => (sb ρ S1).then fun y S2 => if isObj c x && okC cs y then m [x, y] S2 else .bad
@[simp] theorem e_own (cs : List Str) (c : Str) (m : List D → M D) (sa sb : SE) (ρ : DEnv) (S : Sto) : sOwn cs c m sa sb ρ S = (sa ρ S).then fun x S1 => (sb ρ S1).then fun y S2 => if isObj c x && okC cs y then m [x, y] S2 else .bad := rfl
structure GM (P : Program) (w : World) (K : PySem.W.Frag) (mg : Str → Option Value) (base : Heap) (k : Nat) (c nm : Str) (m : List D → M D) : Prop where
  ex : ∃ fd ps, Meth K (He.ga K c) nm (He.ma K (He.ga K c) nm) ∧ Binds K fd ps [] ∧ FnOk P w K mg base CX0 k (He.ma K (He.ga K c) nm) fd ps (spOf K mg 2 m)
theorem gm_of {P : Program} {w : World} {K : PySem.W.Frag} {mg : Str → Option Value} {base : Heap} {x qual : Str} {st : Stmt} {fd : FuncData} {N ps : List Str} {k : Nat} {b : SS} {c nm : Str} (F : FunD K x qual (defArgs st) (defBody st) (defScope st) [] [] (He.ma K (He.ga K c) nm) fd) (hm : Meth K (He.ga K c) nm (He.ma K (He.ga K c) nm)) (Sc : FnScope N ps (defScope st)) (hn : ps.length = 2) (hN : 2 ≤ N.length)
    (hb : ∀ (kV doc pm : Value) (an : Option Addr) (cdv ct : Value) (us : List Value), us.length = ps.length → bindArgs (PySem.W.fnOf x qual (defArgs st) (defBody st) (defScope st) .none kV doc pm an cdv ct) ⟨us, []⟩ = pure (ps.zip us))
    (body : ∀ (cdv : Value) (A : Around) (outer : List Env) (s : Shared) (H : Hp) (E : XK), Room k (A.deeper (envOfC qual (defScope st) s.heap.objs.size (He.ma K (He.ga K c) nm) cdv)) → SimB (Ctx P w K mg base N qual (defScope st) (He.ma K (He.ga K c) nm) cdv A outer s H E) [] [] [] (defBody st) b) :
    GM P w K mg base (k + 1) c nm (runD N.length b) :=
  ⟨fd, ps, hm, F.bindsN hb, fo_of F Sc hn hN body⟩
section
variable {X : Cx}
theorem cmpback0 {v : V} {w : Value} {Q : Value → Shared → Prop} {s : Shared} (r : RelV v w) (q : Q w s) : PySem.W.CmpBack Q w s := by
  unfold PySem.W.CmpBack
  split
  · cases v <;> first | (cases r; done) | (obtain ⟨_, e⟩ := r; cases e)
  · exact q
/-- what the comparison asks -/
def rOwn (K : PySem.W.Frag) (mg : Str → Option Value) (C : Addr) (m : List D → M D) : R2 := fun x y H Q => ∃ a dx fs t, x = .ref a ∧ H a = some (.ins C dx fs) ∧ TyX K H y t ∧ PySem.W.notFirst K C t = true ∧ spOf K mg 2 m [x, y] H Q fun _ _ _ => False
theorem op_own {op : CmpOp} {c nm : Str} {m : List D → M D} {k : Nat} (hop : (cmpInfo op).2.1 = nm) (G : GM X.prog X.w X.K X.mg X.base k c nm m) (hr : Room k X.A) (hc : compareOp op = richCompare op := by rfl) : OpR X (compareOp op) (rOwn X.K X.mg (He.ga X.K c) m) := by
  intro pins s σ H x y v u Q I rx ry ⟨a, dx, fs, t, ex, ha, ty, nf, hq⟩
  subst ex
  cases rx
  obtain ⟨fd, ps, M, hb, F⟩ := G.ex
  obtain ⟨mA, J, _⟩ := ins_get I.hok ha
  obtain ⟨od, J, _⟩ := J.look
  obtain ⟨P, kx, px, _⟩ := kit_of I ry ty
  obtain ⟨mm, hF⟩ := I.fr
  rw [hc]
  refine PySem.W.cmp_K (op := op) (tb := t) hr.units0 hF I.ok.mod.kin J (kx.ty _ _ I.kIn px) nf (by rw [hop]; exact M.at_) M.fn ?_
  refine wpAny_mono (run_fn (us := [.ref a, u]) (vs := [.ref a, y]) (dvs := []) F hr hb .nil pass0 I (.cons rfl (.cons ry .nil)) hq) (fun w s' z => ?_) fun _ _ x => x
  obtain ⟨z', H', I', rz, qz⟩ := z
  exact cmpback0 rz ⟨z', H', I', rz, qz⟩
theorem sim_own {own : List Nat} {a b : Expr} {sa sb : SE} {pos : Pos} {cs : List Str} {op : CmpOp} {c nm : Str} {m : List D → M D} {k : Nat} (C : ClsOk X.K X.mg cs) (ef : eqFacts X.K cs = true) (hcs : c ∈ cs) (hop : (cmpInfo op).2.1 = nm) (G : GM X.prog X.w X.K X.mg X.base k c nm m) (hr : Room k X.A) (ha : SimE X own a sa) (hb : SimE X own b sb)
    (hm : behindInMarks op b = false) (hc : compareOp op = richCompare op := by rfl) : SimE X own (.Compare a [op] [b] pos) (sOwn cs c m sa sb) :=
  pe_weak (pe_cmpR (op_own hop G hr hc) ha hb hm) fun σ H Q ⟨g0, H0, ρ, g, S, E, q⟩ => by
    obtain ⟨d, S', e1, kk⟩ := Res.post_ex q
    obtain ⟨x, S1, e2, e1⟩ := Res.then_ex e1
    obtain ⟨y, S2, e3, e1⟩ := Res.then_ex e1
    refine ⟨g0, H0, ρ, g, S, E, ?_⟩
    rw [e2]
    intro v g1 H1 G1 s1 r1
    refine ⟨g0, H0, ρ, g1, S1, E.step G1 s1, ?_⟩
    rw [e3]
    intro v2 g2 H2 G2 s2 r2
    have e1' : (if (isObj c x && okC cs y) = true then m [x, y] S2 else .bad) = .ok d S' := e1
    split at e1'
    · rename_i ok
      rw [Bool.and_eq_true] at ok
      cases x with
      | obj c' fs =>
        have hcc : c' = c := of_decide_eq_true ok.1
        subst hcc
        have f := List.all_eq_true.mp ef c' hcs
        rw [Bool.and_eq_true] at f
        cases r1 with
        | @obj A C' dx fvs _ _ hmc h1 h2 rf =>
          have hCe : C' = He.ga X.K c' := by
            have := (C.glo c' hcs).symm.trans hmc
            cases this
            rfl
          subst hCe
          have sp : spOf X.K X.mg 2 m [.ref A, v2] H2 Q fun _ _ _ => False := ⟨g2, [.obj c' fs, y], S2, G2, .cons (.obj hmc (s2.le.F _ _ h1) (s2.le.F _ _ h2) (rf.mono s2.le)) (.cons r2 .nil), rfl, by
            rw [e1']
            exact fun v3 g3 H3 G3 s3 r3 => kk v3 g3 H3 G3 ((s1.trans s2).trans s3) r3⟩
          have hA : H2 A = some (.ins (He.ga X.K c') dx fvs) := G2.sub _ _ (s2.le.F _ _ h1)
          have base : ∀ t, tyD y = some t → rOwn X.K X.mg (He.ga X.K c') m (.ref A) v2 H2 Q := fun t ht =>
            ⟨A, dx, fvs, .type t, rfl, hA, tyx_of G2 (.inl r2) ht, List.all_eq_true.mp f.2 t (ty_mem ht), sp⟩
          cases y with
          | obj d gs =>
            have hd : d ∈ cs := of_decide_eq_true ok.2
            cases r2 with
            | @obj B D' dy gvs _ _ hmd k1 k2 rg =>
              have hDe : D' = He.ga X.K d := by
                have := (C.glo d hd).symm.trans hmd
                cases this
                rfl
              subst hDe
              have cf := C.facts
              unfold clsFacts at cf
              rw [Bool.and_eq_true, Bool.and_eq_true, decide_eq_true_eq, decide_eq_true_eq] at cf
              have fo := List.all_eq_true.mp cf.2 d hd
              rw [Bool.and_eq_true, Bool.and_eq_true, Bool.and_eq_true, decide_eq_true_eq, decide_eq_true_eq] at fo
              exact ⟨A, dx, fvs, .ref (He.ga X.K d), rfl, hA, .base (.ins (G2.sub _ _ k1) (C.cls d hd) fo.1.1 cf.1.1 cf.1.2 fo.1.2), List.all_eq_true.mp f.1 d hd, sp⟩
          | mref i => cases ok.2
          | scr ns => cases ok.2
          | non => exact base _ rfl
          | bl _ => exact base _ rfl
          | int _ => exact base _ rfl
          | str _ => exact base _ rfl
          | tup _ => exact base _ rfl
          | lst _ => exact base _ rfl
      | _ => cases ok.1
    · cases e1'
end
end Ev
namespace Ev
open PySem PySem.Spec PyProof.Rows L2
/-! ### sum of a tuple of ints -/
def rSumT (K : PySem.W.Frag) : List V → Hp → VK → Prop := fun vs H Q => ∃ (a : Addr) (ns : List Int), vs = [V.ref a] ∧ SqT K H a (ns.map V.int) ∧ Q (.int ns.sum) H
section
variable {X : Cx}
theorem cr_sumT (hc : X.calm = true) : CallR X (.builtin "sum") (rSumT X.K) := by
  intro pins s σ H vs us Q I r h
  obtain ⟨a, ns, rfl, hs, q⟩ := h
  obtain ⟨its, rv, hl, _⟩ := I.tuple hs
  rw [Vals.ref1 r]
  have hi := rv.ints
  obtain ⟨xs, e⟩ := hi.allInts.items
  have hn : numsOf (intItems xs).toList = ns := by rw [← e]; exact hi.numsOf
  rw [nums_intItems] at hn
  rw [e] at hl
  refine PySem.W.ktm_sumG (I.ok.hd hc) hl fun h' tk t' hk => ?_
  refine ⟨.int _, H, I.kept hk, ?_, q⟩
  rw [preSum_eq, List.take_of_length_le (by simp), hn]
  exact ⟨_, rfl⟩
def dSumA : List D → Option D
  | [.tup xs] => dSum [.lst xs]
  | ds => dSum ds
@[simp] theorem d_sumA_tup (xs : List D) : dSumA [.tup xs] = dSum [.lst xs] := rfl
@[simp] theorem d_sumA_lst (xs : List D) : dSumA [.lst xs] = dSum [.lst xs] := rfl
theorem opN_sumA : OpN X dSumA (fun xs H Q => rSum X.K xs H Q ∨ rSumT X.K xs H Q) := by
  intro g H S xs ds d Q G r e k
  unfold dSumA at e
  split at e
  · rename_i ys
    obtain ⟨x, rfl, r2⟩ := rr1 r
    obtain ⟨p, vs, rfl, hp, rs⟩ := r2.tup G
    have e' : (intsD ys).map (fun ns => D.int ns.sum) = some d := e
    cases q : intsD ys with
    | none => rw [q] at e'; cases e'
    | some ns =>
      rw [q] at e'
      cases e'
      have hv := ints_of rs q
      subst hv
      exact .inr ⟨p, ns, rfl, SqT.of hp, k _ _ _ G .refl (.int _)⟩
  · exact .inl (opN_sum (X := X) g H S xs ds d Q G r e k)
theorem v_sumA {own : List Nat} {a : Expr} {sa : SE} {p pos : Pos} (hm : X.mg "sum" = none) (ha : SimR X own a sa) (hc : X.calm = true := by rfl) (hg : Gl X "sum" := by rfl) (he : starEach (a :: []) X.env = (false, eval a X.env) :: starEach [] X.env := by rfl) (hpl : (backTo pos (starEach ([] : List Expr) X.env)).any (·.1) = false := by rfl) : SimE X own (.Call (.Name "sum" p) [a] [] pos) (sCallN dSumA [(false, sa)]) :=
  sim_callB ((cr_sum hc).or (cr_sumT hc)) opN_sumA hg hm (by decide +kernel) (simr_cons ha simr_nil he) (by decide) (by decide) he hpl
end
end Ev
namespace Ev
open PySem PySem.Spec PyProof.Rows L2
/-! ### x in a tuple of data -/
def rInT (K : PySem.W.Frag) : R2 := fun x y H Q => ∃ d ds, Dp K H x d ∧ Dp K H y (.tuple ds) ∧ SeqAt.shaped d = true ∧ SeqAt.shaped (.tuple ds) = true ∧ Q (.bl (ds.any fun z => PyData.eqv z d)) H
def rNotInT (K : PySem.W.Frag) : R2 := fun x y H Q => ∃ d ds, Dp K H x d ∧ Dp K H y (.tuple ds) ∧ SeqAt.shaped d = true ∧ SeqAt.shaped (.tuple ds) = true ∧ Q (.bl (!ds.any fun z => PyData.eqv z d)) H
section
variable {X : Cx}
theorem op_inT (hu : X.A.units + 65 < cLine) : OpR X (compareOp .In) (rInT X.K) := by
  intro pins s σ H x y v u Q I rx ry h
  obtain ⟨d, ds, hd, he, sd, se, q⟩ := h
  obtain ⟨as, r1⟩ := Dp.reads I d x v hd rx
  obtain ⟨bs, r2⟩ := Dp.reads I (.tuple ds) y u he ry
  exact SeqAt.in_tuple_reads r2 r1 (SeqAt.canLay_of_shaped se) (SeqAt.canLay_of_shaped sd) (room_in_shaped sd hu) ⟨.bl _, H, I, rfl, q⟩
theorem op_notInT (hu : X.A.units + 65 < cLine) : OpR X (compareOp .NotIn) (rNotInT X.K) := by
  intro pins s σ H x y v u Q I rx ry h
  obtain ⟨d, ds, hd, he, sd, se, q⟩ := h
  obtain ⟨as, r1⟩ := Dp.reads I d x v hd rx
  obtain ⟨bs, r2⟩ := Dp.reads I (.tuple ds) y u he ry
  exact SeqAt.notIn_tuple_reads r2 r1 (SeqAt.canLay_of_shaped se) (SeqAt.canLay_of_shaped sd) (room_in_shaped sd hu) ⟨.bl _, H, I, rfl, q⟩
/-- x in y: a text, a list or a tuple -/
def dInA (neg : Bool) (a b : D) : Option D := match b with
  | .tup ys => dIn neg a (.lst ys)
  | b => dIn neg a b
@[simp] theorem d_inA_lst (n : Bool) (a : D) (ys : List D) : dInA n a (.lst ys) = dIn n a (.lst ys) := rfl
@[simp] theorem d_inA_tup (n : Bool) (a : D) (ys : List D) : dInA n a (.tup ys) = dIn n a (.lst ys) := rfl
@[simp] theorem d_inA_str (n : Bool) (a : D) (y : Str) : dInA n a (.str y) = dIn n a (.str y) := rfl
theorem sh_tl (zs : List PyData) : SeqAt.shaped (.tuple zs) = SeqAt.shaped (.list zs) := by
  unfold SeqAt.shaped
  rw [PyData.canLay0, PyData.canLay0, PyData.depth, PyData.depth]
theorem op2_inA (r : R2) (h : Op2 X (dIn false) r) : Op2 X (dInA false) (fun x y H Q => r x y H Q ∨ rInT X.K x y H Q) := by
  intro g H S x y a b d Q G ra rb e k
  unfold dInA at e
  split at e
  · rename_i ys
    rw [dIn_lst (fun _ _ _ => fun z => nomatch z)] at e
    split at e
    · rename_i u zs q1 q2
      split at e
      · rename_i hz
        cases e
        obtain ⟨h1, h2⟩ := Bool.and_eq_true_iff.mp hz
        refine .inr ⟨u, zs, dp_read G ra q1, dp_read G rb ?_, h1, by rw [sh_tl]; exact h2, k _ g H G .refl (.bl _)⟩
        show (pyAll ys).map PyData.tuple = _
        rw [q2] <;> rfl
      · cases e
    · cases e
  · exact .inl (h g H S x y a b d Q G ra rb e k)
theorem op2_notInA (r : R2) (h : Op2 X (dIn true) r) : Op2 X (dInA true) (fun x y H Q => r x y H Q ∨ rNotInT X.K x y H Q) := by
  intro g H S x y a b d Q G ra rb e k
  unfold dInA at e
  split at e
  · rename_i ys
    rw [dIn_lst (fun _ _ _ => fun z => nomatch z)] at e
    split at e
    · rename_i u zs q1 q2
      split at e
      · rename_i hz
        cases e
        obtain ⟨h1, h2⟩ := Bool.and_eq_true_iff.mp hz
        refine .inr ⟨u, zs, dp_read G ra q1, dp_read G rb ?_, h1, by rw [sh_tl]; exact h2, k _ g H G .refl (.bl _)⟩
        show (pyAll ys).map PyData.tuple = _
        rw [q2] <;> rfl
      · cases e
    · cases e
  · exact .inl (h g H S x y a b d Q G ra rb e k)
theorem opr_inA {k : Nat} (hr : Room k X.A) : OpR X (compareOp .In) (fun x y H Q => ((∃ i j, x = .str i ∧ y = .str j ∧ Q (.bl (!(Builtin.Str.occurrences j i 0 j.length 1).isEmpty)) H) ∨ rInD X.K x y H Q) ∨ rInT X.K x y H Q) := (opr_in hr).or (op_inT (by have := hr.un; omega))
theorem opr_notInA {k : Nat} (hr : Room k X.A) : OpR X (compareOp .NotIn) (fun x y H Q => ((∃ i j, x = .str i ∧ y = .str j ∧ Q (.bl (!(!(Builtin.Str.occurrences j i 0 j.length 1).isEmpty))) H) ∨ rNotInD X.K x y H Q) ∨ rNotInT X.K x y H Q) := (opr_notIn hr).or (op_notInT (by have := hr.un; omega))
end
end Ev
namespace L2
open PySem PySem.Spec PyProof.Rows
section
variable {X : Cx}
/-- {k: v}, the key a tuple of ints and texts -/
def tDisp1T (tk tv : TE) : TE := fun σ H Q => ∀ p, H p = none → tk σ (upd H p (.dT [])) fun x H1 => tv σ H1 fun y H2 => H2 p = some (.dT []) ∧ ∃ (ks : List Key) (b : Addr), x = .ref b ∧ H2 b = some (.tup (ks.map kV)) ∧ Q (.ref p) (upd H2 p (.dT [(ks, y)]))
theorem pe_disp1T (hu : X.A.units + 1 < cLine) {k v : Expr} {pos : Pos} {tk tv : TE} (hk : PE X k tk) (hv : PE X v tv) : PE X (.Dict [some k] [v] pos) (tDisp1T tk tv) := by
  have h := pps_cons (pos := pos) hk hv pps_nil
  refine ⟨fun pins s σ H Q I q => ?_⟩
  have hn := I.hok.fresh (Nat.le_refl s.heap.objs.size)
  have I1 := I.laid (a := s.heap.objs.size) (o := .dT []) (h' := s.heap.push { cls := .type "dict", data := .dict #[] }) (t' := s.toks) (fun _ _ q => Heap.get?_push_of_some _ q) (Nat.le_refl _) (dt_empty s.heap I.big)
  have hp := zip_pairTrees [some k] [v] X.env pos rfl rfl
  have hl := pairTrees_length [some k] [v] X.env pos rfl rfl
  rw [arm_eval_Dict, hp, dictDisplay_pairs (pairTrees [some k] [v] X.env pos) (fun e => by rw [e] at hl; cases hl) (by rw [hl]; exact (by decide : 1 < 17))]
  refine wpAny_bind (wpAny_standAt (wpAny_bind (wpAny_subDictH (knd := tupleKind (mixKind X.prog X.w)) (Q := fun d s' => wpAny (model X.prog X.w) X.A (pure (Value.ref d)) (fun v s' => ∃ x H', Inv X pins σ H' s' ∧ RelV x v ∧ Q x H') X.xe s') (by show X.A.units < cLine; omega) (by rw [hl]; exact (by decide : 1 ≤ 15)) (thn (h.run pins _ σ _ (fun ps H2 => match ps with
    | [(x, y)] => H2 s.heap.objs.size = some (.dT []) ∧ ∃ (ks : List Key) (b : Addr), x = .ref b ∧ H2 b = some (.tup (ks.map kV)) ∧ Q (.ref s.heap.objs.size) (upd H2 s.heap.objs.size (.dT [(ks, y)]))
    | _ => False) I1 (q _ hn)) fun ws s2 ⟨ps, H2, I2, rel, e⟩ => ?_))))
  match ps, rel, e with
  | [(x, y)], rel, e =>
    obtain ⟨e, ks, b, ex, eb, q2⟩ := e
    subst ex
    cases rel with
    | @cons a0 w1 as0 wr r1 r2 =>
      cases r2
      obtain ⟨w1, w2⟩ := w1
      obtain ⟨ra, rb⟩ := r1
      obtain rfl : w1 = Value.ref b := ra
      obtain ⟨z, hd, xs0, r0, dd⟩ := dt_of I2.hok e
      cases r0
      refine ⟨[(ks, b, w2)], ⟨rfl, rfl, key_of I2.hok eb, trivial⟩, dd, fun h' tk dd' hs => wpAny_pure ⟨.ref s.heap.objs.size, _, ?_, rfl, q2⟩⟩
      obtain ⟨o, es, ep, hq, h2, h3, h4, _, h5⟩ := dd'
      have ne : b ≠ s.heap.objs.size := ne_of eb e (fun z => nomatch z)
      refine d_write I2 (by rw [e]; exact True.intro) hs ⟨o, hq⟩ ⟨by show 1 ≤ sizeLine; rw [sizeLine_eq]; decide, hd, [(ks, b, w2)], .cons ⟨rfl, ?_, rb⟩ .nil, o, es, ep, hq, h2, h3, h4, h5⟩
      rw [upd_ne ne]
      exact eb
end
end L2
namespace Ev
open PySem PySem.Spec PyProof.Rows L2
/-! ### dicts whose keys are tuples: made -/
def sDictT0 : SE := fun _ S => .ok (.mref S.length) (S ++ [.t false []])
@[simp] theorem e_dictT0 (ρ : DEnv) (S : Sto) : sDictT0 ρ S = .ok (.mref S.length) (S ++ [.t false []]) := rfl
def newT (k d : D) (S : Sto) : Res D := match keysD k with
  | some ks => .ok (.mref S.length) (S ++ [.t false [(ks, d)]])
  | none => .bad
def sDictT1 (sk sv : SE) : SE := fun ρ S => (sk ρ S).then fun k S1 => (sv ρ S1).then fun d S2 => newT k d S2
@[simp] theorem e_dictT1 (sk sv : SE) (ρ : DEnv) (S : Sto) : sDictT1 sk sv ρ S = (sk ρ S).then fun k S1 => (sv ρ S1).then fun d S2 => newT k d S2 := rfl
section
variable {X : Cx} {own : List Nat} {k v o i e f : Expr} {sk sv so si se sf : SE} {pos pos' apos : Pos} {n : Nat}
theorem sim_dictT0 : SimE X own (.Dict [] [] pos) sDictT0 := pe_weak pe_dnewT fun σ H Q ⟨g0, H0, ρ, g, S, E, q⟩ => by
  intro p hp
  have hA := E.gok.notin hp
  have G2 := (E.gok.fresh (o := .dT []) hp).newM (m := .t false []) upd_same (E.gok.nfree hp) hA (.t .nil : MOk X.K X.mg g p (.dT []) (.t false []))
  rw [upd_upd] at G2
  refine q _ _ _ G2 (stp_newM (S := S) (o := .dT []) hp (Stp.refl) hA) (.mref ?_)
  show (g.as ++ [p])[S.length]? = some p
  rw [List.getElem?_append_right (by rw [E.gok.len]; exact Nat.le_refl _), E.gok.len]
  simp
theorem sim_dictT1 (hr : Room n X.A) (hk : SimE X own k sk) (hv : SimE X own v sv) : SimE X own (.Dict [some k] [v] pos) (sDictT1 sk sv) := pe_weak (pe_disp1T (hu_of hr) hk hv) fun σ H Q ⟨g0, H0, ρ, g, S, E, q⟩ => by
  obtain ⟨d, S', e1, kk⟩ := Res.post_ex q
  obtain ⟨kd, S1, e2, e1⟩ := Res.then_ex e1
  obtain ⟨vd, S2, e3, e1⟩ := Res.then_ex e1
  intro p hp
  have E1 := E.step (E.gok.fresh (o := .dT []) hp) (stp_fresh hp)
  refine ⟨g0, H0, ρ, g, S, E1, ?_⟩
  rw [e2]
  intro v1 g1 H1 G1 s1 r1
  refine ⟨g0, H0, ρ, g1, S1, E1.step G1 s1, ?_⟩
  rw [e3]
  intro v2 g2 H2 G2 s2 r2
  have s' := s1.trans s2
  have hpa : p ∉ g.as := E.gok.notin hp
  have hp' : H2 p = some (.dT []) := s'.keep _ _ upd_same hpa
  obtain ⟨hF, hA⟩ := s'.stay upd_same (E.gok.nfree hp) hpa fun _ z => nomatch z
  refine ⟨hp', ?_⟩
  unfold newT at e1
  cases qk : keysD kd with
  | none => rw [qk] at e1; cases e1
  | some ks =>
    rw [qk] at e1
    cases e1
    obtain ⟨b, rfl, hb⟩ := rep_keys (r1.mono s2.le) qk
    refine ⟨ks, b, rfl, G2.sub _ _ hb, ?_⟩
    have G3 := G2.newM (o := .dT [(ks, v2)]) (m := .t false [(ks, vd)]) hp' hF hA (.t (.cons r2 .nil))
    refine kk _ _ _ G3 (stp_newM (S := S) (o := .dT []) hp ((stp_fresh (g := g) (o := .dT []) hp).trans s') hpa) (.mref ?_)
    show (g2.as ++ [p])[S2.length]? = some p
    rw [List.getElem?_append_right (by rw [G2.len]; exact Nat.le_refl _), G2.len]
    simp
/-! ### o[i]: a dict, or a list, a tuple, a text -/
def ixS (S : Sto) (o k : D) : Option D := match o with
  | .mref i => getO S (.mref i) k
  | o => dIx o k
def sIxA (so sk : SE) : SE := fun ρ S => (so ρ S).then fun o S1 => (sk ρ S1).then fun k S2 => optR (ixS S2 o k) S2
@[simp] theorem e_ixA (so sk : SE) (ρ : DEnv) (S : Sto) : sIxA so sk ρ S = (so ρ S).then fun o S1 => (sk ρ S1).then fun k S2 => optR (ixS S2 o k) S2 := rfl
@[simp] theorem ixS_tup (S : Sto) (xs : List D) (k : D) : ixS S (.tup xs) k = dIx (.tup xs) k := rfl
@[simp] theorem ixS_lst (S : Sto) (xs : List D) (k : D) : ixS S (.lst xs) k = dIx (.lst xs) k := rfl
@[simp] theorem ixS_str (S : Sto) (x : Str) (k : D) : ixS S (.str x) k = dIx (.str x) k := rfl
theorem pe_or {t t' : TE} (h : PE X e t) (h' : PE X e t') : PE X e (fun σ H Q => t σ H Q ∨ t' σ H Q) := ⟨fun pins s σ H Q I q => q.elim (h.run pins s σ H Q I) (h'.run pins s σ H Q I)⟩
theorem RepR.key {K : PySem.W.Frag} {mg : Str → Option Value} {g : Gh} {H : Hp} {v : V} {m : MO} {d : D} (r : RepR K mg g H v d) (h : okM m d = true) : Rep K mg g v d := r.rep fun ds e => by
  subst e
  cases m <;> cases h
theorem sim_ixA (hr : Room n X.A) (ha : SimR X own o so) (hb : SimR X own i si) (hs : PlainIx i) (hs2 : NoSl i := by exact fun _ _ => rfl) : SimE X own (.Subscript o i pos) (sIxA so si) :=
  pe_weak (pe_or (pe_dget (hu_of hr) ha hb hs2) (pe_ix ix_seq ha hb hs)) fun σ H Q ⟨g0, H0, ρ, g, S, E, q⟩ => by
    obtain ⟨d, S', e1, k⟩ := Res.post_ex q
    obtain ⟨od, S1, e2, e1⟩ := Res.then_ex e1
    obtain ⟨kd, S2, e3, e1⟩ := Res.then_ex e1
    obtain ⟨e4, eS⟩ := optR_ex e1
    subst eS
    by_cases hm : ∃ j, od = .mref j
    · obtain ⟨j, rfl⟩ := hm
      refine .inl ⟨g0, H0, ρ, g, S, E, ?_⟩
      rw [e2]
      intro v g1 H1 G1 s1 r1
      refine ⟨g0, H0, ρ, g1, S1, E.step G1 s1, ?_⟩
      rw [e3]
      intro v2 g2 H2 G2 s2 r2
      have e5 : S2[j]?.bind (fun m => getM m kd) = some d := e4
      cases q5 : S2[j]? with
      | none => rw [q5] at e5; cases e5
      | some m =>
        rw [q5] at e5
        have e6 : getM m kd = some d := e5
        have hok := getM_key e6
        cases (r1.rep (fun _ e => nomatch e)).mono s2.le with
        | mref ha =>
          obtain ⟨o, hg, hv⟩ := dget_of G2 ha q5 (r2.key hok) hok
          rw [e6] at hv
          cases o with
          | none => exact hv.elim
          | some u => exact ⟨_, u, rfl, hg, k u g2 H2 G2 (s1.trans s2) hv⟩
    · have e5 : dIx od kd = some d := by
        cases od with
        | mref j => exact absurd ⟨j, rfl⟩ hm
        | _ => exact e4
      refine .inr (two_of op2_ix ⟨g0, H0, ρ, g, S, E, ?_⟩)
      show ((so ρ S).then fun x S1 => (si ρ S1).then fun y S2 => optR (dIx x y) S2).post _
      rw [e2]
      show ((si ρ S1).then fun y S2 => optR (dIx od y) S2).post _
      rw [e3]
      show (optR (dIx od kd) S2).post _
      rw [e5]
      exact k
/-! ### x in a dict, or in a list, a tuple, a text -/
def inM (neg : Bool) (m : MO) (k : D) : Option D := if okM m k then some (.bl (if neg then !(getM m k).isSome else (getM m k).isSome)) else none
def inS (neg : Bool) (S : Sto) (k o : D) : Option D := match o with
  | .mref j => S[j]?.bind fun m => inM neg m k
  | o => dInA neg k o
def sInA (neg : Bool) (sk so : SE) : SE := fun ρ S => (sk ρ S).then fun k S1 => (so ρ S1).then fun o S2 => optR (inS neg S2 k o) S2
@[simp] theorem e_inA (neg : Bool) (sk so : SE) (ρ : DEnv) (S : Sto) : sInA neg sk so ρ S = (sk ρ S).then fun k S1 => (so ρ S1).then fun o S2 => optR (inS neg S2 k o) S2 := rfl
@[simp] theorem inS_tup (neg : Bool) (S : Sto) (xs : List D) (k : D) : inS neg S k (.tup xs) = dInA neg k (.tup xs) := rfl
@[simp] theorem inS_lst (neg : Bool) (S : Sto) (xs : List D) (k : D) : inS neg S k (.lst xs) = dInA neg k (.lst xs) := rfl
@[simp] theorem inS_str (neg : Bool) (S : Sto) (x : Str) (k : D) : inS neg S k (.str x) = dInA neg k (.str x) := rfl
def rDIn (neg : Bool) : R2 := fun y x H Q => ∃ a o, x = .ref a ∧ DGet H a y o ∧ Q (.bl (if neg then !o.isSome else o.isSome)) H
theorem opr_din (hr : Room n X.A) : OpR X (compareOp .In) (rDIn false) := by
  intro pins s σ H x y v u Q I rx ry h
  obtain ⟨a, o, rfl, g, q⟩ := h
  obtain rfl : u = Value.ref a := ry
  exact d_in (hu_of hr) I g rx fun s' I' => ⟨.bl o.isSome, H, I', rfl, q⟩
theorem opr_dnotin (hr : Room n X.A) : OpR X (compareOp .NotIn) (rDIn true) := by
  intro pins s σ H x y v u Q I rx ry h
  obtain ⟨a, o, rfl, g, q⟩ := h
  obtain rfl : u = Value.ref a := ry
  exact d_notIn (hu_of hr) I g rx fun s' I' => ⟨.bl (!o.isSome), H, I', rfl, q⟩
theorem in_of {neg : Bool} {r : R2} (hf : Op2 X (dInA neg) r) {σ : L2.St} {H : Hp} {Q : VK} (h : tE X own (sInA neg sk so) σ H Q) : tOp (fun x y H Q => r x y H Q ∨ rDIn neg x y H Q) (tR X own sk) (tR X own so) σ H Q := by
  obtain ⟨g0, H0, ρ, g, S, E, q⟩ := h
  obtain ⟨d, S', e1, k⟩ := Res.post_ex q
  obtain ⟨kd, S1, e2, e1⟩ := Res.then_ex e1
  obtain ⟨od, S2, e3, e1⟩ := Res.then_ex e1
  obtain ⟨e4, eS⟩ := optR_ex e1
  subst eS
  refine ⟨g0, H0, ρ, g, S, E, ?_⟩
  rw [e2]
  intro v g1 H1 G1 s1 r1
  refine ⟨g0, H0, ρ, g1, S1, E.step G1 s1, ?_⟩
  rw [e3]
  intro v2 g2 H2 G2 s2 r2
  by_cases hm : ∃ j, od = .mref j
  · obtain ⟨j, rfl⟩ := hm
    right
    have e5 : S2[j]?.bind (fun m => inM neg m kd) = some d := e4
    cases q5 : S2[j]? with
    | none => rw [q5] at e5; cases e5
    | some m =>
      rw [q5] at e5
      have e6 : (if okM m kd then some (D.bl (if neg then !(getM m kd).isSome else (getM m kd).isSome)) else none) = some d := e5
      split at e6
      · rename_i hok
        cases e6
        cases r2.rep (fun _ e => nomatch e) with
        | mref ha =>
          obtain ⟨o, hg, hv⟩ := dget_of G2 ha q5 ((r1.step s2).key hok) hok
          have ho : (getM m kd).isSome = o.isSome := by
            cases q1 : getM m kd <;> cases o <;> rw [q1] at hv <;> first | rfl | exact hv.elim
          refine ⟨_, o, rfl, hg, ?_⟩
          rw [← ho]
          exact k _ g2 H2 G2 (s1.trans s2) (.bl _)
      · cases e6
  · left
    have e5 : dInA neg kd od = some d := by
      cases od with
      | mref j => exact absurd ⟨j, rfl⟩ hm
      | _ => exact e4
    exact hf g2 H2 S2 _ _ _ _ _ Q G2 (r1.step s2) r2 e5 fun v g' H' G s r => k v g' H' G ((s1.trans s2).trans s) r
theorem sim_inA {r : R2} (hr : Room n X.A) (ho : OpR X (compareOp .In) r) (hf : Op2 X (dInA false) r) (ha : SimR X own k sk) (hb : SimR X own o so) (hm : behindInMarks .In o = false) : SimE X own (.Compare k [.In] [o] pos) (sInA false sk so) :=
  pe_weak (pe_cmpR (ho.or (opr_din hr)) ha hb hm) fun _ _ _ h => in_of hf h
theorem sim_notInA {r : R2} (hr : Room n X.A) (ho : OpR X (compareOp .NotIn) r) (hf : Op2 X (dInA true) r) (ha : SimR X own k sk) (hb : SimR X own o so) (hm : behindInMarks .NotIn o = false) : SimE X own (.Compare k [.NotIn] [o] pos) (sInA true sk so) :=
  pe_weak (pe_cmpR (ho.or (opr_dnotin hr)) ha hb hm) fun _ _ _ h => in_of hf h
theorem sim_inAT {r : R2} (hr : Room n X.A) (ho : OpR X (compareOp .In) r) (hf : Op2 X (dInA false) r) (ha : SimR X own k sk) (hb : SimR X own o so) (hm : behindInMarks .In o = false) : SimT X own (.Compare k [.In] [o] pos) (sBool (sInA false sk so)) :=
  pt_weak (pt_cmpR (ho.or (opr_din hr)) ha hb hm) fun _ _ _ h => in_of hf (sBool_of h)
theorem sim_notInAT {r : R2} (hr : Room n X.A) (ho : OpR X (compareOp .NotIn) r) (hf : Op2 X (dInA true) r) (ha : SimR X own k sk) (hb : SimR X own o so) (hm : behindInMarks .NotIn o = false) : SimT X own (.Compare k [.NotIn] [o] pos) (sBool (sInA true sk so)) :=
  pt_weak (pt_cmpR (ho.or (opr_dnotin hr)) ha hb hm) fun _ _ _ h => in_of hf (sBool_of h)
/-! ### d.get(k), d.get(k, x) -/
def getS (S : Sto) (o k z : D) : Option D := match o with
  | .mref j => S[j]?.bind fun m => if okM m k then some ((getM m k).getD z) else none
  | _ => none
def sGet1 (so sk : SE) : SE := fun ρ S => (so ρ S).then fun o S1 => (sk ρ S1).then fun k S2 => optR (getS S2 o k .non) S2
def sGet2 (so sk sz : SE) : SE := fun ρ S => (so ρ S).then fun o S1 => (sk ρ S1).then fun k S2 => (sz ρ S2).then fun z S3 => optR (getS S3 o k z) S3
@[simp] theorem e_get1 (so sk : SE) (ρ : DEnv) (S : Sto) : sGet1 so sk ρ S = (so ρ S).then fun o S1 => (sk ρ S1).then fun k S2 => optR (getS S2 o k .non) S2 := rfl
@[simp] theorem e_get2 (so sk sz : SE) (ρ : DEnv) (S : Sto) : sGet2 so sk sz ρ S = (so ρ S).then fun o S1 => (sk ρ S1).then fun k S2 => (sz ρ S2).then fun z S3 => optR (getS S3 o k z) S3 := rfl
theorem isd_of {K : PySem.W.Frag} {mg : Str → Option Value} {g : Gh} {H : Hp} {S : Sto} (G : GOk K mg g H S) {j : Nat} {a : Addr} (ha : g.as[j]? = some a) : IsD H a := by
  obtain ⟨o, m, h1, _, h3⟩ := G.st j a ha
  cases h3 with
  | k _ => exact .inl ⟨_, .inl h1⟩
  | t _ => exact .inr ⟨_, .inl h1⟩
  | l _ _ => exact .inr ⟨_, .inr ⟨_, h1⟩⟩
theorem gets_ok {K : PySem.W.Frag} {mg : Str → Option Value} {g : Gh} {H : Hp} {S : Sto} (G : GOk K mg g H S) {od kd zd d : D} {x v z : V} (e : getS S od kd zd = some d) (rx : Rep K mg g x od) (rk : Rep K mg g v kd) (rz : Rep K mg g z zd) : ∃ a o, x = .ref a ∧ DGet H a v o ∧ Rep K mg g (o.getD z) d := by
  cases od with
  | mref j =>
    have e5 : S[j]?.bind (fun m => if okM m kd then some ((getM m kd).getD zd) else none) = some d := e
    cases q5 : S[j]? with
    | none => rw [q5] at e5; cases e5
    | some m =>
      rw [q5] at e5
      have e6 : (if okM m kd then some ((getM m kd).getD zd) else none) = some d := e5
      split at e6
      · rename_i hok
        cases e6
        cases rx with
        | mref ha =>
          obtain ⟨o, hg, hv⟩ := dget_of G ha q5 rk hok
          refine ⟨_, o, rfl, hg, ?_⟩
          cases q1 : getM m kd with
          | none =>
            rw [q1] at hv
            cases o with
            | none => exact rz
            | some u => exact hv.elim
          | some d1 =>
            rw [q1] at hv
            cases o with
            | none => exact hv.elim
            | some u => exact hv
      · cases e6
  | _ => cases e
theorem sim_get1 (hr : Room n X.A) (ho : SimE X own o so) (he : SimE X own e se) (m : M1 X o "get" apos e pos := by exact ⟨rfl, rfl, rfl, rfl⟩) : SimE X own (.Call (.Attribute o "get" apos) [e] [] pos) (sGet1 so se) :=
  pe_weak (pe_dget1 (hu_of hr) ho he m) fun σ H Q ⟨g0, H0, ρ, g, S, E, q⟩ => by
    obtain ⟨d, S', e1, k⟩ := Res.post_ex q
    obtain ⟨od, S1, e2, e1⟩ := Res.then_ex e1
    obtain ⟨kd, S2, e3, e1⟩ := Res.then_ex e1
    obtain ⟨e4, eS⟩ := optR_ex e1
    subst eS
    refine ⟨g0, H0, ρ, g, S, E, ?_⟩
    rw [e2]
    intro v g1 H1 G1 s1 r1
    have hmr : ∃ j, od = .mref j := by cases od <;> first | exact ⟨_, rfl⟩ | cases e4
    obtain ⟨j, rfl⟩ := hmr
    cases r1 with
    | mref ha =>
      refine ⟨_, rfl, isd_of G1 ha, g0, H0, ρ, g1, S1, E.step G1 s1, ?_⟩
      rw [e3]
      intro v2 g2 H2 G2 s2 r2
      obtain ⟨a, o, ea, hg, hv⟩ := gets_ok G2 e4 (.mref (s2.le.as _ _ ha)) r2 .non
      cases ea
      exact ⟨o, hg, k _ g2 H2 G2 (s1.trans s2) hv⟩
theorem sim_get2 (hr : Room n X.A) (ho : SimE X own o so) (he : SimE X own e se) (hf : SimE X own f sf) (m : M2 X o "get" apos e f pos := by exact ⟨rfl, rfl, rfl, rfl⟩) : SimE X own (.Call (.Attribute o "get" apos) [e, f] [] pos) (sGet2 so se sf) :=
  pe_weak (pe_dget2 (hu_of hr) ho he hf m) fun σ H Q ⟨g0, H0, ρ, g, S, E, q⟩ => by
    obtain ⟨d, S', e1, k⟩ := Res.post_ex q
    obtain ⟨od, S1, e2, e1⟩ := Res.then_ex e1
    obtain ⟨kd, S2, e3, e1⟩ := Res.then_ex e1
    obtain ⟨zd, S3, e3', e1⟩ := Res.then_ex e1
    obtain ⟨e4, eS⟩ := optR_ex e1
    subst eS
    refine ⟨g0, H0, ρ, g, S, E, ?_⟩
    rw [e2]
    intro v g1 H1 G1 s1 r1
    have hmr : ∃ j, od = .mref j := by cases od <;> first | exact ⟨_, rfl⟩ | cases e4
    obtain ⟨j, rfl⟩ := hmr
    cases r1 with
    | mref ha =>
      have E1 := E.step G1 s1
      refine ⟨_, rfl, isd_of G1 ha, g0, H0, ρ, g1, S1, E1, ?_⟩
      rw [e3]
      intro v2 g2 H2 G2 s2 r2
      refine ⟨g0, H0, ρ, g2, S2, E1.step G2 s2, ?_⟩
      rw [e3']
      intro v3 g3 H3 G3 s3 r3
      obtain ⟨a, o, ea, hg, hv⟩ := gets_ok G3 e4 (.mref (s3.le.as _ _ (s2.le.as _ _ ha))) (r2.mono s3.le) r3
      cases ea
      exact ⟨o, hg, k _ g3 H3 G3 ((s1.trans s2).trans s3) hv⟩
end
end Ev
namespace Ev
open PySem PySem.Spec PyProof.Rows L2
/-! ### loops over a dict whose keys are tuples: the dict is locked -/
section
variable {K : PySem.W.Frag} {mg : Str → Option Value} {g g' : Gh} {H H' : Hp} {S S' : Sto} {c : Addr} {ob : Obj} {ws : List (List Key × V)}

mutual
theorem Rep.outd (hc : g.F c = some (.frz ob (.dT ws))) (lF : ∀ b o, b ≠ c → g.F b = some o → g'.F b = some o) (la : ∀ (i : Nat) (a : Addr), g.as[i]? = some a → g'.as[i]? = some a) : ∀ {v : V} {d : D}, Rep K mg g v d → Rep K mg g' v d
  | _, _, .non => .non
  | _, _, .bl b => .bl b
  | _, _, .int i => .int i
  | _, _, .str x => .str x
  | _, _, .tup h r => .tup (lF _ _ (fun z => by rw [z, hc] at h; cases h) h) (Reps.outd hc lF la r)
  | _, _, .lst h r => .lst (lF _ _ (fun z => by rw [z, hc] at h; cases h) h) (Reps.outd hc lF la r)
  | _, _, .obj m h h2 r => .obj m (lF _ _ (fun z => by rw [z, hc] at h; cases h) h) (lF _ _ (fun z => by rw [z, hc] at h2; cases h2) h2) (FReps.outd hc lF la r)
  | _, _, .mref h => .mref (la _ _ h)
  | _, _, .scr h => .scr (by
    rcases h with (h | ⟨o, h⟩) | h
    · exact .inl (.inl (lF _ _ (fun z => by rw [z, hc] at h; cases h) h))
    · exact .inl (.inr ⟨o, lF _ _ (fun z => by rw [z, hc] at h; cases h) h⟩)
    · exact .inr h)
theorem Reps.outd (hc : g.F c = some (.frz ob (.dT ws))) (lF : ∀ b o, b ≠ c → g.F b = some o → g'.F b = some o) (la : ∀ (i : Nat) (a : Addr), g.as[i]? = some a → g'.as[i]? = some a) : ∀ {vs : List V} {ds : List D}, Reps K mg g vs ds → Reps K mg g' vs ds
  | _, _, .nil => .nil
  | _, _, .cons h r => .cons (Rep.outd hc lF la h) (Reps.outd hc lF la r)
theorem FReps.outd (hc : g.F c = some (.frz ob (.dT ws))) (lF : ∀ b o, b ≠ c → g.F b = some o → g'.F b = some o) (la : ∀ (i : Nat) (a : Addr), g.as[i]? = some a → g'.as[i]? = some a) : ∀ {vs : List (Str × V)} {ds : List (Str × D)}, FReps K mg g vs ds → FReps K mg g' vs ds
  | _, _, .nil => .nil
  | _, _, .cons h r => .cons (Rep.outd hc lF la h) (FReps.outd hc lF la r)
end
theorem KReps.outd {κ : Type} (hc : g.F c = some (.frz ob (.dT ws))) (lF : ∀ b o, b ≠ c → g.F b = some o → g'.F b = some o) (la : ∀ (i : Nat) (a : Addr), g.as[i]? = some a → g'.as[i]? = some a) : ∀ {vs : List (κ × V)} {ds : List (κ × D)}, KReps K mg g vs ds → KReps K mg g' vs ds
  | _, _, .nil => .nil
  | _, _, .cons h r => .cons (h.outd hc lF la) (KReps.outd hc lF la r)
def Gh.out (g : Gh) (c : Addr) : Gh := ⟨fun b => if b = c then none else g.F b, g.as, g.me⟩
theorem out_ne {b : Addr} (h : b ≠ c) : (g.out c).F b = g.F b := if_neg h
theorem out_same : (g.out c).F c = none := if_pos rfl
def kD : Key → D
  | .inl i => .int i
  | .inr x => .str x
theorem rep_kD (k : Key) : Rep K mg g (kV k) (kD k) := by
  cases k with
  | inl i => exact .int i
  | inr x => exact .str x
theorem reps_kD : ∀ ks : List Key, Reps K mg g (ks.map kV) (ks.map kD)
  | [] => .nil
  | k :: ks => .cons (rep_kD k) (reps_kD ks)
abbrev keyT (ks : List Key) : D := .tup (ks.map kD)
/-- an address that is not the heap's changing object stays apart -/
theorem GOk.apart (G : GOk K mg g H S) {q : Addr} {xs : List V} (hq : H q = some (.tup xs)) : q ∉ g.as := fun z => by
  obtain ⟨i, hi, e⟩ := List.mem_iff_getElem.mp z
  obtain ⟨o, m, h1, _, h3⟩ := G.st i q (by rw [List.getElem?_eq_getElem hi, e])
  rw [hq] at h1
  cases h1
  exact h3.ne_tup xs rfl
/-- a tuple that stands is for good -/
theorem GOk.tupF (G : GOk K mg g H S) {q : Addr} {xs : List V} (hq : H q = some (.tup xs)) : ∃ g', GOk K mg g' H S ∧ Stp g H g' H ∧ g'.F q = some (.tup xs) := by
  cases e : g.F q with
  | some u =>
    have := G.sub _ _ e
    rw [hq] at this
    cases this
    exact ⟨g, G, .refl, e⟩
  | none =>
    refine ⟨g.add q (.tup xs), G.freeze hq e (G.apart hq), ⟨gle_add e, fun _ _ h _ => h, fun _ h => h, fun a ha => ?_, fun _ h => .inl h⟩, upd_same⟩
    by_cases z : a = q
    · subst z; exact .inr (.inr (.inr ⟨xs, hq⟩))
    · have ha' : upd g.F q (.tup xs) a ≠ none := ha
      rw [upd_ne z] at ha'
      exact .inl ha'
end
def sItD (so : SE) : SI := fun ρ S => (so ρ S).then fun o S1 => match o with
  | .mref j => (match S1[j]? with
    | some (.t true kds) => .ok (kds.map fun kd => keyT kd.1) S1
    | _ => .bad)
  | _ => .bad
section
variable {X : Cx} {own ownT ob ts : List Nat} {e iter tg : Expr} {so : SE} {sg : SG} {ss : SS} {body : List Stmt} {pos : Pos}
theorem KReps.keys {κ : Type} {K : PySem.W.Frag} {mg : Str → Option Value} {g : Gh} : ∀ {vs : List (κ × V)} {ds : List (κ × D)}, KReps K mg g vs ds → vs.map (·.1) = ds.map (·.1)
  | _, _, .nil => rfl
  | _, _, .cons _ r => by rw [List.map_cons, List.map_cons, KReps.keys r]
theorem wk_dict {g1 : Gh} {d : Addr} {o : Obj} {kvs : List (List Key × V)} {kds : List (List Key × D)} (hF : g1.F d = some (.frz o (.dT kvs))) (r : KReps X.K X.mg g1 kvs kds) : Wk X (Itkt d o kvs) (kds.map fun kd => keyT kd.1) g1 := fun g H S G l i => by
  have hH : H d = some (.frz o (.dT kvs)) := G.sub _ _ (l.F _ _ hF)
  refine ⟨fun x hx => ?_, fun e => ⟨hH, by rw [r.len]; rw [List.length_map] at e; omega⟩⟩
  have hi : i < kvs.length := by
    have := (List.getElem?_eq_some_iff.mp hx).1
    rw [List.length_map] at this
    rw [r.len]; exact this
  refine ⟨⟨hH, hi⟩, fun v H' ⟨e1, k, w, q, hk, ev, hq⟩ => ?_⟩
  subst e1 ev
  obtain ⟨g', G', s', hF'⟩ := G.tupF hq
  refine ⟨g', G', s', ?_⟩
  have ek : x = keyT k := by
    have h1 : (kvs.map (·.1))[i]? = some k := by rw [List.getElem?_map, hk]; rfl
    rw [r.keys, List.getElem?_map] at h1
    rw [List.getElem?_map] at hx
    cases q2 : kds[i]? with
    | none => rw [q2] at h1; cases h1
    | some kd =>
      rw [q2] at h1 hx
      cases h1
      cases hx
      rfl
  subst ek
  exact .tup hF' (reps_kD k)
theorem simi_dict (h : SimE X own e so) : SimI X own tg e (sItD so) := pi_weak (pi_keys h) fun σ H R ⟨g0, H0, ρ, g, S, E, q⟩ => by
  obtain ⟨ds, S', e1, k⟩ := Res.post_ex q
  obtain ⟨d, S1, e2, e1⟩ := Res.then_ex e1
  refine ⟨g0, H0, ρ, g, S, E, ?_⟩
  rw [e2]
  intro v g1 H1 G1 s1 r1
  cases d with
  | mref j =>
    cases r1 with
    | mref ha =>
      obtain ⟨o, m, h1, h2, h3⟩ := G1.st j _ ha
      have e1' : (match S1[j]? with
        | some (.t true kds) => Res.ok (kds.map fun kd => keyT kd.1) S1
        | _ => .bad) = Res.ok ds S' := e1
      rw [h2] at e1'
      cases h3 with
      | k _ => cases e1'
      | t _ => cases e1'
      | l hF r =>
        cases e1'
        exact ⟨_, _, rfl, .inr ⟨_, h1, k _ g1 H1 G1 s1 (wk_dict hF r)⟩⟩
  | _ => cases e1
/-- unlocked again; only a loop that runs to its end -/
def unlk (j : Nat) : Out → Sto → Res Out
  | .nx ρ, S => (match S[j]? with
    | some (.t true kds) => .ok (.nx ρ) (S.set j (.t false kds))
    | _ => .bad)
  | _, _ => .bad
/-- for x in d: the dict stands locked while the loop runs -/
def lockS (so : SE) (ss : SS) : SS := fun ρ S => match so ρ S with
  | .ok (.mref j) _ => (match S[j]? with
    | some (.t false kds) => (ss ρ (S.set j (.t true kds))).then (unlk j)
    | _ => .bad)
  | _ => .bad
def sForD (so : SE) (sg : SG) (sb : SS) : SS := lockS so (sFor (sItD so) sg sb)
theorem sim_lock {st : Stmt} {ss : SS} {own : List Nat} (h : PS X st (tS X own own ob ss)) {so : SE} : PS X st (tS X own own ob (lockS so ss)) := ps_weak (ps_lock h) fun D σ H ⟨g0, H0, ρ, g, S, E, q⟩ => by
  obtain ⟨out, S3, e1, k⟩ := Res.post_ex q
  unfold lockS at e1
  split at e1
  · rename_i j S0 e0
    split at e1
    · rename_i kds hj
      obtain ⟨o, S2, e2, e3⟩ := Res.then_ex e1
      have hjl : j < g.as.length := by rw [← E.gok.len]; exact (List.getElem?_eq_some_iff.mp hj).1
      obtain ⟨c, hc⟩ : ∃ c, g.as[j]? = some c := ⟨g.as[j], List.getElem?_eq_getElem hjl⟩
      obtain ⟨oc, m, h1, h2, h3⟩ := E.gok.st j c hc
      rw [hj] at h2
      cases h2
      cases h3 with
      | @t kvs _ r =>
      have hcm : c ∈ g.as := List.mem_of_getElem? hc
      have hF : g.F c = none := by
        rcases E.gok.nf c hcm with z | ⟨_, _, z⟩
        · exact z
        · have := E.gok.sub _ _ z
          rw [h1] at this
          cases this
      refine ⟨c, .dT kvs, h1, trivial, fun od => ?_⟩
      -- the locked state
      have lel : GLe g (g.add c (.frz od (.dT kvs))) := gle_add hF
      have Gl : GOk X.K X.mg (g.add c (.frz od (.dT kvs))) (upd H c (.frz od (.dT kvs))) (S.set j (.t true kds)) := by
        refine ⟨fun b u e => ?_, E.gok.nd, by rw [List.length_set]; exact E.gok.len, fun a ha => ?_, fun i a ha => ?_⟩
        · have e' : upd g.F c (.frz od (.dT kvs)) b = some u := e
          by_cases hb : b = c
          · subst hb; rw [upd_same] at e' ⊢; exact e'
          · rw [upd_ne hb] at e' ⊢; exact E.gok.sub _ _ e'
        · show Lkd (upd g.F c (.frz od (.dT kvs)) a)
          by_cases hb : a = c
          · subst hb; rw [upd_same]; exact .inr ⟨_, _, rfl⟩
          · rw [upd_ne hb]; exact E.gok.nf a ha
        · by_cases hi : i = j
          · subst hi
            have e : a = c := by have ha' : g.as[i]? = some a := ha; rw [hc] at ha'; cases ha'; rfl
            subst e
            exact ⟨_, _, upd_same, List.getElem?_set_self (by rw [E.gok.len]; exact hjl), .l upd_same (r.mono lel)⟩
          · obtain ⟨o', m', q1, q2, q3⟩ := E.gok.st i a ha
            refine ⟨o', m', ?_, by rw [List.getElem?_set_ne (Ne.symm hi)]; exact q2, q3.mono lel⟩
            rw [upd_ne (fun z : a = c => hi (nd_ix E.gok.nd ha (z ▸ hc)))]
            exact q1
      have sl : Stp g H (g.add c (.frz od (.dT kvs))) (upd H c (.frz od (.dT kvs))) := by
        refine ⟨lel, fun b u e n => by rw [upd_ne (fun z : b = c => n (z ▸ hcm))]; exact e, fun b e => ?_, fun b e => ?_, fun _ h => .inl h⟩
        · by_cases hb : b = c
          · subst hb; rw [upd_same]; exact fun z => nomatch z
          · rw [upd_ne hb]; exact e
        · have e' : upd g.F c (.frz od (.dT kvs)) b ≠ none := e
          by_cases hb : b = c
          · subst hb; exact .inr (.inr (.inl hcm))
          · rw [upd_ne hb] at e'; exact .inl e'
      refine ⟨g0, H0, ρ, _, _, E.step Gl sl, ?_⟩
      rw [e2]
      -- the end
      cases o with
      | nx ρ2 =>
        have e3' : (match S2[j]? with
          | some (.t true kds) => Res.ok (Out.nx ρ2) (S2.set j (.t false kds))
          | _ => .bad) = Res.ok out S3 := e3
        split at e3'
        · rename_i kds2 hj2
          cases e3'
          intro σ2 g2 H2 l2 E2
          have hF2 : g2.F c = some (.frz od (.dT kvs)) := l2.F _ _ upd_same
          have hH2 : H2 c = some (.frz od (.dT kvs)) := E2.gok.sub _ _ hF2
          have hc2 : g2.as[j]? = some c := l2.as _ _ hc
          have hcm2 : c ∈ g2.as := List.mem_of_getElem? hc2
          refine ⟨hH2, k σ2 (g2.out c) _ ⟨fun b o e => ?_, fun i a h => l2.as _ _ h, l2.me⟩ ?_⟩
          · have hb : b ≠ c := fun z => by rw [z, hF] at e; cases e
            rw [out_ne hb]
            exact l2.F _ _ (by show upd g.F c _ b = some o; rw [upd_ne hb]; exact e)
          · have lF : ∀ b o, b ≠ c → g2.F b = some o → (g2.out c).F b = some o := fun b o hb e => by rw [out_ne hb]; exact e
            have la : ∀ (i : Nat) (a : Addr), g2.as[i]? = some a → (g2.out c).as[i]? = some a := fun _ _ h => h
            obtain ⟨oc2, m2, q1, q2, q3⟩ := E2.gok.st j c hc2
            rw [hj2] at q2
            cases q2
            rw [hH2] at q1
            cases q1
            have rk : KReps X.K X.mg g2 kvs kds2 := by
              cases q3 with
              | l _ r => exact r
            have g0c : g0.F c = none := by
              cases e : g0.F c with
              | none => rfl
              | some u =>
                have := E.stp.le.F _ _ e
                rw [hF] at this
                cases this
            refine ⟨⟨fun b u e => ?_, E2.gok.nd, by rw [List.length_set]; exact E2.gok.len, fun a ha => ?_, fun i a ha => ?_⟩, ⟨⟨fun b o e => ?_, E2.stp.le.as, E2.stp.le.me⟩, fun b u e n => ?_, fun b e => ?_, fun b e => ?_, E2.stp.newA⟩, E2.len, fun i d h n => ?_, fun i hi => ?_, E2.dis⟩
            · have hb : b ≠ c := fun z => by rw [z, out_same] at e; cases e
              rw [out_ne hb] at e
              rw [upd_ne hb]
              exact E2.gok.sub _ _ e
            · by_cases hb : a = c
              · subst hb; exact .inl out_same
              · rw [out_ne hb]; exact E2.gok.nf a ha
            · by_cases hi : i = j
              · subst hi
                have e : a = c := by have ha' : g2.as[i]? = some a := ha; rw [hc2] at ha'; cases ha'; rfl
                subst e
                exact ⟨_, _, upd_same, List.getElem?_set_self (List.getElem?_eq_some_iff.mp hj2).1, .t (rk.outd hF2 lF la)⟩
              · obtain ⟨o', m', q1, q2, q3⟩ := E2.gok.st i a ha
                have hac : a ≠ c := fun z : a = c => hi (nd_ix E2.gok.nd ha (z ▸ hc2))
                refine ⟨o', m', by rw [upd_ne hac]; exact q1, by rw [List.getElem?_set_ne (Ne.symm hi)]; exact q2, ?_⟩
                cases q3 with
                | k r => exact .k (r.outd hF2 lF la)
                | t r => exact .t (r.outd hF2 lF la)
                | l hq r => exact .l (lF _ _ hac hq) (r.outd hF2 lF la)
            · have hb : b ≠ c := fun z => by rw [z, g0c] at e; cases e
              exact lF _ _ hb (E2.stp.le.F _ _ e)
            · have hb : b ≠ c := fun z => by
                subst z
                rcases E.stp.newA b hcm with z | z
                · exact n z
                · rw [e] at z; cases z
              rw [upd_ne hb]
              exact E2.stp.keep b u e n
            · by_cases hb : b = c
              · subst hb; rw [upd_same]; exact fun z => nomatch z
              · rw [upd_ne hb]; exact E2.stp.there b e
            · have hb : b ≠ c := fun z => e (by rw [z]; exact out_same)
              rw [out_ne hb] at e
              exact E2.stp.newF b e
            · obtain ⟨v, q1, q2⟩ := E2.fro i d h n
              exact ⟨v, q1, q2.outd hF2 lF la⟩
            · obtain ⟨p, d, q1, q2, q3, q4, q5, q6⟩ := E2.ow i hi
              have hp : p ≠ c := fun z => q4 (z ▸ hcm2)
              refine ⟨p, d, q1, q2, by rw [out_ne hp]; exact q3, q4, q5, ?_⟩
              rcases q6 with ⟨vs, ds, e, h, r⟩ | ⟨C, dx, cc, fvs, fs, e, hm, h, hd, f1, f2, f3, r⟩
              · exact .inl ⟨vs, ds, e, by rw [upd_ne hp]; exact h, r.outd hF2 lF la⟩
              · have hdx : dx ≠ c := fun z => f2 (z ▸ hcm2)
                exact .inr ⟨C, dx, cc, fvs, fs, e, hm, by rw [upd_ne hp]; exact h, by rw [upd_ne hdx]; exact hd, by rw [out_ne hdx]; exact f1, f2, f3, r.outd hF2 lF la⟩
        · cases e3'
      | rt d => cases e3
      | bk ρ2 => cases e3
      | ct ρ2 => cases e3
    · cases e1
  · cases e1
theorem sim_forD (hp : PassesOwn (model X.prog X.w) X.A X.env X.xe) (hc : X.calm = true) (hi : SimE X own iter so) (hg : SimG X own ownT ts tg sg) (hb : SimB X ownT own own body ss)
    (hs : ∀ x, foldedSetIterable iter X.env x = pure x := by intro _; rfl) : SimS X own own ob (.For tg iter body [] pos) (sForD so sg ss) :=
  sim_lock (so := so) (sim_for hp hc (simi_dict hi) hg hb hs)
end
end Ev
namespace PySem.W
open PySem PySem.Calls PyProof.Rows
section
variable {prog : Program} {w : World} {A : Around} {E : Value → Shared → Prop} {s : Shared} {T : String} {r d : Addr} {n : Nat} {P : Nat → Value → Prop} {OK : Heap → Prop} {β : Type} {bs : List β} {enc : β → PyData} {R : Value → β → Prop}
/-- list(x)'s own gathering, for what is no list: the new list is a new object -/
theorem collect_src {F : List Value → Shared → Prop} (K : KdlSrc prog w T r d n P OK) (hh : A.handled = none) (hok : OK s.heap) (hn : n ≤ sizeLine)
    (h : ∀ (h' : Heap) (tk : Nat) (acc : Array Value), (∀ b o, s.heap.get? b = some o → h'.get? b = some o) → s.heap.objs.size < h'.objs.size → ItemsOf P acc n → F acc.toList { s with heap := h', toks := tk }) :
    wpAny (model prog w) A (collect (.ref r)) F E s := by
  obtain ⟨lr, ld⟩ := K.there _ hok
  unfold collect
  refine wpAny_bind (wpAny_runValue (codeAny_builtin entry_proto_collect' ?_))
  show wpAny _ _ (do again (.builtin "list.__iadd__" ⟨[← newList [], .ref r], []⟩)) _ _ s
  refine wpAny_bind (wpAny_newList (wpAny_pure ⟨Code.quiet_builtin _ (by decide +kernel), codeAny_builtin entry_list_iadd' ?_⟩))
  have at0 : (s.heap.push (seqObj "list" #[] 0)).get? s.heap.objs.size = some { cls := .type "list", data := .seq #[] 0 } := Heap.get?_push_size _ rfl
  have ok1 : OK (s.heap.push (seqObj "list" #[] 0)) := K.keep _ _ hok fun b _ o e => Heap.get?_push_of_some _ e
  have run := kdl_extend (prog := prog) (w := w) (A := A) (s := { s with heap := s.heap.push (seqObj "list" #[] 0) }) K hh ok1 s.heap.objs.size (Nat.ne_of_gt lr) (Nat.ne_of_gt ld) (.ref s.heap.objs.size) 0 at0
    (R := fun q s' => q = .ok (.ret (.ref s.heap.objs.size)) ∧ ∃ acc c o, s'.heap.get? s.heap.objs.size = some o ∧ o.data = .seq acc c ∧ F acc.toList s')
    (fun h' tk acc c kp at1 it => ⟨rfl, acc, c, _, at1, rfl, h h' tk acc (fun b o e => kp b o (Nat.ne_of_lt (Heap.lt_size e)) (Heap.get?_push_of_some _ e)) (Heap.lt_size at1) it⟩) hn
  have last : ∀ s' : Shared, (∃ acc c o, s'.heap.get? s.heap.objs.size = some o ∧ o.data = .seq acc c ∧ F acc.toList s') → wpAny (model prog w) A (do
      let o ← load s.heap.objs.size
      match o.data with
      | .seq xs _ => pure xs.toList
      | _ => unsupported "internal:collect") F E s' := fun s' ⟨acc, c, o, at1, dat, f⟩ => by
    refine wpAny_bind (wpAny_load at1 ?_)
    rw [dat]
    exact wpAny_pure f
  refine wpAny_mono run (fun fin s' x => ?_) fun _ _ x => nomatch x.1
  cases fin with
  | done f =>
    obtain ⟨e, x⟩ := x
    cases e
    exact last s' x
  | again c1 =>
    refine ⟨x.1, codeAny_mono x.2 fun q s2 y => ?_⟩
    obtain ⟨rfl, y⟩ := y
    exact last s2 y
theorem sorted_src {Q : Value → Shared → Prop} (K : KdlSrc prog w T r d n P OK) (hh : A.handled = none) (hok : OK s.heap) (hn : n ≤ sizeLine)
    (e : ∀ vs : List Value, vs.length = n → (∀ (j : Nat) (v : Value), vs[j]? = some v → P j v) → EachIs R vs bs ∧ ∀ h' : Heap, (∀ b o, s.heap.get? b = some o → h'.get? b = some o) → EachIs (fun v b => ∃ as, Reads h' v (enc b) as) vs bs)
    (hal : AllAlike (bs.map enc)) (hk : Sortable (bs.map enc)) (hu : ∀ b, b ∈ bs → A.units + 2 + (enc b).depth < cLine)
    (h : ∀ (h' : Heap) (tk : Nat) (D : Addr) (out : List Value) (ep : Nat), (∀ b o, s.heap.get? b = some o → h'.get? b = some o) → s.heap.objs.size ≤ D → h'.get? D = some (seqObj "list" out.toArray ep) → EachIs R out (bs.mergeSort (dataLe false enc)) → Q (.ref D) { s with heap := h', toks := tk }) :
    wpAny (model prog w) A (call (.builtin "sorted") [.ref r]) Q E s := by
  refine call_function_entry_kw kind_sorted plain_sorted entry_sorted (args_sorted1 _) ?_
  unfold Builtin.«sorted»
  refine wpAny_bind (m := checkCount "sorted" 1 1 _) (wpAny_pure ?_)
  refine wpAny_bind (collect_src (A := A.in1) K hh hok hn fun h1 tk acc hk1 hlt1 hacc => ?_)
  have hl : acc.toList.length = n := by rw [Array.length_toList]; exact hacc.1
  refine wpAny_bind (wpAny_newList ?_ (by rw [hl]; exact hn))
  obtain ⟨e1, e2⟩ := e acc.toList hl (fun j v q => hacc.2 j v (by rw [← Array.getElem?_toList]; exact q))
  generalize acc.toList = vs at *
  have hz : s.heap.objs.size ≤ h1.objs.size := Nat.le_of_lt hlt1
  have hat : (h1.push (seqObj "list" vs.toArray 0)).get? h1.objs.size = some (seqObj "list" vs.toArray 0) := Heap.get?_push_size _ rfl
  have kp : ∀ b o, s.heap.get? b = some o → (h1.push (seqObj "list" vs.toArray 0)).get? b = some o := fun b o q => Heap.get?_push_of_some _ (hk1 b o q)
  have hlt : ∀ b o, s.heap.get? b = some o → b < h1.objs.size := fun b o q => Heap.lt_size (hk1 b o q)
  have eS : EachIs (fun v b => ∃ as, Reads (sortingHeap (h1.push (seqObj "list" vs.toArray 0)) h1.objs.size vs) v (enc b) as) vs bs := e2 _ fun b o q => sortingHeap_old (Nat.ne_of_lt (hlt b o q)) (kp b o q)
  refine wpAny_bind (wpAny_holding (wpAny_call_entry_kw slot_list_sort ⟨_, hat, rfl⟩ entry_list_sort ?body (args_list_sort _)))
  case body =>
    have hL' : vs.length ≤ sizeLine := by rw [hl]; exact hn
    have S := list_sort_vals (A := A.in1.in1) (prog := prog) (w := w) (E := E) (s := { s with heap := h1.push (seqObj "list" vs.toArray 0), toks := tk }) hat
      (SortsAt.data (s := { s with heap := sortingHeap (h1.push (seqObj "list" vs.toArray 0)) h1.objs.size vs, toks := tk }) (each_map (R := fun v d => ∃ as, Reads (sortingHeap (h1.push (seqObj "list" vs.toArray 0)) h1.objs.size vs) v d as) enc eS) hal hk (bound_map hu)) hL'
      (P := fun f s' => f = .done (.ret .none) ∧ Q (.ref h1.objs.size) s') ⟨rfl, ?_⟩
    · refine wpAny_mono S (fun f s' hf => ?_) fun _ _ e => e
      obtain ⟨rfl, hq⟩ := hf
      exact ⟨_, rfl, wpAny_pure ⟨_, rfl, hq⟩⟩
    · obtain ⟨ep, he⟩ := sortedHeap_at (h := h1.push (seqObj "list" vs.toArray 0)) (out := (sortVals (dataKind (sortingHeap (h1.push (seqObj "list" vs.toArray 0)) h1.objs.size vs) (bs.map enc)) false vs vs).toArray) (vs := vs) hat
      refine h _ tk h1.objs.size _ ep (fun b o q => ?_) hz he (sortVals_data false e1 eS hal)
      exact (sortedHeap_old (Nat.ne_of_lt (hlt b o q)) (by rw [size_push']; exact Nat.lt_succ_of_lt (hlt b o q))).trans (kp b o q)
end
end PySem.W
namespace Ev
open PySem PySem.Spec PyProof.Rows L2
/-! ### sorted(d): the keys, tuples -/
def kP : Key → PyData
  | .inl i => .int i
  | .inr x => .str x
abbrev keyP (ks : List Key) : PyData := .tuple (ks.map kP)
def rSortedK (K : PySem.W.Frag) : List V → Hp → VK → Prop := fun vs H Q => ∃ (a : Addr) (kvs : List (List Key × V)), vs = [V.ref a] ∧ Rd H a (.dT kvs) ∧ sortOk (kvs.map fun kv => keyP kv.1) = true ∧
  ∀ (p : Addr) (bs : List (List Key × Addr)), H p = none → bs.map (·.1) = (kvs.map (·.1)).mergeSort (PySem.W.dataLe false keyP) → (∀ b ∈ bs, H b.2 = some (.tup (b.1.map kV))) → Q (.ref p) (upd H p (.lst (bs.map fun b => V.ref b.2)))
section
variable {X : Cx}
theorem dp_key {K : PySem.W.Frag} {H : Hp} : ∀ ks : List Key, DpAll K H (ks.map kV) (ks.map kP)
  | [] => .nil
  | .inl i :: ks => .cons (.int i) (dp_key ks)
  | .inr x :: ks => .cons (.str x) (dp_key ks)
theorem eachIs_refs : ∀ xs : List (List Key × Addr × Value), PySem.W.EachIs (fun v x => v = Value.ref x.2.1) (xs.map fun x => Value.ref x.2.1) xs
  | [] => .nil
  | x :: xs => .cons rfl (eachIs_refs xs)
theorem eachIs_eq {vs : List Value} {xs : List (List Key × Addr × Value)} (h : PySem.W.EachIs (fun v x => v = Value.ref x.2.1) vs xs) : vs = xs.map fun x => Value.ref x.2.1 := by
  induction h with
  | nil => rfl
  | cons h _ ih => rw [h, ih]; rfl
theorem cr_sortedK (hc : X.calm = true) (hu : X.A.units + 62 < cLine) : CallR X (.builtin "sorted") (rSortedK X.K) := by
  intro pins s σ H vs us Q I r h
  obtain ⟨a, kvs, rfl, hd, ok, q⟩ := h
  obtain ⟨u, rfl, rx⟩ := r.one
  cases rx
  obtain ⟨z, hs, ks, pr, o, es, ep, ho, hx, hdt, he, hn⟩ := (show ObjOk X.prog X.w H s.heap a (.dT kvs) from hd.ok I.hok)
  have l1 : es.size = ks.length := size_of_entries he
  have l2 : kvs.length = ks.length := Paired.length pr
  have hkk : kvs.map (·.1) = ks.map (·.1) := by
    have go : ∀ {l : List (List Key × V)} {m : List (List Key × Addr × Value)}, Paired (fun (p : List Key × V) (q : List Key × Addr × Value) => p.1 = q.1 ∧ H q.2.1 = some (.tup (p.1.map kV)) ∧ RelV p.2 q.2.2) l m → l.map (·.1) = m.map (·.1) := fun r => by
      induction r with
      | nil => rfl
      | cons h _ ih => rw [List.map_cons, List.map_cons, h.1, ih]
    exact go pr
  have hH : ∀ x ∈ ks, H x.2.1 = some (.tup (x.1.map kV)) := by
    have go : ∀ {l : List (List Key × V)} {m : List (List Key × Addr × Value)}, Paired (fun (p : List Key × V) (q : List Key × Addr × Value) => p.1 = q.1 ∧ H q.2.1 = some (.tup (p.1.map kV)) ∧ RelV p.2 q.2.2) l m → ∀ x ∈ m, H x.2.1 = some (.tup (x.1.map kV)) := fun r => by
      induction r with
      | nil => exact fun x hx => nomatch hx
      | cons h _ ih =>
        intro x hx
        rcases List.mem_cons.mp hx with e | hx
        · subst e
          rw [← h.1]
          exact h.2.1
        · exact ih x hx
    exact go pr
  have okk : sortOk (ks.map fun x => keyP x.1) = true := by
    have e1 : (ks.map fun x => keyP x.1) = (ks.map (·.1)).map keyP := by rw [List.map_map]; rfl
    have e2 : (kvs.map fun x => keyP x.1) = (kvs.map (·.1)).map keyP := by rw [List.map_map]; rfl
    rw [e1, ← hkk, ← e2]
    exact ok
  obtain ⟨h1, h2, h3⟩ := sortOk_al okk
  refine PySem.W.sorted_src (R := fun v (x : List Key × Addr × Value) => v = Value.ref x.2.1) (enc := fun x : List Key × Addr × Value => keyP x.1) (bs := ks) (kdl_raw hs hx hdt) (I.ok.hd hc) ho (by omega) (fun vs hl hv => ?_) h1 h2 (fun b hb => ?_) fun h' tk D out ep' kp hD hat eo => ?_
  · have ev : vs = ks.map fun x => Value.ref x.2.1 := by
      apply List.ext_getElem?
      intro j
      rw [List.getElem?_map]
      cases hj : vs[j]? with
      | none =>
        have h1 := List.getElem?_eq_none_iff.mp hj
        rw [List.getElem?_eq_none (by omega)]
        rfl
      | some v =>
        obtain ⟨en, hen, hv'⟩ := hv j v hj
        have qe := entry_at he j
        rw [hen] at qe
        cases hb : ks[j]? with
        | none => rw [hb] at qe; cases qe
        | some b =>
          rw [hb] at qe
          have e2 : en = entryOfKey (tupleKind (mixKind X.prog X.w)) b := Option.some.inj qe
          rw [hv', e2]
          rfl
    subst ev
    refine ⟨eachIs_refs ks, fun h' k => ?_⟩
    have go : ∀ l : List (List Key × Addr × Value), (∀ x ∈ l, H x.2.1 = some (.tup (x.1.map kV))) → PySem.W.EachIs (fun v (b : List Key × Addr × Value) => ∃ as, Reads h' v (keyP b.1) as) (l.map fun x => Value.ref x.2.1) l := fun l hl => by
      induction l with
      | nil => exact .nil
      | cons x l ih =>
        refine .cons ?_ (ih fun y hy => hl y (List.mem_cons_of_mem _ hy))
        obtain ⟨as, r⟩ := Dp.reads I (keyP x.1) (.ref x.2.1) (.ref x.2.1) (.tup (SqT.of (hl x List.mem_cons_self)) (dp_key x.1)) rfl
        exact ⟨as, PyProof.Rows.Reads.keeps k r⟩
    exact go ks hH
  · have := h3 (keyP b.1) (List.mem_map.mpr ⟨b, hb, rfl⟩)
    omega
  · have eo' := eachIs_eq eo
    subst eo'
    generalize hys : ks.mergeSort (PySem.W.dataLe false fun x : List Key × Addr × Value => keyP x.1) = ys at *
    refine ⟨.ref D, upd H D (.lst ((ys.map fun y => (y.1, y.2.1)).map fun b => V.ref b.2)), I.laid (t' := tk) kp hD ?_, rfl, q D (ys.map fun y => (y.1, y.2.1)) (I.hok.fresh hD) ?_ fun b hb => ?_⟩
    · have hyl : ys.length = ks.length := by rw [← hys, List.length_mergeSort]
      refine ⟨by rw [List.length_map, List.length_map]; omega, ys.map (fun x => Value.ref x.2.1), ep', ?_, hat⟩
      clear hys hyl eo hat
      induction ys with
      | nil => exact .nil
      | cons y ys ih => exact .cons rfl ih
    · rw [List.map_map, hkk, ← hys]
      show (ks.mergeSort _).map (fun x => x.1) = _
      rw [← List.map_mergeSort (r := PySem.W.dataLe false fun x : List Key × Addr × Value => keyP x.1) (f := fun x : List Key × Addr × Value => x.1) (s := PySem.W.dataLe false keyP) (fun a _ b _ => rfl)]
    · obtain ⟨y, hy, rfl⟩ := List.mem_map.mp hb
      rw [← hys, List.mem_mergeSort] at hy
      exact hH y hy
/-- sorted(x): a dict's keys, or what dSortedA sorts -/
def sortedS (S : Sto) : D → Option D
  | .mref j => S[j]?.bind fun m => match m with
    | .t _ kds => dSorted [.lst (kds.map fun kd => keyT kd.1)]
    | _ => none
  | d => dSortedA [d]
def sSorted (sa : SE) : SE := fun ρ S => (sa ρ S).then fun d S1 => optR (sortedS S1 d) S1
@[simp] theorem e_sorted (sa : SE) (ρ : DEnv) (S : Sto) : sSorted sa ρ S = (sa ρ S).then fun d S1 => optR (sortedS S1 d) S1 := rfl
@[simp] theorem sortedS_lst (S : Sto) (xs : List D) : sortedS S (.lst xs) = dSorted [.lst xs] := rfl
@[simp] theorem sortedS_tup (S : Sto) (xs : List D) : sortedS S (.tup xs) = dSorted [.lst xs] := rfl
theorem py_keyT (ks : List Key) : D.py (keyT ks) = some (keyP ks) := by
  have go : ∀ ks : List Key, pyAll (ks.map kD) = some (ks.map kP) := fun ks => by
    induction ks with
    | nil => rfl
    | cons k ks ih =>
      show (match (kD k).py, pyAll (ks.map kD) with
        | some x, some xs => some (x :: xs)
        | _, _ => none) = _
      rw [ih]
      cases k <;> rfl
  show (pyAll (ks.map kD)).map PyData.tuple = _
  rw [go]
  rfl
theorem sorted_keys (L : List (List Key)) : dSorted [.lst (L.map keyT)] = if sortOk (L.map keyP) then some (.lst ((L.mergeSort (PySem.W.dataLe false keyP)).map keyT)) else none := by
  show (pyAll (L.map keyT)).bind (fun ps => if sortOk ps then some (D.lst (sortD (L.map keyT) ps)) else none) = _
  rw [pyAll_map (p := keyP) py_keyT L]
  show (if sortOk (L.map keyP) = true then some (D.lst (sortD (L.map keyT) (L.map keyP))) else none) = _
  congr 3
  unfold sortD
  rw [show (L.map keyT).zip (L.map keyP) = L.map fun r => (keyT r, keyP r) by
    induction L with
    | nil => rfl
    | cons r rs ih => rw [List.map_cons, List.map_cons, List.zip_cons_cons, ih, List.map_cons]]
  rw [← List.map_mergeSort (r := PySem.W.dataLe false keyP) (f := fun r : List Key => (keyT r, keyP r)) (s := PySem.W.dataLe false (·.2)) (fun a _ b _ => rfl), List.map_map]
  rfl
theorem tupFs {K : PySem.W.Frag} {mg : Str → Option Value} {H : Hp} {S : Sto} : ∀ (bs : List (List Key × Addr)) (g : Gh), GOk K mg g H S → (∀ b ∈ bs, H b.2 = some (.tup (b.1.map kV))) → ∃ g', GOk K mg g' H S ∧ Stp g H g' H ∧ Reps K mg g' (bs.map fun b => V.ref b.2) (bs.map fun b => keyT b.1)
  | [], g, G, _ => ⟨g, G, .refl, .nil⟩
  | b :: bs, g, G, h => by
    obtain ⟨g1, G1, s1, r1⟩ := tupFs bs g G fun x hx => h x (List.mem_cons_of_mem _ hx)
    obtain ⟨g2, G2, s2, hF⟩ := G1.tupF (h b List.mem_cons_self)
    exact ⟨g2, G2, s1.trans s2, .cons (.tup hF (reps_kD _)) (r1.mono s2.le)⟩
theorem f_sortedS {own : List Nat} {a : Expr} {sa : SE} {p pos : Pos} {k : Nat} (hr : Room k X.A) (hm : X.mg "sorted" = none) (ha : SimR X own a sa) (hc : X.calm = true := by rfl) (hg : Gl X "sorted" := by rfl) (he : starEach (a :: []) X.env = (false, eval a X.env) :: starEach [] X.env := by rfl) (hpl : (backTo pos (starEach ([] : List Expr) X.env)).any (·.1) = false := by rfl) : SimF X own (.Call (.Name "sorted" p) [a] [] pos) (sSorted sa) :=
  pe_weak (pe_callB (((cr_sortedD (by have := hr.un; omega)).or (cr_sortedT (by have := hr.un; omega))).or (cr_sortedK hc (by have := hr.un; omega))) hg hm (by decide +kernel) (simr_cons ha simr_nil he) (by decide) (by decide) he hpl) fun σ H Q ⟨g0, H0, ρ, g, S, E, q⟩ => by
    obtain ⟨d, S', e1, k⟩ := Res.post_ex q
    obtain ⟨od, S1, e2, e1⟩ := Res.then_ex e1
    obtain ⟨e3, eS⟩ := optR_ex e1
    subst eS
    refine ⟨g0, H0, ρ, g, S, E, ?_⟩
    have ea : sArgs [(false, sa)] ρ S = .ok [od] S1 := by
      show (sa ρ S).then _ = _
      rw [e2]
      rfl
    rw [ea]
    intro vs g1 H1 G1 s1 r1
    obtain ⟨ds, rfl, k⟩ := k
    by_cases hm : ∃ j, od = .mref j
    · obtain ⟨j, rfl⟩ := hm
      obtain ⟨x, rfl, r2⟩ := rr1 r1
      right
      have e4 : (S1[j]?.bind fun m => match m with
        | .t _ kds => dSorted [.lst (kds.map fun kd => keyT kd.1)]
        | _ => none) = some (.lst ds) := e3
      cases r2.rep (fun _ e => nomatch e) with
      | @mref _ ad ha =>
        obtain ⟨o, m, h1, h2, h3⟩ := G1.st j _ ha
        rw [h2] at e4
        have fin : ∀ (kvs : List (List Key × V)) (kds : List (List Key × D)), Rd H1 ad (.dT kvs) → KReps X.K X.mg g1 kvs kds → dSorted [.lst (kds.map fun kd => keyT kd.1)] = some (.lst ds) → rSortedK X.K [V.ref ad] H1 Q := fun kvs kds rd r e5 => by
          have e6 := sorted_keys (kds.map (·.1))
          rw [List.map_map] at e6
          rw [show (kds.map fun kd => keyT kd.1) = kds.map (keyT ∘ fun x => x.1) from rfl, e6] at e5
          split at e5
          · rename_i ok
            have e7 : ((kds.map (·.1)).mergeSort (PySem.W.dataLe false keyP)).map keyT = ds := by
              injection e5 with e5
              injection e5
            refine ⟨_, kvs, rfl, rd, ?_, fun p bs hp hb1 hb2 => ?_⟩
            · rw [show (kvs.map fun kv => keyP kv.1) = (kvs.map (·.1)).map keyP by rw [List.map_map]; rfl, r.keys]
              exact ok
            · obtain ⟨g2, G2, s2, rs⟩ := tupFs bs g1 G1 hb2
              have e8 : (bs.map fun b => keyT b.1) = ds := by
                rw [show (bs.map fun b => keyT b.1) = (bs.map (·.1)).map keyT by rw [List.map_map]; rfl, hb1, r.keys]
                exact e7
              rw [e8] at rs
              exact fresh_end G2 (s1.trans s2) hp rs k
          · cases e5
        cases h3 with
        | k _ => cases e4
        | t r => exact fin _ _ (.inl h1) r e4
        | l _ r => exact fin _ _ (.inr ⟨_, h1⟩) r e4
    · left
      have e4 : dSortedA [od] = some (.lst ds) := by
        cases od with
        | mref j => exact absurd ⟨j, rfl⟩ hm
        | _ => exact e3
      obtain ⟨es, ed, kr⟩ := opF_sortedA g1 H1 S1 vs [od] (.lst ds) Q G1 r1 e4
      cases ed
      exact kr fun p vs hp rs => fresh_end G1 s1 hp rs k
theorem sortedS_l {S : Sto} {d e : D} (h : sortedS S d = some e) : ∃ ds, e = .lst ds := by
  unfold sortedS at h
  split at h
  · obtain ⟨m, _, h2⟩ := Option.bind_eq_some_iff.mp h
    split at h2
    · exact sorted_l h2
    · cases h2
  · exact sortedA_l h
instance {sa : SE} : IsL (sSorted sa) := ⟨fun ρ S d S' e => by
  obtain ⟨x, S1, _, e1⟩ := Res.then_ex e
  obtain ⟨e2, _⟩ := optR_ex e1
  exact sortedS_l e2⟩
end
end Ev
namespace L2
open PySem PySem.Spec PyProof.Rows
section
variable {X : Cx} {a b c d : Expr} {ta tb tc td : TE} {pos : Pos}
/-- a op1 b op2 c op3 d -/
def tChain3 (r r' r'' : R2) (ta tb tc td : TE) : TE := fun σ H Q => ta σ H fun x H1 => tb σ H1 fun y H2 => r x y H2 fun z H3 => ∃ k, z = .bl k ∧
  (if k = true then tc σ H3 fun w' H4 => r' y w' H4 fun z2 H5 => ∃ k2, z2 = .bl k2 ∧ (if k2 = true then td σ H5 fun w2 H6 => r'' w' w2 H6 Q else Q (.bl false) H5) else Q (.bl false) H3)
theorem pe_chain3 {op op' op'' : CmpOp} {r r' r'' : R2} (ho : OpR X (compareOp op) r) (ho' : OpR X (compareOp op') r') (ho'' : OpR X (compareOp op'') r'') (ha : PE X a ta) (hb : PE X b tb) (hc : PE X c tc) (hd : PE X d td)
    (hm : lastMarks [op, op', op''] [b, c, d] = false := by with_unfolding_all rfl) : PE X (.Compare a [op, op', op''] [b, c, d] pos) (tChain3 r r' r'' ta tb tc td) := by
  refine ⟨fun pins s σ H Q I h => ?_⟩
  refine Compare_chain (thn (ha.run pins s σ H _ I h) fun v s1 ⟨x, H1, I1, r1, q1⟩ => chain_link (thn (hb.run pins s1 σ H1 _ I1 q1) fun u s2 ⟨y, H2, I2, r2, q2⟩ =>
    thn (ho pins s2 σ H2 x y v u _ I2 r1 r2 q2) fun dd s3 ⟨z, H3, I3, r3, k, e, q3⟩ => ?_)) hm
  subst e
  cases r3
  refine wpAny_truthy_bool ?_
  cases k with
  | false => exact ite_ff ⟨.bl false, H3, I3, rfl, q3⟩
  | true =>
    refine ite_tt (chain_link (thn (hc.run pins s3 σ H3 _ I3 q3) fun w' s4 ⟨z', H4, I4, r4, q4⟩ => thn (ho' pins s4 σ H4 y z' u w' _ I4 r2 r4 q4) fun d2 s5 ⟨z2, H5, I5, r5, k2, e2, q5⟩ => ?_))
    subst e2
    cases r5
    refine wpAny_truthy_bool ?_
    cases k2 with
    | false => exact ite_ff ⟨.bl false, H5, I5, rfl, q5⟩
    | true => exact ite_tt (chain_last (thn (hd.run pins s5 σ H5 _ I5 q5) fun w2 s6 ⟨z3, H6, I6, r6, q6⟩ => ho'' pins s6 σ H6 z' z3 w' w2 Q I6 r4 r6 q6))
theorem pt_chain3 {op op' op'' : CmpOp} {r r' r'' : R2} (ho : OpR X (compareOp op) r) (ho' : OpR X (compareOp op') r') (ho'' : OpR X (compareOp op'') r'') (ha : PE X a ta) (hb : PE X b tb) (hc : PE X c tc) (hd : PE X d td)
    (hm : lastMarks [op, op', op''] [b, c, d] = false := by with_unfolding_all rfl) : PT X (.Compare a [op, op', op''] [b, c, d] pos) (tTest (tChain3 r r' r'' ta tb tc td)) := by
  refine ⟨fun pins s σ H Q I h => ?_⟩
  refine isTrue_chain (thn (ha.run pins s σ H _ I h) fun v s1 ⟨x, H1, I1, r1, q1⟩ => test_link (thn (hb.run pins s1 σ H1 _ I1 q1) fun u s2 ⟨y, H2, I2, r2, q2⟩ =>
    thn (ho pins s2 σ H2 x y v u _ I2 r1 r2 q2) fun dd s3 ⟨z, H3, I3, r3, k, e, q3⟩ => ?_)) hm
  subst e
  cases r3
  refine wpAny_truthy_bool ?_
  cases k with
  | false =>
    obtain ⟨k', e', q'⟩ := q3
    cases e'
    exact ite_ff ⟨H3, I3, q'⟩
  | true =>
    refine ite_tt (test_link (thn (hc.run pins s3 σ H3 _ I3 q3) fun w' s4 ⟨z', H4, I4, r4, q4⟩ => thn (ho' pins s4 σ H4 y z' u w' _ I4 r2 r4 q4) fun d2 s5 ⟨z2, H5, I5, r5, k2, e2, q5⟩ => ?_))
    subst e2
    cases r5
    refine wpAny_truthy_bool ?_
    cases k2 with
    | false =>
      obtain ⟨k', e', q'⟩ := q5
      cases e'
      exact ite_ff ⟨H5, I5, q'⟩
    | true =>
      refine ite_tt (test_last (thn (hd.run pins s5 σ H5 _ I5 q5) fun w2 s6 ⟨z3, H6, I6, r6, q6⟩ => thn (ho'' pins s6 σ H6 z' z3 w' w2 _ I6 r4 r6 q6) fun d3 s7 ⟨z4, H7, I7, r7, k3, e3, q7⟩ => ?_))
      subst e3
      cases r7
      exact wpAny_truthy_bool ⟨H7, I7, q7⟩
end
end L2
namespace Ev
open PySem PySem.Spec PyProof.Rows L2
def chn3 (f' f'' : D → D → Option D) (sc sd : SE) (ρ : DEnv) (y : D) : D → Sto → Res D
  | .bl true, S3 => (sc ρ S3).then fun w S4 => (optR (f' y w) S4).then fun z S5 => match z with
    | .bl true => (sd ρ S5).then fun w2 S6 => optR (f'' w w2) S6
    | .bl false => .ok (.bl false) S5
    | _ => .bad
  | .bl false, S3 => .ok (.bl false) S3
  | _, _ => .bad
def sChain3 (f f' f'' : D → D → Option D) (sa sb sc sd : SE) : SE := fun ρ S => (sa ρ S).then fun x S1 => (sb ρ S1).then fun y S2 => (optR (f x y) S2).then (chn3 f' f'' sc sd ρ y)
section
variable {X : Cx} {own : List Nat} {a b c d : Expr} {sa sb sc sd : SE} {pos : Pos}
@[simp] theorem e_chain3 (f f' f'' : D → D → Option D) (ρ : DEnv) (S : Sto) : sChain3 f f' f'' sa sb sc sd ρ S = (sa ρ S).then fun x S1 => (sb ρ S1).then fun y S2 => (optR (f x y) S2).then (chn3 f' f'' sc sd ρ y) := rfl
@[simp] theorem chn3_f (f' f'' : D → D → Option D) (ρ : DEnv) (y : D) (S : Sto) : chn3 f' f'' sc sd ρ y (.bl false) S = .ok (.bl false) S := rfl
@[simp] theorem chn3_t (f' f'' : D → D → Option D) (ρ : DEnv) (y : D) (S : Sto) : chn3 f' f'' sc sd ρ y (.bl true) S = (sc ρ S).then fun w S4 => (optR (f' y w) S4).then (chn f'' sd ρ w) := by
  show ((sc ρ S).then fun w S4 => _) = _
  congr 1
  funext w S4
  congr 1
  funext z S5
  cases z with
  | bl k => cases k <;> rfl
  | _ => rfl
theorem chain3_of {f f' f'' : D → D → Option D} {r r' r'' : R2} (hf : Op2 X f r) (hf' : Op2 X f' r') (hf'' : Op2 X f'' r'') {σ : L2.St} {H : Hp} {Q : VK} (h : tE X own (sChain3 f f' f'' sa sb sc sd) σ H Q) : tChain3 r r' r'' (tR X own sa) (tR X own sb) (tR X own sc) (tR X own sd) σ H Q := by
  obtain ⟨g0, H0, ρ, g, S, E, q⟩ := h
  obtain ⟨d, S', e1, k⟩ := Res.post_ex q
  obtain ⟨x, S1, e2, e1⟩ := Res.then_ex e1
  obtain ⟨y, S2, e3, e1⟩ := Res.then_ex e1
  obtain ⟨z, S3, e4, e1⟩ := Res.then_ex e1
  obtain ⟨e4', eS⟩ := optR_ex e4
  subst eS
  refine ⟨g0, H0, ρ, g, S, E, ?_⟩
  rw [e2]
  intro v g1 H1 G1 s1 r1
  refine ⟨g0, H0, ρ, g1, S1, E.step G1 s1, ?_⟩
  rw [e3]
  intro v2 g2 H2 G2 s2 r2
  refine hf g2 H2 S2 v v2 x y z _ G2 (r1.step s2) r2 e4' fun v3 g3 H3 G3 s3 r3 => ?_
  cases z with
  | bl bz =>
    cases r3
    refine ⟨bz, rfl, ?_⟩
    cases bz with
    | false =>
      rw [if_neg Bool.false_ne_true]
      have e1' : (Res.ok (.bl false) S2 : Res D) = .ok d S' := e1
      cases e1'
      exact k _ g3 H3 G3 ((s1.trans s2).trans s3) (.bl false)
    | true =>
      rw [if_pos rfl]
      rw [chn3_t] at e1
      obtain ⟨w, S4, e5, e6⟩ := Res.then_ex e1
      obtain ⟨z2, S5, e7, e8⟩ := Res.then_ex e6
      obtain ⟨e7', eS⟩ := optR_ex e7
      subst eS
      refine ⟨g0, H0, ρ, g3, S2, E.step G3 ((s1.trans s2).trans s3), ?_⟩
      rw [e5]
      intro v4 g4 H4 G4 s4 r4
      refine hf' g4 H4 S4 v2 v4 y w z2 _ G4 ((r2.step s3).step s4) r4 e7' fun v5 g5 H5 G5 s5 r5 => ?_
      cases z2 with
      | bl bz2 =>
        cases r5
        refine ⟨bz2, rfl, ?_⟩
        cases bz2 with
        | false =>
          rw [if_neg Bool.false_ne_true]
          have e1' : (Res.ok (.bl false) S4 : Res D) = .ok d S' := e8
          cases e1'
          exact k _ g5 H5 G5 ((((s1.trans s2).trans s3).trans s4).trans s5) (.bl false)
        | true =>
          rw [if_pos rfl]
          have e1' : ((sd ρ S4).then fun w2 S6 => optR (f'' w w2) S6) = .ok d S' := e8
          obtain ⟨w2, S6, e9, e10⟩ := Res.then_ex e1'
          obtain ⟨e10', eS⟩ := optR_ex e10
          subst eS
          refine ⟨g0, H0, ρ, g5, S4, E.step G5 ((((s1.trans s2).trans s3).trans s4).trans s5), ?_⟩
          rw [e9]
          intro v6 g6 H6 G6 s6 r6
          exact hf'' g6 H6 S6 v4 v6 w w2 d Q G6 ((r4.step s5).step s6) r6 e10' fun v7 g7 H7 G7 s7 r7 => k v7 g7 H7 G7 ((((((s1.trans s2).trans s3).trans s4).trans s5).trans s6).trans s7) r7
      | _ => cases e8
  | _ => cases e1
theorem sim_chain3 {op op' op'' : CmpOp} {f f' f'' : D → D → Option D} {r r' r'' : R2} (ho : OpR X (compareOp op) r) (ho' : OpR X (compareOp op') r') (ho'' : OpR X (compareOp op'') r'') (hf : Op2 X f r) (hf' : Op2 X f' r') (hf'' : Op2 X f'' r'') (ha : SimR X own a sa) (hb : SimR X own b sb) (hc : SimR X own c sc) (hd : SimR X own d sd)
    (hm : lastMarks [op, op', op''] [b, c, d] = false := by with_unfolding_all rfl) : SimE X own (.Compare a [op, op', op''] [b, c, d] pos) (sChain3 f f' f'' sa sb sc sd) :=
  pe_weak (pe_chain3 ho ho' ho'' ha hb hc hd hm) fun _ _ _ h => chain3_of hf hf' hf'' h
theorem sim_chain3T {op op' op'' : CmpOp} {f f' f'' : D → D → Option D} {r r' r'' : R2} (ho : OpR X (compareOp op) r) (ho' : OpR X (compareOp op') r') (ho'' : OpR X (compareOp op'') r'') (hf : Op2 X f r) (hf' : Op2 X f' r') (hf'' : Op2 X f'' r'') (ha : SimR X own a sa) (hb : SimR X own b sb) (hc : SimR X own c sc) (hd : SimR X own d sd)
    (hm : lastMarks [op, op', op''] [b, c, d] = false := by with_unfolding_all rfl) : SimT X own (.Compare a [op, op', op''] [b, c, d] pos) (sBool (sChain3 f f' f'' sa sb sc sd)) :=
  pt_weak (pt_chain3 ho ho' ho'' ha hb hc hd hm) fun _ _ _ h => chain3_of hf hf' hf'' (sBool_of h)
/-! ### a call whose changing objects are its own: they are forgotten behind it -/
def pureD : Res D → Sto → Res D
  | .ok d _, S => if noM d then .ok d S else .bad
  | .bad, _ => .bad
def sCallD (m : List D → M D) (sas : List (Bool × SE)) : SE := fun ρ S => (sArgs sas ρ S).then fun ds S1 => if noMs ds then pureD (m ds []) S1 else .bad
@[simp] theorem e_callD (m : List D → M D) (sas : List (Bool × SE)) (ρ : DEnv) (S : Sto) : sCallD m sas ρ S = (sArgs sas ρ S).then fun ds S1 => if noMs ds then pureD (m ds []) S1 else .bad := rfl
@[simp] theorem pureD_ok (d : D) (S' S : Sto) : pureD (.ok d S') S = if noM d then .ok d S else .bad := rfl
theorem sim_callD {e : Expr} {es : List Expr} {sas : List (Bool × SE)} {p : Pos} {x : Str} {m : List D → M D} {n k : Nat} (F : GF X.prog X.w X.K X.mg X.base k x n m) (hr : Room k X.A) (hg : Gl X x) (ha : SimA X own (e :: es) sas) (hn : sas.length = n := by rfl) (hst : (sas.all fun a => !a.1) = true := by rfl) (hdb : (x == ("__debug__" : Str)) = false := by decide)
    (he : starEach (e :: es) X.env = (false, eval e X.env) :: starEach es X.env := by rfl) (hpl : (backTo pos (starEach es X.env)).any (·.1) = false := by rfl) : SimE X own (.Call (.Name x p) (e :: es) [] pos) (sCallD m sas) := by
  obtain ⟨f, fd, ps, hm, hk, hb, F⟩ := F.ex
  refine pe_weak (pe_call F hr hg hm hk hb .nil pass0 ha hdb he hpl) fun σ H Q ⟨g0, H0, ρ, g, S, E, q⟩ => ?_
  obtain ⟨d, S', e1, kk⟩ := Res.post_ex q
  obtain ⟨ds, S1, e2, e1⟩ := Res.then_ex e1
  have e1 : (if noMs ds then pureD (m ds []) S1 else .bad) = .ok d S' := e1
  by_cases hno : noMs ds = true
  · rw [if_pos hno] at e1
    cases em : m ds [] with
    | bad => rw [em] at e1; cases e1
    | ok d2 S2 =>
      rw [em] at e1
      have e1' : (if noM d2 then Res.ok d2 S1 else .bad) = .ok d S' := e1
      by_cases hd : noM d2 = true
      · rw [if_pos hd] at e1'
        cases e1'
        refine ⟨g0, H0, ρ, g, S, E, ?_⟩
        have hl := sArgs_len hst e2
        rw [e2]
        intro vs g1 H1 G1 s1 r1
        rw [List.append_nil]
        refine ⟨⟨g1.F, [], g1.me⟩, ds, [], ⟨G1.sub, List.nodup_nil, rfl, fun a h => (nomatch h), fun i a h => (nomatch (show ([] : List Addr)[i]? = some a from h))⟩, Reps.noM (g := g1) (g' := ⟨g1.F, [], g1.me⟩) (Same.refl _) r1 hno, by rw [hl, hn], ?_⟩
        rw [em]
        intro v g' H' G' s' r'
        have kp : ∀ a o, H1 a = some o → H' a = some o := fun a o h => s'.keep a o h (fun z => nomatch z)
        have G2 : GOk X.K X.mg ⟨g'.F, g1.as, g1.me⟩ H' S' := by
          refine ⟨G'.sub, G1.nd, G1.len, fun a ha => ?_, fun i a h => ?_⟩
          · obtain ⟨i, hi, e⟩ := List.mem_iff_getElem.mp ha
            obtain ⟨o, mm, h1, h2, h3⟩ := G1.st i a (by rw [List.getElem?_eq_getElem hi, e])
            rcases G1.nf a ha with z | ⟨ob, kvs, z⟩
            · exact .inl (s'.stay h1 z (fun z => nomatch z) h3.ne_tup).1
            · exact .inr ⟨ob, kvs, s'.le.F _ _ z⟩
          · obtain ⟨o, mm, h1, h2, h3⟩ := G1.st i a h
            exact ⟨o, mm, kp _ _ h1, h2, h3.mono0 (g := g1) (g' := ⟨g'.F, g1.as, g1.me⟩) s'.le.F fun _ _ h => h⟩
        have s2 : Stp g1 H1 ⟨g'.F, g1.as, g1.me⟩ H' := by
          refine ⟨⟨s'.le.F, fun _ _ h => h, rfl⟩, fun a o h _ => kp a o h, s'.there, fun a h => ?_, fun _ h => .inl h⟩
          rcases s'.newF a h with z | z | z | z
          · exact .inl z
          · exact .inr (.inl z)
          · cases z
          · exact .inr (.inr (.inr z))
        exact kk v _ H' G2 (s1.trans s2) (Rep.noM (g := g') (g' := ⟨g'.F, g1.as, g1.me⟩) (Same.refl _) r' hd)
      · rw [if_neg hd] at e1'
        cases e1'
  · rw [if_neg hno] at e1
    cases e1
end
end Ev
namespace Ev
open PySem PySem.Spec PyProof.Rows L2
/-! ### range(i, j, c) -/
def dRangeC : List D → Option (List D)
  | [.int i, .int j, .int c] => if decide (c ≠ 0) && (decide (c.natAbs < 1000000) && (Builtin.Range.small i j c && decide (0 ≤ Builtin.Range.rangeSize i j c))) then some (rangeC i c (Builtin.Range.rangeSize i j c).toNat) else none
  | _ => none
def sItRC (sas : List (Bool × SE)) : SI := fun ρ S => (sArgs sas ρ S).then fun ds S' => optR (dRangeC ds) S'
@[simp] theorem e_itRC (sas : List (Bool × SE)) (ρ : DEnv) (S : Sto) : sItRC sas ρ S = (sArgs sas ρ S).then fun ds S' => optR (dRangeC ds) S' := rfl
section
variable {X : Cx} {own : List Nat} {a b c e : Expr} {sas : List (Bool × SE)}
theorem simi_rangeC {tg : Expr} (hpi : ∀ {ta : TA}, PA X [a, b, c] ta → PI X tg e (iRng3 ta)) (ha : SimA X own [a, b, c] sas) (hl : sas.length = 3 := by rfl) (hst : (sas.all fun a => !a.1) = true := by rfl) : SimI X own tg e (sItRC sas) :=
  pi_weak (hpi ha) fun σ H R ⟨g0, H0, ρ, g, S, E, q⟩ => by
    obtain ⟨ds, S', e1, k⟩ := Res.post_ex q
    obtain ⟨as, S1, e2, e1⟩ := Res.then_ex e1
    obtain ⟨e3, eS⟩ := optR_ex e1
    subst eS
    refine ⟨g0, H0, ρ, g, S, E, ?_⟩
    rw [e2]
    intro vs g1 H1 G1 s1 r1
    unfold dRangeC at e3
    split at e3
    · rename_i i j c
      split at e3
      · rename_i hj
        cases e3
        rw [Bool.and_eq_true, Bool.and_eq_true, Bool.and_eq_true, decide_eq_true_eq, decide_eq_true_eq, decide_eq_true_eq] at hj
        obtain ⟨h1, h2, h3, h4⟩ := hj
        cases r1 with
        | cons ra rr => cases rr with
          | cons rb rr => cases rr with
            | cons rc rr =>
              cases rr
              cases ra
              cases rb
              cases rc
              exact ⟨i, j, c, _, rfl, ⟨h1, by omega, h3, (Int.toNat_of_nonneg h4).symm⟩, k _ g1 H1 G1 s1 wk_rangeC⟩
      · cases e3
    · cases e3
end
end Ev
namespace L2
open PySem PySem.Spec PyProof.Rows
/-! ### {k: v for target in iter if ..}, the keys tuples -/
section
variable {X : Cx} {pins : List (Addr × Obj)} {σ : St} {H : Hp} {s : Shared} {E : Value → Shared → Prop}
theorem d_dictSetT {D b : Addr} {kvs : List (List Key × V)} {k : List Key} {v : V} {r : Value} {Q : Unit → Shared → Prop} (hu : X.A.units + 1 < cLine) (Iv : Inv X pins σ H s) (hD : H D = some (.dT kvs)) (hb : H b = some (.tup (k.map kV))) (hl : kvs.length < sizeLine)
    (rv : RelV v r) (h : ∀ s', Inv X pins σ (upd H D (.dT (putK kvs k v))) s' → Q () s') : wpAny (model X.prog X.w) X.A (dictSet D (.ref b) r) Q E s := by
  obtain ⟨zl, hd, xs, rel, dd⟩ := dt_of Iv.hok hD
  have zx : xs.length ≤ sizeLine := by rw [← Paired.length rel]; exact zl
  have zn : (putK kvs k v).length ≤ sizeLine := by have := length_putK kvs k v; omega
  refine wpAny_dictSet_heap (hsz := zx) (knd := tupleKind (mixKind X.prog X.w)) (show X.A.units < cLine by omega) (key_of Iv.hok hb) dd fun hp dd' hs => h _ ?_
  obtain ⟨q, es, ep, hq, h2, h3, h4, _, h5⟩ := dd'
  refine d_write Iv (by rw [hD]; exact True.intro) hs ⟨q, hq⟩ ⟨zn, hd, _, (rel.put k hb rv).keeps fun c ys ec => ?_, q, es, ep, hq, h2, h3, h4, h5⟩
  rw [upd_ne (ne_of ec hD (fun z => nomatch z))]
  exact ec
end
section
variable {X : Cx}
/-- what the comprehension asks: D the new dict -/
def tDcT (wi : TI) (g : TG) (tt : TT) (tk tv : TE) (ws : List Nat) : TE := fun σ H Q => wi σ H fun J H1 => ∀ D, H1 D = none → ∃ W : Nat → Nat → Hp → Prop, (∃ m, W 0 m (upd H1 D (.dT []))) ∧ ∀ i m G, W i m G →
  (J.stop i G ∧ Q (.ref D) G) ∨ (J.go i G ∧ ∃ Nx : Hp → Prop, (∀ G', Nx G' → ∃ m', m' < m ∧ W (i + 1) m' G') ∧ ∀ x G', J.yld i G x G' → g x (wipe σ ws) G' fun τ H2 => wipe τ ws = wipe σ ws ∧ tt τ H2 fun b H3 =>
    if b = true then tk τ H3 fun y H4 => tv τ H4 fun z H5 => ∃ kvs k b, y = .ref b ∧ H5 b = some (.tup (k.map kV)) ∧ H5 D = some (.dT kvs) ∧ kvs.length < sizeLine ∧ Nx (upd H5 D (.dT (putK kvs k z))) else Nx H3)
theorem pe_dcT {kx vx tg iter : Expr} {ifs : List Expr} {scope : Scope} {own : List (Str × Nat)} {pos : Pos} {wi : TI} {g : TG} {tt : TT} {tk tv : TE} (hu : X.A.units + 2 < cLine) (hc : X.calm = true) (hN : X.N.Nodup) (pi : PI X tg iter wi) (bo : BlkOk X.N X.env.scope scope own)
    (pg : ∀ (t : Shared) (G : Hp) (C : Addr) (cl : List (Str × Addr)) (ch : List Addr), PG (X.blk t G scope (compEnvC scope cl C X.env) ch) tg g)
    (pt : ∀ (t : Shared) (G : Hp) (C : Addr) (cl : List (Str × Addr)) (ch : List Addr), PTs (X.blk t G scope (compEnvC scope cl C X.env) ch) ifs tt)
    (pk : ∀ (t : Shared) (G : Hp) (C : Addr) (cl : List (Str × Addr)) (ch : List Addr), PE (X.blk t G scope (compEnvC scope cl C X.env) ch) kx tk)
    (pv : ∀ (t : Shared) (G : Hp) (C : Addr) (cl : List (Str × Addr)) (ch : List Addr), PE (X.blk t G scope (compEnvC scope cl C X.env) ch) vx tv) (hs : ∀ x, foldedSetIterable iter X.env x = pure x := by intro _; rfl) :
    PE X (.DictComp kx vx [⟨tg, iter, ifs, 0⟩] scope pos) (tDcT wi g tt tk tv (own.map (·.2))) := by
  refine ⟨fun pins s σ H Q Iv hyp => ?_⟩
  rw [arm_eval_DictComp]
  have cap : ∀ y ∈ scope.names, y.2 = .free → ∃ c, X.env.cells.lookup y.1 = some c := fun y hy e => (bo.free y hy e).elim (fun k => Iv.ok.has _ (.inl k)) fun k => Iv.ok.has _ (.inr k)
  refine wpAny_comprehension_free rfl hs (closure_ok cap) bo.kind (fun y hy e => by rw [bo.uniq y hy, e])
    (thn (pi.run pins s σ H _ Iv hyp) fun xv t1 hx => thn hx fun itv t2 got => ?_)
  obtain ⟨it, ch, tn, J, H2, eit, I2, Tk, sn2, ok2, rest⟩ := got
  subst eit
  refine wpAny_newObj_type (newEnv_comp ?_)
  generalize hDd : t2.heap.objs.size = D
  have freeD : H2 D = none := I2.hok.fresh (Nat.le_of_eq hDd)
  obtain ⟨W, ⟨m0, w0⟩, turn⟩ := rest D freeD
  generalize ht3 : ({ t2 with heap := t2.heap.push { cls := .type "dict", data := .dict #[] } } : Shared) = t3
  have I3 : Inv X pins σ (upd H2 D (.dT [])) t3 := by
    rw [← ht3]
    refine I2.laid (t' := t2.toks) (fun b o e => Heap.get?_push_of_some _ e) (Nat.le_of_eq hDd) ?_
    rw [← hDd]
    exact dt_empty t2.heap I2.big
  have hp3 : t3.heap = t2.heap.push { cls := .type "dict", data := .dict #[] } := by rw [← ht3]
  have old : ∀ b ∈ ch, b < t2.heap.objs.size := fun b hb => let ⟨o, e, _⟩ := Tk.obj _ _ sn2 b hb; Heap.lt_size e
  have ok3 : ∀ b ∈ ch, FpOk X pins (upd H2 D (.dT [])) b ∧ b < t3.heap.objs.size := fun b hb => by
    have lt := old b hb
    refine ⟨⟨?_, (ok2 b hb).2⟩, by rw [hp3, Heap.size_push]; exact Nat.lt_succ_of_lt lt⟩
    rw [upd_ne (by rw [← hDd]; exact Nat.ne_of_lt lt)]
    exact (ok2 b hb).1
  have sn3 : tn 0 t3.heap := Tk.keep _ _ _ sn2 fun b _ o e => by rw [hp3]; exact Heap.get?_push_of_some _ e
  have I4 := block_start I3 bo hN ok3
  have qg := pg t3 (upd H2 D (.dT [])) t3.heap.objs.size (cellsFrom (t3.heap.objs.size + 1) scope.names (cloFrom X.env.cells scope.names [])) ch
  have qt := pt t3 (upd H2 D (.dT [])) t3.heap.objs.size (cellsFrom (t3.heap.objs.size + 1) scope.names (cloFrom X.env.cells scope.names [])) ch
  have qk := pk t3 (upd H2 D (.dT [])) t3.heap.objs.size (cellsFrom (t3.heap.objs.size + 1) scope.names (cloFrom X.env.cells scope.names [])) ch
  have qv := pv t3 (upd H2 D (.dT [])) t3.heap.objs.size (cellsFrom (t3.heap.objs.size + 1) scope.names (cloFrom X.env.cells scope.names [])) ch
  show codeAny _ _ (.compStart (.DictComp kx vx [⟨tg, iter, ifs, 0⟩] scope pos) 0 (.ref it) (.ref D) (compEnvC scope (cellsFrom (t3.heap.objs.size + 1) scope.names (cloFrom X.env.cells scope.names [])) t3.heap.objs.size X.env)) (compPost (model X.prog X.w) X.A X.xe none (EP X pins σ Q) (.ref D) t3.heap.objs.size) { t3 with heap := pushCells (t3.heap.push { cls := .type "dict", data := .dict #[] }) scope.names }
  have bare : ∀ b ∈ ch, (upd H2 D (.dT [])) b = none := fun b hb => (ok3 b hb).1.1
  generalize hne : compEnvC scope (cellsFrom (t3.heap.objs.size + 1) scope.names (cloFrom X.env.cells scope.names [])) t3.heap.objs.size X.env = ne at I4 qg qt qk qv ⊢
  have loc : ne.locals = t3.heap.objs.size := by subst hne; rfl
  generalize hG3 : upd H2 D (.dT []) = G3 at I3 I4 qg qt qk qv w0 bare ok3
  generalize ht4 : ({ t3 with heap := pushCells (t3.heap.push { cls := .type "dict", data := .dict #[] }) scope.names } : Shared) = t4 at I4 ⊢
  have sn4 : tn 0 t4.heap := Tk.keep _ _ _ sn3 fun b _ o e => by rw [← ht4]; exact pushCells_keeps _ _ _ _ (Heap.get?_push_of_some _ e)
  have foot : ∀ {τ : St} {G' : Hp} {t' : Shared}, Inv (X.blk t3 G3 scope ne ch) [] τ G' t' → (∀ b ∈ ch, G' b = none) → ∀ b ∈ ch, FpOk (X.blk t3 G3 scope ne ch) [] G' b := fun {τ G' t'} Ix hx b hb =>
    ⟨hx b hb, (Ix.ok.exf b hb).1, Ix.ok.exfs b hb, .inl hb, fun x c e => (Ix.ok.exf b hb).2 x c e, fun p hp => absurd (show p ∈ ([] : List (Addr × Obj)) ++ [] from hp) (by simp)⟩
  have whole : codeAny (model X.prog X.w) X.A (.compLoop (.DictComp kx vx [⟨tg, iter, ifs, 0⟩] scope pos) 0 (.ref it) (.ref D) ne) (compPost (model X.prog X.w) X.A X.xe none (EP X pins σ Q) (.ref D) t3.heap.objs.size) t4 := by
    refine compLoop_anyD (fun n t' => ∃ i G', Inv (X.blk t3 G3 scope ne ch) [] (wipe σ (own.map (·.2))) G' t' ∧ tn i t'.heap ∧ (∀ b ∈ ch, G' b = none) ∧ W i n G') ?_ m0 ⟨0, G3, I4, sn4, bare, w0⟩
    rintro n t5 ⟨i, G5, I5, sn5, bare5, w5⟩
    rcases turn i n G5 w5 with ⟨stop, fin⟩ | ⟨go, Nx, hNx, step⟩
    · refine thnF (Tk.done (X.blk t3 G3 scope ne ch) rfl rfl rfl hc i [] t5 _ G5 (fun _ _ => False) I5 (foot I5 bare5) sn5 stop) fun r t6 ⟨hr, I6⟩ => ?_
      subst hr
      have I7 : Inv X pins σ G5 t6 := I3.call' (ch := ch) I6.os I6.base I6.hok I6.bare fun b hb => ⟨(ok3 b hb).1.2.2.2.1, (ok3 b hb).1.2.1, (ok3 b hb).1.2.2.2.2.1, (ok3 b hb).1.2.2.2.2.2⟩
      have nC : G5 t3.heap.objs.size = none := loc ▸ (show G5 ne.locals = none from I6.free)
      obtain ⟨ml, hn, _⟩ := I6.loc
      have hn' : t6.heap.Ns t3.heap.objs.size ml := loc ▸ (show t6.heap.Ns ne.locals ml from hn)
      obtain ⟨f0, f1, f2, f3, f4, f5⟩ := I3.fpOk (Nat.le_refl _) nC
      exact ⟨ml, hn', fun h'' sb => ⟨.ref D, G5, I7.turned (t' := t6.toks) (fun b o hb e => (sb.2 b hb).trans e) f0 f1 f3 f4 f5, rfl, fin⟩⟩
    · refine thnF (Tk.item (X.blk t3 G3 scope ne ch) rfl rfl rfl hc i [] t5 _ G5 (fun _ _ => False) I5 (foot I5 bare5) sn5 go) fun r t6 ⟨u, hr, h6⟩ => ?_
      subst hr
      refine thnF h6 fun _ t7 ⟨x, G7, I7, r7, y7, sn7, bare7⟩ => ?_
      have I7p := I7.pinned (foot I7 bare7) (Tk.obj _ _ sn7)
      refine thnF (qg.run _ t7 _ G7 x u _ I7p r7 (step x G7 y7)) fun _ t8 ⟨τ, G8, I8, hw8, q8⟩ => ?_
      refine thnF (qt.run _ t8 τ G8 _ I8 q8) fun b t9 ⟨G9, I9, q9⟩ => ?_
      have next : ∀ {t' : Shared} {G' : Hp}, Inv (X.blk t3 G3 scope ne ch) ([] ++ pinsAt ch t7.heap) τ G' t' → Nx G' → ∃ m, m < n ∧ ∃ i G', Inv (X.blk t3 G3 scope ne ch) [] (wipe σ (own.map (·.2))) G' t' ∧ tn i t'.heap ∧ (∀ b ∈ ch, G' b = none) ∧ W i m G' := fun {t' G'} Ix nx => by
        obtain ⟨m', hm, w'⟩ := hNx G' nx
        have kept : ∀ b ∈ ch, ∀ o, t7.heap.get? b = some o → t'.heap.get? b = some o ∧ G' b = none := fun b hb o e =>
          let z := Ix.pin (b, o) (List.mem_append_right _ (List.mem_append_right _ (mem_pinsAt hb e)))
          ⟨z.1, z.2.1⟩
        refine ⟨m', hm, i + 1, G', (Ix.unpinned (pins := [])).weak (by rw [← hw8, wipe_length]) (fun j v e => (wipe_some (hw8 ▸ e)).1), Tk.keep _ _ _ sn7 fun b hb o e => (kept b hb o e).1, fun b hb => ?_, w'⟩
        obtain ⟨o, e, _⟩ := Tk.obj _ _ sn7 b hb
        exact (kept b hb o e).2
      cases b with
      | false =>
        simp only [Bool.false_eq_true, if_false] at q9 ⊢
        exact next I9 q9
      | true =>
        simp only [if_true] at q9 ⊢
        refine thnF (qk.run _ t9 τ G9 _ I9 q9) fun uk t10 ⟨yk, G10, I10, rk, q10⟩ => ?_
        refine thnF (qv.run _ t10 τ G10 _ I10 q10) fun uv t11 ⟨yv, G11, I11, rv, kvs, k, b, ek, hb, hD11, hz11, nx⟩ => ?_
        subst ek
        obtain rfl : uk = Value.ref b := rk
        exact d_dictSetT (X := X.blk t3 G3 scope ne ch) (show X.A.units + 1 < cLine by omega) I11 hD11 hb hz11 rv fun t12 I12 => next I12 nx
  exact codeAny_compStart_dict whole (Tk.self X.A 0 _ _ _ sn4 whole)
end
end L2
namespace Ev
open PySem PySem.Spec PyProof.Rows L2
/-! ### dict comprehensions whose keys are tuples -/
def dcompL (f : D → M (Option (List Key × D))) : List D → List (List Key × D) → M (List (List Key × D))
  | [], acc => fun S => .ok acc S
  | d :: ds, acc => fun S => (f d S).then fun y S1 => match y with
    | some kv => if acc.length < sizeLine then dcompL f ds (putKD acc kv.1 kv.2) S1 else .bad
    | none => dcompL f ds acc S1
def keyed (k v : D) (S : Sto) : Res (Option (List Key × D)) := match keysD k with
  | some ks => .ok (some (ks, v)) S
  | none => .bad
def dcBody (sg : SG) (st : SB) (sk sv : SE) (ρ : DEnv) : D → M (Option (List Key × D)) := fun d S => match sg d ρ with
  | some ρ2 => (st ρ2 S).then fun b S1 => if b then (sk ρ2 S1).then fun k S2 => (sv ρ2 S2).then fun v S3 => keyed k v S3 else .ok none S1
  | none => .bad
def sDictC (vs : List Nat) (si : SI) (sg : SG) (st : SB) (sk sv : SE) : SE := fun ρ S => (si ρ S).then fun ds S1 => (dcompL (dcBody sg st sk sv (wipeE ρ vs)) ds [] S1).then fun kds S2 => .ok (.mref S2.length) (S2 ++ [.t false kds])
section
variable {K : PySem.W.Frag} {mg : Str → Option Value} {g0 g : Gh} {H0 H : Hp} {S : Sto} {own : List Nat} {ρ : DEnv} {σ : L2.St}
theorem EnvOk.asideT (E : EnvOk K mg g0 H0 own ρ σ g H S) {p : Addr} {o : HO} {xs : List (List Key × V)} (hp : H p = some (.dT xs)) (h1 : g.F p = none) (h2 : p ∉ g.as) (h3 : H0 p = none) (hne : ∀ j ∈ own, σ[j]? ≠ some (some (.ref p))) : EnvOk K mg g0 H0 own ρ σ g (upd H p o) S := by
  have Fne : ∀ {b : Addr} {u : HO}, g.F b = some u → b ≠ p := fun {b u} e z => by rw [z, h1] at e; cases e
  refine ⟨⟨fun b u e => by rw [upd_ne (Fne e)]; exact E.gok.sub _ _ e, E.gok.nd, E.gok.len, E.gok.nf, fun j a ha => ?_⟩, ⟨E.stp.le, fun b u e n => ?_, fun b e => ?_, E.stp.newF, E.stp.newA⟩, E.len, E.fro, fun j hj => ?_, E.dis⟩
  · obtain ⟨kvs, kds, q1, q2, q3⟩ := E.gok.st j a ha
    exact ⟨kvs, kds, by rw [upd_ne (fun z : a = p => h2 (z ▸ List.mem_of_getElem? ha))]; exact q1, q2, q3⟩
  · rw [upd_ne (fun z : b = p => by rw [z, h3] at e; cases e)]
    exact E.stp.keep b u e n
  · by_cases z : b = p
    · rw [z, upd_same]; exact fun z => nomatch z
    · rw [upd_ne z]; exact E.stp.there b e
  · obtain ⟨q, d', q1, q2, b1, b2, b3, b4⟩ := E.ow j hj
    have nq : q ≠ p := fun z => hne j hj (by rw [q2, z])
    refine ⟨q, d', q1, q2, b1, b2, b3, ?_⟩
    rcases b4 with ⟨vs', ds', e', h', r'⟩ | ⟨C', dy, c', fvs', fs', e', hm', h', hd', f1, f2, f3, r'⟩
    · exact .inl ⟨vs', ds', e', by rw [upd_ne nq]; exact h', r'⟩
    · exact .inr ⟨C', dy, c', fvs', fs', e', hm', by rw [upd_ne nq]; exact h', by rw [upd_ne (ne_of hd' hp (fun z => nomatch z))]; exact hd', f1, f2, f3, r'⟩
end
section
variable {X : Cx} {own own' ts vs : List Nat} {si : SI} {sg : SG} {st : SB} {sk sv : SE}
theorem dcomp_of (hv : ∀ i ∈ vs, i ∉ own) (hts : ∀ i ∈ ts, i ∈ vs) {σ : L2.St} {H : Hp} {Q : VK} (h : tE X own (sDictC vs si sg st sk sv) σ H Q) : tDcT (tI X own si) (tG X own own' ts sg) (tB X own' st) (tE X own' sk) (tE X own' sv) vs σ H Q := by
  obtain ⟨g0, H0, ρ, g, S, E, q⟩ := h
  obtain ⟨d, S', e1, k⟩ := Res.post_ex q
  obtain ⟨ds, S1, e2, e1⟩ := Res.then_ex e1
  obtain ⟨ys, S2, e3, e1⟩ := Res.then_ex e1
  cases e1
  refine ⟨g0, H0, ρ, g, S, E, ?_⟩
  rw [e2]
  intro J g1 H1 G1 s1 wk L hL
  have hHL : H L = none := by
    cases q : H L with
    | none => rfl
    | some o => exact absurd hL (s1.there L (by rw [q]; exact fun z => nomatch z))
  have hH0L := E.new0 hHL
  have other := E.other hHL
  have E1 := E.step G1 s1
  have hAL : L ∉ g.as := E.gok.notin hHL
  refine ⟨fun i m H2 => m + i = ds.length ∧ ∃ g2 S2' acc as, EnvOk X.K X.mg g0 H0 own (wipeE ρ vs) (wipe σ vs) g2 H2 S2' ∧ Stp g H g2 H2 ∧ GLe g1 g2 ∧ H2 L = some (.dT acc) ∧ g2.F L = none ∧ L ∉ g2.as ∧ KReps X.K X.mg g2 acc as ∧
    dcompL (dcBody sg st sk sv (wipeE ρ vs)) (ds.drop i) as S2' = .ok ys S2, ⟨ds.length, rfl, g1, S1, [], [], ?_⟩, ?_⟩
  · refine ⟨(E1.step (G1.fresh hL) (stp_fresh hL)).wipe hv, s1.trans (stp_fresh hL), .refl _, upd_same, G1.nfree hL, G1.notin hL, .nil, ?_⟩
    rw [List.drop_zero]
    exact e3
  · rintro i m H2 ⟨hm, g2, S3, acc, as, E2, s2, l2, hLa, hLF, hLA, rs, ez⟩
    have hneL : ∀ j ∈ own, (wipe σ vs)[j]? ≠ some (some (.ref L)) := fun j hj e => other j hj (wipe_some e).1
    obtain ⟨w1, w2⟩ := wk g2 H2 S3 E2.gok l2 i
    cases hd : ds[i]? with
    | none =>
      have hlen : ds.length ≤ i := List.getElem?_eq_none_iff.mp hd
      rw [List.drop_eq_nil_of_le hlen] at ez
      cases ez
      have G3 := E2.gok.newM (o := .dT acc) (m := .t false ys) hLa hLF hLA (.t rs)
      have eH : upd H2 L (.dT acc) = H2 := by
        funext b
        by_cases z : b = L
        · rw [z, upd_same, hLa]
        · rw [upd_ne z]
      rw [eH] at G3
      have s3 := stp_newM (S := S) (o := HO.dT acc) (o' := HO.dT acc) hHL s2 hAL
      rw [eH] at s3
      refine .inl ⟨w2 (by omega), k _ _ _ G3 s3 (.mref ?_)⟩
      show (g2.as ++ [L])[S2.length]? = some L
      rw [List.getElem?_append_right (by rw [E2.gok.len]; exact Nat.le_refl _), E2.gok.len]
      simp
    | some d =>
      obtain ⟨go, y⟩ := w1 d hd
      have hlt : i < ds.length := (List.getElem?_eq_some_iff.mp hd).1
      have hdrop : ds.drop i = d :: ds.drop (i + 1) := by
        rw [List.drop_eq_getElem_cons hlt]
        congr 1
        exact (List.getElem?_eq_some_iff.mp hd).2
      rw [hdrop] at ez
      obtain ⟨yo, S4, e4, e5⟩ := Res.then_ex ez
      refine .inr ⟨go, _, fun H' z => z, fun x H' hy => ?_⟩
      obtain ⟨g3, G3, s3, r3⟩ := y x H' hy
      cases hsg : sg d (wipeE ρ vs) with
      | none => unfold dcBody at e4; rw [hsg] at e4; cases e4
      | some ρ3 =>
        have eb : dcBody sg st sk sv (wipeE ρ vs) d S3 = (st ρ3 S3).then fun b S1 => if b then (sk ρ3 S1).then fun k S2 => (sv ρ3 S2).then fun v S3 => keyed k v S3 else .ok none S1 := by unfold dcBody; rw [hsg]
        rw [eb] at e4
        have E3 := E2.step G3 s3
        refine ⟨g0, H0, wipeE ρ vs, g3, S3, d, ρ3, E3, r3, hsg, fun σ4 ap E4 => ⟨?_, ?_⟩⟩
        · have a1 : wipe σ4 vs = wipe (wipe σ vs) vs := wipe_apart (fun j hj => ap.2 j fun z => hj (hts j z)) ap.1
          rw [a1]
          exact wipe_apart (fun j hj => wipe_out hj) (wipe_length _ _)
        · obtain ⟨b, S6, e8, e9⟩ := Res.then_ex e4
          refine ⟨g0, H0, ρ3, g3, S3, E4, ?_⟩
          rw [e8]
          intro g7 H7 G7 s7
          have sl : Stp g2 H2 g7 H7 := s3.trans s7
          cases b with
          | true =>
            rw [if_pos rfl]
            have e9' : ((sk ρ3 S6).then fun k S2 => (sv ρ3 S2).then fun v S3 => keyed k v S3) = .ok yo S4 := e9
            obtain ⟨kd, S8, e10, e11⟩ := Res.then_ex e9'
            obtain ⟨vd, S9, e12, e13⟩ := Res.then_ex e11
            unfold keyed at e13
            cases hks : keysD kd with
            | none => rw [hks] at e13; cases e13
            | some ks =>
              rw [hks] at e13
              cases e13
              have e5' : (if as.length < sizeLine then dcompL (dcBody sg st sk sv (wipeE ρ vs)) (ds.drop (i + 1)) (putKD as ks vd) S4 else .bad) = .ok ys S2 := e5
              split at e5'
              · rename_i hz
                refine ⟨g0, H0, ρ3, g7, S6, E4.step G7 s7, ?_⟩
                rw [e10]
                intro v8 g8 H8 G8 s8 r8
                refine ⟨g0, H0, ρ3, g8, S8, (E4.step G7 s7).step G8 s8, ?_⟩
                rw [e12]
                intro v9 g9 H9 G9 s9 r9
                obtain ⟨b, rfl, hb⟩ := rep_keys (r8.mono s9.le) hks
                have s28 := (sl.trans s8).trans s9
                have hL8 : H9 L = some (.dT acc) := s28.keep _ _ hLa hLA
                obtain ⟨hF8, hA8⟩ := s28.stay hLa hLF hLA fun _ z => nomatch z
                have E8 := (E2.step G9 s28).asideT (o := .dT (putK acc ks v9)) hL8 hF8 hA8 hH0L hneL
                refine ⟨acc, ks, b, rfl, G9.sub _ _ hb, hL8, by rw [rs.len]; exact hz, m - 1, by omega, by omega, g9, _, putK acc ks v9, putKD as ks vd, E8, ?_, l2.trans s28.le, upd_same, hF8, hA8, KReps.put r9 (rs.mono s28.le), e5'⟩
                refine ⟨s2.le.trans s28.le, fun b u e n => ?_, fun b e => ?_, fun b e => (s2.trans s28).newF b e, fun b e => (s2.trans s28).newA b e⟩
                · rw [upd_ne (fun z : b = L => by rw [z, hHL] at e; cases e)]
                  exact (s2.trans s28).keep b u e n
                · by_cases z : b = L
                  · rw [z, upd_same]; exact fun z => nomatch z
                  · rw [upd_ne z]; exact (s2.trans s28).there b e
              · cases e5'
          | false =>
            rw [if_neg Bool.false_ne_true]
            have e9' : (Res.ok none S6 : Res (Option (List Key × D))) = .ok yo S4 := e9
            cases e9'
            have hL8 : H7 L = some (.dT acc) := sl.keep _ _ hLa hLA
            obtain ⟨hF8, hA8⟩ := sl.stay hLa hLF hLA fun _ z => nomatch z
            exact ⟨m - 1, by omega, by omega, g7, _, acc, as, E2.step G7 sl, s2.trans sl, l2.trans sl.le, hL8, hF8, hA8, rs.mono sl.le, e5⟩
end
section
variable {X : Cx} {own own' ts vs : List Nat} {kx vx tg iter : Expr} {ifs : List Expr} {si : SI} {sg : SG} {st : SB} {sk sv : SE} {scope : Scope} {ownc : List (Str × Nat)} {pos : Pos} {n : Nat}
theorem sim_dictC (hr : Room n X.A) (hc : X.calm = true) (hN : X.N.Nodup) (hi : SimI X own tg iter si) (ok : BlkOk X.N X.env.scope scope ownc)
    (hg : ∀ (s : Shared) (H : Hp) (C : Addr) (cl : List (Str × Addr)) (fp : List Addr), SimG (X.blk s H scope (compEnvC scope cl C X.env) fp) own own' ts tg sg)
    (ht : ∀ (s : Shared) (H : Hp) (C : Addr) (cl : List (Str × Addr)) (fp : List Addr), SimTs (X.blk s H scope (compEnvC scope cl C X.env) fp) own' ifs st)
    (hk : ∀ (s : Shared) (H : Hp) (C : Addr) (cl : List (Str × Addr)) (fp : List Addr), SimE (X.blk s H scope (compEnvC scope cl C X.env) fp) own' kx sk)
    (he : ∀ (s : Shared) (H : Hp) (C : Addr) (cl : List (Str × Addr)) (fp : List Addr), SimE (X.blk s H scope (compEnvC scope cl C X.env) fp) own' vx sv)
    (hv : noneIn (ownc.map (·.2)) own = true := by rfl) (hts : subL ts (ownc.map (·.2)) = true := by rfl) (hs : ∀ x, foldedSetIterable iter X.env x = pure x := by intro _; rfl) :
    SimE X own (.DictComp kx vx [⟨tg, iter, ifs, 0⟩] scope pos) (sDictC (ownc.map (·.2)) si sg st sk sv) :=
  pe_weak (pe_dcT (g := tG X own own' ts sg) (tt := tB X own' st) (tk := tE X own' sk) (tv := tE X own' sv) (by have := hr.un; omega) hc hN hi ok (fun s H C cl fp => hg s H C cl fp) (fun s H C cl fp => ht s H C cl fp) (fun s H C cl fp => hk s H C cl fp) (fun s H C cl fp => he s H C cl fp) hs) fun _ _ _ h => dcomp_of (noneIn_ok hv) (subL_ok hts) h
end
end Ev
namespace L2
open PySem PySem.Spec PyProof.Rows
/-! ### min(x, y) of nested data -/
def minOk (d e : PyData) : Bool := ([d, e].all fun x => [d, e].all fun y => PySem.W.alike x y) && [d, e].all fun x => (match x with
  | .none => false
  | _ => true) && decide (x.depth ≤ 60)
theorem minOk_spec {d e : PyData} (h : minOk d e = true) : PySem.W.AlikeAll [d, e] ∧ PyData.depthAll [d, e] ≤ 61 := by
  unfold minOk at h
  rw [Bool.and_eq_true] at h
  obtain ⟨h1, h2⟩ := h
  refine ⟨⟨fun x hx y hy => List.all_eq_true.mp (List.all_eq_true.mp h1 x hx) y hy, fun x hx => ?_⟩, ?_⟩
  · have := List.all_eq_true.mp h2 x hx
    intro z
    subst z
    simp at this
  · have q : ∀ x ∈ [d, e], x.depth ≤ 60 := fun x hx => by
      have := List.all_eq_true.mp h2 x hx
      rw [Bool.and_eq_true] at this
      exact of_decide_eq_true this.2
    have a := q d (by simp)
    have b := q e (by simp)
    simp only [PyData.depthAll]
    omega
section
variable {prog : Program} {w : World} {A : Around} {E : Value → Shared → Prop} {s : Shared}
theorem min_pair {a b : Value} {x y : PyData} {as bs : List Addr} {Q : Value → Shared → Prop} (hh : A.handled = none) (ra : Reads s.heap a x as) (rb : Reads s.heap b y bs) (ok : minOk x y = true) (hu : A.units + 62 < cLine)
    (h : ∀ hp tk, (∀ c o, s.heap.get? c = some o → hp.get? c = some o) → Q (if PySem.W.dataLt y x then b else a) { s with heap := hp, toks := tk }) : wpAny (model prog w) A (call (.builtin "min") [a, b]) Q E s := by
  obtain ⟨al, dep⟩ := minOk_spec ok
  have nm : (toString "min" ++ toString ".loop" : String) = "min.loop" := by decide
  refine call_function_tree PySem.F.kind_min PySem.F.plain_min PySem.F.entry_min (PySem.F.args_min2 _ _) ?_
  show wpAny _ A.in1 (Builtin.Builtins.bindParams "min" ["key", "default"] 0 ⟨[], []⟩ >>= _) _ _ s
  refine wpAny_bind (wpAny_of_eq (show Builtin.Builtins.bindParams "min" ["key", "default"] 0 ⟨[], []⟩ = pure [none, none] from rfl) ?_)
  show wpAny _ A.in1 (newTuple [a, b] >>= _) _ _ s
  refine wpAny_bind (wpAny_newObj_type ?_)
  have old : ∀ c o, s.heap.get? c = some o → (s.heap.push { cls := .type "tuple", data := .seq #[a, b] }).get? c = some o := fun c o e => Heap.get?_push_of_some _ e
  have isT : (s.heap.push { cls := .type "tuple", data := .seq #[a, b] }).IsTuple s.heap.objs.size #[a, b] := ⟨_, Heap.get?_push_size _ rfl, rfl, 0, rfl⟩
  have rd : ReadsAll (s.heap.push { cls := .type "tuple", data := .seq #[a, b] }) (#[a, b] : Array Value).toList [x, y] (as ++ (bs ++ [])) := .cons (Reads.keeps old ra) (.cons (Reads.keeps old rb) .nil)
  refine wpAny_bind (PySem.W.iter_tupleW (A := A.in1) (s := { s with heap := s.heap.push { cls := .type "tuple", data := .seq #[a, b] } }) hh isT fun s2 e2 W st hfp hw hk => ?_)
  refine wpAny_bind (wpAny_newObj_type ?_)
  have fr : s2.heap.objs.size ∉ [(s.heap.push { cls := .type "tuple", data := .seq #[a, b] }).objs.size, s.heap.objs.size] := fun hm => Nat.lt_irrefl _ (hfp _ hm)
  rw [nm]
  refine wpAny_pure ⟨plainId_quiet PySem.F.plain_min_loop _, PySem.codeAny_min_loop_firstH W (s.heap.push { cls := .type "tuple", data := .seq #[a, b] }) hw _ (PySem.W.cmpIn_lt (s := { s with heap := s.heap.push { cls := .type "tuple", data := .seq #[a, b] } }) (A := A.in1) rd al (by show A.units + 1 + _ < _; omega)) s2.heap.objs.size fr (PySem.fresh_in hk) _ (by simp) (fun b o e => Heap.get?_push_of_some _ (hk b o e))
    (W.frame 0 s2 _ s2.toks st (Nat.le_refl _) fun b _ o e => Heap.get?_push_of_some _ e) (Heap.get?_push_size _ rfl) fun v s' hP hm => ?_⟩
  have hm2 := Moved.drop_new (tk := s2.toks) hm (Nat.le_refl _)
  obtain ⟨hp, tk, rfl, hk2⟩ := PySem.W.moved_old e2 rfl hm2
  have e3 : v = if PySem.W.dataLt y x then b else a := by
    have hP' : (#[a, b] : Array Value)[argBest (fun i j => PySem.W.dataLt ([x, y].getD i .none) ([x, y].getD j .none)) 1]? = some v := hP
    have e4 : argBest (fun i j => PySem.W.dataLt ([x, y].getD i .none) ([x, y].getD j .none)) 1 = if PySem.W.dataLt y x then 1 else 0 := rfl
    rw [e4] at hP'
    cases c : PySem.W.dataLt y x with
    | true =>
      rw [c] at hP'
      simpa using hP'.symm
    | false =>
      rw [c] at hP'
      simpa using hP'.symm
  rw [e3]
  exact h hp tk fun c o e => hk2 c o (old c o e)
end
def rMinD (K : PySem.W.Frag) : List V → Hp → VK → Prop := fun xs H Q => ∃ u v d e, xs = [u, v] ∧ Dp K H u d ∧ Dp K H v e ∧ minOk d e = true ∧ Q (if PySem.W.dataLt e d then v else u) H
theorem call_minD {X : Cx} (hc : X.calm = true) (hu : X.A.units + 62 < cLine) : CallR X (.builtin "min") (rMinD X.K) := by
  intro pins s σ H xs us Q I r h
  obtain ⟨x, y, d, e, rfl, hd, he, ok, q⟩ := h
  obtain ⟨u, v, rfl, r1, r2⟩ := vals2 r
  obtain ⟨as, ra⟩ := Dp.reads I _ _ _ hd r1
  obtain ⟨bs, rb⟩ := Dp.reads I _ _ _ he r2
  refine min_pair (I.ok.hd hc) ra rb ok hu fun hp tk k => ⟨_, H, I.kept k, ?_, q⟩
  cases PySem.W.dataLt e d with
  | true => exact r2
  | false => exact r1
end L2
namespace Ev
open PySem PySem.Spec PyProof.Rows L2
def dMinD (a b : D) : Option D := match a.py, b.py with
  | some x, some y => if minOk x y then some (if PySem.W.dataLt y x then b else a) else none
  | _, _ => none
def dMinA : List D → Option D
  | [.int i, .int j] => some (.int (if j < i then j else i))
  | [.tup xs, .tup ys] => dMinD (.tup xs) (.tup ys)
  | _ => none
@[simp] theorem d_minA_int (i j : Int) : dMinA [.int i, .int j] = some (.int (if j < i then j else i)) := rfl
@[simp] theorem d_minA_tup (xs ys : List D) : dMinA [.tup xs, .tup ys] = dMinD (.tup xs) (.tup ys) := rfl
section
variable {X : Cx}
theorem opN_minA : OpN X dMinA (fun xs H Q => (∃ i j, xs = [.int i, .int j] ∧ Q (.int (if j < i then j else i)) H) ∨ rMinD X.K xs H Q) := by
  intro g H S xs ds d Q G r e k
  unfold dMinA at e
  split at e
  · cases e
    obtain ⟨x, y, rfl, h, h2⟩ := rr2 r
    cases h.int
    cases h2.int
    exact .inl ⟨_, _, rfl, k _ g H G .refl (.int _)⟩
  · rename_i as bs
    obtain ⟨x, y, rfl, h1, h2⟩ := rr2 r
    unfold dMinD at e
    cases p : (D.tup as).py with
    | none => rw [p] at e; cases e
    | some dx => cases q : (D.tup bs).py with
      | none => rw [p, q] at e; cases e
      | some dy =>
        rw [p, q] at e
        have e' : (if minOk dx dy then some (if PySem.W.dataLt dy dx then D.tup bs else .tup as) else none) = some d := e
        split at e'
        · rename_i ok
          cases e'
          refine .inr ⟨x, y, dx, dy, rfl, dp_read G h1 p, dp_read G h2 q, ok, ?_⟩
          have f1 := h1.rep (fun _ e => nomatch e)
          have f2 := h2.rep (fun _ e => nomatch e)
          cases c : PySem.W.dataLt dy dx with
          | true =>
            rw [c] at k
            exact k _ g H G .refl f2
          | false =>
            rw [c] at k
            exact k _ g H G .refl f1
        · cases e'
  · cases e
theorem v_minA {own : List Nat} {n : Nat} {a b : Expr} {sa sb : SE} {p pos : Pos} (hr : Room n X.A) (hm : X.mg "min" = none) (ha : SimR X own a sa) (hb : SimR X own b sb) (hc : X.calm = true := by rfl) (hg : Gl X "min" := by rfl) (he : starEach (a :: [b]) X.env = (false, eval a X.env) :: starEach [b] X.env := by rfl) (he2 : starEach (b :: []) X.env = (false, eval b X.env) :: starEach [] X.env := by rfl) (hpl : (backTo pos (starEach [b] X.env)).any (·.1) = false := by rfl) : SimE X own (.Call (.Name "min" p) [a, b] [] pos) (sCallN dMinA [(false, sa), (false, sb)]) :=
  sim_callB ((call_min2 hc).or (call_minD hc (by have := hr.un; omega))) opN_minA hg hm (by decide +kernel) (simr_cons ha (simr_cons hb simr_nil he2) he) (by decide) (by decide) he hpl
end
end Ev
namespace L2
open PySem PySem.Spec PyProof.Rows
/-! ### min(xs, key=len), xs a list of tuples -/
section
variable {prog : Program} {w : World} {A : Around} {E : Value → Shared → Prop} {s : Shared}
theorem min_keylen {l : Addr} {vs : Array Value} (lens : Nat → Nat) {Q : Value → Shared → Prop} (hh : A.handled = none) (hl : s.heap.IsList l vs) (ne : 0 < vs.size)
    (each : ∀ i v, vs[i]? = some v → ∃ a ws, v = .ref a ∧ IsTup s.heap a ws ∧ ws.size = lens i ∧ (ws.size : Int) < 2 ^ 63)
    (h : ∀ hp tk v, vs[argBest (fun i j => decide (lens i < lens j)) (vs.size - 1)]? = some v → (∀ c o, s.heap.get? c = some o → hp.get? c = some o) → Q v { s with heap := hp, toks := tk }) :
    wpAny (model prog w) A (call (.builtin "min") [.ref l] [(Str.ofString "key", .builtin "len")]) Q E s := by
  refine PySem.call_min_walkKB (PySem.W.iter_listW (A := A.in1) hh hl fun s2 e2 W st hfp hw hk => ?_)
  subst e2
  refine ⟨_, _, _, _, _, _, _, fun s' => ∃ hp tk, s' = { s with heap := hp, toks := tk } ∧ ∀ c o, s.heap.get? c = some o → hp.get? c = some o, fun i k s' => ∃ t, k = .int (lens i) t, fun i j => decide (lens i < lens j), rfl, W, st, hfp, ne, ⟨?_, ?_, ?_, ?_⟩, ⟨_, _, rfl, fun c o e => Heap.get?_push_of_some _ e⟩, fun v s' hP hJ => ?_⟩
  · rintro s1 s' ⟨hp, tk, rfl, k⟩ m
    obtain ⟨hp', g, d, tk', os⟩ := s'
    have h1 : g = s.gens := m.gens
    have h2 : d = s.drawn := m.drawn
    have h3 : os = s.os := m.os
    subst h1 h2 h3
    refine ⟨hp', tk', rfl, fun c o e => m.heap c o (fun hm => ?_) (k c o e)⟩
    have lt := Heap.lt_size e
    rcases List.mem_cons.mp hm with z | hm
    · rw [z] at lt
      have sz : (s.heap.push { cls := .type "list_iterator", data := .fields #[.ref l, .int 0 0] }).objs.size = s.heap.objs.size + 1 := Heap.size_push ..
      exact Nat.lt_irrefl _ (Nat.lt_trans (Nat.lt_succ_self _) (sz ▸ lt))
    · rw [List.mem_singleton.mp hm] at lt
      exact Nat.lt_irrefl _ lt
  · exact fun i k s1 s' v _ => v
  · rintro i v s1 o Q' E' hi hP ⟨hp, tk, rfl, k⟩ st1 hS k2
    obtain ⟨a, ws, rfl, ht, e1, hz⟩ := each i v hP
    have ht' : IsTup hp a ws := by
      obtain ⟨o, q, r⟩ := ht
      exact ⟨o, k _ _ q, r⟩
    refine len_tuple (s := { s with heap := hp, toks := tk }) ht' hz (k2 _ _ ⟨hp, _, rfl, k⟩ ⟨st1.1, st1.2⟩ hS ⟨_, by rw [e1]⟩ fun _ _ v => v)
  · rintro i j ki kj s1 Q' E' hJ ⟨t, rfl⟩ ⟨u, rfl⟩ q
    refine HT.rcLt_int _ _ _ _ _ _ _ _ _ _ ?_
    have : (decide ((lens i : Int) < (lens j : Int))) = decide (lens i < lens j) := by
      rw [decide_eq_decide]
      omega
    rw [this]
    exact q
  · obtain ⟨hp, tk, rfl, k⟩ := hJ
    exact h hp tk v hP k
end
def tMinLen (K : PySem.W.Frag) (t : TA) : TE := fun σ H Q => t σ H fun xs H1 => ∃ (a : Addr) (vs : List V) (lens : Nat → Nat), xs = [.ref a] ∧ SqL K H1 a vs ∧ vs ≠ [] ∧ (∀ (i : Nat) (v : V), vs[i]? = some v → ∃ b ws, v = .ref b ∧ SqT K H1 b ws ∧ ws.length = lens i) ∧
  ∃ v, vs[argBest (fun i j => decide (lens i < lens j)) (vs.length - 1)]? = some v ∧ Q v H1
section
variable {X : Cx}
theorem pe_minLen {e : Expr} {t : TA} {p lp kpos pos : Pos} (hc : X.calm = true) (hm : X.mg "min" = none) (hm2 : X.mg "len" = none) (hg : Gl X "min") (hg2 : Gl X "len") (ha : PA X [e] t)
    (he : backTo pos (starEach [e] X.env) = (false, eval e X.env) :: backTo pos (starEach [] X.env) := by rfl) (hpl : (backTo pos (starEach [e] X.env)).any (·.1) = false := by rfl) :
    PE X (.Call (.Name "min" p) [e] [⟨some "key", .Name "len" lp, kpos⟩] pos) (tMinLen X.K t) := by
  refine ⟨fun pins s σ H Q I h => ?_⟩
  refine wpAny_Call_Name_kw (ld_blt I hg hm (u := .builtin "min") (by decide +kernel) ?_ (by decide) (by decide))
  refine PyProof.Rows.callWith_kw (thn (ha.run pos pins s σ H _ I h) fun us s1 ⟨xs, H1, I1, r1, q1⟩ => ?_) he hpl (by rfl) (by rfl)
  obtain ⟨a, vs, lens, rfl, hs, hne, each, v, hv, q⟩ := q1
  show wpAny _ _ (evalAll [(do let v ← eval (.Name "len" lp) X.env; standAt pos; pure v)]) _ _ s1
  refine wpAny_evalAll_cons (wpAny_bind (ld_blt I1 hg2 hm2 (u := .builtin "len") (by decide +kernel) (wpAny_bind (wpAny_standAt (wpAny_pure (wpAny_evalAll_nil ?_)))) (by decide) (by decide)))
  rw [Vals.ref1 r1]
  obtain ⟨its, rv, hl, hz⟩ := I1.list hs
  have hlen : its.toArray.size = vs.length := by rw [List.size_toArray, rv.length]
  refine min_keylen lens (I1.ok.hd hc) hl.isList (by rw [hlen]; exact List.length_pos_iff.mpr hne) (fun i u hi => ?_) fun hp tk u hu k => ?_
  · have hi' : its[i]? = some u := by simpa using hi
    obtain ⟨w1, hw1, rw1⟩ : ∃ x, vs[i]? = some x ∧ RelV x u := by
      have hlt : i < vs.length := by
        have := (List.getElem?_eq_some_iff.mp hi').1
        rw [rv.length]
        exact this
      obtain ⟨u', e1, e2⟩ := rv.get (List.getElem?_eq_getElem hlt)
      rw [hi'] at e1
      cases e1
      exact ⟨_, List.getElem?_eq_getElem hlt, e2⟩
    obtain ⟨b, ws, rfl, ht, e1⟩ := each i w1 hw1
    obtain rfl : u = Value.ref b := rw1
    obtain ⟨its2, rv2, pl2, hz2⟩ := I1.tuple ht
    refine ⟨b, _, rfl, pl2, by rw [List.size_toArray, ← rv2.length]; exact e1, ?_⟩
    rw [List.size_toArray, ← rv2.length]
    rw [sizeLine_eq] at hz2
    omega
  · rw [hlen] at hu
    have hu' : its[argBest (fun i j => decide (lens i < lens j)) (vs.length - 1)]? = some u := by simpa using hu
    obtain ⟨u', e1, e2⟩ := rv.get hv
    rw [hu'] at e1
    cases e1
    exact ⟨v, H1, I1.kept k, e2, q⟩
end
end L2
namespace Ev
open PySem PySem.Spec PyProof.Rows L2
def tlen : D → Option Nat
  | .tup xs => some xs.length
  | _ => none
def bestLen (xs : List D) : Nat := argBest (fun i j => decide (((xs.getD i .non |> tlen).getD 0) < ((xs.getD j .non |> tlen).getD 0))) (xs.length - 1)
def dMinLen : D → Option D
  | .lst xs => if (xs.all fun x => (tlen x).isSome) = true then xs[bestLen xs]? else none
  | _ => none
def sMinLen (se : SE) : SE := fun ρ S => (se ρ S).then fun d S' => optR (dMinLen d) S'
@[simp] theorem e_minLen (se : SE) (ρ : DEnv) (S : Sto) : sMinLen se ρ S = (se ρ S).then fun d S' => optR (dMinLen d) S' := rfl
section
variable {X : Cx} {own : List Nat} {e : Expr} {se : SE} {p lp kpos pos : Pos}
theorem sim_minLen (hm : X.mg "min" = none) (hm2 : X.mg "len" = none) (ha : SimR X own e se) (hc : X.calm = true := by rfl) (hg : Gl X "min" := by rfl) (hg2 : Gl X "len" := by rfl) (hs : starEach (e :: []) X.env = (false, eval e X.env) :: starEach [] X.env := by rfl)
    (he : backTo pos (starEach [e] X.env) = (false, eval e X.env) :: backTo pos (starEach [] X.env) := by rfl) (hpl : (backTo pos (starEach [e] X.env)).any (·.1) = false := by rfl) :
    SimE X own (.Call (.Name "min" p) [e] [⟨some "key", .Name "len" lp, kpos⟩] pos) (sMinLen se) :=
  pe_weak (pe_minLen hc hm hm2 hg hg2 (pa_cons ha pa_nil hs) he hpl) fun σ H Q ⟨g0, H0, ρ, g, S, E, q⟩ => by
    obtain ⟨d, S', e1, k⟩ := Res.post_ex q
    obtain ⟨d1, S1, e2, e1⟩ := Res.then_ex e1
    obtain ⟨e3, eS⟩ := optR_ex e1
    subst eS
    refine ⟨g0, H0, ρ, g, S, E, ?_⟩
    rw [e2]
    intro v g1 H1 G1 s1 r1
    cases d1 with
    | lst ys =>
      have e4 : (if (ys.all fun x => (tlen x).isSome) = true then ys[bestLen ys]? else none) = some d := e3
      split at e4
      · rename_i hall
        obtain ⟨a, vs, rfl, hp, rs⟩ := RepR.lst G1 r1
        have hlen := rs.length
        have hb : bestLen ys = argBest (fun i j => decide (((ys.getD i .non |> tlen).getD 0) < ((ys.getD j .non |> tlen).getD 0))) (vs.length - 1) := by rw [hlen]; rfl
        obtain ⟨v, hv, rv⟩ := rs.get e4
        rw [hb] at hv
        refine ⟨a, vs, fun i => ((ys.getD i .non |> tlen).getD 0), rfl, SqL.of hp, (fun z => by rw [z] at hv; cases hv), fun i w hw => ?_, v, hv, k v g1 H1 G1 s1 rv⟩
        obtain ⟨dw, hdw, rw'⟩ := rs.getV hw
        have h1 := List.all_eq_true.mp hall dw (List.mem_of_getElem? hdw)
        cases dw with
        | tup zs =>
          obtain ⟨b, ws, rfl, hb2, rs2⟩ := RepR.tup G1 (.inl rw')
          refine ⟨b, ws, rfl, SqT.of hb2, ?_⟩
          show ws.length = (tlen (ys.getD i .non)).getD 0
          rw [List.getD_eq_getElem?_getD, hdw, rs2.length]
          rfl
        | _ => cases h1
      · cases e4
    | _ => cases e3
end
end Ev
/-! ### sorted: tuples, the first of them empty -/
namespace TupHd
open PySem PySem.W PySem.Calls PyProof.Rows PySem.SeqAt
section
variable {prog : Program} {w : World} {A : Around} {E : Value → Shared → Prop} {s : Shared}
theorem call_tup_lt {Q : Value → Shared → Prop} {l b : Addr} {xs ys : Array Value} {e r : Nat → Bool} (hl : s.heap.IsTuple l xs) (hb : s.heap.IsTuple b ys)
    (he : ∀ j (h1 : j < xs.size) (h2 : j < ys.size), EqAt A.in1 s xs[j] ys[j] (e j)) (hr : ∀ j (h1 : j < xs.size) (h2 : j < ys.size), e j = false → RcLt A.in1 s xs[j] ys[j] (r j))
    (h : Q (.bool (firstLt e r (decide (xs.size < ys.size)) (List.range (min xs.size ys.size)))) s) : wpAny (model prog w) A (call (.builtin "tuple.__lt__") [.ref l, .ref b]) Q E s := by
  obtain ⟨⟨c1, d1, t1, z1⟩, ho, hc, n, hd⟩ := id hl
  obtain ⟨⟨c2, d2, t2, z2⟩, ko, kc, m, kd⟩ := id hb
  simp only at hc hd kc kd
  subst hc hd kc kd
  exact call_meets PySem.F.slot_tuple_lt ⟨_, ho, rfl⟩ PySem.F.entry_tuple_lt (PySem.F.args_tuple_lt_2 _ _) (tuple_ltAt l b xs ys n m d1 d2 z1 z2 e r) ⟨ho, ko, he, hr, h⟩
theorem one_tup {xs ys : List PyData} {a b : Value} {as bs : List Addr} {Q : Bool → Shared → Prop} (ra : Reads s.heap a (.tuple xs) as) (rb : Reads s.heap b (.tuple ys) bs) (h : alike (.tuple xs) (.tuple ys) = true)
    (hu : A.units + min (PyData.depth (.tuple xs)) (PyData.depth (.tuple ys)) < cLine) (hq : Q (dataLt (.tuple xs) (.tuple ys)) s) : wpAny (model prog w) A (oneLt' true a b) Q E s := by
  have hal : alikeAll xs ys = true := by simpa [alike] using h
  cases ra with
  | @tuple l o vs n _ as1 h1 h2 h3 h4 =>
    cases rb with
    | @tuple l2 o2 ws m _ bs1 k1 k2 k3 k4 =>
      have n1 : vs.size = xs.length := by simpa using ReadsAll.length _ _ _ h4
      have n2 : ws.size = ys.length := by simpa using ReadsAll.length _ _ _ k4
      rw [dataLt_tuple, ← firstLt_toks xs ys hal, ← n1, ← n2] at hq
      rw [oneLt'_eq]
      simp only [if_true]
      refine wpAny_bind (wpAny_cRoomFor (room_here hu) ?_)
      refine wpAny_bind (wpAny_callSpecialIfBound?_slot (T := "tuple") ⟨_, h1, h2⟩ PySem.F.slot_tuple_lt (call_tup_lt (e := pairEq xs ys) (r := fun j => dataLt (xs.getD j .none) (ys.getD j .none)) ⟨_, h1, h2, _, h3⟩ ⟨_, k1, k2, _, k3⟩ (fun j j1 j2 => ?_) (fun j j1 j2 hj => ?_) ?_))
      · have z := eqAt_alikeAll xs ys A.in1 s vs.toList ws.toList _ _ h4 k4 hal (room_in hu) j (by simpa using j1) (by simpa using j2)
        exact z
      · have z := rcLt_alikeAll xs ys A.in1 s vs.toList ws.toList _ _ h4 k4 hal (room_in hu) j (by simpa using j1) (by simpa using j2) hj
        exact z
      · exact wpAny_truthy_bool hq
theorem firsts : ∀ (vs : List Value), (∀ v ∈ vs, ∃ (a : Addr) (o : Obj) (xs : Array Value) (n : Nat), v = .ref a ∧ s.heap.get? a = some o ∧ o.cls = .type "tuple" ∧ o.data = .seq xs n) → ∀ {Q : List (Option Value) → Shared → Prop},
    (∀ os : List (Option Value), os.length = vs.length → (∀ a o n, vs.head? = some (.ref a) → s.heap.get? a = some o → o.data = .seq #[] n → os.head? = some none) → Q os s) → wpAny (model prog w) A (vs.mapM firstOfTuple') Q E s
  | [], _, Q, h => by
    rw [List.mapM_nil]
    exact wpAny_pure (h [] rfl fun a o n e => (nomatch e))
  | v :: vs, hv, Q, h => by
    obtain ⟨a, o, xs, n, rfl, ho, hc, hd⟩ := hv v List.mem_cons_self
    rw [List.mapM_cons]
    refine wpAny_bind ?_
    rw [kas_first_eq]
    refine wpAny_bind (Looks.here (show Looks (model prog w) s.heap (typeOf (.ref a)) o.cls from (Looks.ld ho).andThen .now) ?_)
    rw [hc, if_neg (by first | decide | simp)]
    refine wpAny_bind (listItems_at ho hd (wpAny_pure (wpAny_bind (firsts vs (fun v h => hv v (List.mem_cons_of_mem _ h)) fun os hl _ => wpAny_pure (h (xs[0]? :: os) (by rw [List.length_cons, List.length_cons, hl]) fun a2 o2 n2 e e2 e3 => ?_)))))
    cases e
    rw [ho] at e2
    cases e2
    rw [hd] at e3
    cases e3
    rfl
theorem kind_one {vs : List Value} {Q : SortKind → Shared → Prop} (h2 : 2 ≤ vs.length) (hT : ∀ v ∈ vs, ∃ (a : Addr) (o : Obj) (xs : Array Value) (n : Nat), v = .ref a ∧ s.heap.get? a = some o ∧ o.cls = .type "tuple" ∧ o.data = .seq xs n)
    (h0 : ∃ a o n, vs.head? = some (.ref a) ∧ s.heap.get? a = some o ∧ o.data = .seq #[] n) (h : Q oneType' s) : wpAny (model prog w) A (keyKind' vs.toArray) Q E s := by
  rw [keyKind'_eq, List.mapM_toArray, map_eq_pure_bind]
  refine wpAny_bind (wpAny_bind (firsts vs hT fun os hl hh => wpAny_pure ?_))
  obtain ⟨a, o, n, e1, e2, e3⟩ := h0
  have hd := hh a o n e1 e2 e3
  obtain ⟨os', rfl⟩ : ∃ os', os = none :: os' := by
    cases os with
    | nil => cases hd
    | cons b os' => cases hd; exact ⟨os', rfl⟩
  rw [if_neg (by simp), if_neg (by simp)]
  rw [oneTypeOnly'_eq, List.mapM_toArray, map_eq_pure_bind]
  refine wpAny_bind (wpAny_bind (wpAny_bind (kas_mapM (r := Value.type "tuple") _ (fun v hv Q' hq => ?_) (wpAny_pure ?_))))
  · obtain ⟨a, o, xs, n, rfl, ho, hc, _⟩ := hT v hv
    exact Looks.here (show Looks (model prog w) s.heap (typeOf (.ref a)) (.type "tuple") from hc ▸ (Looks.ld ho).andThen .now) hq
  · have hall : ((List.map (fun _ => Value.type "tuple") vs).toArray.all fun x => x == Value.type "tuple") = true := by
      simp only [List.all_toArray, List.all_map, List.all_eq_true]
      intro _ _
      exact beq_self_eq_true _
    have h0 : (List.map (fun _ => Value.type "tuple") vs).toArray[0]? = some (Value.type "tuple") := by
      cases vs with
      | nil => simp at h2
      | cons v vs => simp
    rw [h0]
    simp only [hall, if_true]
    exact wpAny_pure (wpAny_pure h)
/-- tuples, the first empty -/
def HeadOk (ds : List PyData) : Prop := (∃ r, ds = .tuple [] :: r) ∧ ∀ d, d ∈ ds → ∃ xs, d = .tuple xs
theorem sortsAt {vs : List Value} {ds : List PyData} (e : EachIs (fun v d => ∃ as, Reads s.heap v d as) vs ds) (hal : AllAlike ds) (hk : HeadOk ds) (hu : ∀ d, d ∈ ds → A.units + d.depth < cLine) : SortsAt prog w A s (dataKind s.heap ds) vs := by
  obtain ⟨⟨r0, hr0⟩, htup⟩ := hk
  have isT : ∀ v ∈ vs, ∃ (a : Addr) (o : Obj) (xs : Array Value) (n : Nat), v = .ref a ∧ s.heap.get? a = some o ∧ o.cls = .type "tuple" ∧ o.data = .seq xs n := fun v hv => by
    obtain ⟨d, hd, as, r⟩ := e.left v hv
    obtain ⟨xs, rfl⟩ := htup d hd
    cases r with
    | tuple h1 h2 h3 h4 => exact ⟨_, _, _, _, rfl, h1, h2, h3⟩
  refine ⟨fun v hv => ?_, oneType', ?_, fun h2 E Q hq => ?_⟩
  · obtain ⟨d, hd, as, r⟩ := e.left v hv
    exact ⟨_, dataKind_some hal hd r⟩
  · intro E x y a b Q ha hb hq
    obtain ⟨d, as, hd, ra, rfl⟩ := dataKind_inv ha
    obtain ⟨d', bs, hd', rb, rfl⟩ := dataKind_inv hb
    obtain ⟨xs, rfl⟩ := htup d hd
    obtain ⟨ys, rfl⟩ := htup d' hd'
    rw [keyLt'_oneType]
    exact one_tup ra rb (hal _ hd _ hd') (Nat.lt_of_le_of_lt (Nat.add_le_add_left (Nat.min_le_left _ _) _) (hu _ hd)) hq
  · refine kind_one h2 isT ?_ hq
    subst hr0
    cases e with
    | cons h t =>
      obtain ⟨as, r⟩ := h
      cases r with
      | @tuple l o vs n _ _ h1 h2 h3 h4 =>
        cases hv : vs.toList with
        | nil =>
          have : vs = #[] := by
            apply Array.ext'
            rw [hv]
          subst this
          exact ⟨_, _, _, rfl, h1, h3⟩
        | cons x xs =>
          rw [hv] at h4
          cases h4
theorem sorted_hd {β : Type} {R : Value → β → Prop} {vs : List Value} {bs : List β} {enc : β → PyData} {l : Addr} {Q : Value → Shared → Prop} (hl : s.heap.IsList l vs.toArray) (e : EachIs R vs bs) (er : EachIs (fun v b => ∃ as, Reads s.heap v (enc b) as) vs bs) (hal : AllAlike (bs.map enc)) (hk : HeadOk (bs.map enc)) (hL : bs.length ≤ sizeLine)
    (hu : ∀ b, b ∈ bs → A.units + 2 + (enc b).depth < cLine) (h : ∀ out, out.length = bs.length → EachIs R out (bs.mergeSort (dataLe false enc)) → Q (.ref (s.heap.objs.size + 1)) { s with heap := sortedAll s.heap vs (List.toArray out) }) :
    wpAny (model prog w) A (call (.builtin "sorted") [.ref l]) Q E s := by
  have er2 : EachIs (fun v b => ∃ as, Reads (sortingHeap (copyHeap s.heap vs) (s.heap.objs.size + 1) vs) v (enc b) as) vs bs := er.mono fun _ _ ⟨as, r⟩ => ⟨as, PyProof.Rows.Reads.keeps (fun _ _ => sorting_copy_old) r⟩
  exact sorted_vals hl (sortsAt (s := { s with heap := sortingHeap (copyHeap s.heap vs) (s.heap.objs.size + 1) vs }) (each_map (R := fun v d => ∃ as, Reads (sortingHeap (copyHeap s.heap vs) (s.heap.objs.size + 1) vs) v d as) enc er2) hal hk (bound_map hu)) (by rw [e.length]; exact hL)
    (h _ (by rw [sortVals_length false rfl]; exact e.length) (sortVals_data false e er2 hal))
end
end TupHd
namespace Ev
open PySem PySem.Spec PyProof.Rows L2
def headOk : List PyData → Bool
  | .tuple [] :: r => r.all fun d => match d with
    | .tuple _ => true
    | _ => false
  | _ => false
theorem headOk_spec {ds : List PyData} (h : headOk ds = true) : TupHd.HeadOk ds := by
  unfold headOk at h
  split at h
  · rename_i r
    refine ⟨⟨r, rfl⟩, fun d hd => ?_⟩
    rcases List.mem_cons.mp hd with rfl | hd
    · exact ⟨_, rfl⟩
    · have := List.all_eq_true.mp h d hd
      cases d with
      | tuple xs => exact ⟨xs, rfl⟩
      | _ => cases this
  · cases h
def sortOkH (ps : List PyData) : Bool := (ps.all fun a => ps.all fun b => PySem.W.alike a b) && headOk ps && ps.all fun p => decide (p.depth ≤ 60)
theorem sortOkH_al {ps : List PyData} (h : sortOkH ps = true) : PySem.W.AllAlike ps ∧ TupHd.HeadOk ps ∧ ∀ p ∈ ps, p.depth ≤ 60 := by
  unfold sortOkH at h
  rw [Bool.and_eq_true, Bool.and_eq_true] at h
  obtain ⟨⟨h1, h2⟩, h3⟩ := h
  exact ⟨fun d hd d' hd' => List.all_eq_true.mp (List.all_eq_true.mp h1 d hd) d' hd', headOk_spec h2, fun p hp => of_decide_eq_true (List.all_eq_true.mp h3 p hp)⟩
def rSortedH (K : PySem.W.Frag) : List V → Hp → VK → Prop := fun vs H Q => ∃ (a : Addr) (L : List (V × PyData)), vs = [V.ref a] ∧ SqL K H a (L.map (·.1)) ∧ (∀ x ∈ L, Dp K H x.1 x.2) ∧ sortOkH (L.map (·.2)) = true ∧
  ∀ p, H p = none → Q (.ref p) (upd H p (.lst ((L.mergeSort (PySem.W.dataLe false (·.2))).map (·.1))))
section
variable {X : Cx}
theorem cr_sortedH (hu : X.A.units + 62 < cLine) : CallR X (.builtin "sorted") (rSortedH X.K) := by
  intro pins s σ H vs us Q I r h
  obtain ⟨a, L, rfl, hs, hd, ok, q⟩ := h
  obtain ⟨its, rv, hl, hz⟩ := I.list hs
  rw [Vals.ref1 r]
  obtain ⟨h1, h2, h3⟩ := sortOkH_al ok
  rw [List.length_map] at hz
  refine TupHd.sorted_hd (bs := L) (enc := (·.2)) (R := fun u x => RelV x.1 u) hl.isList (vals_each rv fun x _ u h => h) (vals_each rv fun x hx u h => Dp.reads I _ _ _ (hd x hx) h) h1 h2 hz (fun b hb => ?_) fun out ho eo => ?_
  · have := h3 b.2 (List.mem_map.mpr ⟨b, hb, rfl⟩)
    omega
  · obtain ⟨ep, he'⟩ := PyProof.Rows.sortedAll_at s.heap its out.toArray
    have hlen : ((L.mergeSort (PySem.W.dataLe false (·.2))).map (·.1)).length ≤ sizeLine := by
      rw [List.length_map, List.length_mergeSort]
      exact hz
    exact ⟨.ref _, upd H (s.heap.objs.size + 1) (.lst ((L.mergeSort (PySem.W.dataLe false (·.2))).map (·.1))), I.laid (t' := s.toks) (fun _ _ => PyProof.Rows.sortedAll_old) (Nat.le_succ _) ⟨hlen, out, ep, each_vals eo, he'⟩, rfl, q _ (I.hok.fresh (Nat.le_succ _))⟩
/-- sorted of a list of tuples, the first empty -/
def dSortedH : List D → Option D
  | [.lst xs] => (pyAll xs).bind fun ps => if sortOkH ps then some (.lst (sortD xs ps)) else none
  | _ => none
theorem sortedH_l {ds : List D} {d : D} (e : dSortedH ds = some d) : ∃ es, d = .lst es := by
  unfold dSortedH at e
  split at e
  · rename_i xs
    cases q : pyAll xs with
    | none => rw [q] at e; cases e
    | some ps =>
      rw [q] at e
      have e' : (if sortOkH ps then some (D.lst (sortD xs ps)) else none) = some d := e
      split at e'
      · cases e'; exact ⟨_, rfl⟩
      · cases e'
  · cases e
theorem opF_sortedH : OpF X dSortedH (rSortedH X.K) := by
  intro g H S xs ds d Q G r e
  unfold dSortedH at e
  split at e
  · rename_i ys
    cases q : pyAll ys with
    | none => rw [q] at e; cases e
    | some ps =>
      rw [q] at e
      have e' : (if sortOkH ps then some (D.lst (sortD ys ps)) else none) = some d := e
      split at e'
      · rename_i ok
        cases e'
        refine ⟨_, rfl, fun k => ?_⟩
        obtain ⟨x, rfl, h⟩ := rr1 r
        obtain ⟨p, vs, rfl, hp, rs⟩ := h.lst G
        obtain ⟨ze, hl⟩ := zip_each G.sub rs q
        obtain ⟨_, hdp, _⟩ := each_reps ze
        have hsnd : (vs.zip ps).map (·.2) = ps := List.map_snd_zip (Nat.le_of_eq hl.symm)
        refine ⟨p, vs.zip ps, rfl, ?_, hdp, by rw [hsnd]; exact ok, fun l hl' => ?_⟩
        · have : (vs.zip ps).map (·.1) = vs := List.map_fst_zip (Nat.le_of_eq hl)
          rw [this]
          exact SqL.of hp
        · have ze2 := PySem.W.sort_each (r := PySem.W.dataLe false (·.2)) (s := PySem.W.dataLe false (·.2)) ze fun a ha b hb => by
            have h1 := (each_in ze a ha).2.1
            have h2 := (each_in ze b hb).2.1
            show PySem.W.dataLe false (fun x : V × PyData => x.2) a.1 b.1 = PySem.W.dataLe false (fun x : D × PyData => x.2) a.2 b.2
            unfold PySem.W.dataLe
            unfold PySem.W.sortLe
            simp only [h1, h2]
          exact k l _ hl' (each_reps ze2).1
      · cases e'
  · cases e
theorem f_sortedH {own : List Nat} {a : Expr} {sa : SE} {p pos : Pos} {k : Nat} (hr : Room k X.A) (hm : X.mg "sorted" = none) (ha : SimR X own a sa) (hg : Gl X "sorted" := by rfl) (he : starEach (a :: []) X.env = (false, eval a X.env) :: starEach [] X.env := by rfl) (hpl : (backTo pos (starEach ([] : List Expr) X.env)).any (·.1) = false := by rfl) : SimF X own (.Call (.Name "sorted" p) [a] [] pos) (sCallN dSortedH [(false, sa)]) := simf_callB (cr_sortedH (by have := hr.un; omega)) opF_sortedH hg hm (by decide +kernel) (simr_cons ha simr_nil he) (by decide) (by decide) he hpl
end
instance {sas : List (Bool × SE)} : IsL (sCallN dSortedH sas) := ⟨fun _ _ _ _ e => callL (fun _ _ h => sortedH_l h) e⟩
end Ev
namespace K80
open PySem PySem.Spec PyProof.Rows L2 Ev
abbrev at_kerf : List Str := ["Shop"]
abbrev at_pieces : List Str := ["Shop"]
abbrev at_stocks : List Str := ["Shop"]
abbrev OWN : List Str := ["Shop"]
def FUEL : Nat := 100000
/- _law_draw(pen, many): 0 pen 1 many 2 cell 3 digit 4 blend -/
def b__law_draw : SS := (sSeq (sPut (sVar 0) (sC (.str "count")) (sOp2 dAdd (sGet (sVar 0) (sC (.str "count"))) (sC (.int 1)))) (sSeq (sIfS (sAndB (sBool (sOp2 dEq (sGet (sVar 0) (sC (.str "digits"))) (sC (.int 0)))) (sBool (sOp2 dLt (sGet (sVar 0) (sC (.str "at"))) (sCallN dLen [(false, (sGet (sVar 0) (sC (.str "cells"))))])))) (sSeq (sSet 2 (sOp2 dIx (sGet (sVar 0) (sC (.str "cells"))) (sGet (sVar 0) (sC (.str "at"))))) (sSeq (sPut (sVar 0) (sC (.str "at")) (sOp2 dAdd (sGet (sVar 0) (sC (.str "at"))) (sC (.int 1)))) (sIfS (sBool (sOp2 dGe (sVar 2) (sOp2 dPow (sC (.int 10)) (sC (.int 18))))) (sPut (sVar 0) (sC (.str "digits")) (sOp2 dSub (sVar 2) (sOp2 dPow (sC (.int 10)) (sC (.int 18))))) (sPut (sVar 0) (sC (.str "fold")) (sOp2 dMod (sCallN dIntOf [(false, (sOp2 dAdd (sOp2 dMulA (sGet (sVar 0) (sC (.str "fold"))) (sC (.int 69069))) (sVar 2)))]) (sC (.int 2147483587))))))) sNext) (sSeq (sIfS (sBool (sOp2 dGt (sGet (sVar 0) (sC (.str "digits"))) (sC (.int 0)))) (sSeq (sSet 3 (sOp2 dMod (sCallN dIntOf [(false, (sGet (sVar 0) (sC (.str "digits"))))]) (sVar 1))) (sSeq (sPut (sVar 0) (sC (.str "digits")) (sOp2 dFdiv (sGet (sVar 0) (sC (.str "digits"))) (sVar 1))) (sRet (sVar 3)))) sNext) (sSeq (sSet 4 (sOp2 dMod (sCallN dIntOf [(false, (sOp2 dAdd (sOp2 dAdd (sOp2 dMulA (sGet (sVar 0) (sC (.str "fold"))) (sC (.int 48271))) (sOp2 dMulA (sGet (sVar 0) (sC (.str "count"))) (sC (.int 7919)))) (sC (.int 13))))]) (sC (.int 2147483647)))) (sSeq (sSet 4 (sOp2 dMod (sCallN dIntOf [(false, (sOp2 dAdd (sOp2 dAdd (sOp2 dMulA (sVar 4) (sVar 4)) (sOp2 dMulA (sC (.int 31)) (sVar 4))) (sGet (sVar 0) (sC (.str "count")))))]) (sC (.int 2147483629)))) (sSeq (sPut (sVar 0) (sC (.str "fold")) (sOp2 dMod (sCallN dIntOf [(false, (sOp2 dAdd (sOp2 dMulA (sVar 4) (sC (.int 16807))) (sC (.int 7))))]) (sC (.int 2147483647)))) (sRet (sOp2 dMod (sCallN dIntOf [(false, (sOp2 dFdiv (sVar 4) (sC (.int 64))))]) (sVar 1)))))))))
def m__law_draw : List D → M D := runD 5 b__law_draw
/- _law_pick(pen, some): 0 pen 1 some -/
def b__law_pick : SS := (sRet (sOp2 dIx (sVar 1) (sCall m__law_draw [(false, (sVar 0)), (false, (sCallN dLen [(false, (sVar 1))]))])))
def m__law_pick : List D → M D := runD 2 b__law_pick
/- _law_drawn_rods(pen, most): 0 pen 1 most 2 rods 3 lengths 4 lap 5 low 6 high -/
def b__law_drawn_rods : SS := (sSeq (sPar2 2 3 (sLst []) (sLst [])) (sSeq (sFor (sItR [(false, (sOp2 dAdd (sC (.int 1)) (sCall m__law_draw [(false, (sVar 0)), (false, (sVar 1))])))]) (gN 4) (sSeq (sSet 5 (sOp2 dAdd (sC (.int 2)) (sCall m__law_draw [(false, (sVar 0)), (false, (sC (.int 8)))]))) (sSeq (sSet 6 (sOp2 dAdd (sVar 5) (sCall m__law_pick [(false, (sVar 0)), (false, (sLst [(false, (sC (.int 0))), (false, (sC (.int 1))), (false, (sC (.int 3))), (false, (sC (.int 6)))]))]))) (sSeq (sDropM (mt1 2 mAppend (sPure (sTup [(false, (sVar 5)), (false, (sVar 6))])))) (sDropM (mt1 3 mAppend (sPure (sOp2 dAdd (sVar 5) (sCall m__law_draw [(false, (sVar 0)), (false, (sOp2 dAdd (sOp2 dSub (sVar 6) (sVar 5)) (sC (.int 1))))]))))))))) (sRet (sTup [(false, (sCallN dTupOf [(false, (sVarR 2))])), (false, (sCallN dTupOf [(false, (sVarR 3))]))]))))
def m__law_drawn_rods : List D → M D := runD 7 b__law_drawn_rods
/- _law_name(pen): 0 pen 1 letters 2 signs 3 long 4 lap -/
def b__law_name : SS := (sSeq (sPar2 1 2 (sC (.str "abcdefghijklmnopqrstuvwxyz")) (sC (.str "abcdefghijklmnopqrstuvwxyz0123456789"))) (sSeq (sSet 3 (sOp2 dIx (sLst [(false, (sC (.int 0))), (false, (sC (.int 0))), (false, (sC (.int 1))), (false, (sC (.int 2))), (false, (sC (.int 5))), (false, (sC (.int 11)))]) (sCall m__law_draw [(false, (sVar 0)), (false, (sC (.int 6)))]))) (sRet (sOp2 dAdd (sCall m__law_pick [(false, (sVar 0)), (false, (sVar 1))]) (sOp2 dJoin (sC (.str "")) (sComp [4] (sItR [(false, (sVar 3))]) (gN 4) sYes (sCall m__law_pick [(false, (sVar 0)), (false, (sVar 2))])))))))
def m__law_name : List D → M D := runD 5 b__law_name
/- _law_names(pen, many): 0 pen 1 many 2 found 3 lap 4 name -/
def b__law_names : SS := (sSeq (sSet 2 (sLst [])) (sSeq (sFor (sItR [(false, (sVar 1))]) (gN 3) (sSeq (sSet 4 (sCall m__law_name [(false, (sVar 0))])) (sSeq (sIfS (sBool (sOp2 (dInA false) (sVar 4) (sVarR 2))) (sSet 4 (sOp2 dAdd (sOp2 dAdd (sC (.str "z")) (sCallN dStrOf [(false, (sVar 3))])) (sC (.str "q")))) sNext) (sSeq (whL FUEL (sBool (sOp2 (dInA false) (sVar 4) (sVarR 2))) (sSet 4 (sOp2 dAdd (sVar 4) (sC (.str "0"))))) (sDropM (mt1 2 mAppend (sPure (sVar 4)))))))) (sRet (sCallN dTupOf [(false, (sVarR 2))]))))
def m__law_names : List D → M D := runD 5 b__law_names
/- _law_few_shop(pen, stocks, pieces): 0 pen 1 stocks 2 pieces 3 names 4 kerf 5 bars 6 some 7 at -/
def b__law_few_shop : SS := (sSeq (sPar2 3 4 (sCall m__law_names [(false, (sVar 0)), (false, (sOp2 dAdd (sVar 1) (sVar 2)))]) (sCall m__law_pick [(false, (sVar 0)), (false, (sLst [(false, (sC (.int 0))), (false, (sC (.int 0))), (false, (sC (.int 1))), (false, (sC (.int 2)))]))])) (sSeq (sSet 5 (sComp [7] (sItR [(false, (sOp2 dAdd (sC (.int 1)) (sCall m__law_draw [(false, (sVar 0)), (false, (sVar 1))])))]) (gN 7) sYes (sTup [(false, (sOp2 dIx (sVar 3) (sVar 7))), (false, (sOp2 dAdd (sC (.int 5)) (sCall m__law_draw [(false, (sVar 0)), (false, (sC (.int 10)))]))), (false, (sCall m__law_pick [(false, (sVar 0)), (false, (sLst [(false, (sC .non)), (false, (sCall m__law_draw [(false, (sVar 0)), (false, (sC (.int 5)))]))]))])), (false, (sCall m__law_draw [(false, (sVar 0)), (false, (sC (.int 6)))]))]))) (sSeq (sSet 6 (sComp [7] (sItR [(false, (sOp2 dAdd (sC (.int 1)) (sCall m__law_draw [(false, (sVar 0)), (false, (sVar 2))])))]) (gN 7) sYes (sTup [(false, (sOp2 dIx (sVar 3) (sOp2 dAdd (sVar 1) (sVar 7)))), (false, (sOp2 dAdd (sC (.int 2)) (sCall m__law_draw [(false, (sVar 0)), (false, (sC (.int 6)))]))), (false, (sCall m__law_draw [(false, (sVar 0)), (false, (sC (.int 4)))]))]))) (sRet (sTup [(false, (sCallN dTupOf [(false, (sVarR 5))])), (false, (sCallN dTupOf [(false, (sVarR 6))])), (false, (sVar 4))])))))
def m__law_few_shop : List D → M D := runD 8 b__law_few_shop
/- _law_size(shop, pattern): 0 shop 1 pattern 2 number 3 row -/
def b__law_size : SS := (sRet (sCallN dSumA [(false, (sComp [2, 3] (sItZ (sVar 1) (sOp2 dIx (sVar 0) (sC (.int 1)))) (gT [(gN 2), (gN 3)]) sYes (sOp2 dMulA (sVar 2) (sOp2 dAdd (sOp2 dIx (sVar 3) (sC (.int 1))) (sOp2 dIx (sVar 0) (sC (.int 2)))))))]))
def m__law_size : List D → M D := runD 4 b__law_size
/- _law_gives(shop, length, pattern): 0 shop 1 length 2 pattern -/
def b__law_gives : SS := (sRet (sOrV (sOp2 dEq (sCallN dSumA [(false, (sVar 2))]) (sC (.int 0))) (sOp2 dLe (sCall m__law_size [(false, (sVar 0)), (false, (sVar 2))]) (sOp2 dAdd (sVar 1) (sOp2 dIx (sVar 0) (sC (.int 2)))))))
def m__law_gives : List D → M D := runD 3 b__law_gives
/- _law_minus(one, other): 0 one 1 other 2 first 3 second -/
def b__law_minus : SS := (sRet (sCallN dTupOf [(false, (sComp [2, 3] (sItZ (sVar 0) (sVar 1)) (gT [(gN 2), (gN 3)]) sYes (sOp2 dSub (sVar 2) (sVar 3))))]))
def m__law_minus : List D → M D := runD 4 b__law_minus
/- _law_rows_below(wanted): 0 wanted 1 rows 2 most 3 longer 4 row 5 number -/
def b__law_rows_below : SS := (sSeq (sSet 1 (sLst [(false, (sTup []))])) (sSeq (sFor (sItA (sVar 0)) (gN 2) (sSeq (sSet 3 (sLst [])) (sSeq (sFor (sItA (sVar 1)) (gN 4) (sDropM (mt1 3 mExtend (sPure (sComp [5] (sItR [(false, (sOp2 dAdd (sVar 2) (sC (.int 1))))]) (gN 5) sYes (sOp2 dAdd (sVar 4) (sTup [(false, (sVar 5))]))))))) (sSet 1 (sVar 3))))) (sRet (sVar 1))))
def m__law_rows_below : List D → M D := runD 6 b__law_rows_below
/- _law_wanted(shop): 0 shop 1 row -/
def b__law_wanted : SS := (sRet (sCallN dTupOf [(false, (sComp [1] (sItA (sOp2 dIx (sVar 0) (sC (.int 1)))) (gN 1) sYes (sOp2 dIx (sVar 1) (sC (.int 2)))))]))
def m__law_wanted : List D → M D := runD 2 b__law_wanted
/- _law_least_yield(shop, lengths): 0 shop 1 lengths 2 ways 3 length 4 later 5 left 6 row 7 behind 8 way -/
def b__law_least_yield : SS := (sSeq (sSet 2 (sDictT1 (sCall m__law_wanted [(false, (sVar 0))]) (sTup []))) (sSeq (sFor (sItA (sVar 1)) (gN 3) (sSeq (sSet 4 sDictT0) (sSeq (sFor (sItA (sSorted (sVar 2))) (gN 5) (sFor (sItA (sCall m__law_rows_below [(false, (sVar 5))])) (gN 6) (sIfS (sTru (sCall m__law_gives [(false, (sVar 0)), (false, (sVar 3)), (false, (sVar 6))])) (sSeq (sPar2 7 8 (sCall m__law_minus [(false, (sVar 5)), (false, (sVar 6))]) (sOp2 dAdd (sIxA (sVar 2) (sVar 5)) (sTup [(false, (sVar 6))]))) (sPut (sVar 4) (sVar 7) (sCallN dMinA [(false, (sGet2 (sVar 4) (sVar 7) (sVar 8))), (false, (sVar 8))]))) sNext))) (sSet 2 (sVar 4))))) (sRet (sGet2 (sVar 2) (sOp2 dMulA (sTup [(false, (sC (.int 0)))]) (sCallN dLen [(false, (sOp2 dIx (sVar 0) (sC (.int 1))))])) (sC .non)))))
def m__law_least_yield : List D → M D := runD 9 b__law_least_yield
/- is_whole(value): 0 value -/
def b_is_whole : SS := (sRet (sAndV (sIsi ["int"] (sVar 0)) (sNotV (sTru (sIsi ["bool"] (sVar 0))))))
def m_is_whole : List D → M D := runD 1 b_is_whole
/- is_number(value): 0 value -/
def b_is_number : SS := (sRet (sAndV (sCall m_is_whole [(false, (sVar 0))]) (sOp2 dGe (sVar 0) (sC (.int 0)))))
def m_is_number : List D → M D := runD 1 b_is_number
/- is_length(value): 0 value -/
def b_is_length : SS := (sRet (sAndV (sCall m_is_whole [(false, (sVar 0))]) (sOp2 dGe (sVar 0) (sC (.int 1)))))
def m_is_length : List D → M D := runD 1 b_is_length
/- need_length(length): 0 length -/
def b_need_length : SS := (sIfS (sNotB (sTru (sCall m_is_length [(false, (sVar 0))]))) sBad sNext)
def m_need_length : List D → M D := runD 1 b_need_length
/- is_name(value): 0 value 1 sign -/
def b_is_name : SS := (sSeq (sIfS (sOrB (sNotB (sTru (sIsi ["str"] (sVar 0)))) (sOrB (sNotB (sBool (sChain dLe dLe (sC (.int 1)) (sCallN dLen [(false, (sVar 0))]) (sC (.int 12))))) (sBool (sOp2 (dInA true) (sOp2 dIx (sVar 0) (sC (.int 0))) (sC (.str "abcdefghijklmnopqrstuvwxyz")))))) (sRet (sC (.bl false))) sNext) (sRet (sCallN dAll [(false, (sComp [1] (sItA (sVar 0)) (gN 1) sYes (sOp2 (dInA false) (sVar 1) (sC (.str "abcdefghijklmnopqrstuvwxyz0123456789")))))])))
def m_is_name : List D → M D := runD 2 b_is_name
/- need_new_name(name, ahead): 0 name 1 ahead -/
def b_need_new_name : SS := (sSeq (sIfS (sNotB (sTru (sCall m_is_name [(false, (sVar 0))]))) sBad sNext) (sIfS (sBool (sOp2 (dInA false) (sVar 0) (sVar 1))) sBad sNext))
def m_need_new_name : List D → M D := runD 2 b_need_new_name
/- need_pieces(pieces): 0 pieces 1 ahead 2 row 3 name 4 length 5 wanted -/
def b_need_pieces : SS := (sSeq (sIfS (sOrB (sNotB (sTru (sIsi ["list", "tuple"] (sVar 0)))) (sNotB (sBool (sChain dLe dLe (sC (.int 1)) (sCallN dLen [(false, (sVar 0))]) (sC (.int 6)))))) sBad sNext) (sSeq (sSet 1 (sLst [])) (sFor (sItA (sVar 0)) (gN 2) (sSeq (sIfS (sOrB (sNotB (sTru (sIsi ["tuple"] (sVar 2)))) (sBool (sOp2 dNe (sCallN dLen [(false, (sVar 2))]) (sOp2 dAdd (sC (.int 2)) (sC (.int 1)))))) sBad sNext) (sSeq (sAsg (gT [(gN 3), (gN 4), (gN 5)]) (sVar 2)) (sSeq (sDrop (sCallL m_need_new_name [(false, (sVar 3)), (false, (sVarR 1))])) (sSeq (sDrop (sCall m_need_length [(false, (sVar 4))])) (sSeq (sIfS (sNotB (sTru (sCall m_is_number [(false, (sVar 5))]))) sBad sNext) (sDropM (mt1 1 mAppend (sPure (sVar 3))))))))))))
def m_need_pieces : List D → M D := runD 6 b_need_pieces
/- need_stocks(stocks): 0 stocks 1 ahead 2 row 3 name 4 length 5 many 6 price -/
def b_need_stocks : SS := (sSeq (sIfS (sOrB (sNotB (sTru (sIsi ["list", "tuple"] (sVar 0)))) (sNotB (sBool (sChain dLe dLe (sC (.int 1)) (sCallN dLen [(false, (sVar 0))]) (sC (.int 4)))))) sBad sNext) (sSeq (sSet 1 (sLst [])) (sFor (sItA (sVar 0)) (gN 2) (sSeq (sIfS (sOrB (sNotB (sTru (sIsi ["tuple"] (sVar 2)))) (sBool (sOp2 dNe (sCallN dLen [(false, (sVar 2))]) (sOp2 dAdd (sC (.int 3)) (sC (.int 1)))))) sBad sNext) (sSeq (sAsg (gT [(gN 3), (gN 4), (gN 5), (gN 6)]) (sVar 2)) (sSeq (sDrop (sCallL m_need_new_name [(false, (sVar 3)), (false, (sVarR 1))])) (sSeq (sDrop (sCall m_need_length [(false, (sVar 4))])) (sSeq (sIfS (sAndB (sBool (sOp2 (dIsN true) (sVar 5) (sC .non))) (sNotB (sTru (sCall m_is_number [(false, (sVar 5))])))) sBad sNext) (sSeq (sIfS (sNotB (sTru (sCall m_is_number [(false, (sVar 6))]))) sBad sNext) (sDropM (mt1 1 mAppend (sPure (sVar 3)))))))))))))
def m_need_stocks : List D → M D := runD 7 b_need_stocks
/- __init__(self, stocks, pieces, kerf): 0 self 1 stocks 2 pieces 3 kerf -/
def b_Shop_init : SS := (sSeq (sDrop (sCall m_need_stocks [(false, (sVar 1))])) (sSeq (sDrop (sCall m_need_pieces [(false, (sVar 2))])) (sSeq (sIfS (sNotB (sTru (sCall m_is_number [(false, (sVar 3))]))) sBad sNext) (sSeq (sFldI 0 at_stocks "stocks" (sCallN dTupOf [(false, (sVar 1))])) (sSeq (sFldI 0 at_pieces "pieces" (sCallN dTupOf [(false, (sVar 2))])) (sFldI 0 at_kerf "kerf" (sVar 3)))))))
def m_Shop_init : List D → M D := runI 4 "Shop" b_Shop_init
/- _law_made(shop): 0 shop -/
def b__law_made : SS := (sRet (sCall m_Shop_init [(false, (sOp2 dIx (sVar 0) (sC (.int 0)))), (false, (sOp2 dIx (sVar 0) (sC (.int 1)))), (false, (sOp2 dIx (sVar 0) (sC (.int 2))))]))
def m__law_made : List D → M D := runD 1 b__law_made
/- _law_pen(script): 0 script 1 fold 2 cell -/
def b__law_pen : SS := (sSeq (sSet 1 (sC (.int 0))) (sSeq (sFor (sItA (sVar 0)) (gN 2) (sSet 1 (sOp2 dMod (sCallN dIntOf [(false, (sOp2 dAdd (sOp2 dMulA (sVar 1) (sC (.int 47))) (sVar 2)))]) (sC (.int 1000000007))))) (sRet (sDict [("cells", (sCallN dLstOf [(false, (sVar 0))])), ("at", (sC (.int 0))), ("digits", (sC (.int 0))), ("count", (sC (.int 0))), ("fold", (sVar 1))]))))
def m__law_pen : List D → M D := runD 3 b__law_pen
/- _law_shuffled(pen, some): 0 pen 1 some 2 left 3 found 4 lap -/
def b__law_shuffled : SS := (sSeq (sPar2 2 3 (sCallN dLstOf [(false, (sVar 1))]) (sLst [])) (sSeq (sFor (sItR [(false, (sCallN dLen [(false, (sVar 1))]))]) (gN 4) (sDropM (mt1 3 mAppend (mt1 2 mPop (sPure (sCall m__law_draw [(false, (sVar 0)), (false, (sCallN dLen [(false, (sVarR 2))]))])))))) (sRet (sVar 3))))
def m__law_shuffled : List D → M D := runD 5 b__law_shuffled
/- _law_measured(rods, lengths, lot, side): 0 rods 1 lengths 2 lot 3 side 4 at -/
def b__law_measured : SS := (sRet (sCallN dTupOf [(false, (sComp [4] (sItR [(false, (sCallN dLen [(false, (sVar 0))]))]) (gN 4) sYes (sIfE (sBool (sOp2 (dInA false) (sVar 4) (sVar 2))) (sOp2 dIx (sVar 1) (sVar 4)) (sOp2 dIx (sOp2 dIx (sVar 0) (sVar 4)) (sVar 3)))))]))
def m__law_measured : List D → M D := runD 5 b__law_measured
/- _law_tells(shop, rods, lengths, lot): 0 shop 1 rods 2 lengths 3 lot -/
def b__law_tells : SS := (sSeq (sIfS (sBool (sOp2 (dIsN true) (sCallD m__law_least_yield [(false, (sVar 0)), (false, (sVar 2))]) (sC .non))) (sRet (sOp2 (dIsN true) (sCallD m__law_least_yield [(false, (sVar 0)), (false, (sCall m__law_measured [(false, (sVar 1)), (false, (sVar 2)), (false, (sVar 3)), (false, (sC (.int 0)))]))]) (sC .non))) sNext) (sRet (sOp2 (dIsN false) (sCallD m__law_least_yield [(false, (sVar 0)), (false, (sCall m__law_measured [(false, (sVar 1)), (false, (sVar 2)), (false, (sVar 3)), (false, (sC (.int 1)))]))]) (sC .non))))
def m__law_tells : List D → M D := runD 4 b__law_tells
/- need_lengths(rods, lengths): 0 rods 1 lengths 2 rod 3 one -/
def b_need_lengths : SS := (sSeq (sIfS (sOrB (sNotB (sTru (sIsi ["list", "tuple"] (sVar 1)))) (sBool (sOp2 dNe (sCallN dLen [(false, (sVar 1))]) (sCallN dLen [(false, (sVar 0))])))) sBad sNext) (sSeq (sIfS (sNotB (sTru (sCallN dAll [(false, (sComp [2, 3] (sItZ (sVar 0) (sVar 1)) (gT [(gN 2), (gN 3)]) sYes (sAndV (sCall m_is_whole [(false, (sVar 3))]) (sChain dLeA dLeA (sOp2 dIx (sVar 2) (sC (.int 0))) (sVar 3) (sOp2 dIx (sVar 2) (sC (.int 1)))))))]))) sBad sNext) (sRet (sCallN dTupOf [(false, (sVar 1))]))))
def m_need_lengths : List D → M D := runD 4 b_need_lengths
/- is_rod(value): 0 value 1 one -/
def b_is_rod : SS := (sSeq (sIfS (sOrB (sNotB (sTru (sIsi ["tuple"] (sVar 0)))) (sOrB (sBool (sOp2 dNe (sCallN dLen [(false, (sVar 0))]) (sC (.int 2)))) (sNotB (sTru (sCallN dAll [(false, (sComp [1] (sItA (sVar 0)) (gN 1) sYes (sCall m_is_whole [(false, (sVar 1))])))]))))) (sRet (sC (.bl false))) sNext) (sRet (sChain dLe dLeA (sC (.int 1)) (sOp2 dIx (sVar 0) (sC (.int 0))) (sOp2 dIx (sVar 0) (sC (.int 1))))))
def m_is_rod : List D → M D := runD 2 b_is_rod
/- need_rods(rods): 0 rods 1 rod -/
def b_need_rods : SS := (sSeq (sIfS (sOrB (sNotB (sTru (sIsi ["list", "tuple"] (sVar 0)))) (sOrB (sNotB (sBool (sChain dLe dLe (sC (.int 1)) (sCallN dLen [(false, (sVar 0))]) (sC (.int 6))))) (sNotB (sTru (sCallN dAll [(false, (sComp [1] (sItA (sVar 0)) (gN 1) sYes (sCall m_is_rod [(false, (sVar 1))])))]))))) sBad sNext) (sRet (sCallN dTupOf [(false, (sVar 0))])))
def m_need_rods : List D → M D := runD 2 b_need_rods
/- need_both(rods, lengths): 0 rods 1 lengths 2 known -/
def b_need_both : SS := (sSeq (sSet 2 (sCall m_need_rods [(false, (sVar 0))])) (sRet (sTup [(false, (sVar 2)), (false, (sCall m_need_lengths [(false, (sVar 2)), (false, (sVar 1))]))])))
def m_need_both : List D → M D := runD 3 b_need_both
/- all_lots(many): 0 many 1 lots 2 index 3 lot -/
def b_all_lots : SS := (sSeq (sSet 1 (sLst [(false, (sTup []))])) (sSeq (sFor (sItR [(false, (sVar 0))]) (gN 2) (sSet 1 (sOp2 dCatF (sVar 1) (sComp [3] (sItA (sVar 1)) (gN 3) sYes (sTup [(true, (sVar 3)), (false, (sVar 2))]))))) (sRet (sCallN dSortedH [(false, (sVarR 1))]))))
def m_all_lots : List D → M D := runD 4 b_all_lots
/- lies_in(one, other): 0 one 1 other 2 item -/
def b_lies_in : SS := (sRet (sCallN dAll [(false, (sComp [2] (sItA (sVar 0)) (gN 2) sYes (sOp2 (dInA false) (sVar 2) (sVar 1))))]))
def m_lies_in : List D → M D := runD 3 b_lies_in
/- mixed(rods, lengths, lot, side): 0 rods 1 lengths 2 lot 3 side 4 at 5 length -/
def b_mixed : SS := (sRet (sComp [4, 5] (sItE (sVar 1)) (gT [(gN 4), (gN 5)]) sYes (sIfE (sBool (sOp2 (dInA false) (sVar 4) (sVar 2))) (sVar 5) (sOp2 dIx (sOp2 dIx (sVar 0) (sVar 4)) (sVar 3)))))
def m_mixed : List D → M D := runD 6 b_mixed
/- less_of(wanted, pattern): 0 wanted 1 pattern 2 one 3 two -/
def b_less_of : SS := (sRet (sCallN dTupOf [(false, (sComp [2, 3] (sItZ (sVar 0) (sVar 1)) (gT [(gN 2), (gN 3)]) sYes (sOp2 dSub (sVar 2) (sVar 3))))]))
def m_less_of : List D → M D := runD 4 b_less_of
/- width_by(shop, piece): 0 shop 1 piece -/
def b_width_by : SS := (sRet (sOp2 dAdd (sOp2 dIx (sOp2 dIx (sAttr at_pieces "pieces" (sVar 0)) (sVar 1)) (sC (.int 1))) (sAttr at_kerf "kerf" (sVar 0))))
def m_width_by : List D → M D := runD 2 b_width_by
/- rows_for(shop, wanted, length): 0 shop 1 wanted 2 length 3 rows 4 piece 5 most 6 longer 7 width 8 row 9 left 10 number -/
def b_rows_for : SS := (sSeq (sSet 3 (sLst [(false, (sTup [(false, (sTup [])), (false, (sOp2 dAdd (sVar 2) (sAttr at_kerf "kerf" (sVar 0))))]))])) (sSeq (sFor (sItE (sVar 1)) (gT [(gN 4), (gN 5)]) (sSeq (sPar2 6 7 (sLst []) (sCall m_width_by [(false, (sVar 0)), (false, (sVar 4))])) (sSeq (sFor (sItA (sVar 3)) (gT [(gN 8), (gN 9)]) (sDropM (mt1 6 mExtend (sPure (sComp [10] (sItR [(false, (sOp2 dAdd (sCallN dMin [(false, (sVar 5)), (false, (sOp2 dFdiv (sVar 9) (sVar 7)))]) (sC (.int 1))))]) (gN 10) sYes (sTup [(false, (sTup [(true, (sVar 8)), (false, (sVar 10))])), (false, (sOp2 dSub (sVar 9) (sOp2 dMulA (sVar 10) (sVar 7))))])))))) (sSet 3 (sVar 6))))) (sRet (sComp [8, 9] (sItA (sVar 3)) (gT [(gN 8), (gN 9)]) sYes (sVar 8)))))
def m_rows_for : List D → M D := runD 11 b_rows_for
/- wanted_row(shop): 0 shop 1 name 2 length 3 wanted -/
def b_wanted_row : SS := (sRet (sCallN dTupOf [(false, (sComp [1, 2, 3] (sItA (sAttr at_pieces "pieces" (sVar 0))) (gT [(gN 1), (gN 2), (gN 3)]) sYes (sVar 3)))]))
def m_wanted_row : List D → M D := runD 4 b_wanted_row
/- yield_by(shop, lengths): 0 shop 1 lengths 2 layers 3 length 4 longer 5 wanted 6 row 7 way 8 behind -/
def b_yield_by : SS := (sSeq (sSet 2 (sLst [(false, (sDictT1 (sCall m_wanted_row [(false, (sVar 0))]) (sTup [])))])) (sSeq (sFor (sItA (sVar 1)) (gN 3) (sSeq (sSet 4 sDictT0) (sSeq (sForD (sOp2 dIx (sVarR 2) (sOp1 dNeg (sC (.int 1)))) (gN 5) (sFor (sItA (sCall m_rows_for [(false, (sVar 0)), (false, (sVar 5)), (false, (sVar 3))])) (gN 6) (sSeq (sPar2 7 8 (sOp2 dAdd (sIxA (sOp2 dIx (sVarR 2) (sOp1 dNeg (sC (.int 1)))) (sVar 5)) (sTup [(false, (sVar 6))])) (sCall m_less_of [(false, (sVar 5)), (false, (sVar 6))])) (sIfS (sOrB (sBool (sInA true (sVar 8) (sVar 4))) (sBool (sOp2 dLtA (sVar 7) (sIxA (sVar 4) (sVar 8))))) (sPut (sVar 4) (sVar 8) (sVar 7)) sNext)))) (sDropM (mt1 2 mAppend (sPure (sVar 4))))))) (sRet (sGet1 (sOp2 dIx (sVarR 2) (sOp1 dNeg (sC (.int 1)))) (sOp2 dMulA (sTup [(false, (sC (.int 0)))]) (sCallN dLen [(false, (sAttr at_pieces "pieces" (sVar 0)))]))))))
def m_yield_by : List D → M D := runD 9 b_yield_by
/- paper_by(shop, rods, lengths, lot): 0 shop 1 rods 2 lengths 3 lot 4 low 5 high -/
def b_paper_by : SS := (sSeq (sIfS (sBool (sOp2 (dIsN true) (sCallD m_yield_by [(false, (sVar 0)), (false, (sVar 2))]) (sC .non))) (sSeq (sSet 4 (sCallD m_yield_by [(false, (sVar 0)), (false, (sCall m_mixed [(false, (sVar 1)), (false, (sVar 2)), (false, (sVar 3)), (false, (sC (.int 0)))]))])) (sRet (sTup [(false, (sOp2 (dIsN true) (sVar 4) (sC .non))), (false, (sVar 4))]))) sNext) (sSeq (sSet 5 (sCallD m_yield_by [(false, (sVar 0)), (false, (sCall m_mixed [(false, (sVar 1)), (false, (sVar 2)), (false, (sVar 3)), (false, (sC (.int 1)))]))])) (sRet (sTup [(false, (sOp2 (dIsN false) (sVar 5) (sC .non))), (false, (sVar 5))]))))
def m_paper_by : List D → M D := runD 6 b_paper_by
/- sorted_papers(shop, rods, lengths): 0 shop 1 rods 2 lengths 3 lots 4 papers 5 good 6 bad 7 kept 8 torn 9 lot 10 one -/
def b_sorted_papers : SS := (sSeq (sSet 3 (sCall m_all_lots [(false, (sCallN dLen [(false, (sVar 1))]))])) (sSeq (sSet 4 (sDictC [9] (sItA (sVar 3)) (gN 9) sYes (sVar 9) (sCall m_paper_by [(false, (sVar 0)), (false, (sVar 1)), (false, (sVar 2)), (false, (sVar 9))]))) (sSeq (sPar2 5 6 (sComp [9] (sItA (sVar 3)) (gN 9) (sTru (sOp2 dIx (sIxA (sVar 4) (sVar 9)) (sC (.int 0)))) (sVar 9)) (sComp [9] (sItA (sVar 3)) (gN 9) (sNotB (sTru (sOp2 dIx (sIxA (sVar 4) (sVar 9)) (sC (.int 0))))) (sVar 9))) (sSeq (sSet 7 (sComp [9] (sItA (sVar 5)) (gN 9) (sNotB (sTru (sCallN dAnyA [(false, (sComp [10] (sItA (sVar 5)) (gN 10) sYes (sAndV (sOp2 dNe (sVar 10) (sVar 9)) (sCall m_lies_in [(false, (sVar 10)), (false, (sVar 9))]))))]))) (sVar 9))) (sSeq (sSet 8 (sComp [9] (sItA (sVar 6)) (gN 9) (sNotB (sTru (sCallN dAnyA [(false, (sComp [10] (sItA (sVar 6)) (gN 10) sYes (sAndV (sOp2 dNe (sVar 10) (sVar 9)) (sCall m_lies_in [(false, (sVar 9)), (false, (sVar 10))]))))]))) (sVar 9))) (sRet (sTup [(false, (sComp [9] (sItA (sVar 7)) (gN 9) sYes (sTup [(false, (sVar 9)), (false, (sOp2 dIx (sIxA (sVar 4) (sVar 9)) (sC (.int 1))))]))), (false, (sComp [9] (sItA (sVar 8)) (gN 9) sYes (sTup [(false, (sVar 9)), (false, (sOp2 dIx (sIxA (sVar 4) (sVar 9)) (sC (.int 1))))])))])))))))
def m_sorted_papers : List D → M D := runD 11 b_sorted_papers
/- least_by(shop, rods, lengths): 0 shop 1 rods 2 lengths 3 known 4 row 5 lot 6 paper -/
def b_least_by : SS := (sSeq (sAsg (gT [(gN 3), (gN 4)]) (sCall m_need_both [(false, (sVar 1)), (false, (sVar 2))])) (sRet (sComp [5, 6] (sItA (sOp2 dIx (sCallD m_sorted_papers [(false, (sVar 0)), (false, (sVar 3)), (false, (sVar 4))]) (sC (.int 0)))) (gT [(gN 5), (gN 6)]) sYes (sVar 5))))
def m_least_by : List D → M D := runD 7 b_least_by
/- fewest_measured(shop, rods, lengths): 0 shop 1 rods 2 lengths -/
def b_fewest_measured : SS := (sRet (sMinLen (sCall m_least_by [(false, (sVar 0)), (false, (sVar 1)), (false, (sVar 2))])))
def m_fewest_measured : List D → M D := runD 3 b_fewest_measured
/- outlook(shop, rods): 0 shop 1 rods 2 known 3 low 4 high -/
def b_outlook : SS := (sSeq (sSet 2 (sCall m_need_rods [(false, (sVar 1))])) (sSeq (sIfS (sBool (sOp2 (dIsN true) (sCallD m_yield_by [(false, (sVar 0)), (false, (sComp [3, 4] (sItA (sVar 2)) (gT [(gN 3), (gN 4)]) sYes (sVar 3)))]) (sC .non))) (sRet (sC (.str "sure"))) sNext) (sRet (sIfE (sBool (sOp2 (dIsN false) (sCallD m_yield_by [(false, (sVar 0)), (false, (sComp [3, 4] (sItA (sVar 2)) (gT [(gN 3), (gN 4)]) sYes (sVar 4)))]) (sC .non))) (sC (.str "never")) (sC (.str "open"))))))
def m_outlook : List D → M D := runD 5 b_outlook
/- is_index(value, many): 0 value 1 many -/
def b_is_index : SS := (sRet (sAndV (sCall m_is_whole [(false, (sVar 0))]) (sChain dLe dLtA (sC (.int 0)) (sVar 0) (sVar 1))))
def m_is_index : List D → M D := runD 2 b_is_index
/- is_row_lot(many, value): 0 many 1 value 2 at 3 one -/
def b_is_row_lot : SS := (sSeq (sIfS (sOrB (sNotB (sTru (sIsi ["tuple"] (sVar 1)))) (sNotB (sTru (sCallN dAll [(false, (sComp [3] (sItA (sVar 1)) (gN 3) sYes (sCall m_is_index [(false, (sVar 3)), (false, (sVar 0))])))])))) (sRet (sC (.bl false))) sNext) (sRet (sCallN dAll [(false, (sComp [2] (sItR [(false, (sOp2 dSub (sCallN dLen [(false, (sVar 1))]) (sC (.int 1))))]) (gN 2) sYes (sOp2 dLtA (sOp2 dIx (sVar 1) (sVar 2)) (sOp2 dIx (sVar 1) (sOp2 dAdd (sVar 2) (sC (.int 1)))))))])))
def m_is_row_lot : List D → M D := runD 4 b_is_row_lot
/- need_rod_lot(rods, lot): 0 rods 1 lot 2 known -/
def b_need_rod_lot : SS := (sSeq (sSet 2 (sIfE (sTru (sIsi ["list"] (sVar 1))) (sCallN dTupOf [(false, (sVar 1))]) (sVar 1))) (sSeq (sIfS (sNotB (sTru (sCall m_is_row_lot [(false, (sCallN dLen [(false, (sVar 0))])), (false, (sVar 2))]))) sBad sNext) (sRet (sVar 2))))
def m_need_rod_lot : List D → M D := runD 3 b_need_rod_lot
/- tells(shop, rods, lengths, lot): 0 shop 1 rods 2 lengths 3 lot 4 known 5 row -/
def b_tells : SS := (sSeq (sAsg (gT [(gN 4), (gN 5)]) (sCall m_need_both [(false, (sVar 1)), (false, (sVar 2))])) (sRet (sOp2 dIx (sCall m_paper_by [(false, (sVar 0)), (false, (sVar 4)), (false, (sVar 5)), (false, (sCall m_need_rod_lot [(false, (sVar 4)), (false, (sVar 3))]))]) (sC (.int 0)))))
def m_tells : List D → M D := runD 6 b_tells
/- index_in(rows, name): 0 rows 1 name 2 at 3 row -/
def b_index_in : SS := (sSeq (sFor (sItE (sVar 0)) (gT [(gN 2), (gN 3)]) (sIfS (sAndB (sTru (sIsi ["str"] (sVar 1))) (sBool (sOp2 dEq (sOp2 dIx (sVar 3) (sC (.int 0))) (sVar 1)))) (sRet (sVar 2)) sNext)) (sRet (sC .non)))
def m_index_in : List D → M D := runD 4 b_index_in
/- piece_index(shop, name): 0 shop 1 name 2 at -/
def b_piece_index : SS := (sSeq (sSet 2 (sCall m_index_in [(false, (sAttr at_pieces "pieces" (sVar 0))), (false, (sVar 1))])) (sSeq (sIfS (sBool (sOp2 (dIsN false) (sVar 2) (sC .non))) sBad sNext) (sRet (sVar 2))))
def m_piece_index : List D → M D := runD 3 b_piece_index
/- with_row(rows, at, row): 0 rows 1 at 2 row -/
def b_with_row : SS := (sRet (sTup [(true, (sSlice (sVar 0) sNoPart (sPart (sVar 1)))), (false, (sVar 2)), (true, (sSlice (sVar 0) (sPart (sOp2 dAdd (sVar 1) (sC (.int 1)))) sNoPart))]))
def m_with_row : List D → M D := runD 3 b_with_row
/- with_wanted(shop, name, wanted): 0 shop 1 name 2 wanted 3 at 4 row -/
def b_with_wanted : SS := (sSeq (sSet 3 (sCall m_piece_index [(false, (sVar 0)), (false, (sVar 1))])) (sSeq (sSet 4 (sTup [(false, (sVar 1)), (false, (sOp2 dIx (sOp2 dIx (sAttr at_pieces "pieces" (sVar 0)) (sVar 3)) (sC (.int 1)))), (false, (sVar 2))])) (sRet (sCall m_Shop_init [(false, (sAttr at_stocks "stocks" (sVar 0))), (false, (sCall m_with_row [(false, (sAttr at_pieces "pieces" (sVar 0))), (false, (sVar 3)), (false, (sVar 4))])), (false, (sAttr at_kerf "kerf" (sVar 0)))]))))
def m_with_wanted : List D → M D := runD 5 b_with_wanted
/- yield_of(shop, rods, lengths): 0 shop 1 rods 2 lengths 3 known -/
def b_yield_of : SS := (sSeq (sSet 3 (sCall m_need_rods [(false, (sVar 1))])) (sRet (sCallD m_yield_by [(false, (sVar 0)), (false, (sCall m_need_lengths [(false, (sVar 3)), (false, (sVar 2))]))])))
def m_yield_of : List D → M D := runD 4 b_yield_of
/- law(script): 0 script 1 pen 2 lap 3 shop 4 made 5 rods 6 lengths 7 at 8 do 9 word 10 longer 11 near 12 name 13 wanted 14 order 15 one -/
def b_law_f312 : SS := (sSeq (sSet 3 (sCall m__law_few_shop [(false, (sVar 1)), (false, (sC (.int 1))), (false, (sC (.int 3)))])) (sSeq (sAsg (gT [(gN 4), (gT [(gN 5), (gN 6)])]) (sTup [(false, (sCall m__law_made [(false, (sVar 3))])), (false, (sCall m__law_drawn_rods [(false, (sVar 1)), (false, (sC (.int 4)))]))])) (sSeq (sPar3 7 8 9 (sCall m__law_draw [(false, (sVar 1)), (false, (sCallN dLen [(false, (sVar 5))]))]) (sOp2 (dIsN true) (sCall m_yield_of [(false, (sVar 4)), (false, (sVar 5)), (false, (sVar 6))]) (sC .non)) (sCall m_outlook [(false, (sVar 4)), (false, (sVar 5))])) (sSeq (sIfS (sBool (sOp2 dNe (sVar 8) (sOp2 (dIsN true) (sCallD m__law_least_yield [(false, (sVar 3)), (false, (sVar 6))]) (sC .non)))) (sRet (sC (.bl false))) sNext) (sSeq (sSet 10 (sOp2 dAdd (sOp2 dAdd (sSlice (sVar 6) sNoPart (sPart (sVar 7))) (sTup [(false, (sOp2 dIx (sOp2 dIx (sVar 5) (sVar 7)) (sC (.int 1))))])) (sSlice (sVar 6) (sPart (sOp2 dAdd (sVar 7) (sC (.int 1)))) sNoPart))) (sSeq (sIfS (sAndB (sTru (sVar 8)) (sBool (sOp2 (dIsN false) (sCall m_yield_of [(false, (sVar 4)), (false, (sVar 5)), (false, (sVar 10))]) (sC .non)))) (sRet (sC (.bl false))) sNext) (sSeq (sSet 11 (sOp2 dAdd (sOp2 dAdd (sSlice (sVar 5) sNoPart (sPart (sVar 7))) (sTup [(false, (sTup [(false, (sOp2 dIx (sVar 6) (sVar 7))), (false, (sOp2 dIx (sVar 6) (sVar 7)))]))])) (sSlice (sVar 5) (sPart (sOp2 dAdd (sVar 7) (sC (.int 1)))) sNoPart))) (sSeq (sIfS (sAndB (sBool (sOp2 dNe (sVar 9) (sC (.str "open")))) (sBool (sOp2 dNe (sCall m_outlook [(false, (sVar 4)), (false, (sVar 11))]) (sVar 9)))) (sRet (sC (.bl false))) sNext) (sSeq (sIfS (sOrB (sAndB (sBool (sOp2 dEq (sVar 9) (sC (.str "sure")))) (sBool (sOp2 dNe (sCall m_outlook [(false, (sVar 4)), (false, (sOp2 dAdd (sVar 5) (sTup [(false, (sTup [(false, (sC (.int 1))), (false, (sC (.int 4)))]))])))]) (sC (.str "sure"))))) (sAndB (sBool (sOp2 dEq (sVar 9) (sC (.str "never")))) (sAndB (sBool (sOp2 dGt (sCallN dLen [(false, (sVar 5))]) (sC (.int 1)))) (sBool (sOp2 dNe (sCall m_outlook [(false, (sVar 4)), (false, (sSlice (sVar 5) (sPart (sC (.int 1))) sNoPart))]) (sC (.str "never"))))))) (sRet (sC (.bl false))) sNext) (sSeq (sIfS (sOrB (sBool (sOp2 (dIsBX true) (sCall m_tells [(false, (sVar 4)), (false, (sVar 5)), (false, (sVar 6)), (false, (sRgT (sCallN dLen [(false, (sVar 5))])))]) (sC (.bl true)))) (sBool (sOp2 (dIsBX true) (sCall m_tells [(false, (sVar 4)), (false, (sVar 5)), (false, (sVar 6)), (false, (sCall m_fewest_measured [(false, (sVar 4)), (false, (sVar 5)), (false, (sVar 6))]))]) (sC (.bl true))))) (sRet (sC (.bl false))) sNext) (sSeq (sIfS (sOrB (sBool (sOp2 dNe (sOp2 dNe (sCall m_outlook [(false, (sVar 4)), (false, (sVar 11))]) (sC (.str "open"))) (sCall m__law_tells [(false, (sVar 3)), (false, (sVar 11)), (false, (sVar 6)), (false, (sTup []))]))) (sBool (sOp2 dNe (sCall m_tells [(false, (sVar 4)), (false, (sVar 5)), (false, (sVar 6)), (false, (sTup [(false, (sVar 7))]))]) (sCall m_tells [(false, (sVar 4)), (false, (sVar 11)), (false, (sVar 6)), (false, (sTup []))])))) (sRet (sC (.bl false))) sNext) (sSeq (sPar2 12 13 (sOp2 dIx (sOp2 dIx (sOp2 dIx (sVar 3) (sC (.int 1))) (sC (.int 0))) (sC (.int 0))) (sOp2 dIx (sOp2 dIx (sOp2 dIx (sVar 3) (sC (.int 1))) (sC (.int 0))) (sC (.int 2)))) (sSeq (sIfS (sAndB (sTru (sVar 8)) (sAndB (sBool (sOp2 dGt (sVar 13) (sC (.int 0)))) (sBool (sOp2 (dIsN false) (sCall m_yield_of [(false, (sCall m_with_wanted [(false, (sVar 4)), (false, (sVar 12)), (false, (sOp2 dSub (sVar 13) (sC (.int 1))))])), (false, (sVar 5)), (false, (sVar 6))]) (sC .non))))) (sRet (sC (.bl false))) sNext) (sSeq (sSet 14 (sCall m__law_shuffled [(false, (sVar 1)), (false, (sRgL (sCallN dLen [(false, (sVar 5))])))])) (sIfS (sBool (sOp2 dNe (sCall m_outlook [(false, (sVar 4)), (false, (sComp [15] (sItA (sVar 14)) (gN 15) sYes (sOp2 dIx (sVar 5) (sVar 15))))]) (sVar 9))) (sRet (sC (.bl false))) sNext)))))))))))))))
def b_law : SS := (sSeq (sSet 1 (sCall m__law_pen [(false, (sVar 0))])) (sSeq (sFor (sItR [(false, (sC (.int 3)))]) (gN 2) b_law_f312) (sRet (sC (.bl true)))))
def m_law : List D → M D := runD 16 b_law
end K80
namespace K80
open PySem PySem.Spec PyProof.Rows L2 Ev
/-! ### the pen -/
structure Pen where
  cells : List Int
  at_ : Nat
  digits : Int
  count : Int
  fold : Int
def Pen.kd (p : Pen) : MO := .k [(.inr "cells", .lst (p.cells.map .int)), (.inr "at", .int (p.at_ : Int)), (.inr "digits", .int p.digits), (.inr "count", .int p.count), (.inr "fold", .int p.fold)]
def Pen.Ok (p : Pen) : Prop := p.at_ ≤ p.cells.length ∧ 0 ≤ p.digits ∧ p.cells.length ≤ 1000
/-- the pen is the first of what changes; the rest is R -/
def PenS (R : Sto) (S : Sto) : Prop := ∃ p : Pen, S = p.kd :: R ∧ p.Ok
section
variable (p : Pen) (R : Sto) (ρ : DEnv) (c : Int) (k : Nat)
@[simp] theorem get_cells : getD' (.mref 0) (.str "cells") (p.kd :: R) = .ok (.lst (p.cells.map .int)) (p.kd :: R) := rfl
@[simp] theorem get_at : getD' (.mref 0) (.str "at") (p.kd :: R) = .ok (.int (p.at_ : Int)) (p.kd :: R) := rfl
@[simp] theorem get_digits : getD' (.mref 0) (.str "digits") (p.kd :: R) = .ok (.int p.digits) (p.kd :: R) := rfl
@[simp] theorem get_count : getD' (.mref 0) (.str "count") (p.kd :: R) = .ok (.int p.count) (p.kd :: R) := rfl
@[simp] theorem get_fold : getD' (.mref 0) (.str "fold") (p.kd :: R) = .ok (.int p.fold) (p.kd :: R) := rfl
theorem five : (5 : Nat) < sizeLine := by rw [szl]; decide
@[simp] theorem put_at : putD' ρ (.int (k : Int)) (.mref 0) (.str "at") (p.kd :: R) = .ok (.nx ρ) ({ p with at_ := k }.kd :: R) := by
  show putR ρ ((if (5 : Nat) < sizeLine then some (MO.k _) else none : Option MO).map _) = _
  rw [if_pos five]
  rfl
@[simp] theorem put_digits : putD' ρ (.int c) (.mref 0) (.str "digits") (p.kd :: R) = .ok (.nx ρ) ({ p with digits := c }.kd :: R) := by
  show putR ρ ((if (5 : Nat) < sizeLine then some (MO.k _) else none : Option MO).map _) = _
  rw [if_pos five]
  rfl
@[simp] theorem put_count : putD' ρ (.int c) (.mref 0) (.str "count") (p.kd :: R) = .ok (.nx ρ) ({ p with count := c }.kd :: R) := by
  show putR ρ ((if (5 : Nat) < sizeLine then some (MO.k _) else none : Option MO).map _) = _
  rw [if_pos five]
  rfl
@[simp] theorem put_fold : putD' ρ (.int c) (.mref 0) (.str "fold") (p.kd :: R) = .ok (.nx ρ) ({ p with fold := c }.kd :: R) := by
  show putR ρ ((if (5 : Nat) < sizeLine then some (MO.k _) else none : Option MO).map _) = _
  rw [if_pos five]
  rfl
end
@[simp] theorem ten18 : dPow (.int 10) (.int 18) = some (.int 1000000000000000000) := by
  simp only [dPow]
  rw [if_pos (pwOk_of (by decide) (by decide) (by decide))]
  rfl
theorem mul_lit (i j : Int) (h : -18446744073709551616 < j ∧ j < 18446744073709551616) : dMulA (.int i) (.int j) = some (.int (i * j)) := if_pos (cMul_of (by omega))
theorem mul_lit' (i j : Int) (h : -18446744073709551616 < i ∧ i < 18446744073709551616) : dMulA (.int i) (.int j) = some (.int (i * j)) := if_pos (cMul_of (by omega))
theorem mod_int (i j : Int) (h : j ≠ 0) : dMod (.int i) (.int j) = some (.int (i.fmod j)) := if_pos h
theorem fdiv_int (i j : Int) (h : j ≠ 0) (h2 : j.natAbs < 1073741824) : dFdiv (.int i) (.int j) = some (.int (i.fdiv j)) := if_pos (fdOk_of h h2)
theorem fmod_range (i j : Int) (h : 0 < j) : 0 ≤ i.fmod j ∧ i.fmod j < j := by
  rw [Int.fmod_eq_emod_of_nonneg i (by omega)]
  exact ⟨Int.emod_nonneg i (by omega), Int.emod_lt_of_pos i h⟩
/-- what a draw gives -/
def Drawn (R : Sto) (many : Int) (d : D) (S : Sto) : Prop := (∃ r : Nat, d = .int (r : Int) ∧ (r : Int) < many) ∧ PenS R S
theorem drawn_of {R : Sto} {many r : Int} {p : Pen} (h0 : 0 ≤ r) (h : r < many) (ok : p.Ok) : Drawn R many (.int r) (p.kd :: R) :=
  ⟨⟨r.toNat, by rw [Int.toNat_of_nonneg h0], by rw [Int.toNat_of_nonneg h0]; exact h⟩, p, rfl, ok⟩

theorem len_cells (p : Pen) : dLen [.lst (p.cells.map D.int)] = some (.int (p.cells.length : Int)) := by simp
theorem draw_tail {R : Sto} {p : Pen} {many : Int} (ok : p.Ok) (hm : 0 < many) (hm2 : many < 1073741824) {ρ : DEnv} (c : Option D) (dg bl : Option D) (hρ : ρ = [some (.mref 0), some (.int many), c, dg, bl]) :
    (((sSeq (sIfS (sBool (sOp2 dGt (sGet (sVar 0) (sC (.str "digits"))) (sC (.int 0)))) (sSeq (sSet 3 (sOp2 dMod (sCallN dIntOf [(false, (sGet (sVar 0) (sC (.str "digits"))))]) (sVar 1))) (sSeq (sPut (sVar 0) (sC (.str "digits")) (sOp2 dFdiv (sGet (sVar 0) (sC (.str "digits"))) (sVar 1))) (sRet (sVar 3)))) sNext) (sSeq (sSet 4 (sOp2 dMod (sCallN dIntOf [(false, (sOp2 dAdd (sOp2 dAdd (sOp2 dMulA (sGet (sVar 0) (sC (.str "fold"))) (sC (.int 48271))) (sOp2 dMulA (sGet (sVar 0) (sC (.str "count"))) (sC (.int 7919)))) (sC (.int 13))))]) (sC (.int 2147483647)))) (sSeq (sSet 4 (sOp2 dMod (sCallN dIntOf [(false, (sOp2 dAdd (sOp2 dAdd (sOp2 dMulA (sVar 4) (sVar 4)) (sOp2 dMulA (sC (.int 31)) (sVar 4))) (sGet (sVar 0) (sC (.str "count")))))]) (sC (.int 2147483629)))) (sSeq (sPut (sVar 0) (sC (.str "fold")) (sOp2 dMod (sCallN dIntOf [(false, (sOp2 dAdd (sOp2 dMulA (sVar 4) (sC (.int 16807))) (sC (.int 7))))]) (sC (.int 2147483647)))) (sRet (sOp2 dMod (sCallN dIntOf [(false, (sOp2 dFdiv (sVar 4) (sC (.int 64))))]) (sVar 1))))))) : SS) ρ (p.kd :: R)).post fun o S => ∃ d, o = .rt d ∧ Drawn R many d S := by
  subst hρ
  have h3 : many ≠ 0 := by omega
  have h4 : many.natAbs < 1073741824 := by omega
  by_cases hd : 0 < p.digits
  · simp [hd, mod_int _ _ h3, fdiv_int _ _ h3 h4]
    obtain ⟨q1, q2⟩ := fmod_range p.digits many hm
    refine drawn_of q1 q2 ⟨ok.1, ?_, ok.2.2⟩
    show 0 ≤ p.digits.fdiv many
    exact Int.fdiv_nonneg ok.2.1 (by omega)
  · have e1 := fmod_range (p.fold * 48271 + p.count * 7919 + 13) 2147483647 (by decide)
    simp [hd, mod_int, mul_lit, mul_lit', fdiv_int]
    rw [mul_lit _ _ (by omega)]
    simp [mod_int, mul_lit, mul_lit', fdiv_int, h3]
    obtain ⟨q1, q2⟩ := fmod_range ((((p.fold * 48271 + p.count * 7919 + 13).fmod 2147483647 * (p.fold * 48271 + p.count * 7919 + 13).fmod 2147483647 + 31 * (p.fold * 48271 + p.count * 7919 + 13).fmod 2147483647 + p.count).fmod 2147483629).fdiv 64) many hm
    exact drawn_of q1 q2 ok
theorem draw_ok {R : Sto} {p : Pen} {many : Int} (ok : p.Ok) (hm : 0 < many) (hm2 : many < 1073741824) : (m__law_draw [.mref 0, .int many] (p.kd :: R)).post (Drawn R many) := by
  unfold m__law_draw b__law_draw
  rw [e_runD]
  refine then_post (P := fun o S => ∃ d, o = .rt d ∧ Drawn R many d S) ?_ (fun o S ⟨d, e, h⟩ => by subst e; exact h)
  simp only [List.map_cons, List.map_nil, List.length_cons, List.length_nil, List.replicate, List.cons_append, List.nil_append]
  rw [e_seq]
  refine then_post (P := fun o S => ∃ p : Pen, o = .nx [some (.mref 0), some (.int many), none, none, none] ∧ S = p.kd :: R ∧ p.Ok) (by simp; exact ⟨_, rfl, ok⟩) (fun o S ⟨p, e1, e2, ok⟩ => ?_)
  subst e1 e2
  rw [thenO_nx, e_seq]
  refine then_post (P := fun o S => ∃ (p : Pen) (c : Option D), o = .nx [some (.mref 0), some (.int many), c, none, none] ∧ S = p.kd :: R ∧ p.Ok) ?_ (fun o S ⟨p, c, e1, e2, ok⟩ => ?_)
  · by_cases h1 : p.digits = 0
    · by_cases h2 : p.at_ < p.cells.length
      · have hc : (p.cells.map D.int)[p.at_]? = some (.int p.cells[p.at_]) := by simp [h2]
        have h2' : (p.at_ : Int) < p.cells.length := by omega
        have e3 : (p.at_ : Int) + 1 = ((p.at_ + 1 : Nat) : Int) := by simp
        by_cases h3 : 1000000000000000000 ≤ p.cells[p.at_]
        · simp [h1, h2', d_ixl hc, h3, e3, -Int.natCast_add]
          exact ⟨_, rfl, ⟨h2, by show 0 ≤ p.cells[p.at_] - _; omega, ok.2.2⟩⟩
        · simp [h1, h2', d_ixl hc, h3, e3, -Int.natCast_add, mul_lit, mod_int]
          exact ⟨_, rfl, ⟨h2, Int.le_refl 0, ok.2.2⟩⟩
      · have h2' : ¬ (p.at_ : Int) < p.cells.length := by omega
        simp [h1, h2']
        exact ⟨_, rfl, ok⟩
    · simp [h1]
      exact ⟨_, rfl, ok⟩
  · subst e1 e2
    exact draw_tail ok hm hm2 c none none rfl
theorem draw_post {R S : Sto} {many : Int} (h : PenS R S) (hm : 0 < many) (hm2 : many < 1073741824) : (m__law_draw [.mref 0, .int many] S).post (Drawn R many) := by
  obtain ⟨p, rfl, ok⟩ := h
  exact draw_ok ok hm hm2
/-- a pick of what there is -/
theorem pick_tup {R S : Sto} (h : PenS R S) {xs : List D} (h0 : xs ≠ []) (h1 : xs.length < 1073741824) : (m__law_pick [.mref 0, .tup xs] S).post fun d S' => d ∈ xs ∧ PenS R S' := by
  unfold m__law_pick b__law_pick
  have hp : 0 < xs.length := List.length_pos_iff.mpr h0
  simp
  refine then_post (draw_post h (by omega) (by omega)) fun d S' ⟨⟨r, e, hr⟩, h'⟩ => ?_
  subst e
  have hr' : r < xs.length := by omega
  rw [d_ixt (List.getElem?_eq_getElem hr')]
  simp [h']
theorem pick_lst {R S : Sto} (h : PenS R S) {xs : List D} (h0 : xs ≠ []) (h1 : xs.length < 1073741824) : (m__law_pick [.mref 0, .lst xs] S).post fun d S' => d ∈ xs ∧ PenS R S' := by
  unfold m__law_pick b__law_pick
  have hp : 0 < xs.length := List.length_pos_iff.mpr h0
  simp
  refine then_post (draw_post h (by omega) (by omega)) fun d S' ⟨⟨r, e, hr⟩, h'⟩ => ?_
  subst e
  have hr' : r < xs.length := by omega
  rw [d_ixl (List.getElem?_eq_getElem hr')]
  simp [h']
/-- a sign of a text -/
theorem pick_str {R S : Sto} (h : PenS R S) {z : Str} (h0 : 0 < z.length) (h1 : z.length ≤ sizeLine) {P : Nat → Bool} (hP : ∀ c ∈ z.cps.toList, P c = true) : (m__law_pick [.mref 0, .str z] S).post fun d S' => (∃ c, P c = true ∧ d = .str ⟨#[c]⟩) ∧ PenS R S' := by
  unfold m__law_pick b__law_pick
  have e : dLen [.str z] = some (.int (z.length : Int)) := if_pos h1
  simp [e]
  have hz := szl
  refine then_post (draw_post h (by omega) (by omega)) fun d S' ⟨⟨r, e, hr⟩, h'⟩ => ?_
  subst e
  have hl : z.length = z.cps.toList.length := by simp [Str.length]
  have hr' : r < z.cps.toList.length := by omega
  have e2 : dIx (.str z) (.int (r : Int)) = some (.str ⟨#[z.cps.toList[r]]⟩) := by
    show (if z.length ≤ sizeLine then (atI z.cps.toList (r : Int)).map (fun c => D.str ⟨#[c]⟩) else none) = _
    rw [if_pos h1, atI_nat (List.getElem?_eq_getElem hr')]
    rfl
  rw [e2]
  simp only [optR_some, Res.then_ok, outE_rt, Res.post_ok]
  exact ⟨⟨_, hP _ (List.getElem_mem hr'), rfl⟩, h'⟩
/-- the pen of a script -/
theorem pen_ok (ns : List Int) (h : ns.length ≤ 1000) : (m__law_pen [.scr ns] []).post fun d S => d = .mref 0 ∧ PenS [] S := by
  unfold m__law_pen b__law_pen
  simp
  refine then_post (P := fun o S => S = [] ∧ ∃ (i : Int) (c : Option D), o = .nx [some (.scr ns), some (.int i), c]) ?_ fun o S ⟨e1, i, c, e2⟩ => ?_
  · refine forL_map (P := fun j ρ S => S = [] ∧ ∃ (i : Int) (c : Option D), ρ = [some (.scr ns), some (.int i), c]) ns ⟨rfl, 0, none, rfl⟩ (fun j n _ ρ S ⟨e1, i, c, e2⟩ => ?_) (fun ρ S ⟨e1, i, c, e2⟩ => ⟨e1, i, c, by rw [e2]⟩)
    subst e1 e2
    simp [mul_lit, mod_int, stepP]
  · subst e1 e2
    simp
    exact ⟨⟨ns, 0, 0, 0, i⟩, rfl, Nat.zero_le _, Int.le_refl 0, h⟩

/-! ### names -/
def isLet (c : Nat) : Bool := decide (c ∈ (Str.ofString "abcdefghijklmnopqrstuvwxyz").cps.toList)
def isSgn (c : Nat) : Bool := decide (c ∈ (Str.ofString "abcdefghijklmnopqrstuvwxyz0123456789").cps.toList)
structure NameOk (z : Str) : Prop where
  len : 1 ≤ z.length
  le : z.length ≤ 12
  one : ∀ c, z.cps.toList[0]? = some c → isLet c = true
  all : ∀ c ∈ z.cps.toList, isSgn c = true
theorem len_cps (z : Str) : z.length = z.cps.toList.length := by simp [Str.length]
theorem cps_app (a b : Str) : (a ++ b).cps.toList = a.cps.toList ++ b.cps.toList := by
  show (a.cps ++ b.cps).toList = _
  simp
theorem in_str (c : Nat) (z : Str) (neg : Bool) : dIn neg (.str ⟨#[c]⟩) (.str z) = some (.bl (if neg then !decide (c ∈ z.cps.toList) else decide (c ∈ z.cps.toList))) := by
  have e : dInS ⟨#[c]⟩ z = decide (c ∈ z.cps.toList) := StrLaws.found_one z c
  show some (D.bl (if neg then !dInS ⟨#[c]⟩ z else dInS ⟨#[c]⟩ z)) = _
  rw [e]
theorem sgn_ok : ∀ c, isSgn c = true → c < 1114112 := by
  intro c h
  have h' : c ∈ (Str.ofString "abcdefghijklmnopqrstuvwxyz0123456789").cps.toList := of_decide_eq_true h
  have a : ∀ c ∈ (Str.ofString "abcdefghijklmnopqrstuvwxyz0123456789").cps.toList, c < 1114112 := by decide +kernel
  exact a c h'
theorem let_sgn : ∀ c, isLet c = true → isSgn c = true := by
  intro c h
  have h' : c ∈ (Str.ofString "abcdefghijklmnopqrstuvwxyz").cps.toList := of_decide_eq_true h
  have a : ∀ c ∈ (Str.ofString "abcdefghijklmnopqrstuvwxyz").cps.toList, isSgn c = true := by decide +kernel
  exact a c h'
theorem NameOk.str {z : Str} (h : NameOk z) : PyData.strOk z = true := by
  unfold PyData.strOk
  rw [Array.all_eq_true']
  intro c hc
  have := sgn_ok c (h.all c (by simpa using hc))
  simpa using this
theorem sz12 {n : Nat} (h : n ≤ 12) : n ≤ sizeLine := by rw [szl]; omega
theorem name_is {z : Str} (h : NameOk z) (S : Sto) : m_is_name [.str z] S = .ok (.bl true) S := by
  unfold m_is_name b_is_name
  have hl := h.len
  have h2 := h.le
  have e : dLen [.str z] = some (.int (z.length : Int)) := if_pos (sz12 h2)
  have hc0 : 0 < z.cps.toList.length := by rw [← len_cps]; omega
  have i1 := h.one _ (List.getElem?_eq_getElem hc0)
  have e0 : dIx (.str z) (.int 0) = some (.str ⟨#[z.cps.toList[0]]⟩) := by
    show (if z.length ≤ sizeLine then (atI z.cps.toList ((0 : Nat) : Int)).map (fun c => D.str ⟨#[c]⟩) else none) = _
    rw [if_pos (sz12 h2), atI_nat (List.getElem?_eq_getElem hc0)]
    rfl
  have i2 : z.cps.toList[0] ∈ (Str.ofString "abcdefghijklmnopqrstuvwxyz").cps.toList := of_decide_eq_true i1
  have h3 : (1 : Int) ≤ z.length := by omega
  have h4 : (z.length : Int) ≤ 12 := by omega
  simp [isTyS, e, h3, h4, e0, in_str]
  rw [if_pos (by simpa using i2)]
  simp [signsD]
  rw [compL_map (g := fun _ => D.bl true) _ (fun c hc => by
    have : c ∈ (Str.ofString "abcdefghijklmnopqrstuvwxyz0123456789").cps.toList := of_decide_eq_true (h.all c hc)
    simp at this
    simp [in_str, this])]
  have e5 : dAll [.lst (z.cps.toList.map fun _ => D.bl true)] = some (.bl true) := by
    show (blsD (z.cps.toList.map fun _ => D.bl true)).map (fun ns => D.bl (ns.all id)) = _
    rw [show (z.cps.toList.map fun _ => D.bl true) = (z.cps.toList.map fun _ => true).map D.bl by simp, blsD_map]
    simp
  have e6 : z.cps.size ≤ sizeLine := sz12 h2
  simp [e6, e5]

theorem join_one : ∀ cs : List Nat, (Str.join (Str.ofString "") (cs.map fun c => (⟨#[c]⟩ : Str))).cps.toList = cs
  | [] => rfl
  | [c] => rfl
  | c :: d :: cs => by
    have ih := join_one (d :: cs)
    show ((⟨#[c]⟩ : Str) ++ (Str.ofString "") ++ Str.join (Str.ofString "") ((d :: cs).map fun c => (⟨#[c]⟩ : Str))).cps.toList = _
    rw [cps_app, cps_app, ih]
    rfl
abbrev LETS : Str := Str.ofString "abcdefghijklmnopqrstuvwxyz"
abbrev SGNS : Str := Str.ofString "abcdefghijklmnopqrstuvwxyz0123456789"
theorem lets_len : LETS.cps.toList.length = 26 := by decide +kernel
theorem sgns_len : SGNS.cps.toList.length = 36 := by decide +kernel
theorem let_in : ∀ c ∈ LETS.cps.toList, isLet c = true := fun c h => by
  unfold isLet
  rw [decide_eq_true_eq]
  exact h
theorem sgn_in : ∀ c ∈ SGNS.cps.toList, isSgn c = true := fun c h => by
  unfold isSgn
  rw [decide_eq_true_eq]
  exact h

theorem sum_ones {α : Type} : ∀ cs : List α, (cs.map fun _ => 1).sum = cs.length
  | [] => rfl
  | c :: cs => by
    rw [List.map_cons, List.sum_cons, sum_ones cs, List.length_cons]
    omega
/-- a drawn name -/
theorem name_ok {R S : Sto} (h : PenS R S) : (m__law_name [.mref 0] S).post fun d S' => (∃ z, d = .str z ∧ NameOk z) ∧ PenS R S' := by
  unfold m__law_name b__law_name
  simp
  refine then_post (draw_post h (by decide) (by decide)) fun d S' ⟨⟨r, e, hr⟩, h⟩ => ?_
  subst e
  have hr' : r < 6 := by omega
  obtain ⟨k, ek, hk⟩ : ∃ k : Nat, dIx (.lst [.int 0, .int 0, .int 1, .int 2, .int 5, .int 11]) (.int (r : Int)) = some (.int (k : Int)) ∧ k ≤ 11 := by
    have cases6 : r = 0 ∨ r = 1 ∨ r = 2 ∨ r = 3 ∨ r = 4 ∨ r = 5 := by omega
    rcases cases6 with rfl | rfl | rfl | rfl | rfl | rfl
    · exact ⟨0, d_ixl rfl, by decide⟩
    · exact ⟨0, d_ixl rfl, by decide⟩
    · exact ⟨1, d_ixl rfl, by decide⟩
    · exact ⟨2, d_ixl rfl, by decide⟩
    · exact ⟨5, d_ixl rfl, by decide⟩
    · exact ⟨11, d_ixl rfl, by decide⟩
  simp [ek]
  refine then_post (pick_str h (z := LETS) (by rw [len_cps, lets_len]; decide) (szk (by rw [len_cps, lets_len]; decide)) let_in) fun d S1 hh => ?_
  have h := hh.2
  have h1 := hh.1
  cases h1 with
  | intro c h2 => 
  have hc := h2.1
  have e := h2.2
  clear h2 hh
  subst e
  rw [rg1 (by omega)]
  simp
  refine then_post (compL_post (I := PenS R) (R := fun _ y => ∃ c, isSgn c = true ∧ y = .str ⟨#[c]⟩) _ _ h fun d hd S h => ?_) fun ys S2 ⟨h, es⟩ => ?_
  · simp
    refine then_post (pick_str h (z := SGNS) (by rw [len_cps, sgns_len]; decide) (szk (by rw [len_cps, sgns_len]; decide)) sgn_in) fun d S1 ⟨⟨c, hc, e⟩, h⟩ => ?_
    subst e
    simp
    exact ⟨h, hc⟩
  · have hl := es.length
    simp at hl
    have : ∃ cs : List Nat, ys = cs.map (fun c => D.str ⟨#[c]⟩) ∧ ∀ c ∈ cs, isSgn c = true := by
      have := Each.pick (enc := fun c => D.str ⟨#[c]⟩) (W := fun _ c => isSgn c = true) es fun a b ⟨c, h1, h2⟩ => ⟨c, h2, h1⟩
      obtain ⟨cs, e1, e2⟩ := this
      exact ⟨cs, e1, fun c hc => (Each.mem e2 c hc).elim fun _ h => h.2⟩
    obtain ⟨cs, rfl, hcs⟩ := this
    simp at hl
    have hz : cs.length ≤ sizeLine := sz12 (by omega)
    simp [hz]
    have ej : dJoin (.str (Str.ofString "")) (.lst (cs.map fun c => D.str ⟨#[c]⟩)) = some (.str (Txt.join (Str.ofString "") (cs.map fun c => ⟨#[c]⟩))) := by
      show (strsD (cs.map fun c => D.str ⟨#[c]⟩)).bind (joinS (Str.ofString "")) = _
      rw [show (cs.map fun c => D.str ⟨#[c]⟩) = (cs.map fun c => (⟨#[c]⟩ : Str)).map D.str by simp, strsD_map]
      refine (if_pos ?_ : joinS _ _ = _)
      have e1 : ((cs.map fun c => (⟨#[c]⟩ : Str)).map (·.length)).sum = cs.length := by
        rw [List.map_map, show ((fun x => x.length) ∘ fun c => ({ cps := #[c] } : Str)) = fun _ => 1 from rfl]
        exact sum_ones cs
      rw [e1]
      have e0 : (Str.ofString "").length = 0 := by decide +kernel
      rw [e0]
      omega
    rw [ej]
    simp
    have ez : ((⟨#[c]⟩ : Str) ++ Txt.join (Str.ofString "") (cs.map fun c => (⟨#[c]⟩ : Str))).cps.toList = c :: cs := by
      rw [cps_app, TL.join_eq, join_one]
      rfl
    have el : (⟨#[c]⟩ : Str).length + (Txt.join (Str.ofString "") (cs.map fun c => (⟨#[c]⟩ : Str))).length ≤ sizeLine := by
      rw [len_cps, len_cps, TL.join_eq, join_one]
      exact sz12 (by simp; omega)
    have ea : dAdd (.str ⟨#[c]⟩) (.str (Txt.join (Str.ofString "") (cs.map fun c => (⟨#[c]⟩ : Str)))) = some (.str ((⟨#[c]⟩ : Str) ++ Txt.join (Str.ofString "") (cs.map fun c => (⟨#[c]⟩ : Str)))) := if_pos el
    rw [ea]
    simp
    refine ⟨⟨?_, ?_, fun x hx => ?_, fun x hx => ?_⟩, h⟩
    · rw [len_cps, ez]; simp
    · rw [len_cps, ez]; simp; omega
    · rw [ez] at hx
      simp at hx
      subst hx
      exact hc
    · rw [ez] at hx
      rcases List.mem_cons.mp hx with rfl | hx
      · exact let_sgn _ hc
      · exact hcs x hx

theorem sub_len {α : Type} [BEq α] [LawfulBEq α] : ∀ {l m : List α}, l.Nodup → (∀ x ∈ l, x ∈ m) → l.length ≤ m.length
  | [], _, _, _ => Nat.zero_le _
  | x :: l, m, h, hs => by
    obtain ⟨h1, h2⟩ := List.nodup_cons.mp h
    have hx := hs x List.mem_cons_self
    have := sub_len (l := l) (m := m.erase x) h2 fun y hy => by
      have hne : y ≠ x := fun z => h1 (z ▸ hy)
      exact (List.mem_erase_of_ne hne).mpr (hs y (List.mem_cons_of_mem _ hy))
    rw [List.length_erase_of_mem hx] at this
    have hp : 0 < m.length := List.length_pos_of_mem hx
    rw [List.length_cons]
    omega
/-- z, a figure, q, zeros -/
def zn (lap k : Nat) : Str := ⟨([122, 48 + lap, 113] ++ List.replicate k 48).toArray⟩
theorem zn_cps (lap k : Nat) : (zn lap k).cps.toList = [122, 48 + lap, 113] ++ List.replicate k 48 := by
  unfold zn
  simp
theorem zn_len (lap k : Nat) : (zn lap k).length = 3 + k := by
  rw [len_cps, zn_cps]
  simp
  omega
theorem zn_inj {lap k j : Nat} (h : zn lap k = zn lap j) : k = j := by
  have := congrArg Str.length h
  rw [zn_len, zn_len] at this
  omega
theorem str_ext {a b : Str} (h : a.cps.toList = b.cps.toList) : a = b := PySem.W.str_of_cps h
theorem zn_zero : ∀ lap : Nat, lap < 10 → ((Str.ofString "z" ++ ((toString (lap : Int) : String) : Str)) ++ Str.ofString "q") = zn lap 0 := by
  intro lap h
  have : ∀ lap ∈ List.range 10, ((Str.ofString "z" ++ ((toString (lap : Int) : String) : Str)) ++ Str.ofString "q") = zn lap 0 := by decide +kernel
  exact this lap (List.mem_range.mpr h)
theorem zn_more (lap k : Nat) : zn lap k ++ Str.ofString "0" = zn lap (k + 1) := by
  apply str_ext
  rw [cps_app, zn_cps, zn_cps]
  rw [show (Str.ofString "0").cps.toList = [48] from by decide +kernel, List.append_assoc, ← List.replicate_succ']
theorem zn_ok {lap k : Nat} (h : lap < 10) (hk : k ≤ 9) : NameOk (zn lap k) := by
  have a : ∀ lap ∈ List.range 10, isSgn (48 + lap) = true := by decide +kernel
  have b : isLet 122 = true ∧ isSgn 122 = true ∧ isSgn 113 = true ∧ isSgn 48 = true := by decide +kernel
  refine ⟨by rw [zn_len]; omega, by rw [zn_len]; omega, fun c hc => ?_, fun c hc => ?_⟩
  · rw [zn_cps] at hc
    simp at hc
    subst hc
    exact b.1
  · rw [zn_cps] at hc
    rcases List.mem_append.mp hc with hc | hc
    · simp at hc
      rcases hc with rfl | rfl | rfl
      · exact b.2.1
      · exact a lap (List.mem_range.mpr h)
      · exact b.2.2.1
    · obtain ⟨_, rfl⟩ := List.mem_replicate.mp hc
      exact b.2.2.2
theorem zn_bound {lap k : Nat} {ns : List Str} (h : ∀ i, i ≤ k → zn lap i ∈ ns) : k + 1 ≤ ns.length := by
  have := sub_len (l := (List.range (k + 1)).map (zn lap)) (m := ns) (by
    rw [List.nodup_iff_pairwise_ne, List.pairwise_map]
    refine List.Pairwise.imp ?_ List.nodup_range
    intro a b h e
    exact h (zn_inj e)) (fun x hx => by
      obtain ⟨i, hi, rfl⟩ := List.mem_map.mp hx
      exact h i (by have := List.mem_range.mp hi; omega))
  simpa using this
structure NamesOk (ns : List Str) : Prop where
  nd : ns.Nodup
  ok : ∀ z ∈ ns, NameOk z
theorem names_ok {R S : Sto} (h : PenS R S) {many : Nat} (hm : many ≤ 9) : (m__law_names [.mref 0, .int (many : Int)] S).post fun d S' => (∃ ns : List Str, d = .tup (ns.map .str) ∧ ns.length = many ∧ NamesOk ns) ∧ PenS R S' := by
  unfold m__law_names b__law_names
  simp
  rw [rg1 (by omega)]
  simp
  refine then_post (P := fun o S => PenS R S ∧ ∃ (ns : List Str) (a b : Option D), o = .nx [some (.mref 0), some (.int (many : Int)), some (.lst (ns.map .str)), a, b] ∧ ns.length = many ∧ NamesOk ns) ?_ fun o S ⟨h, ns, a, b, e, hl, ok⟩ => ?_
  · refine forL_map (P := fun j ρ S => PenS R S ∧ ∃ (ns : List Str) (a b : Option D), ρ = [some (.mref 0), some (.int (many : Int)), some (.lst (ns.map .str)), a, b] ∧ ns.length = j ∧ NamesOk ns) (List.range many)
      ⟨h, [], none, none, rfl, rfl, ⟨List.nodup_nil, fun z hz => by cases hz⟩⟩ (fun j lap hj ρ S ⟨h, ns, a, b, e, hl, ok⟩ => ?_) (fun ρ S ⟨h, ns, a, b, e, hl, ok⟩ => ⟨h, ns, a, b, by rw [e], by simpa using hl, ok⟩)
    have hlap : lap = j := by
      obtain ⟨h1, h2⟩ := List.getElem?_eq_some_iff.mp hj
      rw [List.getElem_range] at h2
      exact h2.symm
    have hj' : j < many := by
      have := (List.getElem?_eq_some_iff.mp hj).1
      simpa using this
    subst hlap e
    have hst : ∀ z ∈ ns, PyData.strOk z = true := fun z hz => (ok.ok z hz).str
    simp
    refine then_post (name_ok h) fun d S1 ⟨⟨z, e, oz⟩, h⟩ => ?_
    subst e
    simp [encStr.mem oz.str hst]
    refine then_post (P := fun o S => PenS R S ∧ ∃ y, o = .nx [some (.mref 0), some (.int (many : Int)), some (.lst (ns.map .str)), some (.int (lap : Int)), some (.str y)] ∧ NameOk y ∧ (y ∉ ns ∨ y = zn lap 0)) ?_ fun o S ⟨h, y, e, oy, hy⟩ => ?_
    · by_cases hz : z ∈ ns
      · have hlog : (lap : Int).natAbs.log2 < 1920 := lt_lg (by decide) (by
          have : (lap : Int).natAbs < 10 := by omega
          have e : (10 : Nat) ≤ 2 ^ 1920 := by decide +kernel
          omega)
        have e1 : dStrOf [.int (lap : Int)] = some (.str ((toString (lap : Int) : String) : Str)) := if_pos hlog
        have lz : (Str.ofString "z").length + (((toString (lap : Int) : String) : Str)).length = 2 ∧ (Str.ofString "z" ++ ((toString (lap : Int) : String) : Str)).length + (Str.ofString "q").length = 3 := by
          have : ∀ lap ∈ List.range 10, (Str.ofString "z").length + (((toString (lap : Int) : String) : Str)).length = 2 ∧ (Str.ofString "z" ++ ((toString (lap : Int) : String) : Str)).length + (Str.ofString "q").length = 3 := by decide +kernel
          exact this lap (List.mem_range.mpr (by omega))
        have e2 : dAdd (.str (Str.ofString "z")) (.str ((toString (lap : Int) : String) : Str)) = some (.str (Str.ofString "z" ++ ((toString (lap : Int) : String) : Str))) := if_pos (by rw [lz.1]; exact szk (by decide))
        have e3 : dAdd (.str (Str.ofString "z" ++ ((toString (lap : Int) : String) : Str))) (.str (Str.ofString "q")) = some (.str (zn lap 0)) := by
          rw [← zn_zero lap (by omega)]
          exact if_pos (by rw [lz.2]; exact szk (by decide))
        obtain ⟨ts, u, f1, f2, f3⟩ : ∃ ts u : Str, dStrOf [.int (lap : Int)] = some (.str ts) ∧ dAdd (.str (Str.ofString "z")) (.str ts) = some (.str u) ∧ dAdd (.str u) (.str (Str.ofString "q")) = some (.str (zn lap 0)) := ⟨_, _, e1, e2, e3⟩
        simp [hz, f1, f2, f3, h]
        exact zn_ok (lap := lap) (k := 0) (by omega) (by omega)
      · simp [hz, h, oz]
    · subst e
      simp
      refine then_post (P := fun o S => PenS R S ∧ ∃ y, o = .nx [some (.mref 0), some (.int (many : Int)), some (.lst (ns.map .str)), some (.int (lap : Int)), some (.str y)] ∧ NameOk y ∧ y ∉ ns) ?_ fun o S ⟨h, y, e, oy, hy⟩ => ?_
      · refine whL_run (P := fun m ρ S => PenS R S ∧ ∃ y, ρ = [some (.mref 0), some (.int (many : Int)), some (.lst (ns.map .str)), some (.int (lap : Int)), some (.str y)] ∧ NameOk y ∧ (y ∉ ns ∨ ∃ k, y = zn lap k ∧ m + k = ns.length + 1 ∧ ∀ i, i < k → zn lap i ∈ ns)) (fun m ρ S ⟨h, y, e, oy, hy⟩ => ?_) FUEL (ns.length + 1) _ _ (by unfold FUEL; omega) ⟨h, y, rfl, oy, hy.imp id fun e => ⟨0, e, rfl, fun i hi => absurd hi (Nat.not_lt_zero _)⟩⟩
        subst e
        simp [encStr.mem oy.str hst]
        by_cases hin : y ∈ ns
        · rcases hy with hy | ⟨k, rfl, hk, hb⟩
          · exact absurd hin hy
          · have hb' : ∀ i, i ≤ k → zn lap i ∈ ns := fun i hi => by
              by_cases z : i = k
              · subst z; exact hin
              · exact hb i (by omega)
            have hkk := zn_bound hb'
            have e0 : (Str.ofString "0").length = 1 := by decide +kernel
            have ea : dAdd (.str (zn lap k)) (.str (Str.ofString "0")) = some (.str (zn lap (k + 1))) := by
              rw [← zn_more]
              exact if_pos (by rw [zn_len, e0]; exact szk (by omega))
            simp [hin, ea, stepP]
            exact ⟨m - 1, by omega, h, zn_ok (by omega) (by omega), .inr ⟨k + 1, rfl, by omega, fun i hi => hb' i (by omega)⟩⟩
        · simp [hin, h, oy]
      · subst e
        have hz : ns.length < sizeLine := by rw [szl]; omega
        have em : mAppend (ns.map D.str) [.str y] = some ((ns ++ [y]).map D.str, .non) := by
          show (if _ then _ else _) = _
          rw [if_pos (by simpa using hz)]
          simp
        simp [em, stepP, h, hl]
        refine ⟨ns ++ [y], by simp, by simp [hl], ?_, fun z hz => ?_⟩
        · rw [List.nodup_append]
          exact ⟨ok.nd, by simp, fun a ha b hb => by
            have : b = y := by simpa using hb
            subst this
            exact fun e => hy (e ▸ ha)⟩
        · rcases List.mem_append.mp hz with hz | hz
          · exact ok.ok z hz
          · have : z = y := by simpa using hz
            subst this
            exact oy
  · subst e
    simp
    exact ⟨⟨ns, rfl, hl, ok⟩, h⟩

/-! ### shops -/
structure ShopT where
  stocks : List (Str × Nat × Option Nat × Nat)
  pieces : List (Str × Nat × Nat)
  kerf : Nat
def optD : Option Nat → D
  | none => .non
  | some n => .int (n : Int)
def stockD (s : Str × Nat × Option Nat × Nat) : D := .tup [.str s.1, .int (s.2.1 : Int), optD s.2.2.1, .int (s.2.2.2 : Int)]
def pieceD (p : Str × Nat × Nat) : D := .tup [.str p.1, .int (p.2.1 : Int), .int (p.2.2 : Int)]
def shopD (a b c : D) : D := .obj "Shop" [("stocks", a), ("pieces", b), ("kerf", c)]
def ShopT.o (s : ShopT) : D := shopD (.tup (s.stocks.map stockD)) (.tup (s.pieces.map pieceD)) (.int (s.kerf : Int))
def ShopT.t (s : ShopT) : D := .tup [.tup (s.stocks.map stockD), .tup (s.pieces.map pieceD), .int (s.kerf : Int)]
structure StocksOk (ss : List (Str × Nat × Option Nat × Nat)) : Prop where
  len : 1 ≤ ss.length ∧ ss.length ≤ 4
  nm : NamesOk (ss.map (·.1))
  pos : ∀ s ∈ ss, 1 ≤ s.2.1
structure PiecesOk (ps : List (Str × Nat × Nat)) : Prop where
  len : 1 ≤ ps.length ∧ ps.length ≤ 6
  nm : NamesOk (ps.map (·.1))
  pos : ∀ s ∈ ps, 1 ≤ s.2.1
section
variable (a b c : D) (S : Sto)
@[simp] theorem sh_stocks : attrD at_stocks "stocks" (shopD a b c) S = .ok a S := by
  unfold attrD shopD
  simp only
  rw [if_pos (by decide +kernel)]
  rfl
@[simp] theorem sh_pieces : attrD at_pieces "pieces" (shopD a b c) S = .ok b S := by
  unfold attrD shopD
  simp only
  rw [if_pos (by decide +kernel)]
  rfl
@[simp] theorem sh_kerf : attrD at_kerf "kerf" (shopD a b c) S = .ok c S := by
  unfold attrD shopD
  simp only
  rw [if_pos (by decide +kernel)]
  rfl
end
@[simp] theorem isTyS_tup : isTyS "tuple" "tuple" = true := by decide +kernel
@[simp] theorem isTyS_lst : isTyS "list" "list" = true := by decide +kernel
@[simp] theorem isTyS_int : isTyS "int" "int" = true := by decide +kernel
@[simp] theorem isTyS_str : isTyS "str" "str" = true := by decide +kernel
@[simp] theorem isTyS_il : isTyS "int" "list" = false := by decide +kernel
@[simp] theorem isTyS_it : isTyS "int" "tuple" = false := by decide +kernel
@[simp] theorem isTyS_is : isTyS "int" "str" = false := by decide +kernel
@[simp] theorem isTyS_ib : isTyS "int" "bool" = false := by decide +kernel
@[simp] theorem isTyS_tl : isTyS "tuple" "list" = false := by decide +kernel
@[simp] theorem isTyS_ti : isTyS "tuple" "int" = false := by decide +kernel
@[simp] theorem isTyS_ts : isTyS "tuple" "str" = false := by decide +kernel
@[simp] theorem isTyS_lt : isTyS "list" "tuple" = false := by decide +kernel
@[simp] theorem isTyS_bt : isTyS "bool" "tuple" = false := by decide +kernel
@[simp] theorem isTyS_bs : isTyS "bool" "str" = false := by decide +kernel
@[simp] theorem isTyS_bi : isTyS "bool" "int" = true := by decide +kernel
@[simp] theorem isTyS_bb : isTyS "bool" "bool" = true := by decide +kernel
@[simp] theorem isTyS_nt : isTyS "NoneType" "tuple" = false := by decide +kernel
@[simp] theorem isTyS_ns : isTyS "NoneType" "str" = false := by decide +kernel
@[simp] theorem isTyS_ni : isTyS "NoneType" "int" = false := by decide +kernel
@[simp] theorem isTyS_st : isTyS "str" "tuple" = false := by decide +kernel
@[simp] theorem isTyS_si : isTyS "str" "int" = false := by decide +kernel
@[simp] theorem whole_int (i : Int) (S : Sto) : m_is_whole [.int i] S = .ok (.bl true) S := by
  unfold m_is_whole b_is_whole
  simp
@[simp] theorem number_int (i : Int) (S : Sto) : m_is_number [.int i] S = .ok (.bl (decide (0 ≤ i))) S := by
  unfold m_is_number b_is_number
  simp
theorem number_nat (n : Nat) (S : Sto) : m_is_number [.int (n : Int)] S = .ok (.bl true) S := by simp
@[simp] theorem need_length_nat {n : Nat} (h : 1 ≤ n) (S : Sto) : m_need_length [.int (n : Int)] S = .ok .non S := by
  unfold m_need_length b_need_length m_is_length b_is_length
  have h' : (1 : Int) ≤ n := by omega
  simp [h']
theorem need_new {z : Str} {ns : List Str} (oz : NameOk z) (on : ∀ y ∈ ns, NameOk y) (h : z ∉ ns) (S : Sto) : m_need_new_name [.str z, .lst (ns.map .str)] S = .ok .non S := by
  unfold m_need_new_name b_need_new_name
  simp [name_is oz, encStr.mem oz.str (fun y hy => (on y hy).str), h]
theorem noMs_strs (ns : List Str) : noMs (ns.map .str) = true := by
  induction ns with
  | nil => rfl
  | cons n r ih =>
    show (noM (.str n) && noMs (r.map .str)) = true
    rw [ih]
    rfl
theorem app_str {ns : List Str} {z : Str} (h : ns.length ≤ 1000) : mAppend (ns.map D.str) [.str z] = some ((ns ++ [z]).map D.str, .non) := by
  show (if _ then _ else _) = _
  rw [if_pos (by rw [List.length_map, szl]; omega)]
  simp
theorem take_next {α : Type} {xs : List α} {j : Nat} {x : α} (h : xs[j]? = some x) : xs.take (j + 1) = xs.take j ++ [x] := by
  rw [List.take_add_one, h]
  rfl
theorem not_before {xs : List Str} (nd : xs.Nodup) {j : Nat} {x : Str} (h : xs[j]? = some x) : x ∉ xs.take j := by
  intro hx
  obtain ⟨i, hi, e⟩ := List.mem_iff_getElem.mp hx
  rw [List.length_take] at hi
  rw [List.getElem_take] at e
  obtain ⟨hj, e2⟩ := List.getElem?_eq_some_iff.mp h
  exact List.pairwise_iff_getElem.mp nd i j (by omega) hj (by omega) (e.trans e2.symm)
theorem need_stocks_ok {ss : List (Str × Nat × Option Nat × Nat)} (ok : StocksOk ss) (S : Sto) : m_need_stocks [.tup (ss.map stockD)] S = .ok .non S := by
  unfold m_need_stocks b_need_stocks
  obtain ⟨l1, l2⟩ := ok.len
  have h1 : (1 : Int) ≤ ss.length := by omega
  have h2 : (ss.length : Int) ≤ 4 := by omega
  simp [h1, h2]
  apply post_ok
  refine then_post (P := fun o S' => S' = S ∧ ∃ ρ, o = .nx ρ) ?_ fun o S' ⟨e, ρ, e2⟩ => ?_
  · refine forL_map (P := fun j ρ S' => S' = S ∧ ∃ a b c d e, ρ = [some (.tup (ss.map stockD)), some (.lst (((ss.take j).map (·.1)).map .str)), a, b, c, d, e]) ss ⟨rfl, none, none, none, none, none, rfl⟩ (fun j x hj ρ S' ⟨e1, a, b, c, d, e, e2⟩ => ?_) fun ρ S' ⟨e1, _⟩ => ⟨e1, ρ, rfl⟩
    subst e1 e2
    obtain ⟨z, n, m, p⟩ := x
    have hx := List.mem_of_getElem? hj
    have hz : (ss.map (·.1))[j]? = some z := by rw [List.getElem?_map, hj]; rfl
    have oz := ok.nm.ok z (List.mem_of_getElem? hz)
    have hp := ok.pos _ hx
    have hn : z ∉ (ss.take j).map (·.1) := by
      rw [List.map_take]
      exact not_before ok.nm.nd hz
    have hon : ∀ y ∈ (ss.take j).map (·.1), NameOk y := fun y hy => ok.nm.ok y (by
      rw [List.map_take] at hy
      exact List.mem_of_mem_take hy)
    have hap : ((ss.take j).map (·.1)).length ≤ 1000 := by rw [List.length_map, List.length_take]; omega
    have hno : noMs [.str z, .lst (((ss.take j).map (·.1)).map .str)] = true := by
      show (noM (.str z) && (noMs (((ss.take j).map (·.1)).map .str) && true)) = true
      rw [noMs_strs]
      rfl
    have hap2 := app_str (z := z) hap
    have hnn := need_new oz hon hn []
    have etk : (ss.take (j + 1)).map (·.1) = (ss.take j).map (·.1) ++ [z] := by rw [take_next hj, List.map_append]; rfl
    rw [etk]
    generalize (ss.take j).map (·.1) = ns at *
    cases m with
    | none => simp [stockD, optD, hno, hnn, flatD, need_length_nat hp, hap2, stepP]
    | some m => simp [stockD, optD, hno, hnn, flatD, need_length_nat hp, hap2, stepP]
  · subst e e2
    simp
theorem need_pieces_ok {ss : List (Str × Nat × Nat)} (ok : PiecesOk ss) (S : Sto) : m_need_pieces [.tup (ss.map pieceD)] S = .ok .non S := by
  unfold m_need_pieces b_need_pieces
  obtain ⟨l1, l2⟩ := ok.len
  have h1 : (1 : Int) ≤ ss.length := by omega
  have h2 : (ss.length : Int) ≤ 6 := by omega
  simp [h1, h2]
  apply post_ok
  refine then_post (P := fun o S' => S' = S ∧ ∃ ρ, o = .nx ρ) ?_ fun o S' ⟨e, ρ, e2⟩ => ?_
  · refine forL_map (P := fun j ρ S' => S' = S ∧ ∃ a b c d, ρ = [some (.tup (ss.map pieceD)), some (.lst (((ss.take j).map (·.1)).map .str)), a, b, c, d]) ss ⟨rfl, none, none, none, none, rfl⟩ (fun j x hj ρ S' ⟨e1, a, b, c, d, e2⟩ => ?_) fun ρ S' ⟨e1, _⟩ => ⟨e1, ρ, rfl⟩
    subst e1 e2
    obtain ⟨z, n, p⟩ := x
    have hx := List.mem_of_getElem? hj
    have hz : (ss.map (·.1))[j]? = some z := by rw [List.getElem?_map, hj]; rfl
    have oz := ok.nm.ok z (List.mem_of_getElem? hz)
    have hp := ok.pos _ hx
    have hn : z ∉ (ss.take j).map (·.1) := by
      rw [List.map_take]
      exact not_before ok.nm.nd hz
    have hon : ∀ y ∈ (ss.take j).map (·.1), NameOk y := fun y hy => ok.nm.ok y (by
      rw [List.map_take] at hy
      exact List.mem_of_mem_take hy)
    have hap : ((ss.take j).map (·.1)).length ≤ 1000 := by rw [List.length_map, List.length_take]; omega
    have hno : noMs [.str z, .lst (((ss.take j).map (·.1)).map .str)] = true := by
      show (noM (.str z) && (noMs (((ss.take j).map (·.1)).map .str) && true)) = true
      rw [noMs_strs]
      rfl
    have hap2 := app_str (z := z) hap
    have hnn := need_new oz hon hn []
    have etk : (ss.take (j + 1)).map (·.1) = (ss.take j).map (·.1) ++ [z] := by rw [take_next hj, List.map_append]; rfl
    rw [etk]
    generalize (ss.take j).map (·.1) = ns at *
    simp [pieceD, hno, hnn, flatD, need_length_nat hp, hap2, stepP]
  · subst e e2
    simp
theorem put1 (a : D) : putD (Str.ofString "stocks") a [] = [(Str.ofString "stocks", a)] := rfl
theorem put2 (a b : D) : putD (Str.ofString "pieces") b [(Str.ofString "stocks", a)] = [(Str.ofString "stocks", a), (Str.ofString "pieces", b)] := by
  unfold putD
  rw [if_neg (by decide +kernel)]
  rfl
theorem put3 (a b c : D) : putD (Str.ofString "kerf") c [(Str.ofString "stocks", a), (Str.ofString "pieces", b)] = [(Str.ofString "stocks", a), (Str.ofString "pieces", b), (Str.ofString "kerf", c)] := by
  unfold putD
  rw [if_neg (by decide +kernel)]
  unfold putD
  rw [if_neg (by decide +kernel)]
  rfl
/-- Shop(stocks, pieces, kerf) -/
theorem init_ok (s : ShopT) (h1 : StocksOk s.stocks) (h2 : PiecesOk s.pieces) (S : Sto) : m_Shop_init [.tup (s.stocks.map stockD), .tup (s.pieces.map pieceD), .int (s.kerf : Int)] S = .ok s.o S := by
  unfold m_Shop_init b_Shop_init
  have c1 : (Str.ofString "Shop" : Str) ∈ at_stocks := by decide +kernel
  have c2 : (Str.ofString "Shop" : Str) ∈ at_pieces := by decide +kernel
  have c3 : (Str.ofString "Shop" : Str) ∈ at_kerf := by decide +kernel
  simp [need_stocks_ok h1, need_pieces_ok h2, c1, c2, c3, put1, put2, put3]
  rfl

/-! ### drawn shops of few pieces -/
structure ShopT.Few (s : ShopT) (bars most : Nat) : Prop where
  st : StocksOk s.stocks
  pc : PiecesOk s.pieces
  s3 : s.stocks.length ≤ bars
  pm : s.pieces.length ≤ most
  kf : s.kerf ≤ 2
  sl : ∀ x ∈ s.stocks, 5 ≤ x.2.1 ∧ x.2.1 ≤ 14 ∧ x.2.2.2 ≤ 5 ∧ ∀ m, x.2.2.1 = some m → m ≤ 4
  pl : ∀ x ∈ s.pieces, 2 ≤ x.2.1 ∧ x.2.1 ≤ 7 ∧ x.2.2 ≤ 3
theorem NamesOk.part {ns : List Str} (h : NamesOk ns) (o k : Nat) : NamesOk ((ns.drop o).take k) where
  nd := (h.nd.sublist (List.drop_sublist o ns)).sublist (List.take_sublist k _)
  ok := fun z hz => h.ok z (List.mem_of_mem_drop (List.mem_of_mem_take hz))
theorem names_part {α : Type} {f : α → Str} {ns : List Str} {ss : List α} {o k : Nat} (hl : ss.length = k) (hk : o + k ≤ ns.length) (h : ∀ (i : Nat) (s : α), ss[i]? = some s → ns[o + i]? = some (f s)) : ss.map f = (ns.drop o).take k := by
  apply List.ext_getElem?
  intro i
  rw [List.getElem?_map, List.getElem?_take, List.getElem?_drop]
  by_cases hi : i < k
  · rw [if_pos hi]
    have : i < ss.length := by omega
    rw [List.getElem?_eq_getElem this]
    exact (h i _ (List.getElem?_eq_getElem this)).symm
  · rw [if_neg hi, List.getElem?_eq_none (by omega)]
    rfl
theorem few_ok {R S : Sto} (h : PenS R S) {bars most : Nat} (hm : 1 ≤ most ∧ most ≤ 5) (hb : 1 ≤ bars ∧ bars ≤ 4) : (m__law_few_shop [.mref 0, .int (bars : Int), .int (most : Int)] S).post fun d S' => (∃ s : ShopT, d = s.t ∧ s.Few bars most) ∧ PenS R S' := by
  unfold m__law_few_shop b__law_few_shop
  simp
  rw [show (bars : Int) + (most : Int) = ((bars + most : Nat) : Int) by omega]
  refine then_post (names_ok h (many := bars + most) (by omega)) fun d S1 ⟨⟨ns, e, hl, on⟩, h⟩ => ?_
  subst e
  refine then_post (pick_lst h (by simp) (by decide)) fun d S2 ⟨hd, h⟩ => ?_
  obtain ⟨kf, rfl, hkf'⟩ : ∃ k : Nat, d = .int (k : Int) ∧ k ≤ 2 := by
    simp at hd
    rcases hd with rfl | rfl | rfl
    · exact ⟨0, rfl, by decide⟩
    · exact ⟨1, rfl, by decide⟩
    · exact ⟨2, rfl, by decide⟩
  clear hd
  refine then_post (draw_post h (by omega) (by omega)) fun d S4 ⟨⟨ks, e, hks⟩, h⟩ => ?_
  subst e
  simp
  rw [show (1 : Int) + (ks : Int) = ((1 + ks : Nat) : Int) by omega, rg1 (by omega)]
  simp
  refine then_post (compL_post (I := PenS R) (R := fun d y => ∃ (i : Nat) (s : Str × Nat × Option Nat × Nat), d = .int (i : Int) ∧ y = stockD s ∧ ns[0 + i]? = some s.1 ∧ 5 ≤ s.2.1 ∧ s.2.1 ≤ 14 ∧ s.2.2.2 ≤ 5 ∧ ∀ m, s.2.2.1 = some m → m ≤ 4) _ _ h fun d hd S h => ?_) fun ys S5 ⟨h, es⟩ => ?_
  · obtain ⟨i, hi, rfl⟩ := List.mem_map.mp hd
    have hi' : i < ns.length := by have := List.mem_range.mp hi; omega
    have hn : (ns.map D.str)[i]? = some (.str ns[i]) := by rw [List.getElem?_map, List.getElem?_eq_getElem hi']; rfl
    simp [d_ixt hn]
    refine then_post (draw_post h (by omega) (by omega)) fun d S4 ⟨⟨a, e, ha⟩, h⟩ => ?_
    subst e
    simp
    refine then_post (draw_post h (by omega) (by omega)) fun d S4 ⟨⟨b, e, hb⟩, h⟩ => ?_
    subst e
    refine then_post (pick_lst h (by simp) (by simp)) fun d S4 ⟨hd, h⟩ => ?_
    have hm : ∃ m : Option Nat, d = optD m ∧ ∀ x, m = some x → x ≤ 4 := by
      simp at hd
      rcases hd with rfl | rfl
      · exact ⟨none, rfl, fun x e => nomatch e⟩
      · exact ⟨some b, rfl, fun x e => by cases e; omega⟩
    obtain ⟨m, rfl, hm⟩ := hm
    refine then_post (draw_post h (by omega) (by omega)) fun d S4 ⟨⟨c, e, hc⟩, h⟩ => ?_
    subst e
    simp
    refine ⟨h, i, rfl, ns[i], 5 + a, m, c, ?_, ?_, by omega, by omega, by omega, hm⟩
    · simp [stockD]
    · exact List.getElem?_eq_getElem hi'
  · obtain ⟨ss, rfl, ess⟩ := Each.pick (enc := stockD) (W := fun d s => ∃ i : Nat, d = .int (i : Int) ∧ ns[0 + i]? = some s.1 ∧ 5 ≤ s.2.1 ∧ s.2.1 ≤ 14 ∧ s.2.2.2 ≤ 5 ∧ ∀ m, s.2.2.1 = some m → m ≤ 4) es fun a b ⟨i, s, h1, h2, h3⟩ => ⟨s, h2, i, h1, h3⟩
    have hsl : ss.length = 1 + ks := by
      have := ess.length
      simpa using this.symm
    have hsz : ss.length ≤ sizeLine := szk (by omega)
    simp [hsz]
    refine then_post (draw_post h (by omega) (by omega)) fun d S4 ⟨⟨kp, e, hkp⟩, h⟩ => ?_
    subst e
    simp
    rw [show (1 : Int) + (kp : Int) = ((1 + kp : Nat) : Int) by omega, rg1 (by omega)]
    simp
    refine then_post (compL_post (I := PenS R) (R := fun d y => ∃ (i : Nat) (s : Str × Nat × Nat), d = .int (i : Int) ∧ y = pieceD s ∧ ns[bars + i]? = some s.1 ∧ 2 ≤ s.2.1 ∧ s.2.1 ≤ 7 ∧ s.2.2 ≤ 3) _ _ h fun d hd S h => ?_) fun ys S5 ⟨h, es⟩ => ?_
    · obtain ⟨i, hi, rfl⟩ := List.mem_map.mp hd
      have hi' : bars + i < ns.length := by have := List.mem_range.mp hi; omega
      have hn : (ns.map D.str)[bars + i]? = some (.str ns[bars + i]) := by rw [List.getElem?_map, List.getElem?_eq_getElem hi']; rfl
      have hn' : dIx (.tup (ns.map D.str)) (.int ((bars : Int) + (i : Int))) = some (.str ns[bars + i]) := by
        rw [show (bars : Int) + (i : Int) = ((bars + i : Nat) : Int) by omega]
        exact d_ixt hn
      simp [hn']
      refine then_post (draw_post h (by omega) (by omega)) fun d S4 ⟨⟨a, e, ha⟩, h⟩ => ?_
      subst e
      simp
      refine then_post (draw_post h (by omega) (by omega)) fun d S4 ⟨⟨b, e, hb⟩, h⟩ => ?_
      subst e
      simp
      refine ⟨h, i, rfl, ns[bars + i], 2 + a, b, ?_, ?_, by omega, by omega, by omega⟩
      · simp [pieceD]
      · exact List.getElem?_eq_getElem hi'
    · obtain ⟨ps, rfl, eps⟩ := Each.pick (enc := pieceD) (W := fun d s => ∃ i : Nat, d = .int (i : Int) ∧ ns[bars + i]? = some s.1 ∧ 2 ≤ s.2.1 ∧ s.2.1 ≤ 7 ∧ s.2.2 ≤ 3) es fun a b ⟨i, s, h1, h2, h3⟩ => ⟨s, h2, i, h1, h3⟩
      have hpl : ps.length = 1 + kp := by
        have := eps.length
        simpa using this.symm
      have hpz : ps.length ≤ sizeLine := szk (by omega)
      simp [hpz]
      have ixof : ∀ {n i j : Nat}, ((List.range n).map fun (k : Nat) => D.int (k : Int))[i]? = some (.int (j : Int)) → j = i := fun {n i j} hh => by
        rw [List.getElem?_map] at hh
        cases q : (List.range n)[i]? with
        | none => rw [q] at hh; cases hh
        | some k =>
          rw [q] at hh
          obtain ⟨_, h2⟩ := List.getElem?_eq_some_iff.mp q
          rw [List.getElem_range] at h2
          have h3 : (D.int (k : Int)) = .int (j : Int) := by simpa using hh
          injection h3 with h4
          omega
      have ns1 : ss.map (·.1) = (ns.drop 0).take (1 + ks) := names_part hsl (by omega) fun i s hs => by
        obtain ⟨a, ha, j, e, hj, _⟩ := ess.getR i s hs
        subst e
        rw [ixof ha] at hj
        exact hj
      have ns2 : ps.map (·.1) = (ns.drop bars).take (1 + kp) := names_part hpl (by omega) fun i s hs => by
        obtain ⟨a, ha, j, e, hj, _⟩ := eps.getR i s hs
        subst e
        rw [ixof ha] at hj
        exact hj
      have sb : ∀ x ∈ ss, 5 ≤ x.2.1 ∧ x.2.1 ≤ 14 ∧ x.2.2.2 ≤ 5 ∧ ∀ m, x.2.2.1 = some m → m ≤ 4 := fun x hx => by
        obtain ⟨a, _, j, _, _, hh⟩ := ess.mem x hx
        exact hh
      have pb : ∀ x ∈ ps, 2 ≤ x.2.1 ∧ x.2.1 ≤ 7 ∧ x.2.2 ≤ 3 := fun x hx => by
        obtain ⟨a, _, j, _, _, hh⟩ := eps.mem x hx
        exact hh
      refine ⟨⟨⟨ss, ps, kf⟩, rfl, ⟨⟨⟨by show 1 ≤ ss.length; omega, by show ss.length ≤ 4; omega⟩, ?_, fun x hx => by have := sb x hx; omega⟩, ⟨⟨by show 1 ≤ ps.length; omega, by show ps.length ≤ 6; omega⟩, ?_, fun x hx => by have := pb x hx; omega⟩, by show ss.length ≤ bars; omega, by show ps.length ≤ most; omega, hkf', sb, pb⟩⟩, h⟩
      · show NamesOk (ss.map (·.1))
        rw [ns1]
        exact on.part 0 _
      · show NamesOk (ps.map (·.1))
        rw [ns2]
        exact on.part bars _
/-- the program's shop of it -/
theorem madeO_ok {s : ShopT} (h1 : StocksOk s.stocks) (h2 : PiecesOk s.pieces) (S : Sto) : m__law_made [s.t] S = .ok s.o S := by
  unfold m__law_made b__law_made
  simp [ShopT.t, init_ok s h1 h2]

/-! ### patterns, plainly -/
/-- how many rows of numbers have sizes up to s -/
def Rw : List Nat → Nat → Nat
  | [], _ => 1
  | w :: ws, s => if 0 < w ∧ w ≤ s then Rw ws s + Rw (w :: ws) (s - w) else Rw ws s
termination_by ws s => (ws.length, s)
theorem Rw_nil (s : Nat) : Rw [] s = 1 := by rw [Rw]
theorem Rw_ge {w : Nat} {ws : List Nat} {s : Nat} (h0 : 0 < w) (h : w ≤ s) : Rw (w :: ws) s = Rw ws s + Rw (w :: ws) (s - w) := by rw [Rw, if_pos ⟨h0, h⟩]
theorem Rw_lt {w : Nat} {ws : List Nat} {s : Nat} (h : s < w) : Rw (w :: ws) s = Rw ws s := by rw [Rw, if_neg (by omega)]
theorem Rw_snoc {w : Nat} (hw : 0 < w) : ∀ (ws : List Nat) (s : Nat), (∀ x ∈ ws, 0 < x) → Rw (ws ++ [w]) s = Rw ws s + (if w ≤ s then Rw (ws ++ [w]) (s - w) else 0)
  | [], s, _ => by
    show Rw [w] s = _
    by_cases h : w ≤ s
    · rw [Rw_ge hw h, if_pos h]
      rfl
    · rw [Rw_lt (by omega), if_neg h]
      rfl
  | a :: ws, s, ha => by
    have ha0 : 0 < a := ha a List.mem_cons_self
    have hws : ∀ x ∈ ws, 0 < x := fun x hx => ha x (List.mem_cons_of_mem _ hx)
    have i1 := Rw_snoc hw ws s hws
    show Rw (a :: (ws ++ [w])) s = Rw (a :: ws) s + (if w ≤ s then Rw (a :: (ws ++ [w])) (s - w) else 0)
    by_cases h : a ≤ s
    · rw [Rw_ge ha0 h, Rw_ge ha0 h, i1]
      have i2 := Rw_snoc hw (a :: ws) (s - a) ha
      have i2' : Rw (a :: (ws ++ [w])) (s - a) = Rw (a :: ws) (s - a) + (if w ≤ s - a then Rw (a :: (ws ++ [w])) (s - a - w) else 0) := i2
      rw [i2']
      by_cases hw2 : w ≤ s
      · rw [if_pos hw2, if_pos hw2]
        by_cases h3 : a ≤ s - w
        · rw [Rw_ge (s := s - w) ha0 h3, if_pos (show w ≤ s - a by omega), show s - a - w = s - w - a by omega]
          omega
        · rw [Rw_lt (s := s - w) (by omega), if_neg (show ¬ w ≤ s - a by omega)]
          omega
      · rw [if_neg hw2, if_neg hw2, if_neg (show ¬ w ≤ s - a by omega)]
        omega
    · rw [Rw_lt (ws := ws ++ [w]) (s := s) (by omega), Rw_lt (ws := ws) (s := s) (by omega), i1]
      by_cases hw2 : w ≤ s
      · rw [if_pos hw2, if_pos hw2, Rw_lt (s := s - w) (by omega)]
      · rw [if_neg hw2, if_neg hw2]
termination_by ws s => (ws.length, s)
theorem Rw_mono : ∀ (ws : List Nat) (s t : Nat), s ≤ t → Rw ws s ≤ Rw ws t
  | [], s, t, _ => by rw [Rw_nil, Rw_nil]; exact Nat.le_refl _
  | w :: ws, s, t, h => by
    have i1 := Rw_mono ws s t h
    by_cases h1 : 0 < w ∧ w ≤ s
    · rw [Rw_ge (s := s) h1.1 h1.2, Rw_ge (s := t) h1.1 (by omega)]
      have := Rw_mono (w :: ws) (s - w) (t - w) (by omega)
      omega
    · have e1 : Rw (w :: ws) s = Rw ws s := by rw [Rw, if_neg h1]
      rw [e1]
      by_cases h2 : 0 < w ∧ w ≤ t
      · rw [Rw_ge h2.1 h2.2]
        omega
      · have e2 : Rw (w :: ws) t = Rw ws t := by rw [Rw, if_neg h2]
        rw [e2]
        exact i1
termination_by ws s => (ws.length, s)
/-- narrower pieces, more of them, a longer bar: no fewer -/
theorem Rw_narrow {v : Nat} (hv : 0 < v) : ∀ (ws : List Nat) (n s t : Nat), (∀ w ∈ ws, v ≤ w) → ws.length ≤ n → s ≤ t → Rw ws s ≤ Rw (List.replicate n v) t
  | [], n, s, t, _, _, _ => by
    rw [Rw_nil]
    have : ∀ (n t : Nat), 1 ≤ Rw (List.replicate n v) t := fun n => by
      induction n with
      | zero => intro t; rw [List.replicate_zero, Rw_nil]; exact Nat.le_refl _
      | succ n ih =>
        intro t
        rw [List.replicate_succ]
        by_cases h : v ≤ t
        · rw [Rw_ge hv h]
          have := ih t
          omega
        · rw [Rw_lt (by omega)]
          exact ih t
    exact this n t
  | w :: ws, n, s, t, hw, hn, h => by
    cases n with
    | zero => simp at hn
    | succ n =>
      have hvw := hw w List.mem_cons_self
      have i1 := Rw_narrow hv ws n s t (fun x hx => hw x (List.mem_cons_of_mem _ hx)) (by simpa using hn) h
      rw [List.replicate_succ]
      by_cases h1 : w ≤ s
      · rw [Rw_ge (w := w) (s := s) (by omega) h1, Rw_ge (s := t) hv (by omega)]
        have i2 := Rw_narrow hv (w :: ws) (n + 1) (s - w) (t - v) hw hn (by omega)
        rw [List.replicate_succ] at i2
        omega
      · rw [Rw_lt (w := w) (by omega)]
        by_cases h2 : v ≤ t
        · rw [Rw_ge hv h2]
          omega
        · rw [Rw_lt (w := v) (by omega)]
          exact i1
termination_by ws _ s _ => (ws.length, s)
theorem Rw_take : ∀ (ws : List Nat) (i s : Nat), (∀ x ∈ ws, 0 < x) → Rw (ws.take i) s ≤ Rw ws s
  | [], i, s, _ => by rw [List.take_nil]; exact Nat.le_refl _
  | w :: ws, 0, s, h => by
    rw [List.take_zero, Rw_nil]
    have := Rw_take ws 0 s fun x hx => h x (List.mem_cons_of_mem _ hx)
    rw [List.take_zero, Rw_nil] at this
    rw [Rw]
    split
    · omega
    · exact this
  | w :: ws, i + 1, s, h => by
    have hw := h w List.mem_cons_self
    have i1 := Rw_take ws i s fun x hx => h x (List.mem_cons_of_mem _ hx)
    rw [List.take_succ_cons]
    by_cases h1 : w ≤ s
    · rw [Rw_ge (ws := ws.take i) (s := s) hw h1, Rw_ge (ws := ws) (s := s) hw h1]
      have i2 := Rw_take (w :: ws) (i + 1) (s - w) h
      rw [List.take_succ_cons] at i2
      omega
    · rw [Rw_lt (ws := ws.take i) (s := s) (by omega), Rw_lt (ws := ws) (s := s) (by omega)]
      exact i1
termination_by ws _ s => (ws.length, s)
/-- all rows of numbers within s, with what they leave -/
def rowsL : List Nat → Nat → List (List Nat × Nat)
  | [], s => [([], s)]
  | w :: ws, s => (List.range (s / w + 1)).flatMap fun k => (rowsL ws (s - k * w)).map fun q => (k :: q.1, q.2)
def rowsW (ws : List Nat) (s : Nat) : List (List Nat) := (rowsL ws s).map (·.1)
def extW (rs : List (List Nat × Nat)) (w : Nat) : List (List Nat × Nat) := rs.flatMap fun p => (List.range (p.2 / w + 1)).map fun k => (p.1 ++ [k], p.2 - k * w)
theorem ext_all : ∀ (ws : List Nat) (rs : List (List Nat × Nat)), ws.foldl extW rs = rs.flatMap fun p => (rowsL ws p.2).map fun q => (p.1 ++ q.1, q.2)
  | [], rs => by
    show rs = rs.flatMap fun p => [(p.1 ++ [], p.2)]
    induction rs with
    | nil => rfl
    | cons p rs ih => rw [List.flatMap_cons, ← ih, List.append_nil]; rfl
  | w :: ws, rs => by
    show ws.foldl extW (extW rs w) = _
    rw [ext_all ws (extW rs w)]
    unfold extW
    rw [List.flatMap_assoc]
    congr 1
    funext p
    show ((List.range (p.2 / w + 1)).map fun k => (p.1 ++ [k], p.2 - k * w)).flatMap _ = ((List.range (p.2 / w + 1)).flatMap fun k => (rowsL ws (p.2 - k * w)).map fun q => (k :: q.1, q.2)).map _
    rw [List.flatMap_map, List.map_flatMap]
    congr 1
    funext k
    simp
theorem ext_rows (ws : List Nat) (s : Nat) : ws.foldl extW [([], s)] = rowsL ws s := by
  rw [ext_all]
  simp
theorem rows_split (w : Nat) (hw : 0 < w) (ws : List Nat) (s : Nat) (h : w ≤ s) : (rowsL (w :: ws) s).length = (rowsL ws s).length + (rowsL (w :: ws) (s - w)).length := by
  have e : s / w + 1 = (s - w) / w + 1 + 1 := by
    rw [Nat.div_eq_sub_div hw h]
  show ((List.range (s / w + 1)).flatMap fun k => (rowsL ws (s - k * w)).map fun q => (k :: q.1, q.2)).length = _
  rw [e, List.range_succ_eq_map, List.flatMap_cons, List.length_append, List.length_map, Nat.zero_mul, Nat.sub_zero, List.flatMap_map]
  congr 1
  show _ = ((List.range ((s - w) / w + 1)).flatMap fun k => (rowsL ws (s - w - k * w)).map fun q => (k :: q.1, q.2)).length
  rw [List.length_flatMap, List.length_flatMap]
  congr 1
  apply List.map_congr_left
  intro k _
  rw [List.length_map, List.length_map, show s - w - k * w = s - (k + 1) * w by rw [Nat.add_mul]; omega]
theorem rows_small (w : Nat) (ws : List Nat) (s : Nat) (h : s < w) : (rowsL (w :: ws) s).length = (rowsL ws s).length := by
  show ((List.range (s / w + 1)).flatMap fun k => (rowsL ws (s - k * w)).map fun q => (k :: q.1, q.2)).length = _
  rw [Nat.div_eq_of_lt h]
  simp
theorem rows_len : ∀ (ws : List Nat) (s : Nat), (∀ x ∈ ws, 0 < x) → (rowsL ws s).length = Rw ws s
  | [], s, _ => by rw [Rw_nil]; rfl
  | w :: ws, s, h => by
    have hw := h w List.mem_cons_self
    have i1 := rows_len ws s fun x hx => h x (List.mem_cons_of_mem _ hx)
    by_cases h1 : w ≤ s
    · rw [Rw_ge hw h1, rows_split w hw ws s h1, i1, rows_len (w :: ws) (s - w) h]
    · rw [Rw_lt (by omega), rows_small w ws s (by omega), i1]
termination_by ws s => (ws.length, s)
/-- sizes -/
def sizeW : List Nat → List Nat → Nat
  | w :: ws, k :: r => k * w + sizeW ws r
  | _, _ => 0
theorem rows_mem : ∀ (ws : List Nat) (s : Nat) (r : List Nat) (l : Nat), (∀ x ∈ ws, 0 < x) → ((r, l) ∈ rowsL ws s ↔ r.length = ws.length ∧ sizeW ws r ≤ s ∧ l = s - sizeW ws r)
  | [], s, r, l, _ => by
    show (r, l) ∈ [(([] : List Nat), s)] ↔ _
    cases r with
    | nil => simp [sizeW]
    | cons a r => simp
  | w :: ws, s, r, l, h => by
    have hw := h w List.mem_cons_self
    show (r, l) ∈ (List.range (s / w + 1)).flatMap (fun k => (rowsL ws (s - k * w)).map fun q => (k :: q.1, q.2)) ↔ _
    rw [List.mem_flatMap]
    constructor
    · rintro ⟨k, hk, hm⟩
      obtain ⟨⟨r', l'⟩, hq, e⟩ := List.mem_map.mp hm
      obtain ⟨h1, h2, h3⟩ := (rows_mem ws (s - k * w) r' l' fun x hx => h x (List.mem_cons_of_mem _ hx)).mp hq
      have e1 : k :: r' = r := congrArg Prod.fst e
      have e2 : l' = l := congrArg Prod.snd e
      subst e1 e2
      have hk' : k * w ≤ s := by
        have := List.mem_range.mp hk
        exact (Nat.le_div_iff_mul_le hw).mp (by omega)
      refine ⟨by simp [h1], ?_, ?_⟩
      · show k * w + sizeW ws r' ≤ s
        omega
      · show l' = s - (k * w + sizeW ws r')
        omega
    · rintro ⟨h1, h2, h3⟩
      cases r with
      | nil => simp at h1
      | cons k r =>
        have h2' : k * w + sizeW ws r ≤ s := h2
        refine ⟨k, List.mem_range.mpr (Nat.lt_succ_of_le ((Nat.le_div_iff_mul_le hw).mpr (by omega))), List.mem_map.mpr ⟨(r, l), (rows_mem ws (s - k * w) r l fun x hx => h x (List.mem_cons_of_mem _ hx)).mpr ⟨by simpa using h1, by omega, ?_⟩, rfl⟩⟩
        have h3' : l = s - (k * w + sizeW ws r) := h3
        omega
theorem rowsW_mem {ws : List Nat} {s : Nat} {r : List Nat} (h : ∀ x ∈ ws, 0 < x) : r ∈ rowsW ws s ↔ r.length = ws.length ∧ sizeW ws r ≤ s := by
  unfold rowsW
  rw [List.mem_map]
  constructor
  · rintro ⟨⟨r', l⟩, hm, e⟩
    obtain ⟨h1, h2, _⟩ := (rows_mem ws s r' l h).mp hm
    have e1 : r' = r := e
    subst e1
    exact ⟨h1, h2⟩
  · rintro ⟨h1, h2⟩
    exact ⟨(r, s - sizeW ws r), (rows_mem ws s r _ h).mpr ⟨h1, h2, rfl⟩, rfl⟩
/-- they stand in order, each once -/
theorem rowsW_sorted : ∀ (ws : List Nat) (s : Nat), (rowsW ws s).Pairwise (· < ·)
  | [], s => by
    show [([] : List Nat)].Pairwise (· < ·)
    simp
  | w :: ws, s => by
    have e : rowsW (w :: ws) s = (List.range (s / w + 1)).flatMap fun k => (rowsW ws (s - k * w)).map fun q => k :: q := by
      show ((List.range (s / w + 1)).flatMap fun k => (rowsL ws (s - k * w)).map fun q => (k :: q.1, q.2)).map (·.1) = _
      rw [List.map_flatMap]
      congr 1
      funext k
      unfold rowsW
      rw [List.map_map, List.map_map]
      rfl
    rw [e, List.pairwise_flatMap]
    refine ⟨fun k _ => ?_, ?_⟩
    · rw [List.pairwise_map]
      refine List.Pairwise.imp ?_ (rowsW_sorted ws (s - k * w))
      intro a b h
      exact List.Lex.cons h
    · refine List.Pairwise.imp ?_ List.pairwise_lt_range
      intro a b h x hx y hy
      obtain ⟨p, _, rfl⟩ := List.mem_map.mp hx
      obtain ⟨q, _, rfl⟩ := List.mem_map.mp hy
      exact List.Lex.rel h
/-- the same with fuel: it runs -/
def Rf : Nat → List Nat → Nat → Nat
  | 0, _, _ => 0
  | _ + 1, [], _ => 1
  | f + 1, w :: ws, s => if 0 < w ∧ w ≤ s then Rf f ws s + Rf f (w :: ws) (s - w) else Rf f ws s
theorem Rf_eq : ∀ (f : Nat) (ws : List Nat) (s : Nat), ws.length + s < f → Rf f ws s = Rw ws s
  | 0, _, _, h => absurd h (Nat.not_lt_zero _)
  | f + 1, [], s, _ => by rw [Rw_nil]; rfl
  | f + 1, w :: ws, s, h => by
    rw [List.length_cons] at h
    show (if 0 < w ∧ w ≤ s then Rf f ws s + Rf f (w :: ws) (s - w) else Rf f ws s) = _
    rw [Rw, Rf_eq f ws s (by omega)]
    by_cases c : 0 < w ∧ w ≤ s
    · rw [if_pos c, if_pos c, Rf_eq f (w :: ws) (s - w) (by rw [List.length_cons]; omega)]
    · rw [if_neg c, if_neg c]
theorem Rw3 : Rw (List.replicate 3 3) 31 ≤ 3000 := by
  rw [← Rf_eq 40 _ _ (by decide)]
  decide +kernel
theorem Rw4 : Rw (List.replicate 4 3) 40 ≤ 3000 := by
  rw [← Rf_eq 50 _ _ (by decide)]
  decide +kernel

def ShopT.ws (s : ShopT) : List Nat := s.pieces.map fun p => p.2.1 + s.kerf
theorem ws_len (s : ShopT) : s.ws.length = s.pieces.length := by simp [ShopT.ws]
theorem ws_pos {s : ShopT} (h : PiecesOk s.pieces) : ∀ w ∈ s.ws, 0 < w := fun w hw => by
  obtain ⟨p, hp, rfl⟩ := List.mem_map.mp hw
  have := h.pos p hp
  omega
theorem piece_at {s : ShopT} {i : Nat} {p : Str × Nat × Nat} (h : s.pieces[i]? = some p) : dIx (.tup (s.pieces.map pieceD)) (.int (i : Int)) = some (pieceD p) := d_ixt (by rw [List.getElem?_map, h]; rfl)
theorem stock_at {s : ShopT} {i : Nat} {p : Str × Nat × Option Nat × Nat} (h : s.stocks[i]? = some p) : dIx (.tup (s.stocks.map stockD)) (.int (i : Int)) = some (stockD p) := d_ixt (by rw [List.getElem?_map, h]; rfl)
theorem width_ok (s : ShopT) {i w : Nat} (h : s.ws[i]? = some w) (S : Sto) : m_width_by [s.o, .int (i : Int)] S = .ok (.int (w : Int)) S := by
  unfold ShopT.ws at h
  rw [List.getElem?_map] at h
  cases q : s.pieces[i]? with
  | none => rw [q] at h; cases h
  | some p =>
    rw [q] at h
    cases h
    unfold m_width_by b_width_by
    simp [ShopT.o, piece_at q, pieceD]
def rowD (p : List Nat × Nat) : D := .tup [natT p.1, .int (p.2 : Int)]
theorem rw_fold (f : List (List Nat × Nat) → Nat → List (List Nat × Nat)) (ws : List Nat) (b : List (List Nat × Nat)) (i w : Nat) (h : ws[i]? = some w) : (ws.take (i + 1)).foldl f b = f ((ws.take i).foldl f b) w := by
  rw [take_next h, List.foldl_append]
  rfl
theorem fdiv_nat {l w : Nat} (h0 : 0 < w) (h : w ≤ 1000000) : dFdiv (.int (l : Int)) (.int (w : Int)) = some (.int ((l / w : Nat) : Int)) := by
  rw [fdiv_int _ _ (by omega) (by omega), Int.fdiv_eq_ediv_of_nonneg _ (by omega)]
  rfl
theorem mul_nat {k w : Nat} (h : w ≤ 1000000) : dMulA (.int (k : Int)) (.int (w : Int)) = some (.int ((k : Int) * (w : Int))) := mul_lit _ _ (by omega)
theorem ext_all1 (xs ys : List D) (h : xs.length + ys.length ≤ sizeLine) : mExtend xs [.lst ys] = some (xs ++ ys, .non) := if_pos h
theorem extW_take {rs : List (List Nat × Nat)} {w i : Nat} {p : List Nat × Nat} (h : rs[i]? = some p) : extW (rs.take (i + 1)) w = extW (rs.take i) w ++ (List.range (p.2 / w + 1)).map fun k => (p.1 ++ [k], p.2 - k * w) := by
  rw [take_next h]
  unfold extW
  rw [List.flatMap_append]
  simp
theorem extW_le {rs : List (List Nat × Nat)} {w i : Nat} : (extW (rs.take i) w).length ≤ (extW rs w).length := by
  have : extW rs w = extW (rs.take i) w ++ extW (rs.drop i) w := by
    unfold extW
    rw [← List.flatMap_append, List.take_append_drop]
  rw [this, List.length_append]
  omega
/-! ### counted -/
def tabD (n : Nat) (f : Nat → Nat) : D := .lst ((List.range n).map fun k => .int (f k : Int))
theorem tab_get {n j : Nat} (f : Nat → Nat) (h : j < n) : dIx (tabD n f) (.int (j : Int)) = some (.int (f j : Int)) := d_ixl (by rw [List.getElem?_map, List.getElem?_range h]; rfl)
theorem tab_set {n j v : Nat} (f : Nat → Nat) : ((List.range n).map fun k => D.int (f k : Int)).set j (.int (v : Int)) = (List.range n).map fun k => D.int ((if k = j then v else f k : Nat) : Int) := by
  apply List.ext_getElem?
  intro i
  rw [List.getElem?_set, List.getElem?_map, List.getElem?_map]
  by_cases hi : i < n
  · rw [List.getElem?_range hi]
    by_cases h : j = i
    · subst h
      simp [hi]
    · have h2 : ¬ i = j := fun e => h e.symm
      simp [h, h2]
  · rw [List.getElem?_eq_none (show (List.range n).length ≤ i by simp; omega)]
    simp
    omega
theorem tab_one (n : Nat) (v : Nat) (h : n ≤ 10000000) : dRepF (.lst [.int (v : Int)]) (.int (n : Int)) = some (tabD n fun _ => v) := by
  show (if rpOk 1 (n : Int) then some (D.lst (List.replicate (n : Int).toNat [D.int (v : Int)]).flatten) else none) = _
  rw [if_pos (rpOk_of (by omega) (by rw [szl]; omega))]
  congr 2
  rw [Int.toNat_natCast, show (fun k => D.int (((fun _ => v) k : Nat) : Int)) = Function.const Nat (D.int (v : Int)) from rfl, List.map_const, List.length_range]
  induction n with
  | zero => rfl
  | succ n ih => rw [List.replicate_succ, List.flatten_cons, ih (by omega), List.replicate_succ]; rfl
theorem ixN_nat {n j : Nat} (h : j < n) : ixN n (j : Int) = some j := by
  unfold ixN
  rw [if_pos (by omega), if_pos (by omega)]
  simp
theorem tab_put {n j v : Nat} {f : Nat → Nat} (h : j < n) {i : Nat} {ρ : DEnv} {S : Sto} : setIxD i ρ (.int (v : Int)) (.int (j : Int)) S (some (some (tabD n f))) = .ok (.nx (ρ.set i (some (tabD n fun k => if k = j then v else f k)))) S := by
  unfold tabD
  rw [setIxD_lst, List.length_map, List.length_range, ixN_nat h]
  simp only [optR_some, Res.then_ok]
  rw [tab_set]
theorem tab_tup {n : Nat} {f g : Nat → Nat} (h : ∀ k, k < n → f k = g k) : tabD n f = tabD n g := by
  unfold tabD
  congr 1
  apply List.map_congr_left
  intro k hk
  rw [h k (List.mem_range.mp hk)]
@[simp] theorem vElR_tab (n : Nat) (f : Nat → Nat) (S : Sto) : vElR (some (some (tabD n f))) S = .ok (tabD n f) S := rfl
/-! ### rows of numbers -/
theorem intsD_nat (r : List Nat) : intsD (r.map fun (n : Nat) => D.int (n : Int)) = some (r.map fun (n : Nat) => (n : Int)) := by
  rw [show (r.map fun (n : Nat) => D.int (n : Int)) = (r.map fun (n : Nat) => (n : Int)).map D.int by simp, intsD_map]
theorem sum_nat : ∀ r : List Nat, (r.map fun (n : Nat) => (n : Int)).sum = ((r.sum : Nat) : Int)
  | [] => rfl
  | n :: r => by
    rw [List.map_cons, List.sum_cons, sum_nat r, List.sum_cons]
    omega
theorem blsD_true {α : Type} (r : List α) : dAll [.lst (r.map fun _ => D.bl true)] = some (.bl true) := by
  show (blsD (r.map fun _ => D.bl true)).map (fun ns => D.bl (ns.all id)) = _
  rw [show (r.map fun _ => D.bl true) = (r.map fun _ => true).map D.bl by simp, blsD_map]
  simp
theorem sizeW_sum : ∀ (ws r : List Nat), r.length = ws.length → ((List.range r.length).map fun k => r.getD k 0 * ws.getD k 0).sum = sizeW ws r
  | [], [], _ => rfl
  | w :: ws, k :: r, h => by
    rw [List.length_cons, List.range_succ_eq_map, List.map_cons, List.sum_cons, List.map_map]
    show k * w + ((List.range r.length).map fun i => r.getD i 0 * ws.getD i 0).sum = k * w + sizeW ws r
    rw [sizeW_sum ws r (by simpa using h)]
/-! ### the best worth, plainly -/
def Bw : List Nat → List Nat → Nat → Nat
  | w :: ws, p :: ps, s => if 0 < w ∧ w ≤ s then max (Bw ws ps s) (Bw (w :: ws) (p :: ps) (s - w) + p) else Bw ws ps s
  | [], _, _ => 0
  | _ :: _, [], _ => 0
termination_by ws _ s => (ws.length, s)
def worthW : List Nat → List Nat → Nat
  | p :: ps, k :: r => p * k + worthW ps r
  | _, _ => 0
theorem Bw_nil (ps : List Nat) (s : Nat) : Bw [] ps s = 0 := by
  cases ps <;> rw [Bw]
theorem Bw_ge {w p : Nat} {ws ps : List Nat} {s : Nat} (h0 : 0 < w) (h : w ≤ s) : Bw (w :: ws) (p :: ps) s = max (Bw ws ps s) (Bw (w :: ws) (p :: ps) (s - w) + p) := by rw [Bw, if_pos ⟨h0, h⟩]
theorem Bw_lt {w p : Nat} {ws ps : List Nat} {s : Nat} (h : s < w) : Bw (w :: ws) (p :: ps) s = Bw ws ps s := by rw [Bw, if_neg (by omega)]
theorem Bw_ex {w p : Nat} (hw : 0 < w) (ws ps : List Nat) : ∀ s : Nat, ∃ n, n * w ≤ s ∧ Bw (w :: ws) (p :: ps) s = Bw ws ps (s - n * w) + n * p := by
  intro s
  induction s using Nat.strongRecOn with
  | ind s ih =>
    by_cases h : w ≤ s
    · rw [Bw_ge hw h]
      by_cases h2 : Bw (w :: ws) (p :: ps) (s - w) + p ≤ Bw ws ps s
      · exact ⟨0, by omega, by rw [Nat.max_eq_left h2]; simp⟩
      · obtain ⟨n, h3, h4⟩ := ih (s - w) (by omega)
        refine ⟨n + 1, by rw [Nat.add_mul]; omega, ?_⟩
        rw [Nat.max_eq_right (by omega), h4, Nat.add_mul, Nat.add_mul, show s - w - n * w = s - (n * w + 1 * w) by omega]
        omega
    · exact ⟨0, by omega, by rw [Bw_lt (by omega)]; simp⟩
theorem Bw_use {w p : Nat} (hw : 0 < w) (ws ps : List Nat) : ∀ (n s : Nat), n * w ≤ s → Bw ws ps (s - n * w) + n * p ≤ Bw (w :: ws) (p :: ps) s
  | 0, s, _ => by
    simp
    by_cases h : w ≤ s
    · rw [Bw_ge hw h]
      exact Nat.le_max_left _ _
    · rw [Bw_lt (by omega)]
      exact Nat.le_refl _
  | n + 1, s, h => by
    rw [Nat.add_mul] at h
    have i := Bw_use hw ws ps n (s - w) (p := p) (by omega)
    rw [Bw_ge hw (by omega), Nat.add_mul, Nat.add_mul, show s - (n * w + 1 * w) = s - w - n * w by omega]
    have := Nat.le_max_right (Bw ws ps s) (Bw (w :: ws) (p :: ps) (s - w) + p)
    omega
theorem Bw_ub : ∀ (ws ps r : List Nat) (s : Nat), (∀ x ∈ ws, 0 < x) → r.length = ws.length → ps.length = ws.length → sizeW ws r ≤ s → worthW ps r ≤ Bw ws ps s
  | [], [], [], s, _, _, _, _ => Nat.zero_le _
  | w :: ws, p :: ps, k :: r, s, hw, hr, hp, h => by
    have h' : k * w + sizeW ws r ≤ s := h
    have i := Bw_ub ws ps r (s - k * w) (fun x hx => hw x (List.mem_cons_of_mem _ hx)) (by simpa using hr) (by simpa using hp) (by omega)
    have j := Bw_use (hw w List.mem_cons_self) ws ps k s (p := p) (by omega)
    show p * k + worthW ps r ≤ _
    rw [Nat.mul_comm p k]
    omega
theorem Bw_at : ∀ (ws ps : List Nat) (s : Nat), (∀ x ∈ ws, 0 < x) → ps.length = ws.length → ∃ r : List Nat, r.length = ws.length ∧ sizeW ws r ≤ s ∧ worthW ps r = Bw ws ps s
  | [], ps, s, _, _ => ⟨[], rfl, Nat.zero_le _, by rw [Bw_nil]; cases ps <;> rfl⟩
  | w :: ws, [], s, _, h => by simp at h
  | w :: ws, p :: ps, s, hw, hp => by
    obtain ⟨n, h1, h2⟩ := Bw_ex (p := p) (hw w List.mem_cons_self) ws ps s
    obtain ⟨r, h3, h4, h5⟩ := Bw_at ws ps (s - n * w) (fun x hx => hw x (List.mem_cons_of_mem _ hx)) (by simpa using hp)
    refine ⟨n :: r, by simp [h3], ?_, ?_⟩
    · show n * w + sizeW ws r ≤ s
      omega
    · show p * n + worthW ps r = _
      rw [h2, h5, Nat.mul_comm p n]
      omega
theorem Bw_mono (ws ps : List Nat) {s t : Nat} (hw : ∀ x ∈ ws, 0 < x) (hp : ps.length = ws.length) (h : s ≤ t) : Bw ws ps s ≤ Bw ws ps t := by
  obtain ⟨r, h1, h2, h3⟩ := Bw_at ws ps s hw hp
  rw [← h3]
  exact Bw_ub ws ps r t hw h1 hp (by omega)
/-- a bound: all widths at least 1 -/
theorem Bw_le {m : Nat} : ∀ (ws ps : List Nat) (s : Nat), (∀ x ∈ ws, 0 < x) → (∀ p ∈ ps, p ≤ m) → ps.length = ws.length → Bw ws ps s ≤ s * m
  | [], ps, s, _, _, _ => by rw [Bw_nil]; exact Nat.zero_le _
  | w :: ws, [], s, _, _, h => by simp at h
  | w :: ws, p :: ps, s, hw, hp, hl => by
    have hw0 := hw w List.mem_cons_self
    have i := Bw_le ws ps s (fun x hx => hw x (List.mem_cons_of_mem _ hx)) (fun x hx => hp x (List.mem_cons_of_mem _ hx)) (by simpa using hl)
    by_cases h : w ≤ s
    · rw [Bw_ge hw0 h]
      have j := Bw_le (w :: ws) (p :: ps) (s - w) hw hp hl
      have hpm := hp p List.mem_cons_self
      have e : (s - w) * m + m ≤ s * m := by
        have : (s - w + 1) * m ≤ s * m := Nat.mul_le_mul_right m (by omega)
        rw [Nat.add_mul] at this
        omega
      exact Nat.max_le.mpr ⟨i, by omega⟩
    · rw [Bw_lt (by omega)]
      exact i
termination_by ws _ s => (ws.length, s)

/-! ### a piece more -/
theorem sizeW_set : ∀ (ws r : List Nat) (i k w m : Nat), r[i]? = some k → ws[i]? = some w → sizeW ws (r.set i m) + k * w = sizeW ws r + m * w
  | w0 :: ws, k0 :: r, 0, k, w, m, h1, h2 => by
    simp at h1 h2
    subst h1 h2
    show m * w0 + sizeW ws r + k0 * w0 = k0 * w0 + sizeW ws r + m * w0
    omega
  | w0 :: ws, k0 :: r, i + 1, k, w, m, h1, h2 => by
    have := sizeW_set ws r i k w m (by simpa using h1) (by simpa using h2)
    show k0 * w0 + sizeW ws (r.set i m) + k * w = k0 * w0 + sizeW ws r + m * w
    omega
  | [], _, i, k, w, m, _, h2 => by simp at h2
  | _ :: _, [], i, k, w, m, h1, _ => by simp at h1
theorem worthW_set : ∀ (ws r : List Nat) (i k w m : Nat), r[i]? = some k → ws[i]? = some w → worthW ws (r.set i m) + w * k = worthW ws r + w * m
  | w0 :: ws, k0 :: r, 0, k, w, m, h1, h2 => by
    simp at h1 h2
    subst h1 h2
    show w0 * m + worthW ws r + w0 * k0 = w0 * k0 + worthW ws r + w0 * m
    omega
  | w0 :: ws, k0 :: r, i + 1, k, w, m, h1, h2 => by
    have := worthW_set ws r i k w m (by simpa using h1) (by simpa using h2)
    show w0 * k0 + worthW ws (r.set i m) + w * k = w0 * k0 + worthW ws r + w * m
    omega
  | [], _, i, k, w, m, _, h2 => by simp at h2
  | _ :: _, [], i, k, w, m, h1, _ => by simp at h1
theorem sizeW_zero : ∀ (ws : List Nat) (n : Nat), sizeW ws (List.replicate n 0) = 0
  | [], n => by cases n <;> rfl
  | w :: ws, 0 => rfl
  | w :: ws, n + 1 => by
    rw [List.replicate_succ]
    show 0 * w + sizeW ws (List.replicate n 0) = 0
    rw [sizeW_zero ws n]
    omega
theorem worthW_zero : ∀ (ws : List Nat) (n : Nat), worthW ws (List.replicate n 0) = 0
  | [], n => by cases n <;> rfl
  | w :: ws, 0 => rfl
  | w :: ws, n + 1 => by
    rw [List.replicate_succ]
    show w * 0 + worthW ws (List.replicate n 0) = 0
    rw [worthW_zero ws n]
    omega
theorem sizeW_ge {ws r : List Nat} {i k w : Nat} (h1 : r[i]? = some k) (h2 : ws[i]? = some w) (h3 : 0 < k) : w ≤ sizeW ws r := by
  have := sizeW_set ws r i k w 0 h1 h2
  have h4 : w ≤ k * w := Nat.le_mul_of_pos_left w h3
  omega
theorem row_zero {r : List Nat} (h : ∀ (i k : Nat), r[i]? = some k → k = 0) : r = List.replicate r.length 0 := by
  apply List.ext_getElem?
  intro i
  rw [List.getElem?_replicate]
  by_cases hi : i < r.length
  · rw [if_pos hi, List.getElem?_eq_getElem hi]
    rw [h i _ (List.getElem?_eq_getElem hi)]
  · rw [if_neg hi, List.getElem?_eq_none (by omega)]
theorem set_back {r : List Nat} {i k m : Nat} (h : r[i]? = some k) : (r.set i m).set i k = r := by
  rw [List.set_set]
  apply List.ext_getElem?
  intro j
  by_cases hj : i = j
  · subst hj
    rw [List.getElem?_set_self (List.getElem?_eq_some_iff.mp h).1, h]
  · rw [List.getElem?_set_ne hj]
/-- (0,) * n -/
theorem zero_row {n : Nat} (h : 1 ≤ n) (h2 : n ≤ 1000) : dMulA (.tup [.int 0]) (.int (n : Int)) = some (natT (List.replicate n 0)) := by
  have e : ∀ n : Nat, (List.replicate n [D.int 0]).flatten = (List.replicate n 0).map fun (n : Nat) => D.int (n : Int) := fun n => by
    induction n with
    | zero => rfl
    | succ n ih => rw [List.replicate_succ, List.flatten_cons, ih, List.replicate_succ]; rfl
  by_cases h1 : n = 1
  · subst h1
    simp [dMulA]
  · show (if (n : Int) = 1 then some (D.tup [.int 0]) else if ([D.int 0] ≠ [] ∧ 2 ≤ (n : Int) ∧ (n : Int) ≤ 1000 ∧ [D.int 0].length ≤ 1000) then some (D.tup (List.replicate (n : Int).toNat [D.int 0]).flatten) else none) = _
    rw [if_neg (by omega), if_pos ⟨by simp, by omega, by omega, by simp⟩, Int.toNat_natCast, e]

def lrowD (kf : Nat) (p : List Nat × Nat) : D := .tup [natT p.1, .int ((p.2 - kf : Nat) : Int)]
/-! ### sorted rows of numbers, each once -/
theorem cast_lt : ∀ a b : List Nat, ((a.map fun (n : Nat) => (n : Int)) < (b.map fun (n : Nat) => (n : Int))) ↔ a < b
  | [], [] => by simp
  | [], y :: ys => by simp
  | x :: xs, [] => by simp
  | x :: xs, y :: ys => by
    rw [List.map_cons, List.map_cons, List.cons_lt_cons_iff, List.cons_lt_cons_iff, cast_lt xs ys, Int.ofNat_lt, Int.ofNat_inj]
theorem natP_lt (a b : List Nat) : PySem.W.dataLt (natP a) (natP b) = decide (a < b) := by
  have e : ∀ r : List Nat, (r.map fun (n : Nat) => PyData.int (n : Int)) = (r.map fun (n : Nat) => (n : Int)).map PyData.int := fun r => by simp
  show PySem.W.rowLt (a.map fun (n : Nat) => PyData.int (n : Int)) (b.map fun (n : Nat) => PyData.int (n : Int)) = _
  rw [e, e, PySem.W.dataLt_ints]
  simp [cast_lt]
def leW (a b : List Nat) : Bool := !decide (b < a)
theorem natP_le : PySem.W.dataLe false natP = leW := by
  rw [PySem.W.dataLe_eq]
  funext a b
  show (!PySem.W.dataLt (natP b) (natP a)) = _
  rw [natP_lt]
  rfl
theorem sortOk_rows {rs : List (List Nat)} (h : ∀ r ∈ rs, r ≠ []) : sortOk (rs.map natP) = true := by
  have e : ∀ r : List Nat, (r.map fun (n : Nat) => PyData.int (n : Int)) = (r.map fun (n : Nat) => (n : Int)).map PyData.int := fun r => by simp
  unfold sortOk
  rw [Bool.and_eq_true, Bool.and_eq_true]
  refine ⟨⟨?_, ?_⟩, ?_⟩
  · rw [List.all_eq_true]
    intro a ha
    rw [List.all_eq_true]
    intro b hb
    obtain ⟨x, _, rfl⟩ := List.mem_map.mp ha
    obtain ⟨y, _, rfl⟩ := List.mem_map.mp hb
    rw [PySem.W.alike, e, e]
    exact PySem.W.alike_ints _ _
  · rw [Bool.or_eq_true]
    refine .inl ?_
    rw [List.all_eq_true]
    intro a ha
    obtain ⟨x, hx, rfl⟩ := List.mem_map.mp ha
    cases x with
    | nil => exact absurd rfl (h _ hx)
    | cons n r => rfl
  · rw [List.all_eq_true]
    intro a ha
    obtain ⟨x, hx, rfl⟩ := List.mem_map.mp ha
    have := encRow.dep x
    simp only [decide_eq_true_eq]
    omega
theorem sorted_rows {rs : List (List Nat)} (h : ∀ r ∈ rs, r ≠ []) : dSorted [.lst (rs.map natT)] = some (.lst ((rs.mergeSort leW).map natT)) := by
  show (pyAll (rs.map natT)).bind (fun ps => if sortOk ps then some (D.lst (sortD (rs.map natT) ps)) else none) = _
  rw [pyAll_map (p := natP) encRow.py rs]
  show (if sortOk (rs.map natP) = true then some (D.lst (sortD (rs.map natT) (rs.map natP))) else none) = _
  rw [if_pos (sortOk_rows h)]
  congr 2
  unfold sortD
  rw [show (rs.map natT).zip (rs.map natP) = rs.map fun r => (natT r, natP r) by
    clear h
    induction rs with
    | nil => rfl
    | cons r rs ih => rw [List.map_cons, List.map_cons, List.zip_cons_cons, ih, List.map_cons]]
  rw [← List.map_mergeSort (r := leW) (f := fun r : List Nat => (natT r, natP r)) (s := PySem.W.dataLe false (·.2)) (fun a _ b _ => by
    show leW a b = PySem.W.dataLe false natP a b
    rw [natP_le]), List.map_map]
  rfl
theorem leW_iff (a b : List Nat) : leW a b = true ↔ a ≤ b := by
  unfold leW
  simp
theorem leW_trans (a b c : List Nat) (h : leW a b = true) (h2 : leW b c = true) : leW a c = true := by
  rw [leW_iff] at *
  exact List.le_trans h h2
theorem leW_total (a b : List Nat) : (leW a b || leW b a) = true := by
  rw [Bool.or_eq_true, leW_iff, leW_iff]
  exact List.le_total a b
/-- the neighbours that are alike, left out -/
def dedAt (L : List (List Nat)) : List Nat := (List.range L.length).filter fun i => decide (i = 0) || decide (L.getD i [] ≠ L.getD (i - 1) [])
def dedW (L : List (List Nat)) : List (List Nat) := (dedAt L).map fun i => L.getD i []
theorem getD_eq {α : Type} {L : List α} {i : Nat} {d : α} (h : i < L.length) : L.getD i d = L[i] := by
  rw [List.getD_eq_getElem?_getD, List.getElem?_eq_getElem h]
  rfl
theorem ded_sorted {L : List (List Nat)} (h : L.Pairwise fun a b => leW a b = true) : (dedW L).Pairwise (· < ·) := by
  unfold dedW dedAt
  rw [List.pairwise_map, List.pairwise_filter]
  refine List.Pairwise.imp_of_mem ?_ List.pairwise_lt_range
  intro i j hi hj hlt _ hpj
  have hi' := List.mem_range.mp hi
  have hj' := List.mem_range.mp hj
  rw [getD_eq hi', getD_eq hj']
  rw [getD_eq hj', getD_eq (show j - 1 < L.length by omega)] at hpj
  have hne : L[j] ≠ L[j - 1] := by
    simp at hpj
    rcases hpj with z | z
    · omega
    · exact z
  have h1 : L[i] ≤ L[j - 1] := by
    by_cases e : i = j - 1
    · subst e
      exact List.le_refl _
    · exact (leW_iff _ _).mp (List.pairwise_iff_getElem.mp h i (j - 1) hi' (by omega) (by omega))
  have h2 : L[j - 1] ≤ L[j] := (leW_iff _ _).mp (List.pairwise_iff_getElem.mp h (j - 1) j (by omega) hj' (by omega))
  by_cases z : L[i] < L[j]
  · exact z
  · have h3 : L[j] ≤ L[i] := List.not_lt.mp z
    exact absurd (List.le_antisymm (List.le_trans h3 h1) h2) hne
theorem ded_mem {L : List (List Nat)} {x : List Nat} : x ∈ dedW L ↔ x ∈ L := by
  unfold dedW dedAt
  rw [List.mem_map]
  constructor
  · rintro ⟨i, hi, rfl⟩
    have := List.mem_range.mp (List.mem_filter.mp hi).1
    rw [getD_eq this]
    exact List.getElem_mem _
  · intro hx
    obtain ⟨i, hi, e⟩ := List.mem_iff_getElem.mp hx
    have go : ∀ i (hi : i < L.length), L[i] = x → ∃ i, i ∈ (List.range L.length).filter (fun i => decide (i = 0) || decide (L.getD i [] ≠ L.getD (i - 1) [])) ∧ L.getD i [] = x := by
      intro i
      induction i with
      | zero => exact fun hi e => ⟨0, List.mem_filter.mpr ⟨List.mem_range.mpr hi, rfl⟩, by rw [getD_eq hi, e]⟩
      | succ i ih =>
        intro hi e
        by_cases z : L[i] = x
        · exact ih (by omega) z
        · refine ⟨i + 1, List.mem_filter.mpr ⟨List.mem_range.mpr hi, ?_⟩, by rw [getD_eq hi, e]⟩
          rw [getD_eq hi, e, Nat.add_sub_cancel, getD_eq (show i < L.length by omega)]
          simp
          exact fun q => z q.symm
    exact go i hi e
theorem sorted_same : ∀ {l m : List (List Nat)}, l.Pairwise (· < ·) → m.Pairwise (· < ·) → (∀ x, x ∈ l ↔ x ∈ m) → l = m
  | [], [], _, _, _ => rfl
  | [], y :: m, _, _, h => by have := (h y).mpr List.mem_cons_self; cases this
  | x :: l, [], _, _, h => by have := (h x).mp List.mem_cons_self; cases this
  | x :: l, y :: m, h1, h2, h => by
    obtain ⟨a1, a2⟩ := List.pairwise_cons.mp h1
    obtain ⟨b1, b2⟩ := List.pairwise_cons.mp h2
    have exy : x = y := by
      rcases List.mem_cons.mp ((h x).mp List.mem_cons_self) with e | e
      · exact e
      · rcases List.mem_cons.mp ((h y).mpr List.mem_cons_self) with f | f
        · exact f.symm
        · exact absurd (List.lt_trans (a1 y f) (b1 x e)) (List.lt_irrefl x)
    subst exy
    congr 1
    refine sorted_same a2 b2 fun z => ⟨fun hz => ?_, fun hz => ?_⟩
    · rcases List.mem_cons.mp ((h z).mp (List.mem_cons_of_mem _ hz)) with e | e
      · subst e
        exact absurd (a1 z hz) (List.lt_irrefl z)
      · exact e
    · rcases List.mem_cons.mp ((h z).mpr (List.mem_cons_of_mem _ hz)) with e | e
      · subst e
        exact absurd (b1 z hz) (List.lt_irrefl z)
      · exact e
/-- what is sorted, each once, is told by its members -/
theorem uniq_rows {some rows : List (List Nat)} (h : rows.Pairwise (· < ·)) (hm : ∀ x, x ∈ some ↔ x ∈ rows) : dedW (some.mergeSort leW) = rows :=
  sorted_same (ded_sorted (List.pairwise_mergeSort leW_trans leW_total some)) h fun x => by
    rw [ded_mem, List.mem_mergeSort]
    exact hm x

theorem worth_size : ∀ (ws r : List Nat), worthW ws r = sizeW ws r
  | [], [] => rfl
  | [], _ :: _ => rfl
  | _ :: _, [] => rfl
  | w :: ws, k :: r => by
    show w * k + worthW ws r = k * w + sizeW ws r
    rw [worth_size ws r, Nat.mul_comm]

/-! ### _law_is of what is the same -/
mutual
/-- plain: None, truth values, ints, texts, tuples of such; at most so deep -/
def pl : Nat → D → Bool
  | _, .non => true
  | _, .bl _ => true
  | _, .int _ => true
  | _, .str x => PyData.strOk x
  | n + 1, .tup xs => pls n xs && decide (xs.length ≤ 100000)
  | _, _ => false
def pls : Nat → List D → Bool
  | _, [] => true
  | n, d :: ds => pl n d && pls n ds
end
theorem pls_mem {n : Nat} : ∀ {ds : List D}, pls n ds = true → ∀ d ∈ ds, pl n d = true
  | d :: ds, h, e, he => by
    have h' : (pl n d && pls n ds) = true := h
    rw [Bool.and_eq_true] at h'
    rcases List.mem_cons.mp he with rfl | he
    · exact h'.1
    · exact pls_mem h'.2 e he
theorem pl_nats (n : Nat) (r : List Nat) (h : r.length ≤ 100000) : pl (n + 1) (natT r) = true := by
  show (pls n (r.map fun (n : Nat) => D.int (n : Int)) && decide ((r.map fun (n : Nat) => D.int (n : Int)).length ≤ 100000)) = true
  rw [Bool.and_eq_true, decide_eq_true_eq, List.length_map]
  refine ⟨?_, h⟩
  clear h
  induction r with
  | nil => cases n <;> rfl
  | cons a r ih =>
    show (pl n (.int (a : Int)) && pls n (r.map fun (n : Nat) => D.int (n : Int))) = true
    rw [ih]
    cases n <;> rfl
theorem pl_rows (n : Nat) (L : List (List Nat)) (h : L.length ≤ 100000) (h2 : ∀ r ∈ L, r.length ≤ 100000) : pl (n + 2) (.tup (L.map natT)) = true := by
  show (pls (n + 1) (L.map natT) && decide ((L.map natT).length ≤ 100000)) = true
  rw [Bool.and_eq_true, decide_eq_true_eq, List.length_map]
  refine ⟨?_, h⟩
  clear h
  induction L with
  | nil => rfl
  | cons a r ih =>
    show (pl (n + 1) (natT a) && pls (n + 1) (r.map natT)) = true
    rw [ih fun x hx => h2 x (List.mem_cons_of_mem _ hx), pl_nats n a (h2 a List.mem_cons_self)]
    rfl
/-! ### any plain values -/
theorem pl_py : ∀ (n : Nat) (d : D), pl n d = true → ∃ x, d.py = some x ∧ x.canLay0 = true ∧ x.depth ≤ n := by
  intro n
  induction n with
  | zero =>
    intro d h
    cases d with
    | non => exact ⟨.none, rfl, by simp [PyData.canLay0], by simp [PyData.depth]⟩
    | bl b => exact ⟨.bool b, rfl, by simp [PyData.canLay0], by simp [PyData.depth]⟩
    | int i => exact ⟨.int i, rfl, by simp [PyData.canLay0], by simp [PyData.depth]⟩
    | str x => exact ⟨.str x, rfl, by rw [PyData.canLay0]; exact h, by simp [PyData.depth]⟩
    | _ => cases h
  | succ n ih =>
    intro d h
    cases d with
    | non => exact ⟨.none, rfl, by simp [PyData.canLay0], by simp [PyData.depth]⟩
    | bl b => exact ⟨.bool b, rfl, by simp [PyData.canLay0], by simp [PyData.depth]⟩
    | int i => exact ⟨.int i, rfl, by simp [PyData.canLay0], by simp [PyData.depth]⟩
    | str x => exact ⟨.str x, rfl, by rw [PyData.canLay0]; exact h, by simp [PyData.depth]⟩
    | tup xs =>
      have h' : (pls n xs && decide (xs.length ≤ 100000)) = true := h
      rw [Bool.and_eq_true] at h'
      have go : ∀ xs : List D, pls n xs = true → ∃ ys, pyAll xs = some ys ∧ PyData.canLayAll0 ys = true ∧ PyData.depthAll ys ≤ n := by
        intro xs
        induction xs with
        | nil => exact fun _ => ⟨[], rfl, by simp [PyData.canLayAll0], by simp [PyData.depthAll]⟩
        | cons d r ihl =>
          intro h
          have h2 : (pl n d && pls n r) = true := h
          rw [Bool.and_eq_true] at h2
          obtain ⟨x, e1, e2, e3⟩ := ih d h2.1
          obtain ⟨ys, f1, f2, f3⟩ := ihl h2.2
          refine ⟨x :: ys, ?_, ?_, ?_⟩
          · show (match d.py, pyAll r with
              | some x, some xs => some (x :: xs)
              | _, _ => none) = _
            rw [e1, f1]
          · rw [PyData.canLayAll0, e2, f2]; rfl
          · rw [PyData.depthAll]; omega
      obtain ⟨ys, f1, f2, f3⟩ := go xs h'.1
      refine ⟨.tuple ys, ?_, ?_, ?_⟩
      · show (pyAll xs).map PyData.tuple = _
        rw [f1]; rfl
      · rw [PyData.canLay0]; exact f2
      · rw [PyData.depth]; omega
    | _ => cases h
theorem pls_py (n : Nat) : ∀ xs : List D, pls n xs = true → ∃ ys, pyAll xs = some ys ∧ PyData.canLayAll0 ys = true ∧ PyData.depthAll ys ≤ n
  | [], _ => ⟨[], rfl, by simp [PyData.canLayAll0], by simp [PyData.depthAll]⟩
  | d :: r, h => by
    have h2 : (pl n d && pls n r) = true := h
    rw [Bool.and_eq_true] at h2
    obtain ⟨x, e1, e2, e3⟩ := pl_py n d h2.1
    obtain ⟨ys, f1, f2, f3⟩ := pls_py n r h2.2
    refine ⟨x :: ys, ?_, ?_, ?_⟩
    · show (match d.py, pyAll r with
        | some x, some xs => some (x :: xs)
        | _, _ => none) = _
      rw [e1, f1]
    · rw [PyData.canLayAll0, e2, f2]; rfl
    · rw [PyData.depthAll]; omega
theorem pyAll_len : ∀ {xs : List D} {ys : List PyData}, pyAll xs = some ys → ys.length = xs.length
  | [], ys, h => by cases (show some ([] : List PyData) = some ys from h); rfl
  | d :: r, ys, h => by
    have h' : (match d.py, pyAll r with
        | some x, some xs => some (x :: xs)
        | _, _ => none) = some ys := h
    cases e1 : d.py with
    | none => rw [e1] at h'; cases h'
    | some x => cases e2 : pyAll r with
      | none => rw [e1, e2] at h'; cases h'
      | some zs =>
        rw [e1, e2] at h'
        cases h'
        simp [pyAll_len e2]
theorem eqvAll_nil : ∀ ys : List PyData, PyData.eqvAll ys [] = ys.isEmpty
  | [] => by simp [PyData.eqvAll]
  | _ :: _ => by simp [PyData.eqvAll]
theorem sh_nilL : SeqAt.shaped (.list []) = true := by simp [SeqAt.shaped, PyData.canLay0, PyData.canLayAll0, PyData.depth, PyData.depthAll]
theorem sh_nilT : SeqAt.shaped (.tuple []) = true := by simp [SeqAt.shaped, PyData.canLay0, PyData.canLayAll0, PyData.depth, PyData.depthAll]
theorem cmp_nilL {n : Nat} {ds : List D} (hn : n ≤ 60) (h : pls n ds = true) (neg : Bool) : dEqv neg (.lst ds) (.lst []) = some (.bl (if neg then !ds.isEmpty else ds.isEmpty)) := by
  obtain ⟨ys, f1, f2, f3⟩ := pls_py n ds h
  have sh : SeqAt.shaped (.list ys) = true := by
    unfold SeqAt.shaped
    rw [PyData.canLay0, f2, Bool.true_and, PyData.depth]
    exact decide_eq_true (by omega)
  have e1 : D.py (.lst ds) = some (.list ys) := by
    show (pyAll ds).map PyData.list = _
    rw [f1]; rfl
  have e2 : D.py (.lst []) = some (.list []) := rfl
  unfold dEqv
  rw [e1, e2]
  show (if (SeqAt.shaped (.list ys) && SeqAt.shaped (.list [])) = true then _ else _) = _
  rw [sh, sh_nilL]
  have e3 : PyData.eqv (.list ys) (.list []) = ds.isEmpty := by
    rw [PyData.eqv, eqvAll_nil]
    have := pyAll_len f1
    cases ys <;> cases ds <;> simp_all
  simp only [Bool.and_self, if_true, e3]
theorem cmp_nilT {n : Nat} {ds : List D} (hn : n ≤ 60) (h : pls n ds = true) (neg : Bool) : dEqv neg (.tup ds) (.tup []) = some (.bl (if neg then !ds.isEmpty else ds.isEmpty)) := by
  obtain ⟨ys, f1, f2, f3⟩ := pls_py n ds h
  have sh : SeqAt.shaped (.tuple ys) = true := by
    unfold SeqAt.shaped
    rw [PyData.canLay0, f2, Bool.true_and, PyData.depth]
    exact decide_eq_true (by omega)
  have e1 : D.py (.tup ds) = some (.tuple ys) := by
    show (pyAll ds).map PyData.tuple = _
    rw [f1]; rfl
  have e2 : D.py (.tup []) = some (.tuple []) := rfl
  unfold dEqv
  rw [e1, e2]
  show (if (SeqAt.shaped (.tuple ys) && SeqAt.shaped (.tuple [])) = true then _ else _) = _
  rw [sh, sh_nilT]
  have e3 : PyData.eqv (.tuple ys) (.tuple []) = ds.isEmpty := by
    rw [PyData.eqv, eqvAll_nil]
    have := pyAll_len f1
    cases ys <;> cases ds <;> simp_all
  simp only [Bool.and_self, if_true, e3]
theorem pls_of {n : Nat} : ∀ {ds : List D}, (∀ d ∈ ds, pl n d = true) → pls n ds = true
  | [], _ => rfl
  | d :: r, h => by
    show (pl n d && pls n r) = true
    rw [h d List.mem_cons_self, pls_of fun x hx => h x (List.mem_cons_of_mem _ hx)]
    rfl
theorem pls_filter {n : Nat} {ds : List D} (h : pls n ds = true) (p : D → Bool) : pls n (ds.filter p) = true := pls_of fun d hd => pls_mem h d (List.mem_filter.mp hd).1
theorem pl_mono {m : Nat} : ∀ {n : Nat} {d : D}, pl n d = true → n ≤ m → pl m d = true := by
  intro n
  induction n generalizing m with
  | zero =>
    intro d h _
    cases d with
    | non => cases m <;> rfl
    | bl b => cases m <;> rfl
    | int i => cases m <;> rfl
    | str x => cases m <;> exact h
    | _ => cases h
  | succ n ih =>
    intro d h hm
    cases m with
    | zero => omega
    | succ m =>
      cases d with
      | non => rfl
      | bl b => rfl
      | int i => rfl
      | str x => exact h
      | tup xs =>
        have h' : (pls n xs && decide (xs.length ≤ 100000)) = true := h
        rw [Bool.and_eq_true] at h'
        show (pls m xs && decide (xs.length ≤ 100000)) = true
        rw [Bool.and_eq_true]
        exact ⟨pls_of fun d hd => ih (pls_mem h'.1 d hd) (by omega), h'.2⟩
      | _ => cases h
theorem pl_tup {n : Nat} {xs : List D} (h : pl (n + 1) (.tup xs) = true) : pls n xs = true ∧ xs.length ≤ 100000 := by
  have h' : (pls n xs && decide (xs.length ≤ 100000)) = true := h
  rw [Bool.and_eq_true, decide_eq_true_eq] at h'
  exact h'
theorem pl_mk {n : Nat} {xs : List D} (h : pls n xs = true) (h2 : xs.length ≤ 100000) : pl (n + 1) (.tup xs) = true := by
  show (pls n xs && decide (xs.length ≤ 100000)) = true
  rw [Bool.and_eq_true, decide_eq_true_eq]
  exact ⟨h, h2⟩
/-- numbers -/
def isNat : D → Bool
  | .int i => decide (0 ≤ i)
  | _ => false
def isInt : D → Bool
  | .int _ => true
  | _ => false
def isIdx (n : Nat) : D → Bool
  | .int i => decide (0 ≤ i) && decide (i < (n : Int))
  | _ => false
def natOf : D → Nat
  | .int i => i.toNat
  | _ => 0
def natsOf : D → List Nat
  | .tup xs => xs.map natOf
  | _ => []
def isNums (n : Nat) : D → Bool
  | .tup xs => decide (xs.length = n) && xs.all isNat
  | _ => false
theorem isNat_ex {d : D} (h : isNat d = true) : d = .int (natOf d : Int) := by
  cases d with
  | int i =>
    have h' : decide (0 ≤ i) = true := h
    rw [decide_eq_true_eq] at h'
    show D.int i = .int (i.toNat : Int)
    rw [Int.toNat_of_nonneg h']
  | _ => cases h
theorem isNums_ex {n : Nat} {d : D} (h : isNums n d = true) : d = natT (natsOf d) ∧ (natsOf d).length = n := by
  cases d with
  | tup xs =>
    have h' : (decide (xs.length = n) && xs.all isNat) = true := h
    rw [Bool.and_eq_true, decide_eq_true_eq] at h'
    refine ⟨?_, by show (xs.map natOf).length = n; rw [List.length_map]; exact h'.1⟩
    show D.tup xs = .tup ((xs.map natOf).map fun (n : Nat) => .int (n : Int))
    rw [List.map_map]
    congr 1
    have := h'.2
    rw [List.all_eq_true] at this
    clear h' h
    induction xs with
    | nil => rfl
    | cons x r ih =>
      rw [List.map_cons, ← ih fun y hy => this y (List.mem_cons_of_mem _ hy)]
      show x :: r = .int (natOf x : Int) :: r
      rw [← isNat_ex (this x List.mem_cons_self)]
  | _ => cases h
theorem isNums_nat (r : List Nat) : isNums r.length (natT r) = true := by
  show (decide ((r.map fun (n : Nat) => D.int (n : Int)).length = r.length) && (r.map fun (n : Nat) => D.int (n : Int)).all isNat) = true
  rw [List.length_map, decide_eq_true rfl, Bool.true_and, List.all_eq_true]
  intro x hx
  obtain ⟨n, _, rfl⟩ := List.mem_map.mp hx
  show decide (0 ≤ (n : Int)) = true
  simp
theorem natsOf_nat (r : List Nat) : natsOf (natT r) = r := by
  show (r.map fun (n : Nat) => D.int (n : Int)).map natOf = r
  rw [List.map_map]
  exact (List.map_congr_left fun n _ => by show ((n : Int)).toNat = n; simp).trans (List.map_id r)
theorem whole_pl {n : Nat} {d : D} (h : pl n d = true) (S : Sto) : m_is_whole [d] S = .ok (.bl (isInt d)) S := by
  unfold m_is_whole b_is_whole
  cases d with
  | non => simp -implicitDefEqProofs [-Int.natCast_add, isInt, isTyS]
  | bl b => simp -implicitDefEqProofs [-Int.natCast_add, isInt]
  | int i => simp -implicitDefEqProofs [-Int.natCast_add, isInt]
  | str x => simp -implicitDefEqProofs [-Int.natCast_add, isInt, isTyS]
  | tup xs => simp -implicitDefEqProofs [-Int.natCast_add, isInt, isTyS]
  | _ => cases n <;> cases h
theorem number_pl {n : Nat} {d : D} (h : pl n d = true) (S : Sto) : m_is_number [d] S = .ok (.bl (isNat d)) S := by
  unfold m_is_number b_is_number
  have := whole_pl h S
  cases d with
  | int i => simp -implicitDefEqProofs [-Int.natCast_add, isNat]
  | _ => simp -implicitDefEqProofs [-Int.natCast_add, this, isNat, isInt]
theorem index_pl {n : Nat} {d : D} (h : pl n d = true) (many : Nat) (S : Sto) : m_is_index [d, .int (many : Int)] S = .ok (.bl (isIdx many d)) S := by
  unfold m_is_index b_is_index
  have := whole_pl h S
  cases d with
  | int i =>
    by_cases q : 0 ≤ i
    · simp -implicitDefEqProofs [-Int.natCast_add, isIdx, q]
    · simp -implicitDefEqProofs [-Int.natCast_add, isIdx, q]
  | _ => simp -implicitDefEqProofs [-Int.natCast_add, this, isIdx, isInt]
theorem compL_self {f : D → M (Option D)} {g : D → D} {S : Sto} (xs : List D) (h : ∀ x ∈ xs, f x S = .ok (some (g x)) S) : compL f xs S = .ok (xs.map g) S := by
  have := compL_map (S := S) (f := f) (enc := fun x : D => x) (g := g) xs h
  simpa using this
theorem compL_selfF {f : D → M (Option D)} {g : D → D} {p : D → Bool} {S : Sto} (xs : List D) (h : ∀ x ∈ xs, f x S = .ok (if p x then some (g x) else none) S) : compL f xs S = .ok ((xs.filter p).map g) S := by
  have := compL_filter (S := S) (f := f) (enc := fun x : D => x) (g := g) (p := p) xs h
  simpa using this
theorem filter_emp {α : Type} (p : α → Bool) (xs : List α) : (xs.filter p).isEmpty = xs.all fun x => !p x := by
  induction xs with
  | nil => rfl
  | cons x r ih =>
    rw [List.filter_cons, List.all_cons]
    cases p x <;> simp [ih]
/-! ### gives -/
def sto (s : ShopT) (t : Nat) : Str × Nat × Option Nat × Nat := s.stocks.getD t ("", 0, none, 0)
theorem sto_at {s : ShopT} {t : Nat} (h : t < s.stocks.length) : s.stocks[t]? = some (sto s t) := by
  unfold sto
  rw [List.getD_eq_getElem?_getD, List.getElem?_eq_getElem h]
  rfl
/-- what all shops here have -/
structure Sh (s : ShopT) : Prop where
  st : StocksOk s.stocks
  pc : PiecesOk s.pieces
  p3 : s.pieces.length ≤ 3
  kf : s.kerf ≤ 2
  sl : ∀ x ∈ s.stocks, x.2.1 ≤ 15
  pl : ∀ x ∈ s.pieces, x.2.1 ≤ 8
theorem Sh.pos {s : ShopT} (h : Sh s) : ∀ w ∈ s.ws, 0 < w := ws_pos h.pc
theorem Sh.w6 {s : ShopT} (h : Sh s) : ∀ w ∈ s.ws, w ≤ 1000000 := fun w hw => by
  obtain ⟨p, hp, rfl⟩ := List.mem_map.mp hw
  have := h.pl p hp
  have := h.kf
  omega
theorem Rw3a : Rw (List.replicate 3 1) 17 ≤ 3000 := by
  rw [← Rf_eq 30 _ _ (by decide)]
  decide +kernel
theorem Sh.rw {s : ShopT} (h : Sh s) {t : Nat} (ht : t ≤ 17) : Rw s.ws t ≤ 3000 :=
  Nat.le_trans (Rw_narrow (v := 1) (by decide) s.ws 3 t 17 (fun w hw => h.pos w hw) (by rw [ws_len]; exact h.p3) ht) Rw3a
theorem Sh.rm {s : ShopT} (h : Sh s) {t : Nat} (ht : t < s.stocks.length) : (sto s t).2.1 + s.kerf ≤ 17 := by
  have := h.sl _ (List.mem_of_getElem? (sto_at ht))
  have := h.kf
  omega
abbrev Gv := Nat × List Nat
abbrev giveD (g : Gv) : D := .tup [.int (g.1 : Int), natT g.2]
abbrev giveP (g : Gv) : PyData := .tuple [.int (g.1 : Int), natP g.2]
structure GvOk (s : ShopT) (g : Gv) : Prop where
  st : g.1 < s.stocks.length
  ln : g.2.length = s.pieces.length
  nz : g.2.any (· != 0) = true
  fit : sizeW s.ws g.2 ≤ (sto s g.1).2.1 + s.kerf
def isGive (s : ShopT) : D → Bool
  | .tup [a, b] => isIdx s.stocks.length a && (isNums s.pieces.length b && ((natsOf b).any (· != 0) && decide (sizeW s.ws (natsOf b) ≤ (sto s (natOf a)).2.1 + s.kerf)))
  | _ => false
theorem isIdx_ex {n : Nat} {d : D} (h : isIdx n d = true) : d = .int (natOf d : Int) ∧ natOf d < n := by
  cases d with
  | int i =>
    have h' : (decide (0 ≤ i) && decide (i < (n : Int))) = true := h
    rw [Bool.and_eq_true, decide_eq_true_eq, decide_eq_true_eq] at h'
    refine ⟨?_, ?_⟩
    · show D.int i = .int (i.toNat : Int)
      rw [Int.toNat_of_nonneg h'.1]
    · show i.toNat < n
      omega
  | _ => cases h
theorem isGive_ex {s : ShopT} {d : D} (h : isGive s d = true) : ∃ g : Gv, d = giveD g ∧ GvOk s g := by
  unfold isGive at h
  split at h
  · rename_i a b
    rw [Bool.and_eq_true, Bool.and_eq_true, Bool.and_eq_true, decide_eq_true_eq] at h
    obtain ⟨e1, h1⟩ := isIdx_ex h.1
    obtain ⟨e2, h2⟩ := isNums_ex h.2.1
    refine ⟨(natOf a, natsOf b), ?_, h1, h2, h.2.2.1, h.2.2.2⟩
    rw [e1, e2]
    show _ = D.tup [.int ((natOf (.int (natOf a : Int)) : Nat) : Int), natT (natsOf (natT (natsOf b)))]
    rw [natsOf_nat]
    rfl
  · cases h
theorem isGive_of {s : ShopT} {g : Gv} (h : GvOk s g) : isGive s (giveD g) = true := by
  show (isIdx s.stocks.length (.int (g.1 : Int)) && (isNums s.pieces.length (natT g.2) && ((natsOf (natT g.2)).any (· != 0) && decide (sizeW s.ws (natsOf (natT g.2)) ≤ (sto s g.1).2.1 + s.kerf)))) = true
  rw [natsOf_nat, ← h.ln, isNums_nat, h.nz, decide_eq_true h.fit]
  show (decide (0 ≤ (g.1 : Int)) && decide ((g.1 : Int) < (s.stocks.length : Int)) && true) = true
  rw [decide_eq_true (by omega), decide_eq_true (by have := h.st; omega)]
  rfl
theorem anyA_nat (r : List Nat) : dAnyA [natT r] = some (.bl (r.any (· != 0))) := by
  show (intsD (r.map fun (n : Nat) => D.int (n : Int))).map (fun ns => D.bl (ns.any (· != 0))) = _
  rw [intsD_nat]
  show some (D.bl _) = _
  rw [List.any_map, show ((fun x : Int => x != 0) ∘ fun (n : Nat) => (n : Int)) = fun n => n != 0 from funext fun n => by
    by_cases h : n = 0
    · simp [h]
    · have : (n : Int) ≠ 0 := by omega
      exact (bne_iff_ne.mpr this).trans (bne_iff_ne.mpr h).symm]
theorem sum_natT (r : List Nat) : dSumA [natT r] = some (.int (r.sum : Int)) := by
  show (intsD (r.map fun (n : Nat) => D.int (n : Int))).map (fun ns => D.int ns.sum) = _
  rw [intsD_nat]
  show some (D.int _) = _
  rw [sum_nat]
theorem any_sum (r : List Nat) : r.any (· != 0) = decide (0 < r.sum) := by
  induction r with
  | nil => rfl
  | cons a r ih =>
    rw [List.any_cons, ih, List.sum_cons, Bool.eq_iff_iff, Bool.or_eq_true, decide_eq_true_eq, decide_eq_true_eq, bne_iff_ne]
    omega
theorem zip_nat {α : Type} (e : α → D) (r : List Nat) (xs : List α) : zipD (r.map fun (n : Nat) => D.int (n : Int)) (xs.map e) = (r.zip xs).map fun q => .tup [.int (q.1 : Int), e q.2] := by
  unfold zipD
  rw [List.zip_map, List.map_map]
  rfl
theorem sizeW_zip (s : ShopT) : ∀ (r : List Nat), ((r.zip s.pieces).map fun q => q.1 * (q.2.2.1 + s.kerf)).sum = sizeW s.ws r := by
  unfold ShopT.ws
  generalize s.pieces = ps
  induction ps with
  | nil => intro r; cases r <;> rfl
  | cons p ps ih =>
    intro r
    cases r with
    | nil => rfl
    | cons k r =>
      show k * (p.2.1 + s.kerf) + ((r.zip ps).map fun q => q.1 * (q.2.2.1 + s.kerf)).sum = k * (p.2.1 + s.kerf) + sizeW _ r
      rw [ih r]
theorem lsize_ok {s : ShopT} (hs : Sh s) (r : List Nat) (S : Sto) : m__law_size [s.t, natT r] S = .ok (.int (sizeW s.ws r : Int)) S := by
  have hp3 := hs.p3
  unfold m__law_size b__law_size
  have ht1 : dIx s.t (.int 1) = some (.tup (s.pieces.map pieceD)) := d_ix1 _ _ _
  have ht2 : dIx s.t (.int 2) = some (.int (s.kerf : Int)) := d_ix2 _ _ _ _
  simp -implicitDefEqProofs [-Int.natCast_add, ht1]
  rw [zip_nat, compL_map (g := fun q => D.int ((q.1 * (q.2.2.1 + s.kerf) : Nat) : Int)) _ (fun q hq => by
    have hm := (List.of_mem_zip hq).2
    have := hs.pl _ hm
    have hk := hs.kf
    have e1 : (q.2.2.1 : Int) + (s.kerf : Int) = ((q.2.2.1 + s.kerf : Nat) : Int) := by omega
    have e2 : dMulA (.int (q.1 : Int)) (.int ((q.2.2.1 + s.kerf : Nat) : Int)) = some (.int ((q.1 * (q.2.2.1 + s.kerf) : Nat) : Int)) := by
      rw [mul_nat (by omega), Int.natCast_mul]
    simp -implicitDefEqProofs [-Int.natCast_add, ht2, pieceD, e1, e2])]
  have hz : (r.zip s.pieces).length ≤ sizeLine := szk (by rw [List.length_zip]; omega)
  have e : ((r.zip s.pieces).map fun q => D.int ((q.1 * (q.2.2.1 + s.kerf) : Nat) : Int)) = ((r.zip s.pieces).map fun q => q.1 * (q.2.2.1 + s.kerf)).map fun (n : Nat) => .int (n : Int) := by simp
  have e3 := sum_natT ((r.zip s.pieces).map fun q => q.1 * (q.2.2.1 + s.kerf))
  rw [d_sumA_tup, ← e, sizeW_zip] at e3
  simp only [Res.then_ok, List.length_map, hz, if_true, d_sumA_lst, e3, optR_some, outE_rt]
theorem size_zero {s : ShopT} {r : List Nat} (h : r.sum = 0) : sizeW s.ws r = 0 := by
  have : r = List.replicate r.length 0 := by
    refine row_zero fun i k hk => ?_
    have hm := List.mem_of_getElem? hk
    clear hk
    induction r with
    | nil => cases hm
    | cons a r ih =>
      rw [List.sum_cons] at h
      rcases List.mem_cons.mp hm with e | hm
      · omega
      · exact ih (by omega) hm
  rw [this, sizeW_zero]
theorem lgives_ok {s : ShopT} (hs : Sh s) (len : Nat) (r : List Nat) (S : Sto) : m__law_gives [s.t, .int (len : Int), natT r] S = .ok (.bl (decide (sizeW s.ws r ≤ len + s.kerf))) S := by
  unfold m__law_gives b__law_gives
  have ht2 : dIx s.t (.int 2) = some (.int (s.kerf : Int)) := d_ix2 _ _ _ _
  have e1 := sum_natT r
  rw [d_sumA_tup] at e1
  have e2 : (len : Int) + (s.kerf : Int) = ((len + s.kerf : Nat) : Int) := by omega
  by_cases q : r.sum = 0
  · have hz := size_zero (s := s) q
    have : sizeW s.ws r ≤ len + s.kerf := by omega
    simp -implicitDefEqProofs [-Int.natCast_add, e1, q, this]
  · have q' : ¬ ((r.sum : Nat) : Int) = 0 := by omega
    simp -implicitDefEqProofs [-Int.natCast_add, e1, q', q, ht2, lsize_ok hs, e2]
/-! ### what beats what -/
def geAll (a b : List Nat) : Bool := (a.zip b).all fun q => decide (q.2 ≤ q.1)
def mayUse (s : ShopT) (a b : Nat) : Bool := (decide (a = b) || (sto s a).2.2.1.isNone) && decide ((sto s a).2.2.2 ≤ (sto s b).2.2.2)
def Bt (s : ShopT) (a b : Gv) : Bool := mayUse s a.1 b.1 && (geAll a.2 b.2 && (decide (a.2 ≠ b.2) || (decide ((sto s a.1).2.2.2 < (sto s b.1).2.2.2) || decide (a.1 < b.1))))
theorem optD_non (o : Option Nat) : dIsN true (optD o) .non = some (.bl (!o.isNone)) := by cases o <;> rfl
/-! ### sums of rows -/
def addV (a b : List Nat) : List Nat := (a.zip b).map fun q => q.1 + q.2
theorem addV_len {a b : List Nat} (h : a.length = b.length) : (addV a b).length = a.length := by
  unfold addV
  rw [List.length_map, List.length_zip]
  omega
/-- column by column -/
def colSum (m : Nat) (L : List (List Nat)) : List Nat := (List.range m).map fun k => (L.map fun r => r.getD k 0).sum
theorem colSum_nil (m : Nat) : colSum m [] = List.replicate m 0 := by
  unfold colSum
  apply List.ext_getElem?
  intro i
  rw [List.getElem?_map, List.getElem?_replicate]
  by_cases h : i < m
  · rw [List.getElem?_eq_getElem (by simpa using h), if_pos h]
    rfl
  · rw [List.getElem?_eq_none (by simpa using h), if_neg h]
    rfl
theorem colSum_snoc {m : Nat} (L : List (List Nat)) {r : List Nat} (h : r.length = m) : colSum m (L ++ [r]) = addV (colSum m L) r := by
  unfold colSum addV
  apply List.ext_getElem?
  intro i
  rw [List.getElem?_map, List.getElem?_map]
  by_cases hi : i < m
  · rw [List.getElem?_eq_getElem (by simpa using hi), List.getElem_range]
    have hz : ((List.range m).map fun k => (L.map fun r => r.getD k 0).sum).zip r = ((List.range m).map fun k => (L.map fun r => r.getD k 0).sum).zip r := rfl
    have h1 : (((List.range m).map fun k => (L.map fun r => r.getD k 0).sum).zip r)[i]? = some ((L.map fun r => r.getD i 0).sum, r.getD i 0) := by
      rw [List.getElem?_zip_eq_some]
      refine ⟨?_, ?_⟩
      · rw [List.getElem?_map, List.getElem?_eq_getElem (by simpa using hi), List.getElem_range]
        rfl
      · rw [List.getD_eq_getElem?_getD, List.getElem?_eq_getElem (by omega)]
        rfl
    rw [h1]
    simp
  · rw [List.getElem?_eq_none (by simpa using hi), List.getElem?_eq_none (by rw [List.length_zip, List.length_map, List.length_range]; omega)]
    rfl
theorem colSum_len (m : Nat) (L : List (List Nat)) : (colSum m L).length = m := by
  unfold colSum
  rw [List.length_map, List.length_range]
/-! ### dicts of rows -/
abbrev keyR (r : List Nat) : List Key := r.map fun (n : Nat) => (Sum.inl (n : Int) : Key)
theorem keyR_inj {a b : List Nat} (h : keyR a = keyR b) : a = b := by
  have := congrArg (List.map fun k : Key => match k with
    | .inl i => i.toNat
    | .inr _ => 0) h
  rw [List.map_map, List.map_map] at this
  have e : ((fun k : Key => match k with
    | .inl i => i.toNat
    | .inr _ => 0) ∘ fun (n : Nat) => (Sum.inl (n : Int) : Key)) = id := by
    funext n
    show ((n : Int)).toNat = n
    simp
  rw [e, List.map_id, List.map_id] at this
  exact this
theorem keys_natT (r : List Nat) : keysD (natT r) = some (keyR r) := by
  show keysL (r.map fun (n : Nat) => D.int (n : Int)) = _
  induction r with
  | nil => rfl
  | cons a r ih =>
    show (match keyD (.int (a : Int)), keysL (r.map fun (n : Nat) => D.int (n : Int)) with
      | some k, some ks => some (k :: ks)
      | _, _ => none) = _
    rw [ih]
    rfl
theorem keyT_R (r : List Nat) : keyT (keyR r) = natT r := by
  show D.tup ((r.map fun (n : Nat) => (Sum.inl (n : Int) : Key)).map kD) = _
  rw [List.map_map]
  rfl
abbrev Ent := List Nat × D
def kdsOf (L : List Ent) : List (List Key × D) := L.map fun q => (keyR q.1, q.2)
def putE (L : List Ent) (r : List Nat) (d : D) : List Ent := if r ∈ L.map (·.1) then L.map (fun q => if q.1 = r then (q.1, d) else q) else L ++ [(r, d)]
theorem any_keys (L : List Ent) (r : List Nat) : ((kdsOf L).any fun kv => decide (kv.1 = keyR r)) = decide (r ∈ L.map (·.1)) := by
  unfold kdsOf
  rw [List.any_map, Bool.eq_iff_iff, List.any_eq_true, decide_eq_true_eq, List.mem_map]
  constructor
  · rintro ⟨q, hq, h⟩
    exact ⟨q, hq, keyR_inj (of_decide_eq_true h)⟩
  · rintro ⟨q, hq, rfl⟩
    exact ⟨q, hq, decide_eq_true rfl⟩
theorem put_kds (L : List Ent) (r : List Nat) (d : D) : putKD (kdsOf L) (keyR r) d = kdsOf (putE L r d) := by
  unfold putKD putE
  rw [any_keys]
  by_cases h : r ∈ L.map (·.1)
  · rw [if_pos (decide_eq_true h), if_pos h]
    unfold kdsOf
    rw [List.map_map, List.map_map]
    refine List.map_congr_left fun q _ => ?_
    show (if keyR q.1 = keyR r then (keyR q.1, d) else (keyR q.1, q.2)) = _
    by_cases e : q.1 = r
    · have e2 : keyR q.1 = keyR r := by rw [e]
      rw [if_pos e2]
      show (keyR q.1, d) = ((fun q : Ent => (keyR q.1, q.2)) (if q.1 = r then (q.1, d) else q))
      rw [if_pos e]
    · rw [if_neg (fun z => e (keyR_inj z))]
      show _ = (keyR (if q.1 = r then (q.1, d) else q).1, (if q.1 = r then (q.1, d) else q).2)
      rw [if_neg e]
  · rw [if_neg (by simpa using h), if_neg h]
    unfold kdsOf
    rw [List.map_append]
    rfl
theorem val_kds (L : List Ent) (r : List Nat) : valK (kdsOf L) (keyR r) = (L.find? fun q => decide (q.1 = r)).map (·.2) := by
  unfold valK kdsOf
  rw [List.find?_map, Option.map_map]
  congr 1
  congr 1
  funext q
  show decide (keyR q.1 = keyR r) = decide (q.1 = r)
  exact decide_eq_decide.mpr ⟨keyR_inj, fun h => by rw [h]⟩
/-- every key once, every entry as it should be -/
structure EntOk (P : List Nat → D → Prop) (L : List Ent) : Prop where
  nd : (L.map (·.1)).Nodup
  all : ∀ q ∈ L, P q.1 q.2
theorem EntOk.nil {P : List Nat → D → Prop} : EntOk P [] := ⟨List.nodup_nil, fun q hq => (nomatch hq)⟩
theorem putE_keys (L : List Ent) (r : List Nat) (d : D) : (putE L r d).map (·.1) = if r ∈ L.map (·.1) then L.map (·.1) else L.map (·.1) ++ [r] := by
  unfold putE
  split
  · rw [List.map_map]
    refine List.map_congr_left fun q _ => ?_
    show (if q.1 = r then (q.1, d) else q).1 = q.1
    split <;> rfl
  · rw [List.map_append]
    rfl
theorem EntOk.put {P : List Nat → D → Prop} {L : List Ent} (h : EntOk P L) {r : List Nat} {d : D} (hp : P r d) : EntOk P (putE L r d) where
  nd := by
    rw [putE_keys]
    split
    · exact h.nd
    · rename_i hr
      rw [List.nodup_append]
      refine ⟨h.nd, by simp, fun a ha b hb => ?_⟩
      rw [List.mem_singleton] at hb
      subst hb
      exact fun z => hr (z ▸ ha)
  all := fun q hq => by
    unfold putE at hq
    split at hq
    · obtain ⟨q', hq', rfl⟩ := List.mem_map.mp hq
      split
      · rename_i e
        show P q'.1 d
        rw [e]
        exact hp
      · exact h.all q' hq'
    · rcases List.mem_append.mp hq with hq | hq
      · exact h.all q hq
      · rw [List.mem_singleton] at hq
        subst hq
        exact hp
theorem kdsOf_len (L : List Ent) : (kdsOf L).length = L.length := List.length_map ..
theorem EntOk.len {P : List Nat → D → Prop} {L : List Ent} (h : EntOk P L) {s : ShopT} (hs : Sh s) {B : Nat} (hP : ∀ r d, P r d → r.length = s.pieces.length ∧ sizeW s.ws r ≤ B) : L.length ≤ Rw s.ws B := by
  have : (rowsW s.ws B).length = Rw s.ws B := by unfold rowsW; rw [List.length_map, rows_len _ _ hs.pos]
  rw [← this, ← List.length_map (f := fun q : Ent => q.1)]
  refine sub_len h.nd fun r hr => ?_
  obtain ⟨q, hq, rfl⟩ := List.mem_map.mp hr
  obtain ⟨h1, h2⟩ := hP _ _ (h.all q hq)
  exact (rowsW_mem hs.pos).mpr ⟨by rw [ws_len]; exact h1, h2⟩
/-- the store's last object -/
theorem get_last {S : Sto} {m : MO} : (S ++ [m])[S.length]? = some m := by
  rw [List.getElem?_append_right (Nat.le_refl _), Nat.sub_self]
  rfl
theorem put_last {S : Sto} {L : List Ent} {r : List Nat} {d : D} (h : L.length < 1000000) : putO (S ++ [.t false (kdsOf L)]) (.mref S.length) (natT r) d = some (S ++ [.t false (kdsOf (putE L r d))]) := by
  show (((S ++ [MO.t false (kdsOf L)])[S.length]?.bind fun m => putM m (natT r) d).map ((S ++ [MO.t false (kdsOf L)]).set S.length)) = _
  rw [get_last]
  show (((keysD (natT r)).bind fun key => if (kdsOf L).length < sizeLine then some (MO.t false (putKD (kdsOf L) key d)) else none).map ((S ++ [MO.t false (kdsOf L)]).set S.length)) = _
  rw [keys_natT]
  show ((if (kdsOf L).length < sizeLine then some (MO.t false (putKD (kdsOf L) (keyR r) d)) else none).map ((S ++ [MO.t false (kdsOf L)]).set S.length)) = _
  rw [if_pos (by rw [kdsOf_len, szl]; omega), put_kds]
  show some ((S ++ [MO.t false (kdsOf L)]).set S.length (MO.t false (kdsOf (putE L r d)))) = _
  rw [List.set_append_right _ _ (Nat.le_refl _), Nat.sub_self]
  rfl
theorem sorted_last {S : Sto} {L : List Ent} : sortedS (S ++ [.t false (kdsOf L)]) (.mref S.length) = dSorted [.lst ((L.map (·.1)).map natT)] := by
  show ((S ++ [MO.t false (kdsOf L)])[S.length]?.bind fun m => match m with
    | .t _ kds => dSorted [.lst (kds.map fun kd => keyT kd.1)]
    | _ => none) = _
  rw [get_last]
  show dSorted [.lst ((kdsOf L).map fun kd => keyT kd.1)] = _
  congr 3
  unfold kdsOf
  rw [List.map_map, List.map_map]
  refine List.map_congr_left fun q _ => ?_
  exact keyT_R q.1

/-! ### shuffled -/
theorem erase_map {α β : Type} (f : α → β) : ∀ (l : List α) (i : Nat), (l.map f).eraseIdx i = (l.eraseIdx i).map f
  | [], i => by simp
  | a :: l, 0 => by simp
  | a :: l, i + 1 => by simp [erase_map f l i]
theorem erase_perm {α : Type} : ∀ (l : List α) (i : Nat) (h : i < l.length), (l[i] :: l.eraseIdx i).Perm l
  | a :: l, 0, h => by simp
  | a :: l, i + 1, h => by
    simp only [List.getElem_cons_succ, List.eraseIdx_cons_succ]
    exact (List.Perm.swap _ _ _).trans ((erase_perm l i (by simpa using h)).cons a)
theorem shuf_ok {R S : Sto} (h : PenS R S) {xs : List Nat} (hz : xs.length ≤ 1000) : (m__law_shuffled [.mref 0, .lst (xs.map fun (n : Nat) => .int (n : Int))] S).post fun d S' => (∃ ys : List Nat, d = .lst (ys.map fun (n : Nat) => .int (n : Int)) ∧ ys.Perm xs) ∧ PenS R S' := by
  unfold m__law_shuffled b__law_shuffled
  simp -implicitDefEqProofs [-Int.natCast_add]
  rw [rg1 (by omega)]
  simp -implicitDefEqProofs [-Int.natCast_add]
  refine then_post (P := fun o S' => PenS R S' ∧ ∃ (ys : List Nat) (ρ : DEnv), o = .nx ρ ∧ ys.Perm xs ∧ St [none, none, none, some (.lst (ys.map fun (n : Nat) => .int (n : Int))), none] ρ) ?_ fun o S' ⟨h, ys, ρ, e, hp, h2⟩ => ?_
  · refine forL_range (fun j ρ S' => PenS R S' ∧ ∃ ys zs : List Nat, (ys ++ zs).Perm xs ∧ ys.length = j ∧ St [some (.mref 0), none, some (.lst (zs.map fun (n : Nat) => .int (n : Int))), some (.lst (ys.map fun (n : Nat) => .int (n : Int))), none] ρ) xs.length ⟨h, [], xs, by simp, rfl, by simp⟩ (fun j hj ρ S' ⟨h, ys, zs, hp, hl, h2⟩ => ?_) fun ρ S' ⟨h, ys, zs, hp, hl, h2⟩ => ⟨h, ys, ρ, rfl, ?_, ?_⟩
    · repeat (first | (replace h2 := St.some h2; obtain ⟨_, rfl, h2⟩ := h2) | (replace h2 := St.none h2; obtain ⟨_, _, rfl, h2⟩ := h2))
      cases St.nil h2
      have hlen := hp.length_eq
      rw [List.length_append] at hlen
      simp -implicitDefEqProofs [-Int.natCast_add]
      refine then_post (draw_post h (by omega) (by omega)) fun d S4 ⟨⟨a, e, ha⟩, h⟩ => ?_
      subst e
      have ha' : a < zs.length := by omega
      have hpop : mPop (zs.map fun (n : Nat) => D.int (n : Int)) [.int (a : Int)] = some ((zs.eraseIdx a).map fun (n : Nat) => D.int (n : Int), .int (zs[a] : Int)) := by
        show (if pxOk (a : Int) then ((zs.map fun (n : Nat) => D.int (n : Int))[(a : Int).toNat]?).map fun y => ((zs.map fun (n : Nat) => D.int (n : Int)).eraseIdx (a : Int).toNat, y) else none) = _
        rw [if_pos (pxOk_of (by omega) (by omega)), Int.toNat_natCast, List.getElem?_map, List.getElem?_eq_getElem ha', erase_map]
        rfl
      have hap : mAppend (ys.map fun (n : Nat) => D.int (n : Int)) [.int (zs[a] : Int)] = some ((ys ++ [zs[a]]).map fun (n : Nat) => D.int (n : Int), .non) := by
        show (if _ then _ else _) = _
        rw [if_pos (by rw [List.length_map, szl]; omega)]
        simp
      simp -implicitDefEqProofs [-Int.natCast_add, hpop, hap, stepP]
      refine ⟨h, ys ++ [zs[a]], zs.eraseIdx a, ?_, by simp [hl], by simp, by simp⟩
      rw [List.append_assoc, List.singleton_append]
      refine List.Perm.trans (List.Perm.append_left ys ?_) hp
      exact erase_perm zs a ha'
    · have hlen := hp.length_eq
      rw [List.length_append] at hlen
      have : zs = [] := List.eq_nil_of_length_eq_zero (by omega)
      subst this
      simpa using hp
    · repeat (first | (replace h2 := St.some h2; obtain ⟨_, rfl, h2⟩ := h2) | (replace h2 := St.none h2; obtain ⟨_, _, rfl, h2⟩ := h2))
      cases St.nil h2
      simp
  · repeat (first | (replace h2 := St.some h2; obtain ⟨_, rfl, h2⟩ := h2) | (replace h2 := St.none h2; obtain ⟨_, _, rfl, h2⟩ := h2))
    cases St.nil h2
    subst e
    simp -implicitDefEqProofs [-Int.natCast_add]
    exact ⟨⟨ys, rfl, hp⟩, h⟩

/-! ### the rows that fit and are not too many, all of them -/
theorem sizeW_snoc : ∀ (vs r : List Nat) (w n : Nat), r.length = vs.length → sizeW (vs ++ [w]) (r ++ [n]) = sizeW vs r + n * w
  | [], [], w, n, _ => by
    show n * w + 0 = 0 + n * w
    omega
  | v :: vs, k :: r, w, n, h => by
    have := sizeW_snoc vs r w n (by simpa using h)
    show k * v + sizeW (vs ++ [w]) (r ++ [n]) = k * v + sizeW vs r + n * w
    omega
structure RowQ (s : ShopT) (w : List Nat) (room j : Nat) (q : List Nat × Nat) : Prop where
  ln : q.1.length = j
  le : ∀ i, i < j → q.1.getD i 0 ≤ w.getD i 0
  sz : sizeW (s.ws.take j) q.1 + q.2 = room
theorem RowQ.next {s : ShopT} {w : List Nat} {room j k wd : Nat} {r : List Nat} {l : Nat} (h : RowQ s w room j (r, l)) (hw : s.ws[j]? = some wd) (h1 : k ≤ w.getD j 0) (h2 : k * wd ≤ l) : RowQ s w room (j + 1) (r ++ [k], l - k * wd) where
  ln := by show (r ++ [k]).length = _; rw [List.length_append, List.length_singleton]; exact congrArg (· + 1) h.ln
  le := fun i hi => by
    have hln : r.length = j := h.ln
    show (r ++ [k]).getD i 0 ≤ _
    rw [List.getD_eq_getElem?_getD]
    by_cases c : i < j
    · rw [List.getElem?_append_left (by omega), ← List.getD_eq_getElem?_getD]
      exact h.le i c
    · have e : i = j := by omega
      subst e
      rw [List.getElem?_append_right (by omega), hln, Nat.sub_self]
      exact h1
  sz := by
    have hln : r.length = j := h.ln
    have hj := (List.getElem?_eq_some_iff.mp hw).1
    have hs : sizeW (s.ws.take j) r + l = room := h.sz
    show sizeW (s.ws.take (j + 1)) (r ++ [k]) + (l - k * wd) = room
    rw [take_next hw, sizeW_snoc _ _ _ _ (by rw [List.length_take]; omega)]
    omega
/-- a row of j + 1 numbers comes of one of j -/
theorem RowQ.prev {s : ShopT} {w : List Nat} {room j wd : Nat} {q : List Nat × Nat} (h : RowQ s w room (j + 1) q) (hw : s.ws[j]? = some wd) : ∃ r k, q = (r ++ [k], q.2) ∧ RowQ s w room j (r, q.2 + k * wd) ∧ k ≤ w.getD j 0 := by
  obtain ⟨r, k, e⟩ : ∃ r k, q.1 = r ++ [k] := ⟨q.1.dropLast, q.1.getLast (fun z => by have := h.ln; rw [z] at this; cases this), (List.dropLast_concat_getLast _).symm⟩
  have hl : r.length = j := by
    have := h.ln
    rw [e, List.length_append] at this
    exact Nat.succ.inj this
  have hj := (List.getElem?_eq_some_iff.mp hw).1
  refine ⟨r, k, by rw [← e], ⟨hl, fun i hi => ?_, ?_⟩, ?_⟩
  · have := h.le i (by omega)
    rw [e, List.getD_eq_getElem?_getD, List.getElem?_append_left (by omega), ← List.getD_eq_getElem?_getD] at this
    exact this
  · have := h.sz
    rw [e, take_next hw, sizeW_snoc _ _ _ _ (by rw [List.length_take]; omega)] at this
    show sizeW (s.ws.take j) r + (q.2 + k * wd) = room
    omega
  · have := h.le j (by omega)
    rw [e, List.getD_eq_getElem?_getD, List.getElem?_append_right (by omega), hl, Nat.sub_self] at this
    exact this
def nextR (most wd : Nat) (L : List (List Nat × Nat)) : List (List Nat × Nat) := L.flatMap fun q => (List.range (min most (q.2 / wd) + 1)).map fun k => (q.1 ++ [k], q.2 - k * wd)
theorem nextR_snoc (most wd : Nat) (L : List (List Nat × Nat)) (q : List Nat × Nat) : nextR most wd (L ++ [q]) = nextR most wd L ++ (List.range (min most (q.2 / wd) + 1)).map fun k => (q.1 ++ [k], q.2 - k * wd) := by
  unfold nextR
  rw [List.flatMap_append, List.flatMap_cons, List.flatMap_nil, List.append_nil]
theorem nextR_len {most wd : Nat} : ∀ {L : List (List Nat × Nat)}, (∀ q ∈ L, q.2 ≤ 17) → (nextR most wd L).length ≤ L.length * 20
  | [], _ => by simp [nextR]
  | q :: L, h => by
    have ih := nextR_len (most := most) (wd := wd) (L := L) fun q hq => h q (List.mem_cons_of_mem _ hq)
    have e : nextR most wd (q :: L) = ((List.range (min most (q.2 / wd) + 1)).map fun k => (q.1 ++ [k], q.2 - k * wd)) ++ nextR most wd L := by
      unfold nextR
      rw [List.flatMap_cons]
    have h1 := h q List.mem_cons_self
    have h2 : q.2 / wd ≤ q.2 := Nat.div_le_self _ _
    have h3 : min most (q.2 / wd) ≤ q.2 / wd := Nat.min_le_right _ _
    rw [e, List.length_append, List.length_map, List.length_range, List.length_cons]
    omega
structure RowsX (s : ShopT) (w : List Nat) (room j : Nat) (L : List (List Nat × Nat)) : Prop where
  ln : L.length ≤ 20 ^ j
  all : ∀ q, q ∈ L ↔ RowQ s w room j q
theorem RowsX.next {s : ShopT} {w : List Nat} {room j wd most : Nat} {L : List (List Nat × Nat)} (h : RowsX s w room j L) (hr : room ≤ 17) (hw : s.ws[j]? = some wd) (hp : 0 < wd) (hm : w.getD j 0 = most) : RowsX s w room (j + 1) (nextR most wd L) where
  ln := by
    refine Nat.le_trans (nextR_len fun q hq => ?_) (by rw [Nat.pow_succ]; exact Nat.mul_le_mul_right _ h.ln)
    have := ((h.all q).mp hq).sz
    omega
  all := fun q => by
    unfold nextR
    rw [List.mem_flatMap]
    constructor
    · rintro ⟨p, hp', hq⟩
      obtain ⟨k, hk, rfl⟩ := List.mem_map.mp hq
      have hk := List.mem_range.mp hk
      exact ((h.all p).mp hp').next hw (by omega) ((Nat.le_div_iff_mul_le hp).mp (by omega))
    · intro hq
      obtain ⟨r, k, e, h1, h2⟩ := hq.prev hw
      refine ⟨(r, q.2 + k * wd), (h.all _).mpr h1, List.mem_map.mpr ⟨k, List.mem_range.mpr ?_, ?_⟩⟩
      · have : k ≤ (q.2 + k * wd) / wd := (Nat.le_div_iff_mul_le hp).mpr (by omega)
        have h3 : k ≤ most := by omega
        show k < min most ((q.2 + k * wd) / wd) + 1
        omega
      · rw [e]
        show (r ++ [k], q.2 + k * wd - k * wd) = (r ++ [k], q.2)
        rw [Nat.add_sub_cancel]
theorem min_nat (a b : Nat) : dMin [.int (a : Int), .int (b : Int)] = some (.int ((min a b : Nat) : Int)) := by
  show some (D.int (if (b : Int) < (a : Int) then (b : Int) else (a : Int))) = _
  by_cases h : b < a
  · rw [if_pos (by omega), Nat.min_eq_right (by omega)]
  · rw [if_neg (by omega), Nat.min_eq_left (by omega)]
/-- a row of so many numbers, none more than wanted, that fits -/
structure FitR (s : ShopT) (w : List Nat) (len : Nat) (r : List Nat) : Prop where
  ln : r.length = s.pieces.length
  le : ∀ i, i < s.pieces.length → r.getD i 0 ≤ w.getD i 0
  sz : sizeW s.ws r ≤ len + s.kerf
theorem rows_for_x {s : ShopT} (hs : Sh s) {w : List Nat} (hwl : w.length = s.pieces.length) {len : Nat} (hl : len ≤ 15) (S : Sto) : ∃ F : List (List Nat), m_rows_for [s.o, natT w, .int (len : Int)] S = .ok (.lst (F.map natT)) S ∧ F.length ≤ 8000 ∧ ∀ r, r ∈ F ↔ FitR s w len r := by
  suffices h : (m_rows_for [s.o, natT w, .int (len : Int)] S).post fun d S' => S' = S ∧ ∃ F : List (List Nat), d = .lst (F.map natT) ∧ F.length ≤ 8000 ∧ ∀ r, r ∈ F ↔ FitR s w len r by
    obtain ⟨d, S', er, e1, F, rfl, h1, h2⟩ := Res.post_ex h
    subst e1
    exact ⟨F, er, h1, h2⟩
  have hp3 := hs.p3
  have hkk := hs.kf
  have hkf : attrD at_kerf "kerf" s.o S = .ok (.int (s.kerf : Int)) S := sh_kerf _ _ _ S
  have hlk : (len : Int) + (s.kerf : Int) = ((len + s.kerf : Nat) : Int) := by omega
  have hroom : len + s.kerf ≤ 17 := by omega
  unfold m_rows_for b_rows_for
  simp -implicitDefEqProofs [-Int.natCast_add, hkf, hlk]
  generalize hrm : len + s.kerf = room at *
  refine then_post (P := fun o S' => S' = S ∧ ∃ ρ' L, o = .nx ρ' ∧ RowsX s w room s.pieces.length L ∧ St [none, none, none, some (.lst (L.map rowD)), none, none, none, none, none, none, none] ρ') (forL_enum (e := fun (n : Nat) => D.int (n : Int)) (fun j ρ S' => S' = S ∧ ∃ L, RowsX s w room j L ∧ St [some (s.o), none, none, some (.lst (L.map rowD)), none, none, none, none, none, none, none] ρ) w ⟨rfl, [([], room)], ⟨by simp, fun q => ?_⟩, by simp [rowD]⟩ (fun j most hj ρ S' ⟨e1, L, hL, h⟩ => ?_) fun ρ S' ⟨e1, L, hL, h⟩ => ⟨e1, ρ, L, rfl, by rw [← hwl]; exact hL, ?_⟩) fun o S' ⟨e1, ρ, L, e, hL, h⟩ => ?_
  · constructor
    · intro hq
      rw [List.mem_singleton] at hq
      subst hq
      exact ⟨rfl, fun i hi => by omega, by simp [sizeW]⟩
    · intro hq
      rw [List.mem_singleton]
      have h1 : q.1 = [] := List.eq_nil_of_length_eq_zero hq.ln
      have h2 := hq.sz
      rw [h1] at h2
      have h3 : q.2 = room := by simpa [sizeW] using h2
      rw [← h1, ← h3]
  · repeat (first | (replace h := St.some h; obtain ⟨_, rfl, h⟩ := h) | (replace h := St.none h; obtain ⟨_, _, rfl, h⟩ := h))
    cases St.nil h
    subst e1
    have hjl := (List.getElem?_eq_some_iff.mp hj).1
    obtain ⟨wd, hw⟩ : ∃ wd, s.ws[j]? = some wd := ⟨_, List.getElem?_eq_getElem (by rw [ws_len]; omega)⟩
    have hwp := hs.pos _ (List.mem_of_getElem? hw)
    have hw6 := hs.w6 _ (List.mem_of_getElem? hw)
    have hwidth := width_ok s hw S'
    have hmost : w.getD j 0 = most := by rw [List.getD_eq_getElem?_getD, hj]; rfl
    have hpj : 20 ^ j ≤ 400 := by
      have : j ≤ 2 := by omega
      exact Nat.le_trans (Nat.pow_le_pow_right (by omega) this) (by decide)
    have hLn := hL.ln
    have hN := hL.next hroom hw hwp hmost
    simp -implicitDefEqProofs [-Int.natCast_add, hwidth]
    refine then_post (P := fun o S2 => S2 = S' ∧ ∃ ρ', o = .nx ρ' ∧ St [some (s.o), none, none, none, none, none, some (.lst ((nextR most wd L).map rowD)), none, none, none, none] ρ') (forL_map (enc := rowD) (P := fun i ρ S2 => S2 = S' ∧ ∃ M, M = nextR most wd (L.take i) ∧ St [some (s.o), none, none, none, none, some (.int (most : Int)), some (.lst (M.map rowD)), some (.int (wd : Int)), none, none, none] ρ) L ⟨rfl, [], rfl, by simp⟩ (fun i q hi ρ S2 ⟨e1, M, eM, h⟩ => ?_) fun ρ S2 ⟨e1, M, eM, h⟩ => ⟨e1, ρ, rfl, ?_⟩) fun o S2 ⟨e1, ρ, e, h⟩ => ?_
    · repeat (first | (replace h := St.some h; obtain ⟨_, rfl, h⟩ := h) | (replace h := St.none h; obtain ⟨_, _, rfl, h⟩ := h))
      cases St.nil h
      subst e1
      have hq := (hL.all q).mp (List.mem_of_getElem? hi)
      obtain ⟨r, l⟩ := q
      have hrl : r.length = j := hq.ln
      have hl17 : l ≤ 17 := by have : sizeW (s.ws.take j) r + l = room := hq.sz; omega
      have hdiv : l / wd ≤ 17 := Nat.le_trans (Nat.div_le_self _ _) hl17
      have hmin : min most (l / wd) ≤ 17 := Nat.le_trans (Nat.min_le_right _ _) hdiv
      have hil := (List.getElem?_eq_some_iff.mp hi).1
      have hMn : M.length ≤ 8000 := by
        have h1 := nextR_len (most := most) (wd := wd) (L := L.take i) fun q hq => by
          have := ((hL.all q).mp (List.mem_of_mem_take hq)).sz
          omega
        rw [List.length_take] at h1
        rw [eM]
        omega
      have hrz : r.length + 1 ≤ sizeLine := by rw [szl]; omega
      have hmn : dMin [.int (most : Int), .int ((l : Int) / (wd : Int))] = some (.int ((min most (l / wd) : Nat) : Int)) := by
        rw [← Int.natCast_ediv]
        exact min_nat most (l / wd)
      have hfd := fdiv_nat (l := l) hwp hw6
      have hone : ((min most (l / wd) : Nat) : Int) + 1 = ((min most (l / wd) + 1 : Nat) : Int) := by omega
      have hkle : ∀ k, k < min most (l / wd) + 1 → k ≤ most ∧ k * wd ≤ l := fun k hk => ⟨by omega, (Nat.le_div_iff_mul_le hwp).mp (by omega)⟩
      have hM2 : nextR most wd (L.take (i + 1)) = M ++ (List.range (min most (l / wd) + 1)).map fun k => (r ++ [k], l - k * wd) := by
        rw [take_next hi, nextR_snoc, ← eM]
      generalize min most (l / wd) = mm at *
      have hrgm := rg1 (j := mm + 1) (by omega)
      have hgt : rowD (r, l) = D.tup [natT r, .int (l : Int)] := rfl
      simp -implicitDefEqProofs [-Int.natCast_add, hgt, hfd, hmn, hone, hrgm]
      rw [compL_map (g := fun k => rowD (r ++ [k], l - k * wd)) _ (fun k hk => by
        obtain ⟨c1, c2⟩ := hkle k (List.mem_range.mp hk)
        have hmu := mul_nat (k := k) (w := wd) hw6
        have hsb : (l : Int) - (k : Int) * (wd : Int) = ((l - k * wd : Nat) : Int) := by rw [Int.ofNat_sub c2, Int.natCast_mul]
        simp -implicitDefEqProofs [-Int.natCast_add, hrz, hmu, hsb, rowD])]
      have hex : mExtend (M.map rowD) [.lst ((List.range (mm + 1)).map fun k => rowD (r ++ [k], l - k * wd))] = some ((nextR most wd (L.take (i + 1))).map rowD, .non) := by
        show (if _ then _ else _) = _
        rw [if_pos (by rw [List.length_map, List.length_map, List.length_range, szl]; omega), hM2, List.map_append, List.map_map]
        rfl
      have hz : ((List.range (mm + 1)).map fun k => rowD (r ++ [k], l - k * wd)).length ≤ sizeLine := by rw [List.length_map, List.length_range, szl]; omega
      generalize ((List.range (mm + 1)).map fun k => rowD (r ++ [k], l - k * wd)) = NW at *
      generalize nextR most wd (L.take (i + 1)) = M2 at *
      simp -implicitDefEqProofs [-Int.natCast_add, hz, hex, stepP]
      try exact ⟨M2, rfl, rfl⟩
    · subst eM
      rw [List.take_of_length_le (Nat.le_refl _)] at h
      repeat (first | (replace h := St.some h; obtain ⟨_, rfl, h⟩ := h) | (replace h := St.none h; obtain ⟨_, _, rfl, h⟩ := h))
      cases St.nil h
      first | done | simp
    · subst e1 e
      generalize nextR most wd L = L3 at *
      repeat (first | (replace h := St.some h; obtain ⟨_, rfl, h⟩ := h) | (replace h := St.none h; obtain ⟨_, _, rfl, h⟩ := h))
      cases St.nil h
      simp -implicitDefEqProofs [-Int.natCast_add, stepP]
      first | done | exact ⟨L3, hN, rfl⟩
  · repeat (first | (replace h := St.some h; obtain ⟨_, rfl, h⟩ := h) | (replace h := St.none h; obtain ⟨_, _, rfl, h⟩ := h))
    cases St.nil h
    simp
  · subst e1 e
    repeat (first | (replace h := St.some h; obtain ⟨_, rfl, h⟩ := h) | (replace h := St.none h; obtain ⟨_, _, rfl, h⟩ := h))
    cases St.nil h
    simp -implicitDefEqProofs [-Int.natCast_add]
    rw [compL_map (enc := rowD) (g := fun q => natT q.1) L (fun q hq => by
      unfold rowD
      simp -implicitDefEqProofs [-Int.natCast_add])]
    have hL8 : L.length ≤ 8000 := Nat.le_trans hL.ln (Nat.le_trans (Nat.pow_le_pow_right (by omega) hp3) (by decide))
    have hz : (L.map fun q => natT q.1).length ≤ sizeLine := by rw [List.length_map, szl]; omega
    have e : (L.map fun q => natT q.1) = (L.map (·.1)).map natT := by rw [List.map_map]; rfl
    rw [e] at hz ⊢
    have htk : s.ws.take s.pieces.length = s.ws := List.take_of_length_le (by rw [ws_len]; exact Nat.le_refl _)
    have hF : (L.map (·.1)).length ≤ 8000 ∧ ∀ r, r ∈ L.map (·.1) ↔ FitR s w len r := ⟨by rw [List.length_map]; exact hL8, fun r => by
      rw [List.mem_map]
      constructor
      · rintro ⟨q, hq, rfl⟩
        have h := (hL.all q).mp hq
        refine ⟨h.ln, h.le, ?_⟩
        have := h.sz
        rw [htk] at this
        omega
      · intro h
        refine ⟨(r, room - sizeW s.ws r), (hL.all _).mpr ⟨h.ln, h.le, ?_⟩, rfl⟩
        have := h.sz
        show sizeW (s.ws.take s.pieces.length) r + (room - sizeW s.ws r) = room
        rw [htk]
        omega⟩
    generalize L.map (·.1) = F at *
    have hz' : F.length ≤ sizeLine := by rw [szl]; omega
    simp -implicitDefEqProofs [-Int.natCast_add, hz']
    exact ⟨F, rfl, hF⟩

/-! ### layers: a dict of rows for every stretch -/
theorem alike_natP (a b : List Nat) : PySem.W.alike (natP a) (natP b) = true := by
  have e : ∀ r : List Nat, (r.map fun (n : Nat) => PyData.int (n : Int)) = (r.map fun (n : Nat) => (n : Int)).map PyData.int := fun r => by simp
  show PySem.W.alike (.tuple _) (.tuple _) = true
  rw [PySem.W.alike, e, e]
  exact PySem.W.alike_ints _ _
theorem ix_last {xs : List D} {n : Nat} {d : D} (hl : xs.length = n + 1) (h : xs[n]? = some d) : dIx (.tup xs) (.int (-1)) = some d := by
  show atI xs (-1) = _
  unfold atI ixN
  rw [if_neg (by decide), if_pos (by omega)]
  show xs[(-1 + (xs.length : Int)).toNat]? = _
  rw [show (-1 + (xs.length : Int)).toNat = n by omega]
  exact h
abbrev layD (R : List (List Nat)) : D := .tup (R.map natT)
theorem alike_rows : ∀ A B : List (List Nat), PySem.W.alikeAll (A.map natP) (B.map natP) = true
  | [], _ => by rw [List.map_nil, PySem.W.alikeAll]
  | _ :: _, [] => by rw [List.map_nil, List.map_cons, PySem.W.alikeAll]
  | a :: A, b :: B => by
    rw [List.map_cons, List.map_cons, PySem.W.alikeAll, alike_natP, alike_rows A B]
    rfl
theorem lay_cmp (f : PyData → PyData → Bool) (A B : List (List Nat)) : dCmp f (layD A) (layD B) = some (.bl (f (.tuple (A.map natP)) (.tuple (B.map natP)))) := by
  unfold dCmp
  rw [encRow.tup.py, encRow.tup.py]
  show (if cmpOk (.tuple (A.map natP)) (.tuple (B.map natP)) = true then _ else _) = _
  have : cmpOk (.tuple (A.map natP)) (.tuple (B.map natP)) = true := by
    unfold cmpOk
    rw [PySem.W.alike, alike_rows, Bool.true_and, Bool.and_eq_true, decide_eq_true_eq]
    exact ⟨rfl, Nat.le_trans (encRow.tup.dep A) (by decide)⟩
  rw [if_pos this]
theorem lock_post {so : SE} {ss : SS} {ρ : DEnv} {S : Sto} {j : Nat} {kds : List (List Key × D)} {P : DEnv → Sto → Prop} (hso : so ρ S = .ok (.mref j) S) (hj : S[j]? = some (.t false kds))
    (h : (ss ρ (S.set j (.t true kds))).post fun o S' => ∃ ρ', o = .nx ρ' ∧ ∃ kds', S'[j]? = some (.t true kds') ∧ P ρ' (S'.set j (.t false kds'))) : (lockS so ss ρ S).post fun o S' => ∃ ρ', o = .nx ρ' ∧ P ρ' S' := by
  unfold lockS
  rw [hso]
  show ((match S[j]? with
    | some (.t false kds) => (ss ρ (S.set j (.t true kds))).then (unlk j)
    | _ => .bad)).post _
  rw [hj]
  refine then_post h fun o S' ⟨ρ', e, kds', e1, hp⟩ => ?_
  subst e
  show ((match S'[j]? with
    | some (.t true kds) => .ok (.nx ρ') (S'.set j (.t false kds))
    | _ => .bad) : Res Out).post _
  rw [e1]
  exact ⟨ρ', rfl, hp⟩
/-- the store inside the loop: layers, the one walked, the one made -/
def midS (F : Sto) (lk : Bool) (L N : List Ent) : Sto := F ++ [.t lk (kdsOf L), .t false (kdsOf N)]
theorem mid_at (F : Sto) (lk : Bool) (L N : List Ent) : (midS F lk L N)[F.length]? = some (.t lk (kdsOf L)) := by
  unfold midS
  rw [List.getElem?_append_right (Nat.le_refl _), Nat.sub_self]
  rfl
theorem mid_at2 (F : Sto) (lk : Bool) (L N : List Ent) : (midS F lk L N)[F.length + 1]? = some (.t false (kdsOf N)) := by
  unfold midS
  rw [List.getElem?_append_right (by omega), show F.length + 1 - F.length = 1 by omega]
  rfl
theorem mid_set (F : Sto) (lk lk' : Bool) (L N : List Ent) : (midS F lk L N).set F.length (.t lk' (kdsOf L)) = midS F lk' L N := by
  unfold midS
  rw [List.set_append_right _ _ (Nat.le_refl _), Nat.sub_self]
  rfl
theorem mid_put {F : Sto} {lk : Bool} {L N : List Ent} {r : List Nat} {d : D} (h : N.length < 1000000) : putO (midS F lk L N) (.mref (F.length + 1)) (natT r) d = some (midS F lk L (putE N r d)) := by
  show (((midS F lk L N)[F.length + 1]?.bind fun m => putM m (natT r) d).map ((midS F lk L N).set (F.length + 1))) = _
  rw [mid_at2]
  show (((keysD (natT r)).bind fun key => if (kdsOf N).length < sizeLine then some (MO.t false (putKD (kdsOf N) key d)) else none).map ((midS F lk L N).set (F.length + 1))) = _
  rw [keys_natT]
  show ((if (kdsOf N).length < sizeLine then some (MO.t false (putKD (kdsOf N) (keyR r) d)) else none).map ((midS F lk L N).set (F.length + 1))) = _
  rw [if_pos (by rw [kdsOf_len, szl]; omega), put_kds]
  show some ((midS F lk L N).set (F.length + 1) (MO.t false (kdsOf (putE N r d)))) = _
  unfold midS
  rw [List.set_append_right _ _ (by omega), show F.length + 1 - F.length = 1 by omega]
  rfl
theorem find_in : ∀ {L : List Ent} {q : Ent}, (L.map (·.1)).Nodup → q ∈ L → (L.find? fun p => decide (p.1 = q.1)) = some q
  | p :: L, q, hn, hq => by
    rw [List.map_cons, List.nodup_cons] at hn
    rcases List.mem_cons.mp hq with rfl | hq
    · exact List.find?_cons_of_pos (by simp)
    · have : p.1 ≠ q.1 := fun e => hn.1 (List.mem_map.mpr ⟨q, hq, e.symm⟩)
      rw [List.find?_cons_of_neg (by simpa using this)]
      exact find_in hn.2 hq
theorem mid_ix {F : Sto} {lk : Bool} {L N : List Ent} {q : Ent} (hn : (L.map (·.1)).Nodup) (hq : q ∈ L) : ixS (midS F lk L N) (.mref F.length) (natT q.1) = some q.2 := by
  show ((midS F lk L N)[F.length]?.bind fun m => getM m (natT q.1)) = _
  rw [mid_at]
  show ((keysD (natT q.1)).bind (valK (kdsOf L))) = _
  rw [keys_natT]
  show valK (kdsOf L) (keyR q.1) = _
  rw [val_kds, find_in hn hq]
  rfl
theorem mid_ix2 {F : Sto} {lk : Bool} {L N : List Ent} {q : Ent} (hn : (N.map (·.1)).Nodup) (hq : q ∈ N) : ixS (midS F lk L N) (.mref (F.length + 1)) (natT q.1) = some q.2 := by
  show ((midS F lk L N)[F.length + 1]?.bind fun m => getM m (natT q.1)) = _
  rw [mid_at2]
  show ((keysD (natT q.1)).bind (valK (kdsOf N))) = _
  rw [keys_natT]
  show valK (kdsOf N) (keyR q.1) = _
  rw [val_kds, find_in hn hq]
  rfl
theorem find_some (L : List Ent) (r : List Nat) : (L.find? fun q => decide (q.1 = r)).isSome = decide (r ∈ L.map (·.1)) := by
  rw [Bool.eq_iff_iff, List.find?_isSome, decide_eq_true_eq, List.mem_map]
  constructor
  · rintro ⟨q, hq, h⟩
    exact ⟨q, hq, of_decide_eq_true h⟩
  · rintro ⟨q, hq, h⟩
    exact ⟨q, hq, decide_eq_true h⟩
theorem in_at {S : Sto} {j : Nat} {lk : Bool} {L : List Ent} (h : S[j]? = some (.t lk (kdsOf L))) (neg : Bool) (r : List Nat) : inS neg S (natT r) (.mref j) = some (.bl (if neg then !decide (r ∈ L.map (·.1)) else decide (r ∈ L.map (·.1)))) := by
  show (S[j]?.bind fun m => inM neg m (natT r)) = _
  rw [h]
  show (if ((keysD (natT r)).isSome) = true then some (D.bl (if neg then !((keysD (natT r)).bind (valK (kdsOf L))).isSome else ((keysD (natT r)).bind (valK (kdsOf L))).isSome)) else none) = _
  rw [keys_natT]
  show some (D.bl (if neg then !(valK (kdsOf L) (keyR r)).isSome else (valK (kdsOf L) (keyR r)).isSome)) = _
  rw [val_kds, Option.isSome_map, find_some]
theorem ix_lastL {xs : List D} {n : Nat} {d : D} (hl : xs.length = n + 1) (h : xs[n]? = some d) : dIx (.lst xs) (.int (-1)) = some d := ix_last hl h
/-- coordinatewise what is left -/
def subV (a b : List Nat) : List Nat := (a.zip b).map fun q => q.1 - q.2
theorem subV_len {a b : List Nat} (h : a.length = b.length) : (subV a b).length = a.length := by
  unfold subV
  rw [List.length_map, List.length_zip]
  omega
theorem subV_at {a b : List Nat} (h : a.length = b.length) {i : Nat} (hi : i < a.length) : (subV a b).getD i 0 = a.getD i 0 - b.getD i 0 := by
  unfold subV
  rw [List.getD_eq_getElem?_getD, List.getD_eq_getElem?_getD, List.getD_eq_getElem?_getD, List.getElem?_map, List.getElem?_eq_getElem (by rw [List.length_zip]; omega), List.getElem?_eq_getElem hi, List.getElem?_eq_getElem (by omega : i < b.length), List.getElem_zip]
  rfl
theorem addV_at {a b : List Nat} (h : a.length = b.length) {i : Nat} (hi : i < a.length) : (addV a b).getD i 0 = a.getD i 0 + b.getD i 0 := by
  unfold addV
  rw [List.getD_eq_getElem?_getD, List.getD_eq_getElem?_getD, List.getD_eq_getElem?_getD, List.getElem?_map, List.getElem?_eq_getElem (by rw [List.length_zip]; omega), List.getElem?_eq_getElem hi, List.getElem?_eq_getElem (by omega : i < b.length), List.getElem_zip]
  rfl
theorem sub_ok {a b : List Nat} (h : a.length ≤ 1000) (hle : ∀ q ∈ a.zip b, q.2 ≤ q.1) : ∀ q ∈ a.zip b, (q.1 : Int) - (q.2 : Int) = ((q.1 - q.2 : Nat) : Int) := fun q hq => by
  have := hle q hq
  omega
theorem zip_le {a b : List Nat} (h : a.length = b.length) (hle : ∀ i, i < a.length → b.getD i 0 ≤ a.getD i 0) : ∀ q ∈ a.zip b, q.2 ≤ q.1 := fun q hq => by
  obtain ⟨i, hi⟩ := List.mem_iff_getElem?.mp hq
  obtain ⟨h1, h2⟩ := List.getElem?_eq_some_iff.mp hi
  rw [List.length_zip] at h1
  rw [List.getElem_zip] at h2
  subst h2
  have := hle i (by omega)
  rw [List.getD_eq_getElem?_getD, List.getD_eq_getElem?_getD, List.getElem?_eq_getElem (by omega : i < b.length), List.getElem?_eq_getElem (by omega : i < a.length)] at this
  exact this
def layS (Ds : List (List Ent)) : Sto := Ds.map fun L => .t false (kdsOf L)
def refs (n : Nat) : List D := (List.range n).map .mref
theorem refs_last (n : Nat) : dIx (.lst (refs (n + 1))) (.int (-1)) = some (.mref n) := ix_lastL (n := n) (by unfold refs; rw [List.length_map, List.length_range]) (by unfold refs; rw [List.getElem?_map, List.getElem?_range (by omega)]; rfl)
theorem refs_snoc (n : Nat) : refs n ++ [.mref n] = refs (n + 1) := by
  unfold refs
  rw [List.range_succ, List.map_append]
  rfl
theorem layS_snoc (Ds : List (List Ent)) (L N : List Ent) : layS (Ds ++ [L]) ++ [.t false (kdsOf N)] = midS (layS Ds) false L N := by
  unfold layS midS
  rw [List.map_append, List.append_assoc]
  rfl
theorem layS_mid (Ds : List (List Ent)) (L N : List Ent) : midS (layS Ds) false L N = layS (Ds ++ [L] ++ [N]) := by
  rw [← layS_snoc]
  unfold layS
  rw [List.map_append (l₂ := [N])]
  rfl
theorem layS_len (Ds : List (List Ent)) : (layS Ds).length = Ds.length := List.length_map ..
theorem itd_mid {so : SE} {ρ : DEnv} {F : Sto} {L N : List Ent} (h : so ρ (midS F true L N) = .ok (.mref F.length) (midS F true L N)) : sItD so ρ (midS F true L N) = .ok (L.map fun q => natT q.1) (midS F true L N) := by
  unfold sItD
  rw [h]
  show (match (midS F true L N)[F.length]? with
    | some (.t true kds) => Res.ok (kds.map fun kd : List Key × D => keyT kd.1) (midS F true L N)
    | _ => .bad) = _
  rw [mid_at]
  show Res.ok ((kdsOf L).map fun kd => keyT kd.1) _ = _
  congr 1
  unfold kdsOf
  rw [List.map_map]
  refine List.map_congr_left fun q _ => ?_
  exact keyT_R q.1
theorem layS_at {Ds : List (List Ent)} {i : Nat} {L : List Ent} (h : Ds[i]? = some L) : (layS Ds)[i]? = some (.t false (kdsOf L)) := by
  unfold layS
  rw [List.getElem?_map, h]
  rfl
theorem ix_at {S : Sto} {j : Nat} {lk : Bool} {L : List Ent} {q : Ent} (h : S[j]? = some (.t lk (kdsOf L))) (hn : (L.map (·.1)).Nodup) (hq : q ∈ L) : ixS S (.mref j) (natT q.1) = some q.2 := by
  show (S[j]?.bind fun m => getM m (natT q.1)) = _
  rw [h]
  show ((keysD (natT q.1)).bind (valK (kdsOf L))) = _
  rw [keys_natT]
  show valK (kdsOf L) (keyR q.1) = _
  rw [val_kds, find_in hn hq]
  rfl
theorem sorted_at {S : Sto} {j : Nat} {lk : Bool} {L : List Ent} (h : S[j]? = some (.t lk (kdsOf L))) : sortedS S (.mref j) = dSorted [.lst ((L.map (·.1)).map natT)] := by
  show (S[j]?.bind fun m => match m with
    | .t _ kds => dSorted [.lst (kds.map fun kd => keyT kd.1)]
    | _ => none) = _
  rw [h]
  show dSorted [.lst ((kdsOf L).map fun kd : List Key × D => keyT kd.1)] = _
  congr 3
  unfold kdsOf
  rw [List.map_map, List.map_map]
  refine List.map_congr_left fun q _ => ?_
  exact keyT_R q.1
theorem sizeW_add : ∀ (ws a b : List Nat), a.length = ws.length → b.length = ws.length → sizeW ws (addV a b) = sizeW ws a + sizeW ws b
  | [], [], [], _, _ => rfl
  | w :: ws, x :: a, y :: b, h1, h2 => by
    have ih := sizeW_add ws a b (by simpa using h1) (by simpa using h2)
    show (x + y) * w + sizeW ws (addV a b) = (x * w + sizeW ws a) + (y * w + sizeW ws b)
    rw [ih, Nat.add_mul]
    omega

/-! ### rows of rows, in order -/
theorem row_nil_cons (y : PyData) (ys : List PyData) : PySem.W.rowLt [] (y :: ys) = true := by
  unfold PySem.W.rowLt
  rw [PySem.W.toks_all_cons]
  simp only [PySem.W.keyToksAll]
  rw [PyProof.Rows.lex_diff (O := PyProof.Rows.itemOrd) (by simp)]
  rfl
theorem row_cons_nil (y : PyData) (ys : List PyData) : PySem.W.rowLt (y :: ys) [] = false := by
  unfold PySem.W.rowLt
  rw [PySem.W.toks_all_cons]
  simp only [PySem.W.keyToksAll]
  rw [PyProof.Rows.lex_diff (O := PyProof.Rows.itemOrd) (by simp)]
  rfl
theorem rows_lt : ∀ A B : List (List Nat), PySem.W.rowLt (A.map natP) (B.map natP) = decide (A < B)
  | [], [] => by
    have e : PySem.W.rowLt [] [] = false := PyProof.Rows.lex_irrefl _
    simp [e]
  | [], b :: B => by
    rw [List.map_nil, List.map_cons, row_nil_cons]
    simp
  | a :: A, [] => by
    rw [List.map_nil, List.map_cons, row_cons_nil]
    simp
  | a :: A, b :: B => by
    have e : PySem.W.rowLt (natP a :: A.map natP) (natP b :: B.map natP) = if PyData.eqv (natP a) (natP b) = true then PySem.W.rowLt (A.map natP) (B.map natP) else PySem.W.dataLt (natP a) (natP b) := PySem.W.dataLt_cons (alike_natP a b) _ _
    rw [List.map_cons, List.map_cons, e, encRow.eqv, rows_lt A B, natP_lt]
    by_cases c : a = b
    · subst c
      rw [if_pos (decide_eq_true rfl), decide_eq_decide, List.cons_lt_cons_iff]
      constructor
      · exact fun h => .inr ⟨rfl, h⟩
      · rintro (h | h)
        · exact absurd h (List.lt_irrefl a)
        · exact h.2
    · rw [if_neg (fun z => c (of_decide_eq_true z)), decide_eq_decide, List.cons_lt_cons_iff]
      constructor
      · exact fun h => .inl h
      · rintro (h | h)
        · exact h
        · exact absurd h.1 c
theorem lay_lt (A B : List (List Nat)) : PySem.W.dataLt (.tuple (A.map natP)) (.tuple (B.map natP)) = decide (A < B) := rows_lt A B
abbrev RR := List (List Nat)
theorem rr_trans {a b c : RR} (h : a < b) (h2 : b < c) : a < c := List.lt_trans h h2
theorem rr_irr (a : RR) : ¬ a < a := List.lt_irrefl a
theorem rr_tri (a b : RR) : a < b ∨ a = b ∨ b < a := by
  by_cases h : a < b
  · exact .inl h
  · by_cases h2 : b < a
    · exact .inr (.inr h2)
    · exact .inr (.inl (List.le_antisymm (List.not_lt.mp h2) (List.not_lt.mp h)))
/-- the last rows are alike: the rows ahead decide -/
theorem rr_snoc : ∀ {a b : RR} (x y : List Nat), a.length = b.length → (a ++ [x] < b ++ [y] ↔ a < b ∨ (a = b ∧ x < y))
  | [], [], x, y, _ => by
    rw [List.nil_append, List.nil_append, List.cons_lt_cons_iff]
    constructor
    · rintro (h | h)
      · exact .inr ⟨rfl, h⟩
      · exact absurd h.2 (List.lt_irrefl _)
    · rintro (h | h)
      · exact absurd h (List.lt_irrefl _)
      · exact .inl h.2
  | a :: A, b :: B, x, y, h => by
    rw [List.cons_append, List.cons_append, List.cons_lt_cons_iff, List.cons_lt_cons_iff, rr_snoc x y (by simpa using h)]
    constructor
    · rintro (h | ⟨h1, h2 | h2⟩)
      · exact .inl (.inl h)
      · exact .inl (.inr ⟨h1, h2⟩)
      · exact .inr ⟨by rw [h1, h2.1], h2.2⟩
    · rintro ((h | h) | ⟨h1, h2⟩)
      · exact .inl h
      · exact .inr ⟨h.1, .inl h.2⟩
      · cases h1
        exact .inr ⟨rfl, .inr ⟨rfl, h2⟩⟩

/-! ### ways: rows of numbers, one for each rod -/
structure Way (s : ShopT) (tg lens r : List Nat) (R : RR) : Prop where
  ln : R.length = lens.length
  rl : ∀ q ∈ R, q.length = s.pieces.length
  fit : ∀ p ∈ lens.zip R, sizeW s.ws p.2 ≤ p.1 + s.kerf
  rn : r.length = s.pieces.length
  sum : ∀ i, i < s.pieces.length → r.getD i 0 + (colSum s.pieces.length R).getD i 0 = tg.getD i 0
section
variable {s : ShopT} {tg lens r : List Nat} {len : Nat} {R : RR}
theorem rep_at {n i : Nat} (h : i < n) : (List.replicate n 0).getD i 0 = 0 := by
  rw [List.getD_eq_getElem?_getD, List.getElem?_replicate, if_pos h]
  rfl
theorem Way.start (h : tg.length = s.pieces.length) : Way s tg [] tg [] := ⟨rfl, (fun q hq => nomatch hq), (fun p hp => nomatch hp), h, fun i hi => by
  rw [colSum_nil, rep_at hi]
  exact Nat.add_zero _⟩
theorem zip_snoc {α β : Type} : ∀ {as : List α} {bs : List β} (a : α) (b : β), as.length = bs.length → (as ++ [a]).zip (bs ++ [b]) = as.zip bs ++ [(a, b)]
  | [], [], _, _, _ => rfl
  | _ :: _, _ :: _, a, b, h => by
    rw [List.cons_append, List.cons_append, List.zip_cons_cons, List.zip_cons_cons, zip_snoc a b (by simpa using h), List.cons_append]
theorem Way.le (h : Way s tg lens r R) (i : Nat) (hi : i < s.pieces.length) : r.getD i 0 ≤ tg.getD i 0 := by
  have := h.sum i hi
  omega
theorem col_snoc_at {q : List Nat} (hq : q.length = s.pieces.length) {i : Nat} (hi : i < s.pieces.length) : (colSum s.pieces.length (R ++ [q])).getD i 0 = (colSum s.pieces.length R).getD i 0 + q.getD i 0 := by
  rw [colSum_snoc R hq, addV_at (by rw [colSum_len, hq]) (by rw [colSum_len]; exact hi)]
theorem Way.snoc (h : Way s tg lens r R) {q : List Nat} (hq : FitR s r len q) : Way s tg (lens ++ [len]) (subV r q) (R ++ [q]) where
  ln := by rw [List.length_append, List.length_append, h.ln]; rfl
  rl := fun x hx => by
    rcases List.mem_append.mp hx with hx | hx
    · exact h.rl x hx
    · rw [List.mem_singleton] at hx
      subst hx
      exact hq.ln
  fit := fun p hp => by
    rw [zip_snoc _ _ h.ln.symm] at hp
    rcases List.mem_append.mp hp with hp | hp
    · exact h.fit p hp
    · rw [List.mem_singleton] at hp
      subst hp
      exact hq.sz
  rn := by rw [subV_len (by rw [h.rn, hq.ln]), h.rn]
  sum := fun i hi => by
    have h1 := h.sum i hi
    have h2 := hq.le i hi
    rw [subV_at (by rw [h.rn, hq.ln]) (by rw [h.rn]; exact hi), col_snoc_at hq.ln hi]
    omega
theorem row_ext {a b : List Nat} (h : a.length = b.length) (hi : ∀ i, i < a.length → a.getD i 0 = b.getD i 0) : a = b := by
  apply List.ext_getElem h
  intro i h1 h2
  have := hi i h1
  rw [List.getD_eq_getElem?_getD, List.getD_eq_getElem?_getD, List.getElem?_eq_getElem h1, List.getElem?_eq_getElem h2] at this
  exact this
theorem Way.unsnoc (h : Way s tg (lens ++ [len]) r R) : ∃ r0 q R0, R = R0 ++ [q] ∧ Way s tg lens r0 R0 ∧ FitR s r0 len q ∧ r = subV r0 q := by
  have hln := h.ln
  rw [List.length_append] at hln
  have hne : R ≠ [] := fun z => by rw [z] at hln; simp at hln
  obtain ⟨R0, q, e⟩ : ∃ R0 q, R = R0 ++ [q] := ⟨R.dropLast, R.getLast hne, (List.dropLast_concat_getLast hne).symm⟩
  subst e
  have hl0 : R0.length = lens.length := by rw [List.length_append] at hln; simpa using hln
  have hq : q.length = s.pieces.length := h.rl q (by simp)
  have hrq : r.length = q.length := by rw [h.rn, hq]
  have hfit := h.fit
  rw [zip_snoc _ _ hl0.symm] at hfit
  have hadd : (addV r q).length = s.pieces.length := by rw [addV_len hrq, h.rn]
  refine ⟨addV r q, q, R0, rfl, ⟨hl0, fun x hx => h.rl x (List.mem_append_left _ hx), fun p hp => hfit p (List.mem_append_left _ hp), hadd, fun i hi => ?_⟩, ⟨hq, fun i hi => ?_, hfit (len, q) (by simp)⟩, ?_⟩
  · have := h.sum i hi
    rw [col_snoc_at hq hi] at this
    rw [addV_at hrq (by rw [h.rn]; exact hi)]
    omega
  · rw [addV_at hrq (by rw [h.rn]; exact hi)]
    omega
  · refine row_ext (by rw [subV_len (by rw [hadd, hq]), hadd, h.rn]) fun i hi => ?_
    rw [subV_at (by rw [hadd, hq]) (by rw [hadd, ← h.rn]; exact hi), addV_at hrq hi]
    omega
/-- the least way -/
def Lst (s : ShopT) (tg lens r : List Nat) (R : RR) : Prop := Way s tg lens r R ∧ ∀ R', Way s tg lens r R' → ¬ R' < R
theorem Lst.uniq {R' : RR} (h : Lst s tg lens r R) (h' : Lst s tg lens r R') : R = R' := by
  rcases rr_tri R R' with c | c | c
  · exact absurd c (h'.2 _ h.1)
  · exact c
  · exact absurd c (h.2 _ h'.1)
end
/-! ### dicts of rows of rows -/
abbrev PD := List (List Nat × RR)
def encL (N : PD) : List Ent := N.map fun e => (e.1, layD e.2)
def putP (N : PD) (r : List Nat) (W : RR) : PD := if r ∈ N.map (·.1) then N.map (fun q => if q.1 = r then (q.1, W) else q) else N ++ [(r, W)]
def bestP (N : PD) (r : List Nat) (W : RR) : PD := match N.find? fun q => decide (q.1 = r) with
  | none => putP N r W
  | some q => if W < q.2 then putP N r W else N
theorem encL_keys (N : PD) : (encL N).map (·.1) = N.map (·.1) := by
  unfold encL
  rw [List.map_map]
  rfl
theorem encL_put (N : PD) (r : List Nat) (W : RR) : putE (encL N) r (layD W) = encL (putP N r W) := by
  unfold putE putP
  rw [encL_keys]
  by_cases c : r ∈ N.map (·.1)
  · rw [if_pos c, if_pos c]
    unfold encL
    rw [List.map_map, List.map_map]
    refine List.map_congr_left fun q _ => ?_
    show (if q.1 = r then (q.1, layD W) else (q.1, layD q.2)) = ((if q.1 = r then (q.1, W) else q).1, layD (if q.1 = r then (q.1, W) else q).2)
    by_cases e : q.1 = r
    · rw [if_pos e, if_pos e]
    · rw [if_neg e, if_neg e]
  · rw [if_neg c, if_neg c]
    unfold encL
    rw [List.map_append]
    rfl
/-- the pairs P have been put in, for each row the least -/
structure NOk (P N : PD) : Prop where
  nd : (N.map (·.1)).Nodup
  val : ∀ e ∈ N, e ∈ P ∧ ∀ p ∈ P, p.1 = e.1 → ¬ p.2 < e.2
  cov : ∀ p ∈ P, p.1 ∈ N.map (·.1)
theorem NOk.nil : NOk [] [] := ⟨List.nodup_nil, (fun e he => nomatch he), (fun p hp => nomatch hp)⟩
theorem putP_keys (N : PD) (r : List Nat) (W : RR) : (putP N r W).map (·.1) = if r ∈ N.map (·.1) then N.map (·.1) else N.map (·.1) ++ [r] := by
  unfold putP
  split
  · rw [List.map_map]
    refine List.map_congr_left fun q _ => ?_
    show (if q.1 = r then (q.1, W) else q).1 = q.1
    split <;> rfl
  · rw [List.map_append]
    rfl
theorem putP_nd {N : PD} (h : (N.map (·.1)).Nodup) (r : List Nat) (W : RR) : ((putP N r W).map (·.1)).Nodup := by
  rw [putP_keys]
  split
  · exact h
  · rename_i hr
    rw [List.nodup_append]
    refine ⟨h, by simp, fun a ha b hb => ?_⟩
    rw [List.mem_singleton] at hb
    subst hb
    exact fun z => hr (z ▸ ha)
theorem putP_mem {N : PD} {r : List Nat} {W : RR} {e : List Nat × RR} (h : e ∈ putP N r W) : e = (r, W) ∨ (e ∈ N ∧ e.1 ≠ r) := by
  unfold putP at h
  split at h
  · obtain ⟨q, hq, rfl⟩ := List.mem_map.mp h
    by_cases c : q.1 = r
    · rw [if_pos c, c]
      exact .inl rfl
    · rw [if_neg c]
      exact .inr ⟨hq, c⟩
  · rename_i hr
    rcases List.mem_append.mp h with h | h
    · exact .inr ⟨h, fun z => hr (List.mem_map.mpr ⟨e, h, z⟩)⟩
    · exact .inl (List.mem_singleton.mp h)
theorem nd_eq {e q : List Nat × RR} : ∀ {N : PD}, (N.map (·.1)).Nodup → e ∈ N → q ∈ N → e.1 = q.1 → e = q
  | a :: N, hn, h1, h2, e3 => by
    rw [List.map_cons, List.nodup_cons] at hn
    rcases List.mem_cons.mp h1 with g1 | g1
    · rcases List.mem_cons.mp h2 with g2 | g2
      · rw [g1, g2]
      · have z : a.1 ∈ N.map (·.1) := List.mem_map.mpr ⟨q, g2, by rw [← g1]; exact e3.symm⟩
        exact absurd z hn.1
    · rcases List.mem_cons.mp h2 with g2 | g2
      · have z : a.1 ∈ N.map (·.1) := List.mem_map.mpr ⟨e, g1, by rw [← g2]; exact e3⟩
        exact absurd z hn.1
      · exact nd_eq hn.2 g1 g2 e3
theorem NOk.best {P N : PD} (h : NOk P N) (r : List Nat) (W : RR) : NOk (P ++ [(r, W)]) (bestP N r W) := by
  have put : (∀ p ∈ P, p.1 = r → ¬ p.2 < W) → NOk (P ++ [(r, W)]) (putP N r W) := fun hw => ⟨putP_nd h.nd r W, fun e he => by
    rcases putP_mem he with rfl | ⟨he, hne⟩
    · refine ⟨by simp, fun p hp e => ?_⟩
      rcases List.mem_append.mp hp with hp | hp
      · exact hw p hp e
      · rw [List.mem_singleton.mp hp]
        exact rr_irr _
    · obtain ⟨h1, h2⟩ := h.val e he
      refine ⟨List.mem_append_left _ h1, fun p hp ep => ?_⟩
      rcases List.mem_append.mp hp with hp | hp
      · exact h2 p hp ep
      · rw [List.mem_singleton.mp hp] at ep
        exact absurd ep.symm hne, fun p hp => by
    rw [putP_keys]
    rcases List.mem_append.mp hp with hp | hp
    · have := h.cov p hp
      split
      · exact this
      · exact List.mem_append_left _ this
    · rw [List.mem_singleton.mp hp]
      split
      · assumption
      · simp⟩
  unfold bestP
  cases c : N.find? fun q => decide (q.1 = r) with
  | none =>
    refine put fun p hp e => ?_
    obtain ⟨q, hq, e2⟩ := List.mem_map.mp (h.cov p hp)
    have := List.find?_eq_none.mp c q hq
    exact absurd (decide_eq_true (e2.trans e)) this
  | some q =>
    have hq := List.mem_of_find?_eq_some c
    have eq : q.1 = r := of_decide_eq_true (List.find?_some (p := fun q : List Nat × RR => decide (q.1 = r)) c)
    obtain ⟨h1, h2⟩ := h.val q hq
    show NOk _ (if W < q.2 then putP N r W else N)
    by_cases lt : W < q.2
    · rw [if_pos lt]
      exact put fun p hp e z => h2 p hp (e.trans eq.symm) (rr_trans z lt)
    · rw [if_neg lt]
      refine ⟨h.nd, fun e he => ?_, fun p hp => ?_⟩
      · obtain ⟨h3, h4⟩ := h.val e he
        refine ⟨List.mem_append_left _ h3, fun p hp ep => ?_⟩
        rcases List.mem_append.mp hp with hp | hp
        · exact h4 p hp ep
        · rw [List.mem_singleton.mp hp] at ep ⊢
          have : e = q := by
            exact nd_eq h.nd he hq (by rw [eq]; exact ep.symm)
          rw [this]
          exact lt
      · rcases List.mem_append.mp hp with hp | hp
        · exact h.cov p hp
        · rw [List.mem_singleton.mp hp]
          exact List.mem_map.mpr ⟨q, hq, eq⟩
/-- a layer: for each rest the least way to it -/
structure LayY (s : ShopT) (tg lens : List Nat) (L : PD) : Prop where
  nd : (L.map (·.1)).Nodup
  val : ∀ e ∈ L, Lst s tg lens e.1 e.2
  cov : ∀ r R, Way s tg lens r R → r ∈ L.map (·.1)
/-- all pairs that a layer leads to -/
def Leads (s : ShopT) (len : Nat) (L P : PD) : Prop := ∀ p, p ∈ P ↔ ∃ e ∈ L, ∃ q, FitR s e.1 len q ∧ p = (subV e.1 q, e.2 ++ [q])
theorem LayY.start {s : ShopT} {tg : List Nat} (h : tg.length = s.pieces.length) : LayY s tg [] [(tg, [])] where
  nd := by simp
  val := fun e he => by
    rw [List.mem_singleton.mp he]
    refine ⟨Way.start h, fun R' hR' => ?_⟩
    rw [List.eq_nil_of_length_eq_zero hR'.ln]
    exact rr_irr _
  cov := fun r R hR => by
    have e1 := List.eq_nil_of_length_eq_zero hR.ln
    subst e1
    rw [List.map_cons, List.map_nil, List.mem_singleton]
    refine row_ext (by rw [hR.rn, h]) fun i hi => ?_
    have hi' : i < s.pieces.length := by rw [← hR.rn]; exact hi
    have := hR.sum i hi'
    rw [colSum_nil, rep_at hi'] at this
    exact this
theorem LayY.next {s : ShopT} {tg lens : List Nat} {len : Nat} {L P N : PD} (h : LayY s tg lens L) (hP : Leads s len L P) (hN : NOk P N) : LayY s tg (lens ++ [len]) N where
  nd := hN.nd
  val := fun e he => by
    obtain ⟨h1, h2⟩ := hN.val e he
    obtain ⟨b, hb, q, hq, ee⟩ := (hP e).mp h1
    have hw := (h.val b hb).1.snoc hq
    refine ⟨by rw [ee]; exact hw, fun R' hR' lt => ?_⟩
    obtain ⟨r0, q', R0, e1, hw0, hq', e2⟩ := hR'.unsnoc
    obtain ⟨b0, hb0, eb⟩ := List.mem_map.mp (h.cov r0 R0 hw0)
    have hbest := (h.val b0 hb0).2 R0 (by rw [eb]; exact hw0)
    have hmem : (subV b0.1 q', b0.2 ++ [q']) ∈ P := (hP _).mpr ⟨b0, hb0, q', by rw [eb]; exact hq', rfl⟩
    have hno := h2 _ hmem (by rw [e2, ← eb])
    have hll : b0.2.length = R0.length := by rw [(h.val b0 hb0).1.ln, hw0.ln]
    rcases rr_tri b0.2 R0 with c | c | c
    · exact hno (rr_trans ((rr_snoc q' q' hll).mpr (.inl c)) (e1 ▸ lt))
    · exact hno (by rw [c, ← e1]; exact lt)
    · exact hbest c
  cov := fun r R hR => by
    obtain ⟨r0, q, R0, e1, hw0, hq, e2⟩ := hR.unsnoc
    obtain ⟨b0, hb0, eb⟩ := List.mem_map.mp (h.cov r0 R0 hw0)
    have := hN.cov _ ((hP _).mpr ⟨b0, hb0, q, by rw [eb]; exact hq, rfl⟩)
    rw [e2, ← eb]
    exact this
/-! ### how many rests there are -/
/-- shops of few pieces, few of them wanted -/
structure ShY (s : ShopT) : Prop where
  sh : Sh s
  w3 : ∀ x ∈ s.pieces, x.2.2 ≤ 3
def ShopT.tg (s : ShopT) : List Nat := s.pieces.map (·.2.2)
theorem tg_len (s : ShopT) : s.tg.length = s.pieces.length := List.length_map ..
theorem ShY.tg3 {s : ShopT} (h : ShY s) (i : Nat) : s.tg.getD i 0 ≤ 3 := by
  rw [List.getD_eq_getElem?_getD]
  unfold ShopT.tg
  rw [List.getElem?_map]
  cases c : s.pieces[i]? with
  | none => simp
  | some x => exact h.w3 x (List.mem_of_getElem? c)
theorem size_box : ∀ (ws r : List Nat), (∀ w ∈ ws, w ≤ 10) → (∀ i, r.getD i 0 ≤ 3) → sizeW ws r ≤ 30 * ws.length
  | [], r, _, _ => by cases r <;> simp [sizeW]
  | w :: ws, [], _, _ => by simp [sizeW]
  | w :: ws, k :: r, h1, h2 => by
    have ih := size_box ws r (fun x hx => h1 x (List.mem_cons_of_mem _ hx)) fun i => by
      have := h2 (i + 1)
      simpa using this
    have a := h1 w List.mem_cons_self
    have b : k ≤ 3 := by have := h2 0; simpa using this
    have c : k * w ≤ 3 * 10 := Nat.mul_le_mul b a
    show k * w + sizeW ws r ≤ 30 * (ws.length + 1)
    omega
theorem Rw90 : Rw (List.replicate 3 1) 90 ≤ 200000 := by
  rw [← Rf_eq 200 _ _ (by decide)]
  decide +kernel
theorem rests_few {s : ShopT} (h : ShY s) {N : PD} (nd : (N.map (·.1)).Nodup) (hN : ∀ e ∈ N, e.1.length = s.pieces.length ∧ ∀ i, i < s.pieces.length → e.1.getD i 0 ≤ s.tg.getD i 0) : N.length ≤ 200000 := by
  have hs := h.sh
  have e : (rowsW s.ws 90).length = Rw s.ws 90 := by unfold rowsW; rw [List.length_map, rows_len _ _ hs.pos]
  have e2 : Rw s.ws 90 ≤ 200000 := Nat.le_trans (Rw_narrow (v := 1) (by decide) s.ws 3 90 90 (fun w hw => hs.pos w hw) (by rw [ws_len]; exact hs.p3) (by omega)) Rw90
  refine Nat.le_trans ?_ e2
  rw [← e, ← List.length_map (f := fun q : List Nat × RR => q.1)]
  refine sub_len nd fun r hr => ?_
  obtain ⟨q, hq, rfl⟩ := List.mem_map.mp hr
  obtain ⟨h1, h2⟩ := hN q hq
  refine (rowsW_mem hs.pos).mpr ⟨by rw [ws_len]; exact h1, ?_⟩
  have hw10 : ∀ w ∈ s.ws, w ≤ 10 := fun w hw => by
    obtain ⟨p, hp, rfl⟩ := List.mem_map.mp hw
    have := hs.pl p hp
    have := hs.kf
    omega
  have := size_box s.ws q.1 hw10 fun i => by
    by_cases hi : i < s.pieces.length
    · exact Nat.le_trans (h2 i hi) (h.tg3 i)
    · rw [List.getD_eq_getElem?_getD, List.getElem?_eq_none (by omega)]
      simp
  rw [ws_len] at this
  have := hs.p3
  omega

/-! ### the least yield, rod by rod -/
theorem getS_at {S : Sto} {j : Nat} {lk : Bool} {L : List Ent} (h : S[j]? = some (.t lk (kdsOf L))) (r : List Nat) (z : D) : getS S (.mref j) (natT r) z = some (((L.find? fun q => decide (q.1 = r)).map (·.2)).getD z) := by
  show (S[j]?.bind fun m => if okM m (natT r) then some ((getM m (natT r)).getD z) else none) = _
  rw [h]
  show (if ((keysD (natT r)).isSome) = true then some (((keysD (natT r)).bind (valK (kdsOf L))).getD z) else none) = _
  rw [keys_natT]
  show some ((valK (kdsOf L) (keyR r)).getD z) = _
  rw [val_kds]
theorem find_encL (N : PD) (r : List Nat) : (encL N).find? (fun q => decide (q.1 = r)) = (N.find? fun q => decide (q.1 = r)).map fun e => (e.1, layD e.2) := by
  unfold encL
  rw [List.find?_map]
  rfl
theorem less_ok {a b : List Nat} (h : a.length ≤ 1000) (hl : a.length = b.length) (hle : ∀ i, i < a.length → b.getD i 0 ≤ a.getD i 0) (S : Sto) : m_less_of [natT a, natT b] S = .ok (natT (subV a b)) S := by
  have hsub := zip_le hl hle
  unfold m_less_of b_less_of
  simp -implicitDefEqProofs [-Int.natCast_add]
  rw [zip_nat (fun (n : Nat) => D.int (n : Int)), compL_map (g := fun p => D.int ((p.1 - p.2 : Nat) : Int)) _ (fun p hp => by
    have := hsub p hp
    simp -implicitDefEqProofs [-Int.natCast_add]
    omega)]
  have hz : ((a.zip b).map fun p => D.int ((p.1 - p.2 : Nat) : Int)).length ≤ sizeLine := by rw [List.length_map, List.length_zip, szl]; omega
  have e : ((a.zip b).map fun p => D.int ((p.1 - p.2 : Nat) : Int)) = (subV a b).map fun (n : Nat) => D.int (n : Int) := by
    unfold subV
    rw [List.map_map]
    rfl
  rw [e] at hz ⊢
  rw [List.length_map] at hz
  simp -implicitDefEqProofs [-Int.natCast_add, hz]
theorem lminus_ok {a b : List Nat} (h : a.length ≤ 1000) (hl : a.length = b.length) (hle : ∀ i, i < a.length → b.getD i 0 ≤ a.getD i 0) (S : Sto) : m__law_minus [natT a, natT b] S = .ok (natT (subV a b)) S := by
  have hsub := zip_le hl hle
  unfold m__law_minus b__law_minus
  simp -implicitDefEqProofs [-Int.natCast_add]
  rw [zip_nat (fun (n : Nat) => D.int (n : Int)), compL_map (g := fun p => D.int ((p.1 - p.2 : Nat) : Int)) _ (fun p hp => by
    have := hsub p hp
    simp -implicitDefEqProofs [-Int.natCast_add]
    omega)]
  have hz : ((a.zip b).map fun p => D.int ((p.1 - p.2 : Nat) : Int)).length ≤ sizeLine := by rw [List.length_map, List.length_zip, szl]; omega
  have e : ((a.zip b).map fun p => D.int ((p.1 - p.2 : Nat) : Int)) = (subV a b).map fun (n : Nat) => D.int (n : Int) := by
    unfold subV
    rw [List.map_map]
    rfl
  rw [e] at hz ⊢
  rw [List.length_map] at hz
  simp -implicitDefEqProofs [-Int.natCast_add, hz]
theorem wanted_row_ok {s : ShopT} (hz : s.pieces.length ≤ 1000) (S : Sto) : m_wanted_row [s.o] S = .ok (natT s.tg) S := by
  have ha : attrD at_pieces "pieces" s.o S = .ok (.tup (s.pieces.map pieceD)) S := sh_pieces _ _ _ S
  unfold m_wanted_row b_wanted_row
  simp -implicitDefEqProofs [-Int.natCast_add, ha]
  rw [compL_map (enc := pieceD) (g := fun p => D.int (p.2.2 : Int)) s.pieces (fun p hp => by
    unfold pieceD
    simp -implicitDefEqProofs [-Int.natCast_add])]
  have e : (s.pieces.map fun p => D.int (p.2.2 : Int)) = s.tg.map fun (n : Nat) => D.int (n : Int) := by
    unfold ShopT.tg
    rw [List.map_map]
    rfl
  have hz' : s.tg.length ≤ sizeLine := by rw [tg_len, szl]; omega
  rw [e]
  simp -implicitDefEqProofs [-Int.natCast_add, hz']
theorem lwanted_ok {s : ShopT} (hz : s.pieces.length ≤ 1000) (S : Sto) : m__law_wanted [s.t] S = .ok (natT s.tg) S := by
  have ht1 : dIx s.t (.int 1) = some (.tup (s.pieces.map pieceD)) := d_ix1 _ _ _
  unfold m__law_wanted b__law_wanted
  simp -implicitDefEqProofs [-Int.natCast_add, ht1]
  rw [compL_map (enc := pieceD) (g := fun p => D.int (p.2.2 : Int)) s.pieces (fun p hp => by
    have h2 : dIx (pieceD p) (.int 2) = some (.int (p.2.2 : Int)) := d_ix2 _ _ _ _
    simp -implicitDefEqProofs [-Int.natCast_add, h2])]
  have e : (s.pieces.map fun p => D.int (p.2.2 : Int)) = s.tg.map fun (n : Nat) => D.int (n : Int) := by
    unfold ShopT.tg
    rw [List.map_map]
    rfl
  have hz' : s.tg.length ≤ sizeLine := by rw [tg_len, szl]; omega
  rw [e]
  simp -implicitDefEqProofs [-Int.natCast_add, hz']
def zeroR (s : ShopT) : List Nat := List.replicate s.pieces.length 0
/-- what the least yield is: none, or the least way that leaves nothing wanted -/
def YieldD (s : ShopT) (lens : List Nat) (d : D) : Prop := (d = .non ∧ ∀ R, ¬ Way s s.tg lens (zeroR s) R) ∨ ∃ R, d = layD R ∧ Lst s s.tg lens (zeroR s) R
/-- a layer while the next is made -/
structure MkL (s : ShopT) (lens : List Nat) (len : Nat) (L0 P N : PD) : Prop where
  ok : NOk P N
  pr : ∀ p, p ∈ P ↔ ∃ e ∈ L0, ∃ q, FitR s e.1 len q ∧ p = (subV e.1 q, e.2 ++ [q])
theorem mk_few {s : ShopT} (h : ShY s) {lens : List Nat} {len : Nat} {L P N : PD} (hL : LayY s s.tg lens L) (hN : NOk P N) (hP : ∀ p ∈ P, ∃ e ∈ L, ∃ q, FitR s e.1 len q ∧ p = (subV e.1 q, e.2 ++ [q])) : N.length ≤ 200000 :=
  rests_few h hN.nd fun e he => by
    obtain ⟨b, hb, q, hq, ee⟩ := hP e (hN.val e he).1
    have hw := (hL.val b hb).1.snoc hq
    rw [ee]
    exact ⟨hw.rn, hw.le⟩
theorem lay_end {s : ShopT} {lens : List Nat} {L : PD} (h : LayY s s.tg lens L) : YieldD s lens ((((encL L).find? fun q => decide (q.1 = zeroR s)).map (·.2)).getD .non) := by
  rw [find_encL, Option.map_map]
  cases c : L.find? fun q => decide (q.1 = zeroR s) with
  | none =>
    refine .inl ⟨rfl, fun R hR => ?_⟩
    obtain ⟨q, hq, e⟩ := List.mem_map.mp (h.cov _ _ hR)
    exact absurd (decide_eq_true e) (List.find?_eq_none.mp c q hq)
  | some q =>
    have hq := List.mem_of_find?_eq_some c
    have eq : q.1 = zeroR s := of_decide_eq_true (List.find?_some (p := fun q : List Nat × RR => decide (q.1 = zeroR s)) c)
    exact .inr ⟨q.2, rfl, by rw [← eq]; exact h.val q hq⟩
/-- what the first k rows lead to -/
def pairsK (r : List Nat) (R : RR) (RS : List (List Nat)) (k : Nat) : PD := (RS.take k).map fun q => (subV r q, R ++ [q])

/-! ### yield_by -/
theorem yield_by_ok {s : ShopT} (hy : ShY s) {ld : D} {lens : List Nat} (hit : itA ld = some (lens.map fun (n : Nat) => D.int (n : Int))) (hll : lens.length ≤ 6) (hle : ∀ l ∈ lens, l ≤ 15) : (m_yield_by [s.o, ld] []).post fun d _ => YieldD s lens d := by
  have hs := hy.sh
  have hp3 := hs.p3
  have hm1 := hs.pc.len.1
  have hz0 := zero_row (n := s.pieces.length) hm1 (by omega)
  have hwr := wanted_row_ok (s := s) (by omega) []
  have hap : ∀ S, attrD at_pieces "pieces" s.o S = .ok (.tup (s.pieces.map pieceD)) S := fun S => sh_pieces _ _ _ S
  have htl := tg_len s
  unfold m_yield_by b_yield_by
  have hnew : newT (natT s.tg) (.tup []) [] = .ok (.mref 0) (layS [encL [(s.tg, [])]]) := by
    unfold newT
    rw [keys_natT]
    rfl
  simp -implicitDefEqProofs [-Int.natCast_add, hwr, hnew, hit]
  refine then_post (P := fun o S' => ∃ ρ' Ds L, o = .nx ρ' ∧ S' = layS (Ds ++ [encL L]) ∧ Ds.length = lens.length ∧ LayY s s.tg lens L ∧ St [some (s.o), none, some (.lst (refs (Ds.length + 1))), none, none, none, none, none, none] ρ') (forL_map (enc := fun (n : Nat) => D.int (n : Int)) (P := fun j ρ S' => ∃ Ds L, S' = layS (Ds ++ [encL L]) ∧ Ds.length = j ∧ LayY s s.tg (lens.take j) L ∧ St [some (s.o), none, some (.lst (refs (Ds.length + 1))), none, none, none, none, none, none] ρ) lens ⟨[], _, rfl, rfl, LayY.start htl, ?_⟩ (fun j len hj ρ S ⟨Df, L, e1, hfl, hL, h⟩ => ?_) fun ρ S ⟨Df, L, e1, e2, hL, h⟩ => ⟨ρ, Df, L, rfl, e1, e2, by rw [List.take_of_length_le (Nat.le_refl _)] at hL; exact hL, ?_⟩) fun o S' ⟨ρ, Df, L, e, e1, e2, hL, h⟩ => ?_
  · simp [refs]
  · repeat (first | (replace h := St.some h; obtain ⟨_, rfl, h⟩ := h) | (replace h := St.none h; obtain ⟨_, _, rfl, h⟩ := h))
    cases St.nil h
    have hjl := (List.getElem?_eq_some_iff.mp hj).1
    have hl15 := hle len (List.mem_of_getElem? hj)
    subst e1
    have hrf : (Df ++ [encL L]).length = Df.length + 1 := by rw [List.length_append]; rfl
    simp -implicitDefEqProofs [-Int.natCast_add]
    have hsn : layS (Df ++ [encL L]) ++ [MO.t false []] = midS (layS Df) false (encL L) (encL []) := layS_snoc Df (encL L) []
    rw [layS_len, hrf, hsn]
    have hFl : (layS Df).length = j := by rw [layS_len]; exact hfl
    have hback : ∀ N, midS (layS Df) false (encL L) (encL N) = layS (Df ++ [encL L] ++ [encL N]) := fun N => layS_mid Df (encL L) (encL N)
    have hD1 : Df.length + 1 = (layS Df).length + 1 := by rw [layS_len]
    rw [hD1]
    clear hD1
    generalize layS Df = F at *
    subst hFl
    have hlast := refs_last F.length
    have hnext : LayY s s.tg (lens.take F.length) L := hL
    refine then_post (P := fun o S' => ∃ ρ', o = .nx ρ' ∧ ∃ N, S' = midS F false (encL L) (encL N) ∧ LayY s s.tg (lens.take (F.length + 1)) N ∧ St [some (s.o), none, some (.lst (refs (F.length + 1))), none, some (.mref (F.length + 1)), none, none, none, none] ρ') (lock_post (j := F.length) (kds := kdsOf (encL L)) (P := fun ρ' S' => ∃ N, S' = midS F false (encL L) (encL N) ∧ LayY s s.tg (lens.take (F.length + 1)) N ∧ St [some (s.o), none, some (.lst (refs (F.length + 1))), none, some (.mref (F.length + 1)), none, none, none, none] ρ') ?_ (mid_at F false (encL L) (encL [])) ?_) fun o S' ⟨ρ, e, N, e1, hN, h⟩ => ?_
    · simp -implicitDefEqProofs [-Int.natCast_add, hlast]
    · rw [mid_set, e_for, itd_mid (by simp -implicitDefEqProofs [-Int.natCast_add, hlast])]
      show (forL _ _ _ _).post _
      have emap : ((encL L).map fun q => natT q.1) = L.map fun q => natT q.1 := by unfold encL; rw [List.map_map]; rfl
      rw [emap]
      refine forL_map (enc := fun q : List Nat × RR => natT q.1) (P := fun i ρ S' => ∃ P N, S' = midS F true (encL L) (encL N) ∧ MkL s (lens.take F.length) len (L.take i) P N ∧ St [some (s.o), none, some (.lst (refs (F.length + 1))), some (.int (len : Int)), some (.mref (F.length + 1)), none, none, none, none] ρ) L ⟨[], [], rfl, ⟨.nil, fun p => by simp⟩, by simp⟩ (fun i q hi ρ S' ⟨P, N, e1, hM, h⟩ => ?_) fun ρ S' ⟨P, N, e1, hM, h⟩ => ⟨ρ, rfl, kdsOf (encL L), ?_, N, ?_, ?_, ?_⟩
      · repeat (first | (replace h := St.some h; obtain ⟨_, rfl, h⟩ := h) | (replace h := St.none h; obtain ⟨_, _, rfl, h⟩ := h))
        cases St.nil h
        subst e1
        have hqm := List.mem_of_getElem? hi
        have hq := (hL.val q hqm).1
        obtain ⟨r, R⟩ := q
        have hrl : r.length = s.pieces.length := hq.rn
        have hRl : R.length = F.length := by rw [hq.ln, List.length_take]; omega
        have hndE : ((encL L).map (·.1)).Nodup := by rw [encL_keys]; exact hL.nd
        have hqE : (r, layD R) ∈ encL L := List.mem_map.mpr ⟨(r, R), hqm, rfl⟩
        have hix := fun N => mid_ix (F := F) (lk := true) (N := N) hndE hqE
        obtain ⟨RS, er, hRl8, hRS⟩ := rows_for_x hs (w := r) hrl hl15 (midS F true (encL L) (encL N))
        simp -implicitDefEqProofs [-Int.natCast_add, er]
        refine Res.post_mono (forL_map (enc := natT) (P := fun k ρ S' => ∃ P2 N, S' = midS F true (encL L) (encL N) ∧ NOk P2 N ∧ (P2 = P ++ pairsK r R RS k) ∧ St [some (s.o), none, some (.lst (refs (F.length + 1))), some (.int (len : Int)), some (.mref (F.length + 1)), some (natT r), none, none, none] ρ) (Q := fun o S' => ∃ ρ', o = .nx ρ' ∧ ∃ P N, S' = midS F true (encL L) (encL N) ∧ MkL s (lens.take F.length) len (L.take (i + 1)) P N ∧ St [some (s.o), none, some (.lst (refs (F.length + 1))), some (.int (len : Int)), some (.mref (F.length + 1)), none, none, none, none] ρ') RS ⟨P, N, rfl, hM.ok, by simp [pairsK], by simp⟩ (fun k more hk ρ S2 ⟨P2, N, e1, hN, eP, h⟩ => ?_) fun ρ S2 ⟨P2, N, e1, hN, eP, h⟩ => ⟨ρ, rfl, P2, N, e1, ⟨hN, fun p => ?_⟩, ?_⟩) fun o S2 ⟨ρ', e, hb⟩ => ?_
        · repeat (first | (replace h := St.some h; obtain ⟨_, rfl, h⟩ := h) | (replace h := St.none h; obtain ⟨_, _, rfl, h⟩ := h))
          cases St.nil h
          subst e1
          have hfit := (hRS more).mp (List.mem_of_getElem? hk)
          have hless := less_ok (a := r) (b := more) (by omega) (by rw [hrl, hfit.ln]) (fun i hi => hfit.le i (by omega)) (midS F true (encL L) (encL N))
          have hixN := hix (encL N)
          have hin := in_at (mid_at2 F true (encL L) (encL N)) true (subV r more)
          have hP2 : ∀ p ∈ P2, ∃ e ∈ L, ∃ q, FitR s e.1 len q ∧ p = (subV e.1 q, e.2 ++ [q]) := fun p hp => by
            rw [eP] at hp
            unfold pairsK at hp
            rcases List.mem_append.mp hp with hp | hp
            · obtain ⟨e, he, rest⟩ := (hM.pr p).mp hp
              exact ⟨e, List.mem_of_mem_take he, rest⟩
            · obtain ⟨q, hq2, rfl⟩ := List.mem_map.mp hp
              exact ⟨(r, R), hqm, q, (hRS q).mp (List.mem_of_mem_take hq2), rfl⟩
          have hNl := mk_few hy hL hN hP2
          have hput := mid_put (F := F) (lk := true) (L := encL L) (N := encL N) (r := subV r more) (d := layD (R ++ [more])) (by unfold encL; rw [List.length_map]; omega)
          rw [encL_put] at hput
          have hcat : dAdd (layD R) (.tup [natT more]) = some (layD (R ++ [more])) := by
            rw [d_add_tup _ _ (by rw [List.length_map, List.length_singleton, szl]; omega)]
            show _ = some (D.tup ((R ++ [more]).map natT))
            rw [List.map_append]
            rfl
          have hbest := hN.best (subV r more) (R ++ [more])
          have eP3 : P2 ++ [(subV r more, R ++ [more])] = P ++ pairsK r R RS (k + 1) := by
            unfold pairsK at *
            rw [take_next hk, List.map_append, eP, List.append_assoc]
            rfl
          rw [eP3] at hbest
          have hdone : ∀ N', bestP N (subV r more) (R ++ [more]) = N' → ∃ P2 N2, midS F true (encL L) (encL N') = midS F true (encL L) (encL N2) ∧ NOk P2 N2 ∧ (P2 = P ++ pairsK r R RS (k + 1)) := fun N' e => ⟨_, N', rfl, by rw [← e]; exact hbest, rfl⟩
          rw [if_pos rfl, encL_keys] at hin
          by_cases c : subV r more ∈ N.map (·.1)
          · obtain ⟨q2, hq2, e2⟩ := List.mem_map.mp c
            have hndN : ((encL N).map (·.1)).Nodup := by rw [encL_keys]; exact hN.nd
            have hq2E : (q2.1, layD q2.2) ∈ encL N := List.mem_map.mpr ⟨q2, hq2, rfl⟩
            have hix2 := mid_ix2 (F := F) (lk := true) (L := encL L) hndN hq2E
            have hf2 := find_in hndN hq2E
            rw [find_encL] at hf2
            have hf3 : N.find? (fun q => decide (q.1 = q2.1)) = some q2 := by
              cases c2 : N.find? fun q => decide (q.1 = q2.1) with
              | none => rw [c2] at hf2; cases hf2
              | some q3 =>
                have hm3 := List.mem_of_find?_eq_some c2
                have e3 : q3.1 = q2.1 := of_decide_eq_true (List.find?_some (p := fun q : List Nat × RR => decide (q.1 = q2.1)) c2)
                exact congrArg some (nd_eq hN.nd hm3 hq2 e3)
            rw [e2] at hix2 hf3
            have hcmp := lay_cmp (fun d e => PySem.W.dataLt d e) (R ++ [more]) q2.2
            rw [lay_lt] at hcmp
            rw [decide_eq_true c] at hin
            have hb1 : R ++ [more] < q2.2 → bestP N (subV r more) (R ++ [more]) = putP N (subV r more) (R ++ [more]) := fun lt => by
              unfold bestP
              rw [hf3]
              exact if_pos lt
            have hb2 : ¬ R ++ [more] < q2.2 → bestP N (subV r more) (R ++ [more]) = N := fun lt => by
              unfold bestP
              rw [hf3]
              exact if_neg lt
            by_cases lt : R ++ [more] < q2.2
            · rw [decide_eq_true lt] at hcmp
              have hd := hdone _ (hb1 lt)
              generalize R ++ [more] = R3 at *
              generalize subV r more = sm at *
              generalize midS F true (encL L) (encL (putP N sm R3)) = S3 at *
              generalize midS F true (encL L) (encL N) = S2 at *
              generalize F.length = J at *
              unfold fBody
              simp -implicitDefEqProofs [-Int.natCast_add, hless, hlast, hixN, hcat, hin, hix2, hcmp, putD', hput, putR, stepP]
              exact hd
            · rw [decide_eq_false lt] at hcmp
              have hd := hdone _ (hb2 lt)
              generalize R ++ [more] = R3 at *
              generalize subV r more = sm at *
              generalize midS F true (encL L) (encL (putP N sm R3)) = S3 at *
              generalize midS F true (encL L) (encL N) = S2 at *
              generalize F.length = J at *
              unfold fBody
              simp -implicitDefEqProofs [-Int.natCast_add, hless, hlast, hixN, hcat, hin, hix2, hcmp, putD', hput, putR, stepP]
              exact hd
          · rw [decide_eq_false c] at hin
            have hb3 : bestP N (subV r more) (R ++ [more]) = putP N (subV r more) (R ++ [more]) := by
              unfold bestP
              rw [show N.find? (fun q => decide (q.1 = subV r more)) = none from List.find?_eq_none.mpr fun q hq2 z => c (List.mem_map.mpr ⟨q, hq2, of_decide_eq_true z⟩)]
            have hd := hdone _ hb3
            generalize R ++ [more] = R3 at *
            generalize subV r more = sm at *
            generalize midS F true (encL L) (encL (putP N sm R3)) = S3 at *
            generalize midS F true (encL L) (encL N) = S2 at *
            generalize F.length = J at *
            unfold fBody
            simp -implicitDefEqProofs [-Int.natCast_add, hless, hlast, hixN, hcat, hin, putD', hput, putR, stepP]
            exact hd
        · unfold pairsK at eP
          rw [eP, List.take_of_length_le (Nat.le_refl _), List.mem_append, hM.pr p, take_next hi]
          constructor
          · rintro (⟨e, he, q, hq2, ep⟩ | hp)
            · exact ⟨e, List.mem_append_left _ he, q, hq2, ep⟩
            · obtain ⟨q, hq2, rfl⟩ := List.mem_map.mp hp
              exact ⟨(r, R), by simp, q, (hRS q).mp hq2, rfl⟩
          · rintro ⟨e, he, q, hq2, ep⟩
            rcases List.mem_append.mp he with he | he
            · exact .inl ⟨e, he, q, hq2, ep⟩
            · rw [List.mem_singleton.mp he] at hq2 ep
              exact .inr (List.mem_map.mpr ⟨q, (hRS q).mpr hq2, ep.symm⟩)
        · repeat (first | (replace h := St.some h; obtain ⟨_, rfl, h⟩ := h) | (replace h := St.none h; obtain ⟨_, _, rfl, h⟩ := h))
          cases St.nil h
          simp
        · subst e
          exact hb
      · rw [e1]
        exact mid_at ..
      · rw [e1, mid_set]
      · have hlead : Leads s len L P := fun p => by
          have := hM.pr p
          rw [List.take_of_length_le (Nat.le_refl _)] at this
          exact this
        have := hL.next hlead hM.ok
        rw [← take_next hj] at this
        exact this
      · repeat (first | (replace h := St.some h; obtain ⟨_, rfl, h⟩ := h) | (replace h := St.none h; obtain ⟨_, _, rfl, h⟩ := h))
        cases St.nil h
        simp
    · subst e e1
      repeat (first | (replace h := St.some h; obtain ⟨_, rfl, h⟩ := h) | (replace h := St.none h; obtain ⟨_, _, rfl, h⟩ := h))
      cases St.nil h
      have happ : mAppend (refs (F.length + 1)) [.mref (F.length + 1)] = some (refs (F.length + 2), .non) := by
        show (if _ then _ else _) = _
        rw [if_pos (by unfold refs; rw [List.length_map, List.length_range, szl]; omega), refs_snoc]
      have hb := hback N
      have hD2 : (Df ++ [encL L]).length = F.length + 1 := by rw [hrf, hfl]
      generalize Df ++ [encL L] = D2 at *
      simp -implicitDefEqProofs [-Int.natCast_add, happ, stepP]
      exact ⟨D2, N, hb, hD2, hN, by rw [hD2]⟩
  · repeat (first | (replace h := St.some h; obtain ⟨_, rfl, h⟩ := h) | (replace h := St.none h; obtain ⟨_, _, rfl, h⟩ := h))
    cases St.nil h
    simp
  · subst e e1
    repeat (first | (replace h := St.some h; obtain ⟨_, rfl, h⟩ := h) | (replace h := St.none h; obtain ⟨_, _, rfl, h⟩ := h))
    cases St.nil h
    have hlast := refs_last Df.length
    have hat : (layS (Df ++ [encL L]))[Df.length]? = some (.t false (kdsOf (encL L))) := layS_at (by rw [List.getElem?_append_right (Nat.le_refl _), Nat.sub_self]; rfl)
    have hget := getS_at hat (zeroR s) .non
    have hend := lay_end hL
    unfold zeroR at hget hend
    generalize layS (Df ++ [encL L]) = S at *
    simp -implicitDefEqProofs [-Int.natCast_add, hlast, hap, hz0, hget]
    exact hend

/-! ### the law's least yield -/
def nextB (most : Nat) (L : List (List Nat)) : List (List Nat) := L.flatMap fun r => (List.range (most + 1)).map fun k => r ++ [k]
theorem nextB_snoc (most : Nat) (L : List (List Nat)) (r : List Nat) : nextB most (L ++ [r]) = nextB most L ++ (List.range (most + 1)).map fun k => r ++ [k] := by
  unfold nextB
  rw [List.flatMap_append, List.flatMap_cons, List.flatMap_nil, List.append_nil]
theorem nextB_len (most : Nat) : ∀ L : List (List Nat), (nextB most L).length = L.length * (most + 1)
  | [] => by simp [nextB]
  | r :: L => by
    have e : nextB most (r :: L) = ((List.range (most + 1)).map fun k => r ++ [k]) ++ nextB most L := by
      unfold nextB
      rw [List.flatMap_cons]
    rw [e, List.length_append, List.length_map, List.length_range, nextB_len most L, List.length_cons, Nat.succ_mul]
    omega
structure BelowJ (w : List Nat) (j : Nat) (L : List (List Nat)) : Prop where
  ln : L.length ≤ 4 ^ j
  all : ∀ r, r ∈ L ↔ r.length = j ∧ ∀ i, i < j → r.getD i 0 ≤ w.getD i 0
theorem BelowJ.next {w : List Nat} {j most : Nat} {L : List (List Nat)} (h : BelowJ w j L) (hm : w.getD j 0 = most) (h3 : most ≤ 3) : BelowJ w (j + 1) (nextB most L) where
  ln := by
    rw [nextB_len, Nat.pow_succ]
    exact Nat.mul_le_mul h.ln (by omega)
  all := fun r => by
    unfold nextB
    rw [List.mem_flatMap]
    constructor
    · rintro ⟨r0, h0, hr⟩
      obtain ⟨k, hk, rfl⟩ := List.mem_map.mp hr
      have hk := List.mem_range.mp hk
      obtain ⟨h1, h2⟩ := (h.all r0).mp h0
      refine ⟨by rw [List.length_append, h1]; rfl, fun i hi => ?_⟩
      rw [List.getD_eq_getElem?_getD]
      by_cases c : i < j
      · rw [List.getElem?_append_left (by omega), ← List.getD_eq_getElem?_getD]
        exact h2 i c
      · have e : i = j := by omega
        subst e
        rw [List.getElem?_append_right (by omega), h1, Nat.sub_self]
        show k ≤ _
        omega
    · rintro ⟨h1, h2⟩
      have hne : r ≠ [] := fun z => by rw [z] at h1; simp at h1
      obtain ⟨r0, k, e⟩ : ∃ r0 k, r = r0 ++ [k] := ⟨r.dropLast, r.getLast hne, (List.dropLast_concat_getLast hne).symm⟩
      subst e
      have hl : r0.length = j := by rw [List.length_append] at h1; simpa using h1
      refine ⟨r0, (h.all r0).mpr ⟨hl, fun i hi => ?_⟩, List.mem_map.mpr ⟨k, List.mem_range.mpr ?_, rfl⟩⟩
      · have := h2 i (by omega)
        rw [List.getD_eq_getElem?_getD, List.getElem?_append_left (by omega), ← List.getD_eq_getElem?_getD] at this
        exact this
      · have := h2 j (by omega)
        rw [List.getD_eq_getElem?_getD, List.getElem?_append_right (by omega), hl, Nat.sub_self] at this
        have : k ≤ w.getD j 0 := this
        omega
theorem below_ok {w : List Nat} (hl : w.length ≤ 3) (h3 : ∀ i, w.getD i 0 ≤ 3) (S : Sto) : ∃ F : List (List Nat), m__law_rows_below [natT w] S = .ok (.lst (F.map natT)) S ∧ F.length ≤ 64 ∧ ∀ r, r ∈ F ↔ r.length = w.length ∧ ∀ i, i < w.length → r.getD i 0 ≤ w.getD i 0 := by
  suffices h : (m__law_rows_below [natT w] S).post fun d S' => S' = S ∧ ∃ F : List (List Nat), d = .lst (F.map natT) ∧ F.length ≤ 64 ∧ ∀ r, r ∈ F ↔ r.length = w.length ∧ ∀ i, i < w.length → r.getD i 0 ≤ w.getD i 0 by
    obtain ⟨d, S', er, e1, F, rfl, h1, h2⟩ := Res.post_ex h
    subst e1
    exact ⟨F, er, h1, h2⟩
  unfold m__law_rows_below b__law_rows_below
  simp -implicitDefEqProofs [-Int.natCast_add]
  refine then_post (P := fun o S' => S' = S ∧ ∃ ρ' L, o = .nx ρ' ∧ BelowJ w w.length L ∧ St [none, some (.lst (L.map natT)), none, none, none, none] ρ') (forL_map (enc := fun (n : Nat) => D.int (n : Int)) (P := fun j ρ S' => S' = S ∧ ∃ L, BelowJ w j L ∧ St [some (natT w), some (.lst (L.map natT)), none, none, none, none] ρ) w ⟨rfl, [[]], ⟨by simp, fun r => ?_⟩, by simp⟩ (fun j most hj ρ S' ⟨e1, L, hL, h⟩ => ?_) fun ρ S' ⟨e1, L, hL, h⟩ => ⟨e1, ρ, L, rfl, hL, ?_⟩) fun o S' ⟨e1, ρ, L, e, hL, h⟩ => ?_
  · rw [List.mem_singleton]
    constructor
    · rintro rfl
      exact ⟨rfl, fun i hi => by omega⟩
    · exact fun h => List.eq_nil_of_length_eq_zero h.1
  · repeat (first | (replace h := St.some h; obtain ⟨_, rfl, h⟩ := h) | (replace h := St.none h; obtain ⟨_, _, rfl, h⟩ := h))
    cases St.nil h
    subst e1
    have hjl := (List.getElem?_eq_some_iff.mp hj).1
    have hmost : w.getD j 0 = most := by rw [List.getD_eq_getElem?_getD, hj]; rfl
    have hm3 : most ≤ 3 := by have := h3 j; omega
    have hN := hL.next hmost hm3
    have hLn : L.length ≤ 16 := Nat.le_trans hL.ln (Nat.le_trans (Nat.pow_le_pow_right (by omega) (show j ≤ 2 by omega)) (by decide))
    simp -implicitDefEqProofs [-Int.natCast_add]
    refine then_post (P := fun o S2 => S2 = S' ∧ ∃ ρ', o = .nx ρ' ∧ St [some (natT w), none, none, some (.lst ((nextB most L).map natT)), none, none] ρ') (forL_map (enc := natT) (P := fun i ρ S2 => S2 = S' ∧ ∃ M, M = nextB most (L.take i) ∧ St [some (natT w), none, some (.int (most : Int)), some (.lst (M.map natT)), none, none] ρ) L ⟨rfl, [], rfl, by simp⟩ (fun i r hi ρ S2 ⟨e1, M, eM, h⟩ => ?_) fun ρ S2 ⟨e1, M, eM, h⟩ => ⟨e1, ρ, rfl, ?_⟩) fun o S2 ⟨e1, ρ, e, h⟩ => ?_
    · repeat (first | (replace h := St.some h; obtain ⟨_, rfl, h⟩ := h) | (replace h := St.none h; obtain ⟨_, _, rfl, h⟩ := h))
      cases St.nil h
      subst e1
      have hil := (List.getElem?_eq_some_iff.mp hi).1
      have hrl : r.length = j := ((hL.all r).mp (List.mem_of_getElem? hi)).1
      have hMn : M.length ≤ 64 := by
        rw [eM, nextB_len, List.length_take]
        exact Nat.le_trans (Nat.mul_le_mul (Nat.min_le_right i L.length) (show most + 1 ≤ 4 by omega)) (by omega)
      have hM2 : nextB most (L.take (i + 1)) = M ++ (List.range (most + 1)).map fun k => r ++ [k] := by
        rw [take_next hi, nextB_snoc, ← eM]
      have hone : (most : Int) + 1 = ((most + 1 : Nat) : Int) := by omega
      have hrg := rg1 (j := most + 1) (by omega)
      simp -implicitDefEqProofs [-Int.natCast_add, hone, hrg]
      rw [compL_map (g := fun k => natT (r ++ [k])) _ (fun k hk => by
        have hcat : dAdd (natT r) (.tup [.int (k : Int)]) = some (natT (r ++ [k])) := by
          rw [d_add_tup _ _ (by rw [List.length_map, List.length_singleton, szl]; omega)]
          show _ = some (D.tup ((r ++ [k]).map fun (n : Nat) => D.int (n : Int)))
          rw [List.map_append]
          rfl
        generalize r ++ [k] = r2 at *
        simp -implicitDefEqProofs [-Int.natCast_add, hcat])]
      have hex : mExtend (M.map natT) [.lst ((List.range (most + 1)).map fun k => natT (r ++ [k]))] = some ((nextB most (L.take (i + 1))).map natT, .non) := by
        show (if _ then _ else _) = _
        rw [if_pos (by rw [List.length_map, List.length_map, List.length_range, szl]; omega), hM2, List.map_append, List.map_map]
        rfl
      have hz : ((List.range (most + 1)).map fun k => natT (r ++ [k])).length ≤ sizeLine := by rw [List.length_map, List.length_range, szl]; omega
      generalize ((List.range (most + 1)).map fun k => natT (r ++ [k])) = NW at *
      generalize nextB most (L.take (i + 1)) = M2 at *
      simp -implicitDefEqProofs [-Int.natCast_add, hz, hex, stepP]
      try exact ⟨M2, rfl, rfl⟩
    · subst eM
      rw [List.take_of_length_le (Nat.le_refl _)] at h
      repeat (first | (replace h := St.some h; obtain ⟨_, rfl, h⟩ := h) | (replace h := St.none h; obtain ⟨_, _, rfl, h⟩ := h))
      cases St.nil h
      first | done | simp
    · subst e1 e
      generalize nextB most L = L3 at *
      repeat (first | (replace h := St.some h; obtain ⟨_, rfl, h⟩ := h) | (replace h := St.none h; obtain ⟨_, _, rfl, h⟩ := h))
      cases St.nil h
      simp -implicitDefEqProofs [-Int.natCast_add, stepP]
      try exact ⟨L3, hN, rfl⟩
  · repeat (first | (replace h := St.some h; obtain ⟨_, rfl, h⟩ := h) | (replace h := St.none h; obtain ⟨_, _, rfl, h⟩ := h))
    cases St.nil h
    simp
  · subst e1 e
    repeat (first | (replace h := St.some h; obtain ⟨_, rfl, h⟩ := h) | (replace h := St.none h; obtain ⟨_, _, rfl, h⟩ := h))
    cases St.nil h
    simp -implicitDefEqProofs [-Int.natCast_add]
    exact ⟨L, rfl, Nat.le_trans hL.ln (Nat.le_trans (Nat.pow_le_pow_right (by omega) hl) (by decide)), hL.all⟩
theorem alike_lay (A B : RR) : PySem.W.alike (.tuple (A.map natP)) (.tuple (B.map natP)) = true := by
  rw [PySem.W.alike]
  exact alike_rows A B
theorem lay_min (A B : RR) : dMinD (layD A) (layD B) = some (layD (if B < A then B else A)) := by
  unfold dMinD
  rw [encRow.tup.py, encRow.tup.py]
  have ok : minOk (.tuple (A.map natP)) (.tuple (B.map natP)) = true := by
    have d1 : PyData.depth (.tuple (A.map natP)) ≤ 60 := Nat.le_trans (encRow.tup.dep A) (by decide)
    have d2 : PyData.depth (.tuple (B.map natP)) ≤ 60 := Nat.le_trans (encRow.tup.dep B) (by decide)
    unfold minOk
    simp only [List.all_cons, List.all_nil, alike_lay, Bool.and_true, Bool.true_and, d1, d2, decide_true]
  show (if minOk (.tuple (A.map natP)) (.tuple (B.map natP)) = true then some (if PySem.W.dataLt (.tuple (B.map natP)) (.tuple (A.map natP)) = true then layD B else layD A) else none) = _
  rw [if_pos ok, lay_lt]
  by_cases c : B < A
  · rw [if_pos c, if_pos (decide_eq_true c)]
  · rw [if_neg c, if_neg (fun z => c (of_decide_eq_true z))]
theorem putP_same {N : PD} (h : (N.map (·.1)).Nodup) {q : List Nat × RR} (hq : q ∈ N) : putP N q.1 q.2 = N := by
  unfold putP
  rw [if_pos (List.mem_map.mpr ⟨q, hq, rfl⟩)]
  have : N.map (fun p => if p.1 = q.1 then (p.1, q.2) else p) = N.map id := List.map_congr_left fun p hp => by
    by_cases c : p.1 = q.1
    · rw [if_pos c]
      have := nd_eq h hp hq c
      rw [this]
      rfl
    · rw [if_neg c]
      rfl
  rw [this, List.map_id]
theorem find_nd {N : PD} (h : (N.map (·.1)).Nodup) {q : List Nat × RR} (hq : q ∈ N) : N.find? (fun p => decide (p.1 = q.1)) = some q := by
  cases c2 : N.find? fun p => decide (p.1 = q.1) with
  | none => exact absurd (decide_eq_true rfl) (List.find?_eq_none.mp c2 q hq)
  | some q3 =>
    have hm3 := List.mem_of_find?_eq_some c2
    have e3 : q3.1 = q.1 := of_decide_eq_true (List.find?_some (p := fun p : List Nat × RR => decide (p.1 = q.1)) c2)
    exact congrArg some (nd_eq h hm3 hq e3)
/-- what was there, or the new one -/
def oldP (N : PD) (r : List Nat) (W : RR) : RR := ((N.find? fun q => decide (q.1 = r)).map (·.2)).getD W
theorem oldP_get (N : PD) (r : List Nat) (W : RR) : (((encL N).find? fun q => decide (q.1 = r)).map (·.2)).getD (layD W) = layD (oldP N r W) := by
  unfold oldP
  rw [find_encL]
  cases N.find? fun q => decide (q.1 = r) <;> rfl
theorem bestP_put {N : PD} (h : (N.map (·.1)).Nodup) (r : List Nat) (W : RR) : putP N r (if W < oldP N r W then W else oldP N r W) = bestP N r W := by
  unfold bestP oldP
  cases c : N.find? fun q => decide (q.1 = r) with
  | none =>
    show putP N r (if W < W then W else W) = putP N r W
    rw [if_neg (rr_irr W)]
  | some q =>
    have hq := List.mem_of_find?_eq_some c
    have eq : q.1 = r := of_decide_eq_true (List.find?_some (p := fun q : List Nat × RR => decide (q.1 = r)) c)
    show putP N r (if W < q.2 then W else q.2) = if W < q.2 then putP N r W else N
    by_cases lt : W < q.2
    · rw [if_pos lt, if_pos lt]
    · rw [if_neg lt, if_neg lt, ← eq]
      exact putP_same h hq
/-- what the first k rows lead to, those that fit -/
def pairsF (s : ShopT) (len : Nat) (r : List Nat) (R : RR) (RS : List (List Nat)) (k : Nat) : PD := ((RS.take k).filter fun q => decide (sizeW s.ws q ≤ len + s.kerf)).map fun q => (subV r q, R ++ [q])
theorem pairsF_yes {s : ShopT} {len : Nat} {r : List Nat} {R : RR} {RS : List (List Nat)} {k : Nat} {q : List Nat} (hk : RS[k]? = some q) (c : sizeW s.ws q ≤ len + s.kerf) : pairsF s len r R RS (k + 1) = pairsF s len r R RS k ++ [(subV r q, R ++ [q])] := by
  unfold pairsF
  rw [take_next hk, List.filter_append, List.map_append]
  congr 1
  simp [List.filter, c]
theorem pairsF_no {s : ShopT} {len : Nat} {r : List Nat} {R : RR} {RS : List (List Nat)} {k : Nat} {q : List Nat} (hk : RS[k]? = some q) (c : ¬ sizeW s.ws q ≤ len + s.kerf) : pairsF s len r R RS (k + 1) = pairsF s len r R RS k := by
  unfold pairsF
  rw [take_next hk, List.filter_append, List.map_append]
  simp [List.filter, c]

/-- the pairs of the first keys -/
structure MkK (s : ShopT) (len : Nat) (L : PD) (KS : List (List Nat)) (P N : PD) : Prop where
  ok : NOk P N
  pr : ∀ p, p ∈ P ↔ ∃ e ∈ L, e.1 ∈ KS ∧ ∃ q, FitR s e.1 len q ∧ p = (subV e.1 q, e.2 ++ [q])
theorem least_yield_ok {s : ShopT} (hy : ShY s) {ld : D} {lens : List Nat} (hit : itA ld = some (lens.map fun (n : Nat) => D.int (n : Int))) (hll : lens.length ≤ 6) : (m__law_least_yield [s.t, ld] []).post fun d _ => YieldD s lens d := by
  have hs := hy.sh
  have hp3 := hs.p3
  have hm1 := hs.pc.len.1
  have hz0 := zero_row (n := s.pieces.length) hm1 (by omega)
  have hwr := lwanted_ok (s := s) (by omega) []
  have ht1 : dIx s.t (.int 1) = some (.tup (s.pieces.map pieceD)) := d_ix1 _ _ _
  have htl := tg_len s
  unfold m__law_least_yield b__law_least_yield
  have hnew : newT (natT s.tg) (.tup []) [] = .ok (.mref 0) (layS [encL [(s.tg, [])]]) := by
    unfold newT
    rw [keys_natT]
    rfl
  simp -implicitDefEqProofs [-Int.natCast_add, hwr, hnew, hit]
  refine then_post (P := fun o S' => ∃ ρ' Ds L, o = .nx ρ' ∧ S' = layS (Ds ++ [encL L]) ∧ LayY s s.tg lens L ∧ St [some (s.t), none, some (.mref Ds.length), none, none, none, none, none, none] ρ') (forL_map (enc := fun (n : Nat) => D.int (n : Int)) (P := fun j ρ S' => ∃ Ds L, S' = layS (Ds ++ [encL L]) ∧ LayY s s.tg (lens.take j) L ∧ St [some (s.t), none, some (.mref Ds.length), none, none, none, none, none, none] ρ) lens ⟨[], _, rfl, LayY.start htl, ?_⟩ (fun j len hj ρ S ⟨Df, L, e1, hL, h⟩ => ?_) fun ρ S ⟨Df, L, e1, hL, h⟩ => ⟨ρ, Df, L, rfl, e1, by rw [List.take_of_length_le (Nat.le_refl _)] at hL; exact hL, ?_⟩) fun o S' ⟨ρ, Df, L, e, e1, hL, h⟩ => ?_
  · simp
  · repeat (first | (replace h := St.some h; obtain ⟨_, rfl, h⟩ := h) | (replace h := St.none h; obtain ⟨_, _, rfl, h⟩ := h))
    cases St.nil h
    have hjl := (List.getElem?_eq_some_iff.mp hj).1
    subst e1
    have hrf : (Df ++ [encL L]).length = Df.length + 1 := by rw [List.length_append]; rfl
    simp -implicitDefEqProofs [-Int.natCast_add]
    have hsn : layS (Df ++ [encL L]) ++ [MO.t false []] = midS (layS Df) false (encL L) (encL []) := layS_snoc Df (encL L) []
    rw [layS_len, hrf, hsn]
    have hback : ∀ N, midS (layS Df) false (encL L) (encL N) = layS (Df ++ [encL L] ++ [encL N]) := fun N => layS_mid Df (encL L) (encL N)
    have hD1 : Df.length = (layS Df).length := by rw [layS_len]
    rw [hD1]
    have hrf' : (Df ++ [encL L]).length = (layS Df).length + 1 := by rw [layS_len, hrf]
    clear hD1 hrf hsn
    generalize layS Df = F at *
    -- the keys, sorted
    have hsort := sorted_at (mid_at F false (encL L) (encL []))
    have hne : ∀ r ∈ (encL L).map (·.1), r ≠ [] := fun r hr z => by
      rw [encL_keys] at hr
      obtain ⟨q, hq, e⟩ := List.mem_map.mp hr
      have := (hL.val q hq).1.rn
      rw [e, z] at this
      simp at this
      omega
    rw [sorted_rows hne, encL_keys] at hsort
    have hKm : ∀ r, r ∈ (L.map (·.1)).mergeSort leW ↔ r ∈ L.map (·.1) := fun r => List.mem_mergeSort
    have hKn : ((L.map (·.1)).mergeSort leW).Nodup := (List.mergeSort_perm _ _).nodup_iff.mpr hL.nd
    generalize (L.map (·.1)).mergeSort leW = KS at *
    simp -implicitDefEqProofs [-Int.natCast_add, hsort]
    refine then_post (P := fun o S' => ∃ ρ' N, o = .nx ρ' ∧ S' = midS F false (encL L) (encL N) ∧ LayY s s.tg (lens.take (j + 1)) N ∧ St [some (s.t), none, some (.mref F.length), none, some (.mref (F.length + 1)), none, none, none, none] ρ') (forL_map (enc := natT) (P := fun i ρ S' => ∃ P N, S' = midS F false (encL L) (encL N) ∧ MkK s len L (KS.take i) P N ∧ St [some (s.t), none, some (.mref F.length), some (.int (len : Int)), some (.mref (F.length + 1)), none, none, none, none] ρ) KS ⟨[], [], rfl, ⟨.nil, fun p => by simp⟩, by simp⟩ (fun i r hi ρ S' ⟨P, N, e1, hM, h⟩ => ?_) fun ρ S' ⟨P, N, e1, hM, h⟩ => ⟨ρ, N, rfl, e1, ?_, ?_⟩) fun o S' ⟨ρ, N, e, e1, hN, h⟩ => ?_
    · repeat (first | (replace h := St.some h; obtain ⟨_, rfl, h⟩ := h) | (replace h := St.none h; obtain ⟨_, _, rfl, h⟩ := h))
      cases St.nil h
      subst e1
      have hrK := List.mem_of_getElem? hi
      obtain ⟨q, hqm, eq⟩ := List.mem_map.mp ((hKm r).mp hrK)
      obtain ⟨r', R⟩ := q
      have eq : r' = r := eq
      subst eq
      have hq := (hL.val _ hqm).1
      have hrl : r'.length = s.pieces.length := hq.rn
      have hRl : R.length = j := by rw [hq.ln, List.length_take]; omega
      have hndE : ((encL L).map (·.1)).Nodup := by rw [encL_keys]; exact hL.nd
      have hqE : (r', layD R) ∈ encL L := List.mem_map.mpr ⟨(r', R), hqm, rfl⟩
      have hix := fun N => mid_ix (F := F) (lk := false) (N := N) hndE hqE
      have hle3 : ∀ i, r'.getD i 0 ≤ 3 := fun i => by
        by_cases hi : i < s.pieces.length
        · exact Nat.le_trans (hq.le i hi) (hy.tg3 i)
        · rw [List.getD_eq_getElem?_getD, List.getElem?_eq_none (by omega)]
          simp
      obtain ⟨RS, er, hRl64, hRS⟩ := below_ok (w := r') (by omega) hle3 (midS F false (encL L) (encL N))
      have hfitR : ∀ q, FitR s r' len q ↔ q ∈ RS ∧ sizeW s.ws q ≤ len + s.kerf := fun q => by
        rw [hRS q, hrl]
        exact ⟨fun h => ⟨⟨h.ln, h.le⟩, h.sz⟩, fun h => ⟨h.1.1, h.1.2, h.2⟩⟩
      simp -implicitDefEqProofs [-Int.natCast_add, er]
      refine Res.post_mono (forL_map (enc := natT) (P := fun k ρ S' => ∃ P2 N, S' = midS F false (encL L) (encL N) ∧ NOk P2 N ∧ (P2 = P ++ pairsF s len r' R RS k) ∧ St [some (s.t), none, some (.mref F.length), some (.int (len : Int)), some (.mref (F.length + 1)), some (natT r'), none, none, none] ρ) (Q := fun o S' => ∃ ρ', o = .nx ρ' ∧ ∃ P N, S' = midS F false (encL L) (encL N) ∧ MkK s len L (KS.take (i + 1)) P N ∧ St [some (s.t), none, some (.mref F.length), some (.int (len : Int)), some (.mref (F.length + 1)), none, none, none, none] ρ') RS ⟨P, N, rfl, hM.ok, by simp [pairsF], by simp⟩ (fun k more hk ρ S2 ⟨P2, N, e1, hN, eP, h⟩ => ?_) fun ρ S2 ⟨P2, N, e1, hN, eP, h⟩ => ⟨ρ, rfl, P2, N, e1, ⟨hN, fun p => ?_⟩, ?_⟩) fun o S2 ⟨ρ', e, hb⟩ => ?_
      · repeat (first | (replace h := St.some h; obtain ⟨_, rfl, h⟩ := h) | (replace h := St.none h; obtain ⟨_, _, rfl, h⟩ := h))
        cases St.nil h
        subst e1
        have hmR := (hRS more).mp (List.mem_of_getElem? hk)
        have hgives := lgives_ok hs len more (midS F false (encL L) (encL N))
        have hless := lminus_ok (a := r') (b := more) (by omega) (by rw [hmR.1]) (fun i hi => hmR.2 i (by omega)) (midS F false (encL L) (encL N))
        by_cases c : sizeW s.ws more ≤ len + s.kerf
        · rw [decide_eq_true c] at hgives
          have hixN := hix (encL N)
          have hP2 : ∀ p ∈ P2, ∃ e ∈ L, ∃ q, FitR s e.1 len q ∧ p = (subV e.1 q, e.2 ++ [q]) := fun p hp => by
            rw [eP] at hp
            unfold pairsF at hp
            rcases List.mem_append.mp hp with hp | hp
            · obtain ⟨e, he, _, rest⟩ := (hM.pr p).mp hp
              exact ⟨e, he, rest⟩
            · obtain ⟨q, hq2, rfl⟩ := List.mem_map.mp hp
              obtain ⟨g1, g2⟩ := List.mem_filter.mp hq2
              exact ⟨(r', R), hqm, q, (hfitR q).mpr ⟨List.mem_of_mem_take g1, of_decide_eq_true g2⟩, rfl⟩
          have hNl := mk_few hy hL hN hP2
          have hcat : dAdd (layD R) (.tup [natT more]) = some (layD (R ++ [more])) := by
            rw [d_add_tup _ _ (by rw [List.length_map, List.length_singleton, szl]; omega)]
            show _ = some (D.tup ((R ++ [more]).map natT))
            rw [List.map_append]
            rfl
          have hget := getS_at (mid_at2 F false (encL L) (encL N)) (subV r' more) (layD (R ++ [more]))
          rw [oldP_get] at hget
          have hmin := lay_min (oldP N (subV r' more) (R ++ [more])) (R ++ [more])
          have hput := mid_put (F := F) (lk := false) (L := encL L) (N := encL N) (r := subV r' more) (d := layD (if R ++ [more] < oldP N (subV r' more) (R ++ [more]) then R ++ [more] else oldP N (subV r' more) (R ++ [more]))) (by unfold encL; rw [List.length_map]; omega)
          rw [encL_put, bestP_put hN.nd] at hput
          have hd : ∃ P2 N2, midS F false (encL L) (encL (bestP N (subV r' more) (R ++ [more]))) = midS F false (encL L) (encL N2) ∧ NOk P2 N2 ∧ (P2 = P ++ pairsF s len r' R RS (k + 1)) := ⟨_, _, rfl, by
            have := hN.best (subV r' more) (R ++ [more])
            rw [eP, List.append_assoc, ← pairsF_yes hk c] at this
            exact this, rfl⟩
          generalize oldP N (subV r' more) (R ++ [more]) = OLD at *
          generalize (if R ++ [more] < OLD then R ++ [more] else OLD) = MN at *
          generalize R ++ [more] = R3 at *
          generalize midS F false (encL L) (encL (bestP N (subV r' more) R3)) = S3 at *
          generalize subV r' more = sm at *
          generalize midS F false (encL L) (encL N) = S2 at *
          generalize F.length = J at *
          unfold fBody
          simp -implicitDefEqProofs [-Int.natCast_add, hgives, hless, hixN, hcat, hget, hmin, putD', hput, putR, stepP]
          exact hd
        · rw [decide_eq_false c] at hgives
          have hd : ∃ P2 N2, midS F false (encL L) (encL N) = midS F false (encL L) (encL N2) ∧ NOk P2 N2 ∧ (P2 = P ++ pairsF s len r' R RS (k + 1)) := ⟨P2, N, rfl, hN, by rw [pairsF_no hk c]; exact eP⟩
          generalize midS F false (encL L) (encL N) = S2 at *
          generalize F.length = J at *
          unfold fBody
          simp -implicitDefEqProofs [-Int.natCast_add, hgives, stepP]
          exact hd
      · unfold pairsF at eP
        rw [eP, List.take_of_length_le (Nat.le_refl _), List.mem_append, hM.pr p, take_next hi]
        constructor
        · rintro (⟨e, he, heK, q, hq2, ep⟩ | hp)
          · exact ⟨e, he, List.mem_append_left _ heK, q, hq2, ep⟩
          · obtain ⟨q, hq2, rfl⟩ := List.mem_map.mp hp
            obtain ⟨g1, g2⟩ := List.mem_filter.mp hq2
            exact ⟨(r', R), hqm, by simp, q, (hfitR q).mpr ⟨g1, of_decide_eq_true g2⟩, rfl⟩
        · rintro ⟨e, he, heK, q, hq2, ep⟩
          rcases List.mem_append.mp heK with heK | heK
          · exact .inl ⟨e, he, heK, q, hq2, ep⟩
          · have : e = (r', R) := nd_eq hL.nd he hqm (List.mem_singleton.mp heK)
            rw [this] at hq2 ep
            obtain ⟨g1, g2⟩ := (hfitR q).mp hq2
            exact .inr (List.mem_map.mpr ⟨q, List.mem_filter.mpr ⟨g1, decide_eq_true g2⟩, ep.symm⟩)
      · repeat (first | (replace h := St.some h; obtain ⟨_, rfl, h⟩ := h) | (replace h := St.none h; obtain ⟨_, _, rfl, h⟩ := h))
        cases St.nil h
        simp
      · subst e
        exact hb
    · have hlead : Leads s len L P := fun p => by
        rw [hM.pr p, List.take_of_length_le (Nat.le_refl _)]
        constructor
        · rintro ⟨e, he, _, rest⟩
          exact ⟨e, he, rest⟩
        · rintro ⟨e, he, rest⟩
          exact ⟨e, he, (hKm _).mpr (List.mem_map.mpr ⟨e, he, rfl⟩), rest⟩
      have := hL.next hlead hM.ok
      rw [← take_next hj] at this
      exact this
    · repeat (first | (replace h := St.some h; obtain ⟨_, rfl, h⟩ := h) | (replace h := St.none h; obtain ⟨_, _, rfl, h⟩ := h))
      cases St.nil h
      simp
    · subst e e1
      repeat (first | (replace h := St.some h; obtain ⟨_, rfl, h⟩ := h) | (replace h := St.none h; obtain ⟨_, _, rfl, h⟩ := h))
      cases St.nil h
      have hb := hback N
      generalize Df ++ [encL L] = D2 at *
      simp -implicitDefEqProofs [-Int.natCast_add, stepP]
      exact ⟨D2, N, hb, hN, hrf'.symm⟩
  · repeat (first | (replace h := St.some h; obtain ⟨_, rfl, h⟩ := h) | (replace h := St.none h; obtain ⟨_, _, rfl, h⟩ := h))
    cases St.nil h
    simp
  · subst e e1
    repeat (first | (replace h := St.some h; obtain ⟨_, rfl, h⟩ := h) | (replace h := St.none h; obtain ⟨_, _, rfl, h⟩ := h))
    cases St.nil h
    have hat : (layS (Df ++ [encL L]))[Df.length]? = some (.t false (kdsOf (encL L))) := layS_at (by rw [List.getElem?_append_right (Nat.le_refl _), Nat.sub_self]; rfl)
    have hget := getS_at hat (zeroR s) .non
    have hend := lay_end hL
    unfold zeroR at hget hend
    generalize layS (Df ++ [encL L]) = S at *
    simp -implicitDefEqProofs [-Int.natCast_add, ht1, hz0, hget]
    exact hend

/-! ### rods -/
abbrev Rod := Nat × Nat
abbrev rodD (p : Rod) : D := .tup [.int (p.1 : Int), .int (p.2 : Int)]
abbrev rodsT (L : List Rod) : D := .tup (L.map rodD)
structure RodsOk (L : List Rod) : Prop where
  ln : 1 ≤ L.length ∧ L.length ≤ 6
  all : ∀ p ∈ L, 1 ≤ p.1 ∧ p.1 ≤ p.2 ∧ p.2 ≤ 15
theorem is_rod_ok {p : Rod} (h : 1 ≤ p.1 ∧ p.1 ≤ p.2) (S : Sto) : m_is_rod [rodD p] S = .ok (.bl true) S := by
  obtain ⟨a, b⟩ := p
  have h1 : (1 : Int) ≤ (a : Int) := by have := h.1; dsimp only at this; omega
  have h2 : (a : Int) ≤ (b : Int) := by have := h.2; dsimp only at this; omega
  unfold m_is_rod b_is_rod
  simp -implicitDefEqProofs [-Int.natCast_add]
  rw [show ([D.int (a : Int), D.int (b : Int)] : List D) = [a, b].map fun (n : Nat) => D.int (n : Int) from rfl, compL_map (g := fun _ => D.bl true) [a, b] (fun n hn => by simp -implicitDefEqProofs [-Int.natCast_add])]
  have hz : (2 : Nat) ≤ sizeLine := by rw [szl]; omega
  have ha := all_map (fun _ : Nat => true) [a, b]
  simp only [List.map_cons, List.map_nil] at ha ⊢
  simp -implicitDefEqProofs [-Int.natCast_add, hz, ha, h1, h2]
theorem need_rods_ok {ld : D} {L : List Rod} (hit : ld = .tup (L.map rodD) ∨ ld = .lst (L.map rodD)) (h : RodsOk L) (S : Sto) : m_need_rods [ld] S = .ok (rodsT L) S := by
  have h1 : (1 : Int) ≤ (L.length : Int) := by have := h.ln.1; omega
  have h2 : (L.length : Int) ≤ 6 := by have := h.ln.2; omega
  have hz : L.length ≤ sizeLine := by rw [szl]; have := h.ln.2; omega
  have ha := all_map (fun _ : Rod => true) L
  have hall : (L.all fun _ => true) = true := by simp
  rw [hall] at ha
  unfold m_need_rods b_need_rods
  rcases hit with rfl | rfl
  · simp -implicitDefEqProofs [-Int.natCast_add, h1, h2]
    rw [compL_map (enc := rodD) (g := fun _ => D.bl true) L (fun p hp => by
      have := is_rod_ok ⟨(h.all p hp).1, (h.all p hp).2.1⟩ S
      simp -implicitDefEqProofs [-Int.natCast_add, this])]
    simp -implicitDefEqProofs [-Int.natCast_add, hz, ha]
  · simp -implicitDefEqProofs [-Int.natCast_add, h1, h2]
    rw [compL_map (enc := rodD) (g := fun _ => D.bl true) L (fun p hp => by
      have := is_rod_ok ⟨(h.all p hp).1, (h.all p hp).2.1⟩ S
      simp -implicitDefEqProofs [-Int.natCast_add, this])]
    simp -implicitDefEqProofs [-Int.natCast_add, hz, ha]
structure LensOk (L : List Rod) (ls : List Nat) : Prop where
  ln : ls.length = L.length
  bd : ∀ q ∈ L.zip ls, q.1.1 ≤ q.2 ∧ q.2 ≤ q.1.2
theorem need_lengths_ok {L : List Rod} {ls : List Nat} (h : RodsOk L) (hb : LensOk L ls) (S : Sto) : m_need_lengths [rodsT L, natT ls] S = .ok (natT ls) S := by
  have hl : (ls.length : Int) = (L.length : Int) := by rw [hb.ln]
  have hz : (L.zip ls).length ≤ sizeLine := by rw [szl, List.length_zip]; have := h.ln.2; omega
  have ha := all_map (fun _ : Rod × Nat => true) (L.zip ls)
  have hall : ((L.zip ls).all fun _ => true) = true := by simp
  rw [hall] at ha
  unfold m_need_lengths b_need_lengths
  simp -implicitDefEqProofs [-Int.natCast_add, hl]
  have hzp : zipD (L.map rodD) (ls.map fun (n : Nat) => D.int (n : Int)) = (L.zip ls).map fun q => .tup [rodD q.1, .int (q.2 : Int)] := by
    unfold zipD
    rw [List.zip_map, List.map_map]
    rfl
  rw [hzp, compL_map (g := fun _ => D.bl true) (L.zip ls) (fun q hq => by
    obtain ⟨q1, q2⟩ := hb.bd q hq
    have q1' : (q.1.1 : Int) ≤ (q.2 : Int) := by omega
    have q2' : (q.2 : Int) ≤ (q.1.2 : Int) := by omega
    simp -implicitDefEqProofs [-Int.natCast_add, q1', q2'])]
  have hz' : ((L.zip ls).map fun _ => D.bl true).length ≤ sizeLine := by rw [List.length_map]; exact hz
  generalize ((L.zip ls).map fun _ => D.bl true) = ts at *
  simp -implicitDefEqProofs [-Int.natCast_add, hz', ha]
theorem need_both_ok {L : List Rod} {ls : List Nat} (h : RodsOk L) (hb : LensOk L ls) (S : Sto) : m_need_both [rodsT L, natT ls] S = .ok (.tup [rodsT L, natT ls]) S := by
  have h1 : m_need_rods [rodsT L] S = .ok (rodsT L) S := need_rods_ok (.inl rfl) h S
  have h2 := need_lengths_ok h hb S
  unfold m_need_both b_need_both
  have hz : (2 : Nat) ≤ sizeLine := by rw [szl]; omega
  generalize rodsT L = rd at *
  generalize natT ls = ld at *
  simp -implicitDefEqProofs [-Int.natCast_add, h1, h2, hz]
/-! ### whether lengths do -/
def Can (s : ShopT) (lens : List Nat) : Prop := ∃ R, Way s s.tg lens (zeroR s) R
noncomputable def can (s : ShopT) (lens : List Nat) : Bool := @decide (Can s lens) (Classical.propDecidable _)
theorem can_iff {s : ShopT} {lens : List Nat} : can s lens = true ↔ Can s lens := @decide_eq_true_iff _ (Classical.propDecidable _)
theorem YieldD.isN {s : ShopT} {lens : List Nat} {d : D} (h : YieldD s lens d) : dIsN true d .non = some (.bl (can s lens)) ∧ dIsN false d .non = some (.bl (!can s lens)) ∧ noM d = true := by
  rcases h with ⟨rfl, h⟩ | ⟨R, rfl, h⟩
  · have c : can s lens = false := by
      cases e : can s lens with
      | false => rfl
      | true =>
        obtain ⟨R, hR⟩ := can_iff.mp e
        exact absurd hR (h R)
    rw [c]
    exact ⟨rfl, rfl, rfl⟩
  · have c : can s lens = true := can_iff.mpr ⟨R, h.1⟩
    rw [c]
    refine ⟨rfl, rfl, ?_⟩
    show noMs (R.map natT) = true
    have hn : ∀ r : List Nat, noMs (r.map fun (n : Nat) => D.int (n : Int)) = true := fun r => by
      induction r with
      | nil => rfl
      | cons a r ih =>
        show (noM (.int (a : Int)) && noMs (r.map fun (n : Nat) => D.int (n : Int))) = true
        rw [ih]
        rfl
    clear h c
    induction R with
    | nil => rfl
    | cons r R ih =>
      show (noMs (r.map fun (n : Nat) => D.int (n : Int)) && noMs (R.map natT)) = true
      rw [ih, hn]
      rfl
theorem noM_nat (r : List Nat) : noM (natT r) = true := by
  show noMs (r.map fun (n : Nat) => D.int (n : Int)) = true
  induction r with
  | nil => rfl
  | cons a r ih =>
    show (noM (.int (a : Int)) && noMs (r.map fun (n : Nat) => D.int (n : Int))) = true
    rw [ih]
    rfl
theorem noM_natL (r : List Nat) : noM (.lst (r.map fun (n : Nat) => D.int (n : Int))) = true := noM_nat r
theorem noM_rods (L : List Rod) : noM (rodsT L) = true := by
  show noMs (L.map rodD) = true
  induction L with
  | nil => rfl
  | cons a r ih =>
    show (noM (rodD a) && noMs (r.map rodD)) = true
    rw [ih]
    rfl
theorem noMs_map {α : Type} {e : α → D} (h : ∀ x, noM (e x) = true) : ∀ xs : List α, noMs (xs.map e) = true
  | [] => rfl
  | x :: xs => by
    show (noM (e x) && noMs (xs.map e)) = true
    rw [h x, noMs_map h xs]
    rfl
theorem noM_shop (s : ShopT) : noM s.o = true := by
  have h1 : noM (.tup (s.stocks.map stockD)) = true := noMs_map (fun x => by
    obtain ⟨a, b, c, d⟩ := x
    cases c <;> rfl) _
  have h2 : noM (.tup (s.pieces.map pieceD)) = true := noMs_map (fun x => rfl) _
  show (noM (.tup (s.stocks.map stockD)) && (noM (.tup (s.pieces.map pieceD)) && true)) = true
  rw [h1, h2]
  rfl
theorem noM_shopT (s : ShopT) : noM s.t = true := by
  have h1 : noM (.tup (s.stocks.map stockD)) = true := noMs_map (fun x => by
    obtain ⟨a, b, c, d⟩ := x
    cases c <;> rfl) _
  have h2 : noM (.tup (s.pieces.map pieceD)) = true := noMs_map (fun x => rfl) _
  show (noM (.tup (s.stocks.map stockD)) && (noM (.tup (s.pieces.map pieceD)) && true)) = true
  rw [h1, h2]
  rfl
/-- the yield of a call whose dicts are its own -/
theorem yield_call {s : ShopT} (hy : ShY s) {ld : D} {lens : List Nat} (hit : ld = natT lens ∨ ld = .lst (lens.map fun (n : Nat) => D.int (n : Int))) (hll : lens.length ≤ 6) (hle : ∀ l ∈ lens, l ≤ 15) : ∃ d, YieldD s lens d ∧ noMs [s.o, ld] = true ∧ ∀ S, pureD (m_yield_by [s.o, ld] []) S = .ok d S := by
  have hi : itA ld = some (lens.map fun (n : Nat) => D.int (n : Int)) := by rcases hit with rfl | rfl <;> rfl
  obtain ⟨d, S', e, hd⟩ := Res.post_ex (yield_by_ok hy hi hll hle)
  refine ⟨d, hd, ?_, fun S => ?_⟩
  · show (noM s.o && (noM ld && true)) = true
    have : noM ld = true := by rcases hit with rfl | rfl <;> exact noM_nat lens
    rw [noM_shop, this]
    rfl
  · rw [e]
    show (if noM d = true then Res.ok d S else .bad) = _
    rw [if_pos hd.isN.2.2]
theorem lyield_call {s : ShopT} (hy : ShY s) {lens : List Nat} (hll : lens.length ≤ 6) : ∃ d, YieldD s lens d ∧ noMs [s.t, natT lens] = true ∧ ∀ S, pureD (m__law_least_yield [s.t, natT lens] []) S = .ok d S := by
  obtain ⟨d, S', e, hd⟩ := Res.post_ex (least_yield_ok hy (ld := natT lens) rfl hll)
  refine ⟨d, hd, ?_, fun S => ?_⟩
  · show (noM s.t && (noM (natT lens) && true)) = true
    rw [noM_shopT, noM_nat]
    rfl
  · rw [e]
    show (if noM d = true then Res.ok d S else .bad) = _
    rw [if_pos hd.isN.2.2]

/-! ### what is known of rods -/
def wordO (a b : Bool) : Str := if a then "sure" else if !b then "never" else "open"
theorem outlook_ok {s : ShopT} (hy : ShY s) {ld : D} {L : List Rod} (hit : ld = .tup (L.map rodD) ∨ ld = .lst (L.map rodD)) (h : RodsOk L) (S : Sto) : m_outlook [s.o, ld] S = .ok (.str (wordO (can s (L.map (·.1))) (can s (L.map (·.2))))) S := by
  have h1 : m_need_rods [ld] S = .ok (rodsT L) S := need_rods_ok hit h S
  obtain ⟨d1, hd1, hn1, e1⟩ := yield_call hy (ld := .lst ((L.map (·.1)).map fun (n : Nat) => D.int (n : Int))) (.inr rfl) (by rw [List.length_map]; exact h.ln.2) (fun l hl => by
    obtain ⟨p, hp, rfl⟩ := List.mem_map.mp hl
    have := h.all p hp
    omega)
  obtain ⟨d2, hd2, hn2, e2⟩ := yield_call hy (ld := .lst ((L.map (·.2)).map fun (n : Nat) => D.int (n : Int))) (.inr rfl) (by rw [List.length_map]; exact h.ln.2) (fun l hl => by
    obtain ⟨p, hp, rfl⟩ := List.mem_map.mp hl
    exact (h.all p hp).2.2)
  obtain ⟨a1, a2, a3⟩ := hd1.isN
  obtain ⟨b1, b2, b3⟩ := hd2.isN
  have hz : L.length ≤ sizeLine := by rw [szl]; have := h.ln.2; omega
  have hz1 : (L.map (·.1)).length ≤ sizeLine := by rw [List.length_map]; exact hz
  have hz2 : (L.map (·.2)).length ≤ sizeLine := by rw [List.length_map]; exact hz
  have c1 : (L.map fun p => D.int (p.1 : Int)) = (L.map (·.1)).map fun (n : Nat) => D.int (n : Int) := by rw [List.map_map]; rfl
  have c2 : (L.map fun p => D.int (p.2 : Int)) = (L.map (·.2)).map fun (n : Nat) => D.int (n : Int) := by rw [List.map_map]; rfl
  generalize hA : L.map (·.1) = A at *
  generalize hB : L.map (·.2) = B at *
  unfold m_outlook b_outlook
  simp -implicitDefEqProofs [-Int.natCast_add, h1]
  rw [compL_map (enc := rodD) (g := fun p => D.int (p.1 : Int)) L (fun p hp => by simp -implicitDefEqProofs [-Int.natCast_add]), c1]
  simp -implicitDefEqProofs [-Int.natCast_add, hz1, hn1, e1, a1]
  cases q1 : can s A with
  | true => simp -implicitDefEqProofs [-Int.natCast_add, wordO]
  | false =>
    simp -implicitDefEqProofs [-Int.natCast_add]
    rw [compL_map (enc := rodD) (g := fun p => D.int (p.2 : Int)) L (fun p hp => by simp -implicitDefEqProofs [-Int.natCast_add]), c2]
    simp -implicitDefEqProofs [-Int.natCast_add, hz2, hn2, e2, b2]
    cases q2 : can s B with
    | true => simp -implicitDefEqProofs [-Int.natCast_add, wordO]
    | false => simp -implicitDefEqProofs [-Int.natCast_add, wordO]
theorem LensOk.le15 {L : List Rod} {ls : List Nat} (hb : LensOk L ls) (h : RodsOk L) : ∀ l ∈ ls, l ≤ 15 := fun l hl => by
  obtain ⟨i, hi⟩ := List.mem_iff_getElem?.mp hl
  have hlt := (List.getElem?_eq_some_iff.mp hi).1
  have hLt : i < L.length := by rw [← hb.ln]; exact hlt
  have hm : (L[i], l) ∈ L.zip ls := List.mem_of_getElem? (i := i) (by
    rw [List.getElem?_zip_eq_some]
    exact ⟨List.getElem?_eq_getElem hLt, hi⟩)
  have h1 := hb.bd _ hm
  have h2 := h.all _ (List.getElem_mem hLt)
  dsimp only at h1
  omega
theorem yield_of_ok {s : ShopT} (hy : ShY s) {L : List Rod} {ls : List Nat} (h : RodsOk L) (hb : LensOk L ls) : ∃ d, YieldD s ls d ∧ ∀ S, m_yield_of [s.o, rodsT L, natT ls] S = .ok d S := by
  obtain ⟨d1, hd1, hn1, e1⟩ := yield_call hy (ld := natT ls) (.inl rfl) (by rw [hb.ln]; exact h.ln.2) (hb.le15 h)
  refine ⟨d1, hd1, fun S => ?_⟩
  have h1 : m_need_rods [rodsT L] S = .ok (rodsT L) S := need_rods_ok (.inl rfl) h S
  have h2 := need_lengths_ok h hb S
  unfold m_yield_of b_yield_of
  generalize rodsT L = rd at *
  generalize natT ls = ld at *
  simp -implicitDefEqProofs [-Int.natCast_add, h1, h2, hn1, e1]
/-! ### a lot measured, the others at their bounds -/
def sideR (side : Nat) (p : Rod) : Nat := if side = 0 then p.1 else p.2
def mixL (L : List Rod) (ls lot : List Nat) (side : Nat) : List Nat := (List.range ls.length).map fun k => if k ∈ lot then ls.getD k 0 else sideR side (L.getD k (0, 0))
theorem mixL_len (L : List Rod) (ls lot : List Nat) (side : Nat) : (mixL L ls lot side).length = ls.length := by unfold mixL; rw [List.length_map, List.length_range]
theorem mixL_at {L : List Rod} {ls lot : List Nat} {side k : Nat} (hk : k < ls.length) : (mixL L ls lot side).getD k 0 = if k ∈ lot then ls.getD k 0 else sideR side (L.getD k (0, 0)) := by
  unfold mixL
  rw [List.getD_eq_getElem?_getD, List.getElem?_map, List.getElem?_range hk]
  rfl
theorem LensOk.at {L : List Rod} {ls : List Nat} (hb : LensOk L ls) {k : Nat} (hk : k < ls.length) : (L.getD k (0, 0)).1 ≤ ls.getD k 0 ∧ ls.getD k 0 ≤ (L.getD k (0, 0)).2 := by
  have hLt : k < L.length := by rw [← hb.ln]; exact hk
  have hm : (L[k], ls[k]) ∈ L.zip ls := List.mem_of_getElem? (i := k) (by
    rw [List.getElem?_zip_eq_some]
    exact ⟨List.getElem?_eq_getElem hLt, List.getElem?_eq_getElem hk⟩)
  have h1 := hb.bd _ hm
  rw [List.getD_eq_getElem?_getD, List.getD_eq_getElem?_getD, List.getElem?_eq_getElem hLt, List.getElem?_eq_getElem hk]
  exact h1
theorem mixL_le {L : List Rod} {ls lot : List Nat} (h : RodsOk L) (hb : LensOk L ls) (side : Nat) : ∀ l ∈ mixL L ls lot side, l ≤ 15 := fun l hl => by
  unfold mixL at hl
  obtain ⟨k, hk, rfl⟩ := List.mem_map.mp hl
  have hk := List.mem_range.mp hk
  have hLt : k < L.length := by rw [← hb.ln]; exact hk
  have h1 := hb.at hk
  have h2 : L.getD k (0, 0) ∈ L := by
    rw [List.getD_eq_getElem?_getD, List.getElem?_eq_getElem hLt]
    exact List.getElem_mem hLt
  have h3 := h.all _ h2
  unfold sideR
  split
  · omega
  · split <;> omega
theorem in_natT (k : Nat) (lot : List Nat) : dIn false (.int (k : Int)) (.lst (lot.map fun (n : Nat) => D.int (n : Int))) = some (.bl (decide (k ∈ lot))) := by
  have := encNat.mem (a := k) (xs := lot) trivial (fun _ _ => trivial) false
  simpa using this
theorem mixed_ok {L : List Rod} {ls lot : List Nat} (h : RodsOk L) (hb : LensOk L ls) {side : Nat} (hs : side ≤ 1) (S : Sto) : m_mixed [rodsT L, natT ls, natT lot, .int (side : Int)] S = .ok (.lst ((mixL L ls lot side).map fun (n : Nat) => D.int (n : Int))) S := by
  unfold m_mixed b_mixed
  simp -implicitDefEqProofs [-Int.natCast_add]
  rw [enumD_map, compL_map (enc := fun (k : Nat) => D.tup [.int (k : Int), (ls.map fun (n : Nat) => D.int (n : Int)).getD k .non]) (g := fun (k : Nat) => D.int ((if k ∈ lot then ls.getD k 0 else sideR side (L.getD k (0, 0)) : Nat) : Int)) (List.range ls.length) (fun k hk => by
    have hk := List.mem_range.mp hk
    have hLt : k < L.length := by rw [← hb.ln]; exact hk
    have hin := in_natT k lot
    have e1 : (ls.map fun (n : Nat) => D.int (n : Int)).getD k .non = .int (ls.getD k 0 : Int) := by
      rw [getD_at (List.getElem?_eq_getElem hk), List.getD_eq_getElem?_getD, List.getElem?_eq_getElem hk]
      rfl
    have e2 : dIx (.tup (L.map rodD)) (.int (k : Int)) = some (rodD (L.getD k (0, 0))) := d_ixt (by rw [List.getElem?_map, List.getD_eq_getElem?_getD, List.getElem?_eq_getElem hLt]; rfl)
    have e3 : dIx (rodD (L.getD k (0, 0))) (.int (side : Int)) = some (.int (sideR side (L.getD k (0, 0)) : Int)) := by
      rcases Nat.eq_zero_or_pos side with rfl | hp
      · rfl
      · have : side = 1 := by omega
        subst this
        exact d_ix1 _ _ _
    generalize L.getD k (0, 0) = p at *
    rw [e1]
    by_cases c : k ∈ lot
    · rw [decide_eq_true c] at hin
      simp -implicitDefEqProofs [-Int.natCast_add, hin, c]
    · rw [decide_eq_false c] at hin
      simp -implicitDefEqProofs [-Int.natCast_add, hin, c, e2, e3])]
  have e : ((List.range ls.length).map fun (k : Nat) => D.int ((if k ∈ lot then ls.getD k 0 else sideR side (L.getD k (0, 0)) : Nat) : Int)) = (mixL L ls lot side).map fun (n : Nat) => D.int (n : Int) := by
    unfold mixL
    rw [List.map_map]
    rfl
  have hz : (mixL L ls lot side).length ≤ sizeLine := by rw [mixL_len, hb.ln, szl]; have := h.ln.2; omega
  rw [e]
  generalize mixL L ls lot side = M at *
  simp -implicitDefEqProofs [-Int.natCast_add, hz]
/-- whether a lot tells -/
noncomputable def papB (s : ShopT) (L : List Rod) (ls lot : List Nat) : Bool := if can s ls then can s (mixL L ls lot 0) else !can s (mixL L ls lot 1)
noncomputable def papS (s : ShopT) (ls : List Nat) : Nat := if can s ls then 0 else 1
theorem paper_ok {s : ShopT} (hy : ShY s) {L : List Rod} {ls : List Nat} (lot : List Nat) (h : RodsOk L) (hb : LensOk L ls) : ∃ d, YieldD s (mixL L ls lot (papS s ls)) d ∧ ∀ S, m_paper_by [s.o, rodsT L, natT ls, natT lot] S = .ok (.tup [.bl (papB s L ls lot), d]) S := by
  have hll : ls.length ≤ 6 := by rw [hb.ln]; exact h.ln.2
  obtain ⟨d1, hd1, hn1, e1⟩ := yield_call hy (ld := natT ls) (.inl rfl) hll (hb.le15 h)
  obtain ⟨d2, hd2, hn2, e2⟩ := yield_call hy (ld := .lst ((mixL L ls lot 0).map fun (n : Nat) => D.int (n : Int))) (.inr rfl) (by rw [mixL_len]; exact hll) (mixL_le h hb 0)
  obtain ⟨d3, hd3, hn3, e3⟩ := yield_call hy (ld := .lst ((mixL L ls lot 1).map fun (n : Nat) => D.int (n : Int))) (.inr rfl) (by rw [mixL_len]; exact hll) (mixL_le h hb 1)
  obtain ⟨a1, a2, a3⟩ := hd1.isN
  obtain ⟨b1, b2, b3⟩ := hd2.isN
  obtain ⟨c1, c2, c3⟩ := hd3.isN
  have hm0 : ∀ S, m_mixed [rodsT L, natT ls, natT lot, .int 0] S = .ok (.lst ((mixL L ls lot 0).map fun (n : Nat) => D.int (n : Int))) S := fun S => mixed_ok (lot := lot) h hb (side := 0) (by omega) S
  have hm1 : ∀ S, m_mixed [rodsT L, natT ls, natT lot, .int 1] S = .ok (.lst ((mixL L ls lot 1).map fun (n : Nat) => D.int (n : Int))) S := fun S => mixed_ok (lot := lot) h hb (side := 1) (by omega) S
  have hz : (2 : Nat) ≤ sizeLine := by rw [szl]; omega
  cases c : can s ls with
  | true =>
    rw [c] at a1
    refine ⟨d2, by unfold papS; rw [c]; exact hd2, fun S => ?_⟩
    unfold m_paper_by b_paper_by papB
    generalize (D.lst ((mixL L ls lot 0).map fun (n : Nat) => D.int (n : Int))) = M0 at *
    generalize rodsT L = rd at *
    generalize natT ls = ld at *
    generalize natT lot = lt at *
    simp -implicitDefEqProofs [-Int.natCast_add, hn1, e1, a1, hm0, hn2, e2, b1, c, hz]
  | false =>
    rw [c] at a1
    refine ⟨d3, by unfold papS; rw [c]; exact hd3, fun S => ?_⟩
    unfold m_paper_by b_paper_by papB
    generalize (D.lst ((mixL L ls lot 1).map fun (n : Nat) => D.int (n : Int))) = M1 at *
    generalize rodsT L = rd at *
    generalize natT ls = ld at *
    generalize natT lot = lt at *
    simp -implicitDefEqProofs [-Int.natCast_add, hn1, e1, a1, hm1, hn3, e3, c2, c, hz]

/-! ### lots of rods -/
/-- ascending indexes below n -/
structure LotOk (n : Nat) (lot : List Nat) : Prop where
  pw : lot.Pairwise (· < ·)
  lt : ∀ i ∈ lot, i < n
theorem LotOk.nd {n : Nat} {lot : List Nat} (h : LotOk n lot) : lot.Nodup := h.pw.imp fun h => Nat.ne_of_lt h
theorem LotOk.len {n : Nat} {lot : List Nat} (h : LotOk n lot) : lot.length ≤ n := by
  have := sub_len h.nd (fun x hx => List.mem_range.mpr (h.lt x hx) : ∀ x ∈ lot, x ∈ List.range n)
  rwa [List.length_range] at this
theorem index_nat (i n : Nat) (S : Sto) : m_is_index [.int (i : Int), .int (n : Int)] S = .ok (.bl (decide (i < n))) S := by
  unfold m_is_index b_is_index
  simp -implicitDefEqProofs [-Int.natCast_add]
theorem rgm1 : dRange [.int (-1)] = some [] := by
  have := rg2 (i := 0) (j := -1) (by decide) (by decide) (by decide) (by decide)
  simp only [dRange] at this ⊢
  simp at this ⊢
  exact ⟨this.1.2, this.2⟩
theorem row_lot_ok {n : Nat} {lot : List Nat} (h : LotOk n lot) (hn : n ≤ 1000) (S : Sto) : m_is_row_lot [.int (n : Int), natT lot] S = .ok (.bl true) S := by
  have hl := h.len
  have hz : lot.length ≤ sizeLine := szk (by omega)
  have ha := all_map (fun i : Nat => decide (i < n)) lot
  have hall : (lot.all fun i => decide (i < n)) = true := List.all_eq_true.mpr fun i hi => decide_eq_true (h.lt i hi)
  rw [hall] at ha
  unfold m_is_row_lot b_is_row_lot
  simp -implicitDefEqProofs [-Int.natCast_add]
  rw [compL_map (enc := fun (i : Nat) => D.int (i : Int)) (g := fun (i : Nat) => D.bl (decide (i < n))) lot (fun i hi => by simp -implicitDefEqProofs [-Int.natCast_add, index_nat])]
  simp -implicitDefEqProofs [-Int.natCast_add, hz, ha]
  cases lot with
  | nil =>
    have ha0 := all_map (fun _ : Nat => true) ([] : List Nat)
    simp only [List.map_nil, List.all_nil] at ha0
    have hz0 : (0 : Nat) ≤ sizeLine := Nat.zero_le _
    simp -implicitDefEqProofs [-Int.natCast_add, rgm1, compL, ha0]
  | cons a lot =>
    have e : ((a :: lot).length : Int) - 1 = (lot.length : Int) := by rw [List.length_cons]; omega
    have hz2 : (a :: lot).length ≤ sizeLine := hz
    have hz3 : lot.length ≤ sizeLine := by rw [List.length_cons] at hz; omega
    have hrg := rg1 (j := lot.length) (by rw [szl] at hz3; omega)
    have ha2 := all_map (fun _ : Nat => true) (List.range lot.length)
    have hall2 : ((List.range lot.length).all fun _ => true) = true := by simp
    rw [hall2] at ha2
    rw [e, hrg]
    simp -implicitDefEqProofs [-Int.natCast_add]
    rw [compL_map (g := fun _ => D.bl true) (List.range lot.length) (fun k hk => by
      have hk := List.mem_range.mp hk
      have e1 : dIx (natT (a :: lot)) (.int (k : Int)) = some (.int (((a :: lot)[k]'(by rw [List.length_cons]; omega) : Nat) : Int)) := d_ixt (by rw [List.getElem?_map, List.getElem?_eq_getElem (by rw [List.length_cons]; omega)]; rfl)
      have e2 : dIx (natT (a :: lot)) (.int ((k + 1 : Nat) : Int)) = some (.int (((a :: lot)[k + 1]'(by rw [List.length_cons]; omega) : Nat) : Int)) := d_ixt (by rw [List.getElem?_map, List.getElem?_eq_getElem (by rw [List.length_cons]; omega)]; rfl)
      have lt : (a :: lot)[k]'(by rw [List.length_cons]; omega) < (a :: lot)[k + 1]'(by rw [List.length_cons]; omega) := (List.pairwise_iff_getElem.mp h.pw) k (k + 1) _ _ (by omega)
      have e3 : (k : Int) + 1 = ((k + 1 : Nat) : Int) := by omega
      generalize (a :: lot)[k]'(by rw [List.length_cons]; omega) = x at *
      generalize (a :: lot)[k + 1]'(by rw [List.length_cons]; omega) = y at *
      have lt' : (x : Int) < (y : Int) := by omega
      generalize natT (a :: lot) = xs at *
      simp -implicitDefEqProofs [-Int.natCast_add, e1, e3, e2, lt'])]
    simp -implicitDefEqProofs [-Int.natCast_add, hz3, ha2]
theorem rod_lot_ok {L : List Rod} {lot : List Nat} (h : LotOk L.length lot) (hl : L.length ≤ 6) (S : Sto) : m_need_rod_lot [rodsT L, natT lot] S = .ok (natT lot) S := by
  have h1 := row_lot_ok h (by omega) S
  unfold m_need_rod_lot b_need_rod_lot
  simp -implicitDefEqProofs [-Int.natCast_add, h1]
theorem tells_ok {s : ShopT} (hy : ShY s) {L : List Rod} {ls lot : List Nat} (h : RodsOk L) (hb : LensOk L ls) (hlot : LotOk L.length lot) (S : Sto) : m_tells [s.o, rodsT L, natT ls, natT lot] S = .ok (.bl (papB s L ls lot)) S := by
  have h1 := need_both_ok h hb S
  have h2 := rod_lot_ok hlot h.ln.2 S
  obtain ⟨d, hd, e⟩ := paper_ok hy lot h hb
  have e := e S
  unfold m_tells b_tells
  generalize rodsT L = rd at *
  generalize natT ls = ld at *
  generalize natT lot = lt at *
  simp -implicitDefEqProofs [-Int.natCast_add, h1, h2, e]
/-! ### all lots -/
def lotsR : Nat → List (List Nat)
  | 0 => [[]]
  | k + 1 => lotsR k ++ (lotsR k).map fun lot => lot ++ [k]
theorem lotsR_len : ∀ k, (lotsR k).length = 2 ^ k
  | 0 => rfl
  | k + 1 => by
    show (lotsR k ++ (lotsR k).map fun lot => lot ++ [k]).length = _
    rw [List.length_append, List.length_map, lotsR_len k, Nat.pow_succ]
    omega
theorem lotsR_mem : ∀ (k : Nat) (lot : List Nat), lot ∈ lotsR k ↔ LotOk k lot
  | 0, lot => by
    show lot ∈ [[]] ↔ _
    rw [List.mem_singleton]
    constructor
    · rintro rfl
      exact ⟨List.Pairwise.nil, fun i hi => (nomatch hi)⟩
    · intro h
      cases lot with
      | nil => rfl
      | cons a r => exact absurd (h.lt a List.mem_cons_self) (Nat.not_lt_zero _)
  | k + 1, lot => by
    show lot ∈ lotsR k ++ (lotsR k).map (fun lot => lot ++ [k]) ↔ _
    rw [List.mem_append, lotsR_mem k, List.mem_map]
    constructor
    · rintro (h | ⟨l0, h0, rfl⟩)
      · exact ⟨h.pw, fun i hi => Nat.lt_succ_of_lt (h.lt i hi)⟩
      · have h0 := (lotsR_mem k l0).mp h0
        refine ⟨List.pairwise_append.mpr ⟨h0.pw, List.pairwise_singleton _ _, fun a ha b hb => ?_⟩, fun i hi => ?_⟩
        · rw [List.mem_singleton.mp hb]
          exact h0.lt a ha
        · rcases List.mem_append.mp hi with hi | hi
          · exact Nat.lt_succ_of_lt (h0.lt i hi)
          · rw [List.mem_singleton.mp hi]
            exact Nat.lt_succ_self _
    · intro h
      by_cases c : k ∈ lot
      · refine .inr ⟨lot.dropLast, (lotsR_mem k _).mpr ?_, ?_⟩
        all_goals
          have hne : lot ≠ [] := fun z => by rw [z] at c; cases c
          have e : lot.dropLast ++ [lot.getLast hne] = lot := List.dropLast_concat_getLast hne
          have hp := h.pw
          rw [← e] at hp c
          have hp2 := List.pairwise_append.mp hp
          have hlast : lot.getLast hne = k := by
            rcases List.mem_append.mp c with c | c
            · have h1 := hp2.2.2 k c _ (List.mem_singleton.mpr rfl)
              have h2 := h.lt _ (List.getLast_mem hne)
              omega
            · exact (List.mem_singleton.mp c).symm
        · exact ⟨hp2.1, fun i hi => by
            have := hp2.2.2 i hi _ (List.mem_singleton.mpr rfl)
            omega⟩
        · rw [hlast] at e
          exact e
      · exact .inl ⟨h.pw, fun i hi => by
          have := h.lt i hi
          have : i ≠ k := fun z => c (z ▸ hi)
          omega⟩
theorem lotsR_nd : ∀ k, (lotsR k).Nodup
  | 0 => by simp [lotsR]
  | k + 1 => by
    show (lotsR k ++ (lotsR k).map fun lot => lot ++ [k]).Nodup
    rw [List.nodup_append]
    refine ⟨lotsR_nd k, ?_, fun a ha b hb => ?_⟩
    · refine (lotsR_nd k).map (f := fun lot => lot ++ [k]) ?_
      intro a b hab e
      exact hab (List.append_cancel_right e)
    · obtain ⟨l0, h0, rfl⟩ := List.mem_map.mp hb
      rintro rfl
      exact absurd (((lotsR_mem k _).mp ha).lt k (by simp)) (Nat.lt_irrefl _)
theorem lotsR_head (k : Nat) : ∃ r, lotsR k = [] :: r := by
  induction k with
  | zero => exact ⟨[], rfl⟩
  | succ k ih =>
    obtain ⟨r, e⟩ := ih
    exact ⟨r ++ (lotsR k).map fun lot => lot ++ [k], by
      show lotsR k ++ _ = _
      rw [e]
      rfl⟩
/-- all lots, ascending -/
def lotsS (n : Nat) : List (List Nat) := (lotsR n).mergeSort leW
theorem lotsS_mem (n : Nat) (lot : List Nat) : lot ∈ lotsS n ↔ LotOk n lot := by
  unfold lotsS
  rw [List.mem_mergeSort, lotsR_mem]
theorem lotsS_nd (n : Nat) : (lotsS n).Nodup := (List.mergeSort_perm _ _).nodup_iff.mpr (lotsR_nd n)
theorem lotsS_len (n : Nat) : (lotsS n).length = 2 ^ n := by unfold lotsS; rw [List.length_mergeSort, lotsR_len]
theorem sortOkH_rows {rs : List (List Nat)} (h : ∃ r, rs = [] :: r) : sortOkH (rs.map natP) = true := by
  have e : ∀ r : List Nat, (r.map fun (n : Nat) => PyData.int (n : Int)) = (r.map fun (n : Nat) => (n : Int)).map PyData.int := fun r => by simp
  unfold sortOkH
  rw [Bool.and_eq_true, Bool.and_eq_true]
  refine ⟨⟨?_, ?_⟩, ?_⟩
  · rw [List.all_eq_true]
    intro a ha
    rw [List.all_eq_true]
    intro b hb
    obtain ⟨x, _, rfl⟩ := List.mem_map.mp ha
    obtain ⟨y, _, rfl⟩ := List.mem_map.mp hb
    exact alike_natP x y
  · obtain ⟨r, rfl⟩ := h
    show (r.map natP).all _ = true
    rw [List.all_map, List.all_eq_true]
    intro x hx
    rfl
  · rw [List.all_eq_true]
    intro a ha
    obtain ⟨x, hx, rfl⟩ := List.mem_map.mp ha
    have := encRow.dep x
    simp only [decide_eq_true_eq]
    omega
theorem sortedH_rows {rs : List (List Nat)} (h : ∃ r, rs = [] :: r) : dSortedH [.lst (rs.map natT)] = some (.lst ((rs.mergeSort leW).map natT)) := by
  show (pyAll (rs.map natT)).bind (fun ps => if sortOkH ps then some (D.lst (sortD (rs.map natT) ps)) else none) = _
  rw [pyAll_map (p := natP) encRow.py rs]
  show (if sortOkH (rs.map natP) = true then some (D.lst (sortD (rs.map natT) (rs.map natP))) else none) = _
  rw [if_pos (sortOkH_rows h)]
  congr 2
  unfold sortD
  rw [show (rs.map natT).zip (rs.map natP) = rs.map fun r => (natT r, natP r) by
    clear h
    induction rs with
    | nil => rfl
    | cons r rs ih => rw [List.map_cons, List.map_cons, List.zip_cons_cons, ih, List.map_cons]]
  rw [← List.map_mergeSort (r := leW) (f := fun r : List Nat => (natT r, natP r)) (s := PySem.W.dataLe false (·.2)) (fun a _ b _ => by
    show leW a b = PySem.W.dataLe false natP a b
    rw [natP_le]), List.map_map]
  rfl
theorem all_lots_ok {n : Nat} (hn : n ≤ 6) (S : Sto) : m_all_lots [.int (n : Int)] S = .ok (.lst ((lotsS n).map natT)) S := by
  refine post_ok ?_
  unfold m_all_lots b_all_lots
  rw [e_runD]
  simp -implicitDefEqProofs [-Int.natCast_add, rg1 (j := n) (by omega)]
  refine then_post (P := fun o S' => S' = S ∧ ∃ ρ', o = .nx ρ' ∧ St [none, some (.lst ((lotsR n).map natT)), none, none] ρ') (forL_range (fun j ρ S' => S' = S ∧ ∃ M, M = lotsR j ∧ St [some (.int (n : Int)), some (.lst (M.map natT)), none, none] ρ) n ⟨rfl, _, rfl, by simp [lotsR]⟩ (fun j hj ρ S' ⟨e1, M, eM, h⟩ => ?_) fun ρ S' ⟨e1, M, eM, h⟩ => ⟨e1, ρ, rfl, ?_⟩) fun o S' ⟨e1, ρ, e, h⟩ => ?_
  · repeat (first | (replace h := St.some h; obtain ⟨_, rfl, h⟩ := h) | (replace h := St.none h; obtain ⟨_, _, rfl, h⟩ := h))
    cases St.nil h
    subst e1
    have hMl : M.length = 2 ^ j := by rw [eM, lotsR_len]
    have hp : 2 ^ j ≤ 64 := Nat.le_trans (Nat.pow_le_pow_right (by omega) (show j ≤ 6 by omega)) (by decide)
    have hl6 : ∀ lot ∈ M, lot.length ≤ 6 := fun lot hl => by
      rw [eM] at hl
      have := ((lotsR_mem j lot).mp hl).len
      omega
    have hnx : lotsR (j + 1) = M ++ M.map fun lot => lot ++ [j] := by rw [eM]; rfl
    simp -implicitDefEqProofs [-Int.natCast_add]
    rw [compL_map (enc := natT) (g := fun lot => natT (lot ++ [j])) M (fun lot hl => by
      have := hl6 lot hl
      have hz : lot.length + 1 ≤ sizeLine := by rw [szl]; omega
      simp -implicitDefEqProofs [-Int.natCast_add, hz])]
    have hz : (M.map fun lot => natT (lot ++ [j])).length ≤ sizeLine := by rw [List.length_map, szl]; omega
    have hcat : dCatF (.lst (M.map natT)) (.lst (M.map fun lot => natT (lot ++ [j]))) = some (.lst ((lotsR (j + 1)).map natT)) := by
      show (if _ then _ else _) = _
      rw [if_pos (by rw [List.length_map, List.length_map, szl]; omega), hnx, List.map_append, List.map_map]
      rfl
    generalize (M.map fun lot => natT (lot ++ [j])) = NW at *
    generalize lotsR (j + 1) = M2 at *
    simp -implicitDefEqProofs [-Int.natCast_add, hz, hcat, stepP]
    try exact ⟨M2, rfl, rfl⟩
  · subst eM
    repeat (first | (replace h := St.some h; obtain ⟨_, rfl, h⟩ := h) | (replace h := St.none h; obtain ⟨_, _, rfl, h⟩ := h))
    cases St.nil h
    first | done | simp
  · subst e1 e
    repeat (first | (replace h := St.some h; obtain ⟨_, rfl, h⟩ := h) | (replace h := St.none h; obtain ⟨_, _, rfl, h⟩ := h))
    cases St.nil h
    have hs := sortedH_rows (lotsR_head n)
    simp -implicitDefEqProofs [-Int.natCast_add, hs]
    rfl

/-! ### the papers of all lots -/
def lieB (one other : List Nat) : Bool := one.all fun i => decide (i ∈ other)
theorem lies_ok {one other : List Nat} (h : one.length ≤ 1000) (S : Sto) : m_lies_in [natT one, natT other] S = .ok (.bl (lieB one other)) S := by
  have ha := all_map (fun i : Nat => decide (i ∈ other)) one
  have hz : one.length ≤ sizeLine := szk h
  unfold m_lies_in b_lies_in lieB
  simp -implicitDefEqProofs [-Int.natCast_add]
  rw [compL_map (enc := fun (i : Nat) => D.int (i : Int)) (g := fun (i : Nat) => D.bl (decide (i ∈ other))) one (fun i hi => by
    have hin := in_natT i other
    simp -implicitDefEqProofs [-Int.natCast_add, hin])]
  simp -implicitDefEqProofs [-Int.natCast_add, hz, ha]
def hasSub (good : List (List Nat)) (lot : List Nat) : Bool := good.any fun one => decide (one ≠ lot) && lieB one lot
def hasSup (bad : List (List Nat)) (lot : List Nat) : Bool := bad.any fun one => decide (one ≠ lot) && lieB lot one
def keptL (good : List (List Nat)) : List (List Nat) := good.filter fun lot => !hasSub good lot
def tornL (bad : List (List Nat)) : List (List Nat) := bad.filter fun lot => !hasSup bad lot
/-- a dict by comprehension: the keys are rows, each once -/
theorem dcomp_rows {f : D → M (Option (List Key × D))} {g : List Nat → D} {S : Sto} : ∀ (xs : List (List Nat)) (acc : List Ent), (∀ x ∈ xs, f (natT x) S = .ok (some (keyR x, g x)) S) → xs.Nodup → (∀ x ∈ xs, x ∉ acc.map (·.1)) → acc.length + xs.length ≤ 100000 →
    dcompL f (xs.map natT) (kdsOf acc) S = .ok (kdsOf (acc ++ xs.map fun x => (x, g x))) S
  | [], acc, _, _, _, _ => by rw [List.map_nil, List.map_nil, List.append_nil]; rfl
  | x :: xs, acc, h, hn, hd, hz => by
    rw [List.length_cons] at hz
    rw [List.nodup_cons] at hn
    show ((f (natT x) S).then fun y S1 => match y with
      | some kv => if (kdsOf acc).length < sizeLine then dcompL f (xs.map natT) (putKD (kdsOf acc) kv.1 kv.2) S1 else .bad
      | none => dcompL f (xs.map natT) (kdsOf acc) S1) = _
    rw [h x List.mem_cons_self]
    show (if (kdsOf acc).length < sizeLine then dcompL f (xs.map natT) (putKD (kdsOf acc) (keyR x) (g x)) S else .bad) = _
    rw [if_pos (by rw [kdsOf_len, szl]; omega), put_kds]
    have hx : x ∉ acc.map (·.1) := hd x List.mem_cons_self
    have e : putE acc x (g x) = acc ++ [(x, g x)] := by
      unfold putE
      rw [if_neg hx]
    rw [e, dcomp_rows xs (acc ++ [(x, g x)]) (fun y hy => h y (List.mem_cons_of_mem _ hy)) hn.2 (fun y hy => ?_) (by rw [List.length_append, List.length_singleton]; omega)]
    · rw [List.map_cons, List.append_assoc]
      rfl
    · rw [List.map_append, List.mem_append]
      rintro (z | z)
      · exact hd y (List.mem_cons_of_mem _ hy) z
      · have : y = x := List.mem_singleton.mp z
        exact hn.1 (this ▸ hy)
/-- what the papers tell: pv the yield that is shown -/
def PapV (s : ShopT) (L : List Rod) (ls : List Nat) (pv : List Nat → D) : Prop := ∀ lot, YieldD s (mixL L ls lot (papS s ls)) (pv lot) ∧ ∀ S, m_paper_by [s.o, rodsT L, natT ls, natT lot] S = .ok (.tup [.bl (papB s L ls lot), pv lot]) S
theorem papV_ex {s : ShopT} (hy : ShY s) {L : List Rod} {ls : List Nat} (h : RodsOk L) (hb : LensOk L ls) : ∃ pv, PapV s L ls pv := by
  have := fun lot => paper_ok hy lot h hb
  exact ⟨fun lot => (this lot).choose, fun lot => (this lot).choose_spec⟩
noncomputable def goodL (s : ShopT) (L : List Rod) (ls : List Nat) : List (List Nat) := (lotsS L.length).filter fun lot => papB s L ls lot
noncomputable def badL (s : ShopT) (L : List Rod) (ls : List Nat) : List (List Nat) := (lotsS L.length).filter fun lot => !papB s L ls lot
def papersD (K T : List (List Nat)) (pv : List Nat → D) : D := .tup [.lst (K.map fun lot => .tup [natT lot, pv lot]), .lst (T.map fun lot => .tup [natT lot, pv lot])]
theorem ne_rows (a b : List Nat) : dNe (natT a) (natT b) = some (.bl (decide (a ≠ b))) := by
  have := encRow.eq (a := a) (b := b) trivial trivial true
  show dEqv true (natT a) (natT b) = _
  refine this.trans ?_
  simp
theorem sorted_papers_ok {s : ShopT} {L : List Rod} {ls : List Nat} {pv : List Nat → D} (h : RodsOk L) (hb : LensOk L ls) (hv : PapV s L ls pv) : (m_sorted_papers [s.o, rodsT L, natT ls] []).post fun d _ => d = papersD (keptL (goodL s L ls)) (tornL (badL s L ls)) pv := by
  have hn6 := h.ln.2
  have hlots := all_lots_ok hn6 []
  have hp : 2 ^ L.length ≤ 64 := Nat.le_trans (Nat.pow_le_pow_right (by omega) hn6) (by decide)
  have hll : (lotsS L.length).length ≤ 64 := by rw [lotsS_len]; exact hp
  have hmem : ∀ lot ∈ lotsS L.length, lot.length ≤ 6 := fun lot hl => by
    have := ((lotsS_mem _ _).mp hl).len
    omega
  have hnd := lotsS_nd L.length
  have hgl : (goodL s L ls).length ≤ 64 := Nat.le_trans (List.length_filter_le _ _) hll
  have hbl : (badL s L ls).length ≤ 64 := Nat.le_trans (List.length_filter_le _ _) hll
  have hgm : ∀ lot ∈ goodL s L ls, lot.length ≤ 6 ∧ lot ∈ lotsS L.length := fun lot hl => ⟨hmem lot (List.mem_filter.mp hl).1, (List.mem_filter.mp hl).1⟩
  have hbm : ∀ lot ∈ badL s L ls, lot.length ≤ 6 ∧ lot ∈ lotsS L.length := fun lot hl => ⟨hmem lot (List.mem_filter.mp hl).1, (List.mem_filter.mp hl).1⟩
  have hkl : (keptL (goodL s L ls)).length ≤ 64 := Nat.le_trans (List.length_filter_le _ _) hgl
  have htl : (tornL (badL s L ls)).length ≤ 64 := Nat.le_trans (List.length_filter_le _ _) hbl
  have hkm : ∀ lot ∈ keptL (goodL s L ls), lot ∈ lotsS L.length := fun lot hl => (hgm lot (List.mem_filter.mp hl).1).2
  have htm : ∀ lot ∈ tornL (badL s L ls), lot ∈ lotsS L.length := fun lot hl => (hbm lot (List.mem_filter.mp hl).1).2
  have hgood : goodL s L ls = (lotsS L.length).filter fun lot => papB s L ls lot := rfl
  have hbad : badL s L ls = (lotsS L.length).filter fun lot => !papB s L ls lot := rfl
  unfold m_sorted_papers b_sorted_papers
  generalize hT : lotsS L.length = T at *
  have hrl : dLen [rodsT L] = some (.int (L.length : Int)) := by simp
  have hpap : ∀ (lot : List Nat) (S : Sto), m_paper_by [s.o, rodsT L, natT ls, natT lot] S = .ok (.tup [.bl (papB s L ls lot), pv lot]) S := fun lot S => (hv lot).2 S
  -- the dict
  have hdict : ∀ (ρ : DEnv), St [some (s.o), some (rodsT L), some (natT ls), some (.lst (T.map natT)), none, none, none, none, none, none, none] ρ → sDictC [9] (sItA (sVar 3)) (gN 9) sYes (sVar 9) (sCall m_paper_by [(false, (sVar 0)), (false, (sVar 1)), (false, (sVar 2)), (false, (sVar 9))]) ρ [] = .ok (.mref 0) [.t false (kdsOf (T.map fun x => (x, D.tup [.bl (papB s L ls x), pv x])))] := fun ρ hρ => by
    have hd := dcomp_rows (f := dcBody (gN 9) sYes (sVar 9) (sCall m_paper_by [(false, (sVar 0)), (false, (sVar 1)), (false, (sVar 2)), (false, (sVar 9))]) (wipeE ρ [9])) (g := fun x => D.tup [.bl (papB s L ls x), pv x]) (S := []) T [] (fun x hx => by
      have hpx := hpap x []
      have hk := keys_natT x
      repeat (first | (replace hρ := St.some hρ; obtain ⟨_, rfl, hρ⟩ := hρ) | (replace hρ := St.none hρ; obtain ⟨_, _, rfl, hρ⟩ := hρ))
      cases St.nil hρ
      generalize rodsT L = rd at *
      generalize natT ls = ld at *
      generalize natT x = nx at *
      unfold dcBody
      simp -implicitDefEqProofs [-Int.natCast_add, hpx, keyed, hk]) hnd (fun x hx => by simp) (by simp; omega)
    unfold sDictC
    have e1 : sItA (sVar 3) ρ [] = .ok (T.map natT) [] := by
      repeat (first | (replace hρ := St.some hρ; obtain ⟨_, rfl, hρ⟩ := hρ) | (replace hρ := St.none hρ; obtain ⟨_, _, rfl, hρ⟩ := hρ))
      cases St.nil hρ
      simp -implicitDefEqProofs [-Int.natCast_add]
    have hd' : dcompL (dcBody (gN 9) sYes (sVar 9) (sCall m_paper_by [(false, (sVar 0)), (false, (sVar 1)), (false, (sVar 2)), (false, (sVar 9))]) (wipeE ρ [9])) (T.map natT) [] [] = .ok (kdsOf (T.map fun x => (x, D.tup [.bl (papB s L ls x), pv x]))) [] := hd
    rw [e1]
    show ((dcompL (dcBody (gN 9) sYes (sVar 9) (sCall m_paper_by [(false, (sVar 0)), (false, (sVar 1)), (false, (sVar 2)), (false, (sVar 9))]) (wipeE ρ [9])) (T.map natT) [] []).then fun kds S2 => Res.ok (D.mref S2.length) (S2 ++ [MO.t false kds])) = _
    rw [hd']
    rfl
  have hdict' := hdict [some s.o, some (rodsT L), some (natT ls), some (.lst (T.map natT)), none, none, none, none, none, none, none] (by simp)
  have hnd2 : ((T.map fun x => (x, D.tup [.bl (papB s L ls x), pv x])).map (·.1)).Nodup := by
    rw [List.map_map]
    have : ((fun q : Ent => q.1) ∘ fun x => (x, D.tup [.bl (papB s L ls x), pv x])) = id := rfl
    rw [this, List.map_id]
    exact hnd
  have hix : ∀ lot ∈ T, ixS [.t false (kdsOf (T.map fun x => (x, D.tup [.bl (papB s L ls x), pv x])))] (.mref 0) (natT lot) = some (.tup [.bl (papB s L ls lot), pv lot]) := fun lot hl => ix_at (q := (lot, D.tup [.bl (papB s L ls lot), pv lot])) rfl hnd2 (List.mem_map.mpr ⟨lot, hl, rfl⟩)
  generalize hS1 : ([.t false (kdsOf (T.map fun x => (x, D.tup [.bl (papB s L ls x), pv x])))] : Sto) = S1 at *
  have hzT : T.length ≤ sizeLine := szk (by omega)
  have hzG : (goodL s L ls).length ≤ sizeLine := szk (by omega)
  have hzB : (badL s L ls).length ≤ sizeLine := szk (by omega)
  have hzK : (keptL (goodL s L ls)).length ≤ sizeLine := szk (by omega)
  have hzN : (tornL (badL s L ls)).length ≤ sizeLine := szk (by omega)
  have hz2 : (2 : Nat) ≤ sizeLine := szk (by omega)
  rw [e_runD]
  simp -implicitDefEqProofs [-Int.natCast_add, hrl, hlots, hdict']
  rw [compL_filter (enc := natT) (g := natT) (p := fun lot => papB s L ls lot) T (fun lot hl => by
    have hi := hix lot hl
    generalize natT lot = nl at *
    cases c : papB s L ls lot with
    | true => simp -implicitDefEqProofs [-Int.natCast_add, hi, c]
    | false => simp -implicitDefEqProofs [-Int.natCast_add, hi, c]), ← hgood]
  simp -implicitDefEqProofs [-Int.natCast_add, hzG]
  rw [compL_filter (enc := natT) (g := natT) (p := fun lot => !papB s L ls lot) T (fun lot hl => by
    have hi := hix lot hl
    generalize natT lot = nl at *
    cases c : papB s L ls lot with
    | true => simp -implicitDefEqProofs [-Int.natCast_add, hi, c]
    | false => simp -implicitDefEqProofs [-Int.natCast_add, hi, c]), ← hbad]
  have hk : keptL (goodL s L ls) = (goodL s L ls).filter fun lot => !hasSub (goodL s L ls) lot := rfl
  have ht : tornL (badL s L ls) = (badL s L ls).filter fun lot => !hasSup (badL s L ls) lot := rfl
  generalize goodL s L ls = G at *
  generalize badL s L ls = B at *
  simp -implicitDefEqProofs [-Int.natCast_add, hzB]
  rw [compL_filter (enc := natT) (g := natT) (p := fun lot => !hasSub G lot) G (fun lot hl => by
    have hany := any_map (fun one : List Nat => decide (one ≠ lot) && lieB one lot) G
    simp -implicitDefEqProofs [-Int.natCast_add]
    rw [compL_map (enc := natT) (g := fun one => D.bl (decide (one ≠ lot) && lieB one lot)) G (fun one ho => by
      have hlie := lies_ok (one := one) (other := lot) (by have := (hgm one ho).1; omega) S1
      have hne := ne_rows one lot
      generalize lieB one lot = lb at *
      by_cases c : one = lot
      · rw [decide_eq_false (fun z => z c)] at hne ⊢
        generalize natT one = no at *
        generalize natT lot = nl at *
        simp -implicitDefEqProofs [-Int.natCast_add, hne]
      · rw [decide_eq_true c] at hne ⊢
        generalize natT one = no at *
        generalize natT lot = nl at *
        simp -implicitDefEqProofs [-Int.natCast_add, hne, hlie])]
    have hz : (G.map fun one => D.bl (decide (one ≠ lot) && lieB one lot)).length ≤ sizeLine := by rw [List.length_map]; exact hzG
    generalize (G.map fun one => D.bl (decide (one ≠ lot) && lieB one lot)) = GB at *
    have hgb : (G.any fun one => decide (one ≠ lot) && lieB one lot) = hasSub G lot := rfl
    rw [hgb] at hany
    generalize hasSub G lot = gb at *
    generalize natT lot = nl at *
    cases gb with
    | true => simp -implicitDefEqProofs [-Int.natCast_add, hz, hany]
    | false => simp -implicitDefEqProofs [-Int.natCast_add, hz, hany]), ← hk]
  generalize keptL G = K at *
  simp -implicitDefEqProofs [-Int.natCast_add, hzK]
  rw [compL_filter (enc := natT) (g := natT) (p := fun lot => !hasSup B lot) B (fun lot hl => by
    have hany := any_map (fun one : List Nat => decide (one ≠ lot) && lieB lot one) B
    simp -implicitDefEqProofs [-Int.natCast_add]
    rw [compL_map (enc := natT) (g := fun one => D.bl (decide (one ≠ lot) && lieB lot one)) B (fun one ho => by
      have hlie := lies_ok (one := lot) (other := one) (by have := (hbm lot hl).1; omega) S1
      have hne := ne_rows one lot
      generalize lieB lot one = lb at *
      by_cases c : one = lot
      · rw [decide_eq_false (fun z => z c)] at hne ⊢
        generalize natT one = no at *
        generalize natT lot = nl at *
        simp -implicitDefEqProofs [-Int.natCast_add, hne]
      · rw [decide_eq_true c] at hne ⊢
        generalize natT one = no at *
        generalize natT lot = nl at *
        simp -implicitDefEqProofs [-Int.natCast_add, hne, hlie])]
    have hz : (B.map fun one => D.bl (decide (one ≠ lot) && lieB lot one)).length ≤ sizeLine := by rw [List.length_map]; exact hzB
    generalize (B.map fun one => D.bl (decide (one ≠ lot) && lieB lot one)) = GB at *
    have hgb : (B.any fun one => decide (one ≠ lot) && lieB lot one) = hasSup B lot := rfl
    rw [hgb] at hany
    generalize hasSup B lot = gb at *
    generalize natT lot = nl at *
    cases gb with
    | true => simp -implicitDefEqProofs [-Int.natCast_add, hz, hany]
    | false => simp -implicitDefEqProofs [-Int.natCast_add, hz, hany]), ← ht]
  generalize tornL B = N at *
  simp -implicitDefEqProofs [-Int.natCast_add, hzN]
  rw [compL_map (enc := natT) (g := fun lot => .tup [natT lot, pv lot]) K (fun lot hl => by
    have hi := hix lot (hkm lot hl)
    generalize natT lot = nl at *
    simp -implicitDefEqProofs [-Int.natCast_add, hi, hz2])]
  have hzK2 : (K.map fun lot => D.tup [natT lot, pv lot]).length ≤ sizeLine := by rw [List.length_map]; exact hzK
  simp -implicitDefEqProofs [-Int.natCast_add, hzK]
  rw [compL_map (enc := natT) (g := fun lot => .tup [natT lot, pv lot]) N (fun lot hl => by
    have hi := hix lot (htm lot hl)
    generalize natT lot = nl at *
    simp -implicitDefEqProofs [-Int.natCast_add, hi, hz2])]
  simp -implicitDefEqProofs [-Int.natCast_add, hzN, hz2]
  rfl

/-! ### lots that tell -/
theorem noM_papers {K T : List (List Nat)} {pv : List Nat → D} (h : ∀ lot, noM (pv lot) = true) : noM (papersD K T pv) = true := by
  have e : ∀ lot : List Nat, noM (D.tup [natT lot, pv lot]) = true := fun lot => by
    show (noM (natT lot) && (noM (pv lot) && true)) = true
    rw [noM_nat, h]
    rfl
  have h1 : noM (.lst (K.map fun lot => D.tup [natT lot, pv lot])) = true := noMs_map e K
  have h2 : noM (.lst (T.map fun lot => D.tup [natT lot, pv lot])) = true := noMs_map e T
  show (noM (.lst (K.map fun lot => D.tup [natT lot, pv lot])) && (noM (.lst (T.map fun lot => D.tup [natT lot, pv lot])) && true)) = true
  rw [h1, h2]
  rfl
theorem papers_call {s : ShopT} (hy : ShY s) {L : List Rod} {ls : List Nat} {pv : List Nat → D} (h : RodsOk L) (hb : LensOk L ls) (hv : PapV s L ls pv) : noMs [s.o, rodsT L, natT ls] = true ∧ ∀ S, pureD (m_sorted_papers [s.o, rodsT L, natT ls] []) S = .ok (papersD (keptL (goodL s L ls)) (tornL (badL s L ls)) pv) S := by
  obtain ⟨d, S', e, hd⟩ := Res.post_ex (sorted_papers_ok h hb hv)
  refine ⟨?_, fun S => ?_⟩
  · show (noM s.o && (noM (rodsT L) && (noM (natT ls) && true))) = true
    rw [noM_shop, noM_rods, noM_nat]
    rfl
  · rw [e, hd]
    show (if noM (papersD _ _ pv) = true then Res.ok (papersD _ _ pv) S else .bad) = _
    rw [if_pos (noM_papers fun lot => ((hv lot).1.isN).2.2)]
theorem asc_ext : ∀ {a b : List Nat}, a.Pairwise (· < ·) → b.Pairwise (· < ·) → (∀ x, x ∈ a ↔ x ∈ b) → a = b
  | [], [], _, _, _ => rfl
  | [], y :: b, _, _, h => absurd ((h y).mpr List.mem_cons_self) (by simp)
  | x :: a, [], _, _, h => absurd ((h x).mp List.mem_cons_self) (by simp)
  | x :: a, y :: b, ha, hb, h => by
    rw [List.pairwise_cons] at ha hb
    have hxy : x = y := by
      rcases List.mem_cons.mp ((h x).mp List.mem_cons_self) with e | e
      · exact e
      · rcases List.mem_cons.mp ((h y).mpr List.mem_cons_self) with e2 | e2
        · exact e2.symm
        · have := hb.1 x e
          have := ha.1 y e2
          omega
    subst hxy
    rw [asc_ext ha.2 hb.2 fun z => ?_]
    constructor
    · intro hz
      rcases List.mem_cons.mp ((h z).mp (List.mem_cons_of_mem _ hz)) with e | e
      · subst e
        exact absurd (ha.1 z hz) (Nat.lt_irrefl z)
      · exact e
    · intro hz
      rcases List.mem_cons.mp ((h z).mpr (List.mem_cons_of_mem _ hz)) with e | e
      · subst e
        exact absurd (hb.1 z hz) (Nat.lt_irrefl z)
      · exact e
theorem lie_iff {a b : List Nat} : lieB a b = true ↔ ∀ i ∈ a, i ∈ b := by
  unfold lieB
  rw [List.all_eq_true]
  exact ⟨fun h i hi => of_decide_eq_true (h i hi), fun h i hi => decide_eq_true (h i hi)⟩
theorem lie_lt {n : Nat} {a b : List Nat} (ha : LotOk n a) (hb : LotOk n b) (h : lieB a b = true) (hne : a ≠ b) : a.length < b.length := by
  have hs := lie_iff.mp h
  have ⟨x, hx, hxa⟩ : ∃ x ∈ b, x ∉ a := Classical.byContradiction fun no => hne (asc_ext ha.pw hb.pw fun x => ⟨hs x, fun hx => Classical.byContradiction fun z => no ⟨x, hx, z⟩⟩)
  have := sub_len (l := x :: a) (m := b) (List.nodup_cons.mpr ⟨hxa, ha.nd⟩) fun y hy => by
    rcases List.mem_cons.mp hy with rfl | hy
    · exact hx
    · exact hs y hy
  rw [List.length_cons] at this
  omega
/-- of lots there is one that no other one lies in -/
theorem kept_ex {n : Nat} {G : List (List Nat)} (hG : ∀ lot ∈ G, LotOk n lot) : ∀ (m : Nat) (lot : List Nat), lot ∈ G → lot.length ≤ m → ∃ k ∈ keptL G, lieB k lot = true
  | m, lot, hl, hm => by
    cases c : hasSub G lot with
    | false => exact ⟨lot, List.mem_filter.mpr ⟨hl, by rw [c]; rfl⟩, lie_iff.mpr fun i hi => hi⟩
    | true =>
      obtain ⟨one, ho, h⟩ := List.any_eq_true.mp c
      rw [Bool.and_eq_true, decide_eq_true_eq] at h
      have lt := lie_lt (hG one ho) (hG lot hl) h.2 h.1
      match m, hm with
      | 0, hm => omega
      | m + 1, hm =>
        obtain ⟨k, hk, h2⟩ := kept_ex hG m one ho (by omega)
        exact ⟨k, hk, lie_iff.mpr fun i hi => lie_iff.mp h.2 i (lie_iff.mp h2 i hi)⟩
theorem lotOk_all (n : Nat) : LotOk n (List.range n) := ⟨List.pairwise_lt_range, fun i hi => List.mem_range.mp hi⟩
theorem mix_all (L : List Rod) {ls : List Nat} {n : Nat} (h : ls.length = n) (side : Nat) : mixL L ls (List.range n) side = ls := by
  refine row_ext (mixL_len _ _ _ _) fun i hi => ?_
  rw [mixL_len] at hi
  rw [mixL_at hi, if_pos (List.mem_range.mpr (by omega))]
theorem pap_all (s : ShopT) (L : List Rod) {ls : List Nat} {n : Nat} (h : ls.length = n) : papB s L ls (List.range n) = true := by
  unfold papB
  rw [mix_all L h, mix_all L h]
  cases can s ls <;> rfl
theorem goodL_ok {s : ShopT} {L : List Rod} {ls : List Nat} : ∀ lot ∈ goodL s L ls, LotOk L.length lot ∧ papB s L ls lot = true := fun lot hl => ⟨(lotsS_mem _ _).mp (List.mem_filter.mp hl).1, (List.mem_filter.mp hl).2⟩
theorem keptL_ne {s : ShopT} {L : List Rod} {ls : List Nat} (hb : LensOk L ls) : ∃ k, k ∈ keptL (goodL s L ls) := by
  have hm : List.range L.length ∈ goodL s L ls := List.mem_filter.mpr ⟨(lotsS_mem _ _).mpr (lotOk_all _), pap_all s L hb.ln⟩
  obtain ⟨k, hk, _⟩ := kept_ex (fun lot hl => (goodL_ok lot hl).1) _ _ hm (Nat.le_refl _)
  exact ⟨k, hk⟩
theorem least_by_ok {s : ShopT} (hy : ShY s) {L : List Rod} {ls : List Nat} (h : RodsOk L) (hb : LensOk L ls) (S : Sto) : m_least_by [s.o, rodsT L, natT ls] S = .ok (.lst ((keptL (goodL s L ls)).map natT)) S := by
  obtain ⟨pv, hv⟩ := papV_ex hy h hb
  obtain ⟨n1, e1⟩ := papers_call hy h hb hv
  have e1 := e1 S
  have h1 := need_both_ok h hb S
  have hp : 2 ^ L.length ≤ 64 := Nat.le_trans (Nat.pow_le_pow_right (by omega) h.ln.2) (by decide)
  have hkl : (keptL (goodL s L ls)).length ≤ 64 := Nat.le_trans (List.length_filter_le _ _) (Nat.le_trans (List.length_filter_le _ _) (by rw [lotsS_len]; exact hp))
  have hz : (keptL (goodL s L ls)).length ≤ sizeLine := szk (by omega)
  generalize keptL (goodL s L ls) = K at *
  generalize tornL (badL s L ls) = T at *
  have hix : dIx (papersD K T pv) (.int 0) = some (.lst (K.map fun lot => .tup [natT lot, pv lot])) := rfl
  unfold m_least_by b_least_by
  generalize papersD K T pv = pd at *
  generalize rodsT L = rd at *
  generalize natT ls = ld at *
  simp -implicitDefEqProofs [-Int.natCast_add, h1, n1, e1, hix]
  rw [compL_map (enc := fun lot => D.tup [natT lot, pv lot]) (g := natT) K (fun lot hl => by simp -implicitDefEqProofs [-Int.natCast_add])]
  simp -implicitDefEqProofs [-Int.natCast_add, hz]
theorem argBest_le (bt : Nat → Nat → Bool) : ∀ k, argBest bt k ≤ k
  | 0 => Nat.le_refl _
  | k + 1 => by
    unfold argBest
    split
    · exact Nat.le_refl _
    · exact Nat.le_succ_of_le (argBest_le bt k)
theorem minLen_rows {K : List (List Nat)} (h : K ≠ []) : ∃ lot ∈ K, dMinLen (.lst (K.map natT)) = some (natT lot) := by
  have hl : 0 < K.length := List.length_pos_iff.mpr h
  have hb : bestLen (K.map natT) < K.length := by
    have := argBest_le (fun i j => decide ((((K.map natT).getD i .non |> tlen).getD 0) < (((K.map natT).getD j .non |> tlen).getD 0))) ((K.map natT).length - 1)
    rw [List.length_map] at this
    have e : bestLen (K.map natT) = argBest (fun i j => decide ((((K.map natT).getD i .non |> tlen).getD 0) < (((K.map natT).getD j .non |> tlen).getD 0))) (K.length - 1) := by
      unfold bestLen
      rw [List.length_map]
    omega
  refine ⟨K[bestLen (K.map natT)], List.getElem_mem hb, ?_⟩
  show (if ((K.map natT).all fun x => (tlen x).isSome) = true then (K.map natT)[bestLen (K.map natT)]? else none) = _
  rw [if_pos (by rw [List.all_map, List.all_eq_true]; intro x hx; rfl), List.getElem?_map, List.getElem?_eq_getElem hb]
  rfl
theorem fewest_ok {s : ShopT} (hy : ShY s) {L : List Rod} {ls : List Nat} (h : RodsOk L) (hb : LensOk L ls) (S : Sto) : ∃ lot ∈ keptL (goodL s L ls), m_fewest_measured [s.o, rodsT L, natT ls] S = .ok (natT lot) S := by
  have h1 := least_by_ok hy h hb S
  obtain ⟨k, hk⟩ := keptL_ne (s := s) hb
  obtain ⟨lot, hl, hm⟩ := minLen_rows (K := keptL (goodL s L ls)) (fun z => by rw [z] at hk; cases hk)
  refine ⟨lot, hl, ?_⟩
  unfold m_fewest_measured b_fewest_measured
  generalize rodsT L = rd at *
  generalize natT ls = ld at *
  simp -implicitDefEqProofs [-Int.natCast_add, h1, hm]
/-! ### the law's own words -/
theorem measured_ok {L : List Rod} {ls lot : List Nat} (h : RodsOk L) (hb : LensOk L ls) {side : Nat} (hs : side ≤ 1) (S : Sto) : m__law_measured [rodsT L, natT ls, natT lot, .int (side : Int)] S = .ok (natT (mixL L ls lot side)) S := by
  unfold m__law_measured b__law_measured
  have hln := hb.ln
  have hL6 := h.ln.2
  simp -implicitDefEqProofs [-Int.natCast_add, rg1 (j := L.length) (by omega)]
  rw [compL_map (g := fun (k : Nat) => D.int ((if k ∈ lot then ls.getD k 0 else sideR side (L.getD k (0, 0)) : Nat) : Int)) (List.range L.length) (fun k hk => by
    have hLt := List.mem_range.mp hk
    have hk : k < ls.length := by omega
    have hin := in_natT k lot
    have e1 : dIx (natT ls) (.int (k : Int)) = some (.int (ls.getD k 0 : Int)) := d_ixt (by rw [List.getElem?_map, List.getD_eq_getElem?_getD, List.getElem?_eq_getElem hk]; rfl)
    have e2 : dIx (.tup (L.map rodD)) (.int (k : Int)) = some (rodD (L.getD k (0, 0))) := d_ixt (by rw [List.getElem?_map, List.getD_eq_getElem?_getD, List.getElem?_eq_getElem hLt]; rfl)
    have e3 : dIx (rodD (L.getD k (0, 0))) (.int (side : Int)) = some (.int (sideR side (L.getD k (0, 0)) : Int)) := by
      rcases Nat.eq_zero_or_pos side with rfl | hp
      · rfl
      · have : side = 1 := by omega
        subst this
        exact d_ix1 _ _ _
    generalize L.getD k (0, 0) = p at *
    by_cases c : k ∈ lot
    · rw [decide_eq_true c] at hin
      simp -implicitDefEqProofs [-Int.natCast_add, hin, c, e1]
    · rw [decide_eq_false c] at hin
      simp -implicitDefEqProofs [-Int.natCast_add, hin, c, e2, e3])]
  have e : ((List.range L.length).map fun (k : Nat) => D.int ((if k ∈ lot then ls.getD k 0 else sideR side (L.getD k (0, 0)) : Nat) : Int)) = (mixL L ls lot side).map fun (n : Nat) => D.int (n : Int) := by
    unfold mixL
    rw [List.map_map, hln]
    rfl
  have hz : (mixL L ls lot side).length ≤ sizeLine := by rw [mixL_len, hb.ln, szl]; omega
  rw [e]
  generalize mixL L ls lot side = M at *
  simp -implicitDefEqProofs [-Int.natCast_add, hz]
theorem ltells_ok {s : ShopT} (hy : ShY s) {L : List Rod} {ls : List Nat} (lot : List Nat) (h : RodsOk L) (hb : LensOk L ls) (S : Sto) : m__law_tells [s.t, rodsT L, natT ls, natT lot] S = .ok (.bl (papB s L ls lot)) S := by
  have hll : ls.length ≤ 6 := by rw [hb.ln]; exact h.ln.2
  obtain ⟨d1, hd1, hn1, e1⟩ := lyield_call hy (lens := ls) hll
  obtain ⟨d2, hd2, hn2, e2⟩ := lyield_call hy (lens := mixL L ls lot 0) (by rw [mixL_len]; exact hll)
  obtain ⟨d3, hd3, hn3, e3⟩ := lyield_call hy (lens := mixL L ls lot 1) (by rw [mixL_len]; exact hll)
  obtain ⟨a1, a2, a3⟩ := hd1.isN
  obtain ⟨b1, b2, b3⟩ := hd2.isN
  obtain ⟨c1, c2, c3⟩ := hd3.isN
  have hm0 : ∀ S, m__law_measured [rodsT L, natT ls, natT lot, .int 0] S = .ok (natT (mixL L ls lot 0)) S := fun S => measured_ok (lot := lot) h hb (side := 0) (by omega) S
  have hm1 : ∀ S, m__law_measured [rodsT L, natT ls, natT lot, .int 1] S = .ok (natT (mixL L ls lot 1)) S := fun S => measured_ok (lot := lot) h hb (side := 1) (by omega) S
  unfold m__law_tells b__law_tells papB
  cases c : can s ls with
  | true =>
    rw [c] at a1
    generalize natT (mixL L ls lot 0) = M0 at *
    generalize rodsT L = rd at *
    generalize natT ls = ld at *
    generalize natT lot = lt at *
    simp -implicitDefEqProofs [-Int.natCast_add, hn1, e1, a1, hm0, hn2, e2, b1, c]
  | false =>
    rw [c] at a1
    generalize natT (mixL L ls lot 1) = M1 at *
    generalize rodsT L = rd at *
    generalize natT ls = ld at *
    generalize natT lot = lt at *
    simp -implicitDefEqProofs [-Int.natCast_add, hn1, e1, a1, hm1, hn3, e3, c2, c]

/-! ### whether lengths do, plainly -/
structure WayT (s : ShopT) (lens : List Nat) (t : Nat → Nat) (R : RR) : Prop where
  ln : R.length = lens.length
  rl : ∀ q ∈ R, q.length = s.pieces.length
  fit : ∀ p ∈ lens.zip R, sizeW s.ws p.2 ≤ p.1 + s.kerf
  sum : ∀ i, i < s.pieces.length → (R.map fun q => q.getD i 0).sum = t i
def CanT (s : ShopT) (lens : List Nat) (t : Nat → Nat) : Prop := ∃ R, WayT s lens t R
theorem col_at {n i : Nat} (hi : i < n) (R : RR) : (colSum n R).getD i 0 = (R.map fun q => q.getD i 0).sum := by
  unfold colSum
  rw [List.getD_eq_getElem?_getD, List.getElem?_map, List.getElem?_range hi]
  rfl
theorem can_T {s : ShopT} {lens : List Nat} : Can s lens ↔ CanT s lens fun i => s.tg.getD i 0 := by
  constructor
  · rintro ⟨R, h⟩
    refine ⟨R, h.ln, h.rl, h.fit, fun i hi => ?_⟩
    have := h.sum i hi
    unfold zeroR at this
    rw [rep_at hi, col_at hi] at this
    omega
  · rintro ⟨R, h⟩
    refine ⟨R, h.ln, h.rl, h.fit, List.length_replicate, fun i hi => ?_⟩
    have := h.sum i hi
    unfold zeroR
    rw [rep_at hi, col_at hi]
    omega
theorem canT_cons {s : ShopT} {l : Nat} {lens : List Nat} {t : Nat → Nat} : CanT s (l :: lens) t ↔ ∃ q : List Nat, q.length = s.pieces.length ∧ sizeW s.ws q ≤ l + s.kerf ∧ (∀ i, i < s.pieces.length → q.getD i 0 ≤ t i) ∧ CanT s lens fun i => t i - q.getD i 0 := by
  constructor
  · rintro ⟨R, h⟩
    have hl := h.ln
    match R, hl, h with
    | q :: R, hl, h =>
      refine ⟨q, h.rl q List.mem_cons_self, h.fit (l, q) List.mem_cons_self, fun i hi => ?_, R, by simpa using hl, fun x hx => h.rl x (List.mem_cons_of_mem _ hx), fun p hp => h.fit p (List.mem_cons_of_mem _ hp), fun i hi => ?_⟩
      · have := h.sum i hi
        rw [List.map_cons, List.sum_cons] at this
        omega
      · have := h.sum i hi
        rw [List.map_cons, List.sum_cons] at this
        omega
  · rintro ⟨q, h1, h2, h3, R, h⟩
    refine ⟨q :: R, by rw [List.length_cons, List.length_cons, h.ln], fun x hx => ?_, fun p hp => ?_, fun i hi => ?_⟩
    · rcases List.mem_cons.mp hx with rfl | hx
      · exact h1
      · exact h.rl x hx
    · rcases List.mem_cons.mp hp with rfl | hp
      · exact h2
      · exact h.fit p hp
    · have := h.sum i hi
      have := h3 i hi
      rw [List.map_cons, List.sum_cons]
      omega
theorem canT_congr {s : ShopT} {lens : List Nat} {t t' : Nat → Nat} (h : ∀ i, i < s.pieces.length → t i = t' i) (c : CanT s lens t) : CanT s lens t' := by
  obtain ⟨R, hR⟩ := c
  exact ⟨R, hR.ln, hR.rl, hR.fit, fun i hi => by rw [hR.sum i hi, h i hi]⟩
theorem canT_perm {s : ShopT} {a b : List Nat} (h : a.Perm b) : ∀ {t : Nat → Nat}, CanT s a t → CanT s b t := by
  induction h with
  | nil => exact fun c => c
  | cons x _ ih =>
    intro t c
    obtain ⟨q, h1, h2, h3, c⟩ := canT_cons.mp c
    exact canT_cons.mpr ⟨q, h1, h2, h3, ih c⟩
  | swap x y l =>
    intro t c
    obtain ⟨q, h1, h2, h3, c⟩ := canT_cons.mp c
    obtain ⟨p, k1, k2, k3, c⟩ := canT_cons.mp c
    refine canT_cons.mpr ⟨p, k1, k2, fun i hi => ?_, canT_cons.mpr ⟨q, h1, h2, fun i hi => ?_, canT_congr (fun i hi => ?_) c⟩⟩
    · have := k3 i hi
      omega
    · have := k3 i hi
      have := h3 i hi
      omega
    · have := k3 i hi
      have := h3 i hi
      show t i - q.getD i 0 - p.getD i 0 = t i - p.getD i 0 - q.getD i 0
      omega
  | trans _ _ ih1 ih2 => exact fun c => ih2 (ih1 c)
theorem canT_mono {s : ShopT} {a b : List Nat} {t : Nat → Nat} (hl : a.length = b.length) (h : ∀ k, k < a.length → a.getD k 0 ≤ b.getD k 0) (c : CanT s a t) : CanT s b t := by
  obtain ⟨R, hR⟩ := c
  refine ⟨R, by rw [hR.ln, hl], hR.rl, fun p hp => ?_, hR.sum⟩
  obtain ⟨k, hk⟩ := List.mem_iff_getElem?.mp hp
  rw [List.getElem?_zip_eq_some] at hk
  have hkb := (List.getElem?_eq_some_iff.mp hk.1).1
  have hka : k < a.length := by omega
  have h1 := h k hka
  rw [List.getD_eq_getElem?_getD, List.getD_eq_getElem?_getD, List.getElem?_eq_getElem hka, hk.1] at h1
  have h1 : a[k] ≤ p.1 := h1
  have h2 := hR.fit (a[k], p.2) (List.mem_of_getElem? (i := k) (by
    rw [List.getElem?_zip_eq_some]
    exact ⟨List.getElem?_eq_getElem hka, hk.2⟩))
  have h2 : sizeW s.ws p.2 ≤ a[k] + s.kerf := h2
  omega
theorem canT_more {s : ShopT} {lens : List Nat} {t : Nat → Nat} (l : Nat) (c : CanT s lens t) : CanT s (l :: lens) t :=
  canT_cons.mpr ⟨List.replicate s.pieces.length 0, List.length_replicate, by rw [sizeW_zero]; exact Nat.zero_le _, fun i hi => by rw [rep_at hi]; exact Nat.zero_le _, canT_congr (fun i hi => by
    show t i = t i - (List.replicate s.pieces.length 0).getD i 0
    rw [rep_at hi]
    rfl) c⟩
/-- one less of the first piece -/
def lessT (t : Nat → Nat) : Nat → Nat := fun i => if i = 0 then t 0 - 1 else t i
theorem size_less : ∀ (ws q : List Nat), sizeW ws (q.set 0 (q.getD 0 0 - 1)) ≤ sizeW ws q
  | [], q => by cases q <;> simp [sizeW]
  | w :: ws, [] => by simp [sizeW]
  | w :: ws, k :: q => by
    show (k - 1) * w + sizeW ws q ≤ k * w + sizeW ws q
    exact Nat.add_le_add_right (Nat.mul_le_mul_right _ (Nat.sub_le _ _)) _
theorem canT_less {s : ShopT} (hn : 0 < s.pieces.length) : ∀ {lens : List Nat} {t : Nat → Nat}, 0 < t 0 → CanT s lens t → CanT s lens (lessT t)
  | [], t, h0, ⟨R, h⟩ => by
    have hR : R = [] := List.eq_nil_of_length_eq_zero h.ln
    subst hR
    have := h.sum 0 hn
    rw [List.map_nil, List.sum_nil] at this
    omega
  | l :: lens, t, h0, c => by
    obtain ⟨q, h1, h2, h3, c⟩ := canT_cons.mp c
    by_cases hq : 0 < q.getD 0 0
    · refine canT_cons.mpr ⟨q.set 0 (q.getD 0 0 - 1), by rw [List.length_set, h1], Nat.le_trans (size_less _ _) h2, fun i hi => ?_, canT_congr (fun i hi => ?_) c⟩
      · have := h3 i hi
        unfold lessT
        by_cases c : i = 0
        · subst c
          rw [if_pos rfl, List.getD_eq_getElem?_getD (l := List.set _ _ _), List.getElem?_set_self (by omega)]
          show q.getD 0 0 - 1 ≤ _
          omega
        · rw [if_neg c, List.getD_eq_getElem?_getD, List.getElem?_set_ne (fun z => c z.symm), ← List.getD_eq_getElem?_getD]
          exact this
      · have := h3 i hi
        show t i - q.getD i 0 = lessT t i - (q.set 0 (q.getD 0 0 - 1)).getD i 0
        unfold lessT
        by_cases c : i = 0
        · subst c
          rw [if_pos rfl, List.getD_eq_getElem?_getD (l := List.set _ _ _), List.getElem?_set_self (by omega)]
          show t 0 - q.getD 0 0 = t 0 - 1 - (q.getD 0 0 - 1)
          omega
        · rw [if_neg c, List.getD_eq_getElem?_getD (l := List.set _ _ _), List.getElem?_set_ne (fun z => c z.symm), ← List.getD_eq_getElem?_getD]
    · have ih := canT_less hn (lens := lens) (t := fun i => t i - q.getD i 0) (by show 0 < t 0 - q.getD 0 0; omega) c
      refine canT_cons.mpr ⟨q, h1, h2, fun i hi => ?_, canT_congr (fun i hi => ?_) ih⟩
      · have := h3 i hi
        unfold lessT
        by_cases c : i = 0
        · subst c
          rw [if_pos rfl]
          omega
        · rw [if_neg c]
          exact this
      · unfold lessT
        by_cases c : i = 0
        · subst c
          rw [if_pos rfl, if_pos rfl]
          show t 0 - q.getD 0 0 - 1 = t 0 - 1 - q.getD 0 0
          omega
        · rw [if_neg c, if_neg c]
theorem canT_shop {s s' : ShopT} {lens : List Nat} {t : Nat → Nat} (h1 : s'.ws = s.ws) (h2 : s'.pieces.length = s.pieces.length) (h3 : s'.kerf = s.kerf) (c : CanT s lens t) : CanT s' lens t := by
  obtain ⟨R, h⟩ := c
  exact ⟨R, h.ln, fun q hq => by rw [h2]; exact h.rl q hq, fun p hp => by rw [h1, h3]; exact h.fit p hp, fun i hi => h.sum i (by rw [← h2]; exact hi)⟩
theorem can_mono {s : ShopT} {a b : List Nat} (hl : a.length = b.length) (h : ∀ k, k < a.length → a.getD k 0 ≤ b.getD k 0) (c : can s a = true) : can s b = true := can_iff.mpr (can_T.mpr (canT_mono hl h (can_T.mp (can_iff.mp c))))
theorem can_perm {s : ShopT} {a b : List Nat} (h : a.Perm b) : can s a = can s b := by
  rw [Bool.eq_iff_iff]
  exact ⟨fun c => can_iff.mpr (can_T.mpr (canT_perm h (can_T.mp (can_iff.mp c)))), fun c => can_iff.mpr (can_T.mpr (canT_perm h.symm (can_T.mp (can_iff.mp c))))⟩
theorem can_more {s : ShopT} {a : List Nat} (l : Nat) (c : can s a = true) : can s (l :: a) = true := can_iff.mpr (can_T.mpr (canT_more l (can_T.mp (can_iff.mp c))))
theorem can_snoc {s : ShopT} {a : List Nat} (l : Nat) (c : can s a = true) : can s (a ++ [l]) = true := by
  rw [can_perm (List.perm_append_singleton l a)]
  exact can_more l c

/-! ### words -/
theorem wdn {x y : Str} {b : Bool} (h : PyData.strOk x = true) (h2 : PyData.strOk y = true) (h3 : decide (x = y) = b) : dNe (.str x) (.str y) = some (.bl !b) := by
  have := encStr.eq (a := x) (b := y) h h2 true
  rw [h3] at this
  exact this
theorem wde {x y : Str} {b : Bool} (h : PyData.strOk x = true) (h2 : PyData.strOk y = true) (h3 : decide (x = y) = b) : dEq (.str x) (.str y) = some (.bl b) := by
  have := encStr.eq (a := x) (b := y) h h2 false
  rw [h3] at this
  exact this
theorem wn00 : dNe (.str "sure") (.str "sure") = some (.bl false) := wdn (b := true) (by decide +kernel) (by decide +kernel) (by decide +kernel)
theorem we00 : dEq (.str "sure") (.str "sure") = some (.bl true) := wde (b := true) (by decide +kernel) (by decide +kernel) (by decide +kernel)
theorem wn01 : dNe (.str "sure") (.str "never") = some (.bl true) := wdn (b := false) (by decide +kernel) (by decide +kernel) (by decide +kernel)
theorem we01 : dEq (.str "sure") (.str "never") = some (.bl false) := wde (b := false) (by decide +kernel) (by decide +kernel) (by decide +kernel)
theorem wn02 : dNe (.str "sure") (.str "open") = some (.bl true) := wdn (b := false) (by decide +kernel) (by decide +kernel) (by decide +kernel)
theorem we02 : dEq (.str "sure") (.str "open") = some (.bl false) := wde (b := false) (by decide +kernel) (by decide +kernel) (by decide +kernel)
theorem wn10 : dNe (.str "never") (.str "sure") = some (.bl true) := wdn (b := false) (by decide +kernel) (by decide +kernel) (by decide +kernel)
theorem we10 : dEq (.str "never") (.str "sure") = some (.bl false) := wde (b := false) (by decide +kernel) (by decide +kernel) (by decide +kernel)
theorem wn11 : dNe (.str "never") (.str "never") = some (.bl false) := wdn (b := true) (by decide +kernel) (by decide +kernel) (by decide +kernel)
theorem we11 : dEq (.str "never") (.str "never") = some (.bl true) := wde (b := true) (by decide +kernel) (by decide +kernel) (by decide +kernel)
theorem wn12 : dNe (.str "never") (.str "open") = some (.bl true) := wdn (b := false) (by decide +kernel) (by decide +kernel) (by decide +kernel)
theorem we12 : dEq (.str "never") (.str "open") = some (.bl false) := wde (b := false) (by decide +kernel) (by decide +kernel) (by decide +kernel)
theorem wn20 : dNe (.str "open") (.str "sure") = some (.bl true) := wdn (b := false) (by decide +kernel) (by decide +kernel) (by decide +kernel)
theorem we20 : dEq (.str "open") (.str "sure") = some (.bl false) := wde (b := false) (by decide +kernel) (by decide +kernel) (by decide +kernel)
theorem wn21 : dNe (.str "open") (.str "never") = some (.bl true) := wdn (b := false) (by decide +kernel) (by decide +kernel) (by decide +kernel)
theorem we21 : dEq (.str "open") (.str "never") = some (.bl false) := wde (b := false) (by decide +kernel) (by decide +kernel) (by decide +kernel)
theorem wn22 : dNe (.str "open") (.str "open") = some (.bl false) := wdn (b := true) (by decide +kernel) (by decide +kernel) (by decide +kernel)
theorem we22 : dEq (.str "open") (.str "open") = some (.bl true) := wde (b := true) (by decide +kernel) (by decide +kernel) (by decide +kernel)
theorem tadd {xs ys : List D} (h1 : xs.length ≤ 20000) (h2 : ys.length ≤ 20000) : dAdd (.tup xs) (.tup ys) = some (.tup (xs ++ ys)) := by
  show (if xs.length + ys.length ≤ sizeLine then some (D.tup (xs ++ ys)) else none) = _
  rw [if_pos (by rw [szl]; omega)]
theorem cut_to (xs : List D) (n : Nat) (h : n ≤ xs.length) : Ev.cutD xs none (some (n : Int)) = xs.take n := by
  unfold Ev.cutD
  rw [HT.sIx_none, HT.sIx_nat, Nat.sub_zero, List.drop_zero, Nat.min_eq_left h]
theorem cut_from (xs : List D) (n : Nat) (h : n < xs.length) : Ev.cutD xs (some ((n : Int) + 1)) none = xs.drop (n + 1) := by
  unfold Ev.cutD
  rw [HT.sIx_none, show ((n : Int) + 1) = ((n + 1 : Nat) : Int) by omega, HT.sIx_nat, Nat.min_eq_left (by omega)]
  rw [List.take_of_length_le (by rw [List.length_drop]; omega)]
theorem cut_set {xs : List D} {n : Nat} (h : n < xs.length) (hl : xs.length ≤ 1000) (d : D) :
    dAdd (.tup (Ev.cutD xs none (some (n : Int)))) (.tup [d]) = some (.tup (xs.take n ++ [d])) ∧ dAdd (.tup (xs.take n ++ [d])) (.tup (Ev.cutD xs (some ((n : Int) + 1)) none)) = some (.tup (xs.set n d)) := by
  rw [cut_to xs n (by omega), cut_from xs n h]
  refine ⟨tadd (by rw [List.length_take]; omega) (by simp), ?_⟩
  rw [tadd (by rw [List.length_append, List.length_take, List.length_singleton]; omega) (by rw [List.length_drop]; omega), List.set_eq_take_append_cons_drop, if_pos h]
  simp
theorem cut_tail (xs : List D) : Ev.cutD xs (some 1) none = xs.tail := by
  cases xs with
  | nil => rfl
  | cons a xs => exact cut_from (a :: xs) 0 (by simp)

/-! ### drawn rods -/
theorem drawn_rods_ok {R S : Sto} (h : PenS R S) {most : Nat} (hm : 1 ≤ most ∧ most ≤ 5) : (m__law_drawn_rods [.mref 0, .int (most : Int)] S).post fun d S' => (∃ (L : List Rod) (ls : List Nat), d = .tup [rodsT L, natT ls] ∧ RodsOk L ∧ L.length ≤ most ∧ LensOk L ls) ∧ PenS R S' := by
  unfold m__law_drawn_rods b__law_drawn_rods
  simp -implicitDefEqProofs [-Int.natCast_add]
  refine then_post (draw_post h (by omega) (by omega)) fun d S1 ⟨⟨r, e, hr⟩, h⟩ => ?_
  subst e
  have hr' : r < most := by omega
  have e1 : (1 : Int) + (r : Int) = ((1 + r : Nat) : Int) := by omega
  simp -implicitDefEqProofs [-Int.natCast_add, e1, rg1 (j := 1 + r) (by omega)]
  refine then_post (P := fun o S' => PenS R S' ∧ ∃ (L : List Rod) (ls : List Nat) (ρ' : DEnv), o = .nx ρ' ∧ L.length = 1 + r ∧ LensOk L ls ∧ (∀ p ∈ L, 1 ≤ p.1 ∧ p.1 ≤ p.2 ∧ p.2 ≤ 15) ∧ St [none, none, some (.lst (L.map rodD)), some (.lst (ls.map fun (n : Nat) => D.int (n : Int))), none, none, none] ρ') (forL_range (fun j ρ S' => PenS R S' ∧ ∃ (L : List Rod) (ls : List Nat), L.length = j ∧ LensOk L ls ∧ (∀ p ∈ L, 1 ≤ p.1 ∧ p.1 ≤ p.2 ∧ p.2 ≤ 15) ∧ St [some (.mref 0), none, some (.lst (L.map rodD)), some (.lst (ls.map fun (n : Nat) => D.int (n : Int))), none, none, none] ρ) (1 + r) ⟨h, [], [], rfl, ⟨rfl, fun q hq => (nomatch hq)⟩, fun p hp => (nomatch hp), by simp⟩ (fun j hj ρ S' ⟨h, L, ls, hl, hb, ha, hst⟩ => ?_) fun ρ S' ⟨h, L, ls, hl, hb, ha, hst⟩ => ⟨h, L, ls, ρ, rfl, hl, hb, ha, ?_⟩) fun o S' ⟨h, L, ls, ρ, e, hl, hb, ha, hst⟩ => ?_
  · repeat (first | (replace hst := St.some hst; obtain ⟨_, rfl, hst⟩ := hst) | (replace hst := St.none hst; obtain ⟨_, _, rfl, hst⟩ := hst))
    cases St.nil hst
    simp -implicitDefEqProofs [-Int.natCast_add]
    refine then_post (draw_post h (by omega) (by omega)) fun d S2 ⟨⟨a, e, hA⟩, h⟩ => ?_
    subst e
    simp -implicitDefEqProofs [-Int.natCast_add]
    refine then_post (pick_lst h (by simp) (by simp)) fun d S3 ⟨hd, h⟩ => ?_
    obtain ⟨b, rfl, hB⟩ : ∃ b : Nat, d = .int (b : Int) ∧ b ≤ 6 := by
      simp at hd
      rcases hd with rfl | rfl | rfl | rfl
      · exact ⟨0, rfl, by decide⟩
      · exact ⟨1, rfl, by decide⟩
      · exact ⟨3, rfl, by decide⟩
      · exact ⟨6, rfl, by decide⟩
    have hz2 : (2 : Nat) ≤ sizeLine := szk (by omega)
    have e2 : (2 : Int) + (a : Int) = ((2 + a : Nat) : Int) := by omega
    have e3 : ((2 + a : Nat) : Int) + (b : Int) = ((2 + a + b : Nat) : Int) := by omega
    have e4 : ((2 + a + b : Nat) : Int) - ((2 + a : Nat) : Int) + 1 = ((b + 1 : Nat) : Int) := by omega
    have happ : mAppend (L.map rodD) [rodD (2 + a, 2 + a + b)] = some ((L ++ [(2 + a, 2 + a + b)]).map rodD, .non) := by
      show (if _ then _ else _) = _
      rw [if_pos (by rw [List.length_map, szl]; omega), List.map_append]
      rfl
    have happ' : mAppend (L.map rodD) [.tup [.int ((2 + a : Nat) : Int), .int ((2 + a + b : Nat) : Int)]] = some ((L ++ [(2 + a, 2 + a + b)]).map rodD, .non) := happ
    generalize hLL : (L ++ [(2 + a, 2 + a + b)]).map rodD = LL at happ'
    simp -implicitDefEqProofs [-Int.natCast_add, e2, e3, e4, hz2, happ']
    rw [← hLL]
    refine then_post (draw_post h (by omega) (by omega)) fun d S4 ⟨⟨c, e, hC⟩, h⟩ => ?_
    subst e
    have e5 : ((2 + a : Nat) : Int) + (c : Int) = ((2 + a + c : Nat) : Int) := by omega
    have happ2 : mAppend (ls.map fun (n : Nat) => D.int (n : Int)) [.int ((2 + a + c : Nat) : Int)] = some ((ls ++ [2 + a + c]).map fun (n : Nat) => D.int (n : Int), .non) := by
      show (if _ then _ else _) = _
      rw [if_pos (by rw [List.length_map, hb.ln, szl]; omega), List.map_append]
      rfl
    have hfin : ∃ (L2 : List Rod) (ls2 : List Nat), L2.length = j + 1 ∧ LensOk L2 ls2 ∧ (∀ p ∈ L2, 1 ≤ p.1 ∧ p.1 ≤ p.2 ∧ p.2 ≤ 15) ∧ L2 = L ++ [(2 + a, 2 + a + b)] ∧ ls2 = ls ++ [2 + a + c] := ⟨_, _, by rw [List.length_append, hl]; rfl, ⟨by rw [List.length_append, List.length_append, hb.ln]; rfl, fun q hq => by
      rw [zip_snoc _ _ hb.ln.symm] at hq
      rcases List.mem_append.mp hq with hq | hq
      · exact hb.bd q hq
      · rw [List.mem_singleton.mp hq]
        dsimp only
        omega⟩, fun p hp => by
      rcases List.mem_append.mp hp with hp | hp
      · exact ha p hp
      · rw [List.mem_singleton.mp hp]
        dsimp only
        omega, rfl, rfl⟩
    obtain ⟨L2, ls2, g1, g2, g3, g4, g5⟩ := hfin
    have q4 : (L ++ [(2 + a, 2 + a + b)]).map rodD = L2.map rodD := by rw [g4]
    have q5 : ((ls ++ [2 + a + c]).map fun (n : Nat) => D.int (n : Int)) = ls2.map fun (n : Nat) => D.int (n : Int) := by rw [g5]
    rw [q5] at happ2
    rw [q4]
    simp -implicitDefEqProofs [-Int.natCast_add, e5, happ2, stepP]
    exact ⟨h, L2, g1, ls2, g2, fun x y hxy => g3 (x, y) hxy, rfl, rfl⟩
  · repeat (first | (replace hst := St.some hst; obtain ⟨_, rfl, hst⟩ := hst) | (replace hst := St.none hst; obtain ⟨_, _, rfl, hst⟩ := hst))
    cases St.nil hst
    simp
  · subst e
    repeat (first | (replace hst := St.some hst; obtain ⟨_, rfl, hst⟩ := hst) | (replace hst := St.none hst; obtain ⟨_, _, rfl, hst⟩ := hst))
    cases St.nil hst
    have hz2 : (2 : Nat) ≤ sizeLine := szk (by omega)
    simp -implicitDefEqProofs [-Int.natCast_add, hz2]
    exact ⟨⟨L, ls, ⟨rfl, rfl⟩, ⟨by omega, ha⟩, by omega, hb⟩, h⟩

/-! ### the index of a piece -/
theorem index_ok {xs : List (Str × Nat × Nat)} (nm : NamesOk (xs.map (·.1))) {k : Nat} {p : Str × Nat × Nat} (h : xs[k]? = some p) (S : Sto) : m_index_in [.tup (xs.map pieceD), .str p.1] S = .ok (.int (k : Int)) S := by
  unfold m_index_in b_index_in
  simp -implicitDefEqProofs [-Int.natCast_add]
  apply post_ok
  have hk : k < xs.length := (List.getElem?_eq_some_iff.mp h).1
  have hnd := nm.nd
  have hok := nm.ok
  refine then_post (P := fun o S' => S' = S ∧ o = .rt (.int (k : Int))) ?_ fun o S' ⟨e1, e2⟩ => ?_
  · refine forL_enum (fun j ρ S' => S' = S ∧ j ≤ k ∧ St [none, some (.str p.1), none, none] ρ) xs ⟨rfl, Nat.zero_le _, by simp⟩ (fun j x hj ρ S' ⟨e1, hjk, h2⟩ => ?_) fun ρ S' ⟨_, hj, _⟩ => absurd hj (by omega)
    repeat (first | (replace h2 := St.some h2; obtain ⟨_, rfl, h2⟩ := h2) | (replace h2 := St.none h2; obtain ⟨_, _, rfl, h2⟩ := h2))
    cases St.nil h2
    subst e1
    obtain ⟨z, l, m⟩ := x
    have hz : (xs.map (·.1))[j]? = some z := by rw [List.getElem?_map, hj]; rfl
    have hy : (xs.map (·.1))[k]? = some p.1 := by rw [List.getElem?_map, h]; rfl
    have oz := (hok z (List.mem_of_getElem? hz)).str
    have oy := (hok p.1 (List.mem_of_getElem? hy)).str
    have heq := encStr.eq oz oy false
    by_cases e : j = k
    · subst e
      rw [h] at hj
      cases hj
      have hd : decide (z = z) = true := decide_eq_true rfl
      simp -implicitDefEqProofs [-Int.natCast_add, pieceD, heq, stepP]
    · have hne : z ≠ p.1 := fun q => by
        obtain ⟨a1, a2⟩ := List.getElem?_eq_some_iff.mp hz
        obtain ⟨b1, b2⟩ := List.getElem?_eq_some_iff.mp hy
        rcases Nat.lt_or_ge j k with lt | ge
        · exact List.pairwise_iff_getElem.mp hnd j k a1 b1 lt (by rw [a2, b2, q])
        · exact List.pairwise_iff_getElem.mp hnd k j b1 a1 (by omega) (by rw [a2, b2, q])
      simp -implicitDefEqProofs [-Int.natCast_add, pieceD, heq, stepP, hne]
      omega
  · subst e1 e2
    simp -implicitDefEqProofs [-Int.natCast_add]
theorem piece_index_ok (s : ShopT) (hp : PiecesOk s.pieces) {k : Nat} {p : Str × Nat × Nat} (h : s.pieces[k]? = some p) (S : Sto) : m_piece_index [s.o, .str p.1] S = .ok (.int (k : Int)) S := by
  unfold m_piece_index b_piece_index
  simp -implicitDefEqProofs [-Int.natCast_add, ShopT.o, index_ok hp.nm h]

/-! ### the law -/
theorem ShopT.Few.shY {s : ShopT} {bars most : Nat} (h : s.Few bars most) (hm : most ≤ 3) : ShY s := ⟨⟨h.st, h.pc, Nat.le_trans h.pm hm, h.kf, fun x hx => by have := h.sl x hx; omega, fun x hx => by have := h.pl x hx; omega⟩, fun x hx => (h.pl x hx).2.2⟩
/-- one less of the first piece is wanted -/
def ShopT.less (s : ShopT) (p : Str × Nat × Nat) : ShopT := ⟨s.stocks, s.pieces.set 0 (p.1, p.2.1, p.2.2 - 1), s.kerf⟩
theorem set_mem {α : Type} {xs : List α} {a x : α} {i : Nat} (h : x ∈ xs.set i a) : x ∈ xs ∨ x = a := by
  rcases List.mem_or_eq_of_mem_set h with h | h
  · exact .inl h
  · exact .inr h
theorem map_set_same {α β : Type} {f : α → β} {xs : List α} {i : Nat} {a b : α} (h : xs[i]? = some b) (e : f a = f b) : (xs.set i a).map f = xs.map f := by
  rw [List.map_set, e]
  apply List.ext_getElem?
  intro k
  by_cases c : i = k
  · subst c
    have hl := (List.getElem?_eq_some_iff.mp h).1
    rw [List.getElem?_set_self (by rw [List.length_map]; exact hl), List.getElem?_map, h]
    rfl
  · rw [List.getElem?_set_ne c]
theorem less_names {s : ShopT} {p : Str × Nat × Nat} (hp : s.pieces[0]? = some p) : (s.less p).pieces.map (·.1) = s.pieces.map (·.1) := map_set_same (f := fun x : Str × Nat × Nat => x.1) hp rfl
theorem less_ws {s : ShopT} {p : Str × Nat × Nat} (hp : s.pieces[0]? = some p) : (s.less p).ws = s.ws := map_set_same (f := fun x : Str × Nat × Nat => x.2.1 + s.kerf) hp rfl
theorem less_len (s : ShopT) (p : Str × Nat × Nat) : (s.less p).pieces.length = s.pieces.length := List.length_set ..
theorem less_pieces {s : ShopT} (h : PiecesOk s.pieces) {p : Str × Nat × Nat} (hp : s.pieces[0]? = some p) : PiecesOk (s.less p).pieces where
  len := by rw [less_len]; exact h.len
  nm := by rw [less_names hp]; exact h.nm
  pos := fun x hx => by
    rcases set_mem hx with hx | rfl
    · exact h.pos x hx
    · exact h.pos p (List.mem_of_getElem? hp)
theorem less_shY {s : ShopT} (h : ShY s) {p : Str × Nat × Nat} (hp : s.pieces[0]? = some p) : ShY (s.less p) := ⟨⟨h.sh.st, less_pieces h.sh.pc hp, by rw [less_len]; exact h.sh.p3, h.sh.kf, h.sh.sl, fun x hx => by
    rcases set_mem hx with hx | rfl
    · exact h.sh.pl x hx
    · exact h.sh.pl p (List.mem_of_getElem? hp)⟩, fun x hx => by
    rcases set_mem hx with hx | rfl
    · exact h.w3 x hx
    · have := h.w3 p (List.mem_of_getElem? hp)
      show p.2.2 - 1 ≤ 3
      omega⟩
theorem less_tg {s : ShopT} {p : Str × Nat × Nat} (hp : s.pieces[0]? = some p) (i : Nat) : (s.less p).tg.getD i 0 = lessT (fun i => s.tg.getD i 0) i := by
  have hl := (List.getElem?_eq_some_iff.mp hp).1
  unfold lessT ShopT.tg
  show ((s.pieces.set 0 (p.1, p.2.1, p.2.2 - 1)).map (·.2.2)).getD i 0 = _
  rw [List.map_set]
  by_cases c : i = 0
  · subst c
    rw [if_pos rfl, List.getD_eq_getElem?_getD, List.getElem?_set_self (by rw [List.length_map]; exact hl)]
    show p.2.2 - 1 = (s.pieces.map (·.2.2)).getD 0 0 - 1
    rw [List.getD_eq_getElem?_getD, List.getElem?_map, hp]
    rfl
  · rw [if_neg c, List.getD_eq_getElem?_getD, List.getElem?_set_ne (fun z => c z.symm), ← List.getD_eq_getElem?_getD]
theorem can_less {s : ShopT} {p : Str × Nat × Nat} (hp : s.pieces[0]? = some p) (h0 : 0 < p.2.2) {lens : List Nat} (c : can s lens = true) : can (s.less p) lens = true := by
  have hl := (List.getElem?_eq_some_iff.mp hp).1
  refine can_iff.mpr (can_T.mpr ?_)
  refine canT_congr (t := lessT fun i => s.tg.getD i 0) (fun i _ => (less_tg hp i).symm) ?_
  refine canT_shop (less_ws hp) (less_len s p) rfl (canT_less hl ?_ (can_T.mp (can_iff.mp c)))
  show 0 < s.tg.getD 0 0
  unfold ShopT.tg
  rw [List.getD_eq_getElem?_getD, List.getElem?_map, hp]
  exact h0
theorem with_wanted_ok {s : ShopT} (hy : ShY s) {p : Str × Nat × Nat} (hp : s.pieces[0]? = some p) {w : Nat} (hw : w = p.2.2 - 1) (S : Sto) : m_with_wanted [s.o, .str p.1, .int (w : Int)] S = .ok (s.less p).o S := by
  have hpi := piece_index_ok s hy.sh.pc hp S
  have hap : attrD at_pieces "pieces" s.o S = .ok (.tup (s.pieces.map pieceD)) S := sh_pieces _ _ _ S
  have has : attrD at_stocks "stocks" s.o S = .ok (.tup (s.stocks.map stockD)) S := sh_stocks _ _ _ S
  have hak : attrD at_kerf "kerf" s.o S = .ok (.int (s.kerf : Int)) S := sh_kerf _ _ _ S
  have hix : dIx (.tup (s.pieces.map pieceD)) (.int 0) = some (pieceD p) := by
    have := d_ixt (xs := s.pieces.map pieceD) (n := 0) (v := pieceD p) (by rw [List.getElem?_map, hp]; rfl)
    exact this
  have hp1 : dIx (pieceD p) (.int 1) = some (.int (p.2.1 : Int)) := d_ix1 _ _ _
  have hl := (List.getElem?_eq_some_iff.mp hp).1
  have hz3 : (3 : Nat) ≤ sizeLine := szk (by omega)
  have hin := init_ok (s.less p) hy.sh.st (less_pieces hy.sh.pc hp) S
  have hpi' : m_piece_index [s.o, .str p.1] S = .ok (.int 0) S := hpi
  have hpd : pieceD (p.1, p.2.1, w) = .tup [.str p.1, .int (p.2.1 : Int), .int (w : Int)] := rfl
  have hpcs : (s.less p).pieces.map pieceD = (s.pieces.map pieceD).set 0 (.tup [.str p.1, .int (p.2.1 : Int), .int (w : Int)]) := by
    rw [hw]
    show (s.pieces.set 0 (p.1, p.2.1, p.2.2 - 1)).map pieceD = _
    rw [List.map_set]
    rfl
  have hrow : m_with_row [.tup (s.pieces.map pieceD), .int 0, .tup [.str p.1, .int (p.2.1 : Int), .int (w : Int)]] S = .ok (.tup ((s.less p).pieces.map pieceD)) S := by
    rw [hpcs]
    have hxl : 0 < (s.pieces.map pieceD).length := by rw [List.length_map]; exact hl
    have hx6 : (s.pieces.map pieceD).length ≤ 6 := by rw [List.length_map]; exact hy.sh.pc.len.2
    generalize (s.pieces.map pieceD) = xs at *
    generalize D.tup [.str p.1, .int (p.2.1 : Int), .int (w : Int)] = rw1 at *
    have c1 : Ev.cutD xs none (some 0) = [] := cut_to xs 0 (Nat.zero_le _)
    have c2 : Ev.cutD xs (some 1) none = xs.tail := cut_tail xs
    unfold m_with_row b_with_row
    match xs, hxl, hx6, c1, c2 with
    | x :: xs, hxl, hx6, c1, c2 =>
      have hz : xs.length + 1 ≤ sizeLine := by rw [List.length_cons] at hx6; exact szk (by omega)
      simp -implicitDefEqProofs [-Int.natCast_add, c1, c2, hz]
  have hst : (s.less p).stocks = s.stocks := rfl
  have hkf : (s.less p).kerf = s.kerf := rfl
  rw [hst, hkf] at hin
  generalize (s.less p).o = so2 at *
  generalize ((s.less p).pieces.map pieceD) = ps2 at *
  unfold m_with_wanted b_with_wanted
  generalize (s.pieces.map pieceD) = ps at *
  generalize (s.stocks.map stockD) = ss at *
  simp -implicitDefEqProofs [-Int.natCast_add, hpi', hap, has, hak, hix, hp1, hz3, hrow, hin]

theorem pass_if {C : SB} {t rest : SS} {ρ : DEnv} {S : Sto} {Q : Out → Sto → Prop} (hC : C ρ S = .ok false S) (h : (rest ρ S).post Q) : (sSeq (sIfS C t sNext) rest ρ S).post Q := by
  rw [e_seq, e_ifS, hC]
  exact h
theorem pass_set {i : Nat} {se : SE} {d : D} {rest : SS} {ρ : DEnv} {S : Sto} {Q : Out → Sto → Prop} (hs : se ρ S = .ok d S) (h : (rest (ρ.set i (some d)) S).post Q) : (sSeq (sSet i se) rest ρ S).post Q := by
  rw [e_seq, e_set, hs]
  exact h
theorem pass_par2 {i j : Nat} {sa sb : SE} {d1 d2 : D} {rest : SS} {ρ : DEnv} {S : Sto} {Q : Out → Sto → Prop} (ha : sa ρ S = .ok d1 S) (hb : sb ρ S = .ok d2 S) (h : (rest ((ρ.set i (some d1)).set j (some d2)) S).post Q) : (sSeq (sPar2 i j sa sb) rest ρ S).post Q := by
  rw [e_seq, e_par2, ha, Res.then_ok, hb]
  exact h
theorem len_set {L : List Rod} {ls : List Nat} (hb : LensOk L ls) {k : Nat} (hk : k < ls.length) : LensOk L (ls.set k (L.getD k (0, 0)).2) where
  ln := by rw [List.length_set]; exact hb.ln
  bd := fun q hq => by
    obtain ⟨i, hi⟩ := List.mem_iff_getElem?.mp hq
    rw [List.getElem?_zip_eq_some] at hi
    by_cases c : k = i
    · subst c
      rw [List.getElem?_set_self hk] at hi
      have h1 : L.getD k (0, 0) = q.1 := by rw [List.getD_eq_getElem?_getD, hi.1]; rfl
      have h2 : (L.getD k (0, 0)).2 = q.2 := Option.some.inj hi.2
      have h3 := hb.at hk
      rw [h1] at h3 h2
      omega
    · rw [List.getElem?_set_ne c] at hi
      exact hb.bd q (List.mem_of_getElem? (i := i) (by rw [List.getElem?_zip_eq_some]; exact hi))
theorem near_ok {L : List Rod} {ls : List Nat} (h : RodsOk L) (hb : LensOk L ls) {k : Nat} (hk : k < ls.length) : RodsOk (L.set k (ls.getD k 0, ls.getD k 0)) ∧ LensOk (L.set k (ls.getD k 0, ls.getD k 0)) ls := by
  have hkL : k < L.length := by rw [← hb.ln]; exact hk
  have h3 := hb.at hk
  have hm : L.getD k (0, 0) ∈ L := by rw [List.getD_eq_getElem?_getD, List.getElem?_eq_getElem hkL]; exact List.getElem_mem hkL
  have h4 := h.all _ hm
  refine ⟨⟨by rw [List.length_set]; exact h.ln, fun p hp => ?_⟩, ⟨by rw [List.length_set]; exact hb.ln, fun q hq => ?_⟩⟩
  · rcases set_mem hp with hp | rfl
    · exact h.all p hp
    · dsimp only
      omega
  · obtain ⟨i, hi⟩ := List.mem_iff_getElem?.mp hq
    rw [List.getElem?_zip_eq_some] at hi
    by_cases c : k = i
    · subst c
      rw [List.getElem?_set_self hkL] at hi
      have h1 : (ls.getD k 0, ls.getD k 0) = q.1 := Option.some.inj hi.1
      have h2 : ls.getD k 0 = q.2 := by rw [List.getD_eq_getElem?_getD, hi.2]; rfl
      rw [← h1, ← h2]
      exact ⟨Nat.le_refl _, Nat.le_refl _⟩
    · rw [List.getElem?_set_ne c] at hi
      exact hb.bd q (List.mem_of_getElem? (i := i) (by rw [List.getElem?_zip_eq_some]; exact hi))
theorem map_at (f : Rod → Nat) {L : List Rod} {k : Nat} (hk : k < L.length) : (L.map f).getD k 0 = f (L.getD k (0, 0)) := by
  rw [List.getD_eq_getElem?_getD, List.getElem?_map, List.getD_eq_getElem?_getD, List.getElem?_eq_getElem hk]
  rfl
theorem set_at {α : Type} {xs : List α} {k : Nat} {a d : α} (hk : k < xs.length) (i : Nat) : (xs.set k a).getD i d = if i = k then a else xs.getD i d := by
  rw [List.getD_eq_getElem?_getD]
  by_cases c : i = k
  · subst c
    rw [if_pos rfl, List.getElem?_set_self hk]
    rfl
  · rw [if_neg c, List.getElem?_set_ne (fun z => c z.symm), ← List.getD_eq_getElem?_getD]
/-- what is known of the answers -/
structure Facts (a b c c3 an bn a2 b3 : Bool) : Prop where
  f1 : a = true → c = true
  f2 : c = true → b = true
  f3 : c = true → c3 = true
  f4 : a = true → an = true
  f5 : bn = true → b = true
  f6 : an = true → c = true
  f7 : c = true → bn = true
  f8 : a = true → a2 = true
  f9 : b3 = true → b = true
theorem facts_of {s : ShopT} {L : List Rod} {ls : List Nat} (h : RodsOk L) (hb : LensOk L ls) {k : Nat} (hk : k < ls.length) : Facts (can s (L.map (·.1))) (can s (L.map (·.2))) (can s ls) (can s (ls.set k (L.getD k (0, 0)).2)) (can s ((L.set k (ls.getD k 0, ls.getD k 0)).map (·.1))) (can s ((L.set k (ls.getD k 0, ls.getD k 0)).map (·.2))) (can s ((L ++ [((1 : Nat), (4 : Nat))]).map fun p : Rod => p.1)) (can s (L.tail.map (·.2))) := by
  have hkL : k < L.length := by rw [← hb.ln]; exact hk
  have h3 := hb.at hk
  refine ⟨can_mono (by rw [List.length_map, hb.ln]) fun i hi => ?_, can_mono (by rw [List.length_map, hb.ln]) fun i hi => ?_, can_mono (by rw [List.length_set]) fun i hi => ?_, can_mono (by rw [List.length_map, List.length_map, List.length_set]) fun i hi => ?_, can_mono (by rw [List.length_map, List.length_map, List.length_set]) fun i hi => ?_, can_mono (by rw [List.length_map, List.length_set, hb.ln]) fun i hi => ?_, can_mono (by rw [List.length_map, List.length_set, hb.ln]) fun i hi => ?_, fun c => ?_, fun c => ?_⟩
  · rw [List.length_map] at hi
    rw [map_at (fun p => p.1) hi]
    exact (hb.at (by rw [hb.ln]; exact hi)).1
  · rw [map_at (fun p => p.2) (by rw [← hb.ln]; exact hi)]
    exact (hb.at hi).2
  · rw [set_at hk]
    split
    · rename_i e
      subst e
      exact h3.2
    · exact Nat.le_refl _
  · rw [List.length_map] at hi
    rw [map_at (fun p => p.1) hi, map_at (fun p => p.1) (by rw [List.length_set]; exact hi), set_at hkL]
    split
    · rename_i e
      subst e
      exact h3.1
    · exact Nat.le_refl _
  · rw [List.length_map, List.length_set] at hi
    rw [map_at (fun p => p.2) hi, map_at (fun p => p.2) (by rw [List.length_set]; exact hi), set_at hkL]
    split
    · rename_i e
      subst e
      exact h3.2
    · exact Nat.le_refl _
  · rw [List.length_map, List.length_set] at hi
    rw [map_at (fun p => p.1) (by rw [List.length_set]; exact hi), set_at hkL]
    split
    · rename_i e
      subst e
      exact Nat.le_refl _
    · exact (hb.at (by rw [hb.ln]; exact hi)).1
  · have hiL : i < L.length := by rw [← hb.ln]; exact hi
    rw [map_at (fun p => p.2) (by rw [List.length_set]; exact hiL), set_at hkL]
    split
    · rename_i e
      subst e
      exact Nat.le_refl _
    · exact (hb.at hi).2
  · rw [List.map_append]
    exact can_snoc 1 c
  · cases L with
    | nil => exact absurd hkL (Nat.not_lt_zero _)
    | cons p L => exact can_more p.2 c
theorem mix_near {L : List Rod} {ls : List Nat} (hb : LensOk L ls) {k : Nat} (hk : k < ls.length) (side : Nat) : mixL (L.set k (ls.getD k 0, ls.getD k 0)) ls [] side = mixL L ls [k] side := by
  have hkL : k < L.length := by rw [← hb.ln]; exact hk
  refine row_ext (by rw [mixL_len, mixL_len]) fun i hi => ?_
  rw [mixL_len] at hi
  rw [mixL_at hi, mixL_at hi, if_neg (by simp), set_at hkL]
  by_cases c : i = k
  · subst c
    rw [if_pos rfl, if_pos (by simp)]
    unfold sideR
    split <;> rfl
  · rw [if_neg c, if_neg (by simpa using c)]
theorem mix_none {L : List Rod} {ls : List Nat} (hb : LensOk L ls) : mixL L ls [] 0 = L.map (·.1) ∧ mixL L ls [] 1 = L.map (·.2) := by
  constructor
  · refine row_ext (by rw [mixL_len, List.length_map, hb.ln]) fun i hi => ?_
    rw [mixL_len] at hi
    rw [mixL_at hi, if_neg (by simp), map_at (fun p => p.1) (by rw [← hb.ln]; exact hi)]
    rfl
  · refine row_ext (by rw [mixL_len, List.length_map, hb.ln]) fun i hi => ?_
    rw [mixL_len] at hi
    rw [mixL_at hi, if_neg (by simp), map_at (fun p => p.2) (by rw [← hb.ln]; exact hi)]
    rfl
theorem pap_none {s : ShopT} {L : List Rod} {ls : List Nat} (hb : LensOk L ls) : papB s L ls [] = if can s ls then can s (L.map (·.1)) else !can s (L.map (·.2)) := by
  unfold papB
  rw [(mix_none hb).1, (mix_none hb).2]
theorem pap_near {s : ShopT} {L : List Rod} {ls : List Nat} (hb : LensOk L ls) {k : Nat} (hk : k < ls.length) : papB s (L.set k (ls.getD k 0, ls.getD k 0)) ls [] = papB s L ls [k] := by
  unfold papB
  rw [mix_near hb hk, mix_near hb hk]
theorem word_bl (b : Bool) : dNe (.bl b) (.bl b) = some (.bl false) := by
  cases b <;> rfl

theorem lap_ok {ρ : DEnv} {S : Sto} (hp : PenS [] S) (h : St [none, some (.mref 0), none, none, none, none, none, none, none, none, none, none, none, none, none, none] ρ) : (b_law_f312 ρ S).post fun o S' => PenS [] S' ∧ ∃ ρ', o = .nx ρ' ∧ St [none, some (.mref 0), none, none, none, none, none, none, none, none, none, none, none, none, none, none] ρ' := by
  repeat (first | (replace h := St.some h; obtain ⟨_, rfl, h⟩ := h) | (replace h := St.none h; obtain ⟨_, _, rfl, h⟩ := h))
  cases St.nil h
  unfold b_law_f312
  rw [e_seq]
  refine then_post (P := fun o S' => PenS [] S' ∧ ∃ (s : ShopT) (ρ' : DEnv), o = .nx ρ' ∧ s.Few 1 3 ∧ St [none, some (.mref 0), none, some (s.t), none, none, none, none, none, none, none, none, none, none, none, none] ρ') ?_ fun o S1 ⟨hp, s, ρ, e, hf, h⟩ => ?_
  · simp -implicitDefEqProofs [-Int.natCast_add]
    refine then_post (few_ok hp (bars := 1) (most := 3) (by omega) (by omega)) fun d S1 ⟨⟨s, e, hf⟩, hp⟩ => ?_
    subst e
    simp -implicitDefEqProofs [-Int.natCast_add]
    exact ⟨hp, s, hf, rfl⟩
  subst e
  repeat (first | (replace h := St.some h; obtain ⟨_, rfl, h⟩ := h) | (replace h := St.none h; obtain ⟨_, _, rfl, h⟩ := h))
  cases St.nil h
  rw [thenO_nx, e_seq]
  have hy := hf.shY (by omega)
  refine then_post (P := fun o S' => PenS [] S' ∧ ∃ (L : List Rod) (ls : List Nat) (ρ' : DEnv), o = .nx ρ' ∧ RodsOk L ∧ L.length ≤ 4 ∧ LensOk L ls ∧ St [none, some (.mref 0), none, some (s.t), some (s.o), some (rodsT L), some (natT ls), none, none, none, none, none, none, none, none, none] ρ') ?_ fun o S2 ⟨hp, L, ls, ρ, e, hL, h4, hb, h⟩ => ?_
  · have hmk := madeO_ok hy.sh.st hy.sh.pc S1
    simp -implicitDefEqProofs [-Int.natCast_add, hmk]
    refine then_post (drawn_rods_ok hp (most := 4) (by omega)) fun d S1 ⟨⟨L, ls, e, h1, h2, h3⟩, hp⟩ => ?_
    subst e
    have hz2 : (2 : Nat) ≤ sizeLine := szk (by omega)
    simp -implicitDefEqProofs [-Int.natCast_add, hz2]
    exact ⟨hp, L, h1, h2, ls, h3, rfl, rfl⟩
  subst e
  repeat (first | (replace h := St.some h; obtain ⟨_, rfl, h⟩ := h) | (replace h := St.none h; obtain ⟨_, _, rfl, h⟩ := h))
  cases St.nil h
  rw [thenO_nx, e_seq]
  obtain ⟨d1, hd1, e1⟩ := yield_of_ok hy hL hb
  obtain ⟨y1, y2, y3⟩ := hd1.isN
  have hout : ∀ S, m_outlook [s.o, rodsT L] S = _ := fun S => outlook_ok hy (.inl rfl) hL S
  have hn6 := hL.ln
  refine then_post (P := fun o S' => PenS [] S' ∧ ∃ (k : Nat) (ρ' : DEnv), o = .nx ρ' ∧ k < ls.length ∧ St [none, some (.mref 0), none, some (s.t), some (s.o), some (rodsT L), some (natT ls), some (.int (k : Int)), some (.bl (can s ls)), some (.str (wordO (can s (L.map (·.1))) (can s (L.map (·.2))))), none, none, none, none, none, none] ρ') ?_ fun o S3 ⟨hp, k, ρ, e, hk, h⟩ => ?_
  · have hrl : dLen [rodsT L] = some (.int (L.length : Int)) := by simp
    have e1' := e1
    have hout' := hout
    generalize rodsT L = rd at *
    generalize natT ls = ld at *
    generalize wordO (can s (L.map (·.1))) (can s (L.map (·.2))) = wd at *
    simp -implicitDefEqProofs [-Int.natCast_add, hrl]
    refine then_post (draw_post hp (by omega) (by omega)) fun d S1 ⟨⟨r, e, hr⟩, hp⟩ => ?_
    subst e
    simp -implicitDefEqProofs [-Int.natCast_add, e1', y1, hout']
    exact ⟨hp, r, by rw [hb.ln]; omega, rfl⟩
  subst e
  repeat (first | (replace h := St.some h; obtain ⟨_, rfl, h⟩ := h) | (replace h := St.none h; obtain ⟨_, _, rfl, h⟩ := h))
  cases St.nil h
  rw [thenO_nx]
  have hkL : k < L.length := by rw [← hb.ln]; exact hk
  obtain ⟨hN, hNb⟩ := near_ok hL hb hk
  have hF := facts_of (s := s) hL hb hk
  obtain ⟨d2, hd2, n2, e2⟩ := lyield_call hy (lens := ls) (by rw [hb.ln]; exact hn6.2)
  have z1 := hd2.isN.1
  -- whether they do
  refine pass_if (by
    have hw := word_bl (can s ls)
    have n2' := n2
    have e2' := e2
    generalize natT ls = ld at *
    simp -implicitDefEqProofs [-Int.natCast_add, n2', e2', z1, hw]) ?_
  -- a rod longer
  have hlx : (ls.map fun (n : Nat) => D.int (n : Int)).length = ls.length := List.length_map ..
  have hLx : (L.map rodD).length = L.length := List.length_map ..
  have i1 : dIx (rodsT L) (.int (k : Int)) = some (rodD (L.getD k (0, 0))) := d_ixt (by rw [List.getElem?_map, List.getD_eq_getElem?_getD, List.getElem?_eq_getElem hkL]; rfl)
  have i2 : dIx (rodD (L.getD k (0, 0))) (.int 1) = some (.int ((L.getD k (0, 0)).2 : Int)) := d_ix1 _ _ _
  have i3 : dIx (natT ls) (.int (k : Int)) = some (.int (ls.getD k 0 : Int)) := d_ixt (by rw [List.getElem?_map, List.getD_eq_getElem?_getD, List.getElem?_eq_getElem hk]; rfl)
  obtain ⟨c1, c2⟩ := cut_set (xs := ls.map fun (n : Nat) => D.int (n : Int)) (n := k) (by rw [hlx]; exact hk) (by rw [hlx, hb.ln]; omega) (.int ((L.getD k (0, 0)).2 : Int))
  have c3 : (ls.map fun (n : Nat) => D.int (n : Int)).set k (.int ((L.getD k (0, 0)).2 : Int)) = (ls.set k (L.getD k (0, 0)).2).map fun (n : Nat) => D.int (n : Int) := by rw [List.map_set]
  rw [c3] at c2
  obtain ⟨g1, g2⟩ := cut_set (xs := L.map rodD) (n := k) (by rw [hLx]; exact hkL) (by rw [hLx]; omega) (rodD (ls.getD k 0, ls.getD k 0))
  have g3 : (L.map rodD).set k (rodD (ls.getD k 0, ls.getD k 0)) = (L.set k (ls.getD k 0, ls.getD k 0)).map rodD := by rw [List.map_set]
  rw [g3] at g2
  have hz1 : (1 : Nat) ≤ sizeLine := szk (by omega)
  have hz2 : (2 : Nat) ≤ sizeLine := szk (by omega)
  refine pass_set (d := natT (ls.set k (L.getD k (0, 0)).2)) (by
    generalize L.getD k (0, 0) = p at *
    generalize (ls.map fun (n : Nat) => D.int (n : Int)).take k ++ [D.int (p.2 : Int)] = xa at *
    simp -implicitDefEqProofs [-Int.natCast_add, i1, i2, hz1, c1, c2]) ?_
  -- longer lengths do, too
  have hb3 := len_set hb hk
  obtain ⟨d3, hd3, e3⟩ := yield_of_ok hy hL hb3
  have z3 := hd3.isN.2.1
  have hon : ∀ S, m_outlook [s.o, rodsT (L.set k (ls.getD k 0, ls.getD k 0))] S = _ := fun S => outlook_ok hy (.inl rfl) hN S
  have hM : RodsOk (L ++ [((1 : Nat), (4 : Nat))]) := ⟨by rw [List.length_append, List.length_singleton]; omega, fun p hp => by
    rcases List.mem_append.mp hp with hp | hp
    · exact hL.all p hp
    · rw [List.mem_singleton.mp hp]
      dsimp only
      omega⟩
  have hom : ∀ S, m_outlook [s.o, rodsT (L ++ [((1 : Nat), (4 : Nat))])] S = _ := fun S => outlook_ok hy (.inl rfl) hM S
  have hadd : dAdd (rodsT L) (.tup [.tup [.int 1, .int 4]]) = some (rodsT (L ++ [((1 : Nat), (4 : Nat))])) := by
    rw [d_add_tup _ _ (by rw [List.length_map, List.length_singleton, szl]; omega)]
    show _ = some (D.tup ((L ++ [((1 : Nat), (4 : Nat))]).map rodD))
    rw [List.map_append]
    rfl
  have htl : 1 < L.length → ∀ S, m_outlook [s.o, rodsT L.tail] S = .ok (.str (wordO (can s (L.tail.map (·.1))) (can s (L.tail.map (·.2))))) S := fun h1 S => outlook_ok hy (.inl rfl) ⟨by rw [List.length_tail]; omega, fun p hp => hL.all p (List.mem_of_mem_tail hp)⟩ S
  have hcut : Ev.cutD (L.map rodD) (some 1) none = L.tail.map rodD := by rw [cut_tail, List.map_tail]
  have hrl : dLen [rodsT L] = some (.int (L.length : Int)) := by simp
  have hrg := rgEnd_nat .tup (n := L.length) (szk (by omega)) S3
  have hrgL := rgEnd_nat .lst (n := L.length) (szk (by omega)) S3
  have ht1 : m_tells [s.o, rodsT L, natT ls, natT (List.range L.length)] S3 = .ok (.bl true) S3 := by
    have := tells_ok hy hL hb (lotOk_all L.length) S3
    rw [pap_all s L hb.ln] at this
    exact this
  obtain ⟨lot, hlot, hfew⟩ := fewest_ok hy hL hb S3
  have ht2 : m_tells [s.o, rodsT L, natT ls, natT lot] S3 = .ok (.bl true) S3 := by
    obtain ⟨h1, h2⟩ := goodL_ok lot (List.mem_filter.mp hlot).1
    have := tells_ok hy hL hb h1 S3
    rw [h2] at this
    exact this
  have hlt := ltells_ok hy [] hN hNb S3
  have hl0 : LotOk (L.set k (ls.getD k 0, ls.getD k 0)).length [] := ⟨List.Pairwise.nil, fun i hi => (nomatch hi)⟩
  have hlk : LotOk L.length [k] := ⟨List.pairwise_singleton _ _, fun i hi => by rw [List.mem_singleton.mp hi]; exact hkL⟩
  have ht3 := tells_ok hy hN hNb hl0 S3
  have ht4 := tells_ok hy hL hb hlk S3
  rw [pap_near hb hk] at ht3 hlt
  have hpap : papB s L ls [k] = if can s ls then can s ((L.set k (ls.getD k 0, ls.getD k 0)).map (·.1)) else !can s ((L.set k (ls.getD k 0, ls.getD k 0)).map (·.2)) := by rw [← pap_near hb hk, pap_none hNb]
  obtain ⟨p0, hp0⟩ : ∃ p0, s.pieces[0]? = some p0 := ⟨_, List.getElem?_eq_getElem (by have := hy.sh.pc.len.1; omega)⟩
  have q1 : dIx s.t (.int 1) = some (.tup (s.pieces.map pieceD)) := d_ix1 _ _ _
  have q2 : dIx (.tup (s.pieces.map pieceD)) (.int 0) = some (pieceD p0) := d_ixt (xs := s.pieces.map pieceD) (n := 0) (v := pieceD p0) (by rw [List.getElem?_map, hp0]; rfl)
  have q3 : dIx (pieceD p0) (.int 0) = some (.str p0.1) := rfl
  have q4 : dIx (pieceD p0) (.int 2) = some (.int (p0.2.2 : Int)) := d_ix2 _ _ _ _
  have hww := fun S => with_wanted_ok hy hp0 (w := p0.2.2 - 1) rfl S
  obtain ⟨d5, hd5, e5⟩ := yield_of_ok (less_shY hy hp0) hL hb
  have z5 := hd5.isN.2.1
  have hcl : 0 < p0.2.2 → can s ls = true → can (s.less p0) ls = true := fun h0 c => can_less hp0 h0 c
  have hperm : ∀ order : List Nat, order.Perm (List.range L.length) → can s ((order.map fun i => L.getD i (0, 0)).map (·.1)) = can s (L.map (·.1)) ∧ can s ((order.map fun i => L.getD i (0, 0)).map (·.2)) = can s (L.map (·.2)) ∧ RodsOk (order.map fun i => L.getD i (0, 0)) := fun order ho => by
    have hall : (List.range L.length).map (fun i => L.getD i (0, 0)) = L := by
      apply List.ext_getElem (by rw [List.length_map, List.length_range])
      intro i h1 h2
      rw [List.getElem_map, List.getElem_range, List.getD_eq_getElem?_getD, List.getElem?_eq_getElem h2]
      rfl
    have hp := ho.map fun i => L.getD i (0, 0)
    rw [hall] at hp
    exact ⟨can_perm (hp.map _), can_perm (hp.map _), ⟨by rw [hp.length_eq]; exact hn6, fun p hpm => hL.all p (hp.mem_iff.mp hpm)⟩⟩
  have hoo : ∀ order : List Nat, order.Perm (List.range L.length) → ∀ S, m_outlook [s.o, .lst ((order.map fun i => L.getD i (0, 0)).map rodD)] S = .ok (.str (wordO (can s (L.map (·.1))) (can s (L.map (·.2))))) S := fun order ho S => by
    obtain ⟨o1, o2, o3⟩ := hperm order ho
    have := outlook_ok hy (.inr rfl) o3 S
    rw [o1, o2] at this
    exact this
  have hixr : ∀ order : List Nat, order.Perm (List.range L.length) → ∀ i ∈ order, dIx (rodsT L) (.int (i : Int)) = some (rodD (L.getD i (0, 0))) := fun order ho i hi => by
    have : i < L.length := List.mem_range.mp (ho.mem_iff.mp hi)
    exact d_ixt (by rw [List.getElem?_map, List.getD_eq_getElem?_getD, List.getElem?_eq_getElem this]; rfl)
  clear hd1 hd2 hd3 hd5 z1 y1 y2 y3
  have f10 : can s (L.tail.map (·.1)) = true → can s (L.tail.map (·.2)) = true := can_mono (by rw [List.length_map, List.length_map]) fun i hi => by
    rw [List.length_map] at hi
    rw [map_at (fun p => p.1) hi, map_at (fun p => p.2) hi]
    have hm : L.tail.getD i (0, 0) ∈ L := List.mem_of_mem_tail (by rw [List.getD_eq_getElem?_getD, List.getElem?_eq_getElem hi]; exact List.getElem_mem hi)
    exact (hL.all _ hm).2.1
  have hq0 : ∀ b : Bool, dNe (.bl b) (.bl b) = some (.bl false) := word_bl
  generalize can s (L.map (·.1)) = a at *
  generalize can s (L.map (·.2)) = b at *
  generalize can s ls = c at *
  generalize can s (ls.set k (L.getD k (0, 0)).2) = cl at *
  generalize can s ((L.set k (ls.getD k 0, ls.getD k 0)).map (·.1)) = an at *
  generalize can s ((L.set k (ls.getD k 0, ls.getD k 0)).map (·.2)) = bn at *
  generalize can s ((L ++ [((1 : Nat), (4 : Nat))]).map fun p : Rod => p.1) = a2 at *
  generalize can s ((L ++ [((1 : Nat), (4 : Nat))]).map (·.2)) = b2 at *
  generalize can s (L.tail.map (·.1)) = a3 at *
  generalize can s (L.tail.map (·.2)) = b3 at *
  generalize can (s.less p0) ls = cw at *
  generalize papB s L ls [k] = pk at *
  obtain ⟨f1, f2, f3, f4, f5, f6, f7, f8, f9⟩ := hF
  refine pass_if (by
    generalize natT (ls.set k (L.getD k (0, 0)).2) = lg at *
    generalize natT ls = ld at *
    generalize rodsT L = rd at *
    cases c with
    | true =>
      rw [f3 rfl] at z3
      simp -implicitDefEqProofs [-Int.natCast_add, e3, z3]
    | false => simp -implicitDefEqProofs [-Int.natCast_add]) ?_
  -- a rod known better
  refine pass_set (d := rodsT (L.set k (ls.getD k 0, ls.getD k 0))) (by
    generalize ls.getD k 0 = l at *
    generalize (L.map rodD).take k ++ [rodD (l, l)] = xa at *
    simp -implicitDefEqProofs [-Int.natCast_add, i3, hz1, hz2, g1, g2]) ?_
  refine pass_if (by
    generalize rodsT (L.set k (ls.getD k 0, ls.getD k 0)) = nd at *
    generalize natT ls = ld at *
    generalize rodsT L = rd at *
    cases a with
    | true =>
      have := f4 rfl
      subst this
      simp -implicitDefEqProofs [-Int.natCast_add, wordO, wn00, wn02, hon]
    | false =>
      cases b with
      | true => simp -implicitDefEqProofs [-Int.natCast_add, wordO, wn22]
      | false =>
        have hbn : bn = false := by cases bn with
          | false => rfl
          | true => exact absurd (f5 rfl) (by decide)
        have han : an = false := by cases an with
          | false => rfl
          | true => exact absurd (f2 (f6 rfl)) (by decide)
        subst hbn han
        simp -implicitDefEqProofs [-Int.natCast_add, wordO, wn11, wn12, hon]) ?_
  -- a rod more, a rod less
  refine pass_if (by
    have hlen : (1 : Int) < (L.length : Int) ↔ 1 < L.length := by omega
    generalize rodsT (L ++ [((1 : Nat), (4 : Nat))]) = md at *
    generalize rodsT (L.set k (ls.getD k 0, ls.getD k 0)) = nd at *
    generalize natT ls = ld at *
    cases a with
    | true =>
      have := f8 rfl
      subst this
      simp -implicitDefEqProofs [-Int.natCast_add, wordO, we00, we01, hadd, hom, wn00, hz1, hz2]
    | false =>
      cases b with
      | true => simp -implicitDefEqProofs [-Int.natCast_add, wordO, we20, we21]
      | false =>
        have hb3 : b3 = false := by cases b3 with
          | false => rfl
          | true => exact absurd (f9 rfl) (by decide)
        subst hb3
        by_cases h1 : 1 < L.length
        · have h2 := htl h1 S3
          have ha3 : a3 = false := by cases a3 with
            | false => rfl
            | true => exact absurd (f10 rfl) (by decide)
          subst ha3
          have hcut' : Ev.cutD (L.map rodD) (some 1) none = L.tail.map rodD := hcut
          generalize hT : L.tail.map rodD = T at *
          have h2' : m_outlook [s.o, .tup T] S3 = .ok (.str (wordO false false)) S3 := by rw [← hT]; exact h2
          have h1' : (1 : Int) < (L.length : Int) := by omega
          simp -implicitDefEqProofs [-Int.natCast_add, wordO, we10, we11, h1', h1, hcut', h2', wn11]
        · have h1' : ¬ (1 : Int) < (L.length : Int) := by omega
          simp -implicitDefEqProofs [-Int.natCast_add, wordO, we10, we11, h1']) ?_
  -- lots that tell
  refine pass_if (by
    have hrg' := hrg
    generalize hra : D.tup ((List.range L.length).map fun (k : Nat) => D.int (k : Int)) = ra at *
    have ht1' : m_tells [s.o, rodsT L, natT ls, ra] S3 = .ok (.bl true) S3 := by rw [← hra]; exact ht1
    generalize rodsT (L.set k (ls.getD k 0, ls.getD k 0)) = nd at *
    generalize natT (ls.set k (L.getD k (0, 0)).2) = lg at *
    generalize natT lot = lt at *
    generalize natT ls = ld at *
    generalize rodsT L = rd at *
    simp -implicitDefEqProofs [-Int.natCast_add, hrl, hrg', ht1', hfew, ht2]) ?_
  refine pass_if (by
    have hlt' : m__law_tells [s.t, rodsT (L.set k (ls.getD k 0, ls.getD k 0)), natT ls, .tup []] S3 = .ok (.bl pk) S3 := hlt
    have ht3' : m_tells [s.o, rodsT (L.set k (ls.getD k 0, ls.getD k 0)), natT ls, .tup []] S3 = .ok (.bl pk) S3 := ht3
    have ht4' : m_tells [s.o, rodsT L, natT ls, .tup [.int (k : Int)]] S3 = .ok (.bl pk) S3 := ht4
    have hon' := hon S3
    have hword : ∃ w : Bool, dNe (.str (wordO an bn)) (.str "open") = some (.bl w) ∧ w = pk := by
      rw [hpap]
      cases c with
      | true =>
        rw [f7 rfl]
        cases an with
        | true => exact ⟨true, wn02, rfl⟩
        | false => exact ⟨false, wn22, rfl⟩
      | false =>
        have : an = false := by cases an with
          | false => rfl
          | true => exact absurd (f6 rfl) (by decide)
        subst this
        cases bn with
        | true => exact ⟨false, wn22, rfl⟩
        | false => exact ⟨true, wn12, rfl⟩
    obtain ⟨w, hw, rfl⟩ := hword
    have hq := hq0 w
    clear hpap
    generalize wordO an bn = wd at *
    generalize rodsT (L.set k (ls.getD k 0, ls.getD k 0)) = nd at *
    generalize natT (ls.set k (L.getD k (0, 0)).2) = lg at *
    generalize natT ls = ld at *
    generalize rodsT L = rd at *
    simp -implicitDefEqProofs [-Int.natCast_add, hon', hw, hlt', hq, ht4', ht3', hz1]) ?_
  -- one less wanted
  refine pass_par2 (d1 := .str p0.1) (d2 := .int (p0.2.2 : Int)) (by simp -implicitDefEqProofs [-Int.natCast_add, q1, q2, q3]) (by simp -implicitDefEqProofs [-Int.natCast_add, q1, q2, q4]) ?_
  refine pass_if (by
    have e5' := e5 S3
    have hww' := hww S3
    generalize rodsT (L.set k (ls.getD k 0, ls.getD k 0)) = nd at *
    generalize natT (ls.set k (L.getD k (0, 0)).2) = lg at *
    generalize natT ls = ld at *
    generalize rodsT L = rd at *
    cases c with
    | false => simp -implicitDefEqProofs [-Int.natCast_add]
    | true =>
      by_cases h0 : 0 < p0.2.2
      · have hcw := hcl h0 rfl
        subst hcw
        have h0' : (0 : Int) < (p0.2.2 : Int) := by omega
        have hm1 : (p0.2.2 : Int) - 1 = ((p0.2.2 - 1 : Nat) : Int) := by omega
        simp -implicitDefEqProofs [-Int.natCast_add, h0', hm1, hww', e5', z5]
      · have h0' : ¬ (0 : Int) < (p0.2.2 : Int) := by omega
        simp -implicitDefEqProofs [-Int.natCast_add, h0', h0]) ?_
  -- in another order
  rw [e_seq]
  refine then_post (P := fun o S' => PenS [] S' ∧ ∃ (order : List Nat) (ρ' : DEnv), o = .nx ρ' ∧ order.Perm (List.range L.length) ∧ St [none, some (.mref 0), none, none, some (s.o), some (rodsT L), none, none, none, some (.str (wordO a b)), none, none, none, none, some (.lst (order.map fun (n : Nat) => D.int (n : Int))), none] ρ') ?_ fun o S4 ⟨hp, order, ρ, e, ho, h⟩ => ?_
  · generalize rodsT (L.set k (ls.getD k 0, ls.getD k 0)) = nd at *
    generalize natT (ls.set k (L.getD k (0, 0)).2) = lg at *
    generalize natT ls = ld at *
    generalize hrd : rodsT L = rd at *
    generalize wordO a b = wd at *
    simp -implicitDefEqProofs [-Int.natCast_add, hrl, hrgL]
    refine then_post (shuf_ok hp (xs := List.range L.length) (by rw [List.length_range]; omega)) fun d S5 ⟨⟨ys, e, hy2⟩, hp⟩ => ?_
    subst e
    simp -implicitDefEqProofs [-Int.natCast_add]
    exact ⟨hp, ys, hy2, rfl⟩
  · subst e
    repeat (first | (replace h := St.some h; obtain ⟨_, rfl, h⟩ := h) | (replace h := St.none h; obtain ⟨_, _, rfl, h⟩ := h))
    cases St.nil h
    rw [thenO_nx]
    have ho1 := hoo order ho S4
    have hix := hixr order ho
    have holen : order.length ≤ 6 := by rw [ho.length_eq, List.length_range]; exact hn6.2
    have hzo : order.length ≤ sizeLine := szk (by omega)
    have hwd : dNe (.str (wordO a b)) (.str (wordO a b)) = some (.bl false) := by
      cases a with
      | true => exact wn00
      | false => cases b with
        | true => exact wn22
        | false => exact wn11
    generalize wordO a b = wd at *
    simp -implicitDefEqProofs [-Int.natCast_add]
    rw [compL_map (enc := fun (i : Nat) => D.int (i : Int)) (g := fun i => rodD (L.getD i (0, 0))) order (fun i hi => by
      have := hix i hi
      generalize rodsT L = rd at *
      generalize L.getD i (0, 0) = p at *
      simp -implicitDefEqProofs [-Int.natCast_add, this])]
    have e : (order.map fun i => rodD (L.getD i (0, 0))) = (order.map fun i => L.getD i (0, 0)).map rodD := by rw [List.map_map]; rfl
    have hz : ((order.map fun i => L.getD i (0, 0)).map rodD).length ≤ sizeLine := by rw [List.length_map, List.length_map]; exact hzo
    rw [e]
    generalize ((order.map fun i => L.getD i (0, 0)).map rodD) = od at *
    simp -implicitDefEqProofs [-Int.natCast_add, hz, ho1, hwd]
    exact hp
theorem law_ok (ns : List Int) (hns : ns.length ≤ 63) : ∃ S, m_law [.scr ns] [] = .ok (.bl true) S := by
  have go : (m_law [.scr ns] []).post fun d S' => d = .bl true := by
    unfold m_law b_law
    have h3 : dRange [.int 3] = some ((List.range 3).map fun (k : Nat) => .int (k : Int)) := rg1 (j := 3) (by omega)
    simp -implicitDefEqProofs [-Int.natCast_add]
    refine then_post (pen_ok ns (by omega)) fun d S1 ⟨e, hp⟩ => ?_
    subst e
    simp -implicitDefEqProofs [-Int.natCast_add, h3]
    refine then_post (forL_range (Q := fun x S' => PenS [] S' ∧ ∃ ρ', x = .nx ρ' ∧ St [none, some (.mref 0), none, none, none, none, none, none, none, none, none, none, none, none, none, none] ρ') (fun j ρ S => PenS [] S ∧ St [none, some (.mref 0), none, none, none, none, none, none, none, none, none, none, none, none, none, none] ρ) 3 ⟨hp, by simp⟩ (fun j hj ρ S ⟨hp, h⟩ => ?_) fun ρ S ⟨hp, h⟩ => ⟨hp, ρ, rfl, h⟩) fun o S2 ⟨hp, ρ, e, h⟩ => ?_
    · repeat (first | (replace h := St.some h; obtain ⟨_, rfl, h⟩ := h) | (replace h := St.none h; obtain ⟨_, _, rfl, h⟩ := h))
      cases St.nil h
      simp -implicitDefEqProofs [-Int.natCast_add]
      refine Res.post_mono (lap_ok hp (by simp)) fun x S' ⟨hp, ρ', e, h⟩ => ?_
      subst e
      exact ⟨hp, h⟩
    · subst e
      repeat (first | (replace h := St.some h; obtain ⟨_, rfl, h⟩ := h) | (replace h := St.none h; obtain ⟨_, _, rfl, h⟩ := h))
      cases St.nil h
      simp -implicitDefEqProofs [-Int.natCast_add]
  obtain ⟨d, S, e, rfl⟩ := Res.post_ex go
  exact ⟨S, e⟩

end K80
namespace K80
open PySem PySem.Spec PyProof.Rows L2 Ev
def top (i : Nat) : Stmt := PySem.Challenge.pw_barscut_k80_rods_that_are_longer.main.body.getD i (.Pass ⟨0, 0, 0, 0⟩)
def names0 : List PySem.Str := ["CutError", "BadName", "BadNumber", "BadRow", "NoPiece", "TakenName", "is_whole", "is_number", "is_index", "LETTERS", "DIGITS", "SIGNS", "is_name", "MOST_STOCKS", "MOST_PIECES", "LENGTH_AT", "MANY_AT", "PRICE_AT", "Shop", "shop_parts", "need_new_name", "is_length", "need_length", "need_stocks", "need_pieces", "index_in", "piece_index", "with_row", "with_wanted", "width_by"]
def names1 : List PySem.Str := ["less_of", "is_row_lot", "all_lots", "MOST_RODS", "is_rod", "need_rods", "need_lengths", "wanted_row", "rows_for", "yield_by", "yield_of", "outlook", "mixed", "paper_by", "need_both", "need_rod_lot", "tells", "lies_in", "sorted_papers", "least_by", "fewest_measured", "_law_pen", "_law_draw", "_law_pick", "_law_shuffled", "_law_name", "_law_names", "_law_made", "_law_few_shop", "_law_size"]
def names2 : List PySem.Str := ["_law_gives", "_law_rows_below", "_law_minus", "_law_drawn_rods", "_law_wanted", "_law_least_yield", "_law_measured", "_law_tells"]
def names : List PySem.Str := names0 ++ names1 ++ names2
abbrev st__law_draw : Stmt := top 61
def d__law_draw : He.DefD := ⟨("_law_draw", none), "_law_draw", "_law_draw", defArgs st__law_draw, defBody st__law_draw, defScope st__law_draw, [], []⟩
abbrev st__law_pick : Stmt := top 62
def d__law_pick : He.DefD := ⟨("_law_pick", none), "_law_pick", "_law_pick", defArgs st__law_pick, defBody st__law_pick, defScope st__law_pick, [], []⟩
abbrev st__law_drawn_rods : Stmt := top 72
def d__law_drawn_rods : He.DefD := ⟨("_law_drawn_rods", none), "_law_drawn_rods", "_law_drawn_rods", defArgs st__law_drawn_rods, defBody st__law_drawn_rods, defScope st__law_drawn_rods, [], []⟩
abbrev st__law_name : Stmt := top 64
def d__law_name : He.DefD := ⟨("_law_name", none), "_law_name", "_law_name", defArgs st__law_name, defBody st__law_name, defScope st__law_name, [], []⟩
abbrev st__law_names : Stmt := top 65
def d__law_names : He.DefD := ⟨("_law_names", none), "_law_names", "_law_names", defArgs st__law_names, defBody st__law_names, defScope st__law_names, [], []⟩
abbrev st__law_few_shop : Stmt := top 67
def d__law_few_shop : He.DefD := ⟨("_law_few_shop", none), "_law_few_shop", "_law_few_shop", defArgs st__law_few_shop, defBody st__law_few_shop, defScope st__law_few_shop, [], []⟩
abbrev st__law_size : Stmt := top 68
def d__law_size : He.DefD := ⟨("_law_size", none), "_law_size", "_law_size", defArgs st__law_size, defBody st__law_size, defScope st__law_size, [], []⟩
abbrev st__law_gives : Stmt := top 69
def d__law_gives : He.DefD := ⟨("_law_gives", none), "_law_gives", "_law_gives", defArgs st__law_gives, defBody st__law_gives, defScope st__law_gives, [], []⟩
abbrev st__law_minus : Stmt := top 71
def d__law_minus : He.DefD := ⟨("_law_minus", none), "_law_minus", "_law_minus", defArgs st__law_minus, defBody st__law_minus, defScope st__law_minus, [], []⟩
abbrev st__law_rows_below : Stmt := top 70
def d__law_rows_below : He.DefD := ⟨("_law_rows_below", none), "_law_rows_below", "_law_rows_below", defArgs st__law_rows_below, defBody st__law_rows_below, defScope st__law_rows_below, [], []⟩
abbrev st__law_wanted : Stmt := top 73
def d__law_wanted : He.DefD := ⟨("_law_wanted", none), "_law_wanted", "_law_wanted", defArgs st__law_wanted, defBody st__law_wanted, defScope st__law_wanted, [], []⟩
abbrev st__law_least_yield : Stmt := top 74
def d__law_least_yield : He.DefD := ⟨("_law_least_yield", none), "_law_least_yield", "_law_least_yield", defArgs st__law_least_yield, defBody st__law_least_yield, defScope st__law_least_yield, [], []⟩
abbrev st_is_whole : Stmt := top 8
def d_is_whole : He.DefD := ⟨("is_whole", none), "is_whole", "is_whole", defArgs st_is_whole, defBody st_is_whole, defScope st_is_whole, [], []⟩
abbrev st_is_number : Stmt := top 9
def d_is_number : He.DefD := ⟨("is_number", none), "is_number", "is_number", defArgs st_is_number, defBody st_is_number, defScope st_is_number, [], []⟩
abbrev st_is_length : Stmt := top 25
def d_is_length : He.DefD := ⟨("is_length", none), "is_length", "is_length", defArgs st_is_length, defBody st_is_length, defScope st_is_length, [], []⟩
abbrev st_need_length : Stmt := top 26
def d_need_length : He.DefD := ⟨("need_length", none), "need_length", "need_length", defArgs st_need_length, defBody st_need_length, defScope st_need_length, [], []⟩
abbrev st_is_name : Stmt := top 15
def d_is_name : He.DefD := ⟨("is_name", none), "is_name", "is_name", defArgs st_is_name, defBody st_is_name, defScope st_is_name, [], []⟩
abbrev st_need_new_name : Stmt := top 24
def d_need_new_name : He.DefD := ⟨("need_new_name", none), "need_new_name", "need_new_name", defArgs st_need_new_name, defBody st_need_new_name, defScope st_need_new_name, [], []⟩
abbrev st_need_pieces : Stmt := top 28
def d_need_pieces : He.DefD := ⟨("need_pieces", none), "need_pieces", "need_pieces", defArgs st_need_pieces, defBody st_need_pieces, defScope st_need_pieces, [], []⟩
abbrev st_need_stocks : Stmt := top 27
def d_need_stocks : He.DefD := ⟨("need_stocks", none), "need_stocks", "need_stocks", defArgs st_need_stocks, defBody st_need_stocks, defScope st_need_stocks, [], []⟩
abbrev st_Shop_init : Stmt := inClass (top 22) 0
def d_Shop_init : He.DefD := ⟨("Shop", some "__init__"), "__init__", "Shop.__init__", defArgs st_Shop_init, defBody st_Shop_init, defScope st_Shop_init, [], []⟩
abbrev st__law_made : Stmt := top 66
def d__law_made : He.DefD := ⟨("_law_made", none), "_law_made", "_law_made", defArgs st__law_made, defBody st__law_made, defScope st__law_made, [], []⟩
abbrev st__law_pen : Stmt := top 60
def d__law_pen : He.DefD := ⟨("_law_pen", none), "_law_pen", "_law_pen", defArgs st__law_pen, defBody st__law_pen, defScope st__law_pen, [], []⟩
abbrev st__law_shuffled : Stmt := top 63
def d__law_shuffled : He.DefD := ⟨("_law_shuffled", none), "_law_shuffled", "_law_shuffled", defArgs st__law_shuffled, defBody st__law_shuffled, defScope st__law_shuffled, [], []⟩
abbrev st__law_measured : Stmt := top 75
def d__law_measured : He.DefD := ⟨("_law_measured", none), "_law_measured", "_law_measured", defArgs st__law_measured, defBody st__law_measured, defScope st__law_measured, [], []⟩
abbrev st__law_tells : Stmt := top 76
def d__law_tells : He.DefD := ⟨("_law_tells", none), "_law_tells", "_law_tells", defArgs st__law_tells, defBody st__law_tells, defScope st__law_tells, [], []⟩
abbrev st_need_lengths : Stmt := top 44
def d_need_lengths : He.DefD := ⟨("need_lengths", none), "need_lengths", "need_lengths", defArgs st_need_lengths, defBody st_need_lengths, defScope st_need_lengths, [], []⟩
abbrev st_is_rod : Stmt := top 42
def d_is_rod : He.DefD := ⟨("is_rod", none), "is_rod", "is_rod", defArgs st_is_rod, defBody st_is_rod, defScope st_is_rod, [], []⟩
abbrev st_need_rods : Stmt := top 43
def d_need_rods : He.DefD := ⟨("need_rods", none), "need_rods", "need_rods", defArgs st_need_rods, defBody st_need_rods, defScope st_need_rods, [], []⟩
abbrev st_need_both : Stmt := top 52
def d_need_both : He.DefD := ⟨("need_both", none), "need_both", "need_both", defArgs st_need_both, defBody st_need_both, defScope st_need_both, [], []⟩
abbrev st_all_lots : Stmt := top 39
def d_all_lots : He.DefD := ⟨("all_lots", none), "all_lots", "all_lots", defArgs st_all_lots, defBody st_all_lots, defScope st_all_lots, [], []⟩
abbrev st_lies_in : Stmt := top 55
def d_lies_in : He.DefD := ⟨("lies_in", none), "lies_in", "lies_in", defArgs st_lies_in, defBody st_lies_in, defScope st_lies_in, [], []⟩
abbrev st_mixed : Stmt := top 50
def d_mixed : He.DefD := ⟨("mixed", none), "mixed", "mixed", defArgs st_mixed, defBody st_mixed, defScope st_mixed, [], []⟩
abbrev st_less_of : Stmt := top 35
def d_less_of : He.DefD := ⟨("less_of", none), "less_of", "less_of", defArgs st_less_of, defBody st_less_of, defScope st_less_of, [], []⟩
abbrev st_width_by : Stmt := top 33
def d_width_by : He.DefD := ⟨("width_by", none), "width_by", "width_by", defArgs st_width_by, defBody st_width_by, defScope st_width_by, [], []⟩
abbrev st_rows_for : Stmt := top 46
def d_rows_for : He.DefD := ⟨("rows_for", none), "rows_for", "rows_for", defArgs st_rows_for, defBody st_rows_for, defScope st_rows_for, [], []⟩
abbrev st_wanted_row : Stmt := top 45
def d_wanted_row : He.DefD := ⟨("wanted_row", none), "wanted_row", "wanted_row", defArgs st_wanted_row, defBody st_wanted_row, defScope st_wanted_row, [], []⟩
abbrev st_yield_by : Stmt := top 47
def d_yield_by : He.DefD := ⟨("yield_by", none), "yield_by", "yield_by", defArgs st_yield_by, defBody st_yield_by, defScope st_yield_by, [], []⟩
abbrev st_paper_by : Stmt := top 51
def d_paper_by : He.DefD := ⟨("paper_by", none), "paper_by", "paper_by", defArgs st_paper_by, defBody st_paper_by, defScope st_paper_by, [], []⟩
abbrev st_sorted_papers : Stmt := top 56
def d_sorted_papers : He.DefD := ⟨("sorted_papers", none), "sorted_papers", "sorted_papers", defArgs st_sorted_papers, defBody st_sorted_papers, defScope st_sorted_papers, [], []⟩
abbrev st_least_by : Stmt := top 57
def d_least_by : He.DefD := ⟨("least_by", none), "least_by", "least_by", defArgs st_least_by, defBody st_least_by, defScope st_least_by, [], []⟩
abbrev st_fewest_measured : Stmt := top 58
def d_fewest_measured : He.DefD := ⟨("fewest_measured", none), "fewest_measured", "fewest_measured", defArgs st_fewest_measured, defBody st_fewest_measured, defScope st_fewest_measured, [], []⟩
abbrev st_outlook : Stmt := top 49
def d_outlook : He.DefD := ⟨("outlook", none), "outlook", "outlook", defArgs st_outlook, defBody st_outlook, defScope st_outlook, [], []⟩
abbrev st_is_index : Stmt := top 10
def d_is_index : He.DefD := ⟨("is_index", none), "is_index", "is_index", defArgs st_is_index, defBody st_is_index, defScope st_is_index, [], []⟩
abbrev st_is_row_lot : Stmt := top 37
def d_is_row_lot : He.DefD := ⟨("is_row_lot", none), "is_row_lot", "is_row_lot", defArgs st_is_row_lot, defBody st_is_row_lot, defScope st_is_row_lot, [], []⟩
abbrev st_need_rod_lot : Stmt := top 53
def d_need_rod_lot : He.DefD := ⟨("need_rod_lot", none), "need_rod_lot", "need_rod_lot", defArgs st_need_rod_lot, defBody st_need_rod_lot, defScope st_need_rod_lot, [], []⟩
abbrev st_tells : Stmt := top 54
def d_tells : He.DefD := ⟨("tells", none), "tells", "tells", defArgs st_tells, defBody st_tells, defScope st_tells, [], []⟩
abbrev st_index_in : Stmt := top 29
def d_index_in : He.DefD := ⟨("index_in", none), "index_in", "index_in", defArgs st_index_in, defBody st_index_in, defScope st_index_in, [], []⟩
abbrev st_piece_index : Stmt := top 30
def d_piece_index : He.DefD := ⟨("piece_index", none), "piece_index", "piece_index", defArgs st_piece_index, defBody st_piece_index, defScope st_piece_index, [], []⟩
abbrev st_with_row : Stmt := top 31
def d_with_row : He.DefD := ⟨("with_row", none), "with_row", "with_row", defArgs st_with_row, defBody st_with_row, defScope st_with_row, [], []⟩
abbrev st_with_wanted : Stmt := top 32
def d_with_wanted : He.DefD := ⟨("with_wanted", none), "with_wanted", "with_wanted", defArgs st_with_wanted, defBody st_with_wanted, defScope st_with_wanted, [], []⟩
abbrev st_yield_of : Stmt := top 48
def d_yield_of : He.DefD := ⟨("yield_of", none), "yield_of", "yield_of", defArgs st_yield_of, defBody st_yield_of, defScope st_yield_of, [], []⟩
abbrev st_law : Stmt := top 77
def d_law : He.DefD := ⟨("law", none), "law", "law", defArgs st_law, defBody st_law, defScope st_law, [], []⟩
def fn0 : List He.DefD := [d__law_draw, d__law_pick, d__law_drawn_rods, d__law_name, d__law_names, d__law_few_shop, d__law_size, d__law_gives, d__law_minus, d__law_rows_below, d__law_wanted, d__law_least_yield, d_is_whole, d_is_number, d_is_length, d_need_length, d_is_name, d_need_new_name, d_need_pieces, d_need_stocks, d_Shop_init, d__law_made, d__law_pen, d__law_shuffled, d__law_measured, d__law_tells, d_need_lengths, d_is_rod, d_need_rods, d_need_both]
def fn1 : List He.DefD := [d_all_lots, d_lies_in, d_mixed, d_less_of, d_width_by, d_rows_for, d_wanted_row, d_yield_by, d_paper_by, d_sorted_papers, d_least_by, d_fewest_measured, d_outlook, d_is_index, d_is_row_lot, d_need_rod_lot, d_tells, d_index_in, d_piece_index, d_with_row, d_with_wanted, d_yield_of, d_law]
def fn : List He.DefD := fn0 ++ fn1
def fa0 : List He.Fa := [.glo "_law_draw", .glo "_law_pick", .glo "_law_drawn_rods", .glo "_law_name", .glo "_law_names", .glo "_law_few_shop", .glo "_law_size", .glo "_law_gives", .glo "_law_minus", .glo "_law_rows_below", .glo "_law_wanted", .glo "_law_least_yield", .glo "is_whole", .glo "is_number", .glo "is_length", .glo "need_length", .glo "is_name", .glo "need_new_name", .glo "need_pieces", .glo "need_stocks", .glo "_law_made", .glo "_law_pen", .glo "_law_shuffled", .glo "_law_measured", .glo "_law_tells", .glo "need_lengths", .glo "is_rod", .glo "need_rods", .glo "need_both", .glo "all_lots"]
def fa1 : List He.Fa := [.glo "lies_in", .glo "mixed", .glo "less_of", .glo "width_by", .glo "rows_for", .glo "wanted_row", .glo "yield_by", .glo "paper_by", .glo "sorted_papers", .glo "least_by", .glo "fewest_measured", .glo "outlook", .glo "is_index", .glo "is_row_lot", .glo "need_rod_lot", .glo "tells", .glo "index_in", .glo "piece_index", .glo "with_row", .glo "with_wanted", .glo "yield_of", .glo "law", .glo "Shop", .free "all", .free "any", .free "bool", .free "enumerate", .free "int", .free "isinstance", .free "len"]
def fa2 : List He.Fa := [.free "list", .free "min", .free "range", .free "sorted", .free "str", .free "sum", .free "tuple", .free "zip", .int "LENGTH_AT" 1, .int "MANY_AT" 2, .int "MOST_PIECES" 6, .int "MOST_RODS" 6, .int "MOST_STOCKS" 4, .int "PRICE_AT" 3, .str "LETTERS" "abcdefghijklmnopqrstuvwxyz", .str "SIGNS" "abcdefghijklmnopqrstuvwxyz0123456789", .cls "Shop", .noat "Shop" "kerf", .noat "Shop" "pieces", .noat "Shop" "stocks", .mkr "Shop"]
def fa : List He.Fa := fa0 ++ fa1 ++ fa2
def more (K : PySem.W.Frag) : Bool := clsFacts K OWN && eqFacts K OWN
/-- what is known of the text -/
structure Txt (K : PySem.W.Frag) (mg : Str → Option Value) : Prop where
  ex : ∃ h : Heap, K.In h ∧ h.Ns mainGlobals mg ∧ He.SaysD fa fn K ∧ more K = true
section
variable {K : PySem.W.Frag} {mg : Str → Option Value}
theorem g__law_draw (T : Txt K mg) : mg "_law_draw" = some (.ref (He.ga K "_law_draw")) := let ⟨_, X, G, c, _⟩ := T.ex; He.glo_ok X G (c.fact 0 (f := .glo "_law_draw") rfl)
theorem g__law_pick (T : Txt K mg) : mg "_law_pick" = some (.ref (He.ga K "_law_pick")) := let ⟨_, X, G, c, _⟩ := T.ex; He.glo_ok X G (c.fact 1 (f := .glo "_law_pick") rfl)
theorem g__law_drawn_rods (T : Txt K mg) : mg "_law_drawn_rods" = some (.ref (He.ga K "_law_drawn_rods")) := let ⟨_, X, G, c, _⟩ := T.ex; He.glo_ok X G (c.fact 2 (f := .glo "_law_drawn_rods") rfl)
theorem g__law_name (T : Txt K mg) : mg "_law_name" = some (.ref (He.ga K "_law_name")) := let ⟨_, X, G, c, _⟩ := T.ex; He.glo_ok X G (c.fact 3 (f := .glo "_law_name") rfl)
theorem g__law_names (T : Txt K mg) : mg "_law_names" = some (.ref (He.ga K "_law_names")) := let ⟨_, X, G, c, _⟩ := T.ex; He.glo_ok X G (c.fact 4 (f := .glo "_law_names") rfl)
theorem g__law_few_shop (T : Txt K mg) : mg "_law_few_shop" = some (.ref (He.ga K "_law_few_shop")) := let ⟨_, X, G, c, _⟩ := T.ex; He.glo_ok X G (c.fact 5 (f := .glo "_law_few_shop") rfl)
theorem g__law_size (T : Txt K mg) : mg "_law_size" = some (.ref (He.ga K "_law_size")) := let ⟨_, X, G, c, _⟩ := T.ex; He.glo_ok X G (c.fact 6 (f := .glo "_law_size") rfl)
theorem g__law_gives (T : Txt K mg) : mg "_law_gives" = some (.ref (He.ga K "_law_gives")) := let ⟨_, X, G, c, _⟩ := T.ex; He.glo_ok X G (c.fact 7 (f := .glo "_law_gives") rfl)
theorem g__law_minus (T : Txt K mg) : mg "_law_minus" = some (.ref (He.ga K "_law_minus")) := let ⟨_, X, G, c, _⟩ := T.ex; He.glo_ok X G (c.fact 8 (f := .glo "_law_minus") rfl)
theorem g__law_rows_below (T : Txt K mg) : mg "_law_rows_below" = some (.ref (He.ga K "_law_rows_below")) := let ⟨_, X, G, c, _⟩ := T.ex; He.glo_ok X G (c.fact 9 (f := .glo "_law_rows_below") rfl)
theorem g__law_wanted (T : Txt K mg) : mg "_law_wanted" = some (.ref (He.ga K "_law_wanted")) := let ⟨_, X, G, c, _⟩ := T.ex; He.glo_ok X G (c.fact 10 (f := .glo "_law_wanted") rfl)
theorem g__law_least_yield (T : Txt K mg) : mg "_law_least_yield" = some (.ref (He.ga K "_law_least_yield")) := let ⟨_, X, G, c, _⟩ := T.ex; He.glo_ok X G (c.fact 11 (f := .glo "_law_least_yield") rfl)
theorem g_is_whole (T : Txt K mg) : mg "is_whole" = some (.ref (He.ga K "is_whole")) := let ⟨_, X, G, c, _⟩ := T.ex; He.glo_ok X G (c.fact 12 (f := .glo "is_whole") rfl)
theorem g_is_number (T : Txt K mg) : mg "is_number" = some (.ref (He.ga K "is_number")) := let ⟨_, X, G, c, _⟩ := T.ex; He.glo_ok X G (c.fact 13 (f := .glo "is_number") rfl)
theorem g_is_length (T : Txt K mg) : mg "is_length" = some (.ref (He.ga K "is_length")) := let ⟨_, X, G, c, _⟩ := T.ex; He.glo_ok X G (c.fact 14 (f := .glo "is_length") rfl)
theorem g_need_length (T : Txt K mg) : mg "need_length" = some (.ref (He.ga K "need_length")) := let ⟨_, X, G, c, _⟩ := T.ex; He.glo_ok X G (c.fact 15 (f := .glo "need_length") rfl)
theorem g_is_name (T : Txt K mg) : mg "is_name" = some (.ref (He.ga K "is_name")) := let ⟨_, X, G, c, _⟩ := T.ex; He.glo_ok X G (c.fact 16 (f := .glo "is_name") rfl)
theorem g_need_new_name (T : Txt K mg) : mg "need_new_name" = some (.ref (He.ga K "need_new_name")) := let ⟨_, X, G, c, _⟩ := T.ex; He.glo_ok X G (c.fact 17 (f := .glo "need_new_name") rfl)
theorem g_need_pieces (T : Txt K mg) : mg "need_pieces" = some (.ref (He.ga K "need_pieces")) := let ⟨_, X, G, c, _⟩ := T.ex; He.glo_ok X G (c.fact 18 (f := .glo "need_pieces") rfl)
theorem g_need_stocks (T : Txt K mg) : mg "need_stocks" = some (.ref (He.ga K "need_stocks")) := let ⟨_, X, G, c, _⟩ := T.ex; He.glo_ok X G (c.fact 19 (f := .glo "need_stocks") rfl)
theorem g__law_made (T : Txt K mg) : mg "_law_made" = some (.ref (He.ga K "_law_made")) := let ⟨_, X, G, c, _⟩ := T.ex; He.glo_ok X G (c.fact 20 (f := .glo "_law_made") rfl)
theorem g__law_pen (T : Txt K mg) : mg "_law_pen" = some (.ref (He.ga K "_law_pen")) := let ⟨_, X, G, c, _⟩ := T.ex; He.glo_ok X G (c.fact 21 (f := .glo "_law_pen") rfl)
theorem g__law_shuffled (T : Txt K mg) : mg "_law_shuffled" = some (.ref (He.ga K "_law_shuffled")) := let ⟨_, X, G, c, _⟩ := T.ex; He.glo_ok X G (c.fact 22 (f := .glo "_law_shuffled") rfl)
theorem g__law_measured (T : Txt K mg) : mg "_law_measured" = some (.ref (He.ga K "_law_measured")) := let ⟨_, X, G, c, _⟩ := T.ex; He.glo_ok X G (c.fact 23 (f := .glo "_law_measured") rfl)
theorem g__law_tells (T : Txt K mg) : mg "_law_tells" = some (.ref (He.ga K "_law_tells")) := let ⟨_, X, G, c, _⟩ := T.ex; He.glo_ok X G (c.fact 24 (f := .glo "_law_tells") rfl)
theorem g_need_lengths (T : Txt K mg) : mg "need_lengths" = some (.ref (He.ga K "need_lengths")) := let ⟨_, X, G, c, _⟩ := T.ex; He.glo_ok X G (c.fact 25 (f := .glo "need_lengths") rfl)
theorem g_is_rod (T : Txt K mg) : mg "is_rod" = some (.ref (He.ga K "is_rod")) := let ⟨_, X, G, c, _⟩ := T.ex; He.glo_ok X G (c.fact 26 (f := .glo "is_rod") rfl)
theorem g_need_rods (T : Txt K mg) : mg "need_rods" = some (.ref (He.ga K "need_rods")) := let ⟨_, X, G, c, _⟩ := T.ex; He.glo_ok X G (c.fact 27 (f := .glo "need_rods") rfl)
theorem g_need_both (T : Txt K mg) : mg "need_both" = some (.ref (He.ga K "need_both")) := let ⟨_, X, G, c, _⟩ := T.ex; He.glo_ok X G (c.fact 28 (f := .glo "need_both") rfl)
theorem g_all_lots (T : Txt K mg) : mg "all_lots" = some (.ref (He.ga K "all_lots")) := let ⟨_, X, G, c, _⟩ := T.ex; He.glo_ok X G (c.fact 29 (f := .glo "all_lots") rfl)
theorem g_lies_in (T : Txt K mg) : mg "lies_in" = some (.ref (He.ga K "lies_in")) := let ⟨_, X, G, c, _⟩ := T.ex; He.glo_ok X G (c.fact 30 (f := .glo "lies_in") rfl)
theorem g_mixed (T : Txt K mg) : mg "mixed" = some (.ref (He.ga K "mixed")) := let ⟨_, X, G, c, _⟩ := T.ex; He.glo_ok X G (c.fact 31 (f := .glo "mixed") rfl)
theorem g_less_of (T : Txt K mg) : mg "less_of" = some (.ref (He.ga K "less_of")) := let ⟨_, X, G, c, _⟩ := T.ex; He.glo_ok X G (c.fact 32 (f := .glo "less_of") rfl)
theorem g_width_by (T : Txt K mg) : mg "width_by" = some (.ref (He.ga K "width_by")) := let ⟨_, X, G, c, _⟩ := T.ex; He.glo_ok X G (c.fact 33 (f := .glo "width_by") rfl)
theorem g_rows_for (T : Txt K mg) : mg "rows_for" = some (.ref (He.ga K "rows_for")) := let ⟨_, X, G, c, _⟩ := T.ex; He.glo_ok X G (c.fact 34 (f := .glo "rows_for") rfl)
theorem g_wanted_row (T : Txt K mg) : mg "wanted_row" = some (.ref (He.ga K "wanted_row")) := let ⟨_, X, G, c, _⟩ := T.ex; He.glo_ok X G (c.fact 35 (f := .glo "wanted_row") rfl)
theorem g_yield_by (T : Txt K mg) : mg "yield_by" = some (.ref (He.ga K "yield_by")) := let ⟨_, X, G, c, _⟩ := T.ex; He.glo_ok X G (c.fact 36 (f := .glo "yield_by") rfl)
theorem g_paper_by (T : Txt K mg) : mg "paper_by" = some (.ref (He.ga K "paper_by")) := let ⟨_, X, G, c, _⟩ := T.ex; He.glo_ok X G (c.fact 37 (f := .glo "paper_by") rfl)
theorem g_sorted_papers (T : Txt K mg) : mg "sorted_papers" = some (.ref (He.ga K "sorted_papers")) := let ⟨_, X, G, c, _⟩ := T.ex; He.glo_ok X G (c.fact 38 (f := .glo "sorted_papers") rfl)
theorem g_least_by (T : Txt K mg) : mg "least_by" = some (.ref (He.ga K "least_by")) := let ⟨_, X, G, c, _⟩ := T.ex; He.glo_ok X G (c.fact 39 (f := .glo "least_by") rfl)
theorem g_fewest_measured (T : Txt K mg) : mg "fewest_measured" = some (.ref (He.ga K "fewest_measured")) := let ⟨_, X, G, c, _⟩ := T.ex; He.glo_ok X G (c.fact 40 (f := .glo "fewest_measured") rfl)
theorem g_outlook (T : Txt K mg) : mg "outlook" = some (.ref (He.ga K "outlook")) := let ⟨_, X, G, c, _⟩ := T.ex; He.glo_ok X G (c.fact 41 (f := .glo "outlook") rfl)
theorem g_is_index (T : Txt K mg) : mg "is_index" = some (.ref (He.ga K "is_index")) := let ⟨_, X, G, c, _⟩ := T.ex; He.glo_ok X G (c.fact 42 (f := .glo "is_index") rfl)
theorem g_is_row_lot (T : Txt K mg) : mg "is_row_lot" = some (.ref (He.ga K "is_row_lot")) := let ⟨_, X, G, c, _⟩ := T.ex; He.glo_ok X G (c.fact 43 (f := .glo "is_row_lot") rfl)
theorem g_need_rod_lot (T : Txt K mg) : mg "need_rod_lot" = some (.ref (He.ga K "need_rod_lot")) := let ⟨_, X, G, c, _⟩ := T.ex; He.glo_ok X G (c.fact 44 (f := .glo "need_rod_lot") rfl)
theorem g_tells (T : Txt K mg) : mg "tells" = some (.ref (He.ga K "tells")) := let ⟨_, X, G, c, _⟩ := T.ex; He.glo_ok X G (c.fact 45 (f := .glo "tells") rfl)
theorem g_index_in (T : Txt K mg) : mg "index_in" = some (.ref (He.ga K "index_in")) := let ⟨_, X, G, c, _⟩ := T.ex; He.glo_ok X G (c.fact 46 (f := .glo "index_in") rfl)
theorem g_piece_index (T : Txt K mg) : mg "piece_index" = some (.ref (He.ga K "piece_index")) := let ⟨_, X, G, c, _⟩ := T.ex; He.glo_ok X G (c.fact 47 (f := .glo "piece_index") rfl)
theorem g_with_row (T : Txt K mg) : mg "with_row" = some (.ref (He.ga K "with_row")) := let ⟨_, X, G, c, _⟩ := T.ex; He.glo_ok X G (c.fact 48 (f := .glo "with_row") rfl)
theorem g_with_wanted (T : Txt K mg) : mg "with_wanted" = some (.ref (He.ga K "with_wanted")) := let ⟨_, X, G, c, _⟩ := T.ex; He.glo_ok X G (c.fact 49 (f := .glo "with_wanted") rfl)
theorem g_yield_of (T : Txt K mg) : mg "yield_of" = some (.ref (He.ga K "yield_of")) := let ⟨_, X, G, c, _⟩ := T.ex; He.glo_ok X G (c.fact 50 (f := .glo "yield_of") rfl)
theorem g_law (T : Txt K mg) : mg "law" = some (.ref (He.ga K "law")) := let ⟨_, X, G, c, _⟩ := T.ex; He.glo_ok X G (c.fact 51 (f := .glo "law") rfl)
theorem g_Shop (T : Txt K mg) : mg "Shop" = some (.ref (He.ga K "Shop")) := let ⟨_, X, G, c, _⟩ := T.ex; He.glo_ok X G (c.fact 52 (f := .glo "Shop") rfl)
theorem z_all (T : Txt K mg) : mg "all" = none := let ⟨_, X, G, c, _⟩ := T.ex; He.free_ok X G (c.fact 53 (f := .free "all") rfl)
theorem z_any (T : Txt K mg) : mg "any" = none := let ⟨_, X, G, c, _⟩ := T.ex; He.free_ok X G (c.fact 54 (f := .free "any") rfl)
theorem z_bool (T : Txt K mg) : mg "bool" = none := let ⟨_, X, G, c, _⟩ := T.ex; He.free_ok X G (c.fact 55 (f := .free "bool") rfl)
theorem z_enumerate (T : Txt K mg) : mg "enumerate" = none := let ⟨_, X, G, c, _⟩ := T.ex; He.free_ok X G (c.fact 56 (f := .free "enumerate") rfl)
theorem z_int (T : Txt K mg) : mg "int" = none := let ⟨_, X, G, c, _⟩ := T.ex; He.free_ok X G (c.fact 57 (f := .free "int") rfl)
theorem z_isinstance (T : Txt K mg) : mg "isinstance" = none := let ⟨_, X, G, c, _⟩ := T.ex; He.free_ok X G (c.fact 58 (f := .free "isinstance") rfl)
theorem z_len (T : Txt K mg) : mg "len" = none := let ⟨_, X, G, c, _⟩ := T.ex; He.free_ok X G (c.fact 59 (f := .free "len") rfl)
theorem z_list (T : Txt K mg) : mg "list" = none := let ⟨_, X, G, c, _⟩ := T.ex; He.free_ok X G (c.fact 60 (f := .free "list") rfl)
theorem z_min (T : Txt K mg) : mg "min" = none := let ⟨_, X, G, c, _⟩ := T.ex; He.free_ok X G (c.fact 61 (f := .free "min") rfl)
theorem z_range (T : Txt K mg) : mg "range" = none := let ⟨_, X, G, c, _⟩ := T.ex; He.free_ok X G (c.fact 62 (f := .free "range") rfl)
theorem z_sorted (T : Txt K mg) : mg "sorted" = none := let ⟨_, X, G, c, _⟩ := T.ex; He.free_ok X G (c.fact 63 (f := .free "sorted") rfl)
theorem z_str (T : Txt K mg) : mg "str" = none := let ⟨_, X, G, c, _⟩ := T.ex; He.free_ok X G (c.fact 64 (f := .free "str") rfl)
theorem z_sum (T : Txt K mg) : mg "sum" = none := let ⟨_, X, G, c, _⟩ := T.ex; He.free_ok X G (c.fact 65 (f := .free "sum") rfl)
theorem z_tuple (T : Txt K mg) : mg "tuple" = none := let ⟨_, X, G, c, _⟩ := T.ex; He.free_ok X G (c.fact 66 (f := .free "tuple") rfl)
theorem z_zip (T : Txt K mg) : mg "zip" = none := let ⟨_, X, G, c, _⟩ := T.ex; He.free_ok X G (c.fact 67 (f := .free "zip") rfl)
theorem z_LENGTH_AT (T : Txt K mg) : ∃ t, mg "LENGTH_AT" = some (.int 1 t) := let ⟨_, X, G, c, _⟩ := T.ex; He.int_ok X G (c.fact 68 (f := .int "LENGTH_AT" 1) rfl)
theorem z_MANY_AT (T : Txt K mg) : ∃ t, mg "MANY_AT" = some (.int 2 t) := let ⟨_, X, G, c, _⟩ := T.ex; He.int_ok X G (c.fact 69 (f := .int "MANY_AT" 2) rfl)
theorem z_MOST_PIECES (T : Txt K mg) : ∃ t, mg "MOST_PIECES" = some (.int 6 t) := let ⟨_, X, G, c, _⟩ := T.ex; He.int_ok X G (c.fact 70 (f := .int "MOST_PIECES" 6) rfl)
theorem z_MOST_RODS (T : Txt K mg) : ∃ t, mg "MOST_RODS" = some (.int 6 t) := let ⟨_, X, G, c, _⟩ := T.ex; He.int_ok X G (c.fact 71 (f := .int "MOST_RODS" 6) rfl)
theorem z_MOST_STOCKS (T : Txt K mg) : ∃ t, mg "MOST_STOCKS" = some (.int 4 t) := let ⟨_, X, G, c, _⟩ := T.ex; He.int_ok X G (c.fact 72 (f := .int "MOST_STOCKS" 4) rfl)
theorem z_PRICE_AT (T : Txt K mg) : ∃ t, mg "PRICE_AT" = some (.int 3 t) := let ⟨_, X, G, c, _⟩ := T.ex; He.int_ok X G (c.fact 73 (f := .int "PRICE_AT" 3) rfl)
theorem z_LETTERS (T : Txt K mg) : ∃ t, mg "LETTERS" = some (.str "abcdefghijklmnopqrstuvwxyz" t) := let ⟨_, X, G, c, _⟩ := T.ex; He.str_ok X G (c.fact 74 (f := .str "LETTERS" "abcdefghijklmnopqrstuvwxyz") rfl)
theorem z_SIGNS (T : Txt K mg) : ∃ t, mg "SIGNS" = some (.str "abcdefghijklmnopqrstuvwxyz0123456789" t) := let ⟨_, X, G, c, _⟩ := T.ex; He.str_ok X G (c.fact 75 (f := .str "SIGNS" "abcdefghijklmnopqrstuvwxyz0123456789") rfl)
theorem ato_kerf (T : Txt K mg) : AttrOk K mg at_kerf "kerf" := fun c hc C hm => by
  obtain ⟨_, X, G, cc, _⟩ := T.ex
  have hc' : c = "Shop" := by simpa [at_kerf] using hc
  subst hc'
  · have e := (g_Shop T).symm.trans hm
    cases e
    exact ⟨He.cls_ok (cc.fact 76 (f := .cls "Shop") rfl), He.noat_ok (cc.fact 77 (f := .noat "Shop" "kerf") rfl)⟩
theorem ato_pieces (T : Txt K mg) : AttrOk K mg at_pieces "pieces" := fun c hc C hm => by
  obtain ⟨_, X, G, cc, _⟩ := T.ex
  have hc' : c = "Shop" := by simpa [at_pieces] using hc
  subst hc'
  · have e := (g_Shop T).symm.trans hm
    cases e
    exact ⟨He.cls_ok (cc.fact 76 (f := .cls "Shop") rfl), He.noat_ok (cc.fact 78 (f := .noat "Shop" "pieces") rfl)⟩
theorem ato_stocks (T : Txt K mg) : AttrOk K mg at_stocks "stocks" := fun c hc C hm => by
  obtain ⟨_, X, G, cc, _⟩ := T.ex
  have hc' : c = "Shop" := by simpa [at_stocks] using hc
  subst hc'
  · have e := (g_Shop T).symm.trans hm
    cases e
    exact ⟨He.cls_ok (cc.fact 76 (f := .cls "Shop") rfl), He.noat_ok (cc.fact 79 (f := .noat "Shop" "stocks") rfl)⟩
theorem mk_Shop (T : Txt K mg) : Mk K (He.ga K "Shop") (He.ma K (He.ga K "Shop") "__init__") := let ⟨_, X, G, c, _⟩ := T.ex; He.mkr_ok (c.fact 80 (f := .mkr "Shop") rfl)
theorem clsok (T : Txt K mg) : ClsOk K mg OWN where
  glo := by
    intro c hc
    have hc2 : c = "Shop" := by simpa [OWN] using hc
    subst hc2
    · exact g_Shop T
  cls := by
    intro c hc
    have hc2 : c = "Shop" := by simpa [OWN] using hc
    subst hc2
    · exact (let ⟨_, X, G, cc, _⟩ := T.ex; He.cls_ok (cc.fact 76 (f := .cls "Shop") rfl))
  facts := let ⟨_, _, _, _, m⟩ := T.ex; (Bool.and_eq_true _ _ ▸ m : _ ∧ _).1
theorem eqok (T : Txt K mg) : eqFacts K OWN = true := let ⟨_, _, _, _, m⟩ := T.ex; (Bool.and_eq_true _ _ ▸ m : _ ∧ _).2
theorem fd__law_draw (T : Txt K mg) : ∃ fd, FunD K "_law_draw" "_law_draw" (defArgs st__law_draw) (defBody st__law_draw) (defScope st__law_draw) [] [] (He.fAd K ("_law_draw", none)) fd := let ⟨_, X, G, c, _⟩ := T.ex; c.def_ 0 (d := d__law_draw) rfl
theorem fd__law_pick (T : Txt K mg) : ∃ fd, FunD K "_law_pick" "_law_pick" (defArgs st__law_pick) (defBody st__law_pick) (defScope st__law_pick) [] [] (He.fAd K ("_law_pick", none)) fd := let ⟨_, X, G, c, _⟩ := T.ex; c.def_ 1 (d := d__law_pick) rfl
theorem fd__law_drawn_rods (T : Txt K mg) : ∃ fd, FunD K "_law_drawn_rods" "_law_drawn_rods" (defArgs st__law_drawn_rods) (defBody st__law_drawn_rods) (defScope st__law_drawn_rods) [] [] (He.fAd K ("_law_drawn_rods", none)) fd := let ⟨_, X, G, c, _⟩ := T.ex; c.def_ 2 (d := d__law_drawn_rods) rfl
theorem fd__law_name (T : Txt K mg) : ∃ fd, FunD K "_law_name" "_law_name" (defArgs st__law_name) (defBody st__law_name) (defScope st__law_name) [] [] (He.fAd K ("_law_name", none)) fd := let ⟨_, X, G, c, _⟩ := T.ex; c.def_ 3 (d := d__law_name) rfl
theorem fd__law_names (T : Txt K mg) : ∃ fd, FunD K "_law_names" "_law_names" (defArgs st__law_names) (defBody st__law_names) (defScope st__law_names) [] [] (He.fAd K ("_law_names", none)) fd := let ⟨_, X, G, c, _⟩ := T.ex; c.def_ 4 (d := d__law_names) rfl
theorem fd__law_few_shop (T : Txt K mg) : ∃ fd, FunD K "_law_few_shop" "_law_few_shop" (defArgs st__law_few_shop) (defBody st__law_few_shop) (defScope st__law_few_shop) [] [] (He.fAd K ("_law_few_shop", none)) fd := let ⟨_, X, G, c, _⟩ := T.ex; c.def_ 5 (d := d__law_few_shop) rfl
theorem fd__law_size (T : Txt K mg) : ∃ fd, FunD K "_law_size" "_law_size" (defArgs st__law_size) (defBody st__law_size) (defScope st__law_size) [] [] (He.fAd K ("_law_size", none)) fd := let ⟨_, X, G, c, _⟩ := T.ex; c.def_ 6 (d := d__law_size) rfl
theorem fd__law_gives (T : Txt K mg) : ∃ fd, FunD K "_law_gives" "_law_gives" (defArgs st__law_gives) (defBody st__law_gives) (defScope st__law_gives) [] [] (He.fAd K ("_law_gives", none)) fd := let ⟨_, X, G, c, _⟩ := T.ex; c.def_ 7 (d := d__law_gives) rfl
theorem fd__law_minus (T : Txt K mg) : ∃ fd, FunD K "_law_minus" "_law_minus" (defArgs st__law_minus) (defBody st__law_minus) (defScope st__law_minus) [] [] (He.fAd K ("_law_minus", none)) fd := let ⟨_, X, G, c, _⟩ := T.ex; c.def_ 8 (d := d__law_minus) rfl
theorem fd__law_rows_below (T : Txt K mg) : ∃ fd, FunD K "_law_rows_below" "_law_rows_below" (defArgs st__law_rows_below) (defBody st__law_rows_below) (defScope st__law_rows_below) [] [] (He.fAd K ("_law_rows_below", none)) fd := let ⟨_, X, G, c, _⟩ := T.ex; c.def_ 9 (d := d__law_rows_below) rfl
theorem fd__law_wanted (T : Txt K mg) : ∃ fd, FunD K "_law_wanted" "_law_wanted" (defArgs st__law_wanted) (defBody st__law_wanted) (defScope st__law_wanted) [] [] (He.fAd K ("_law_wanted", none)) fd := let ⟨_, X, G, c, _⟩ := T.ex; c.def_ 10 (d := d__law_wanted) rfl
theorem fd__law_least_yield (T : Txt K mg) : ∃ fd, FunD K "_law_least_yield" "_law_least_yield" (defArgs st__law_least_yield) (defBody st__law_least_yield) (defScope st__law_least_yield) [] [] (He.fAd K ("_law_least_yield", none)) fd := let ⟨_, X, G, c, _⟩ := T.ex; c.def_ 11 (d := d__law_least_yield) rfl
theorem fd_is_whole (T : Txt K mg) : ∃ fd, FunD K "is_whole" "is_whole" (defArgs st_is_whole) (defBody st_is_whole) (defScope st_is_whole) [] [] (He.fAd K ("is_whole", none)) fd := let ⟨_, X, G, c, _⟩ := T.ex; c.def_ 12 (d := d_is_whole) rfl
theorem fd_is_number (T : Txt K mg) : ∃ fd, FunD K "is_number" "is_number" (defArgs st_is_number) (defBody st_is_number) (defScope st_is_number) [] [] (He.fAd K ("is_number", none)) fd := let ⟨_, X, G, c, _⟩ := T.ex; c.def_ 13 (d := d_is_number) rfl
theorem fd_is_length (T : Txt K mg) : ∃ fd, FunD K "is_length" "is_length" (defArgs st_is_length) (defBody st_is_length) (defScope st_is_length) [] [] (He.fAd K ("is_length", none)) fd := let ⟨_, X, G, c, _⟩ := T.ex; c.def_ 14 (d := d_is_length) rfl
theorem fd_need_length (T : Txt K mg) : ∃ fd, FunD K "need_length" "need_length" (defArgs st_need_length) (defBody st_need_length) (defScope st_need_length) [] [] (He.fAd K ("need_length", none)) fd := let ⟨_, X, G, c, _⟩ := T.ex; c.def_ 15 (d := d_need_length) rfl
theorem fd_is_name (T : Txt K mg) : ∃ fd, FunD K "is_name" "is_name" (defArgs st_is_name) (defBody st_is_name) (defScope st_is_name) [] [] (He.fAd K ("is_name", none)) fd := let ⟨_, X, G, c, _⟩ := T.ex; c.def_ 16 (d := d_is_name) rfl
theorem fd_need_new_name (T : Txt K mg) : ∃ fd, FunD K "need_new_name" "need_new_name" (defArgs st_need_new_name) (defBody st_need_new_name) (defScope st_need_new_name) [] [] (He.fAd K ("need_new_name", none)) fd := let ⟨_, X, G, c, _⟩ := T.ex; c.def_ 17 (d := d_need_new_name) rfl
theorem fd_need_pieces (T : Txt K mg) : ∃ fd, FunD K "need_pieces" "need_pieces" (defArgs st_need_pieces) (defBody st_need_pieces) (defScope st_need_pieces) [] [] (He.fAd K ("need_pieces", none)) fd := let ⟨_, X, G, c, _⟩ := T.ex; c.def_ 18 (d := d_need_pieces) rfl
theorem fd_need_stocks (T : Txt K mg) : ∃ fd, FunD K "need_stocks" "need_stocks" (defArgs st_need_stocks) (defBody st_need_stocks) (defScope st_need_stocks) [] [] (He.fAd K ("need_stocks", none)) fd := let ⟨_, X, G, c, _⟩ := T.ex; c.def_ 19 (d := d_need_stocks) rfl
theorem fd_Shop_init (T : Txt K mg) : ∃ fd, FunD K "__init__" "Shop.__init__" (defArgs st_Shop_init) (defBody st_Shop_init) (defScope st_Shop_init) [] [] (He.fAd K ("Shop", some "__init__")) fd := let ⟨_, X, G, c, _⟩ := T.ex; c.def_ 20 (d := d_Shop_init) rfl
theorem fd__law_made (T : Txt K mg) : ∃ fd, FunD K "_law_made" "_law_made" (defArgs st__law_made) (defBody st__law_made) (defScope st__law_made) [] [] (He.fAd K ("_law_made", none)) fd := let ⟨_, X, G, c, _⟩ := T.ex; c.def_ 21 (d := d__law_made) rfl
theorem fd__law_pen (T : Txt K mg) : ∃ fd, FunD K "_law_pen" "_law_pen" (defArgs st__law_pen) (defBody st__law_pen) (defScope st__law_pen) [] [] (He.fAd K ("_law_pen", none)) fd := let ⟨_, X, G, c, _⟩ := T.ex; c.def_ 22 (d := d__law_pen) rfl
theorem fd__law_shuffled (T : Txt K mg) : ∃ fd, FunD K "_law_shuffled" "_law_shuffled" (defArgs st__law_shuffled) (defBody st__law_shuffled) (defScope st__law_shuffled) [] [] (He.fAd K ("_law_shuffled", none)) fd := let ⟨_, X, G, c, _⟩ := T.ex; c.def_ 23 (d := d__law_shuffled) rfl
theorem fd__law_measured (T : Txt K mg) : ∃ fd, FunD K "_law_measured" "_law_measured" (defArgs st__law_measured) (defBody st__law_measured) (defScope st__law_measured) [] [] (He.fAd K ("_law_measured", none)) fd := let ⟨_, X, G, c, _⟩ := T.ex; c.def_ 24 (d := d__law_measured) rfl
theorem fd__law_tells (T : Txt K mg) : ∃ fd, FunD K "_law_tells" "_law_tells" (defArgs st__law_tells) (defBody st__law_tells) (defScope st__law_tells) [] [] (He.fAd K ("_law_tells", none)) fd := let ⟨_, X, G, c, _⟩ := T.ex; c.def_ 25 (d := d__law_tells) rfl
theorem fd_need_lengths (T : Txt K mg) : ∃ fd, FunD K "need_lengths" "need_lengths" (defArgs st_need_lengths) (defBody st_need_lengths) (defScope st_need_lengths) [] [] (He.fAd K ("need_lengths", none)) fd := let ⟨_, X, G, c, _⟩ := T.ex; c.def_ 26 (d := d_need_lengths) rfl
theorem fd_is_rod (T : Txt K mg) : ∃ fd, FunD K "is_rod" "is_rod" (defArgs st_is_rod) (defBody st_is_rod) (defScope st_is_rod) [] [] (He.fAd K ("is_rod", none)) fd := let ⟨_, X, G, c, _⟩ := T.ex; c.def_ 27 (d := d_is_rod) rfl
theorem fd_need_rods (T : Txt K mg) : ∃ fd, FunD K "need_rods" "need_rods" (defArgs st_need_rods) (defBody st_need_rods) (defScope st_need_rods) [] [] (He.fAd K ("need_rods", none)) fd := let ⟨_, X, G, c, _⟩ := T.ex; c.def_ 28 (d := d_need_rods) rfl
theorem fd_need_both (T : Txt K mg) : ∃ fd, FunD K "need_both" "need_both" (defArgs st_need_both) (defBody st_need_both) (defScope st_need_both) [] [] (He.fAd K ("need_both", none)) fd := let ⟨_, X, G, c, _⟩ := T.ex; c.def_ 29 (d := d_need_both) rfl
theorem fd_all_lots (T : Txt K mg) : ∃ fd, FunD K "all_lots" "all_lots" (defArgs st_all_lots) (defBody st_all_lots) (defScope st_all_lots) [] [] (He.fAd K ("all_lots", none)) fd := let ⟨_, X, G, c, _⟩ := T.ex; c.def_ 30 (d := d_all_lots) rfl
theorem fd_lies_in (T : Txt K mg) : ∃ fd, FunD K "lies_in" "lies_in" (defArgs st_lies_in) (defBody st_lies_in) (defScope st_lies_in) [] [] (He.fAd K ("lies_in", none)) fd := let ⟨_, X, G, c, _⟩ := T.ex; c.def_ 31 (d := d_lies_in) rfl
theorem fd_mixed (T : Txt K mg) : ∃ fd, FunD K "mixed" "mixed" (defArgs st_mixed) (defBody st_mixed) (defScope st_mixed) [] [] (He.fAd K ("mixed", none)) fd := let ⟨_, X, G, c, _⟩ := T.ex; c.def_ 32 (d := d_mixed) rfl
theorem fd_less_of (T : Txt K mg) : ∃ fd, FunD K "less_of" "less_of" (defArgs st_less_of) (defBody st_less_of) (defScope st_less_of) [] [] (He.fAd K ("less_of", none)) fd := let ⟨_, X, G, c, _⟩ := T.ex; c.def_ 33 (d := d_less_of) rfl
theorem fd_width_by (T : Txt K mg) : ∃ fd, FunD K "width_by" "width_by" (defArgs st_width_by) (defBody st_width_by) (defScope st_width_by) [] [] (He.fAd K ("width_by", none)) fd := let ⟨_, X, G, c, _⟩ := T.ex; c.def_ 34 (d := d_width_by) rfl
theorem fd_rows_for (T : Txt K mg) : ∃ fd, FunD K "rows_for" "rows_for" (defArgs st_rows_for) (defBody st_rows_for) (defScope st_rows_for) [] [] (He.fAd K ("rows_for", none)) fd := let ⟨_, X, G, c, _⟩ := T.ex; c.def_ 35 (d := d_rows_for) rfl
theorem fd_wanted_row (T : Txt K mg) : ∃ fd, FunD K "wanted_row" "wanted_row" (defArgs st_wanted_row) (defBody st_wanted_row) (defScope st_wanted_row) [] [] (He.fAd K ("wanted_row", none)) fd := let ⟨_, X, G, c, _⟩ := T.ex; c.def_ 36 (d := d_wanted_row) rfl
theorem fd_yield_by (T : Txt K mg) : ∃ fd, FunD K "yield_by" "yield_by" (defArgs st_yield_by) (defBody st_yield_by) (defScope st_yield_by) [] [] (He.fAd K ("yield_by", none)) fd := let ⟨_, X, G, c, _⟩ := T.ex; c.def_ 37 (d := d_yield_by) rfl
theorem fd_paper_by (T : Txt K mg) : ∃ fd, FunD K "paper_by" "paper_by" (defArgs st_paper_by) (defBody st_paper_by) (defScope st_paper_by) [] [] (He.fAd K ("paper_by", none)) fd := let ⟨_, X, G, c, _⟩ := T.ex; c.def_ 38 (d := d_paper_by) rfl
theorem fd_sorted_papers (T : Txt K mg) : ∃ fd, FunD K "sorted_papers" "sorted_papers" (defArgs st_sorted_papers) (defBody st_sorted_papers) (defScope st_sorted_papers) [] [] (He.fAd K ("sorted_papers", none)) fd := let ⟨_, X, G, c, _⟩ := T.ex; c.def_ 39 (d := d_sorted_papers) rfl
theorem fd_least_by (T : Txt K mg) : ∃ fd, FunD K "least_by" "least_by" (defArgs st_least_by) (defBody st_least_by) (defScope st_least_by) [] [] (He.fAd K ("least_by", none)) fd := let ⟨_, X, G, c, _⟩ := T.ex; c.def_ 40 (d := d_least_by) rfl
theorem fd_fewest_measured (T : Txt K mg) : ∃ fd, FunD K "fewest_measured" "fewest_measured" (defArgs st_fewest_measured) (defBody st_fewest_measured) (defScope st_fewest_measured) [] [] (He.fAd K ("fewest_measured", none)) fd := let ⟨_, X, G, c, _⟩ := T.ex; c.def_ 41 (d := d_fewest_measured) rfl
theorem fd_outlook (T : Txt K mg) : ∃ fd, FunD K "outlook" "outlook" (defArgs st_outlook) (defBody st_outlook) (defScope st_outlook) [] [] (He.fAd K ("outlook", none)) fd := let ⟨_, X, G, c, _⟩ := T.ex; c.def_ 42 (d := d_outlook) rfl
theorem fd_is_index (T : Txt K mg) : ∃ fd, FunD K "is_index" "is_index" (defArgs st_is_index) (defBody st_is_index) (defScope st_is_index) [] [] (He.fAd K ("is_index", none)) fd := let ⟨_, X, G, c, _⟩ := T.ex; c.def_ 43 (d := d_is_index) rfl
theorem fd_is_row_lot (T : Txt K mg) : ∃ fd, FunD K "is_row_lot" "is_row_lot" (defArgs st_is_row_lot) (defBody st_is_row_lot) (defScope st_is_row_lot) [] [] (He.fAd K ("is_row_lot", none)) fd := let ⟨_, X, G, c, _⟩ := T.ex; c.def_ 44 (d := d_is_row_lot) rfl
theorem fd_need_rod_lot (T : Txt K mg) : ∃ fd, FunD K "need_rod_lot" "need_rod_lot" (defArgs st_need_rod_lot) (defBody st_need_rod_lot) (defScope st_need_rod_lot) [] [] (He.fAd K ("need_rod_lot", none)) fd := let ⟨_, X, G, c, _⟩ := T.ex; c.def_ 45 (d := d_need_rod_lot) rfl
theorem fd_tells (T : Txt K mg) : ∃ fd, FunD K "tells" "tells" (defArgs st_tells) (defBody st_tells) (defScope st_tells) [] [] (He.fAd K ("tells", none)) fd := let ⟨_, X, G, c, _⟩ := T.ex; c.def_ 46 (d := d_tells) rfl
theorem fd_index_in (T : Txt K mg) : ∃ fd, FunD K "index_in" "index_in" (defArgs st_index_in) (defBody st_index_in) (defScope st_index_in) [] [] (He.fAd K ("index_in", none)) fd := let ⟨_, X, G, c, _⟩ := T.ex; c.def_ 47 (d := d_index_in) rfl
theorem fd_piece_index (T : Txt K mg) : ∃ fd, FunD K "piece_index" "piece_index" (defArgs st_piece_index) (defBody st_piece_index) (defScope st_piece_index) [] [] (He.fAd K ("piece_index", none)) fd := let ⟨_, X, G, c, _⟩ := T.ex; c.def_ 48 (d := d_piece_index) rfl
theorem fd_with_row (T : Txt K mg) : ∃ fd, FunD K "with_row" "with_row" (defArgs st_with_row) (defBody st_with_row) (defScope st_with_row) [] [] (He.fAd K ("with_row", none)) fd := let ⟨_, X, G, c, _⟩ := T.ex; c.def_ 49 (d := d_with_row) rfl
theorem fd_with_wanted (T : Txt K mg) : ∃ fd, FunD K "with_wanted" "with_wanted" (defArgs st_with_wanted) (defBody st_with_wanted) (defScope st_with_wanted) [] [] (He.fAd K ("with_wanted", none)) fd := let ⟨_, X, G, c, _⟩ := T.ex; c.def_ 50 (d := d_with_wanted) rfl
theorem fd_yield_of (T : Txt K mg) : ∃ fd, FunD K "yield_of" "yield_of" (defArgs st_yield_of) (defBody st_yield_of) (defScope st_yield_of) [] [] (He.fAd K ("yield_of", none)) fd := let ⟨_, X, G, c, _⟩ := T.ex; c.def_ 51 (d := d_yield_of) rfl
theorem fd_law (T : Txt K mg) : ∃ fd, FunD K "law" "law" (defArgs st_law) (defBody st_law) (defScope st_law) [] [] (He.fAd K ("law", none)) fd := let ⟨_, X, G, c, _⟩ := T.ex; c.def_ 52 (d := d_law) rfl
end
end K80
namespace K80
open PySem PySem.Spec PyProof.Rows L2 Ev
section
variable {P : Program} {w : World} {K : PySem.W.Frag} {mg : Str → Option Value} {base : Heap}
abbrev n__law_draw : List Str := ["pen", "many", "cell", "digit", "blend"]
theorem sc__law_draw : FnScope n__law_draw ["pen", "many"] (defScope st__law_draw) := ⟨rfl, rfl, rfl, by decide +kernel, rfl, by decide +kernel, by decide +kernel⟩
theorem gf__law_draw (T : Txt K mg) : GF P w K mg base 1 "_law_draw" 2 m__law_draw := by
  obtain ⟨fd, F⟩ := fd__law_draw T
  refine gf_of (b := b__law_draw) (n := 2) (N := n__law_draw) F (g__law_draw T) sc__law_draw rfl (by decide) (fun _ _ _ _ _ _ us hl => match us, hl with | [_, _], _ => rfl) fun cdv A outer s H E hr => ?_
  exact (simb_cons (own1 := []) (sim_put hr (sim_var (pv 0) (by decide)) sim_str (v_add (SimE.r (sim_get hr (sim_var (pv 0) (by decide)) sim_str)) (SimE.r sim_int)))
    (simb_cons (own1 := []) (sim_ifS (SimW.t (sim_andW (sim_cmpT (op_eqD hr.units) op2_eq (SimE.r (sim_get hr (sim_var (pv 0) (by decide)) sim_str)) (SimE.r sim_int) (nomark _)) (sim_and1 (sim_cmpT op_lt (op2_i2 _) (SimE.r (sim_get hr (sim_var (pv 0) (by decide)) sim_str)) (SimE.r (v_len (z_len T) (SimE.r (sim_get hr (sim_var (pv 0) (by decide)) sim_str)))) (nomark _))))) (simb_cons (own1 := []) (sim_set sc__law_draw.nd rfl (by first | exact .inl rfl | exact .inr rfl) (sim_ix (SimE.r (sim_get hr (sim_var (pv 0) (by decide)) sim_str)) (SimE.r (sim_get hr (sim_var (pv 0) (by decide)) sim_str)) (fun _ _ => rfl)))
    (simb_cons (own1 := []) (sim_put hr (sim_var (pv 0) (by decide)) sim_str (v_add (SimE.r (sim_get hr (sim_var (pv 0) (by decide)) sim_str)) (SimE.r sim_int)))
    (simb_one (sim_ifS (sim_cmpT op_ge (op2_i2 _) (SimE.r (sim_var (pv 2) (by decide))) (SimE.r (v_pow (SimE.r sim_int) (SimE.r sim_int))) (nomark _)) (simb_one (sim_put hr (sim_var (pv 0) (by decide)) sim_str (v_sub (SimE.r (sim_var (pv 2) (by decide))) (SimE.r (v_pow (SimE.r sim_int) (SimE.r sim_int)))))) (simb_one (sim_put hr (sim_var (pv 0) (by decide)) sim_str (v_mod (SimE.r (v_int (z_int T) (SimE.r (v_add (SimE.r (v_mul (SimE.r (sim_get hr (sim_var (pv 0) (by decide)) sim_str)) (SimE.r sim_int))) (SimE.r (sim_var (pv 2) (by decide))))))) (SimE.r sim_int)))))))) simb_nil)
    (simb_cons (own1 := []) (sim_ifS (sim_cmpT op_gt (op2_i2 _) (SimE.r (sim_get hr (sim_var (pv 0) (by decide)) sim_str)) (SimE.r sim_int) (nomark _)) (simb_cons (own1 := []) (sim_set sc__law_draw.nd rfl (by first | exact .inl rfl | exact .inr rfl) (v_mod (SimE.r (v_int (z_int T) (SimE.r (sim_get hr (sim_var (pv 0) (by decide)) sim_str)))) (SimE.r (sim_var (pv 1) (by decide)))))
    (simb_cons (own1 := []) (sim_put hr (sim_var (pv 0) (by decide)) sim_str (v_fdiv (SimE.r (sim_get hr (sim_var (pv 0) (by decide)) sim_str)) (SimE.r (sim_var (pv 1) (by decide)))))
    (simb_one (sim_ret (sim_var (pv 3) (by decide)))))) simb_nil)
    (simb_cons (own1 := []) (sim_set sc__law_draw.nd rfl (by first | exact .inl rfl | exact .inr rfl) (v_mod (SimE.r (v_int (z_int T) (SimE.r (v_add (SimE.r (v_add (SimE.r (v_mul (SimE.r (sim_get hr (sim_var (pv 0) (by decide)) sim_str)) (SimE.r sim_int))) (SimE.r (v_mul (SimE.r (sim_get hr (sim_var (pv 0) (by decide)) sim_str)) (SimE.r sim_int))))) (SimE.r sim_int))))) (SimE.r sim_int)))
    (simb_cons (own1 := []) (sim_set sc__law_draw.nd rfl (by first | exact .inl rfl | exact .inr rfl) (v_mod (SimE.r (v_int (z_int T) (SimE.r (v_add (SimE.r (v_add (SimE.r (v_mul (SimE.r (sim_var (pv 4) (by decide))) (SimE.r (sim_var (pv 4) (by decide))))) (SimE.r (v_mul (SimE.r sim_int) (SimE.r (sim_var (pv 4) (by decide))))))) (SimE.r (sim_get hr (sim_var (pv 0) (by decide)) sim_str)))))) (SimE.r sim_int)))
    (simb_cons (own1 := []) (sim_put hr (sim_var (pv 0) (by decide)) sim_str (v_mod (SimE.r (v_int (z_int T) (SimE.r (v_add (SimE.r (v_mul (SimE.r (sim_var (pv 4) (by decide))) (SimE.r sim_int))) (SimE.r sim_int))))) (SimE.r sim_int)))
    (simb_one (sim_ret (v_mod (SimE.r (v_int (z_int T) (SimE.r (v_fdiv (SimE.r (sim_var (pv 4) (by decide))) (SimE.r sim_int))))) (SimE.r (sim_var (pv 1) (by decide))))))))))))
abbrev n__law_pick : List Str := ["pen", "some"]
theorem sc__law_pick : FnScope n__law_pick ["pen", "some"] (defScope st__law_pick) := ⟨rfl, rfl, rfl, by decide +kernel, rfl, by decide +kernel, by decide +kernel⟩
theorem gf__law_pick (T : Txt K mg) : GF P w K mg base 2 "_law_pick" 2 m__law_pick := by
  obtain ⟨fd, F⟩ := fd__law_pick T
  refine gf_of (b := b__law_pick) (n := 2) (N := n__law_pick) F (g__law_pick T) sc__law_pick rfl (by decide) (fun _ _ _ _ _ _ us hl => match us, hl with | [_, _], _ => rfl) fun cdv A outer s H E hr => ?_
  exact (simb_one (sim_ret (sim_ix (SimE.r (sim_var (pv 1) (by decide))) (SimE.r (sim_call (gf__law_draw T) (hr.mono (by decide)) (by rfl) (sima_cons (sim_var (pv 0) (by decide)) (sima_cons (v_len (z_len T) (SimE.r (sim_var (pv 1) (by decide)))) sima_nil)))) (fun _ _ => rfl))))
abbrev n__law_drawn_rods : List Str := ["pen", "most", "rods", "lengths", "lap", "low", "high"]
theorem sc__law_drawn_rods : FnScope n__law_drawn_rods ["pen", "most"] (defScope st__law_drawn_rods) := ⟨rfl, rfl, rfl, by decide +kernel, rfl, by decide +kernel, by decide +kernel⟩
theorem gf__law_drawn_rods (T : Txt K mg) : GF P w K mg base 3 "_law_drawn_rods" 2 m__law_drawn_rods := by
  obtain ⟨fd, F⟩ := fd__law_drawn_rods T
  refine gf_of (b := b__law_drawn_rods) (n := 2) (N := n__law_drawn_rods) F (g__law_drawn_rods T) sc__law_drawn_rods rfl (by decide) (fun _ _ _ _ _ _ us hl => match us, hl with | [_, _], _ => rfl) fun cdv A outer s H E hr => ?_
  exact (simb_cons (own1 := [3, 2]) (sim_par2 (fun h => ps_par rfl sc__law_drawn_rods.nd rfl rfl (by decide) rfl rfl h (by with_unfolding_all rfl)) rfl rfl (SimF.xx (sim_lst sima_nil)) (SimF.xx (sim_lst sima_nil)))
    (simb_cons (own1 := [3, 2]) (sim_for (ownT := [3, 2]) PassesOwn.never rfl (simi_range1 (by rfl) (z_range T) (sima_cons (v_add (SimE.r sim_int) (SimE.r (sim_call (gf__law_draw T) (hr.mono (by decide)) (by rfl) (sima_cons (sim_var (pv 0) (by decide)) (sima_cons (sim_var (pv 1) (by decide)) sima_nil))))) sima_nil)) (simg_name sc__law_drawn_rods.nd rfl (by first | exact .inl rfl | exact .inr rfl)) (simb_cons (own1 := [3, 2]) (sim_set sc__law_drawn_rods.nd rfl (by first | exact .inl rfl | exact .inr rfl) (v_add (SimE.r sim_int) (SimE.r (sim_call (gf__law_draw T) (hr.mono (by decide)) (by rfl) (sima_cons (sim_var (pv 0) (by decide)) (sima_cons sim_int sima_nil))))))
    (simb_cons (own1 := [3, 2]) (sim_set sc__law_drawn_rods.nd rfl (by first | exact .inl rfl | exact .inr rfl) (v_add (SimE.r (sim_var (pv 5) (by decide))) (SimE.r (sim_call (gf__law_pick T) (hr.mono (by decide)) (by rfl) (sima_cons (sim_var (pv 0) (by decide)) (sima_cons (SimF.ee (sim_lst (sima_cons sim_int (sima_cons sim_int (sima_cons sim_int (sima_cons sim_int sima_nil)))))) sima_nil))))))
    (simb_cons (own1 := [3, 2]) (sim_dropM (simm_1 (by decide) (fun h => pe_bm PySem.F.plainAttrs_list PySem.F.slot_list_append PySem.F.type_list_append mt_append (pv 2) (pa_cons h pa_nil)) opm_append (SimE.m (sim_tup (sima_cons (sim_var (pv 5) (by decide)) (sima_cons (sim_var (pv 6) (by decide)) sima_nil))))))
    (simb_one (sim_dropM (simm_1 (by decide) (fun h => pe_bm PySem.F.plainAttrs_list PySem.F.slot_list_append PySem.F.type_list_append mt_append (pv 3) (pa_cons h pa_nil)) opm_append (SimE.m (v_add (SimE.r (sim_var (pv 5) (by decide))) (SimE.r (sim_call (gf__law_draw T) (hr.mono (by decide)) (by rfl) (sima_cons (sim_var (pv 0) (by decide)) (sima_cons (v_add (SimE.r (v_sub (SimE.r (sim_var (pv 6) (by decide))) (SimE.r (sim_var (pv 5) (by decide))))) (SimE.r sim_int)) sima_nil)))))))))))))
    (simb_one (sim_ret (sim_tup (sima_cons (v_tup (z_tuple T) (sim_varR (pv 2))) (sima_cons (v_tup (z_tuple T) (sim_varR (pv 3))) sima_nil)))))))
abbrev n__law_name : List Str := ["pen", "letters", "signs", "long", "lap"]
theorem sc__law_name : FnScope n__law_name ["pen"] (defScope st__law_name) := ⟨rfl, rfl, rfl, by decide +kernel, rfl, by decide +kernel, by decide +kernel⟩
theorem gf__law_name (T : Txt K mg) : GF P w K mg base 3 "_law_name" 1 m__law_name := by
  obtain ⟨fd, F⟩ := fd__law_name T
  refine gf_of (b := b__law_name) (n := 1) (N := n__law_name) F (g__law_name T) sc__law_name rfl (by decide) (fun _ _ _ _ _ _ us hl => match us, hl with | [_], _ => rfl) fun cdv A outer s H E hr => ?_
  exact (simb_cons (own1 := []) (sim_tpar2 rfl sc__law_name.nd rfl (by first | exact .inl rfl | exact .inr rfl) rfl (by first | exact .inl rfl | exact .inr rfl) (SimE.x sim_str) (SimE.x sim_str))
    (simb_cons (own1 := []) (sim_set sc__law_name.nd rfl (by first | exact .inl rfl | exact .inr rfl) (sim_ix (SimF.rr (sim_lst (sima_cons sim_int (sima_cons sim_int (sima_cons sim_int (sima_cons sim_int (sima_cons sim_int (sima_cons sim_int sima_nil)))))))) (SimE.r (sim_call (gf__law_draw T) (hr.mono (by decide)) (by rfl) (sima_cons (sim_var (pv 0) (by decide)) (sima_cons sim_int sima_nil)))) (fun _ _ => rfl)))
    (simb_one (sim_ret (v_add (SimE.r (sim_call (gf__law_pick T) (hr.mono (by decide)) (by rfl) (sima_cons (sim_var (pv 0) (by decide)) (sima_cons (sim_var (pv 1) (by decide)) sima_nil)))) (SimE.r (v_join (SimE.r sim_str) (SimF.rr (simf_comp (ownc := [("lap", 4)]) rfl sc__law_name.nd (own' := []) (simi_range1 (by rfl) (z_range T) (sima_cons (sim_var (pv 3) (by decide)) sima_nil)) (blkOk_by (own := [("lap", 4)]) (N := n__law_name) (sc := defScope st__law_name) (by decide +kernel)) (fun _ _ _ _ _ => (simg_name sc__law_name.nd rfl (by first | exact .inl rfl | exact .inr rfl))) (fun _ _ _ _ _ => simts_nil) (fun _ _ _ _ _ => (sim_call (gf__law_pick T) (hr.mono (by decide)) (by rfl) (sima_cons (sim_var (pv 0) (by decide)) (sima_cons (sim_var (pv 2) (by decide)) sima_nil)))))))))))))
abbrev n__law_names : List Str := ["pen", "many", "found", "lap", "name"]
theorem sc__law_names : FnScope n__law_names ["pen", "many"] (defScope st__law_names) := ⟨rfl, rfl, rfl, by decide +kernel, rfl, by decide +kernel, by decide +kernel⟩
theorem gf__law_names (T : Txt K mg) : GF P w K mg base 4 "_law_names" 2 m__law_names := by
  obtain ⟨fd, F⟩ := fd__law_names T
  refine gf_of (b := b__law_names) (n := 2) (N := n__law_names) F (g__law_names T) sc__law_names rfl (by decide) (fun _ _ _ _ _ _ us hl => match us, hl with | [_, _], _ => rfl) fun cdv A outer s H E hr => ?_
  exact (simb_cons (own1 := [2]) (sim_setF sc__law_names.nd rfl (by first | exact .inl rfl | exact .inr rfl) (sim_lst sima_nil) IsL.l)
    (simb_cons (own1 := [2]) (sim_for (ownT := [2]) PassesOwn.never rfl (simi_range1 (by rfl) (z_range T) (sima_cons (sim_var (pv 1) (by decide)) sima_nil)) (simg_name sc__law_names.nd rfl (by first | exact .inl rfl | exact .inr rfl)) (simb_cons (own1 := [2]) (sim_set sc__law_names.nd rfl (by first | exact .inl rfl | exact .inr rfl) (sim_call (gf__law_name T) (hr.mono (by decide)) (by rfl) (sima_cons (sim_var (pv 0) (by decide)) sima_nil)))
    (simb_cons (own1 := [2]) (sim_ifS (sim_cmpT (opr_inA hr) (op2_inA _ op2_in) (SimE.r (sim_var (pv 4) (by decide))) (sim_varR (pv 2)) (by rfl)) (simb_one (sim_set sc__law_names.nd rfl (by first | exact .inl rfl | exact .inr rfl) (v_add (SimE.r (v_add (SimE.r sim_str) (SimE.r (v_str (z_str T) (SimE.r (sim_var (pv 3) (by decide))))))) (SimE.r sim_str)))) simb_nil)
    (simb_cons (own1 := [2]) (sim_while PassesOwn.never (sim_cmpT (opr_inA hr) (op2_inA _ op2_in) (SimE.r (sim_var (pv 4) (by decide))) (sim_varR (pv 2)) (by rfl)) (simb_one (sim_set sc__law_names.nd rfl (by first | exact .inl rfl | exact .inr rfl) (v_add (SimE.r (sim_var (pv 4) (by decide))) (SimE.r sim_str)))))
    (simb_one (sim_dropM (simm_1 (by decide) (fun h => pe_bm PySem.F.plainAttrs_list PySem.F.slot_list_append PySem.F.type_list_append mt_append (pv 2) (pa_cons h pa_nil)) opm_append (SimE.m (sim_var (pv 4) (by decide))))))))))
    (simb_one (sim_ret (v_tup (z_tuple T) (sim_varR (pv 2)))))))
abbrev n__law_few_shop : List Str := ["pen", "stocks", "pieces", "names", "kerf", "bars", "some", "at"]
theorem sc__law_few_shop : FnScope n__law_few_shop ["pen", "stocks", "pieces"] (defScope st__law_few_shop) := ⟨rfl, rfl, rfl, by decide +kernel, rfl, by decide +kernel, by decide +kernel⟩
theorem gf__law_few_shop (T : Txt K mg) : GF P w K mg base 5 "_law_few_shop" 3 m__law_few_shop := by
  obtain ⟨fd, F⟩ := fd__law_few_shop T
  refine gf_of (b := b__law_few_shop) (n := 3) (N := n__law_few_shop) F (g__law_few_shop T) sc__law_few_shop rfl (by decide) (fun _ _ _ _ _ _ us hl => match us, hl with | [_, _, _], _ => rfl) fun cdv A outer s H E hr => ?_
  exact (simb_cons (own1 := []) (sim_tpar2 rfl sc__law_few_shop.nd rfl (by first | exact .inl rfl | exact .inr rfl) rfl (by first | exact .inl rfl | exact .inr rfl) (SimE.x (sim_call (gf__law_names T) (hr.mono (by decide)) (by rfl) (sima_cons (sim_var (pv 0) (by decide)) (sima_cons (v_add (SimE.r (sim_var (pv 1) (by decide))) (SimE.r (sim_var (pv 2) (by decide)))) sima_nil)))) (SimE.x (sim_call (gf__law_pick T) (hr.mono (by decide)) (by rfl) (sima_cons (sim_var (pv 0) (by decide)) (sima_cons (SimF.ee (sim_lst (sima_cons sim_int (sima_cons sim_int (sima_cons sim_int (sima_cons sim_int sima_nil)))))) sima_nil)))))
    (simb_cons (own1 := [5]) (sim_setLc (own' := []) (ownc := [("at", 7)]) rfl sc__law_few_shop.nd rfl rfl (sw_true rfl rfl rfl (by decide +kernel)) (simi_range1 (by rfl) (z_range T) (sima_cons (v_add (SimE.r sim_int) (SimE.r (sim_call (gf__law_draw T) (hr.mono (by decide)) (by rfl) (sima_cons (sim_var (pv 0) (by decide)) (sima_cons (sim_var (pv 1) (by decide)) sima_nil))))) sima_nil)) (blkOk_by (own := [("at", 7)]) (N := n__law_few_shop) (sc := defScope st__law_few_shop) (by decide +kernel)) (fun _ _ _ _ _ => (simg_name sc__law_few_shop.nd rfl (by first | exact .inl rfl | exact .inr rfl))) (fun _ _ _ _ _ => simts_nil) (fun _ _ _ _ _ => (sim_tup (sima_cons (sim_ix (SimE.r (sim_var (pv 3) (by decide))) (SimE.r (sim_var (pv 7) (by decide))) (fun _ _ => rfl)) (sima_cons (v_add (SimE.r sim_int) (SimE.r (sim_call (gf__law_draw T) (hr.mono (by decide)) (by rfl) (sima_cons (sim_var (pv 0) (by decide)) (sima_cons sim_int sima_nil))))) (sima_cons (sim_call (gf__law_pick T) (hr.mono (by decide)) (by rfl) (sima_cons (sim_var (pv 0) (by decide)) (sima_cons (SimF.ee (sim_lst (sima_cons sim_non (sima_cons (sim_call (gf__law_draw T) (hr.mono (by decide)) (by rfl) (sima_cons (sim_var (pv 0) (by decide)) (sima_cons sim_int sima_nil))) sima_nil)))) sima_nil))) (sima_cons (sim_call (gf__law_draw T) (hr.mono (by decide)) (by rfl) (sima_cons (sim_var (pv 0) (by decide)) (sima_cons sim_int sima_nil))) sima_nil)))))))
    (simb_cons (own1 := [6, 5]) (sim_setLc (own' := [5]) (ownc := [("at", 7)]) rfl sc__law_few_shop.nd rfl rfl (sw_true rfl rfl rfl (by decide +kernel)) (simi_range1 (by rfl) (z_range T) (sima_cons (v_add (SimE.r sim_int) (SimE.r (sim_call (gf__law_draw T) (hr.mono (by decide)) (by rfl) (sima_cons (sim_var (pv 0) (by decide)) (sima_cons (sim_var (pv 2) (by decide)) sima_nil))))) sima_nil)) (blkOk_by (own := [("at", 7)]) (N := n__law_few_shop) (sc := defScope st__law_few_shop) (by decide +kernel)) (fun _ _ _ _ _ => (simg_name sc__law_few_shop.nd rfl (by first | exact .inl rfl | exact .inr rfl))) (fun _ _ _ _ _ => simts_nil) (fun _ _ _ _ _ => (sim_tup (sima_cons (sim_ix (SimE.r (sim_var (pv 3) (by decide))) (SimE.r (v_add (SimE.r (sim_var (pv 1) (by decide))) (SimE.r (sim_var (pv 7) (by decide))))) (fun _ _ => rfl)) (sima_cons (v_add (SimE.r sim_int) (SimE.r (sim_call (gf__law_draw T) (hr.mono (by decide)) (by rfl) (sima_cons (sim_var (pv 0) (by decide)) (sima_cons sim_int sima_nil))))) (sima_cons (sim_call (gf__law_draw T) (hr.mono (by decide)) (by rfl) (sima_cons (sim_var (pv 0) (by decide)) (sima_cons sim_int sima_nil))) sima_nil))))))
    (simb_one (sim_ret (sim_tup (sima_cons (v_tup (z_tuple T) (sim_varR (pv 5))) (sima_cons (v_tup (z_tuple T) (sim_varR (pv 6))) (sima_cons (sim_var (pv 4) (by decide)) sima_nil)))))))))
abbrev n__law_size : List Str := ["shop", "pattern", "number", "row"]
theorem sc__law_size : FnScope n__law_size ["shop", "pattern"] (defScope st__law_size) := ⟨rfl, rfl, rfl, by decide +kernel, rfl, by decide +kernel, by decide +kernel⟩
theorem gf__law_size (T : Txt K mg) : GF P w K mg base 1 "_law_size" 2 m__law_size := by
  obtain ⟨fd, F⟩ := fd__law_size T
  refine gf_of (b := b__law_size) (n := 2) (N := n__law_size) F (g__law_size T) sc__law_size rfl (by decide) (fun _ _ _ _ _ _ us hl => match us, hl with | [_, _], _ => rfl) fun cdv A outer s H E hr => ?_
  exact (simb_one (sim_ret (v_sumA (z_sum T) (SimF.rr (simf_comp (ownc := [("number", 2), ("row", 3)]) rfl sc__law_size.nd (own' := []) (simi_zip (fun h => RZ.pi_zipA (by rfl) (z_zip T) h) (sim_var (pv 1) (by decide)) (sim_ix (SimE.r (sim_var (pv 0) (by decide))) (SimE.r sim_int) (fun _ _ => rfl))) (blkOk_by (own := [("number", 2), ("row", 3)]) (N := n__law_size) (sc := defScope st__law_size) (by decide +kernel)) (fun _ _ _ _ _ => (simg_tup rfl (simgs_cons (simg_name sc__law_size.nd rfl (by first | exact .inl rfl | exact .inr rfl)) (simgs_cons (simg_name sc__law_size.nd rfl (by first | exact .inl rfl | exact .inr rfl)) simgs_nil)))) (fun _ _ _ _ _ => simts_nil) (fun _ _ _ _ _ => (v_mul (SimE.r (sim_var (pv 2) (by decide))) (SimE.r (v_add (SimE.r (sim_ix (SimE.r (sim_var (pv 3) (by decide))) (SimE.r sim_int) (fun _ _ => rfl))) (SimE.r (sim_ix (SimE.r (sim_var (pv 0) (by decide))) (SimE.r sim_int) (fun _ _ => rfl))))))))))))
abbrev n__law_gives : List Str := ["shop", "length", "pattern"]
theorem sc__law_gives : FnScope n__law_gives ["shop", "length", "pattern"] (defScope st__law_gives) := ⟨rfl, rfl, rfl, by decide +kernel, rfl, by decide +kernel, by decide +kernel⟩
theorem gf__law_gives (T : Txt K mg) : GF P w K mg base 2 "_law_gives" 3 m__law_gives := by
  obtain ⟨fd, F⟩ := fd__law_gives T
  refine gf_of (b := b__law_gives) (n := 3) (N := n__law_gives) F (g__law_gives T) sc__law_gives rfl (by decide) (fun _ _ _ _ _ _ us hl => match us, hl with | [_, _, _], _ => rfl) fun cdv A outer s H E hr => ?_
  exact (simb_one (sim_ret (sim_orV (sim_cmp (op_eqD hr.units) op2_eq (SimE.r (v_sumA (z_sum T) (SimE.r (sim_var (pv 2) (by decide))))) (SimE.r sim_int) (nomark _)) (sim_one (sim_cmp op_le (op2_i2 _) (SimE.r (sim_call (gf__law_size T) (hr.mono (by decide)) (by rfl) (sima_cons (sim_var (pv 0) (by decide)) (sima_cons (sim_var (pv 2) (by decide)) sima_nil)))) (SimE.r (v_add (SimE.r (sim_var (pv 1) (by decide))) (SimE.r (sim_ix (SimE.r (sim_var (pv 0) (by decide))) (SimE.r sim_int) (fun _ _ => rfl))))) (nomark _))))))
abbrev n__law_minus : List Str := ["one", "other", "first", "second"]
theorem sc__law_minus : FnScope n__law_minus ["one", "other"] (defScope st__law_minus) := ⟨rfl, rfl, rfl, by decide +kernel, rfl, by decide +kernel, by decide +kernel⟩
theorem gf__law_minus (T : Txt K mg) : GF P w K mg base 1 "_law_minus" 2 m__law_minus := by
  obtain ⟨fd, F⟩ := fd__law_minus T
  refine gf_of (b := b__law_minus) (n := 2) (N := n__law_minus) F (g__law_minus T) sc__law_minus rfl (by decide) (fun _ _ _ _ _ _ us hl => match us, hl with | [_, _], _ => rfl) fun cdv A outer s H E hr => ?_
  exact (simb_one (sim_ret (v_tup (z_tuple T) (SimF.rr (simf_comp (ownc := [("first", 2), ("second", 3)]) rfl sc__law_minus.nd (own' := []) (simi_zip (fun h => RZ.pi_zipA (by rfl) (z_zip T) h) (sim_var (pv 0) (by decide)) (sim_var (pv 1) (by decide))) (blkOk_by (own := [("first", 2), ("second", 3)]) (N := n__law_minus) (sc := defScope st__law_minus) (by decide +kernel)) (fun _ _ _ _ _ => (simg_tup rfl (simgs_cons (simg_name sc__law_minus.nd rfl (by first | exact .inl rfl | exact .inr rfl)) (simgs_cons (simg_name sc__law_minus.nd rfl (by first | exact .inl rfl | exact .inr rfl)) simgs_nil)))) (fun _ _ _ _ _ => simts_nil) (fun _ _ _ _ _ => (v_sub (SimE.r (sim_var (pv 2) (by decide))) (SimE.r (sim_var (pv 3) (by decide))))))))))
abbrev n__law_rows_below : List Str := ["wanted", "rows", "most", "longer", "row", "number"]
theorem sc__law_rows_below : FnScope n__law_rows_below ["wanted"] (defScope st__law_rows_below) := ⟨rfl, rfl, rfl, by decide +kernel, rfl, by decide +kernel, by decide +kernel⟩
theorem gf__law_rows_below (T : Txt K mg) : GF P w K mg base 1 "_law_rows_below" 1 m__law_rows_below := by
  obtain ⟨fd, F⟩ := fd__law_rows_below T
  refine gf_of (b := b__law_rows_below) (n := 1) (N := n__law_rows_below) F (g__law_rows_below T) sc__law_rows_below rfl (by decide) (fun _ _ _ _ _ _ us hl => match us, hl with | [_], _ => rfl) fun cdv A outer s H E hr => ?_
  exact (simb_cons (own1 := [1]) (sim_setF sc__law_rows_below.nd rfl (by first | exact .inl rfl | exact .inr rfl) (sim_lst (sima_cons (sim_tup sima_nil) sima_nil)) IsL.l)
    (simb_cons (own1 := []) (sim_pre (own1 := []) (sim_for (ownT := []) PassesOwn.never rfl (simi_seq (sim_var (pv 0) (by decide))) (simg_name sc__law_rows_below.nd rfl (by first | exact .inl rfl | exact .inr rfl)) (simb_cons (own1 := [3]) (sim_setF sc__law_rows_below.nd rfl (by first | exact .inl rfl | exact .inr rfl) (sim_lst sima_nil) IsL.l)
    (simb_cons (own1 := [3]) (sim_for (ownT := [3]) PassesOwn.never rfl (simi_seq (sim_var (pv 1) (by decide))) (simg_name sc__law_rows_below.nd rfl (by first | exact .inl rfl | exact .inr rfl)) (simb_one (sim_dropM (simm_1 (by decide) (fun h => pe_bm PySem.F.plainAttrs_list PySem.F.slot_list_extend PySem.F.type_list_extend mt_extend (pv 3) (pa_cons h pa_nil)) opm_extend (SimE.m (SimF.ee (simf_comp (ownc := [("number", 5)]) rfl sc__law_rows_below.nd (own' := [3]) (simi_range1 (by rfl) (z_range T) (sima_cons (v_add (SimE.r (sim_var (pv 2) (by decide))) (SimE.r sim_int)) sima_nil)) (blkOk_by (own := [("number", 5)]) (N := n__law_rows_below) (sc := defScope st__law_rows_below) (by decide +kernel)) (fun _ _ _ _ _ => (simg_name sc__law_rows_below.nd rfl (by first | exact .inl rfl | exact .inr rfl))) (fun _ _ _ _ _ => simts_nil) (fun _ _ _ _ _ => (v_add (SimE.r (sim_var (pv 4) (by decide))) (SimE.r (sim_tup (sima_cons (sim_var (pv 5) (by decide)) sima_nil))))))))))))
    (simb_one (sim_pre (own1 := []) (sim_set sc__law_rows_below.nd rfl (by first | exact .inl rfl | exact .inr rfl) (sim_var (pv 3) (by decide)))))))))
    (simb_one (sim_ret (sim_var (pv 1) (by decide))))))
abbrev n__law_wanted : List Str := ["shop", "row"]
theorem sc__law_wanted : FnScope n__law_wanted ["shop"] (defScope st__law_wanted) := ⟨rfl, rfl, rfl, by decide +kernel, rfl, by decide +kernel, by decide +kernel⟩
theorem gf__law_wanted (T : Txt K mg) : GF P w K mg base 1 "_law_wanted" 1 m__law_wanted := by
  obtain ⟨fd, F⟩ := fd__law_wanted T
  refine gf_of (b := b__law_wanted) (n := 1) (N := n__law_wanted) F (g__law_wanted T) sc__law_wanted rfl (by decide) (fun _ _ _ _ _ _ us hl => match us, hl with | [_], _ => rfl) fun cdv A outer s H E hr => ?_
  exact (simb_one (sim_ret (v_tup (z_tuple T) (SimF.rr (simf_comp (ownc := [("row", 1)]) rfl sc__law_wanted.nd (own' := []) (simi_seq (sim_ix (SimE.r (sim_var (pv 0) (by decide))) (SimE.r sim_int) (fun _ _ => rfl))) (blkOk_by (own := [("row", 1)]) (N := n__law_wanted) (sc := defScope st__law_wanted) (by decide +kernel)) (fun _ _ _ _ _ => (simg_name sc__law_wanted.nd rfl (by first | exact .inl rfl | exact .inr rfl))) (fun _ _ _ _ _ => simts_nil) (fun _ _ _ _ _ => (sim_ix (SimE.r (sim_var (pv 1) (by decide))) (SimE.r sim_int) (fun _ _ => rfl))))))))
abbrev n__law_least_yield : List Str := ["shop", "lengths", "ways", "length", "later", "left", "row", "behind", "way"]
theorem sc__law_least_yield : FnScope n__law_least_yield ["shop", "lengths"] (defScope st__law_least_yield) := ⟨rfl, rfl, rfl, by decide +kernel, rfl, by decide +kernel, by decide +kernel⟩
theorem gf__law_least_yield (T : Txt K mg) : GF P w K mg base 3 "_law_least_yield" 2 m__law_least_yield := by
  obtain ⟨fd, F⟩ := fd__law_least_yield T
  refine gf_of (b := b__law_least_yield) (n := 2) (N := n__law_least_yield) F (g__law_least_yield T) sc__law_least_yield rfl (by decide) (fun _ _ _ _ _ _ us hl => match us, hl with | [_, _], _ => rfl) fun cdv A outer s H E hr => ?_
  exact (simb_cons (own1 := []) (sim_set sc__law_least_yield.nd rfl (by first | exact .inl rfl | exact .inr rfl) (sim_dictT1 hr (sim_call (gf__law_wanted T) (hr.mono (by decide)) (by rfl) (sima_cons (sim_var (pv 0) (by decide)) sima_nil)) (sim_tup sima_nil)))
    (simb_cons (own1 := []) (sim_for (ownT := []) PassesOwn.never rfl (simi_seq (sim_var (pv 1) (by decide))) (simg_name sc__law_least_yield.nd rfl (by first | exact .inl rfl | exact .inr rfl)) (simb_cons (own1 := []) (sim_set sc__law_least_yield.nd rfl (by first | exact .inl rfl | exact .inr rfl) sim_dictT0)
    (simb_cons (own1 := []) (sim_for (ownT := []) PassesOwn.never rfl (simi_seq (SimF.ee (f_sortedS hr (z_sorted T) (SimE.r (sim_var (pv 2) (by decide)))))) (simg_name sc__law_least_yield.nd rfl (by first | exact .inl rfl | exact .inr rfl)) (simb_one (sim_for (ownT := []) PassesOwn.never rfl (simi_seq (sim_call (gf__law_rows_below T) (hr.mono (by decide)) (by rfl) (sima_cons (sim_var (pv 5) (by decide)) sima_nil))) (simg_name sc__law_least_yield.nd rfl (by first | exact .inl rfl | exact .inr rfl)) (simb_one (sim_ifS (sim_truth (SimE.r (sim_call (gf__law_gives T) (hr.mono (by decide)) (by rfl) (sima_cons (sim_var (pv 0) (by decide)) (sima_cons (sim_var (pv 3) (by decide)) (sima_cons (sim_var (pv 6) (by decide)) sima_nil)))))) (simb_cons (own1 := []) (sim_par2 (fun h => ps_par rfl sc__law_least_yield.nd rfl rfl (by decide) rfl rfl h (by with_unfolding_all rfl)) rfl rfl (SimE.x (sim_call (gf__law_minus T) (hr.mono (by decide)) (by rfl) (sima_cons (sim_var (pv 5) (by decide)) (sima_cons (sim_var (pv 6) (by decide)) sima_nil)))) (SimE.x (v_add (SimE.r (sim_ixA hr (SimE.r (sim_var (pv 2) (by decide))) (SimE.r (sim_var (pv 5) (by decide))) (fun _ _ => rfl))) (SimE.r (sim_tup (sima_cons (sim_var (pv 6) (by decide)) sima_nil))))))
    (simb_one (sim_put hr (sim_var (pv 4) (by decide)) (sim_var (pv 7) (by decide)) (v_minA hr (z_min T) (SimE.r (sim_get2 hr (sim_var (pv 4) (by decide)) (sim_var (pv 7) (by decide)) (sim_var (pv 8) (by decide)))) (SimE.r (sim_var (pv 8) (by decide))))))) simb_nil)))))
    (simb_one (sim_set sc__law_least_yield.nd rfl (by first | exact .inl rfl | exact .inr rfl) (sim_var (pv 4) (by decide)))))))
    (simb_one (sim_ret (sim_get2 hr (sim_var (pv 2) (by decide)) (v_mul (SimE.r (sim_tup (sima_cons sim_int sima_nil))) (SimE.r (v_len (z_len T) (SimE.r (sim_ix (SimE.r (sim_var (pv 0) (by decide))) (SimE.r sim_int) (fun _ _ => rfl)))))) sim_non)))))
abbrev n_is_whole : List Str := ["value"]
theorem sc_is_whole : FnScope n_is_whole ["value"] (defScope st_is_whole) := ⟨rfl, rfl, rfl, by decide +kernel, rfl, by decide +kernel, by decide +kernel⟩
theorem gf_is_whole (T : Txt K mg) : GF P w K mg base 1 "is_whole" 1 m_is_whole := by
  obtain ⟨fd, F⟩ := fd_is_whole T
  refine gf_of (b := b_is_whole) (n := 1) (N := n_is_whole) F (g_is_whole T) sc_is_whole rfl (by decide) (fun _ _ _ _ _ _ us hl => match us, hl with | [_], _ => rfl) fun cdv A outer s H E hr => ?_
  exact (simb_one (sim_ret (sim_andV (sim_isi (n := "int") (by rfl) (z_isinstance T) (by rfl) (z_int T) boot_int (by decide) (SimE.r (sim_var (pv 0) (by decide)))) (sim_one (sim_notV (SimE.r (sim_isi (n := "bool") (by rfl) (z_isinstance T) (by rfl) (z_bool T) boot_bool (by decide) (SimE.r (sim_var (pv 0) (by decide))))))))))
abbrev n_is_number : List Str := ["value"]
theorem sc_is_number : FnScope n_is_number ["value"] (defScope st_is_number) := ⟨rfl, rfl, rfl, by decide +kernel, rfl, by decide +kernel, by decide +kernel⟩
theorem gf_is_number (T : Txt K mg) : GF P w K mg base 2 "is_number" 1 m_is_number := by
  obtain ⟨fd, F⟩ := fd_is_number T
  refine gf_of (b := b_is_number) (n := 1) (N := n_is_number) F (g_is_number T) sc_is_number rfl (by decide) (fun _ _ _ _ _ _ us hl => match us, hl with | [_], _ => rfl) fun cdv A outer s H E hr => ?_
  exact (simb_one (sim_ret (sim_andV (sim_call (gf_is_whole T) (hr.mono (by decide)) (by rfl) (sima_cons (sim_var (pv 0) (by decide)) sima_nil)) (sim_one (sim_cmp op_ge (op2_i2 _) (SimE.r (sim_var (pv 0) (by decide))) (SimE.r sim_int) (nomark _))))))
abbrev n_is_length : List Str := ["value"]
theorem sc_is_length : FnScope n_is_length ["value"] (defScope st_is_length) := ⟨rfl, rfl, rfl, by decide +kernel, rfl, by decide +kernel, by decide +kernel⟩
theorem gf_is_length (T : Txt K mg) : GF P w K mg base 2 "is_length" 1 m_is_length := by
  obtain ⟨fd, F⟩ := fd_is_length T
  refine gf_of (b := b_is_length) (n := 1) (N := n_is_length) F (g_is_length T) sc_is_length rfl (by decide) (fun _ _ _ _ _ _ us hl => match us, hl with | [_], _ => rfl) fun cdv A outer s H E hr => ?_
  exact (simb_one (sim_ret (sim_andV (sim_call (gf_is_whole T) (hr.mono (by decide)) (by rfl) (sima_cons (sim_var (pv 0) (by decide)) sima_nil)) (sim_one (sim_cmp op_ge (op2_i2 _) (SimE.r (sim_var (pv 0) (by decide))) (SimE.r sim_int) (nomark _))))))
abbrev n_need_length : List Str := ["length"]
theorem sc_need_length : FnScope n_need_length ["length"] (defScope st_need_length) := ⟨rfl, rfl, rfl, by decide +kernel, rfl, by decide +kernel, by decide +kernel⟩
theorem gf_need_length (T : Txt K mg) : GF P w K mg base 3 "need_length" 1 m_need_length := by
  obtain ⟨fd, F⟩ := fd_need_length T
  refine gf_of (b := b_need_length) (n := 1) (N := n_need_length) F (g_need_length T) sc_need_length rfl (by decide) (fun _ _ _ _ _ _ us hl => match us, hl with | [_], _ => rfl) fun cdv A outer s H E hr => ?_
  exact (simb_one (sim_ifS (sim_notT (sim_truth (SimE.r (sim_call (gf_is_length T) (hr.mono (by decide)) (by rfl) (sima_cons (sim_var (pv 0) (by decide)) sima_nil))))) (simb_one sim_never) simb_nil))
abbrev n_is_name : List Str := ["value", "sign"]
theorem sc_is_name : FnScope n_is_name ["value"] (defScope st_is_name) := ⟨rfl, rfl, rfl, by decide +kernel, rfl, by decide +kernel, by decide +kernel⟩
theorem gf_is_name (T : Txt K mg) : GF P w K mg base 1 "is_name" 1 m_is_name := by
  obtain ⟨fd, F⟩ := fd_is_name T
  refine gf_of (b := b_is_name) (n := 1) (N := n_is_name) F (g_is_name T) sc_is_name rfl (by decide) (fun _ _ _ _ _ _ us hl => match us, hl with | [_], _ => rfl) fun cdv A outer s H E hr => ?_
  exact (simb_cons (own1 := []) (sim_ifS (SimW.t (sim_orW (sim_notT (sim_truth (SimE.r (sim_isi (n := "str") (by rfl) (z_isinstance T) (by rfl) (z_str T) boot_str (by decide) (SimE.r (sim_var (pv 0) (by decide))))))) (sim_orW (sim_notT (sim_chainT op_le op_le (op2_i2 _) (op2_i2 _) (SimE.r sim_int) (SimE.r (v_len (z_len T) (SimE.r (sim_var (pv 0) (by decide))))) (SimE.r sim_int))) (sim_or1 (sim_cmpT (opr_notInA hr) (op2_notInA _ op2_notIn) (SimE.r (sim_ix (SimE.r (sim_var (pv 0) (by decide))) (SimE.r sim_int) (fun _ _ => rfl))) (SimE.r (sim_gstr (by rfl) (z_LETTERS T))) (by rfl)))))) (simb_one (sim_ret sim_bl)) simb_nil)
    (simb_one (sim_ret (v_all (z_all T) (SimF.rr (simf_comp (ownc := [("sign", 1)]) rfl sc_is_name.nd (own' := []) (simi_seq (sim_var (pv 0) (by decide))) (blkOk_by (own := [("sign", 1)]) (N := n_is_name) (sc := defScope st_is_name) (by decide +kernel)) (fun _ _ _ _ _ => (simg_name sc_is_name.nd rfl (by first | exact .inl rfl | exact .inr rfl))) (fun _ _ _ _ _ => simts_nil) (fun _ _ _ _ _ => (sim_cmp (opr_inA hr) (op2_inA _ op2_in) (SimE.r (sim_var (pv 1) (by decide))) (SimE.r (sim_gstr (by rfl) (z_SIGNS T))) (by rfl)))))))))
abbrev n_need_new_name : List Str := ["name", "ahead"]
theorem sc_need_new_name : FnScope n_need_new_name ["name", "ahead"] (defScope st_need_new_name) := ⟨rfl, rfl, rfl, by decide +kernel, rfl, by decide +kernel, by decide +kernel⟩
theorem gf_need_new_name (T : Txt K mg) : GF P w K mg base 2 "need_new_name" 2 m_need_new_name := by
  obtain ⟨fd, F⟩ := fd_need_new_name T
  refine gf_of (b := b_need_new_name) (n := 2) (N := n_need_new_name) F (g_need_new_name T) sc_need_new_name rfl (by decide) (fun _ _ _ _ _ _ us hl => match us, hl with | [_, _], _ => rfl) fun cdv A outer s H E hr => ?_
  exact (simb_cons (own1 := []) (sim_ifS (sim_notT (sim_truth (SimE.r (sim_call (gf_is_name T) (hr.mono (by decide)) (by rfl) (sima_cons (sim_var (pv 0) (by decide)) sima_nil))))) (simb_one sim_never) simb_nil)
    (simb_one (sim_ifS (sim_cmpT (opr_inA hr) (op2_inA _ op2_in) (SimE.r (sim_var (pv 0) (by decide))) (SimE.r (sim_var (pv 1) (by decide))) (by rfl)) (simb_one sim_never) simb_nil)))
abbrev n_need_pieces : List Str := ["pieces", "ahead", "row", "name", "length", "wanted"]
theorem sc_need_pieces : FnScope n_need_pieces ["pieces"] (defScope st_need_pieces) := ⟨rfl, rfl, rfl, by decide +kernel, rfl, by decide +kernel, by decide +kernel⟩
theorem gf_need_pieces (T : Txt K mg) : GF P w K mg base 4 "need_pieces" 1 m_need_pieces := by
  obtain ⟨fd, F⟩ := fd_need_pieces T
  refine gf_of (b := b_need_pieces) (n := 1) (N := n_need_pieces) F (g_need_pieces T) sc_need_pieces rfl (by decide) (fun _ _ _ _ _ _ us hl => match us, hl with | [_], _ => rfl) fun cdv A outer s H E hr => ?_
  exact (simb_cons (own1 := []) (sim_ifS (SimW.t (sim_orW (sim_notT (sim_truth (SimE.r (sim_isi2 (n := "list") (n2 := "tuple") (by rfl) (z_isinstance T) (by rfl) (z_list T) boot_list (by decide) (by rfl) (z_tuple T) boot_tuple (by decide) (SimE.r (sim_var (pv 0) (by decide))))))) (sim_or1 (sim_notT (sim_chainT op_le op_le (op2_i2 _) (op2_i2 _) (SimE.r sim_int) (SimE.r (v_len (z_len T) (SimE.r (sim_var (pv 0) (by decide))))) (SimE.r (sim_gint (by rfl) (z_MOST_PIECES T)))))))) (simb_one sim_never) simb_nil)
    (simb_cons (own1 := [1]) (sim_setF sc_need_pieces.nd rfl (by first | exact .inl rfl | exact .inr rfl) (sim_lst sima_nil) IsL.l)
    (simb_post (own1 := [1]) (simb_one (sim_for (ownT := [1]) PassesOwn.never rfl (simi_seq (sim_var (pv 0) (by decide))) (simg_name sc_need_pieces.nd rfl (by first | exact .inl rfl | exact .inr rfl)) (simb_cons (own1 := [1]) (sim_ifS (SimW.t (sim_orW (sim_notT (sim_truth (SimE.r (sim_isi (n := "tuple") (by rfl) (z_isinstance T) (by rfl) (z_tuple T) boot_tuple (by decide) (SimE.r (sim_var (pv 2) (by decide))))))) (sim_or1 (sim_cmpT (op_neD hr.units) op2_ne (SimE.r (v_len (z_len T) (SimE.r (sim_var (pv 2) (by decide))))) (SimE.r (v_add (SimE.r (sim_gint (by rfl) (z_MANY_AT T))) (SimE.r sim_int))) (nomark _))))) (simb_one sim_never) simb_nil)
    (simb_cons (own1 := [1]) (sim_asg (sim_var (pv 2) (by decide)) (simg_tup rfl (simgs_cons (simg_name sc_need_pieces.nd rfl (by first | exact .inl rfl | exact .inr rfl)) (simgs_cons (simg_name sc_need_pieces.nd rfl (by first | exact .inl rfl | exact .inr rfl)) (simgs_cons (simg_name sc_need_pieces.nd rfl (by first | exact .inl rfl | exact .inr rfl)) simgs_nil)))))
    (simb_cons (own1 := [1]) (sim_expr (sim_callL (gf_need_new_name T) (hr.mono (by decide)) (by rfl) (simr_cons (SimE.r (sim_var (pv 3) (by decide))) (simr_cons (sim_varR (pv 1)) simr_nil))))
    (simb_cons (own1 := [1]) (sim_expr (sim_call (gf_need_length T) (hr.mono (by decide)) (by rfl) (sima_cons (sim_var (pv 4) (by decide)) sima_nil)))
    (simb_cons (own1 := [1]) (sim_ifS (sim_notT (sim_truth (SimE.r (sim_call (gf_is_number T) (hr.mono (by decide)) (by rfl) (sima_cons (sim_var (pv 5) (by decide)) sima_nil))))) (simb_one sim_never) simb_nil)
    (simb_one (sim_dropM (simm_1 (by decide) (fun h => pe_bm PySem.F.plainAttrs_list PySem.F.slot_list_append PySem.F.type_list_append mt_append (pv 1) (pa_cons h pa_nil)) opm_append (SimE.m (sim_var (pv 3) (by decide))))))))))))))))
abbrev n_need_stocks : List Str := ["stocks", "ahead", "row", "name", "length", "many", "price"]
theorem sc_need_stocks : FnScope n_need_stocks ["stocks"] (defScope st_need_stocks) := ⟨rfl, rfl, rfl, by decide +kernel, rfl, by decide +kernel, by decide +kernel⟩
theorem gf_need_stocks (T : Txt K mg) : GF P w K mg base 4 "need_stocks" 1 m_need_stocks := by
  obtain ⟨fd, F⟩ := fd_need_stocks T
  refine gf_of (b := b_need_stocks) (n := 1) (N := n_need_stocks) F (g_need_stocks T) sc_need_stocks rfl (by decide) (fun _ _ _ _ _ _ us hl => match us, hl with | [_], _ => rfl) fun cdv A outer s H E hr => ?_
  exact (simb_cons (own1 := []) (sim_ifS (SimW.t (sim_orW (sim_notT (sim_truth (SimE.r (sim_isi2 (n := "list") (n2 := "tuple") (by rfl) (z_isinstance T) (by rfl) (z_list T) boot_list (by decide) (by rfl) (z_tuple T) boot_tuple (by decide) (SimE.r (sim_var (pv 0) (by decide))))))) (sim_or1 (sim_notT (sim_chainT op_le op_le (op2_i2 _) (op2_i2 _) (SimE.r sim_int) (SimE.r (v_len (z_len T) (SimE.r (sim_var (pv 0) (by decide))))) (SimE.r (sim_gint (by rfl) (z_MOST_STOCKS T)))))))) (simb_one sim_never) simb_nil)
    (simb_cons (own1 := [1]) (sim_setF sc_need_stocks.nd rfl (by first | exact .inl rfl | exact .inr rfl) (sim_lst sima_nil) IsL.l)
    (simb_post (own1 := [1]) (simb_one (sim_for (ownT := [1]) PassesOwn.never rfl (simi_seq (sim_var (pv 0) (by decide))) (simg_name sc_need_stocks.nd rfl (by first | exact .inl rfl | exact .inr rfl)) (simb_cons (own1 := [1]) (sim_ifS (SimW.t (sim_orW (sim_notT (sim_truth (SimE.r (sim_isi (n := "tuple") (by rfl) (z_isinstance T) (by rfl) (z_tuple T) boot_tuple (by decide) (SimE.r (sim_var (pv 2) (by decide))))))) (sim_or1 (sim_cmpT (op_neD hr.units) op2_ne (SimE.r (v_len (z_len T) (SimE.r (sim_var (pv 2) (by decide))))) (SimE.r (v_add (SimE.r (sim_gint (by rfl) (z_PRICE_AT T))) (SimE.r sim_int))) (nomark _))))) (simb_one sim_never) simb_nil)
    (simb_cons (own1 := [1]) (sim_asg (sim_var (pv 2) (by decide)) (simg_tup rfl (simgs_cons (simg_name sc_need_stocks.nd rfl (by first | exact .inl rfl | exact .inr rfl)) (simgs_cons (simg_name sc_need_stocks.nd rfl (by first | exact .inl rfl | exact .inr rfl)) (simgs_cons (simg_name sc_need_stocks.nd rfl (by first | exact .inl rfl | exact .inr rfl)) (simgs_cons (simg_name sc_need_stocks.nd rfl (by first | exact .inl rfl | exact .inr rfl)) simgs_nil))))))
    (simb_cons (own1 := [1]) (sim_expr (sim_callL (gf_need_new_name T) (hr.mono (by decide)) (by rfl) (simr_cons (SimE.r (sim_var (pv 3) (by decide))) (simr_cons (sim_varR (pv 1)) simr_nil))))
    (simb_cons (own1 := [1]) (sim_expr (sim_call (gf_need_length T) (hr.mono (by decide)) (by rfl) (sima_cons (sim_var (pv 4) (by decide)) sima_nil)))
    (simb_cons (own1 := [1]) (sim_ifS (SimW.t (sim_andW (sim_cmpT op_notN op2_notN (SimE.r (sim_var (pv 5) (by decide))) (SimE.r sim_non) (nomark _)) (sim_and1 (sim_notT (sim_truth (SimE.r (sim_call (gf_is_number T) (hr.mono (by decide)) (by rfl) (sima_cons (sim_var (pv 5) (by decide)) sima_nil)))))))) (simb_one sim_never) simb_nil)
    (simb_cons (own1 := [1]) (sim_ifS (sim_notT (sim_truth (SimE.r (sim_call (gf_is_number T) (hr.mono (by decide)) (by rfl) (sima_cons (sim_var (pv 6) (by decide)) sima_nil))))) (simb_one sim_never) simb_nil)
    (simb_one (sim_dropM (simm_1 (by decide) (fun h => pe_bm PySem.F.plainAttrs_list PySem.F.slot_list_append PySem.F.type_list_append mt_append (pv 1) (pa_cons h pa_nil)) opm_append (SimE.m (sim_var (pv 3) (by decide)))))))))))))))))
abbrev n_Shop_init : List Str := ["self", "stocks", "pieces", "kerf"]
theorem sc_Shop_init : FnScope n_Shop_init ["self", "stocks", "pieces", "kerf"] (defScope st_Shop_init) := ⟨rfl, rfl, rfl, by decide +kernel, rfl, by decide +kernel, by decide +kernel⟩
theorem gi_Shop (T : Txt K mg) : GI P w K mg base 5 "Shop" 3 m_Shop_init := by
  obtain ⟨fd, F⟩ := fd_Shop_init T
  refine gi_of (b := b_Shop_init) (n := 3) (N := n_Shop_init) F (g_Shop T) (mk_Shop T) sc_Shop_init rfl (by decide) (fun _ _ _ _ _ _ us hl => match us, hl with | [_, _, _, _], _ => rfl) fun cdv A outer s H E hr => ?_
  exact (simb_cons (own1 := [0]) (sim_expr (sim_call (gf_need_stocks T) (hr.mono (by decide)) (by rfl) (sima_cons (sim_var (pv 1) (by decide)) sima_nil)))
    (simb_cons (own1 := [0]) (sim_expr (sim_call (gf_need_pieces T) (hr.mono (by decide)) (by rfl) (sima_cons (sim_var (pv 2) (by decide)) sima_nil)))
    (simb_cons (own1 := [0]) (sim_ifS (sim_notT (sim_truth (SimE.r (sim_call (gf_is_number T) (hr.mono (by decide)) (by rfl) (sima_cons (sim_var (pv 3) (by decide)) sima_nil))))) (simb_one sim_never) simb_nil)
    (simb_cons (own1 := [0]) (sim_fld (by decide) (pv 0) (v_tup (z_tuple T) (SimE.r (sim_var (pv 1) (by decide)))) (ato_stocks T))
    (simb_cons (own1 := [0]) (sim_fld (by decide) (pv 0) (v_tup (z_tuple T) (SimE.r (sim_var (pv 2) (by decide)))) (ato_pieces T))
    (simb_one (sim_fld (by decide) (pv 0) (sim_var (pv 3) (by decide)) (ato_kerf T))))))))
abbrev n__law_made : List Str := ["shop"]
theorem sc__law_made : FnScope n__law_made ["shop"] (defScope st__law_made) := ⟨rfl, rfl, rfl, by decide +kernel, rfl, by decide +kernel, by decide +kernel⟩
theorem gf__law_made (T : Txt K mg) : GF P w K mg base 7 "_law_made" 1 m__law_made := by
  obtain ⟨fd, F⟩ := fd__law_made T
  refine gf_of (b := b__law_made) (n := 1) (N := n__law_made) F (g__law_made T) sc__law_made rfl (by decide) (fun _ _ _ _ _ _ us hl => match us, hl with | [_], _ => rfl) fun cdv A outer s H E hr => ?_
  exact (simb_one (sim_ret (sim_make (gi_Shop T) (hr.mono (by decide)) (by rfl) (sima_cons (sim_ix (SimE.r (sim_var (pv 0) (by decide))) (SimE.r sim_int) (fun _ _ => rfl)) (sima_cons (sim_ix (SimE.r (sim_var (pv 0) (by decide))) (SimE.r sim_int) (fun _ _ => rfl)) (sima_cons (sim_ix (SimE.r (sim_var (pv 0) (by decide))) (SimE.r sim_int) (fun _ _ => rfl)) sima_nil))))))
abbrev n__law_pen : List Str := ["script", "fold", "cell"]
theorem sc__law_pen : FnScope n__law_pen ["script"] (defScope st__law_pen) := ⟨rfl, rfl, rfl, by decide +kernel, rfl, by decide +kernel, by decide +kernel⟩
theorem gf__law_pen (T : Txt K mg) : GF P w K mg base 1 "_law_pen" 1 m__law_pen := by
  obtain ⟨fd, F⟩ := fd__law_pen T
  refine gf_of (b := b__law_pen) (n := 1) (N := n__law_pen) F (g__law_pen T) sc__law_pen rfl (by decide) (fun _ _ _ _ _ _ us hl => match us, hl with | [_], _ => rfl) fun cdv A outer s H E hr => ?_
  exact (simb_cons (own1 := []) (sim_set sc__law_pen.nd rfl (by first | exact .inl rfl | exact .inr rfl) sim_int)
    (simb_cons (own1 := []) (sim_for (ownT := []) PassesOwn.never rfl (simi_seq (sim_var (pv 0) (by decide))) (simg_name sc__law_pen.nd rfl (by first | exact .inl rfl | exact .inr rfl)) (simb_one (sim_set sc__law_pen.nd rfl (by first | exact .inl rfl | exact .inr rfl) (v_mod (SimE.r (v_int (z_int T) (SimE.r (v_add (SimE.r (v_mul (SimE.r (sim_var (pv 1) (by decide))) (SimE.r sim_int))) (SimE.r (sim_var (pv 2) (by decide))))))) (SimE.r sim_int)))))
    (simb_one (sim_ret (sim_dict (simd_cons (SimF.ee (f_lst (z_list T) (SimE.r (sim_var (pv 0) (by decide))))) (simd_cons sim_int (simd_cons sim_int (simd_cons sim_int (simd_cons (sim_var (pv 1) (by decide)) simd_nil))))))))))
abbrev n__law_shuffled : List Str := ["pen", "some", "left", "found", "lap"]
theorem sc__law_shuffled : FnScope n__law_shuffled ["pen", "some"] (defScope st__law_shuffled) := ⟨rfl, rfl, rfl, by decide +kernel, rfl, by decide +kernel, by decide +kernel⟩
theorem gf__law_shuffled (T : Txt K mg) : GF P w K mg base 2 "_law_shuffled" 2 m__law_shuffled := by
  obtain ⟨fd, F⟩ := fd__law_shuffled T
  refine gf_of (b := b__law_shuffled) (n := 2) (N := n__law_shuffled) F (g__law_shuffled T) sc__law_shuffled rfl (by decide) (fun _ _ _ _ _ _ us hl => match us, hl with | [_, _], _ => rfl) fun cdv A outer s H E hr => ?_
  exact (simb_cons (own1 := [3, 2]) (sim_par2 (fun h => ps_par rfl sc__law_shuffled.nd rfl rfl (by decide) rfl rfl h (by with_unfolding_all rfl)) rfl rfl (SimF.xx (f_lst (z_list T) (SimE.r (sim_var (pv 1) (by decide))))) (SimF.xx (sim_lst sima_nil)))
    (simb_cons (own1 := [3, 2]) (sim_for (ownT := [3, 2]) PassesOwn.never rfl (simi_range1 (by rfl) (z_range T) (sima_cons (v_len (z_len T) (SimE.r (sim_var (pv 1) (by decide)))) sima_nil)) (simg_name sc__law_shuffled.nd rfl (by first | exact .inl rfl | exact .inr rfl)) (simb_one (sim_dropM (simm_1 (by decide) (fun h => pe_bm PySem.F.plainAttrs_list PySem.F.slot_list_append PySem.F.type_list_append mt_append (pv 3) (pa_cons h pa_nil)) opm_append (simm_1 (by decide) (fun h => pe_bm PySem.F.plainAttrs_list PySem.F.slot_list_pop PySem.F.type_list_pop mtr_pop (pv 2) (pa_cons h pa_nil)) opm_pop (SimE.m (sim_call (gf__law_draw T) (hr.mono (by decide)) (by rfl) (sima_cons (sim_var (pv 0) (by decide)) (sima_cons (v_len (z_len T) (sim_varR (pv 2))) sima_nil)))))))))
    (simb_one (sim_pre (own1 := [2]) (sim_ret (sim_var (pv 3) (by decide)))))))
abbrev n__law_measured : List Str := ["rods", "lengths", "lot", "side", "at"]
theorem sc__law_measured : FnScope n__law_measured ["rods", "lengths", "lot", "side"] (defScope st__law_measured) := ⟨rfl, rfl, rfl, by decide +kernel, rfl, by decide +kernel, by decide +kernel⟩
theorem gf__law_measured (T : Txt K mg) : GF P w K mg base 1 "_law_measured" 4 m__law_measured := by
  obtain ⟨fd, F⟩ := fd__law_measured T
  refine gf_of (b := b__law_measured) (n := 4) (N := n__law_measured) F (g__law_measured T) sc__law_measured rfl (by decide) (fun _ _ _ _ _ _ us hl => match us, hl with | [_, _, _, _], _ => rfl) fun cdv A outer s H E hr => ?_
  exact (simb_one (sim_ret (v_tup (z_tuple T) (SimF.rr (simf_comp (ownc := [("at", 4)]) rfl sc__law_measured.nd (own' := []) (simi_range1 (by rfl) (z_range T) (sima_cons (v_len (z_len T) (SimE.r (sim_var (pv 0) (by decide)))) sima_nil)) (blkOk_by (own := [("at", 4)]) (N := n__law_measured) (sc := defScope st__law_measured) (by decide +kernel)) (fun _ _ _ _ _ => (simg_name sc__law_measured.nd rfl (by first | exact .inl rfl | exact .inr rfl))) (fun _ _ _ _ _ => simts_nil) (fun _ _ _ _ _ => (sim_if (sim_cmpT (opr_inA hr) (op2_inA _ op2_in) (SimE.r (sim_var (pv 4) (by decide))) (SimE.r (sim_var (pv 2) (by decide))) (by rfl)) (sim_ix (SimE.r (sim_var (pv 1) (by decide))) (SimE.r (sim_var (pv 4) (by decide))) (fun _ _ => rfl)) (sim_ix (SimE.r (sim_ix (SimE.r (sim_var (pv 0) (by decide))) (SimE.r (sim_var (pv 4) (by decide))) (fun _ _ => rfl))) (SimE.r (sim_var (pv 3) (by decide))) (fun _ _ => rfl)))))))))
abbrev n__law_tells : List Str := ["shop", "rods", "lengths", "lot"]
theorem sc__law_tells : FnScope n__law_tells ["shop", "rods", "lengths", "lot"] (defScope st__law_tells) := ⟨rfl, rfl, rfl, by decide +kernel, rfl, by decide +kernel, by decide +kernel⟩
theorem gf__law_tells (T : Txt K mg) : GF P w K mg base 4 "_law_tells" 4 m__law_tells := by
  obtain ⟨fd, F⟩ := fd__law_tells T
  refine gf_of (b := b__law_tells) (n := 4) (N := n__law_tells) F (g__law_tells T) sc__law_tells rfl (by decide) (fun _ _ _ _ _ _ us hl => match us, hl with | [_, _, _, _], _ => rfl) fun cdv A outer s H E hr => ?_
  exact (simb_cons (own1 := []) (sim_ifS (sim_cmpT op_notN op2_notN (SimE.r (sim_callD (gf__law_least_yield T) (hr.mono (by decide)) (by rfl) (sima_cons (sim_var (pv 0) (by decide)) (sima_cons (sim_var (pv 2) (by decide)) sima_nil)))) (SimE.r sim_non) (nomark _)) (simb_one (sim_ret (sim_cmp op_notN op2_notN (SimE.r (sim_callD (gf__law_least_yield T) (hr.mono (by decide)) (by rfl) (sima_cons (sim_var (pv 0) (by decide)) (sima_cons (sim_call (gf__law_measured T) (hr.mono (by decide)) (by rfl) (sima_cons (sim_var (pv 1) (by decide)) (sima_cons (sim_var (pv 2) (by decide)) (sima_cons (sim_var (pv 3) (by decide)) (sima_cons sim_int sima_nil))))) sima_nil)))) (SimE.r sim_non) (nomark _)))) simb_nil)
    (simb_one (sim_ret (sim_cmp op_isN op2_isN (SimE.r (sim_callD (gf__law_least_yield T) (hr.mono (by decide)) (by rfl) (sima_cons (sim_var (pv 0) (by decide)) (sima_cons (sim_call (gf__law_measured T) (hr.mono (by decide)) (by rfl) (sima_cons (sim_var (pv 1) (by decide)) (sima_cons (sim_var (pv 2) (by decide)) (sima_cons (sim_var (pv 3) (by decide)) (sima_cons sim_int sima_nil))))) sima_nil)))) (SimE.r sim_non) (nomark _)))))
abbrev n_need_lengths : List Str := ["rods", "lengths", "rod", "one"]
theorem sc_need_lengths : FnScope n_need_lengths ["rods", "lengths"] (defScope st_need_lengths) := ⟨rfl, rfl, rfl, by decide +kernel, rfl, by decide +kernel, by decide +kernel⟩
theorem gf_need_lengths (T : Txt K mg) : GF P w K mg base 2 "need_lengths" 2 m_need_lengths := by
  obtain ⟨fd, F⟩ := fd_need_lengths T
  refine gf_of (b := b_need_lengths) (n := 2) (N := n_need_lengths) F (g_need_lengths T) sc_need_lengths rfl (by decide) (fun _ _ _ _ _ _ us hl => match us, hl with | [_, _], _ => rfl) fun cdv A outer s H E hr => ?_
  exact (simb_cons (own1 := []) (sim_ifS (SimW.t (sim_orW (sim_notT (sim_truth (SimE.r (sim_isi2 (n := "list") (n2 := "tuple") (by rfl) (z_isinstance T) (by rfl) (z_list T) boot_list (by decide) (by rfl) (z_tuple T) boot_tuple (by decide) (SimE.r (sim_var (pv 1) (by decide))))))) (sim_or1 (sim_cmpT (op_neD hr.units) op2_ne (SimE.r (v_len (z_len T) (SimE.r (sim_var (pv 1) (by decide))))) (SimE.r (v_len (z_len T) (SimE.r (sim_var (pv 0) (by decide))))) (nomark _))))) (simb_one sim_never) simb_nil)
    (simb_cons (own1 := []) (sim_ifS (sim_notT (sim_truth (SimE.r (v_all (z_all T) (SimF.rr (simf_comp (ownc := [("rod", 2), ("one", 3)]) rfl sc_need_lengths.nd (own' := []) (simi_zip (fun h => RZ.pi_zipA (by rfl) (z_zip T) h) (sim_var (pv 0) (by decide)) (sim_var (pv 1) (by decide))) (blkOk_by (own := [("rod", 2), ("one", 3)]) (N := n_need_lengths) (sc := defScope st_need_lengths) (by decide +kernel)) (fun _ _ _ _ _ => (simg_tup rfl (simgs_cons (simg_name sc_need_lengths.nd rfl (by first | exact .inl rfl | exact .inr rfl)) (simgs_cons (simg_name sc_need_lengths.nd rfl (by first | exact .inl rfl | exact .inr rfl)) simgs_nil)))) (fun _ _ _ _ _ => simts_nil) (fun _ _ _ _ _ => (sim_andV (sim_call (gf_is_whole T) (hr.mono (by decide)) (by rfl) (sima_cons (sim_var (pv 3) (by decide)) sima_nil)) (sim_one (sim_chain (opr_leA hr) (opr_leA hr) (op2_cmpA _ _) (op2_cmpA _ _) (SimE.r (sim_ix (SimE.r (sim_var (pv 2) (by decide))) (SimE.r sim_int) (fun _ _ => rfl))) (SimE.r (sim_var (pv 3) (by decide))) (SimE.r (sim_ix (SimE.r (sim_var (pv 2) (by decide))) (SimE.r sim_int) (fun _ _ => rfl))))))))))))) (simb_one sim_never) simb_nil)
    (simb_one (sim_ret (v_tup (z_tuple T) (SimE.r (sim_var (pv 1) (by decide))))))))
abbrev n_is_rod : List Str := ["value", "one"]
theorem sc_is_rod : FnScope n_is_rod ["value"] (defScope st_is_rod) := ⟨rfl, rfl, rfl, by decide +kernel, rfl, by decide +kernel, by decide +kernel⟩
theorem gf_is_rod (T : Txt K mg) : GF P w K mg base 2 "is_rod" 1 m_is_rod := by
  obtain ⟨fd, F⟩ := fd_is_rod T
  refine gf_of (b := b_is_rod) (n := 1) (N := n_is_rod) F (g_is_rod T) sc_is_rod rfl (by decide) (fun _ _ _ _ _ _ us hl => match us, hl with | [_], _ => rfl) fun cdv A outer s H E hr => ?_
  exact (simb_cons (own1 := []) (sim_ifS (SimW.t (sim_orW (sim_notT (sim_truth (SimE.r (sim_isi (n := "tuple") (by rfl) (z_isinstance T) (by rfl) (z_tuple T) boot_tuple (by decide) (SimE.r (sim_var (pv 0) (by decide))))))) (sim_orW (sim_cmpT (op_neD hr.units) op2_ne (SimE.r (v_len (z_len T) (SimE.r (sim_var (pv 0) (by decide))))) (SimE.r sim_int) (nomark _)) (sim_or1 (sim_notT (sim_truth (SimE.r (v_all (z_all T) (SimF.rr (simf_comp (ownc := [("one", 1)]) rfl sc_is_rod.nd (own' := []) (simi_seq (sim_var (pv 0) (by decide))) (blkOk_by (own := [("one", 1)]) (N := n_is_rod) (sc := defScope st_is_rod) (by decide +kernel)) (fun _ _ _ _ _ => (simg_name sc_is_rod.nd rfl (by first | exact .inl rfl | exact .inr rfl))) (fun _ _ _ _ _ => simts_nil) (fun _ _ _ _ _ => (sim_call (gf_is_whole T) (hr.mono (by decide)) (by rfl) (sima_cons (sim_var (pv 1) (by decide)) sima_nil))))))))))))) (simb_one (sim_ret sim_bl)) simb_nil)
    (simb_one (sim_ret (sim_chain op_le (opr_leA hr) (op2_i2 _) (op2_cmpA _ _) (SimE.r sim_int) (SimE.r (sim_ix (SimE.r (sim_var (pv 0) (by decide))) (SimE.r sim_int) (fun _ _ => rfl))) (SimE.r (sim_ix (SimE.r (sim_var (pv 0) (by decide))) (SimE.r sim_int) (fun _ _ => rfl)))))))
abbrev n_need_rods : List Str := ["rods", "rod"]
theorem sc_need_rods : FnScope n_need_rods ["rods"] (defScope st_need_rods) := ⟨rfl, rfl, rfl, by decide +kernel, rfl, by decide +kernel, by decide +kernel⟩
theorem gf_need_rods (T : Txt K mg) : GF P w K mg base 3 "need_rods" 1 m_need_rods := by
  obtain ⟨fd, F⟩ := fd_need_rods T
  refine gf_of (b := b_need_rods) (n := 1) (N := n_need_rods) F (g_need_rods T) sc_need_rods rfl (by decide) (fun _ _ _ _ _ _ us hl => match us, hl with | [_], _ => rfl) fun cdv A outer s H E hr => ?_
  exact (simb_cons (own1 := []) (sim_ifS (SimW.t (sim_orW (sim_notT (sim_truth (SimE.r (sim_isi2 (n := "list") (n2 := "tuple") (by rfl) (z_isinstance T) (by rfl) (z_list T) boot_list (by decide) (by rfl) (z_tuple T) boot_tuple (by decide) (SimE.r (sim_var (pv 0) (by decide))))))) (sim_orW (sim_notT (sim_chainT op_le op_le (op2_i2 _) (op2_i2 _) (SimE.r sim_int) (SimE.r (v_len (z_len T) (SimE.r (sim_var (pv 0) (by decide))))) (SimE.r (sim_gint (by rfl) (z_MOST_RODS T))))) (sim_or1 (sim_notT (sim_truth (SimE.r (v_all (z_all T) (SimF.rr (simf_comp (ownc := [("rod", 1)]) rfl sc_need_rods.nd (own' := []) (simi_seq (sim_var (pv 0) (by decide))) (blkOk_by (own := [("rod", 1)]) (N := n_need_rods) (sc := defScope st_need_rods) (by decide +kernel)) (fun _ _ _ _ _ => (simg_name sc_need_rods.nd rfl (by first | exact .inl rfl | exact .inr rfl))) (fun _ _ _ _ _ => simts_nil) (fun _ _ _ _ _ => (sim_call (gf_is_rod T) (hr.mono (by decide)) (by rfl) (sima_cons (sim_var (pv 1) (by decide)) sima_nil))))))))))))) (simb_one sim_never) simb_nil)
    (simb_one (sim_ret (v_tup (z_tuple T) (SimE.r (sim_var (pv 0) (by decide)))))))
abbrev n_need_both : List Str := ["rods", "lengths", "known"]
theorem sc_need_both : FnScope n_need_both ["rods", "lengths"] (defScope st_need_both) := ⟨rfl, rfl, rfl, by decide +kernel, rfl, by decide +kernel, by decide +kernel⟩
theorem gf_need_both (T : Txt K mg) : GF P w K mg base 4 "need_both" 2 m_need_both := by
  obtain ⟨fd, F⟩ := fd_need_both T
  refine gf_of (b := b_need_both) (n := 2) (N := n_need_both) F (g_need_both T) sc_need_both rfl (by decide) (fun _ _ _ _ _ _ us hl => match us, hl with | [_, _], _ => rfl) fun cdv A outer s H E hr => ?_
  exact (simb_cons (own1 := []) (sim_set sc_need_both.nd rfl (by first | exact .inl rfl | exact .inr rfl) (sim_call (gf_need_rods T) (hr.mono (by decide)) (by rfl) (sima_cons (sim_var (pv 0) (by decide)) sima_nil)))
    (simb_one (sim_ret (sim_tup (sima_cons (sim_var (pv 2) (by decide)) (sima_cons (sim_call (gf_need_lengths T) (hr.mono (by decide)) (by rfl) (sima_cons (sim_var (pv 2) (by decide)) (sima_cons (sim_var (pv 1) (by decide)) sima_nil))) sima_nil))))))
abbrev n_all_lots : List Str := ["many", "lots", "index", "lot"]
theorem sc_all_lots : FnScope n_all_lots ["many"] (defScope st_all_lots) := ⟨rfl, rfl, rfl, by decide +kernel, rfl, by decide +kernel, by decide +kernel⟩
theorem gf_all_lots (T : Txt K mg) : GF P w K mg base 1 "all_lots" 1 m_all_lots := by
  obtain ⟨fd, F⟩ := fd_all_lots T
  refine gf_of (b := b_all_lots) (n := 1) (N := n_all_lots) F (g_all_lots T) sc_all_lots rfl (by decide) (fun _ _ _ _ _ _ us hl => match us, hl with | [_], _ => rfl) fun cdv A outer s H E hr => ?_
  exact (simb_cons (own1 := [1]) (sim_setF sc_all_lots.nd rfl (by first | exact .inl rfl | exact .inr rfl) (sim_lst (sima_cons (sim_tup sima_nil) sima_nil)) IsL.l)
    (simb_cons (own1 := [1]) (sim_for (ownT := [1]) PassesOwn.never rfl (simi_range1 (by rfl) (z_range T) (sima_cons (sim_var (pv 0) (by decide)) sima_nil)) (simg_name sc_all_lots.nd rfl (by first | exact .inl rfl | exact .inr rfl)) (simb_one (sim_pre (own1 := []) (sim_setF sc_all_lots.nd rfl (by first | exact .inl rfl | exact .inr rfl) (f_cat (SimE.r (sim_var (pv 1) (by decide))) (SimF.rr (simf_comp (ownc := [("lot", 3)]) rfl sc_all_lots.nd (own' := []) (simi_seq (sim_var (pv 1) (by decide))) (blkOk_by (own := [("lot", 3)]) (N := n_all_lots) (sc := defScope st_all_lots) (by decide +kernel)) (fun _ _ _ _ _ => (simg_name sc_all_lots.nd rfl (by first | exact .inl rfl | exact .inr rfl))) (fun _ _ _ _ _ => simts_nil) (fun _ _ _ _ _ => (sim_tup (sima_star (SimE.r (sim_var (pv 3) (by decide))) (sima_cons (sim_var (pv 2) (by decide)) sima_nil))))))) IsL.l))))
    (simb_one (sim_ret (SimF.ee (f_sortedH hr (z_sorted T) (sim_varR (pv 1))))))))
abbrev n_lies_in : List Str := ["one", "other", "item"]
theorem sc_lies_in : FnScope n_lies_in ["one", "other"] (defScope st_lies_in) := ⟨rfl, rfl, rfl, by decide +kernel, rfl, by decide +kernel, by decide +kernel⟩
theorem gf_lies_in (T : Txt K mg) : GF P w K mg base 1 "lies_in" 2 m_lies_in := by
  obtain ⟨fd, F⟩ := fd_lies_in T
  refine gf_of (b := b_lies_in) (n := 2) (N := n_lies_in) F (g_lies_in T) sc_lies_in rfl (by decide) (fun _ _ _ _ _ _ us hl => match us, hl with | [_, _], _ => rfl) fun cdv A outer s H E hr => ?_
  exact (simb_one (sim_ret (v_all (z_all T) (SimF.rr (simf_comp (ownc := [("item", 2)]) rfl sc_lies_in.nd (own' := []) (simi_seq (sim_var (pv 0) (by decide))) (blkOk_by (own := [("item", 2)]) (N := n_lies_in) (sc := defScope st_lies_in) (by decide +kernel)) (fun _ _ _ _ _ => (simg_name sc_lies_in.nd rfl (by first | exact .inl rfl | exact .inr rfl))) (fun _ _ _ _ _ => simts_nil) (fun _ _ _ _ _ => (sim_cmp (opr_inA hr) (op2_inA _ op2_in) (SimE.r (sim_var (pv 2) (by decide))) (SimE.r (sim_var (pv 1) (by decide))) (by rfl))))))))
abbrev n_mixed : List Str := ["rods", "lengths", "lot", "side", "at", "length"]
theorem sc_mixed : FnScope n_mixed ["rods", "lengths", "lot", "side"] (defScope st_mixed) := ⟨rfl, rfl, rfl, by decide +kernel, rfl, by decide +kernel, by decide +kernel⟩
theorem gf_mixed (T : Txt K mg) : GF P w K mg base 1 "mixed" 4 m_mixed := by
  obtain ⟨fd, F⟩ := fd_mixed T
  refine gf_of (b := b_mixed) (n := 4) (N := n_mixed) F (g_mixed T) sc_mixed rfl (by decide) (fun _ _ _ _ _ _ us hl => match us, hl with | [_, _, _, _], _ => rfl) fun cdv A outer s H E hr => ?_
  exact (simb_one (sim_ret (SimF.ee (simf_comp (ownc := [("at", 4), ("length", 5)]) rfl sc_mixed.nd (own' := []) (simi_enum (by rfl) (z_enumerate T) (sim_var (pv 1) (by decide))) (blkOk_by (own := [("at", 4), ("length", 5)]) (N := n_mixed) (sc := defScope st_mixed) (by decide +kernel)) (fun _ _ _ _ _ => (simg_tup rfl (simgs_cons (simg_name sc_mixed.nd rfl (by first | exact .inl rfl | exact .inr rfl)) (simgs_cons (simg_name sc_mixed.nd rfl (by first | exact .inl rfl | exact .inr rfl)) simgs_nil)))) (fun _ _ _ _ _ => simts_nil) (fun _ _ _ _ _ => (sim_if (sim_cmpT (opr_inA hr) (op2_inA _ op2_in) (SimE.r (sim_var (pv 4) (by decide))) (SimE.r (sim_var (pv 2) (by decide))) (by rfl)) (sim_var (pv 5) (by decide)) (sim_ix (SimE.r (sim_ix (SimE.r (sim_var (pv 0) (by decide))) (SimE.r (sim_var (pv 4) (by decide))) (fun _ _ => rfl))) (SimE.r (sim_var (pv 3) (by decide))) (fun _ _ => rfl))))))))
abbrev n_less_of : List Str := ["wanted", "pattern", "one", "two"]
theorem sc_less_of : FnScope n_less_of ["wanted", "pattern"] (defScope st_less_of) := ⟨rfl, rfl, rfl, by decide +kernel, rfl, by decide +kernel, by decide +kernel⟩
theorem gf_less_of (T : Txt K mg) : GF P w K mg base 1 "less_of" 2 m_less_of := by
  obtain ⟨fd, F⟩ := fd_less_of T
  refine gf_of (b := b_less_of) (n := 2) (N := n_less_of) F (g_less_of T) sc_less_of rfl (by decide) (fun _ _ _ _ _ _ us hl => match us, hl with | [_, _], _ => rfl) fun cdv A outer s H E hr => ?_
  exact (simb_one (sim_ret (v_tup (z_tuple T) (SimF.rr (simf_comp (ownc := [("one", 2), ("two", 3)]) rfl sc_less_of.nd (own' := []) (simi_zip (fun h => RZ.pi_zipA (by rfl) (z_zip T) h) (sim_var (pv 0) (by decide)) (sim_var (pv 1) (by decide))) (blkOk_by (own := [("one", 2), ("two", 3)]) (N := n_less_of) (sc := defScope st_less_of) (by decide +kernel)) (fun _ _ _ _ _ => (simg_tup rfl (simgs_cons (simg_name sc_less_of.nd rfl (by first | exact .inl rfl | exact .inr rfl)) (simgs_cons (simg_name sc_less_of.nd rfl (by first | exact .inl rfl | exact .inr rfl)) simgs_nil)))) (fun _ _ _ _ _ => simts_nil) (fun _ _ _ _ _ => (v_sub (SimE.r (sim_var (pv 2) (by decide))) (SimE.r (sim_var (pv 3) (by decide))))))))))
abbrev n_width_by : List Str := ["shop", "piece"]
theorem sc_width_by : FnScope n_width_by ["shop", "piece"] (defScope st_width_by) := ⟨rfl, rfl, rfl, by decide +kernel, rfl, by decide +kernel, by decide +kernel⟩
theorem gf_width_by (T : Txt K mg) : GF P w K mg base 1 "width_by" 2 m_width_by := by
  obtain ⟨fd, F⟩ := fd_width_by T
  refine gf_of (b := b_width_by) (n := 2) (N := n_width_by) F (g_width_by T) sc_width_by rfl (by decide) (fun _ _ _ _ _ _ us hl => match us, hl with | [_, _], _ => rfl) fun cdv A outer s H E hr => ?_
  exact (simb_one (sim_ret (v_add (SimE.r (sim_ix (SimE.r (sim_ix (SimE.r (sim_attr (sim_var (pv 0) (by decide)) (ato_pieces T))) (SimE.r (sim_var (pv 1) (by decide))) (fun _ _ => rfl))) (SimE.r (sim_gint (by rfl) (z_LENGTH_AT T))) (fun _ _ => rfl))) (SimE.r (sim_attr (sim_var (pv 0) (by decide)) (ato_kerf T))))))
abbrev n_rows_for : List Str := ["shop", "wanted", "length", "rows", "piece", "most", "longer", "width", "row", "left", "number"]
theorem sc_rows_for : FnScope n_rows_for ["shop", "wanted", "length"] (defScope st_rows_for) := ⟨rfl, rfl, rfl, by decide +kernel, rfl, by decide +kernel, by decide +kernel⟩
theorem gf_rows_for (T : Txt K mg) : GF P w K mg base 2 "rows_for" 3 m_rows_for := by
  obtain ⟨fd, F⟩ := fd_rows_for T
  refine gf_of (b := b_rows_for) (n := 3) (N := n_rows_for) F (g_rows_for T) sc_rows_for rfl (by decide) (fun _ _ _ _ _ _ us hl => match us, hl with | [_, _, _], _ => rfl) fun cdv A outer s H E hr => ?_
  exact (simb_cons (own1 := [3]) (sim_setF sc_rows_for.nd rfl (by first | exact .inl rfl | exact .inr rfl) (sim_lst (sima_cons (sim_tup (sima_cons (sim_tup sima_nil) (sima_cons (v_add (SimE.r (sim_var (pv 2) (by decide))) (SimE.r (sim_attr (sim_var (pv 0) (by decide)) (ato_kerf T)))) sima_nil))) sima_nil)) IsL.l)
    (simb_cons (own1 := []) (sim_pre (own1 := []) (sim_for (ownT := []) PassesOwn.never rfl (simi_enum (by rfl) (z_enumerate T) (sim_var (pv 1) (by decide))) (simg_tup rfl (simgs_cons (simg_name sc_rows_for.nd rfl (by first | exact .inl rfl | exact .inr rfl)) (simgs_cons (simg_name sc_rows_for.nd rfl (by first | exact .inl rfl | exact .inr rfl)) simgs_nil))) (simb_cons (own1 := [6]) (sim_tpar2 rfl sc_rows_for.nd rfl (by first | exact .inl rfl | exact .inr rfl) rfl (by first | exact .inl rfl | exact .inr rfl) (SimF.xx (sim_lst sima_nil)) (SimE.x (sim_call (gf_width_by T) (hr.mono (by decide)) (by rfl) (sima_cons (sim_var (pv 0) (by decide)) (sima_cons (sim_var (pv 4) (by decide)) sima_nil)))))
    (simb_cons (own1 := [6]) (sim_for (ownT := [6]) PassesOwn.never rfl (simi_seq (sim_var (pv 3) (by decide))) (simg_tup rfl (simgs_cons (simg_name sc_rows_for.nd rfl (by first | exact .inl rfl | exact .inr rfl)) (simgs_cons (simg_name sc_rows_for.nd rfl (by first | exact .inl rfl | exact .inr rfl)) simgs_nil))) (simb_one (sim_dropM (simm_1 (by decide) (fun h => pe_bm PySem.F.plainAttrs_list PySem.F.slot_list_extend PySem.F.type_list_extend mt_extend (pv 6) (pa_cons h pa_nil)) opm_extend (SimE.m (SimF.ee (simf_comp (ownc := [("number", 10)]) rfl sc_rows_for.nd (own' := [6]) (simi_range1 (by rfl) (z_range T) (sima_cons (v_add (SimE.r (v_min2 (z_min T) (SimE.r (sim_var (pv 5) (by decide))) (SimE.r (v_fdiv (SimE.r (sim_var (pv 9) (by decide))) (SimE.r (sim_var (pv 7) (by decide))))))) (SimE.r sim_int)) sima_nil)) (blkOk_by (own := [("number", 10)]) (N := n_rows_for) (sc := defScope st_rows_for) (by decide +kernel)) (fun _ _ _ _ _ => (simg_name sc_rows_for.nd rfl (by first | exact .inl rfl | exact .inr rfl))) (fun _ _ _ _ _ => simts_nil) (fun _ _ _ _ _ => (sim_tup (sima_cons (sim_tup (sima_star (SimE.r (sim_var (pv 8) (by decide))) (sima_cons (sim_var (pv 10) (by decide)) sima_nil))) (sima_cons (v_sub (SimE.r (sim_var (pv 9) (by decide))) (SimE.r (v_mul (SimE.r (sim_var (pv 10) (by decide))) (SimE.r (sim_var (pv 7) (by decide)))))) sima_nil)))))))))))
    (simb_one (sim_pre (own1 := []) (sim_set sc_rows_for.nd rfl (by first | exact .inl rfl | exact .inr rfl) (sim_var (pv 6) (by decide)))))))))
    (simb_one (sim_ret (SimF.ee (simf_comp (ownc := [("row", 8), ("left", 9)]) rfl sc_rows_for.nd (own' := []) (simi_seq (sim_var (pv 3) (by decide))) (blkOk_by (own := [("row", 8), ("left", 9)]) (N := n_rows_for) (sc := defScope st_rows_for) (by decide +kernel)) (fun _ _ _ _ _ => (simg_tup rfl (simgs_cons (simg_name sc_rows_for.nd rfl (by first | exact .inl rfl | exact .inr rfl)) (simgs_cons (simg_name sc_rows_for.nd rfl (by first | exact .inl rfl | exact .inr rfl)) simgs_nil)))) (fun _ _ _ _ _ => simts_nil) (fun _ _ _ _ _ => (sim_var (pv 8) (by decide)))))))))
abbrev n_wanted_row : List Str := ["shop", "name", "length", "wanted"]
theorem sc_wanted_row : FnScope n_wanted_row ["shop"] (defScope st_wanted_row) := ⟨rfl, rfl, rfl, by decide +kernel, rfl, by decide +kernel, by decide +kernel⟩
theorem gf_wanted_row (T : Txt K mg) : GF P w K mg base 1 "wanted_row" 1 m_wanted_row := by
  obtain ⟨fd, F⟩ := fd_wanted_row T
  refine gf_of (b := b_wanted_row) (n := 1) (N := n_wanted_row) F (g_wanted_row T) sc_wanted_row rfl (by decide) (fun _ _ _ _ _ _ us hl => match us, hl with | [_], _ => rfl) fun cdv A outer s H E hr => ?_
  exact (simb_one (sim_ret (v_tup (z_tuple T) (SimF.rr (simf_comp (ownc := [("name", 1), ("length", 2), ("wanted", 3)]) rfl sc_wanted_row.nd (own' := []) (simi_seq (sim_attr (sim_var (pv 0) (by decide)) (ato_pieces T))) (blkOk_by (own := [("name", 1), ("length", 2), ("wanted", 3)]) (N := n_wanted_row) (sc := defScope st_wanted_row) (by decide +kernel)) (fun _ _ _ _ _ => (simg_tup rfl (simgs_cons (simg_name sc_wanted_row.nd rfl (by first | exact .inl rfl | exact .inr rfl)) (simgs_cons (simg_name sc_wanted_row.nd rfl (by first | exact .inl rfl | exact .inr rfl)) (simgs_cons (simg_name sc_wanted_row.nd rfl (by first | exact .inl rfl | exact .inr rfl)) simgs_nil))))) (fun _ _ _ _ _ => simts_nil) (fun _ _ _ _ _ => (sim_var (pv 3) (by decide))))))))
abbrev n_yield_by : List Str := ["shop", "lengths", "layers", "length", "longer", "wanted", "row", "way", "behind"]
theorem sc_yield_by : FnScope n_yield_by ["shop", "lengths"] (defScope st_yield_by) := ⟨rfl, rfl, rfl, by decide +kernel, rfl, by decide +kernel, by decide +kernel⟩
theorem gf_yield_by (T : Txt K mg) : GF P w K mg base 3 "yield_by" 2 m_yield_by := by
  obtain ⟨fd, F⟩ := fd_yield_by T
  refine gf_of (b := b_yield_by) (n := 2) (N := n_yield_by) F (g_yield_by T) sc_yield_by rfl (by decide) (fun _ _ _ _ _ _ us hl => match us, hl with | [_, _], _ => rfl) fun cdv A outer s H E hr => ?_
  exact (simb_cons (own1 := [2]) (sim_setF sc_yield_by.nd rfl (by first | exact .inl rfl | exact .inr rfl) (sim_lst (sima_cons (sim_dictT1 hr (sim_call (gf_wanted_row T) (hr.mono (by decide)) (by rfl) (sima_cons (sim_var (pv 0) (by decide)) sima_nil)) (sim_tup sima_nil)) sima_nil)) IsL.l)
    (simb_cons (own1 := [2]) (sim_for (ownT := [2]) PassesOwn.never rfl (simi_seq (sim_var (pv 1) (by decide))) (simg_name sc_yield_by.nd rfl (by first | exact .inl rfl | exact .inr rfl)) (simb_cons (own1 := [2]) (sim_set sc_yield_by.nd rfl (by first | exact .inl rfl | exact .inr rfl) sim_dictT0)
    (simb_cons (own1 := [2]) (sim_forD (ownT := [2]) PassesOwn.never rfl (sim_ix (sim_varR (pv 2)) (SimE.r (v_neg (SimE.r sim_int))) (fun _ _ => rfl)) (simg_name sc_yield_by.nd rfl (by first | exact .inl rfl | exact .inr rfl)) (simb_one (sim_for (ownT := [2]) PassesOwn.never rfl (simi_seq (sim_call (gf_rows_for T) (hr.mono (by decide)) (by rfl) (sima_cons (sim_var (pv 0) (by decide)) (sima_cons (sim_var (pv 5) (by decide)) (sima_cons (sim_var (pv 3) (by decide)) sima_nil))))) (simg_name sc_yield_by.nd rfl (by first | exact .inl rfl | exact .inr rfl)) (simb_cons (own1 := [2]) (sim_par2 (fun h => ps_par rfl sc_yield_by.nd rfl rfl (by decide) rfl rfl h (by with_unfolding_all rfl)) rfl rfl (SimE.x (v_add (SimE.r (sim_ixA hr (SimE.r (sim_ix (sim_varR (pv 2)) (SimE.r (v_neg (SimE.r sim_int))) (fun _ _ => rfl))) (SimE.r (sim_var (pv 5) (by decide))) (fun _ _ => rfl))) (SimE.r (sim_tup (sima_cons (sim_var (pv 6) (by decide)) sima_nil))))) (SimE.x (sim_call (gf_less_of T) (hr.mono (by decide)) (by rfl) (sima_cons (sim_var (pv 5) (by decide)) (sima_cons (sim_var (pv 6) (by decide)) sima_nil)))))
    (simb_one (sim_ifS (SimW.t (sim_orW (sim_notInAT hr (opr_notInA hr) (op2_notInA _ op2_notIn) (SimE.r (sim_var (pv 8) (by decide))) (SimE.r (sim_var (pv 4) (by decide))) (by rfl)) (sim_or1 (sim_cmpT (opr_ltA hr) (op2_cmpA _ _) (SimE.r (sim_var (pv 7) (by decide))) (SimE.r (sim_ixA hr (SimE.r (sim_var (pv 4) (by decide))) (SimE.r (sim_var (pv 8) (by decide))) (fun _ _ => rfl))) (nomark _))))) (simb_one (sim_put hr (sim_var (pv 4) (by decide)) (sim_var (pv 8) (by decide)) (sim_var (pv 7) (by decide)))) simb_nil))))))
    (simb_one (sim_dropM (simm_1 (by decide) (fun h => pe_bm PySem.F.plainAttrs_list PySem.F.slot_list_append PySem.F.type_list_append mt_append (pv 2) (pa_cons h pa_nil)) opm_append (SimE.m (sim_var (pv 4) (by decide)))))))))
    (simb_one (sim_ret (sim_get1 hr (sim_ix (sim_varR (pv 2)) (SimE.r (v_neg (SimE.r sim_int))) (fun _ _ => rfl)) (v_mul (SimE.r (sim_tup (sima_cons sim_int sima_nil))) (SimE.r (v_len (z_len T) (SimE.r (sim_attr (sim_var (pv 0) (by decide)) (ato_pieces T)))))))))))
abbrev n_paper_by : List Str := ["shop", "rods", "lengths", "lot", "low", "high"]
theorem sc_paper_by : FnScope n_paper_by ["shop", "rods", "lengths", "lot"] (defScope st_paper_by) := ⟨rfl, rfl, rfl, by decide +kernel, rfl, by decide +kernel, by decide +kernel⟩
theorem gf_paper_by (T : Txt K mg) : GF P w K mg base 4 "paper_by" 4 m_paper_by := by
  obtain ⟨fd, F⟩ := fd_paper_by T
  refine gf_of (b := b_paper_by) (n := 4) (N := n_paper_by) F (g_paper_by T) sc_paper_by rfl (by decide) (fun _ _ _ _ _ _ us hl => match us, hl with | [_, _, _, _], _ => rfl) fun cdv A outer s H E hr => ?_
  exact (simb_cons (own1 := []) (sim_ifS (sim_cmpT op_notN op2_notN (SimE.r (sim_callD (gf_yield_by T) (hr.mono (by decide)) (by rfl) (sima_cons (sim_var (pv 0) (by decide)) (sima_cons (sim_var (pv 2) (by decide)) sima_nil)))) (SimE.r sim_non) (nomark _)) (simb_cons (own1 := []) (sim_set sc_paper_by.nd rfl (by first | exact .inl rfl | exact .inr rfl) (sim_callD (gf_yield_by T) (hr.mono (by decide)) (by rfl) (sima_cons (sim_var (pv 0) (by decide)) (sima_cons (sim_call (gf_mixed T) (hr.mono (by decide)) (by rfl) (sima_cons (sim_var (pv 1) (by decide)) (sima_cons (sim_var (pv 2) (by decide)) (sima_cons (sim_var (pv 3) (by decide)) (sima_cons sim_int sima_nil))))) sima_nil))))
    (simb_one (sim_ret (sim_tup (sima_cons (sim_cmp op_notN op2_notN (SimE.r (sim_var (pv 4) (by decide))) (SimE.r sim_non) (nomark _)) (sima_cons (sim_var (pv 4) (by decide)) sima_nil)))))) simb_nil)
    (simb_cons (own1 := []) (sim_set sc_paper_by.nd rfl (by first | exact .inl rfl | exact .inr rfl) (sim_callD (gf_yield_by T) (hr.mono (by decide)) (by rfl) (sima_cons (sim_var (pv 0) (by decide)) (sima_cons (sim_call (gf_mixed T) (hr.mono (by decide)) (by rfl) (sima_cons (sim_var (pv 1) (by decide)) (sima_cons (sim_var (pv 2) (by decide)) (sima_cons (sim_var (pv 3) (by decide)) (sima_cons sim_int sima_nil))))) sima_nil))))
    (simb_one (sim_ret (sim_tup (sima_cons (sim_cmp op_isN op2_isN (SimE.r (sim_var (pv 5) (by decide))) (SimE.r sim_non) (nomark _)) (sima_cons (sim_var (pv 5) (by decide)) sima_nil)))))))
abbrev n_sorted_papers : List Str := ["shop", "rods", "lengths", "lots", "papers", "good", "bad", "kept", "torn", "lot", "one"]
theorem sc_sorted_papers : FnScope n_sorted_papers ["shop", "rods", "lengths"] (defScope st_sorted_papers) := ⟨rfl, rfl, rfl, by decide +kernel, rfl, by decide +kernel, by decide +kernel⟩
theorem gf_sorted_papers (T : Txt K mg) : GF P w K mg base 5 "sorted_papers" 3 m_sorted_papers := by
  obtain ⟨fd, F⟩ := fd_sorted_papers T
  refine gf_of (b := b_sorted_papers) (n := 3) (N := n_sorted_papers) F (g_sorted_papers T) sc_sorted_papers rfl (by decide) (fun _ _ _ _ _ _ us hl => match us, hl with | [_, _, _], _ => rfl) fun cdv A outer s H E hr => ?_
  exact (simb_cons (own1 := []) (sim_set sc_sorted_papers.nd rfl (by first | exact .inl rfl | exact .inr rfl) (sim_call (gf_all_lots T) (hr.mono (by decide)) (by rfl) (sima_cons (v_len (z_len T) (SimE.r (sim_var (pv 1) (by decide)))) sima_nil)))
    (simb_cons (own1 := []) (sim_set sc_sorted_papers.nd rfl (by first | exact .inl rfl | exact .inr rfl) (sim_dictC (ownc := [("lot", 9)]) (own' := []) hr rfl sc_sorted_papers.nd (simi_seq (sim_var (pv 3) (by decide))) (blkOk_by (own := [("lot", 9)]) (N := n_sorted_papers) (sc := defScope st_sorted_papers) (by decide +kernel)) (fun _ _ _ _ _ => (simg_name sc_sorted_papers.nd rfl (by first | exact .inl rfl | exact .inr rfl))) (fun _ _ _ _ _ => simts_nil) (fun _ _ _ _ _ => (sim_var (pv 9) (by decide))) (fun _ _ _ _ _ => (sim_call (gf_paper_by T) (hr.mono (by decide)) (by rfl) (sima_cons (sim_var (pv 0) (by decide)) (sima_cons (sim_var (pv 1) (by decide)) (sima_cons (sim_var (pv 2) (by decide)) (sima_cons (sim_var (pv 9) (by decide)) sima_nil))))))))
    (simb_cons (own1 := [6, 5]) (sim_tpar2 rfl sc_sorted_papers.nd rfl (by first | exact .inl rfl | exact .inr rfl) rfl (by first | exact .inl rfl | exact .inr rfl) (SimF.xx (simf_comp (ownc := [("lot", 9)]) rfl sc_sorted_papers.nd (own' := []) (simi_seq (sim_var (pv 3) (by decide))) (blkOk_by (own := [("lot", 9)]) (N := n_sorted_papers) (sc := defScope st_sorted_papers) (by decide +kernel)) (fun _ _ _ _ _ => (simg_name sc_sorted_papers.nd rfl (by first | exact .inl rfl | exact .inr rfl))) (fun _ _ _ _ _ => (simts_one (sim_truth (SimE.r (sim_ix (SimE.r (sim_ixA hr (SimE.r (sim_var (pv 4) (by decide))) (SimE.r (sim_var (pv 9) (by decide))) (fun _ _ => rfl))) (SimE.r sim_int) (fun _ _ => rfl)))))) (fun _ _ _ _ _ => (sim_var (pv 9) (by decide))))) (SimF.xx (simf_comp (ownc := [("lot", 9)]) rfl sc_sorted_papers.nd (own' := []) (simi_seq (sim_var (pv 3) (by decide))) (blkOk_by (own := [("lot", 9)]) (N := n_sorted_papers) (sc := defScope st_sorted_papers) (by decide +kernel)) (fun _ _ _ _ _ => (simg_name sc_sorted_papers.nd rfl (by first | exact .inl rfl | exact .inr rfl))) (fun _ _ _ _ _ => (simts_one (sim_notT (sim_truth (SimE.r (sim_ix (SimE.r (sim_ixA hr (SimE.r (sim_var (pv 4) (by decide))) (SimE.r (sim_var (pv 9) (by decide))) (fun _ _ => rfl))) (SimE.r sim_int) (fun _ _ => rfl))))))) (fun _ _ _ _ _ => (sim_var (pv 9) (by decide))))))
    (simb_cons (own1 := [7, 6]) (sim_pre (own1 := [6]) (sim_setLc (own' := [6]) (ownc := [("lot", 9)]) rfl sc_sorted_papers.nd rfl rfl (sw_true rfl rfl rfl (by decide +kernel)) (simi_seq (sim_var (pv 5) (by decide))) (blkOk_by (own := [("lot", 9)]) (N := n_sorted_papers) (sc := defScope st_sorted_papers) (by decide +kernel)) (fun _ _ _ _ _ => (simg_name sc_sorted_papers.nd rfl (by first | exact .inl rfl | exact .inr rfl))) (fun _ _ _ _ _ => (simts_one (sim_notT (sim_truth (SimE.r (v_any (z_any T) (SimF.rr (simf_comp (ownc := [("one", 10)]) rfl sc_sorted_papers.nd (own' := [6]) (simi_seq (sim_var (pv 5) (by decide))) (blkOk_by (own := [("one", 10)]) (by kernel_rfl)) (fun _ _ _ _ _ => (simg_name sc_sorted_papers.nd rfl (by first | exact .inl rfl | exact .inr rfl))) (fun _ _ _ _ _ => simts_nil) (fun _ _ _ _ _ => (sim_andV (sim_cmp (op_neD hr.units) op2_ne (SimE.r (sim_var (pv 10) (by decide))) (SimE.r (sim_var (pv 9) (by decide))) (nomark _)) (sim_one (sim_call (gf_lies_in T) (hr.mono (by decide)) (by rfl) (sima_cons (sim_var (pv 10) (by decide)) (sima_cons (sim_var (pv 9) (by decide)) sima_nil)))))))))))))) (fun _ _ _ _ _ => (sim_var (pv 9) (by decide)))))
    (simb_cons (own1 := [8, 7]) (sim_pre (own1 := [7]) (sim_setLc (own' := [7]) (ownc := [("lot", 9)]) rfl sc_sorted_papers.nd rfl rfl (sw_true rfl rfl rfl (by decide +kernel)) (simi_seq (sim_var (pv 6) (by decide))) (blkOk_by (own := [("lot", 9)]) (N := n_sorted_papers) (sc := defScope st_sorted_papers) (by decide +kernel)) (fun _ _ _ _ _ => (simg_name sc_sorted_papers.nd rfl (by first | exact .inl rfl | exact .inr rfl))) (fun _ _ _ _ _ => (simts_one (sim_notT (sim_truth (SimE.r (v_any (z_any T) (SimF.rr (simf_comp (ownc := [("one", 10)]) rfl sc_sorted_papers.nd (own' := [7]) (simi_seq (sim_var (pv 6) (by decide))) (blkOk_by (own := [("one", 10)]) (by kernel_rfl)) (fun _ _ _ _ _ => (simg_name sc_sorted_papers.nd rfl (by first | exact .inl rfl | exact .inr rfl))) (fun _ _ _ _ _ => simts_nil) (fun _ _ _ _ _ => (sim_andV (sim_cmp (op_neD hr.units) op2_ne (SimE.r (sim_var (pv 10) (by decide))) (SimE.r (sim_var (pv 9) (by decide))) (nomark _)) (sim_one (sim_call (gf_lies_in T) (hr.mono (by decide)) (by rfl) (sima_cons (sim_var (pv 9) (by decide)) (sima_cons (sim_var (pv 10) (by decide)) sima_nil)))))))))))))) (fun _ _ _ _ _ => (sim_var (pv 9) (by decide)))))
    (simb_one (sim_pre (own1 := []) (sim_ret (sim_tup (sima_cons (SimF.ee (simf_comp (ownc := [("lot", 9)]) rfl sc_sorted_papers.nd (own' := []) (simi_seq (sim_var (pv 7) (by decide))) (blkOk_by (own := [("lot", 9)]) (N := n_sorted_papers) (sc := defScope st_sorted_papers) (by decide +kernel)) (fun _ _ _ _ _ => (simg_name sc_sorted_papers.nd rfl (by first | exact .inl rfl | exact .inr rfl))) (fun _ _ _ _ _ => simts_nil) (fun _ _ _ _ _ => (sim_tup (sima_cons (sim_var (pv 9) (by decide)) (sima_cons (sim_ix (SimE.r (sim_ixA hr (SimE.r (sim_var (pv 4) (by decide))) (SimE.r (sim_var (pv 9) (by decide))) (fun _ _ => rfl))) (SimE.r sim_int) (fun _ _ => rfl)) sima_nil)))))) (sima_cons (SimF.ee (simf_comp (ownc := [("lot", 9)]) rfl sc_sorted_papers.nd (own' := []) (simi_seq (sim_var (pv 8) (by decide))) (blkOk_by (own := [("lot", 9)]) (N := n_sorted_papers) (sc := defScope st_sorted_papers) (by decide +kernel)) (fun _ _ _ _ _ => (simg_name sc_sorted_papers.nd rfl (by first | exact .inl rfl | exact .inr rfl))) (fun _ _ _ _ _ => simts_nil) (fun _ _ _ _ _ => (sim_tup (sima_cons (sim_var (pv 9) (by decide)) (sima_cons (sim_ix (SimE.r (sim_ixA hr (SimE.r (sim_var (pv 4) (by decide))) (SimE.r (sim_var (pv 9) (by decide))) (fun _ _ => rfl))) (SimE.r sim_int) (fun _ _ => rfl)) sima_nil)))))) sima_nil)))))))))))
abbrev n_least_by : List Str := ["shop", "rods", "lengths", "known", "row", "lot", "paper"]
theorem sc_least_by : FnScope n_least_by ["shop", "rods", "lengths"] (defScope st_least_by) := ⟨rfl, rfl, rfl, by decide +kernel, rfl, by decide +kernel, by decide +kernel⟩
theorem gf_least_by (T : Txt K mg) : GF P w K mg base 6 "least_by" 3 m_least_by := by
  obtain ⟨fd, F⟩ := fd_least_by T
  refine gf_of (b := b_least_by) (n := 3) (N := n_least_by) F (g_least_by T) sc_least_by rfl (by decide) (fun _ _ _ _ _ _ us hl => match us, hl with | [_, _, _], _ => rfl) fun cdv A outer s H E hr => ?_
  exact (simb_cons (own1 := []) (sim_asg (sim_call (gf_need_both T) (hr.mono (by decide)) (by rfl) (sima_cons (sim_var (pv 1) (by decide)) (sima_cons (sim_var (pv 2) (by decide)) sima_nil))) (simg_tup rfl (simgs_cons (simg_name sc_least_by.nd rfl (by first | exact .inl rfl | exact .inr rfl)) (simgs_cons (simg_name sc_least_by.nd rfl (by first | exact .inl rfl | exact .inr rfl)) simgs_nil))))
    (simb_one (sim_ret (SimF.ee (simf_comp (ownc := [("lot", 5), ("paper", 6)]) rfl sc_least_by.nd (own' := []) (simi_seq (sim_ix (SimE.r (sim_callD (gf_sorted_papers T) (hr.mono (by decide)) (by rfl) (sima_cons (sim_var (pv 0) (by decide)) (sima_cons (sim_var (pv 3) (by decide)) (sima_cons (sim_var (pv 4) (by decide)) sima_nil))))) (SimE.r sim_int) (fun _ _ => rfl))) (blkOk_by (own := [("lot", 5), ("paper", 6)]) (N := n_least_by) (sc := defScope st_least_by) (by decide +kernel)) (fun _ _ _ _ _ => (simg_tup rfl (simgs_cons (simg_name sc_least_by.nd rfl (by first | exact .inl rfl | exact .inr rfl)) (simgs_cons (simg_name sc_least_by.nd rfl (by first | exact .inl rfl | exact .inr rfl)) simgs_nil)))) (fun _ _ _ _ _ => simts_nil) (fun _ _ _ _ _ => (sim_var (pv 5) (by decide))))))))
abbrev n_fewest_measured : List Str := ["shop", "rods", "lengths"]
theorem sc_fewest_measured : FnScope n_fewest_measured ["shop", "rods", "lengths"] (defScope st_fewest_measured) := ⟨rfl, rfl, rfl, by decide +kernel, rfl, by decide +kernel, by decide +kernel⟩
theorem gf_fewest_measured (T : Txt K mg) : GF P w K mg base 7 "fewest_measured" 3 m_fewest_measured := by
  obtain ⟨fd, F⟩ := fd_fewest_measured T
  refine gf_of (b := b_fewest_measured) (n := 3) (N := n_fewest_measured) F (g_fewest_measured T) sc_fewest_measured rfl (by decide) (fun _ _ _ _ _ _ us hl => match us, hl with | [_, _, _], _ => rfl) fun cdv A outer s H E hr => ?_
  exact (simb_one (sim_ret (sim_minLen (z_min T) (z_len T) (SimE.r (sim_call (gf_least_by T) (hr.mono (by decide)) (by rfl) (sima_cons (sim_var (pv 0) (by decide)) (sima_cons (sim_var (pv 1) (by decide)) (sima_cons (sim_var (pv 2) (by decide)) sima_nil))))))))
abbrev n_outlook : List Str := ["shop", "rods", "known", "low", "high"]
theorem sc_outlook : FnScope n_outlook ["shop", "rods"] (defScope st_outlook) := ⟨rfl, rfl, rfl, by decide +kernel, rfl, by decide +kernel, by decide +kernel⟩
theorem gf_outlook (T : Txt K mg) : GF P w K mg base 4 "outlook" 2 m_outlook := by
  obtain ⟨fd, F⟩ := fd_outlook T
  refine gf_of (b := b_outlook) (n := 2) (N := n_outlook) F (g_outlook T) sc_outlook rfl (by decide) (fun _ _ _ _ _ _ us hl => match us, hl with | [_, _], _ => rfl) fun cdv A outer s H E hr => ?_
  exact (simb_cons (own1 := []) (sim_set sc_outlook.nd rfl (by first | exact .inl rfl | exact .inr rfl) (sim_call (gf_need_rods T) (hr.mono (by decide)) (by rfl) (sima_cons (sim_var (pv 1) (by decide)) sima_nil)))
    (simb_cons (own1 := []) (sim_ifS (sim_cmpT op_notN op2_notN (SimE.r (sim_callD (gf_yield_by T) (hr.mono (by decide)) (by rfl) (sima_cons (sim_var (pv 0) (by decide)) (sima_cons (SimF.ee (simf_comp (ownc := [("low", 3), ("high", 4)]) rfl sc_outlook.nd (own' := []) (simi_seq (sim_var (pv 2) (by decide))) (blkOk_by (own := [("low", 3), ("high", 4)]) (N := n_outlook) (sc := defScope st_outlook) (by decide +kernel)) (fun _ _ _ _ _ => (simg_tup rfl (simgs_cons (simg_name sc_outlook.nd rfl (by first | exact .inl rfl | exact .inr rfl)) (simgs_cons (simg_name sc_outlook.nd rfl (by first | exact .inl rfl | exact .inr rfl)) simgs_nil)))) (fun _ _ _ _ _ => simts_nil) (fun _ _ _ _ _ => (sim_var (pv 3) (by decide))))) sima_nil)))) (SimE.r sim_non) (nomark _)) (simb_one (sim_ret sim_str)) simb_nil)
    (simb_one (sim_ret (sim_if (sim_cmpT op_isN op2_isN (SimE.r (sim_callD (gf_yield_by T) (hr.mono (by decide)) (by rfl) (sima_cons (sim_var (pv 0) (by decide)) (sima_cons (SimF.ee (simf_comp (ownc := [("low", 3), ("high", 4)]) rfl sc_outlook.nd (own' := []) (simi_seq (sim_var (pv 2) (by decide))) (blkOk_by (own := [("low", 3), ("high", 4)]) (N := n_outlook) (sc := defScope st_outlook) (by decide +kernel)) (fun _ _ _ _ _ => (simg_tup rfl (simgs_cons (simg_name sc_outlook.nd rfl (by first | exact .inl rfl | exact .inr rfl)) (simgs_cons (simg_name sc_outlook.nd rfl (by first | exact .inl rfl | exact .inr rfl)) simgs_nil)))) (fun _ _ _ _ _ => simts_nil) (fun _ _ _ _ _ => (sim_var (pv 4) (by decide))))) sima_nil)))) (SimE.r sim_non) (nomark _)) sim_str sim_str)))))
abbrev n_is_index : List Str := ["value", "many"]
theorem sc_is_index : FnScope n_is_index ["value", "many"] (defScope st_is_index) := ⟨rfl, rfl, rfl, by decide +kernel, rfl, by decide +kernel, by decide +kernel⟩
theorem gf_is_index (T : Txt K mg) : GF P w K mg base 2 "is_index" 2 m_is_index := by
  obtain ⟨fd, F⟩ := fd_is_index T
  refine gf_of (b := b_is_index) (n := 2) (N := n_is_index) F (g_is_index T) sc_is_index rfl (by decide) (fun _ _ _ _ _ _ us hl => match us, hl with | [_, _], _ => rfl) fun cdv A outer s H E hr => ?_
  exact (simb_one (sim_ret (sim_andV (sim_call (gf_is_whole T) (hr.mono (by decide)) (by rfl) (sima_cons (sim_var (pv 0) (by decide)) sima_nil)) (sim_one (sim_chain op_le (opr_ltA hr) (op2_i2 _) (op2_cmpA _ _) (SimE.r sim_int) (SimE.r (sim_var (pv 0) (by decide))) (SimE.r (sim_var (pv 1) (by decide))))))))
abbrev n_is_row_lot : List Str := ["many", "value", "at", "one"]
theorem sc_is_row_lot : FnScope n_is_row_lot ["many", "value"] (defScope st_is_row_lot) := ⟨rfl, rfl, rfl, by decide +kernel, rfl, by decide +kernel, by decide +kernel⟩
theorem gf_is_row_lot (T : Txt K mg) : GF P w K mg base 3 "is_row_lot" 2 m_is_row_lot := by
  obtain ⟨fd, F⟩ := fd_is_row_lot T
  refine gf_of (b := b_is_row_lot) (n := 2) (N := n_is_row_lot) F (g_is_row_lot T) sc_is_row_lot rfl (by decide) (fun _ _ _ _ _ _ us hl => match us, hl with | [_, _], _ => rfl) fun cdv A outer s H E hr => ?_
  exact (simb_cons (own1 := []) (sim_ifS (SimW.t (sim_orW (sim_notT (sim_truth (SimE.r (sim_isi (n := "tuple") (by rfl) (z_isinstance T) (by rfl) (z_tuple T) boot_tuple (by decide) (SimE.r (sim_var (pv 1) (by decide))))))) (sim_or1 (sim_notT (sim_truth (SimE.r (v_all (z_all T) (SimF.rr (simf_comp (ownc := [("one", 3)]) rfl sc_is_row_lot.nd (own' := []) (simi_seq (sim_var (pv 1) (by decide))) (blkOk_by (own := [("one", 3)]) (N := n_is_row_lot) (sc := defScope st_is_row_lot) (by decide +kernel)) (fun _ _ _ _ _ => (simg_name sc_is_row_lot.nd rfl (by first | exact .inl rfl | exact .inr rfl))) (fun _ _ _ _ _ => simts_nil) (fun _ _ _ _ _ => (sim_call (gf_is_index T) (hr.mono (by decide)) (by rfl) (sima_cons (sim_var (pv 3) (by decide)) (sima_cons (sim_var (pv 0) (by decide)) sima_nil))))))))))))) (simb_one (sim_ret sim_bl)) simb_nil)
    (simb_one (sim_ret (v_all (z_all T) (SimF.rr (simf_comp (ownc := [("at", 2)]) rfl sc_is_row_lot.nd (own' := []) (simi_range1 (by rfl) (z_range T) (sima_cons (v_sub (SimE.r (v_len (z_len T) (SimE.r (sim_var (pv 1) (by decide))))) (SimE.r sim_int)) sima_nil)) (blkOk_by (own := [("at", 2)]) (N := n_is_row_lot) (sc := defScope st_is_row_lot) (by decide +kernel)) (fun _ _ _ _ _ => (simg_name sc_is_row_lot.nd rfl (by first | exact .inl rfl | exact .inr rfl))) (fun _ _ _ _ _ => simts_nil) (fun _ _ _ _ _ => (sim_cmp (opr_ltA hr) (op2_cmpA _ _) (SimE.r (sim_ix (SimE.r (sim_var (pv 1) (by decide))) (SimE.r (sim_var (pv 2) (by decide))) (fun _ _ => rfl))) (SimE.r (sim_ix (SimE.r (sim_var (pv 1) (by decide))) (SimE.r (v_add (SimE.r (sim_var (pv 2) (by decide))) (SimE.r sim_int))) (fun _ _ => rfl))) (nomark _)))))))))
abbrev n_need_rod_lot : List Str := ["rods", "lot", "known"]
theorem sc_need_rod_lot : FnScope n_need_rod_lot ["rods", "lot"] (defScope st_need_rod_lot) := ⟨rfl, rfl, rfl, by decide +kernel, rfl, by decide +kernel, by decide +kernel⟩
theorem gf_need_rod_lot (T : Txt K mg) : GF P w K mg base 4 "need_rod_lot" 2 m_need_rod_lot := by
  obtain ⟨fd, F⟩ := fd_need_rod_lot T
  refine gf_of (b := b_need_rod_lot) (n := 2) (N := n_need_rod_lot) F (g_need_rod_lot T) sc_need_rod_lot rfl (by decide) (fun _ _ _ _ _ _ us hl => match us, hl with | [_, _], _ => rfl) fun cdv A outer s H E hr => ?_
  exact (simb_cons (own1 := []) (sim_set sc_need_rod_lot.nd rfl (by first | exact .inl rfl | exact .inr rfl) (sim_if (sim_truth (SimE.r (sim_isi (n := "list") (by rfl) (z_isinstance T) (by rfl) (z_list T) boot_list (by decide) (SimE.r (sim_var (pv 1) (by decide)))))) (v_tup (z_tuple T) (SimE.r (sim_var (pv 1) (by decide)))) (sim_var (pv 1) (by decide))))
    (simb_cons (own1 := []) (sim_ifS (sim_notT (sim_truth (SimE.r (sim_call (gf_is_row_lot T) (hr.mono (by decide)) (by rfl) (sima_cons (v_len (z_len T) (SimE.r (sim_var (pv 0) (by decide)))) (sima_cons (sim_var (pv 2) (by decide)) sima_nil)))))) (simb_one sim_never) simb_nil)
    (simb_one (sim_ret (sim_var (pv 2) (by decide))))))
abbrev n_tells : List Str := ["shop", "rods", "lengths", "lot", "known", "row"]
theorem sc_tells : FnScope n_tells ["shop", "rods", "lengths", "lot"] (defScope st_tells) := ⟨rfl, rfl, rfl, by decide +kernel, rfl, by decide +kernel, by decide +kernel⟩
theorem gf_tells (T : Txt K mg) : GF P w K mg base 5 "tells" 4 m_tells := by
  obtain ⟨fd, F⟩ := fd_tells T
  refine gf_of (b := b_tells) (n := 4) (N := n_tells) F (g_tells T) sc_tells rfl (by decide) (fun _ _ _ _ _ _ us hl => match us, hl with | [_, _, _, _], _ => rfl) fun cdv A outer s H E hr => ?_
  exact (simb_cons (own1 := []) (sim_asg (sim_call (gf_need_both T) (hr.mono (by decide)) (by rfl) (sima_cons (sim_var (pv 1) (by decide)) (sima_cons (sim_var (pv 2) (by decide)) sima_nil))) (simg_tup rfl (simgs_cons (simg_name sc_tells.nd rfl (by first | exact .inl rfl | exact .inr rfl)) (simgs_cons (simg_name sc_tells.nd rfl (by first | exact .inl rfl | exact .inr rfl)) simgs_nil))))
    (simb_one (sim_ret (sim_ix (SimE.r (sim_call (gf_paper_by T) (hr.mono (by decide)) (by rfl) (sima_cons (sim_var (pv 0) (by decide)) (sima_cons (sim_var (pv 4) (by decide)) (sima_cons (sim_var (pv 5) (by decide)) (sima_cons (sim_call (gf_need_rod_lot T) (hr.mono (by decide)) (by rfl) (sima_cons (sim_var (pv 4) (by decide)) (sima_cons (sim_var (pv 3) (by decide)) sima_nil))) sima_nil)))))) (SimE.r sim_int) (fun _ _ => rfl)))))
abbrev n_index_in : List Str := ["rows", "name", "at", "row"]
theorem sc_index_in : FnScope n_index_in ["rows", "name"] (defScope st_index_in) := ⟨rfl, rfl, rfl, by decide +kernel, rfl, by decide +kernel, by decide +kernel⟩
theorem gf_index_in (T : Txt K mg) : GF P w K mg base 1 "index_in" 2 m_index_in := by
  obtain ⟨fd, F⟩ := fd_index_in T
  refine gf_of (b := b_index_in) (n := 2) (N := n_index_in) F (g_index_in T) sc_index_in rfl (by decide) (fun _ _ _ _ _ _ us hl => match us, hl with | [_, _], _ => rfl) fun cdv A outer s H E hr => ?_
  exact (simb_cons (own1 := []) (sim_for (ownT := []) PassesOwn.never rfl (simi_enum (by rfl) (z_enumerate T) (sim_var (pv 0) (by decide))) (simg_tup rfl (simgs_cons (simg_name sc_index_in.nd rfl (by first | exact .inl rfl | exact .inr rfl)) (simgs_cons (simg_name sc_index_in.nd rfl (by first | exact .inl rfl | exact .inr rfl)) simgs_nil))) (simb_one (sim_ifS (SimW.t (sim_andW (sim_truth (SimE.r (sim_isi (n := "str") (by rfl) (z_isinstance T) (by rfl) (z_str T) boot_str (by decide) (SimE.r (sim_var (pv 1) (by decide)))))) (sim_and1 (sim_cmpT (op_eqD hr.units) op2_eq (SimE.r (sim_ix (SimE.r (sim_var (pv 3) (by decide))) (SimE.r sim_int) (fun _ _ => rfl))) (SimE.r (sim_var (pv 1) (by decide))) (nomark _))))) (simb_one (sim_ret (sim_var (pv 2) (by decide)))) simb_nil)))
    (simb_one (sim_ret sim_non)))
abbrev n_piece_index : List Str := ["shop", "name", "at"]
theorem sc_piece_index : FnScope n_piece_index ["shop", "name"] (defScope st_piece_index) := ⟨rfl, rfl, rfl, by decide +kernel, rfl, by decide +kernel, by decide +kernel⟩
theorem gf_piece_index (T : Txt K mg) : GF P w K mg base 2 "piece_index" 2 m_piece_index := by
  obtain ⟨fd, F⟩ := fd_piece_index T
  refine gf_of (b := b_piece_index) (n := 2) (N := n_piece_index) F (g_piece_index T) sc_piece_index rfl (by decide) (fun _ _ _ _ _ _ us hl => match us, hl with | [_, _], _ => rfl) fun cdv A outer s H E hr => ?_
  exact (simb_cons (own1 := []) (sim_set sc_piece_index.nd rfl (by first | exact .inl rfl | exact .inr rfl) (sim_call (gf_index_in T) (hr.mono (by decide)) (by rfl) (sima_cons (sim_attr (sim_var (pv 0) (by decide)) (ato_pieces T)) (sima_cons (sim_var (pv 1) (by decide)) sima_nil))))
    (simb_cons (own1 := []) (sim_ifS (sim_cmpT op_isN op2_isN (SimE.r (sim_var (pv 2) (by decide))) (SimE.r sim_non) (nomark _)) (simb_one sim_never) simb_nil)
    (simb_one (sim_ret (sim_var (pv 2) (by decide))))))
abbrev n_with_row : List Str := ["rows", "at", "row"]
theorem sc_with_row : FnScope n_with_row ["rows", "at", "row"] (defScope st_with_row) := ⟨rfl, rfl, rfl, by decide +kernel, rfl, by decide +kernel, by decide +kernel⟩
theorem gf_with_row (T : Txt K mg) : GF P w K mg base 1 "with_row" 3 m_with_row := by
  obtain ⟨fd, F⟩ := fd_with_row T
  refine gf_of (b := b_with_row) (n := 3) (N := n_with_row) F (g_with_row T) sc_with_row rfl (by decide) (fun _ _ _ _ _ _ us hl => match us, hl with | [_, _, _], _ => rfl) fun cdv A outer s H E hr => ?_
  exact (simb_one (sim_ret (sim_tup (sima_star (SimE.r (sim_slice (SimE.r (sim_var (pv 0) (by decide))) sim_noPart (sim_part (sim_var (pv 1) (by decide))))) (sima_cons (sim_var (pv 2) (by decide)) (sima_star (SimE.r (sim_slice (SimE.r (sim_var (pv 0) (by decide))) (sim_part (v_add (SimE.r (sim_var (pv 1) (by decide))) (SimE.r sim_int))) sim_noPart)) sima_nil))))))
abbrev n_with_wanted : List Str := ["shop", "name", "wanted", "at", "row"]
theorem sc_with_wanted : FnScope n_with_wanted ["shop", "name", "wanted"] (defScope st_with_wanted) := ⟨rfl, rfl, rfl, by decide +kernel, rfl, by decide +kernel, by decide +kernel⟩
theorem gf_with_wanted (T : Txt K mg) : GF P w K mg base 7 "with_wanted" 3 m_with_wanted := by
  obtain ⟨fd, F⟩ := fd_with_wanted T
  refine gf_of (b := b_with_wanted) (n := 3) (N := n_with_wanted) F (g_with_wanted T) sc_with_wanted rfl (by decide) (fun _ _ _ _ _ _ us hl => match us, hl with | [_, _, _], _ => rfl) fun cdv A outer s H E hr => ?_
  exact (simb_cons (own1 := []) (sim_set sc_with_wanted.nd rfl (by first | exact .inl rfl | exact .inr rfl) (sim_call (gf_piece_index T) (hr.mono (by decide)) (by rfl) (sima_cons (sim_var (pv 0) (by decide)) (sima_cons (sim_var (pv 1) (by decide)) sima_nil))))
    (simb_cons (own1 := []) (sim_set sc_with_wanted.nd rfl (by first | exact .inl rfl | exact .inr rfl) (sim_tup (sima_cons (sim_var (pv 1) (by decide)) (sima_cons (sim_ix (SimE.r (sim_ix (SimE.r (sim_attr (sim_var (pv 0) (by decide)) (ato_pieces T))) (SimE.r (sim_var (pv 3) (by decide))) (fun _ _ => rfl))) (SimE.r (sim_gint (by rfl) (z_LENGTH_AT T))) (fun _ _ => rfl)) (sima_cons (sim_var (pv 2) (by decide)) sima_nil)))))
    (simb_one (sim_ret (sim_make (gi_Shop T) (hr.mono (by decide)) (by rfl) (sima_cons (sim_attr (sim_var (pv 0) (by decide)) (ato_stocks T)) (sima_cons (sim_call (gf_with_row T) (hr.mono (by decide)) (by rfl) (sima_cons (sim_attr (sim_var (pv 0) (by decide)) (ato_pieces T)) (sima_cons (sim_var (pv 3) (by decide)) (sima_cons (sim_var (pv 4) (by decide)) sima_nil)))) (sima_cons (sim_attr (sim_var (pv 0) (by decide)) (ato_kerf T)) sima_nil))))))))
abbrev n_yield_of : List Str := ["shop", "rods", "lengths", "known"]
theorem sc_yield_of : FnScope n_yield_of ["shop", "rods", "lengths"] (defScope st_yield_of) := ⟨rfl, rfl, rfl, by decide +kernel, rfl, by decide +kernel, by decide +kernel⟩
theorem gf_yield_of (T : Txt K mg) : GF P w K mg base 4 "yield_of" 3 m_yield_of := by
  obtain ⟨fd, F⟩ := fd_yield_of T
  refine gf_of (b := b_yield_of) (n := 3) (N := n_yield_of) F (g_yield_of T) sc_yield_of rfl (by decide) (fun _ _ _ _ _ _ us hl => match us, hl with | [_, _, _], _ => rfl) fun cdv A outer s H E hr => ?_
  exact (simb_cons (own1 := []) (sim_set sc_yield_of.nd rfl (by first | exact .inl rfl | exact .inr rfl) (sim_call (gf_need_rods T) (hr.mono (by decide)) (by rfl) (sima_cons (sim_var (pv 1) (by decide)) sima_nil)))
    (simb_one (sim_ret (sim_callD (gf_yield_by T) (hr.mono (by decide)) (by rfl) (sima_cons (sim_var (pv 0) (by decide)) (sima_cons (sim_call (gf_need_lengths T) (hr.mono (by decide)) (by rfl) (sima_cons (sim_var (pv 3) (by decide)) (sima_cons (sim_var (pv 2) (by decide)) sima_nil))) sima_nil))))))
abbrev n_law : List Str := ["script", "pen", "lap", "shop", "made", "rods", "lengths", "at", "do", "word", "longer", "near", "name", "wanted", "order", "one"]
theorem sc_law : FnScope n_law ["script"] (defScope st_law) := ⟨rfl, rfl, rfl, by decide +kernel, rfl, by decide +kernel, by decide +kernel⟩
theorem fo_law (T : Txt K mg) {fd : FuncData} (F : FunD K "law" "law" (defArgs st_law) (defBody st_law) (defScope st_law) [] [] (He.fAd K ("law", none)) fd) : FnOk P w K mg base CX0 8 (He.fAd K ("law", none)) fd ["script"] (spOf K mg 1 m_law) := by
  refine fo_of (b := b_law) (n := 1) (N := n_law) F sc_law rfl (by decide) fun cdv A outer s H E hr => ?_
  exact (simb_cons (own1 := []) (sim_set sc_law.nd rfl (by first | exact .inl rfl | exact .inr rfl) (sim_call (gf__law_pen T) (hr.mono (by decide)) (by rfl) (sima_cons (sim_var (pv 0) (by decide)) sima_nil)))
    (simb_cons (own1 := []) (sim_for (ownT := []) PassesOwn.never rfl (simi_range1 (by rfl) (z_range T) (sima_cons sim_int sima_nil)) (simg_name sc_law.nd rfl (by first | exact .inl rfl | exact .inr rfl)) (simb_cons (own1 := []) (sim_set sc_law.nd rfl (by first | exact .inl rfl | exact .inr rfl) (sim_call (gf__law_few_shop T) (hr.mono (by decide)) (by rfl) (sima_cons (sim_var (pv 1) (by decide)) (sima_cons sim_int (sima_cons sim_int sima_nil)))))
    (simb_cons (own1 := []) (sim_asg (sim_tup (sima_cons (sim_call (gf__law_made T) (hr.mono (by decide)) (by rfl) (sima_cons (sim_var (pv 3) (by decide)) sima_nil)) (sima_cons (sim_call (gf__law_drawn_rods T) (hr.mono (by decide)) (by rfl) (sima_cons (sim_var (pv 1) (by decide)) (sima_cons sim_int sima_nil))) sima_nil))) (simg_tup rfl (simgs_cons (simg_name sc_law.nd rfl (by first | exact .inl rfl | exact .inr rfl)) (simgs_cons (simg_tup rfl (simgs_cons (simg_name sc_law.nd rfl (by first | exact .inl rfl | exact .inr rfl)) (simgs_cons (simg_name sc_law.nd rfl (by first | exact .inl rfl | exact .inr rfl)) simgs_nil))) simgs_nil))))
    (simb_cons (own1 := []) (sim_par3 (fun h => ps_par3 rfl sc_law.nd rfl rfl rfl (by decide) (by decide) (by decide) rfl rfl rfl h (by with_unfolding_all rfl)) rfl rfl rfl (SimE.x (sim_call (gf__law_draw T) (hr.mono (by decide)) (by rfl) (sima_cons (sim_var (pv 1) (by decide)) (sima_cons (v_len (z_len T) (SimE.r (sim_var (pv 5) (by decide)))) sima_nil)))) (SimE.x (sim_cmp op_notN op2_notN (SimE.r (sim_call (gf_yield_of T) (hr.mono (by decide)) (by rfl) (sima_cons (sim_var (pv 4) (by decide)) (sima_cons (sim_var (pv 5) (by decide)) (sima_cons (sim_var (pv 6) (by decide)) sima_nil))))) (SimE.r sim_non) (nomark _))) (SimE.x (sim_call (gf_outlook T) (hr.mono (by decide)) (by rfl) (sima_cons (sim_var (pv 4) (by decide)) (sima_cons (sim_var (pv 5) (by decide)) sima_nil)))))
    (simb_cons (own1 := []) (sim_ifS (sim_cmpT (op_neD hr.units) op2_ne (SimE.r (sim_var (pv 8) (by decide))) (SimE.r (sim_cmp op_notN op2_notN (SimE.r (sim_callD (gf__law_least_yield T) (hr.mono (by decide)) (by rfl) (sima_cons (sim_var (pv 3) (by decide)) (sima_cons (sim_var (pv 6) (by decide)) sima_nil)))) (SimE.r sim_non) (nomark _))) (nomark _)) (simb_one (sim_ret sim_bl)) simb_nil)
    (simb_cons (own1 := []) (sim_set sc_law.nd rfl (by first | exact .inl rfl | exact .inr rfl) (v_add (SimE.r (v_add (SimE.r (sim_slice (SimE.r (sim_var (pv 6) (by decide))) sim_noPart (sim_part (sim_var (pv 7) (by decide))))) (SimE.r (sim_tup (sima_cons (sim_ix (SimE.r (sim_ix (SimE.r (sim_var (pv 5) (by decide))) (SimE.r (sim_var (pv 7) (by decide))) (fun _ _ => rfl))) (SimE.r sim_int) (fun _ _ => rfl)) sima_nil))))) (SimE.r (sim_slice (SimE.r (sim_var (pv 6) (by decide))) (sim_part (v_add (SimE.r (sim_var (pv 7) (by decide))) (SimE.r sim_int))) sim_noPart))))
    (simb_cons (own1 := []) (sim_ifS (SimW.t (sim_andW (sim_truth (SimE.r (sim_var (pv 8) (by decide)))) (sim_and1 (sim_cmpT op_isN op2_isN (SimE.r (sim_call (gf_yield_of T) (hr.mono (by decide)) (by rfl) (sima_cons (sim_var (pv 4) (by decide)) (sima_cons (sim_var (pv 5) (by decide)) (sima_cons (sim_var (pv 10) (by decide)) sima_nil))))) (SimE.r sim_non) (nomark _))))) (simb_one (sim_ret sim_bl)) simb_nil)
    (simb_cons (own1 := []) (sim_set sc_law.nd rfl (by first | exact .inl rfl | exact .inr rfl) (v_add (SimE.r (v_add (SimE.r (sim_slice (SimE.r (sim_var (pv 5) (by decide))) sim_noPart (sim_part (sim_var (pv 7) (by decide))))) (SimE.r (sim_tup (sima_cons (sim_tup (sima_cons (sim_ix (SimE.r (sim_var (pv 6) (by decide))) (SimE.r (sim_var (pv 7) (by decide))) (fun _ _ => rfl)) (sima_cons (sim_ix (SimE.r (sim_var (pv 6) (by decide))) (SimE.r (sim_var (pv 7) (by decide))) (fun _ _ => rfl)) sima_nil))) sima_nil))))) (SimE.r (sim_slice (SimE.r (sim_var (pv 5) (by decide))) (sim_part (v_add (SimE.r (sim_var (pv 7) (by decide))) (SimE.r sim_int))) sim_noPart))))
    (simb_cons (own1 := []) (sim_ifS (SimW.t (sim_andW (sim_cmpT (op_neD hr.units) op2_ne (SimE.r (sim_var (pv 9) (by decide))) (SimE.r sim_str) (nomark _)) (sim_and1 (sim_cmpT (op_neD hr.units) op2_ne (SimE.r (sim_call (gf_outlook T) (hr.mono (by decide)) (by rfl) (sima_cons (sim_var (pv 4) (by decide)) (sima_cons (sim_var (pv 11) (by decide)) sima_nil)))) (SimE.r (sim_var (pv 9) (by decide))) (nomark _))))) (simb_one (sim_ret sim_bl)) simb_nil)
    (simb_cons (own1 := []) (sim_ifS (SimW.t (sim_orW (SimW.t (sim_andW (sim_cmpT (op_eqD hr.units) op2_eq (SimE.r (sim_var (pv 9) (by decide))) (SimE.r sim_str) (nomark _)) (sim_and1 (sim_cmpT (op_neD hr.units) op2_ne (SimE.r (sim_call (gf_outlook T) (hr.mono (by decide)) (by rfl) (sima_cons (sim_var (pv 4) (by decide)) (sima_cons (v_add (SimE.r (sim_var (pv 5) (by decide))) (SimE.r (sim_tup (sima_cons (sim_tup (sima_cons sim_int (sima_cons sim_int sima_nil))) sima_nil)))) sima_nil)))) (SimE.r sim_str) (nomark _))))) (sim_or1 (SimW.t (sim_andW (sim_cmpT (op_eqD hr.units) op2_eq (SimE.r (sim_var (pv 9) (by decide))) (SimE.r sim_str) (nomark _)) (sim_andW (sim_cmpT op_gt (op2_i2 _) (SimE.r (v_len (z_len T) (SimE.r (sim_var (pv 5) (by decide))))) (SimE.r sim_int) (nomark _)) (sim_and1 (sim_cmpT (op_neD hr.units) op2_ne (SimE.r (sim_call (gf_outlook T) (hr.mono (by decide)) (by rfl) (sima_cons (sim_var (pv 4) (by decide)) (sima_cons (sim_slice (SimE.r (sim_var (pv 5) (by decide))) (sim_part sim_int) sim_noPart) sima_nil)))) (SimE.r sim_str) (nomark _))))))))) (simb_one (sim_ret sim_bl)) simb_nil)
    (simb_cons (own1 := []) (sim_ifS (SimW.t (sim_orW (sim_cmpT op_notBX op2_notBX (SimE.r (sim_call (gf_tells T) (hr.mono (by decide)) (by rfl) (sima_cons (sim_var (pv 4) (by decide)) (sima_cons (sim_var (pv 5) (by decide)) (sima_cons (sim_var (pv 6) (by decide)) (sima_cons (v_tupRg (z_tuple T) (z_range T) (v_len (z_len T) (SimE.r (sim_var (pv 5) (by decide))))) sima_nil)))))) (SimE.r sim_bl) (nomark _)) (sim_or1 (sim_cmpT op_notBX op2_notBX (SimE.r (sim_call (gf_tells T) (hr.mono (by decide)) (by rfl) (sima_cons (sim_var (pv 4) (by decide)) (sima_cons (sim_var (pv 5) (by decide)) (sima_cons (sim_var (pv 6) (by decide)) (sima_cons (sim_call (gf_fewest_measured T) (hr.mono (by decide)) (by rfl) (sima_cons (sim_var (pv 4) (by decide)) (sima_cons (sim_var (pv 5) (by decide)) (sima_cons (sim_var (pv 6) (by decide)) sima_nil)))) sima_nil)))))) (SimE.r sim_bl) (nomark _))))) (simb_one (sim_ret sim_bl)) simb_nil)
    (simb_cons (own1 := []) (sim_ifS (SimW.t (sim_orW (sim_cmpT (op_neD hr.units) op2_ne (SimE.r (sim_cmp (op_neD hr.units) op2_ne (SimE.r (sim_call (gf_outlook T) (hr.mono (by decide)) (by rfl) (sima_cons (sim_var (pv 4) (by decide)) (sima_cons (sim_var (pv 11) (by decide)) sima_nil)))) (SimE.r sim_str) (nomark _))) (SimE.r (sim_call (gf__law_tells T) (hr.mono (by decide)) (by rfl) (sima_cons (sim_var (pv 3) (by decide)) (sima_cons (sim_var (pv 11) (by decide)) (sima_cons (sim_var (pv 6) (by decide)) (sima_cons (sim_tup sima_nil) sima_nil)))))) (nomark _)) (sim_or1 (sim_cmpT (op_neD hr.units) op2_ne (SimE.r (sim_call (gf_tells T) (hr.mono (by decide)) (by rfl) (sima_cons (sim_var (pv 4) (by decide)) (sima_cons (sim_var (pv 5) (by decide)) (sima_cons (sim_var (pv 6) (by decide)) (sima_cons (sim_tup (sima_cons (sim_var (pv 7) (by decide)) sima_nil)) sima_nil)))))) (SimE.r (sim_call (gf_tells T) (hr.mono (by decide)) (by rfl) (sima_cons (sim_var (pv 4) (by decide)) (sima_cons (sim_var (pv 11) (by decide)) (sima_cons (sim_var (pv 6) (by decide)) (sima_cons (sim_tup sima_nil) sima_nil)))))) (nomark _))))) (simb_one (sim_ret sim_bl)) simb_nil)
    (simb_cons (own1 := []) (sim_par2 (fun h => ps_par rfl sc_law.nd rfl rfl (by decide) rfl rfl h (by with_unfolding_all rfl)) rfl rfl (SimE.x (sim_ix (SimE.r (sim_ix (SimE.r (sim_ix (SimE.r (sim_var (pv 3) (by decide))) (SimE.r sim_int) (fun _ _ => rfl))) (SimE.r sim_int) (fun _ _ => rfl))) (SimE.r sim_int) (fun _ _ => rfl))) (SimE.x (sim_ix (SimE.r (sim_ix (SimE.r (sim_ix (SimE.r (sim_var (pv 3) (by decide))) (SimE.r sim_int) (fun _ _ => rfl))) (SimE.r sim_int) (fun _ _ => rfl))) (SimE.r sim_int) (fun _ _ => rfl))))
    (simb_cons (own1 := []) (sim_ifS (SimW.t (sim_andW (sim_truth (SimE.r (sim_var (pv 8) (by decide)))) (sim_andW (sim_cmpT op_gt (op2_i2 _) (SimE.r (sim_var (pv 13) (by decide))) (SimE.r sim_int) (nomark _)) (sim_and1 (sim_cmpT op_isN op2_isN (SimE.r (sim_call (gf_yield_of T) (hr.mono (by decide)) (by rfl) (sima_cons (sim_call (gf_with_wanted T) (hr.mono (by decide)) (by rfl) (sima_cons (sim_var (pv 4) (by decide)) (sima_cons (sim_var (pv 12) (by decide)) (sima_cons (v_sub (SimE.r (sim_var (pv 13) (by decide))) (SimE.r sim_int)) sima_nil)))) (sima_cons (sim_var (pv 5) (by decide)) (sima_cons (sim_var (pv 6) (by decide)) sima_nil))))) (SimE.r sim_non) (nomark _)))))) (simb_one (sim_ret sim_bl)) simb_nil)
    (simb_cons (own1 := []) (sim_set sc_law.nd rfl (by first | exact .inl rfl | exact .inr rfl) (sim_call (gf__law_shuffled T) (hr.mono (by decide)) (by rfl) (sima_cons (sim_var (pv 1) (by decide)) (sima_cons (SimF.ee (f_lstRg (z_list T) (z_range T) (v_len (z_len T) (SimE.r (sim_var (pv 5) (by decide)))))) sima_nil))))
    (simb_one (sim_ifS (sim_cmpT (op_neD hr.units) op2_ne (SimE.r (sim_call (gf_outlook T) (hr.mono (by decide)) (by rfl) (sima_cons (sim_var (pv 4) (by decide)) (sima_cons (SimF.ee (simf_comp (ownc := [("one", 15)]) rfl sc_law.nd (own' := []) (simi_seq (sim_var (pv 14) (by decide))) (blkOk_by (own := [("one", 15)]) (N := n_law) (sc := defScope st_law) (by decide +kernel)) (fun _ _ _ _ _ => (simg_name sc_law.nd rfl (by first | exact .inl rfl | exact .inr rfl))) (fun _ _ _ _ _ => simts_nil) (fun _ _ _ _ _ => (sim_ix (SimE.r (sim_var (pv 5) (by decide))) (SimE.r (sim_var (pv 15) (by decide))) (fun _ _ => rfl))))) sima_nil)))) (SimE.r (sim_var (pv 9) (by decide))) (nomark _)) (simb_one (sim_ret sim_bl)) simb_nil)))))))))))))))))
    (simb_one (sim_ret sim_bl))))
end
end K80
namespace K80
open PySem PySem.Spec PyProof.Rows L2 Ev
abbrev R : PySem.W.OpenRow := PySem.W.OpenLaw.row PySem.Challenge.rw_barscut_k80_rods_that_are_longer
abbrev hk : PySem.W.Hook := hookM 5 fa fn more
def ob (s : PySem.W.SharedT) : Bool × He.AlD := obsMG 5 fa fn more (HandSHeadRun.getT s)
theorem ob_eq (s : PySem.W.SharedT) : ob s = hk.obs s.abs := obsMG_eq (HandSHeadRun.getT_eq s)
theorem run (w : World) : HandSHeadRun.RunEq R (PySem.W.view R.prog [77]) hk ob 4000 names w := by
  intro os
  kernel_rfl
end K80
namespace K80
open PySem PySem.Spec PyProof.Rows L2 Ev
theorem ends {P : Program} {w : World} {K : PySem.W.Frag} {h : Heap} {mg : Str → Option Value} {f : Addr} (X : K.In h) (G : h.Ns mainGlobals mg) (hfa : mg ("law" : Str) = some (.ref f)) (c : He.SaysD fa fn K) (mo : more K = true) :
    ∃ fd : FuncData, (∀ (s : Shared) (v : Value), BindsTo s fd ⟨[v], []⟩ [("script", v)]) ∧ ∀ base : Heap, K.In base → base.Ns mainGlobals mg → FnOk P w K mg base CX0 8 f fd ["script"] (spOf K mg 1 m_law) := by
  obtain ⟨fd, F⟩ := c.def_ 52 (d := d_law) rfl
  have e := hfa.symm.trans (He.glo_ok X G (c.fact 51 (f := .glo "law") rfl))
  cases e
  have b := FunD.bindsA (ps := ["script"]) F fun _ _ _ _ _ _ us hl => match us, hl with | [_], _ => rfl
  exact ⟨fd, fun s v => b s [v] rfl, fun base _ _ => fo_law ⟨h, X, G, c, mo⟩ F⟩
end K80
open PySem PySem.W PySem.Calls PyProof.Rows
theorem PySem.Challenge.cw_barscut_k80_rods_that_are_longer_holds : PySem.Challenge.rw_barscut_k80_rods_that_are_longer.Holds := by
  w_on; o_law
  refine HandSHeadRun.head_any (r := OpenLaw.row PySem.Challenge.rw_barscut_k80_rods_that_are_longer) (q := view (OpenLaw.row PySem.Challenge.rw_barscut_k80_rods_that_are_longer).prog [77]) (H := K80.hk) (ob := K80.ob) (M := 4000) (loose := K80.names) (d := HandSHeadRun.topDef (OpenLaw.row PySem.Challenge.rw_barscut_k80_rods_that_are_longer).prog 77) (kwd := []) K80.ob_eq
    (by kernel_rfl) (fun _ => by kernel_rfl) K80.run (by kernel_rfl) (by kernel_rfl) (by kernel_rfl) (by rfl) (by first | assumption | decide +kernel) (by decide +kernel) ⟨rfl, rfl, rfl, rfl, rfl, by decide +kernel⟩ ?hwit ?hcall
  case hwit => w_witness2
  case hcall =>
    refine L2.walk_ofE (l := PySem.Challenge.rw_barscut_k80_rods_that_are_longer) (n := 63) (k := 8) (x := "script") (CX := L2.CX0) rfl (by decide) (by kernel_rfl) ⟨rfl, by decide, by decide⟩ ?G1 (fun _ _ _ _ q => q)
    intro wd mgl fadr hp Yp Gn hmg0
    obtain ⟨Kf, KX, cs, mo⟩ := Yp
    have hmg : mgl ("law" : PySem.Str) = some (.ref fadr) := by
      have en : (HandSHeadRun.topDef (OpenLaw.row PySem.Challenge.rw_barscut_k80_rods_that_are_longer).prog 77).name = ("law" : PySem.Str) := by kernel_rfl
      rw [← en]
      exact hmg0
    obtain ⟨fd, hb, hF⟩ := K80.ends (P := (PySem.Challenge.rw_barscut_k80_rods_that_are_longer).prog) (w := wd) KX Gn hmg cs mo
    refine ⟨Kf, fd, Ev.spOf Kf mgl 1 K80.m_law, KX, hb, fun H a ns hl _ hS => ?_, hF⟩
    obtain ⟨Sx, ex⟩ := K80.law_ok ns hl
    exact Ev.start_law hS ex
