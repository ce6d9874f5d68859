import PyProof.Rows.All
import Wide.All
import OpenK.AllK
import Wide.FinOn
import HandS.ForMost
import HandS.Gcd
import HandS.Wide
import HandS.TupAny
import HandS.TupMul
import HandS.SortInts
import HandS.Star
import HandS.Style
import HandS.Zip
import HandS.More
import HandS.ForDict
import PySem.Challenge.RW_straylanes_k54_whole_outdoing_by_all_str
set_option Elab.async false
set_option maxRecDepth 100000
set_option maxHeartbeats 4000000
set_option linter.all false
noncomputable section
namespace M
open PySem PySem.Spec PyProof.Rows L2

/-! ## data -/
inductive D where
  | non | bl (b : Bool) | int (i : Int) | str (x : Str) | tup (xs : List D) | ref (n : Nat) | sls (xs : List D) | new (xs : List D)
inductive O where
  | lst (xs : List D) | dic (kvs : List (Key × D))
abbrev Mu := List O
abbrev En := List (Option D)
structure Exn where
  cls : String
  args : List D
inductive Rs (α : Type) where
  | ok (a : α) (μ : Mu) | ex (x : Exn) (μ : Mu) | bad
def Rs.bind {α β : Type} (r : Rs α) (k : α → Mu → Rs β) : Rs β := match r with
  | .ok a μ => k a μ
  | .ex x μ => .ex x μ
  | .bad => .bad
def Rs.sat {α : Type} (r : Rs α) (P : α → Mu → Prop) (N : Exn → Mu → Prop) : Prop := match r with
  | .ok a μ => P a μ
  | .ex x μ => N x μ
  | .bad => False
theorem Rs.sat_bind {α β : Type} {r : Rs α} {k : α → Mu → Rs β} {P : β → Mu → Prop} {N : Exn → Mu → Prop} (h : (r.bind k).sat P N) : r.sat (fun a μ => (k a μ).sat P N) N := by
  cases r <;> exact h
theorem Rs.sat_mono {α : Type} {r : Rs α} {P P' : α → Mu → Prop} {N N' : Exn → Mu → Prop} (h : r.sat P N) (hp : ∀ a μ, P a μ → P' a μ) (hn : ∀ x μ, N x μ → N' x μ) : r.sat P' N' := by
  cases r with
  | ok a μ => exact hp _ _ h
  | ex x μ => exact hn _ _ h
  | bad => exact h

/-! ## how data lies in the abstract heap -/
def Sls (K : PySem.W.Frag) (H : Hp) (a : Addr) (xs : List V) : Prop :=
  (∃ o, H a = some (.frz o (.lst xs))) ∨
    ∃ (o : Obj) (its : Array Value) (n : Nat), K.lookup a = some o ∧ o.cls = .type "list" ∧ o.dict = none ∧ o.data = .seq its n ∧ its.size ≤ sizeLine ∧ Vals xs its.toList
theorem Sls.sq {K : PySem.W.Frag} {H : Hp} {a : Addr} {xs : List V} (h : Sls K H a xs) : SqL K H a xs := by
  rcases h with ⟨o, h⟩ | h
  · exact .inl (.inr ⟨o, h⟩)
  · exact .inr h
mutual
def Rep (K : PySem.W.Frag) (ι : List Addr) (H : Hp) : D → V → Prop
  | .non, v => v = .non
  | .bl b, v => v = .bl b
  | .int i, v => v = .int i
  | .str x, v => v = .str x
  | .tup ds, v => ∃ a xs, v = .ref a ∧ SqT K H a xs ∧ Reps K ι H ds xs
  | .ref n, v => ∃ a, v = .ref a ∧ ι[n]? = some a
  | .sls ds, v => ∃ a xs, v = .ref a ∧ Sls K H a xs ∧ Reps K ι H ds xs
  | .new _, _ => False
def Reps (K : PySem.W.Frag) (ι : List Addr) (H : Hp) : List D → List V → Prop
  | [], vs => vs = []
  | d :: ds, vs => ∃ v r, vs = v :: r ∧ Rep K ι H d v ∧ Reps K ι H ds r
end
/-- a temporary: a list just made, not in the store; or settled data. H0: the heap ahead of its making -/
def RepN (K : PySem.W.Frag) (ι : List Addr) (H H0 : Hp) (d : D) (v : V) : Prop := match d with
  | .new ds => ∃ a xs, v = .ref a ∧ a ∉ ι ∧ H a = some (.lst xs) ∧ H0 a = none ∧ Reps K ι H ds xs
  | d => Rep K ι H d v
def RepO (K : PySem.W.Frag) (ι : List Addr) (H : Hp) : O → Addr → Prop
  | .lst ds, a => ∃ xs, H a = some (.lst xs) ∧ Reps K ι H ds xs
  | .dic kvs, a => ∃ xs, H a = some (.dK xs) ∧ xs.map Prod.fst = kvs.map Prod.fst ∧ Reps K ι H (kvs.map Prod.snd) (xs.map Prod.snd)
structure SM (K : PySem.W.Frag) (ι : List Addr) (H : Hp) (μ : Mu) : Prop where
  nd : ι.Nodup
  len : ι.length = μ.length
  obj : ∀ (n : Nat) (o : O) (a : Addr), μ[n]? = some o → ι[n]? = some a → RepO K ι H o a
structure SE (K : PySem.W.Frag) (ι : List Addr) (H : Hp) (ρ : En) (σ : L2.St) : Prop where
  len : ρ.length = σ.length
  get : ∀ (i : Nat) (d : D), ρ[i]? = some (some d) → ∃ v, σ[i]? = some (some v) ∧ Rep K ι H d v
structure Ext (ι : List Addr) (H : Hp) (ι' : List Addr) (H' : Hp) : Prop where
  new : ∃ nu, ι' = ι ++ nu ∧ ∀ a ∈ nu, H a = none
  keep : ∀ a o, H a = some o → a ∉ ι → H' a = some o
  tups : ∀ a xs, H a = some (.tup xs) → H' a = some (.tup xs)
  frzs : ∀ a o u, H a = some (.frz o u) → H' a = some (.frz o u)
  trk : ∀ a, H' a = none → H a = none

theorem Ext.refl (ι : List Addr) (H : Hp) : Ext ι H ι H := ⟨⟨[], by simp, by simp⟩, fun _ _ h _ => h, fun _ _ h => h, fun _ _ _ h => h, fun _ h => h⟩
theorem Ext.trans {ι ι' ι'' : List Addr} {H H' H'' : Hp} (a : Ext ι H ι' H') (b : Ext ι' H' ι'' H'') : Ext ι H ι'' H'' := by
  obtain ⟨n1, e1, f1⟩ := a.new
  obtain ⟨n2, e2, f2⟩ := b.new
  refine ⟨⟨n1 ++ n2, by rw [e2, e1, List.append_assoc], fun c hc => ?_⟩, fun c o h n => ?_, fun c xs h => b.tups c xs (a.tups c xs h), fun c o u h => b.frzs c o u (a.frzs c o u h), fun c h => a.trk c (b.trk c h)⟩
  · rcases List.mem_append.mp hc with z | z
    · exact f1 c z
    · exact a.trk c (f2 c z)
  · refine b.keep c o (a.keep c o h n) ?_
    rw [e1]
    intro z
    rcases List.mem_append.mp z with z | z
    · exact n z
    · rw [f1 c z] at h; cases h
theorem SqT.ext {K : PySem.W.Frag} {ι ι' : List Addr} {H H' : Hp} {a : Addr} {xs : List V} (e : Ext ι H ι' H') (h : SqT K H a xs) : SqT K H' a xs := by
  rcases h with (h | ⟨o, h⟩) | h
  · exact .inl (.inl (e.tups _ _ h))
  · exact .inl (.inr ⟨o, e.frzs _ _ _ h⟩)
  · exact .inr h
theorem Sls.ext {K : PySem.W.Frag} {ι ι' : List Addr} {H H' : Hp} {a : Addr} {xs : List V} (e : Ext ι H ι' H') (h : Sls K H a xs) : Sls K H' a xs := by
  rcases h with ⟨o, h⟩ | h
  · exact .inl ⟨o, e.frzs _ _ _ h⟩
  · exact .inr h
theorem Ext.ix {ι ι' : List Addr} {H H' : Hp} (e : Ext ι H ι' H') {n : Nat} {a : Addr} (h : ι[n]? = some a) : ι'[n]? = some a := by
  obtain ⟨nu, rfl, _⟩ := e.new
  rw [List.getElem?_append_left (List.getElem?_eq_some_iff.mp h).1]
  exact h
/-- what settled data leans on: tuples, locked lists, numbers of the store -/
structure Sub (ι : List Addr) (H : Hp) (ι' : List Addr) (H' : Hp) : Prop where
  ix : ∀ (n : Nat) (a : Addr), ι[n]? = some a → ι'[n]? = some a
  tups : ∀ a xs, H a = some (.tup xs) → H' a = some (.tup xs)
  frzs : ∀ a o u, H a = some (.frz o u) → H' a = some (.frz o u)
theorem Ext.sub {ι ι' : List Addr} {H H' : Hp} (e : Ext ι H ι' H') : Sub ι H ι' H' := ⟨fun _ _ h => e.ix h, e.tups, e.frzs⟩
mutual
theorem Rep.sub {K : PySem.W.Frag} {ι ι' : List Addr} {H H' : Hp} (e : Sub ι H ι' H') : ∀ (d : D) (v : V), Rep K ι H d v → Rep K ι' H' d v
  | .non, v, h => by simp only [Rep] at h ⊢; exact h
  | .bl b, v, h => by simp only [Rep] at h ⊢; exact h
  | .int i, v, h => by simp only [Rep] at h ⊢; exact h
  | .str x, v, h => by simp only [Rep] at h ⊢; exact h
  | .tup ds, v, h => by
    simp only [Rep] at h ⊢
    obtain ⟨a, xs, rfl, h1, h2⟩ := h
    refine ⟨a, xs, rfl, ?_, Reps.sub e ds xs h2⟩
    rcases h1 with (h | ⟨o, h⟩) | h
    · exact .inl (.inl (e.tups _ _ h))
    · exact .inl (.inr ⟨o, e.frzs _ _ _ h⟩)
    · exact .inr h
  | .ref n, v, h => by
    simp only [Rep] at h ⊢
    obtain ⟨a, rfl, h1⟩ := h
    exact ⟨a, rfl, e.ix _ _ h1⟩
  | .sls ds, v, h => by
    simp only [Rep] at h ⊢
    obtain ⟨a, xs, rfl, h1, h2⟩ := h
    refine ⟨a, xs, rfl, ?_, Reps.sub e ds xs h2⟩
    rcases h1 with ⟨o, h⟩ | h
    · exact .inl ⟨o, e.frzs _ _ _ h⟩
    · exact .inr h
  | .new ds, v, h => by simp only [Rep] at h
theorem Reps.sub {K : PySem.W.Frag} {ι ι' : List Addr} {H H' : Hp} (e : Sub ι H ι' H') : ∀ (ds : List D) (vs : List V), Reps K ι H ds vs → Reps K ι' H' ds vs
  | [], vs, h => by simp only [Reps] at h ⊢; exact h
  | d :: ds, vs, h => by
    simp only [Reps] at h ⊢
    obtain ⟨v, r, rfl, h1, h2⟩ := h
    exact ⟨v, r, rfl, Rep.sub e d v h1, Reps.sub e ds r h2⟩
end
theorem Rep.ext {K : PySem.W.Frag} {ι ι' : List Addr} {H H' : Hp} {d : D} {v : V} (e : Ext ι H ι' H') (h : Rep K ι H d v) : Rep K ι' H' d v := Rep.sub e.sub d v h
theorem Reps.ext {K : PySem.W.Frag} {ι ι' : List Addr} {H H' : Hp} {d : List D} {v : List V} (e : Ext ι H ι' H') (h : Reps K ι H d v) : Reps K ι' H' d v := Reps.sub e.sub d v h
theorem RepN.ext {K : PySem.W.Frag} {ι ι' : List Addr} {H H' H0 : Hp} {d : D} {v : V} (e : Ext ι H ι' H') (h : RepN K ι H H0 d v) : RepN K ι' H' H0 d v := by
  cases d with
  | new ds =>
    obtain ⟨a, xs, rfl, h1, h2, h3, h4⟩ := h
    refine ⟨a, xs, rfl, ?_, e.keep a _ h2 h1, h3, h4.ext e⟩
    obtain ⟨nu, rfl, hn⟩ := e.new
    intro z
    rcases List.mem_append.mp z with z | z
    · exact h1 z
    · rw [hn a z] at h2; cases h2
  | _ => exact Rep.ext e h
theorem RepN.base {K : PySem.W.Frag} {ι : List Addr} {H H1 H0 : Hp} {d : D} {v : V} (e : ∀ a, H1 a = none → H0 a = none) (h : RepN K ι H H1 d v) : RepN K ι H H0 d v := by
  cases d with
  | new ds =>
    obtain ⟨a, xs, rfl, h1, h2, h3, h4⟩ := h
    exact ⟨a, xs, rfl, h1, h2, e a h3, h4⟩
  | _ => exact h
theorem Rep.n {K : PySem.W.Frag} {ι : List Addr} {H H0 : Hp} {d : D} {v : V} (h : Rep K ι H d v) : RepN K ι H H0 d v := by
  cases d with
  | new ds => simp only [Rep] at h
  | _ => exact h
theorem SE.ext {K : PySem.W.Frag} {ι ι' : List Addr} {H H' : Hp} {ρ : En} {σ : L2.St} (e : Ext ι H ι' H') (h : SE K ι H ρ σ) : SE K ι' H' ρ σ :=
  ⟨h.len, fun i d hd => let ⟨v, h1, h2⟩ := h.get i d hd; ⟨v, h1, h2.ext e⟩⟩
theorem SE.set {K : PySem.W.Frag} {ι : List Addr} {H : Hp} {ρ : En} {σ : L2.St} {i : Nat} {d : D} {v : V} (h : SE K ι H ρ σ) (r : Rep K ι H d v) : SE K ι H (ρ.set i (some d)) (σ.set i (some v)) := by
  refine ⟨by rw [List.length_set, List.length_set, h.len], fun j e hj => ?_⟩
  by_cases q : i = j
  · subst q
    by_cases hl : i < ρ.length
    · rw [List.getElem?_set_self hl] at hj
      cases hj
      exact ⟨v, by rw [List.getElem?_set_self (by rw [← h.len]; exact hl)], r⟩
    · rw [List.getElem?_eq_none (by rw [List.length_set]; omega)] at hj; cases hj
  · rw [List.getElem?_set_ne q] at hj
    obtain ⟨w, h1, h2⟩ := h.get j e hj
    exact ⟨w, by rw [List.getElem?_set_ne q]; exact h1, h2⟩
def wipeD (ρ : En) : List Nat → En
  | [] => ρ
  | v :: vs => (wipeD ρ vs).set v none
theorem wipeD_length (ρ : En) : ∀ vs : List Nat, (wipeD ρ vs).length = ρ.length
  | [] => rfl
  | v :: vs => by unfold wipeD; rw [List.length_set, wipeD_length ρ vs]
theorem SE.wipe {K : PySem.W.Frag} {ι : List Addr} {H : Hp} {ρ : En} {σ : L2.St} (h : SE K ι H ρ σ) : ∀ vs : List Nat, SE K ι H (wipeD ρ vs) (wipe σ vs)
  | [] => h
  | v :: vs => by
    have ih := h.wipe vs
    unfold wipeD L2.wipe
    refine ⟨by rw [List.length_set, List.length_set, ih.len], fun j e hj => ?_⟩
    by_cases q : v = j
    · subst q
      by_cases hl : v < (wipeD ρ vs).length
      · rw [List.getElem?_set_self hl] at hj; cases hj
      · rw [List.getElem?_eq_none (by rw [List.length_set]; omega)] at hj; cases hj
    · rw [List.getElem?_set_ne q] at hj
      obtain ⟨w, h1, h2⟩ := ih.get j e hj
      exact ⟨w, by rw [List.getElem?_set_ne q]; exact h1, h2⟩
theorem Reps.len {K : PySem.W.Frag} {ι : List Addr} {H : Hp} : ∀ {ds : List D} {vs : List V}, Reps K ι H ds vs → ds.length = vs.length
  | [], vs, h => by simp only [Reps] at h; subst h; rfl
  | d :: ds, vs, h => by
    simp only [Reps] at h
    obtain ⟨v, r, rfl, _, h2⟩ := h
    simp [Reps.len h2]
theorem Reps.get {K : PySem.W.Frag} {ι : List Addr} {H : Hp} : ∀ {ds : List D} {vs : List V} {i : Nat} {d : D}, Reps K ι H ds vs → ds[i]? = some d → ∃ v, vs[i]? = some v ∧ Rep K ι H d v
  | [], vs, i, d, _, e => by simp at e
  | d :: ds, vs, 0, d', h, e => by
    simp only [Reps] at h
    obtain ⟨v, r, rfl, h1, _⟩ := h
    cases e
    exact ⟨v, rfl, h1⟩
  | d :: ds, vs, i + 1, d', h, e => by
    simp only [Reps] at h
    obtain ⟨v, r, rfl, _, h2⟩ := h
    exact Reps.get (i := i) h2 e
theorem Reps.getV {K : PySem.W.Frag} {ι : List Addr} {H : Hp} {ds : List D} {vs : List V} {i : Nat} {v : V} (h : Reps K ι H ds vs) (e : vs[i]? = some v) : ∃ d, ds[i]? = some d ∧ Rep K ι H d v := by
  have hl := h.len
  have hi := (List.getElem?_eq_some_iff.mp e).1
  have hd : i < ds.length := by omega
  obtain ⟨w, h1, h2⟩ := h.get (List.getElem?_eq_getElem hd)
  rw [e] at h1; cases h1
  exact ⟨_, List.getElem?_eq_getElem hd, h2⟩
theorem Reps.append {K : PySem.W.Frag} {ι : List Addr} {H : Hp} : ∀ {ds es : List D} {vs us : List V}, Reps K ι H ds vs → Reps K ι H es us → Reps K ι H (ds ++ es) (vs ++ us)
  | [], es, vs, us, h, g => by simp only [Reps] at h; subst h; exact g
  | d :: ds, es, vs, us, h, g => by
    simp only [Reps] at h
    obtain ⟨v, r, rfl, h1, h2⟩ := h
    show Reps K ι H (d :: (ds ++ es)) (v :: (r ++ us))
    simp only [Reps]
    exact ⟨v, _, rfl, h1, Reps.append h2 g⟩
theorem Reps.one {K : PySem.W.Frag} {ι : List Addr} {H : Hp} {d : D} {v : V} (h : Rep K ι H d v) : Reps K ι H [d] [v] := by
  simp only [Reps]; exact ⟨v, [], rfl, h, rfl⟩
theorem Reps.set {K : PySem.W.Frag} {ι : List Addr} {H : Hp} {d : D} {v : V} (h : Rep K ι H d v) : ∀ {ds : List D} {vs : List V} (i : Nat), Reps K ι H ds vs → Reps K ι H (ds.set i d) (vs.set i v)
  | [], vs, i, g => by simp only [Reps] at g; subst g; simp only [Reps, List.set_nil]
  | e :: ds, vs, 0, g => by
    simp only [Reps] at g
    obtain ⟨w, r, rfl, _, h2⟩ := g
    simp only [List.set_cons_zero, Reps]; exact ⟨v, r, rfl, h, h2⟩
  | e :: ds, vs, i + 1, g => by
    simp only [Reps] at g
    obtain ⟨w, r, rfl, h1, h2⟩ := g
    simp only [List.set_cons_succ, Reps]; exact ⟨w, _, rfl, h1, Reps.set h i h2⟩
theorem Reps.take {K : PySem.W.Frag} {ι : List Addr} {H : Hp} : ∀ {ds : List D} {vs : List V} (n : Nat), Reps K ι H ds vs → Reps K ι H (ds.take n) (vs.take n)
  | ds, vs, 0, _ => by simp only [List.take_zero, Reps]
  | [], vs, n + 1, h => by simp only [Reps] at h; subst h; simp only [List.take_nil, Reps]
  | d :: ds, vs, n + 1, h => by
    simp only [Reps] at h
    obtain ⟨v, r, rfl, h1, h2⟩ := h
    simp only [List.take_succ_cons, Reps]; exact ⟨v, _, rfl, h1, Reps.take n h2⟩
theorem Reps.drop {K : PySem.W.Frag} {ι : List Addr} {H : Hp} : ∀ {ds : List D} {vs : List V} (n : Nat), Reps K ι H ds vs → Reps K ι H (ds.drop n) (vs.drop n)
  | ds, vs, 0, h => h
  | [], vs, n + 1, h => by simp only [Reps] at h; subst h; simp only [List.drop_nil, Reps]
  | d :: ds, vs, n + 1, h => by
    simp only [Reps] at h
    obtain ⟨v, r, rfl, h1, h2⟩ := h
    simp only [List.drop_succ_cons]; exact Reps.drop n h2
theorem Reps.nil_iff {K : PySem.W.Frag} {ι : List Addr} {H : Hp} {ds : List D} {vs : List V} (h : Reps K ι H ds vs) : vs = [] ↔ ds = [] := by
  have := h.len
  constructor
  · rintro rfl; exact List.eq_nil_of_length_eq_zero this
  · rintro rfl; exact List.eq_nil_of_length_eq_zero this.symm
theorem Reps.eraseIdx {K : PySem.W.Frag} {ι : List Addr} {H : Hp} : ∀ {ds : List D} {vs : List V} (n : Nat), Reps K ι H ds vs → Reps K ι H (ds.eraseIdx n) (vs.eraseIdx n)
  | [], vs, n, h => by simp only [Reps] at h; subst h; simp only [List.eraseIdx_nil, Reps]
  | d :: ds, vs, 0, h => by
    simp only [Reps] at h
    obtain ⟨v, r, rfl, h1, h2⟩ := h
    simp only [List.eraseIdx_cons_zero]; exact h2
  | d :: ds, vs, n + 1, h => by
    simp only [Reps] at h
    obtain ⟨v, r, rfl, h1, h2⟩ := h
    simp only [List.eraseIdx_cons_succ, Reps]; exact ⟨v, _, rfl, h1, Reps.eraseIdx n h2⟩
theorem Reps.reverse {K : PySem.W.Frag} {ι : List Addr} {H : Hp} : ∀ {ds : List D} {vs : List V}, Reps K ι H ds vs → Reps K ι H ds.reverse vs.reverse
  | [], vs, h => by simp only [Reps] at h; subst h; simp only [List.reverse_nil, Reps]
  | d :: ds, vs, h => by
    simp only [Reps] at h
    obtain ⟨v, r, rfl, h1, h2⟩ := h
    rw [List.reverse_cons, List.reverse_cons]
    exact (Reps.reverse h2).append (.one h1)

theorem SM.tracked {K : PySem.W.Frag} {ι : List Addr} {H : Hp} {μ : Mu} (m : SM K ι H μ) {a : Addr} (h : a ∈ ι) : ∃ (n : Nat) (o : O), ι[n]? = some a ∧ μ[n]? = some o ∧ RepO K ι H o a := by
  obtain ⟨n, hn⟩ := List.mem_iff_getElem?.mp h
  have hl : n < μ.length := by rw [← m.len]; exact (List.getElem?_eq_some_iff.mp hn).1
  exact ⟨n, μ[n], hn, List.getElem?_eq_getElem hl, m.obj n _ a (List.getElem?_eq_getElem hl) hn⟩
theorem RepO.some {K : PySem.W.Frag} {ι : List Addr} {H : Hp} {o : O} {a : Addr} (h : RepO K ι H o a) : ∃ u, H a = some u ∧ Mut (some u) := by
  cases o with
  | lst ds => obtain ⟨xs, e, _⟩ := h; exact ⟨_, e, trivial⟩
  | dic kvs => obtain ⟨xs, e, _⟩ := h; exact ⟨_, e, trivial⟩
theorem RepO.sub {K : PySem.W.Frag} {ι ι' : List Addr} {H H' : Hp} {o : O} {a : Addr} (h : RepO K ι H o a) (e : Sub ι H ι' H') (ea : H' a = H a) : RepO K ι' H' o a := by
  cases o with
  | lst ds => obtain ⟨xs, e1, r⟩ := h; exact ⟨xs, by rw [ea]; exact e1, Reps.sub e _ _ r⟩
  | dic kvs => obtain ⟨xs, e1, e2, r⟩ := h; exact ⟨xs, by rw [ea]; exact e1, e2, Reps.sub e _ _ r⟩
/-- something is laid at a free place -/
theorem Ext.laid {ι : List Addr} {H : Hp} {p : Addr} {u : HO} (hp : H p = none) : Ext ι H ι (upd H p u) :=
  ⟨⟨[], by simp, by simp⟩, fun a o h _ => by rw [upd_ne (ne_of_none h hp)]; exact h, fun a o h => by rw [upd_ne (ne_of_none h hp)]; exact h, fun a o u' h => by rw [upd_ne (ne_of_none h hp)]; exact h, fun a h => by
    by_cases q : a = p
    · rw [q]; exact hp
    · rw [upd_ne q] at h; exact h⟩
theorem SM.laid {K : PySem.W.Frag} {ι : List Addr} {H : Hp} {μ : Mu} {p : Addr} {u : HO} (m : SM K ι H μ) (hp : H p = none) : SM K ι (upd H p u) μ :=
  ⟨m.nd, m.len, fun n o a h1 h2 => (m.obj n o a h1 h2).sub (Ext.laid hp).sub (by
    obtain ⟨w, e, _⟩ := (m.obj n o a h1 h2).some
    rw [upd_ne (ne_of_none e hp)])⟩
/-- .. and put into the store -/
theorem SM.push {K : PySem.W.Frag} {ι : List Addr} {H : Hp} {μ : Mu} {p : Addr} {o : O} (m : SM K ι H μ) (hp : p ∉ ι) (ho : RepO K ι H o p) : SM K (ι ++ [p]) H (μ ++ [o]) := by
  have sb : Sub ι H (ι ++ [p]) H := ⟨fun n a h => by rw [List.getElem?_append_left (List.getElem?_eq_some_iff.mp h).1]; exact h, fun _ _ h => h, fun _ _ _ h => h⟩
  refine ⟨List.nodup_append.mpr ⟨m.nd, by simp, fun a ha b hb => by simp at hb; subst hb; rintro rfl; exact hp ha⟩, by simp [m.len], fun n o' a h1 h2 => ?_⟩
  by_cases hn : n < μ.length
  · rw [List.getElem?_append_left hn] at h1
    rw [List.getElem?_append_left (by rw [m.len]; exact hn)] at h2
    exact (m.obj n o' a h1 h2).sub sb rfl
  · rw [List.getElem?_append_right (by omega)] at h1
    rw [List.getElem?_append_right (by rw [m.len]; omega)] at h2
    have e0 : n - μ.length = 0 := by
      by_cases z : n - μ.length = 0
      · exact z
      · rw [List.getElem?_eq_none (by simp; omega)] at h1; cases h1
    rw [e0] at h1
    rw [m.len, e0] at h2
    cases h1
    cases h2
    exact ho.sub sb rfl
theorem not_mem_of_none {K : PySem.W.Frag} {ι : List Addr} {H : Hp} {μ : Mu} (m : SM K ι H μ) {p : Addr} (hp : H p = none) : p ∉ ι := fun h => by
  obtain ⟨n, o, _, _, r⟩ := m.tracked h
  obtain ⟨u, e, _⟩ := r.some
  rw [hp] at e; cases e
/-- an object of the store is written -/
theorem Ext.write {ι : List Addr} {H : Hp} {a : Addr} {u : HO} (ha : a ∈ ι) (hm : ∃ w, H a = some w ∧ Mut (some w)) : Ext ι H ι (upd H a u) := by
  obtain ⟨w, hw, hmu⟩ := hm
  refine ⟨⟨[], by simp, by simp⟩, fun b o h n => ?_, fun b xs h => ?_, fun b o x h => ?_, fun b h => ?_⟩
  · rw [upd_ne (by rintro rfl; exact n ha)]; exact h
  · rw [upd_ne (by rintro rfl; rw [hw] at h; cases h; exact hmu)]; exact h
  · rw [upd_ne (by rintro rfl; rw [hw] at h; cases h; exact hmu)]; exact h
  · by_cases q : b = a
    · subst q; rw [upd_same] at h; cases h
    · rw [upd_ne q] at h; exact h
theorem SM.write {K : PySem.W.Frag} {ι : List Addr} {H : Hp} {μ : Mu} {n : Nat} {a : Addr} {u : HO} {o : O} (m : SM K ι H μ) (ha : ι[n]? = some a) (ho : RepO K ι (upd H a u) o a) : SM K ι (upd H a u) (μ.set n o) := by
  have ham : a ∈ ι := List.mem_of_getElem? ha
  obtain ⟨n', o', h1, h2, r⟩ := m.tracked ham
  have e := Ext.write (u := u) ham r.some
  refine ⟨m.nd, by rw [List.length_set, m.len], fun k o'' b hk hb => ?_⟩
  by_cases q : n = k
  · subst q
    rw [hb] at ha; cases ha
    rw [List.getElem?_set_self (by rw [← m.len]; exact (List.getElem?_eq_some_iff.mp hb).1)] at hk
    cases hk
    exact ho
  · rw [List.getElem?_set_ne q] at hk
    refine (m.obj k o'' b hk hb).sub e.sub ?_
    rw [upd_ne]
    rintro rfl
    obtain ⟨l1, e1⟩ := List.getElem?_eq_some_iff.mp ha
    obtain ⟨l2, e2⟩ := List.getElem?_eq_some_iff.mp hb
    exact q ((List.getElem_inj m.nd).mp (e1.trans e2.symm))
end M

namespace M
open PySem PySem.Spec PyProof.Rows L2

/-! ## judgements -/
abbrev ME := En → Mu → Rs D
abbrev MT := En → Mu → Rs Bool
abbrev MA := En → Mu → Rs (List D)
inductive Fl where
  | nx | bk | ct | rt (d : D)
abbrev MS := En → Mu → Rs (Fl × En)
abbrev XW := Exn → Mu → List Addr → Hp → Prop
def W0 : XW := fun _ _ _ _ => False
def PostX (K : PySem.W.Frag) (ι : List Addr) (H : Hp) (W : XW) : Exn → Mu → Prop := fun x μ' => ∀ ι' H', Ext ι H ι' H' → SM K ι' H' μ' → W x μ' ι' H'
def PostE (K : PySem.W.Frag) (ι : List Addr) (H : Hp) (Q : VK) : D → Mu → Prop := fun d μ' => ∀ ι' H' v, Ext ι H ι' H' → SM K ι' H' μ' → RepN K ι' H' H d v → Q v H'
def PostT (K : PySem.W.Frag) (ι : List Addr) (H : Hp) (Q : Bool → Hp → Prop) : Bool → Mu → Prop := fun b μ' => ∀ ι' H', Ext ι H ι' H' → SM K ι' H' μ' → Q b H'
def PostA (K : PySem.W.Frag) (ι : List Addr) (H : Hp) (Q : List V → Hp → Prop) : List D → Mu → Prop := fun ds μ' => ∀ ι' H' vs, Ext ι H ι' H' → SM K ι' H' μ' → Reps K ι' H' ds vs → Q vs H'
def PostS (K : PySem.W.Frag) (ι : List Addr) (H : Hp) (B : Ends) : Fl × En → Mu → Prop := fun r μ' => ∀ ι' H', Ext ι H ι' H' → SM K ι' H' μ' → match r.1 with
  | .nx => ∀ σ', SE K ι' H' r.2 σ' → B.nx σ' H'
  | .bk => ∀ σ', SE K ι' H' r.2 σ' → B.bk σ' H'
  | .ct => ∀ σ', SE K ι' H' r.2 σ' → B.ct σ' H'
  | .rt d => ∀ v, Rep K ι' H' d v → B.rt v H'
structure DE (X : Cx) (W : XW) (e : Expr) (t : ME) : Prop where
  run : ∃ tt : TE, PE X e tt ∧ ∀ (ι : List Addr) (H : Hp) (ρ : En) (μ : Mu) (σ : L2.St) (Q : VK), SM X.K ι H μ → SE X.K ι H ρ σ → (t ρ μ).sat (PostE X.K ι H Q) (PostX X.K ι H W) → tt σ H Q
structure DT (X : Cx) (W : XW) (e : Expr) (t : MT) : Prop where
  run : ∃ tt : TT, PT X e tt ∧ ∀ (ι : List Addr) (H : Hp) (ρ : En) (μ : Mu) (σ : L2.St) (Q : Bool → Hp → Prop), SM X.K ι H μ → SE X.K ι H ρ σ → (t ρ μ).sat (PostT X.K ι H Q) (PostX X.K ι H W) → tt σ H Q
structure DW (X : Cx) (W : XW) (e : Expr) (t : MT) : Prop where
  run : ∃ tt : TT, PW X e tt ∧ ∀ (ι : List Addr) (H : Hp) (ρ : En) (μ : Mu) (σ : L2.St) (Q : Bool → Hp → Prop), SM X.K ι H μ → SE X.K ι H ρ σ → (t ρ μ).sat (PostT X.K ι H Q) (PostX X.K ι H W) → tt σ H Q
structure DA (X : Cx) (W : XW) (es : List Expr) (t : MA) : Prop where
  run : ∃ tt : TA, PA X es tt ∧ ∀ (ι : List Addr) (H : Hp) (ρ : En) (μ : Mu) (σ : L2.St) (Q : List V → Hp → Prop), SM X.K ι H μ → SE X.K ι H ρ σ → (t ρ μ).sat (PostA X.K ι H Q) (PostX X.K ι H W) → tt σ H Q
structure DK (X : Cx) (W : XW) (es : List Keyword) (t : MA) : Prop where
  run : ∃ tt : TA, PK X es tt ∧ ∀ (ι : List Addr) (H : Hp) (ρ : En) (μ : Mu) (σ : L2.St) (Q : List V → Hp → Prop), SM X.K ι H μ → SE X.K ι H ρ σ → (t ρ μ).sat (PostA X.K ι H Q) (PostX X.K ι H W) → tt σ H Q
structure DS (X : Cx) (W : XW) (e : Stmt) (t : MS) : Prop where
  run : ∃ tt : TS, PS X e tt ∧ ∀ (ι : List Addr) (H : Hp) (ρ : En) (μ : Mu) (σ : L2.St) (B : Ends), SM X.K ι H μ → SE X.K ι H ρ σ → (t ρ μ).sat (PostS X.K ι H B) (PostX X.K ι H W) → tt B σ H
structure DSs (X : Cx) (W : XW) (e : List Stmt) (t : MS) : Prop where
  run : ∃ tt : TS, PSs X e tt ∧ ∀ (ι : List Addr) (H : Hp) (ρ : En) (μ : Mu) (σ : L2.St) (B : Ends), SM X.K ι H μ → SE X.K ι H ρ σ → (t ρ μ).sat (PostS X.K ι H B) (PostX X.K ι H W) → tt B σ H
theorem PostX.ext {K : PySem.W.Frag} {ι ι' : List Addr} {H H' : Hp} {W : XW} (e : Ext ι H ι' H') {x : Exn} {μ : Mu} (h : PostX K ι H W x μ) : PostX K ι' H' W x μ := fun ι2 H2 e2 m2 => h ι2 H2 (e.trans e2) m2
theorem PostE.ext {K : PySem.W.Frag} {ι ι' : List Addr} {H H' : Hp} {Q : VK} (e : Ext ι H ι' H') {d : D} {μ : Mu} (h : PostE K ι H Q d μ) : PostE K ι' H' Q d μ := fun ι2 H2 v e2 m2 r => h ι2 H2 v (e.trans e2) m2 (r.base e.trk)
theorem PostT.ext {K : PySem.W.Frag} {ι ι' : List Addr} {H H' : Hp} {Q : Bool → Hp → Prop} (e : Ext ι H ι' H') {d : Bool} {μ : Mu} (h : PostT K ι H Q d μ) : PostT K ι' H' Q d μ := fun ι2 H2 e2 m2 => h ι2 H2 (e.trans e2) m2
theorem PostS.ext {K : PySem.W.Frag} {ι ι' : List Addr} {H H' : Hp} {Q : Ends} (e : Ext ι H ι' H') {d : Fl × En} {μ : Mu} (h : PostS K ι H Q d μ) : PostS K ι' H' Q d μ := fun ι2 H2 e2 m2 => h ι2 H2 (e.trans e2) m2

/-! ## settling a temporary -/
def settle (d : D) (μ : Mu) : Rs D := match d with
  | .new ds => .ok (.ref μ.length) (μ ++ [.lst ds])
  | d => .ok d μ
theorem settle_ok {K : PySem.W.Frag} {ι0 ι : List Addr} {H0 H : Hp} {μ : Mu} {d : D} {v : V} {P : D → Mu → Prop} {N : Exn → Mu → Prop} (e : Ext ι0 H0 ι H) (m : SM K ι H μ) (r : RepN K ι H H0 d v) (h : (settle d μ).sat P N) :
    ∃ ι' d' μ', P d' μ' ∧ Ext ι0 H0 ι' H ∧ SM K ι' H μ' ∧ Rep K ι' H d' v ∧ Sub ι H ι' H := by
  have same : ∀ d : D, Rep K ι H d v → P d μ → ∃ ι' d' μ', P d' μ' ∧ Ext ι0 H0 ι' H ∧ SM K ι' H μ' ∧ Rep K ι' H d' v ∧ Sub ι H ι' H :=
    fun d r p => ⟨ι, d, μ, p, e, m, r, ⟨fun _ _ h => h, fun _ _ h => h, fun _ _ _ h => h⟩⟩
  cases d with
  | new ds =>
    obtain ⟨a, xs, rfl, h1, h2, h3, h4⟩ := r
    refine ⟨ι ++ [a], .ref μ.length, μ ++ [.lst ds], (show P (.ref μ.length) (μ ++ [.lst ds]) from h), ?_, m.push (o := .lst ds) h1 ⟨xs, h2, h4⟩, ?_, ⟨fun n b q => ?_, fun _ _ q => q, fun _ _ _ q => q⟩⟩
    · obtain ⟨nu, rfl, hn⟩ := e.new
      refine ⟨⟨nu ++ [a], by rw [List.append_assoc], fun b hb => ?_⟩, e.keep, e.tups, e.frzs, e.trk⟩
      rcases List.mem_append.mp hb with z | z
      · exact hn b z
      · simp at z; subst z; exact h3
    · simp only [Rep]
      exact ⟨a, rfl, by rw [← m.len, List.getElem?_append_right (Nat.le_refl _)]; simp⟩
    · rw [List.getElem?_append_left (List.getElem?_eq_some_iff.mp q).1]; exact q
  | non => exact same _ r h
  | bl b => exact same _ r h
  | int i => exact same _ r h
  | str x => exact same _ r h
  | tup xs => exact same _ r h
  | ref n => exact same _ r h
  | sls xs => exact same _ r h

/-! ## names, constants -/
section
variable {X : Cx} {W : XW} {pos : Pos} {a b c e : Expr}
def mVar (i : Nat) : ME := fun ρ μ => match ρ[i]? with
  | some (some d) => .ok d μ
  | _ => .bad
def mC (d : D) : ME := fun _ μ => .ok d μ
theorem de_var (i : Nat) {x : Str} (h : PE X (.Name x pos) (tVar i)) : DE X W (.Name x pos) (mVar i) := by
  refine ⟨_, h, fun ι H ρ μ σ Q m s q => ?_⟩
  unfold mVar at q
  split at q
  · rename_i d hd
    obtain ⟨v, h1, h2⟩ := s.get i d hd
    exact ⟨v, h1, q ι H v (.refl _ _) m h2.n⟩
  · exact q.elim
theorem de_c {d : D} {v : V} (h : PE X e (tC v)) (r : ∀ ι H, Rep X.K ι H d v) : DE X W e (mC d) :=
  ⟨_, h, fun ι H ρ μ σ Q m s q => q ι H v (.refl _ _) m (r ι H).n⟩
theorem de_int {i : Int} {j} : DE X W (.Constant (.int i) j pos) (mC (.int i)) := de_c pe_int fun _ _ => by simp only [Rep]
theorem de_bl {b : Bool} {j} : DE X W (.Constant (.bool b) j pos) (mC (.bl b)) := de_c pe_bl fun _ _ => by simp only [Rep]
theorem de_non {j} : DE X W (.Constant .none j pos) (mC .non) := de_c pe_non fun _ _ => by simp only [Rep]
theorem de_str {x : Str} {j} : DE X W (.Constant (.str x) j pos) (mC (.str x)) := de_c pe_str fun _ _ => by simp only [Rep]

/-! ## operations -/
abbrev MO := D → D → Mu → Rs D
def DOp (X : Cx) (f : Value → Value → Sem Value) (o : MO) : Prop := ∃ r : R2, OpR X f r ∧ ∀ (ι : List Addr) (H Ha Hb : Hp) (μ : Mu) (x y : D) (v u : V) (Q : VK), SM X.K ι H μ → RepN X.K ι H Ha x v → RepN X.K ι H Hb y u →
  (o x y μ).sat (PostE X.K ι H Q) (fun _ _ => False) → r v u H Q
/-- nothing is raised -/
def noex {α : Type} (r : Rs α) : Rs α := match r with
  | .ok d μ => .ok d μ
  | _ => .bad
def mOp (o : MO) (ta tb : ME) : ME := fun ρ μ => (ta ρ μ).bind fun x μ1 => (tb ρ μ1).bind fun y μ2 => noex (o x y μ2)
theorem sat_noex {α : Type} {r : Rs α} {P : α → Mu → Prop} {N : Exn → Mu → Prop} (h : (noex r).sat P N) : r.sat P (fun _ _ => False) := by
  cases r with
  | ok d μ => exact h
  | ex x μ => exact h
  | bad => exact h
/-- two operands, then something -/
theorem two_ok {ta tb : ME} {tA tB : TE} {k : D → D → Mu → Rs D} (hA : ∀ (ι : List Addr) (H : Hp) (ρ : En) (μ : Mu) (σ : L2.St) (Q : VK), SM X.K ι H μ → SE X.K ι H ρ σ → (ta ρ μ).sat (PostE X.K ι H Q) (PostX X.K ι H W) → tA σ H Q)
    (hB : ∀ (ι : List Addr) (H : Hp) (ρ : En) (μ : Mu) (σ : L2.St) (Q : VK), SM X.K ι H μ → SE X.K ι H ρ σ → (tb ρ μ).sat (PostE X.K ι H Q) (PostX X.K ι H W) → tB σ H Q)
    {ι : List Addr} {H : Hp} {ρ : En} {μ : Mu} {σ : L2.St} {P : D → Mu → Prop} {R : V → V → Hp → Prop} (m : SM X.K ι H μ) (s : SE X.K ι H ρ σ)
    (q : ((ta ρ μ).bind fun x μ1 => (tb ρ μ1).bind fun y μ2 => k x y μ2).sat P (PostX X.K ι H W))
    (hR : ∀ ι1 H1 ι2 H2 x y μ2 v u, Ext ι H ι1 H1 → Ext ι1 H1 ι2 H2 → SM X.K ι2 H2 μ2 → RepN X.K ι2 H2 H x v → RepN X.K ι2 H2 H1 y u → (k x y μ2).sat P (PostX X.K ι H W) → R v u H2) :
    tA σ H fun v H1 => tB σ H1 fun u H2 => R v u H2 := by
  refine hA ι H ρ μ σ _ m s (Rs.sat_mono (Rs.sat_bind q) (fun x μ1 q1 ι1 H1 v e1 m1 r1 => ?_) fun _ _ h => h)
  refine hB ι1 H1 ρ μ1 σ _ m1 (s.ext e1) (Rs.sat_mono (Rs.sat_bind q1) (fun y μ2 q2 ι2 H2 u e2 m2 r2 => ?_) fun _ _ h => h.ext e1)
  exact hR ι1 H1 ι2 H2 x y μ2 v u e1 e2 m2 (r1.ext e2) r2 q2
theorem de_op {op : Operator} {o : MO} {ta tb : ME} (ho : DOp X (binaryOp op) o) (ha : DE X W a ta) (hb : DE X W b tb) : DE X W (.BinOp a op b pos) (mOp o ta tb) := by
  obtain ⟨r, hr, hs⟩ := ho
  obtain ⟨tA, pA, hA⟩ := ha.run
  obtain ⟨tB, pB, hB⟩ := hb.run
  refine ⟨_, pe_op hr pA pB, fun ι H ρ μ σ Q m s q => ?_⟩
  refine two_ok hA hB m s q fun ι1 H1 ι2 H2 x y μ2 v u e1 e2 m2 rx ry q2 => ?_
  exact hs ι2 H2 _ _ μ2 x y v u Q m2 rx ry (Rs.sat_mono (sat_noex q2) (fun _ _ h => h.ext (e1.trans e2)) fun _ _ h => h)
theorem de_cmp {op : CmpOp} {o : MO} {ta tb : ME} (ho : DOp X (compareOp op) o) (ha : DE X W a ta) (hb : DE X W b tb) (hm : behindInMarks op b = false) : DE X W (.Compare a [op] [b] pos) (mOp o ta tb) := by
  obtain ⟨r, hr, hs⟩ := ho
  obtain ⟨tA, pA, hA⟩ := ha.run
  obtain ⟨tB, pB, hB⟩ := hb.run
  refine ⟨_, pe_cmpR hr pA pB hm, fun ι H ρ μ σ Q m s q => ?_⟩
  refine two_ok hA hB m s q fun ι1 H1 ι2 H2 x y μ2 v u e1 e2 m2 rx ry q2 => ?_
  exact hs ι2 H2 _ _ μ2 x y v u Q m2 rx ry (Rs.sat_mono (sat_noex q2) (fun _ _ h => h.ext (e1.trans e2)) fun _ _ h => h)
theorem de_ix {o : MO} {ta tb : ME} (ho : ∃ r : R2, IxR X r ∧ ∀ (ι : List Addr) (H Ha Hb : Hp) (μ : Mu) (x y : D) (v u : V) (Q : VK), SM X.K ι H μ → RepN X.K ι H Ha x v → RepN X.K ι H Hb y u →
    (o x y μ).sat (PostE X.K ι H Q) (fun _ _ => False) → r v u H Q) (ha : DE X W a ta) (hb : DE X W b tb) (hs : PlainIx b) : DE X W (.Subscript a b pos) (mOp o ta tb) := by
  obtain ⟨r, hr, hs'⟩ := ho
  obtain ⟨tA, pA, hA⟩ := ha.run
  obtain ⟨tB, pB, hB⟩ := hb.run
  refine ⟨_, pe_ix hr pA pB hs, fun ι H ρ μ σ Q m s q => ?_⟩
  refine two_ok hA hB m s q fun ι1 H1 ι2 H2 x y μ2 v u e1 e2 m2 rx ry q2 => ?_
  exact hs' ι2 H2 _ _ μ2 x y v u Q m2 rx ry (Rs.sat_mono (sat_noex q2) (fun _ _ h => h.ext (e1.trans e2)) fun _ _ h => h)
theorem OpR.or' {f : Value → Value → Sem Value} {r r' : R2} (h : OpR X f r) (h' : OpR X f r') : OpR X f (fun x y H Q => r x y H Q ∨ r' x y H Q) := by
  intro pins s σ H x y v u Q I rx ry q
  rcases q with q | q
  · exact h pins s σ H x y v u Q I rx ry q
  · exact h' pins s σ H x y v u Q I rx ry q

/-! what a sequence holds -/
def cont (d : D) (μ : Mu) : Option (List D) := match d with
  | .tup ds => some ds
  | .sls ds => some ds
  | .new ds => some ds
  | .ref n => match μ[n]? with
    | some (.lst ds) => some ds
    | _ => none
  | _ => none
/-- .. of a list -/
def contL (d : D) (μ : Mu) : Option (List D) := match d with
  | .tup _ => none
  | d => cont d μ
theorem contL_ok {ι : List Addr} {H H0 : Hp} {μ : Mu} {d : D} {v : V} {ds : List D} (m : SM X.K ι H μ) (r : RepN X.K ι H H0 d v) (h : contL d μ = some ds) : ∃ a xs, v = .ref a ∧ SqL X.K H a xs ∧ Reps X.K ι H ds xs := by
  cases d with
  | new es =>
    obtain ⟨a, xs, rfl, h1, h2, h3, h4⟩ := r
    cases h
    exact ⟨a, xs, rfl, .of h2, h4⟩
  | ref n =>
    have r : Rep X.K ι H (.ref n) v := r
    simp only [Rep] at r
    obtain ⟨a, rfl, ha⟩ := r
    simp only [contL, cont] at h
    split at h
    · rename_i es he
      cases h
      obtain ⟨xs, h1, h2⟩ := m.obj n _ a he ha
      exact ⟨a, xs, rfl, .of h1, h2⟩
    · cases h
  | sls es =>
    have r : Rep X.K ι H (.sls es) v := r
    simp only [Rep] at r
    obtain ⟨a, xs, rfl, h1, h2⟩ := r
    cases h
    exact ⟨a, xs, rfl, h1.sq, h2⟩
  | tup es => cases h
  | non => cases h
  | bl b => cases h
  | int i => cases h
  | str x => cases h
/-- .. of a list that may be written -/
def contM (d : D) (μ : Mu) : Option (List D) := match d with
  | .new ds => some ds
  | .ref n => match μ[n]? with
    | some (.lst ds) => some ds
    | _ => none
  | _ => none
theorem contM_ok {ι : List Addr} {H H0 : Hp} {μ : Mu} {d : D} {v : V} {ds : List D} (m : SM X.K ι H μ) (r : RepN X.K ι H H0 d v) (h : contM d μ = some ds) : ∃ a xs, v = .ref a ∧ H a = some (.lst xs) ∧ Reps X.K ι H ds xs := by
  cases d with
  | new es =>
    obtain ⟨a, xs, rfl, h1, h2, h3, h4⟩ := r
    cases h
    exact ⟨a, xs, rfl, h2, h4⟩
  | ref n =>
    have r : Rep X.K ι H (.ref n) v := r
    simp only [Rep] at r
    obtain ⟨a, rfl, ha⟩ := r
    simp only [contM] at h
    split at h
    · rename_i es he
      cases h
      obtain ⟨xs, h1, h2⟩ := m.obj n _ a he ha
      exact ⟨a, xs, rfl, h1, h2⟩
    · cases h
  | sls es => cases h
  | tup es => cases h
  | non => cases h
  | bl b => cases h
  | int i => cases h
  | str x => cases h
theorem cont_ok {ι : List Addr} {H H0 : Hp} {μ : Mu} {d : D} {v : V} {ds : List D} (m : SM X.K ι H μ) (r : RepN X.K ι H H0 d v) (h : cont d μ = some ds) : ∃ a xs, v = .ref a ∧ (SqL X.K H a xs ∨ SqT X.K H a xs) ∧ Reps X.K ι H ds xs := by
  cases d with
  | tup es =>
    have r : Rep X.K ι H (.tup es) v := r
    simp only [Rep] at r
    obtain ⟨a, xs, rfl, h1, h2⟩ := r
    cases h
    exact ⟨a, xs, rfl, .inr h1, h2⟩
  | new es => obtain ⟨a, xs, e, h1, h2⟩ := contL_ok m r (show contL (.new es) μ = some ds from h); exact ⟨a, xs, e, .inl h1, h2⟩
  | ref n => obtain ⟨a, xs, e, h1, h2⟩ := contL_ok m r (show contL (.ref n) μ = some ds from h); exact ⟨a, xs, e, .inl h1, h2⟩
  | sls es => obtain ⟨a, xs, e, h1, h2⟩ := contL_ok m r (show contL (.sls es) μ = some ds from h); exact ⟨a, xs, e, .inl h1, h2⟩
  | non => cases h
  | bl b => cases h
  | int i => cases h
  | str x => cases h
/-- a list just made is handed on as a temporary -/
theorem post_new {ι : List Addr} {H : Hp} {μ : Mu} {ds : List D} {xs : List V} {p : Addr} {Q : VK} (m : SM X.K ι H μ) (hp : H p = none) (r : Reps X.K ι H ds xs) (q : PostE X.K ι H Q (.new ds) μ) : Q (.ref p) (upd H p (.lst xs)) :=
  q ι _ _ (.laid hp) (m.laid hp) ⟨p, xs, rfl, not_mem_of_none m hp, upd_same, hp, r.ext (.laid hp)⟩
theorem post_tup {ι : List Addr} {H : Hp} {μ : Mu} {ds : List D} {xs : List V} {p : Addr} {Q : VK} (m : SM X.K ι H μ) (hp : H p = none) (r : Reps X.K ι H ds xs) (q : PostE X.K ι H Q (.tup ds) μ) : Q (.ref p) (upd H p (.tup xs)) := by
  refine q ι _ _ (.laid hp) (m.laid hp) (Rep.n ?_)
  simp only [Rep]
  exact ⟨p, xs, rfl, .of upd_same, r.ext (.laid hp)⟩
theorem post_same {ι : List Addr} {H : Hp} {μ : Mu} {d : D} {v : V} {Q : VK} (m : SM X.K ι H μ) (r : Rep X.K ι H d v) (q : PostE X.K ι H Q d μ) : Q v H := q ι H v (.refl _ _) m r.n

def oAdd : MO
  | .int i, .int j, μ => .ok (.int (i + j)) μ
  | .str x, .str y, μ => if x.length + y.length ≤ sizeLine then .ok (.str (x ++ y)) μ else .bad
  | .tup xs, .tup ys, μ => if xs.length + ys.length ≤ sizeLine then .ok (.tup (xs ++ ys)) μ else .bad
  | x, y, μ => match contM x μ, contM y μ with
    | some xs, some ys => if xs.length + ys.length ≤ sizeLine then .ok (.new (xs ++ ys)) μ else .bad
    | _, _ => .bad
theorem repN_int {K : PySem.W.Frag} {ι : List Addr} {H H0 : Hp} {i : Int} {v : V} (r : RepN K ι H H0 (.int i) v) : v = .int i := by
  have r : Rep K ι H (.int i) v := r
  simpa only [Rep] using r
theorem repN_str {K : PySem.W.Frag} {ι : List Addr} {H H0 : Hp} {i : Str} {v : V} (r : RepN K ι H H0 (.str i) v) : v = .str i := by
  have r : Rep K ι H (.str i) v := r
  simpa only [Rep] using r
theorem repN_bl {K : PySem.W.Frag} {ι : List Addr} {H H0 : Hp} {i : Bool} {v : V} (r : RepN K ι H H0 (.bl i) v) : v = .bl i := by
  have r : Rep K ι H (.bl i) v := r
  simpa only [Rep] using r
theorem repN_tup {K : PySem.W.Frag} {ι : List Addr} {H H0 : Hp} {ds : List D} {v : V} (r : RepN K ι H H0 (.tup ds) v) : ∃ a xs, v = .ref a ∧ SqT K H a xs ∧ Reps K ι H ds xs := by
  have r : Rep K ι H (.tup ds) v := r
  simpa only [Rep] using r
theorem rep_int {K : PySem.W.Frag} {ι : List Addr} {H : Hp} (i : Int) : Rep K ι H (.int i) (.int i) := by simp only [Rep]
theorem rep_bl {K : PySem.W.Frag} {ι : List Addr} {H : Hp} (i : Bool) : Rep K ι H (.bl i) (.bl i) := by simp only [Rep]
theorem rep_str {K : PySem.W.Frag} {ι : List Addr} {H : Hp} (i : Str) : Rep K ι H (.str i) (.str i) := by simp only [Rep]
end
end M

namespace M
open PySem PySem.Spec PyProof.Rows L2
section
variable {X : Cx} {W : XW} {pos : Pos} {a b c e : Expr}

/-! ## arithmetic -/
theorem dop_of {f : Value → Value → Sem Value} {o : MO} {r : R2} (hr : OpR X f r) (h : ∀ (ι : List Addr) (H Ha Hb : Hp) (μ : Mu) (x y : D) (v u : V) (Q : VK), SM X.K ι H μ → RepN X.K ι H Ha x v → RepN X.K ι H Hb y u →
  (o x y μ).sat (PostE X.K ι H Q) (fun _ _ => False) → r v u H Q) : DOp X f o := ⟨r, hr, h⟩
theorem dop_add : DOp X (binaryOp .Add) oAdd := by
  refine dop_of (OpR.or' (OpR.or' op_add op_add_str) (OpR.or' op_catA op_cat)) fun ι H Ha Hb μ x y v u Q m rx ry q => ?_
  have lists : ∀ xs ys, contM x μ = some xs → contM y μ = some ys → (if xs.length + ys.length ≤ sizeLine then Rs.ok (D.new (xs ++ ys)) μ else .bad).sat (PostE X.K ι H Q) (fun _ _ => False) → rCat v u H Q := by
    intro xs ys hx hy q
    split at q
    · rename_i hz
      obtain ⟨l, vs, rfl, h1, h2⟩ := contM_ok m rx hx
      obtain ⟨k, us, rfl, g1, g2⟩ := contM_ok m ry hy
      exact ⟨l, k, vs, us, rfl, rfl, h1, g1, by rw [← h2.len, ← g2.len]; exact hz, fun p hp => post_new m hp (h2.append g2) q⟩
    · exact q.elim
  have rest : (match contM x μ, contM y μ with
    | some xs, some ys => if xs.length + ys.length ≤ sizeLine then Rs.ok (D.new (xs ++ ys)) μ else .bad
    | _, _ => .bad).sat (PostE X.K ι H Q) (fun _ _ => False) → rCat v u H Q := by
    intro q
    split at q
    · rename_i xs ys hx hy
      exact lists xs ys hx hy q
    · exact q.elim
  unfold oAdd at q
  split at q
  · have e1 := repN_int rx
    have e2 := repN_int ry
    subst e1 e2
    exact .inl (.inl ⟨_, _, rfl, rfl, post_same m (rep_int _) q⟩)
  · have e1 := repN_str rx
    have e2 := repN_str ry
    subst e1 e2
    split at q
    · rename_i hz
      exact .inl (.inr ⟨_, _, rfl, rfl, hz, post_same m (rep_str _) q⟩)
    · exact q.elim
  · obtain ⟨l, vs, rfl, h1, h2⟩ := repN_tup rx
    obtain ⟨k, us, rfl, g1, g2⟩ := repN_tup ry
    split at q
    · rename_i xs ys hz
      refine .inr (.inl ⟨l, k, vs, us, rfl, rfl, h1, g1, by rw [← h2.len, ← g2.len]; exact hz, fun e => ?_, fun _ e => ?_, fun _ _ p hp => post_tup m hp (h2.append g2) q⟩)
      · have e' := h2.nil_iff.mp e
        subst e'
        exact post_same m (by simp only [Rep]; exact ⟨k, us, rfl, g1, g2⟩) q
      · have e' := g2.nil_iff.mp e
        subst e'
        rw [List.append_nil] at q
        exact post_same m (by simp only [Rep]; exact ⟨l, vs, rfl, h1, h2⟩) q
    · exact q.elim
  · exact .inr (.inr (rest q))
def oInt (f : Int → Int → Option Int) : MO
  | .int i, .int j, μ => match f i j with
    | some k => .ok (.int k) μ
    | none => .bad
  | _, _, _ => .bad
def oIntB (f : Int → Int → Bool) : MO
  | .int i, .int j, μ => .ok (.bl (f i j)) μ
  | _, _, _ => .bad
theorem dop_int {f : Value → Value → Sem Value} {g : Int → Int → Option Int} {C : Int → Int → Prop} {k : Int → Int → Int} (hr : OpR X f (rI C fun i j => .int (k i j))) (hg : ∀ i j z, g i j = some z → C i j ∧ z = k i j) : DOp X f (oInt g) := by
  refine dop_of hr fun ι H Ha Hb μ x y v u Q m rx ry q => ?_
  unfold oInt at q
  split at q
  · have e1 := repN_int rx
    have e2 := repN_int ry
    subst e1 e2
    split at q
    · rename_i z hz
      obtain ⟨h1, rfl⟩ := hg _ _ _ hz
      exact ⟨_, _, rfl, rfl, h1, post_same m (rep_int _) q⟩
    · exact q.elim
  · exact q.elim
theorem dop_intB {f : Value → Value → Sem Value} {g : Int → Int → Bool} (hr : OpR X f (rI0 fun i j => .bl (g i j))) : DOp X f (oIntB g) := by
  refine dop_of hr fun ι H Ha Hb μ x y v u Q m rx ry q => ?_
  unfold oIntB at q
  split at q
  · have e1 := repN_int rx
    have e2 := repN_int ry
    subst e1 e2
    exact ⟨_, _, rfl, rfl, post_same m (rep_bl _) q⟩
  · exact q.elim
abbrev oSub : MO := oInt fun i j => some (i - j)
theorem dop_sub : DOp X (binaryOp .Sub) oSub := by
  refine dop_of op_sub fun ι H Ha Hb μ x y v u Q m rx ry q => ?_
  unfold oSub oInt at q
  split at q
  · have e1 := repN_int rx
    have e2 := repN_int ry
    subst e1 e2
    exact ⟨_, _, rfl, rfl, post_same m (rep_int _) q⟩
  · exact q.elim
def MulOk (i j : Int) : Prop := ((-(2 ^ 64) < i ∧ i < 2 ^ 64) ∨ (-(2 ^ 64) < j ∧ j < 2 ^ 64)) ∨ i.natAbs.log2 + j.natAbs.log2 < 1000000
instance (i j : Int) : Decidable (MulOk i j) := by unfold MulOk; infer_instance
/-! tests that do not compute: their decision is hidden, so that no unification runs into great literals -/
def mulBI (i j : Int) : Bool := decide (MulOk i j)
noncomputable def mulB (i j : Int) : Bool := @decide (MulOk i j) (Classical.propDecidable _)
theorem mulB_iff {i j : Int} : mulB i j = true ↔ (MulOk i j) := @decide_eq_true_iff _ (Classical.propDecidable _)
def sm63BI (k : Int) : Bool := decide (-(2 ^ 63) ≤ k ∧ k < 2 ^ 63)
noncomputable def sm63B (k : Int) : Bool := @decide (-(2 ^ 63) ≤ k ∧ k < 2 ^ 63) (Classical.propDecidable _)
theorem sm63B_iff {k : Int} : sm63B k = true ↔ (-(2 ^ 63) ≤ k ∧ k < 2 ^ 63) := @decide_eq_true_iff _ (Classical.propDecidable _)
theorem op_mulA : OpR X (binaryOp .Mult) (rI MulOk fun i j => .int (i * j)) := opI fun _ _ _ _ _ _ _ hc q => mul_int q (by
  rcases hc with h | h
  · exact CMul.ok h
  · exact CMulW.ok h)
/-- t * k of a tuple -/
def oMul : MO
  | .int i, .int j, μ => if mulB i j = true then .ok (.int (i * j)) μ else .bad
  | .tup xs, .int k, μ => if xs ≠ [] ∧ 2 ≤ k ∧ k ≤ 1000 ∧ xs.length ≤ 1000 then .ok (.tup (List.replicate k.toNat xs).flatten) μ else .bad
  | x, .int k, μ => match contM x μ with
    | some xs => if sm63B k = true ∧ xs.length * k.toNat ≤ sizeLine then .ok (.new (List.replicate k.toNat xs).flatten) μ else .bad
    | none => .bad
  | _, _, _ => .bad
theorem reps_rep {K : PySem.W.Frag} {ι : List Addr} {H : Hp} {ds : List D} {vs : List V} (h : Reps K ι H ds vs) : ∀ k : Nat, Reps K ι H (List.replicate k ds).flatten (List.replicate k vs).flatten
  | 0 => by simp only [List.replicate_zero, List.flatten_nil, Reps]
  | k + 1 => by
    rw [List.replicate_succ, List.replicate_succ, List.flatten_cons, List.flatten_cons]
    exact h.append (reps_rep h k)
theorem dop_mul : DOp X (binaryOp .Mult) oMul := by
  refine dop_of (OpR.or' op_mulA (OpR.or' op_repT op_rep)) fun ι H Ha Hb μ x y v u Q m rx ry q => ?_
  unfold oMul at q
  split at q
  · have e1 := repN_int rx
    have e2 := repN_int ry
    subst e1 e2
    split at q
    · rename_i hz
      exact .inl ⟨_, _, rfl, rfl, mulB_iff.mp hz, post_same m (rep_int _) q⟩
    · exact q.elim
  · have e2 := repN_int ry
    subst e2
    obtain ⟨l, vs, rfl, h1, h2⟩ := repN_tup rx
    split at q
    · rename_i xs k hz
      exact .inr (.inl ⟨l, k, vs, rfl, rfl, h1, fun z => hz.1 (h2.nil_iff.mp z), hz.2.1, hz.2.2.1, by rw [← h2.len]; exact hz.2.2.2, fun p hp => post_tup m hp (reps_rep h2 _) q⟩)
    · exact q.elim
  · have e2 := repN_int ry
    subst e2
    split at q
    · rename_i xs hx
      split at q
      · rename_i hz
        obtain ⟨l, vs, rfl, h1, h2⟩ := contM_ok m rx hx
        exact .inr (.inr ⟨l, _, vs, rfl, rfl, h1, (sm63B_iff.mp hz.1).1, (sm63B_iff.mp hz.1).2, by rw [← h2.len]; exact hz.2, fun p hp => post_new m hp (reps_rep h2 _) q⟩)
      · exact q.elim
    · exact q.elim
  · exact q.elim
abbrev oFdiv : MO := oInt fun i j => if 0 < j ∧ j.natAbs.log2 < 9000 then some (i / j) else none
theorem dop_fdiv : DOp X (binaryOp .FloorDiv) oFdiv := dop_int op_fdivW fun i j z h => by
  split at h
  · rename_i hc
    cases h
    exact ⟨hc, rfl⟩
  · cases h
abbrev oMod : MO := oInt fun i j => if 0 < j then some (i % j) else none
theorem dop_mod : DOp X (binaryOp .Mod) oMod := dop_int op_mod fun i j z h => by
  split at h
  · rename_i hc
    cases h
    exact ⟨hc, rfl⟩
  · cases h
def PowOk (i j : Int) : Prop := 0 ≤ j ∧ j ≤ 1000000 ∧ i.natAbs < 2 ^ 64
instance (i j : Int) : Decidable (PowOk i j) := by unfold PowOk; infer_instance
def powBI (i j : Int) : Bool := decide (PowOk i j)
noncomputable def powB (i j : Int) : Bool := @decide (PowOk i j) (Classical.propDecidable _)
theorem powB_iff {i j : Int} : powB i j = true ↔ (PowOk i j) := @decide_eq_true_iff _ (Classical.propDecidable _)
abbrev oPow : MO := oInt fun i j => if powB i j = true then some (i ^ j.toNat) else none
theorem dop_pow : DOp X (binaryOp .Pow) oPow := dop_int op_pow fun i j z h => by
  split at h
  · rename_i hc
    cases h
    exact ⟨powB_iff.mp hc, rfl⟩
  · cases h
abbrev oLt : MO := oIntB fun i j => decide (i < j)
abbrev oLe : MO := oIntB fun i j => decide (i ≤ j)
abbrev oGt : MO := oIntB fun i j => decide (j < i)
abbrev oGe : MO := oIntB fun i j => decide (j ≤ i)
theorem dop_lt : DOp X (compareOp .Lt) oLt := dop_intB op_lt
theorem dop_le : DOp X (compareOp .LtE) oLe := dop_intB op_le
theorem dop_gt : DOp X (compareOp .Gt) oGt := dop_intB op_gt
theorem dop_ge : DOp X (compareOp .GtE) oGe := dop_intB op_ge

/-! ## data of any depth: ==, repr -/
def mapO {α β : Type} (f : α → Option β) : List α → Option (List β)
  | [] => some []
  | x :: xs => match f x, mapO f xs with
    | some y, some ys => some (y :: ys)
    | _, _ => none
def toP (μ : Mu) : Nat → D → Option PyData
  | 0, _ => none
  | n + 1, d => match d with
    | .non => some .none
    | .bl b => some (.bool b)
    | .int i => some (.int i)
    | .str x => some (.str x)
    | .tup ds => (mapO (toP μ n) ds).map .tuple
    | .sls ds => (mapO (toP μ n) ds).map .list
    | .new ds => (mapO (toP μ n) ds).map .list
    | .ref k => match μ[k]? with
      | some (.lst ds) => (mapO (toP μ n) ds).map .list
      | _ => none
theorem dpAll {ι : List Addr} {H : Hp} {μ : Mu} {f : D → Option PyData} (hf : ∀ d v p, Rep X.K ι H d v → f d = some p → Dp X.K H v p) : ∀ (ds : List D) (vs : List V) (ps : List PyData), Reps X.K ι H ds vs → mapO f ds = some ps → DpAll X.K H vs ps
  | [], vs, ps, r, h => by
    simp only [Reps] at r
    subst r
    cases h
    exact .nil
  | d :: ds, vs, ps, r, h => by
    simp only [Reps] at r
    obtain ⟨v, w, rfl, r1, r2⟩ := r
    unfold mapO at h
    split at h
    · rename_i y ys h1 h2
      cases h
      exact .cons (hf d v y r1 h1) (dpAll (μ := μ) hf ds w ys r2 h2)
    · cases h
theorem toP_ok {ι : List Addr} {H : Hp} {μ : Mu} (m : SM X.K ι H μ) : ∀ (n : Nat) (d : D) (v : V) (H0 : Hp) (p : PyData), RepN X.K ι H H0 d v → toP μ n d = some p → Dp X.K H v p
  | 0, _, _, _, _, _, h => by cases h
  | n + 1, d, v, H0, p, r, h => by
    have all : ∀ (ds : List D) (vs : List V) (ps : List PyData), Reps X.K ι H ds vs → mapO (toP μ n) ds = some ps → DpAll X.K H vs ps := dpAll (μ := μ) fun d v p r h => toP_ok m n d v H p r.n h
    have lst : ∀ ds : List D, contL d μ = some ds → (mapO (toP μ n) ds).map .list = some p → Dp X.K H v p := fun ds hc hp => by
      obtain ⟨a, xs, rfl, h1, h2⟩ := contL_ok m r hc
      cases q : mapO (toP μ n) ds with
      | none => rw [q] at hp; cases hp
      | some ps =>
        rw [q] at hp
        cases hp
        exact .lst h1 (all ds xs ps h2 q)
    cases d with
    | non => have r : Rep X.K ι H .non v := r; simp only [Rep] at r; subst r; cases h; exact .non
    | bl b => have e := repN_bl r; subst e; cases h; exact .bl b
    | int i => have e := repN_int r; subst e; cases h; exact .int i
    | str x => have e := repN_str r; subst e; cases h; exact .str x
    | tup ds =>
      obtain ⟨a, xs, rfl, h1, h2⟩ := repN_tup r
      have h : (mapO (toP μ n) ds).map .tuple = some p := h
      cases q : mapO (toP μ n) ds with
      | none => rw [q] at h; cases h
      | some ps =>
        rw [q] at h
        cases h
        exact .tup h1 (all ds xs ps h2 q)
    | sls ds => exact lst ds rfl h
    | new ds => exact lst ds rfl h
    | ref k =>
      have h : (match μ[k]? with | some (.lst ds) => (mapO (toP μ n) ds).map .list | _ => none) = some p := h
      split at h
      · rename_i ds hd
        exact lst ds (by simp only [contL, cont, hd]) h
      · cases h
def eqC (neg : Bool) : MO
  | .int i, .int j, μ => .ok (.bl (if neg then !decide (i = j) else decide (i = j))) μ
  | .str x, .str y, μ => .ok (.bl (if neg then !decide (x = y) else decide (x = y))) μ
  | .bl x, .bl y, μ => .ok (.bl (if neg then !decide (x = y) else decide (x = y))) μ
  | .non, .non, μ => .ok (.bl (!neg)) μ
  | .int _, .non, μ => .ok (.bl neg) μ
  | .non, .int _, μ => .ok (.bl neg) μ
  | x, y, μ => match toP μ 12 x, toP μ 12 y with
    | some p, some r => if SeqAt.shaped p = true ∧ SeqAt.shaped r = true then .ok (.bl (if neg then !PyData.eqv p r else PyData.eqv p r)) μ else .bad
    | _, _ => .bad
abbrev oEq : MO := eqC false
abbrev oNe : MO := eqC true
theorem eqC_ok {ι : List Addr} {H Ha Hb : Hp} {μ : Mu} {x y : D} {v u : V} {Q : VK} (neg : Bool) (m : SM X.K ι H μ) (rx : RepN X.K ι H Ha x v) (ry : RepN X.K ι H Hb y u) (q : (eqC neg x y μ).sat (PostE X.K ι H Q) (fun _ _ => False)) :
    (scal v u = true ∧ Q (.bl (if neg then !decide (v = u) else decide (v = u))) H) ∨ ∃ d e, Dp X.K H v d ∧ Dp X.K H u e ∧ SeqAt.shaped d = true ∧ SeqAt.shaped e = true ∧ Q (.bl (if neg then !PyData.eqv d e else PyData.eqv d e)) H := by
  unfold eqC at q
  split at q
  · have e1 := repN_int rx
    have e2 := repN_int ry
    subst e1 e2
    refine .inl ⟨rfl, ?_⟩
    have := post_same m (rep_bl _) q
    simpa using this
  · have e1 := repN_str rx
    have e2 := repN_str ry
    subst e1 e2
    refine .inl ⟨rfl, ?_⟩
    have := post_same m (rep_bl _) q
    simpa using this
  · have e1 := repN_bl rx
    have e2 := repN_bl ry
    subst e1 e2
    refine .inl ⟨rfl, ?_⟩
    have := post_same m (rep_bl _) q
    simpa using this
  · have r1 : Rep X.K ι H .non v := rx
    have r2 : Rep X.K ι H .non u := ry
    simp only [Rep] at r1 r2
    subst r1 r2
    refine .inl ⟨rfl, ?_⟩
    have := post_same m (rep_bl _) q
    cases neg <;> simpa using this
  · have e1 := repN_int rx
    have r2 : Rep X.K ι H .non u := ry
    simp only [Rep] at r2
    subst e1 r2
    refine .inl ⟨rfl, ?_⟩
    have := post_same m (rep_bl _) q
    cases neg <;> simpa using this
  · have e1 := repN_int ry
    have r2 : Rep X.K ι H .non v := rx
    simp only [Rep] at r2
    subst e1 r2
    refine .inl ⟨rfl, ?_⟩
    have := post_same m (rep_bl _) q
    cases neg <;> simpa using this
  · split at q
    · rename_i p r hp hr
      split at q
      · rename_i hs
        exact .inr ⟨p, r, toP_ok m 12 x v Ha p rx hp, toP_ok m 12 y u Hb r ry hr, hs.1, hs.2, post_same m (rep_bl _) q⟩
      · exact q.elim
    · exact q.elim
theorem dop_eq (hu : X.A.units + 64 < cLine) : DOp X (compareOp .Eq) oEq := by
  refine dop_of (OpR.or' op_eq (op_eqD hu)) fun ι H Ha Hb μ x y v u Q m rx ry q => ?_
  rcases eqC_ok false m rx ry q with ⟨h1, h2⟩ | ⟨d, e, h1, h2, h3, h4, h5⟩
  · exact .inl ⟨h1, by simpa using h2⟩
  · exact .inr ⟨d, e, h1, h2, h3, h4, by simpa using h5⟩
theorem dop_ne (hu : X.A.units + 64 < cLine) : DOp X (compareOp .NotEq) oNe := by
  refine dop_of (OpR.or' op_ne (op_neD hu)) fun ι H Ha Hb μ x y v u Q m rx ry q => ?_
  rcases eqC_ok true m rx ry q with ⟨h1, h2⟩ | ⟨d, e, h1, h2, h3, h4, h5⟩
  · exact .inl ⟨h1, by simpa using h2⟩
  · exact .inr ⟨d, e, h1, h2, h3, h4, by simpa using h5⟩
/-- is None, is not None -/
def isNon : D → Bool
  | .non => true
  | _ => false
def oIsN (neg : Bool) : MO := fun x y μ => match y with
  | .non => .ok (.bl (if neg then !isNon x else isNon x)) μ
  | _ => .bad
theorem isN_ok {ι : List Addr} {H Ha : Hp} {x : D} {v : V} (r : RepN X.K ι H Ha x v) : isNon x = decide (v = .non) := by
  cases x with
  | non => have r : Rep X.K ι H .non v := r; simp only [Rep] at r; subst r; simp [isNon]
  | bl b => have e := repN_bl r; subst e; simp [isNon]
  | int i => have e := repN_int r; subst e; simp [isNon]
  | str s => have e := repN_str r; subst e; simp [isNon]
  | tup ds => obtain ⟨a, xs, rfl, _⟩ := repN_tup r; simp [isNon]
  | ref n => have r : Rep X.K ι H (.ref n) v := r; simp only [Rep] at r; obtain ⟨a, rfl, _⟩ := r; simp [isNon]
  | sls ds => have r : Rep X.K ι H (.sls ds) v := r; simp only [Rep] at r; obtain ⟨a, xs, rfl, _⟩ := r; simp [isNon]
  | new ds => obtain ⟨a, xs, rfl, _⟩ := r; simp [isNon]
theorem dop_is : DOp X (compareOp .Is) (oIsN false) := by
  refine dop_of op_isN fun ι H Ha Hb μ x y v u Q m rx ry q => ?_
  unfold oIsN at q
  split at q
  · have r2 : Rep X.K ι H .non u := ry
    simp only [Rep] at r2
    subst r2
    rw [isN_ok rx] at q
    have q1 := post_same m (rep_bl _) q
    exact ⟨rfl, by simpa using q1⟩
  · exact q.elim
theorem dop_isnot : DOp X (compareOp .IsNot) (oIsN true) := by
  refine dop_of op_notN fun ι H Ha Hb μ x y v u Q m rx ry q => ?_
  unfold oIsN at q
  split at q
  · have r2 : Rep X.K ι H .non u := ry
    simp only [Rep] at r2
    subst r2
    rw [isN_ok rx] at q
    have q1 := post_same m (rep_bl _) q
    exact ⟨rfl, by simpa using q1⟩
  · exact q.elim

/-! ## subscripts, slices -/
def oIx : MO
  | .str z, .int i, μ => if z.length ≤ sizeLine then match atI z.cps.toList i with
      | some c => .ok (.str ⟨#[c]⟩) μ
      | none => .bad
    else .bad
  | x, .int i, μ => match cont x μ with
    | some xs => match atI xs i with
      | some d => .ok d μ
      | none => .bad
    | none => .bad
  | _, _, _ => .bad
theorem atI_reps {K : PySem.W.Frag} {ι : List Addr} {H : Hp} {ds : List D} {vs : List V} {i : Int} {d : D} (r : Reps K ι H ds vs) (h : atI ds i = some d) : ∃ v, atI vs i = some v ∧ Rep K ι H d v := by
  unfold atI at h ⊢
  rw [← r.len]
  cases q : ixN ds.length i with
  | none => rw [q] at h; cases h
  | some j =>
    rw [q] at h
    exact r.get h
theorem dop_ix : ∃ r : R2, IxR X r ∧ ∀ (ι : List Addr) (H Ha Hb : Hp) (μ : Mu) (x y : D) (v u : V) (Q : VK), SM X.K ι H μ → RepN X.K ι H Ha x v → RepN X.K ι H Hb y u →
    (oIx x y μ).sat (PostE X.K ι H Q) (fun _ _ => False) → r v u H Q := by
  refine ⟨_, IxR.or ix_str (IxR.or ix_list ix_tup), fun ι H Ha Hb μ x y v u Q m rx ry q => ?_⟩
  unfold oIx at q
  split at q
  · have e1 := repN_str rx
    have e2 := repN_int ry
    subst e1 e2
    split at q
    · rename_i hz
      split at q
      · rename_i c hc
        exact .inl ⟨_, _, c, rfl, rfl, hz, hc, post_same m (rep_str _) q⟩
      · exact q.elim
    · exact q.elim
  · have e2 := repN_int ry
    subst e2
    split at q
    · rename_i xs hx
      split at q
      · rename_i d hd
        obtain ⟨p, vs, rfl, h1, h2⟩ := cont_ok m rx hx
        obtain ⟨z, g1, g2⟩ := atI_reps h2 hd
        have q' := post_same m g2 q
        rcases h1 with h1 | h1
        · exact .inr (.inl ⟨p, vs, _, z, rfl, rfl, h1, g1, q'⟩)
        · exact .inr (.inr ⟨p, vs, _, z, rfl, rfl, h1, g1, q'⟩)
      · exact q.elim
    · exact q.elim
  · exact q.elim
def cutD {α : Type} (xs : List α) (lo hi : Option Int) : List α := (xs.drop (HT.sIx xs.length 0 lo)).take (HT.sIx xs.length xs.length hi - HT.sIx xs.length 0 lo)
def oSl (lo hi : Option Int) (x : D) (μ : Mu) : Rs D := match x with
  | .tup ds => .ok (.tup (cutD ds lo hi)) μ
  | .str z => if z.length ≤ sizeLine then .ok (.str (cutS z lo hi)) μ else .bad
  | d => match contL d μ with
    | some ds => .ok (.new (cutD ds lo hi)) μ
    | none => .bad
abbrev MP := En → Mu → Rs (Option Int)
def PostP (K : PySem.W.Frag) (ι : List Addr) (H : Hp) (Q : Option Int → Hp → Prop) : Option Int → Mu → Prop := fun o μ' => ∀ ι' H', Ext ι H ι' H' → SM K ι' H' μ' → Q o H'
structure DP (X : Cx) (W : XW) (e : Option Expr) (t : MP) : Prop where
  run : ∃ tt : TO, PO X e tt ∧ ∀ (ι : List Addr) (H : Hp) (ρ : En) (μ : Mu) (σ : L2.St) (Q : Option Int → Hp → Prop), SM X.K ι H μ → SE X.K ι H ρ σ → (t ρ μ).sat (PostP X.K ι H Q) (PostX X.K ι H W) → tt σ H Q
def mNoP : MP := fun _ μ => .ok none μ
def mPart (t : ME) : MP := fun ρ μ => (t ρ μ).bind fun d μ1 => match d with
  | .int i => .ok (some i) μ1
  | _ => .bad
theorem dp_none : DP X W none mNoP := ⟨_, po_none, fun ι H ρ μ σ Q m s q => q ι H (.refl _ _) m⟩
theorem dp_some {t : ME} (h : DE X W e t) : DP X W (some e) (mPart t) := by
  obtain ⟨tA, pA, hA⟩ := h.run
  refine ⟨_, po_some pA, fun ι H ρ μ σ Q m s q => hA ι H ρ μ σ _ m s (Rs.sat_mono (Rs.sat_bind q) (fun d μ1 q1 ι1 H1 v e1 m1 r1 => ?_) fun _ _ h => h)⟩
  cases d with
  | int i => exact ⟨i, repN_int r1, q1 ι1 H1 e1 m1⟩
  | _ => exact q1.elim
def mSl (te : ME) (tl th : MP) : ME := fun ρ μ => (te ρ μ).bind fun x μ1 => (tl ρ μ1).bind fun lo μ2 => (th ρ μ2).bind fun hi μ3 => noex (oSl lo hi x μ3)
theorem sl_all : SlR X fun x lo hi H Q => rSlS x lo hi H Q ∨ rSlL X.K x lo hi H Q ∨ rSlA X.K x lo hi H Q := SlR.or sl_str (SlR.or sl_list sl_tupA)
theorem cut_reps {K : PySem.W.Frag} {ι : List Addr} {H : Hp} {ds : List D} {vs : List V} (lo hi : Option Int) (r : Reps K ι H ds vs) : Reps K ι H (cutD ds lo hi) (cutV vs lo hi) := by
  unfold cutD cutV
  rw [r.len]
  exact (r.drop _).take _
theorem cut_whole {α : Type} {xs : List α} {lo hi : Option Int} (h : HT.sIx xs.length 0 lo = 0 ∧ HT.sIx xs.length xs.length hi = xs.length) : cutD xs lo hi = xs := by
  unfold cutD
  rw [h.1, h.2]
  simp
theorem de_slice {lo hi : Option Expr} {te : ME} {tl th : MP} {p2 : Pos} (he : DE X W e te) (hl : DP X W lo tl) (hh : DP X W hi th) : DE X W (.Subscript e (.Slice lo hi none p2) pos) (mSl te tl th) := by
  obtain ⟨tA, pA, hA⟩ := he.run
  obtain ⟨tB, pB, hB⟩ := hl.run
  obtain ⟨tC', pC, hC⟩ := hh.run
  refine ⟨_, pe_slice sl_all pA pB pC, fun ι H ρ μ σ Q m s q => ?_⟩
  refine hA ι H ρ μ σ _ m s (Rs.sat_mono (Rs.sat_bind q) (fun d μ1 q1 ι1 H1 v e1 m1 r1 => ?_) fun _ _ h => h)
  refine hB ι1 H1 ρ μ1 σ _ m1 (s.ext e1) (Rs.sat_mono (Rs.sat_bind q1) (fun l μ2 q2 ι2 H2 e2 m2 => ?_) fun _ _ h => h.ext e1)
  refine hC ι2 H2 ρ μ2 σ _ m2 ((s.ext e1).ext e2) (Rs.sat_mono (Rs.sat_bind q2) (fun u μ3 q3 ι3 H3 e3 m3 => ?_) fun _ _ h => (h.ext e1).ext e2)
  have r3 := (r1.ext e2).ext e3
  have q4 : (oSl l u d μ3).sat (PostE X.K ι3 H3 Q) (fun _ _ => False) := Rs.sat_mono (sat_noex q3) (fun _ _ h => h.ext ((e1.trans e2).trans e3)) fun _ _ h => h
  unfold oSl at q4
  split at q4
  · obtain ⟨p, vs, rfl, h1, h2⟩ := repN_tup r3
    refine .inr (.inr ⟨p, vs, rfl, h1, fun hw => ?_, fun hw p' hp => post_tup m3 hp (cut_reps l u h2) q4⟩)
    refine post_same m3 (d := .tup _) ?_ q4
    simp only [Rep]
    refine ⟨p, vs, rfl, h1, ?_⟩
    have := cut_reps l u h2
    have e : cutV vs l u = vs := cut_whole hw
    rw [e] at this
    exact this
  · have e1 := repN_str r3
    subst e1
    split at q4
    · rename_i hz
      exact .inl ⟨_, rfl, hz, post_same m3 (rep_str _) q4⟩
    · exact q4.elim
  · split at q4
    · rename_i ds hd
      obtain ⟨p, vs, rfl, h1, h2⟩ := contL_ok m3 r3 hd
      exact .inr (.inl ⟨p, vs, rfl, h1, fun p' hp => post_new m3 hp (cut_reps l u h2) q4⟩)
    · exact q4.elim
end
end M

namespace M
open PySem PySem.Spec PyProof.Rows L2
section
variable {X : Cx} {W : XW} {pos : Pos} {a b c e : Expr}

/-! ## tests -/
def mT (t : ME) : MT := fun ρ μ => (t ρ μ).bind fun d μ1 => match d with
  | .bl b => .ok b μ1
  | _ => .bad
theorem mT_ok {t : ME} {tA : TE} (hA : ∀ (ι : List Addr) (H : Hp) (ρ : En) (μ : Mu) (σ : L2.St) (Q : VK), SM X.K ι H μ → SE X.K ι H ρ σ → (t ρ μ).sat (PostE X.K ι H Q) (PostX X.K ι H W) → tA σ H Q)
    (ι : List Addr) (H : Hp) (ρ : En) (μ : Mu) (σ : L2.St) (Q : Bool → Hp → Prop) (m : SM X.K ι H μ) (s : SE X.K ι H ρ σ) (q : (mT t ρ μ).sat (PostT X.K ι H Q) (PostX X.K ι H W)) : tTest tA σ H Q := by
  refine hA ι H ρ μ σ _ m s (Rs.sat_mono (Rs.sat_bind q) (fun d μ1 q1 ι1 H1 v e1 m1 r1 => ?_) fun _ _ h => h)
  cases d with
  | bl b => exact ⟨b, repN_bl r1, q1 ι1 H1 e1 m1⟩
  | _ => exact q1.elim
theorem dt_val {t : ME} (h : DE X W e t) (he : ∀ whole, isTrue e X.env whole = (do let v ← whole; standAt e.pos; holding [v] (truthy v)) := by intro _; rfl) : DT X W e (mT t) := by
  obtain ⟨tA, pA, hA⟩ := h.run
  exact ⟨_, pt_val pA he, mT_ok hA⟩
theorem dt_cmp {op : CmpOp} {o : MO} {ta tb : ME} (ho : DOp X (compareOp op) o) (ha : DE X W a ta) (hb : DE X W b tb) (hm : behindInMarks op b = false) : DT X W (.Compare a [op] [b] pos) (mT (mOp o ta tb)) := by
  obtain ⟨r, hr, hs⟩ := ho
  obtain ⟨tA, pA, hA⟩ := ha.run
  obtain ⟨tB, pB, hB⟩ := hb.run
  refine ⟨_, pt_cmpR hr pA pB hm, mT_ok fun ι H ρ μ σ Q m s q => ?_⟩
  refine two_ok hA hB m s q fun ι1 H1 ι2 H2 x y μ2 v u e1 e2 m2 rx ry q2 => ?_
  exact hs ι2 H2 _ _ μ2 x y v u Q m2 rx ry (Rs.sat_mono (sat_noex q2) (fun _ _ h => h.ext (e1.trans e2)) fun _ _ h => h)
def mChain (o o' : MO) (ta tb tc : ME) : ME := fun ρ μ => (ta ρ μ).bind fun x μ1 => (tb ρ μ1).bind fun y μ2 => (noex (o x y μ2)).bind fun z μ3 => match z with
  | .bl true => (tc ρ μ3).bind fun w μ4 => noex (o' y w μ4)
  | .bl false => .ok (.bl false) μ3
  | _ => .bad
theorem chain_ok {op op' : CmpOp} {o o' : MO} {r r' : R2} {ta tb tc : ME} {tA tB tC' : TE}
    (hs : ∀ (ι : List Addr) (H Ha Hb : Hp) (μ : Mu) (x y : D) (v u : V) (Q : VK), SM X.K ι H μ → RepN X.K ι H Ha x v → RepN X.K ι H Hb y u → (o x y μ).sat (PostE X.K ι H Q) (fun _ _ => False) → r v u H Q)
    (hs' : ∀ (ι : List Addr) (H Ha Hb : Hp) (μ : Mu) (x y : D) (v u : V) (Q : VK), SM X.K ι H μ → RepN X.K ι H Ha x v → RepN X.K ι H Hb y u → (o' x y μ).sat (PostE X.K ι H Q) (fun _ _ => False) → r' v u H Q)
    (hA : ∀ (ι : List Addr) (H : Hp) (ρ : En) (μ : Mu) (σ : L2.St) (Q : VK), SM X.K ι H μ → SE X.K ι H ρ σ → (ta ρ μ).sat (PostE X.K ι H Q) (PostX X.K ι H W) → tA σ H Q)
    (hB : ∀ (ι : List Addr) (H : Hp) (ρ : En) (μ : Mu) (σ : L2.St) (Q : VK), SM X.K ι H μ → SE X.K ι H ρ σ → (tb ρ μ).sat (PostE X.K ι H Q) (PostX X.K ι H W) → tB σ H Q)
    (hC : ∀ (ι : List Addr) (H : Hp) (ρ : En) (μ : Mu) (σ : L2.St) (Q : VK), SM X.K ι H μ → SE X.K ι H ρ σ → (tc ρ μ).sat (PostE X.K ι H Q) (PostX X.K ι H W) → tC' σ H Q)
    (ι : List Addr) (H : Hp) (ρ : En) (μ : Mu) (σ : L2.St) (Q : VK) (m : SM X.K ι H μ) (s : SE X.K ι H ρ σ) (q : (mChain o o' ta tb tc ρ μ).sat (PostE X.K ι H Q) (PostX X.K ι H W)) : tChain r r' tA tB tC' σ H Q := by
  refine two_ok hA hB m s q fun ι1 H1 ι2 H2 x y μ2 v u e1 e2 m2 rx ry q2 => ?_
  refine hs ι2 H2 _ _ μ2 x y v u _ m2 rx ry (Rs.sat_mono (sat_noex (Rs.sat_bind q2)) (fun z μ3 q3 ι3 H3 w e3 m3 rz => ?_) fun _ _ h => h)
  split at q3
  · have ez := repN_bl rz
    subst ez
    refine ⟨true, rfl, ?_⟩
    rw [if_pos rfl]
    refine hC ι3 H3 ρ μ3 σ _ m3 (((s.ext e1).ext e2).ext e3) (Rs.sat_mono (Rs.sat_bind q3) (fun w' μ4 q4 ι4 H4 v4 e4 m4 r4 => ?_) fun _ _ h => ((h.ext e1).ext e2).ext e3)
    exact hs' ι4 H4 _ _ μ4 y w' u v4 Q m4 ((ry.ext e3).ext e4) r4 (Rs.sat_mono (sat_noex q4) (fun _ _ h => h.ext ((e1.trans e2).trans (e3.trans e4))) fun _ _ h => h)
  · have ez := repN_bl rz
    subst ez
    exact ⟨false, rfl, by rw [if_neg Bool.false_ne_true]; exact q3 ι3 H3 _ ((e1.trans e2).trans e3) m3 (rep_bl _).n⟩
  · exact q3.elim
theorem de_chain {op op' : CmpOp} {o o' : MO} {ta tb tc : ME} (ho : DOp X (compareOp op) o) (ho' : DOp X (compareOp op') o') (ha : DE X W a ta) (hb : DE X W b tb) (hc : DE X W c tc)
    (hm : lastMarks [op, op'] [b, c] = false := by with_unfolding_all rfl) : DE X W (.Compare a [op, op'] [b, c] pos) (mChain o o' ta tb tc) := by
  obtain ⟨r, hr, hs⟩ := ho
  obtain ⟨r', hr', hs'⟩ := ho'
  obtain ⟨tA, pA, hA⟩ := ha.run
  obtain ⟨tB, pB, hB⟩ := hb.run
  obtain ⟨tC', pC, hC⟩ := hc.run
  exact ⟨_, pe_chain hr hr' pA pB pC hm, chain_ok (op := op) (op' := op') hs hs' hA hB hC⟩
theorem dt_chain {op op' : CmpOp} {o o' : MO} {ta tb tc : ME} (ho : DOp X (compareOp op) o) (ho' : DOp X (compareOp op') o') (ha : DE X W a ta) (hb : DE X W b tb) (hc : DE X W c tc)
    (hm : lastMarks [op, op'] [b, c] = false := by with_unfolding_all rfl) : DT X W (.Compare a [op, op'] [b, c] pos) (mT (mChain o o' ta tb tc)) := by
  obtain ⟨r, hr, hs⟩ := ho
  obtain ⟨r', hr', hs'⟩ := ho'
  obtain ⟨tA, pA, hA⟩ := ha.run
  obtain ⟨tB, pB, hB⟩ := hb.run
  obtain ⟨tC', pC, hC⟩ := hc.run
  exact ⟨_, pt_chain hr hr' pA pB pC hm, mT_ok (chain_ok (op := op) (op' := op') hs hs' hA hB hC)⟩
/-- truth of any value -/
def truD (d : D) (μ : Mu) : Rs Bool := match d with
  | .non => .ok false μ
  | .bl b => .ok b μ
  | .int i => .ok (i != 0) μ
  | .str y => if y.length ≤ sizeLine then .ok ((y.length : Int) != 0) μ else .bad
  | .ref n => match μ[n]? with
    | some (.lst ds) => .ok (!ds.isEmpty) μ
    | some (.dic kvs) => .ok (!kvs.isEmpty) μ
    | none => .bad
  | d => match cont d μ with
    | some ds => .ok (!ds.isEmpty) μ
    | none => .bad
def mTru (t : ME) : MT := fun ρ μ => (t ρ μ).bind truD
def mNotT (t : MT) : MT := fun ρ μ => (t ρ μ).bind fun b μ1 => .ok (!b) μ1
def mAndT (t u : MT) : MT := fun ρ μ => (t ρ μ).bind fun b μ1 => if b = true then u ρ μ1 else .ok false μ1
def mOrT (t u : MT) : MT := fun ρ μ => (t ρ μ).bind fun b μ1 => if b = true then .ok true μ1 else u ρ μ1
theorem dt_not {t : MT} (h : DT X W a t) : DT X W (.UnaryOp .Not a pos) (mNotT t) := by
  obtain ⟨tA, pA, hA⟩ := h.run
  refine ⟨_, pt_not pA, fun ι H ρ μ σ Q m s q => hA ι H ρ μ σ _ m s (Rs.sat_mono (Rs.sat_bind q) (fun d μ1 q1 ι1 H1 e1 m1 => q1 ι1 H1 e1 m1) fun _ _ h => h)⟩
theorem dw_and1 {t : MT} (h : DT X W a t) : DW X W (.BoolOp .And [a] pos) t := by
  obtain ⟨tA, pA, hA⟩ := h.run
  exact ⟨_, pw_and1 pA, hA⟩
theorem dw_or1 {t : MT} (h : DT X W a t) : DW X W (.BoolOp .Or [a] pos) t := by
  obtain ⟨tA, pA, hA⟩ := h.run
  exact ⟨_, pw_or1 pA, hA⟩
theorem dw_and {rest : List Expr} {t u : MT} (h : DT X W a t) (g : DW X W (.BoolOp .And (b :: rest) pos) u) : DW X W (.BoolOp .And (a :: b :: rest) pos) (mAndT t u) := by
  obtain ⟨tA, pA, hA⟩ := h.run
  obtain ⟨tB, pB, hB⟩ := g.run
  refine ⟨_, pw_and pA pB, fun ι H ρ μ σ Q m s q => hA ι H ρ μ σ _ m s (Rs.sat_mono (Rs.sat_bind q) (fun d μ1 q1 ι1 H1 e1 m1 => ?_) fun _ _ h => h)⟩
  cases d with
  | true => exact hB ι1 H1 ρ μ1 σ Q m1 (s.ext e1) (Rs.sat_mono q1 (fun _ _ h => h.ext e1) fun _ _ h => h.ext e1)
  | false => exact q1 ι1 H1 e1 m1
theorem dw_or {rest : List Expr} {t u : MT} (h : DT X W a t) (g : DW X W (.BoolOp .Or (b :: rest) pos) u) : DW X W (.BoolOp .Or (a :: b :: rest) pos) (mOrT t u) := by
  obtain ⟨tA, pA, hA⟩ := h.run
  obtain ⟨tB, pB, hB⟩ := g.run
  refine ⟨_, pw_or pA pB, fun ι H ρ μ σ Q m s q => hA ι H ρ μ σ _ m s (Rs.sat_mono (Rs.sat_bind q) (fun d μ1 q1 ι1 H1 e1 m1 => ?_) fun _ _ h => h)⟩
  cases d with
  | false => exact hB ι1 H1 ρ μ1 σ Q m1 (s.ext e1) (Rs.sat_mono q1 (fun _ _ h => h.ext e1) fun _ _ h => h.ext e1)
  | true => exact q1 ι1 H1 e1 m1
theorem dt_w {t : MT} (h : DW X W e t) : DT X W e t := by
  obtain ⟨tA, pA, hA⟩ := h.run
  exact ⟨_, pA.pt, hA⟩
/-- and, or, not as values; all but the last operand bools -/
def mAndV (t u : ME) : ME := fun ρ μ => (t ρ μ).bind fun d μ1 => match d with
  | .bl true => u ρ μ1
  | .bl false => .ok (.bl false) μ1
  | _ => .bad
def mOrV (t u : ME) : ME := fun ρ μ => (t ρ μ).bind fun d μ1 => match d with
  | .bl false => u ρ μ1
  | .bl true => .ok (.bl true) μ1
  | _ => .bad
def mNotV (t : ME) : ME := fun ρ μ => (t ρ μ).bind fun d μ1 => match d with
  | .bl b => .ok (.bl (!b)) μ1
  | _ => .bad
theorem de_one {op} {t : ME} (h : DE X W a t) : DE X W (.BoolOp op [a] pos) t := by
  obtain ⟨tA, pA, hA⟩ := h.run
  exact ⟨_, pe_one pA, hA⟩
theorem de_and {rest : List Expr} {t u : ME} (h : DE X W a t) (g : DE X W (.BoolOp .And (b :: rest) pos) u) : DE X W (.BoolOp .And (a :: b :: rest) pos) (mAndV t u) := by
  obtain ⟨tA, pA, hA⟩ := h.run
  obtain ⟨tB, pB, hB⟩ := g.run
  refine ⟨_, pe_and pA pB, fun ι H ρ μ σ Q m s q => hA ι H ρ μ σ _ m s (Rs.sat_mono (Rs.sat_bind q) (fun d μ1 q1 ι1 H1 v e1 m1 r1 => ?_) fun _ _ h => h)⟩
  split at q1
  · refine ⟨true, repN_bl r1, ?_⟩
    rw [if_pos rfl]
    exact hB ι1 H1 ρ μ1 σ Q m1 (s.ext e1) (Rs.sat_mono q1 (fun _ _ h => h.ext e1) fun _ _ h => h.ext e1)
  · refine ⟨false, repN_bl r1, ?_⟩
    rw [if_neg Bool.false_ne_true]
    exact q1 ι1 H1 _ e1 m1 (rep_bl _).n
  · exact q1.elim
theorem de_or {rest : List Expr} {t u : ME} (h : DE X W a t) (g : DE X W (.BoolOp .Or (b :: rest) pos) u) : DE X W (.BoolOp .Or (a :: b :: rest) pos) (mOrV t u) := by
  obtain ⟨tA, pA, hA⟩ := h.run
  obtain ⟨tB, pB, hB⟩ := g.run
  refine ⟨_, pe_or pA pB, fun ι H ρ μ σ Q m s q => hA ι H ρ μ σ _ m s (Rs.sat_mono (Rs.sat_bind q) (fun d μ1 q1 ι1 H1 v e1 m1 r1 => ?_) fun _ _ h => h)⟩
  split at q1
  · refine ⟨false, repN_bl r1, ?_⟩
    rw [if_neg Bool.false_ne_true]
    exact hB ι1 H1 ρ μ1 σ Q m1 (s.ext e1) (Rs.sat_mono q1 (fun _ _ h => h.ext e1) fun _ _ h => h.ext e1)
  · refine ⟨true, repN_bl r1, ?_⟩
    rw [if_pos rfl]
    exact q1 ι1 H1 _ e1 m1 (rep_bl _).n
  · exact q1.elim
theorem de_not {t : ME} (h : DE X W a t) : DE X W (.UnaryOp .Not a pos) (mNotV t) := by
  obtain ⟨tA, pA, hA⟩ := h.run
  refine ⟨_, pe_not pA, fun ι H ρ μ σ Q m s q => hA ι H ρ μ σ _ m s (Rs.sat_mono (Rs.sat_bind q) (fun d μ1 q1 ι1 H1 v e1 m1 r1 => ?_) fun _ _ h => h)⟩
  cases d with
  | bl b => exact ⟨b, repN_bl r1, q1 ι1 H1 _ e1 m1 (rep_bl _).n⟩
  | _ => exact q1.elim
def mIf (t : MT) (a b : ME) : ME := fun ρ μ => (t ρ μ).bind fun c μ1 => if c = true then a ρ μ1 else b ρ μ1
theorem de_ifExp {t : MT} {ta tb : ME} (hc : DT X W c t) (ha : DE X W a ta) (hb : DE X W b tb) : DE X W (.IfExp c a b pos) (mIf t ta tb) := by
  obtain ⟨tC', pC, hC⟩ := hc.run
  obtain ⟨tA, pA, hA⟩ := ha.run
  obtain ⟨tB, pB, hB⟩ := hb.run
  refine ⟨_, pe_ifExp pC pA pB, fun ι H ρ μ σ Q m s q => hC ι H ρ μ σ _ m s (Rs.sat_mono (Rs.sat_bind q) (fun d μ1 q1 ι1 H1 e1 m1 => ?_) fun _ _ h => h)⟩
  cases d with
  | true => exact hA ι1 H1 ρ μ1 σ Q m1 (s.ext e1) (Rs.sat_mono q1 (fun _ _ h => h.ext e1) fun _ _ h => h.ext e1)
  | false => exact hB ι1 H1 ρ μ1 σ Q m1 (s.ext e1) (Rs.sat_mono q1 (fun _ _ h => h.ext e1) fun _ _ h => h.ext e1)
def mNeg (t : ME) : ME := fun ρ μ => (t ρ μ).bind fun d μ1 => match d with
  | .int i => .ok (.int (-i)) μ1
  | _ => .bad
theorem de_neg {t : ME} (h : DE X W a t) : DE X W (.UnaryOp .USub a pos) (mNeg t) := by
  obtain ⟨tA, pA, hA⟩ := h.run
  refine ⟨_, pe_un un_neg pA, fun ι H ρ μ σ Q m s q => hA ι H ρ μ σ _ m s (Rs.sat_mono (Rs.sat_bind q) (fun d μ1 q1 ι1 H1 v e1 m1 r1 => ?_) fun _ _ h => h)⟩
  cases d with
  | int i => exact ⟨i, repN_int r1, q1 ι1 H1 _ e1 m1 (rep_int _).n⟩
  | _ => exact q1.elim

/-! ## arguments, displays: each item is settled -/
def mSet (t : ME) : ME := fun ρ μ => (t ρ μ).bind settle
theorem set_ok {t : ME} {tA : TE} (hA : ∀ (ι : List Addr) (H : Hp) (ρ : En) (μ : Mu) (σ : L2.St) (Q : VK), SM X.K ι H μ → SE X.K ι H ρ σ → (t ρ μ).sat (PostE X.K ι H Q) (PostX X.K ι H W) → tA σ H Q)
    {ι : List Addr} {H : Hp} {ρ : En} {μ : Mu} {σ : L2.St} {Q : VK} (m : SM X.K ι H μ) (s : SE X.K ι H ρ σ) {R : D → Mu → Prop} (q : (mSet t ρ μ).sat R (PostX X.K ι H W))
    (hR : ∀ d μ' ι' H' v, R d μ' → Ext ι H ι' H' → SM X.K ι' H' μ' → Rep X.K ι' H' d v → Q v H') : tA σ H Q := by
  refine hA ι H ρ μ σ _ m s (Rs.sat_mono (Rs.sat_bind q) (fun d μ1 q1 ι1 H1 v e1 m1 r1 => ?_) fun _ _ h => h)
  obtain ⟨ι2, d2, μ2, p2, e2, m2, r2, _⟩ := settle_ok e1 m1 r1 q1
  exact hR d2 μ2 ι2 H1 v p2 e2 m2 r2
def mNil : MA := fun _ μ => .ok [] μ
def mCons (t : ME) (u : MA) : MA := fun ρ μ => (mSet t ρ μ).bind fun d μ1 => (u ρ μ1).bind fun ds μ2 => .ok (d :: ds) μ2
theorem da_nil : DA X W [] mNil := ⟨_, pa_nil, fun ι H ρ μ σ Q m s q => q ι H [] (.refl _ _) m (by simp only [Reps])⟩
theorem da_cons {es : List Expr} {t : ME} {u : MA} (h : DE X W e t) (g : DA X W es u) (hs : starEach (e :: es) X.env = (false, eval e X.env) :: starEach es X.env := by rfl) : DA X W (e :: es) (mCons t u) := by
  obtain ⟨tA, pA, hA⟩ := h.run
  obtain ⟨tB, pB, hB⟩ := g.run
  refine ⟨_, pa_cons pA pB hs, fun ι H ρ μ σ Q m s q => ?_⟩
  refine set_ok hA m s (Rs.sat_bind q) fun d μ1 ι1 H1 v q1 e1 m1 r1 => ?_
  refine hB ι1 H1 ρ μ1 σ _ m1 (s.ext e1) (Rs.sat_mono (Rs.sat_bind q1) (fun ds μ2 q2 ι2 H2 vs e2 m2 r2 => ?_) fun _ _ h => h.ext e1)
  refine q2 ι2 H2 (v :: vs) (e1.trans e2) m2 ?_
  simp only [Reps]
  exact ⟨v, vs, rfl, r1.ext e2, r2⟩
/-- (.., *t, ..) -/
def mStar (t : ME) (u : MA) : MA := fun ρ μ => (t ρ μ).bind fun d μ1 => match cont d μ1 with
  | some xs => (u ρ μ1).bind fun ds μ2 => .ok (xs ++ ds) μ2
  | none => .bad
theorem da_star {es : List Expr} {t : ME} {u : MA} {p : Pos} (h : DE X W e t) (g : DA X W es u) (hs : starEach (.Starred e p :: es) X.env = (true, eval e X.env) :: starEach es X.env := by rfl) : DA X W (.Starred e p :: es) (mStar t u) := by
  obtain ⟨tA, pA, hA⟩ := h.run
  obtain ⟨tB, pB, hB⟩ := g.run
  refine ⟨_, StX.pa_star pA pB hs, fun ι H ρ μ σ Q m s q => ?_⟩
  refine hA ι H ρ μ σ _ m s (Rs.sat_mono (Rs.sat_bind q) (fun d μ1 q1 ι1 H1 v e1 m1 r1 => ?_) fun _ _ h => h)
  split at q1
  · rename_i xs hx
    obtain ⟨p', vs, rfl, h1, h2⟩ := cont_ok m1 r1 hx
    refine ⟨p', vs, rfl, h1.symm, ?_⟩
    refine hB ι1 H1 ρ μ1 σ _ m1 (s.ext e1) (Rs.sat_mono (Rs.sat_bind q1) (fun ds μ2 q2 ι2 H2 us e2 m2 r2 => ?_) fun _ _ h => h.ext e1)
    exact q2 ι2 H2 (vs ++ us) (e1.trans e2) m2 ((h2.ext e2).append r2)
  · exact q1.elim
theorem dk_nil : DK X W [] mNil := ⟨_, pk_nil, fun ι H ρ μ σ Q m s q => q ι H [] (.refl _ _) m (by simp only [Reps])⟩
theorem dk_cons {kws : List Keyword} {nm : Option Str} {kpos : Pos} {t : ME} {u : MA} (h : DE X W e t) (g : DK X W kws u) : DK X W (⟨nm, e, kpos⟩ :: kws) (mCons t u) := by
  obtain ⟨tA, pA, hA⟩ := h.run
  obtain ⟨tB, pB, hB⟩ := g.run
  refine ⟨_, pk_cons pA pB, fun ι H ρ μ σ Q m s q => ?_⟩
  refine set_ok hA m s (Rs.sat_bind q) fun d μ1 ι1 H1 v q1 e1 m1 r1 => ?_
  refine hB ι1 H1 ρ μ1 σ _ m1 (s.ext e1) (Rs.sat_mono (Rs.sat_bind q1) (fun ds μ2 q2 ι2 H2 vs e2 m2 r2 => ?_) fun _ _ h => h.ext e1)
  refine q2 ι2 H2 (v :: vs) (e1.trans e2) m2 ?_
  simp only [Reps]
  exact ⟨v, vs, rfl, r1.ext e2, r2⟩
def mTup (t : MA) : ME := fun ρ μ => (t ρ μ).bind fun ds μ1 => if ds.length ≤ sizeLine then .ok (.tup ds) μ1 else .bad
def mLst (t : MA) : ME := fun ρ μ => (t ρ μ).bind fun ds μ1 => if ds.length ≤ sizeLine then .ok (.new ds) μ1 else .bad
theorem de_tup {es : List Expr} {t : MA} {x1} (h : DA X W es t) : DE X W (.Tuple es x1 pos) (mTup t) := by
  obtain ⟨tA, pA, hA⟩ := h.run
  refine ⟨_, pe_tup pA, fun ι H ρ μ σ Q m s q => hA ι H ρ μ σ _ m s (Rs.sat_mono (Rs.sat_bind q) (fun ds μ1 q1 ι1 H1 vs e1 m1 r1 => ?_) fun _ _ h => h)⟩
  split at q1
  · rename_i hz
    exact ⟨by rw [← r1.len]; exact hz, fun p hp => post_tup m1 hp r1 (PostE.ext e1 q1)⟩
  · exact q1.elim
theorem de_lst {es : List Expr} {t : MA} (h : DA X W es t) : DE X W (.List es pos) (mLst t) := by
  obtain ⟨tA, pA, hA⟩ := h.run
  refine ⟨_, pe_lst pA, fun ι H ρ μ σ Q m s q => hA ι H ρ μ σ _ m s (Rs.sat_mono (Rs.sat_bind q) (fun ds μ1 q1 ι1 H1 vs e1 m1 r1 => ?_) fun _ _ h => h)⟩
  split at q1
  · rename_i hz
    exact ⟨by rw [← r1.len]; exact hz, fun p hp => post_new m1 hp r1 (PostE.ext e1 q1)⟩
  · exact q1.elim
/-- {} -/
def mDict0 : ME := fun _ μ => .ok (.ref μ.length) (μ ++ [.dic []])
theorem post_obj {ι : List Addr} {H : Hp} {μ : Mu} {o : O} {u : HO} {p : Addr} {Q : VK} (m : SM X.K ι H μ) (hp : H p = none) (r : RepO X.K ι (upd H p u) o p) (q : PostE X.K ι H Q (.ref μ.length) (μ ++ [o])) : Q (.ref p) (upd H p u) := by
  have m1 := m.laid (u := u) hp
  have ex := Ext.laid (ι := ι) (u := u) hp
  refine q (ι ++ [p]) _ _ ?_ (m1.push (not_mem_of_none m hp) r) (Rep.n ?_)
  · exact ⟨⟨[p], rfl, fun b hb => by simp at hb; subst hb; exact hp⟩, ex.keep, ex.tups, ex.frzs, ex.trk⟩
  · simp only [Rep]
    exact ⟨p, rfl, by rw [← m.len, List.getElem?_append_right (Nat.le_refl _)]; simp⟩
theorem de_dict0 : DE X W (.Dict [] [] pos) mDict0 := by
  refine ⟨_, pe_dnewK, fun ι H ρ μ σ Q m s q p hp => ?_⟩
  exact post_obj m hp (o := .dic []) ⟨[], upd_same, rfl, by simp only [List.map_nil, Reps]⟩ q

/-! ## calls of built-ins by values: temporaries among the arguments -/
def mNilN : MA := fun _ μ => .ok [] μ
/-- one, two arguments, not settled -/
abbrev MF := List D → Mu → Rs D
def mB1 (f : MF) (t : ME) : ME := fun ρ μ => (t ρ μ).bind fun d μ1 => noex (f [d] μ1)
def mB2 (f : MF) (t u : ME) : ME := fun ρ μ => (t ρ μ).bind fun d μ1 => (u ρ μ1).bind fun e μ2 => noex (f [d, e] μ2)
inductive RepNs (K : PySem.W.Frag) (ι : List Addr) (H : Hp) : List D → List V → Prop
  | nil : RepNs K ι H [] []
  | cons {d : D} {v : V} {ds : List D} {vs : List V} {H0 : Hp} (h : RepN K ι H H0 d v) (t : RepNs K ι H ds vs) : RepNs K ι H (d :: ds) (v :: vs)
def DCall (X : Cx) (v : Value) (f : MF) : Prop := ∃ r : List V → Hp → VK → Prop, CallR X v r ∧ ∀ (ι : List Addr) (H : Hp) (μ : Mu) (ds : List D) (vs : List V) (Q : VK), SM X.K ι H μ → RepNs X.K ι H ds vs →
  (f ds μ).sat (PostE X.K ι H Q) (fun _ _ => False) → r vs H Q
theorem RepNs.one {K : PySem.W.Frag} {ι : List Addr} {H : Hp} {d : D} {vs : List V} (h : RepNs K ι H [d] vs) : ∃ v H0, vs = [v] ∧ RepN K ι H H0 d v := by
  cases h with
  | cons h t => cases t; exact ⟨_, _, rfl, h⟩
theorem RepNs.two {K : PySem.W.Frag} {ι : List Addr} {H : Hp} {d e : D} {vs : List V} (h : RepNs K ι H [d, e] vs) : ∃ v u H0 H1, vs = [v, u] ∧ RepN K ι H H0 d v ∧ RepN K ι H H1 e u := by
  cases h with
  | cons h t => cases t with
    | cons g t => cases t; exact ⟨_, _, _, _, rfl, h, g⟩
theorem de_B1 {x : Str} {id : String} {f : MF} {t : ME} {p : Pos} (hc : DCall X (.builtin id) f) (hg : Gl X x) (hm : X.mg x = none) (hv : bootBuiltins x = some (.builtin id)) (h : DE X W a t) (hn : x ≠ "__name__" := by decide) (hdb : (x == ("__debug__" : Str)) = false := by decide)
    (hs : starEach (a :: []) X.env = (false, eval a X.env) :: starEach [] X.env := by rfl) (hpl : (backTo pos (starEach [] X.env)).any (·.1) = false := by rfl) : DE X W (.Call (.Name x p) [a] [] pos) (mB1 f t) := by
  obtain ⟨r, hr, hf⟩ := hc
  obtain ⟨tA, pA, hA⟩ := h.run
  refine ⟨_, pe_callB hr hg hm hv (pa_cons pA pa_nil hs) hn hdb hs hpl, fun ι H ρ μ σ Q m s q => ?_⟩
  refine hA ι H ρ μ σ _ m s (Rs.sat_mono (Rs.sat_bind q) (fun d μ1 q1 ι1 H1 v e1 m1 r1 => ?_) fun _ _ h => h)
  exact hf ι1 H1 μ1 [d] [v] Q m1 (.cons r1 .nil) (Rs.sat_mono (sat_noex q1) (fun _ _ h => h.ext e1) fun _ _ h => h)
theorem de_T1 {x : Str} {id : String} {f : MF} {t : ME} {p : Pos} (hc : DCall X (.type id) f) (hg : Gl X x) (hm : X.mg x = none) (hv : bootBuiltins x = some (.type id)) (h : DE X W a t) (hn : x ≠ "__name__" := by decide) (hdb : (x == ("__debug__" : Str)) = false := by decide)
    (hs : starEach (a :: []) X.env = (false, eval a X.env) :: starEach [] X.env := by rfl) (hpl : (backTo pos (starEach [] X.env)).any (·.1) = false := by rfl) : DE X W (.Call (.Name x p) [a] [] pos) (mB1 f t) := by
  obtain ⟨r, hr, hf⟩ := hc
  obtain ⟨tA, pA, hA⟩ := h.run
  refine ⟨_, pe_callTy hr hg hm hv (pa_cons pA pa_nil hs) hn hdb hs hpl, fun ι H ρ μ σ Q m s q => ?_⟩
  refine hA ι H ρ μ σ _ m s (Rs.sat_mono (Rs.sat_bind q) (fun d μ1 q1 ι1 H1 v e1 m1 r1 => ?_) fun _ _ h => h)
  exact hf ι1 H1 μ1 [d] [v] Q m1 (.cons r1 .nil) (Rs.sat_mono (sat_noex q1) (fun _ _ h => h.ext e1) fun _ _ h => h)
theorem de_B2 {x : Str} {id : String} {f : MF} {t u : ME} {p : Pos} (hc : DCall X (.builtin id) f) (hg : Gl X x) (hm : X.mg x = none) (hv : bootBuiltins x = some (.builtin id)) (h : DE X W a t) (g : DE X W b u) (hn : x ≠ "__name__" := by decide) (hdb : (x == ("__debug__" : Str)) = false := by decide)
    (hs : starEach (a :: [b]) X.env = (false, eval a X.env) :: starEach [b] X.env := by rfl) (hs2 : starEach (b :: []) X.env = (false, eval b X.env) :: starEach [] X.env := by rfl) (hpl : (backTo pos (starEach [b] X.env)).any (·.1) = false := by rfl) : DE X W (.Call (.Name x p) [a, b] [] pos) (mB2 f t u) := by
  obtain ⟨r, hr, hf⟩ := hc
  obtain ⟨tA, pA, hA⟩ := h.run
  obtain ⟨tB, pB, hB⟩ := g.run
  refine ⟨_, pe_callB hr hg hm hv (pa_cons pA (pa_cons pB pa_nil hs2) hs) hn hdb hs hpl, fun ι H ρ μ σ Q m s q => ?_⟩
  refine two_ok hA hB (R := fun v u H2 => r [v, u] H2 Q) m s q fun ι1 H1 ι2 H2 x y μ2 v u e1 e2 m2 rx ry q2 => ?_
  exact hf ι2 H2 μ2 [x, y] [v, u] Q m2 (.cons rx (.cons ry .nil)) (Rs.sat_mono (sat_noex q2) (fun _ _ h => h.ext (e1.trans e2)) fun _ _ h => h)
/-- a built-in that a module's name holds (from math import gcd) -/
theorem de_G2 {x : Str} {id : String} {f : MF} {t u : ME} {p : Pos} (hc : DCall X (.builtin id) f) (hg : Gl X x) (hm : X.mg x = some (.builtin id)) (h : DE X W a t) (g : DE X W b u) (hdb : (x == ("__debug__" : Str)) = false := by decide)
    (hs : starEach (a :: [b]) X.env = (false, eval a X.env) :: starEach [b] X.env := by rfl) (hs2 : starEach (b :: []) X.env = (false, eval b X.env) :: starEach [] X.env := by rfl) (hpl : (backTo pos (starEach [b] X.env)).any (·.1) = false := by rfl) : DE X W (.Call (.Name x p) [a, b] [] pos) (mB2 f t u) := by
  obtain ⟨r, hr, hf⟩ := hc
  obtain ⟨tA, pA, hA⟩ := h.run
  obtain ⟨tB, pB, hB⟩ := g.run
  refine ⟨_, pe_callBfun hr hg hm (pa_cons pA (pa_cons pB pa_nil hs2) hs) hdb hs hpl, fun ι H ρ μ σ Q m s q => ?_⟩
  refine two_ok hA hB (R := fun v u H2 => r [v, u] H2 Q) m s q fun ι1 H1 ι2 H2 x y μ2 v u e1 e2 m2 rx ry q2 => ?_
  exact hf ι2 H2 μ2 [x, y] [v, u] Q m2 (.cons rx (.cons ry .nil)) (Rs.sat_mono (sat_noex q2) (fun _ _ h => h.ext (e1.trans e2)) fun _ _ h => h)
end
end M

namespace M
open PySem PySem.Spec PyProof.Rows L2
section
variable {X : Cx} {W : XW} {pos : Pos} {a b c e : Expr}

/-! ## built-in functions -/
theorem dcall_of {v : Value} {f : MF} {r : List V → Hp → VK → Prop} (hr : CallR X v r) (h : ∀ (ι : List Addr) (H : Hp) (μ : Mu) (ds : List D) (vs : List V) (Q : VK), SM X.K ι H μ → RepNs X.K ι H ds vs →
  (f ds μ).sat (PostE X.K ι H Q) (fun _ _ => False) → r vs H Q) : DCall X v f := ⟨r, hr, h⟩
theorem CallR.or' {f : Value} {r r' : List V → Hp → VK → Prop} (h : CallR X f r) (h' : CallR X f r') : CallR X f (fun xs H Q => r xs H Q ∨ r' xs H Q) := by
  intro pins s σ H xs us Q I rx q
  rcases q with q | q
  · exact h pins s σ H xs us Q I rx q
  · exact h' pins s σ H xs us Q I rx q
def fLen : MF
  | [.str z], μ => if z.length ≤ sizeLine then .ok (.int z.length) μ else .bad
  | [d], μ => match cont d μ with
    | some ds => .ok (.int ds.length) μ
    | none => .bad
  | _, _ => .bad
theorem dc_len : DCall X (.builtin "len") fLen := by
  refine dcall_of (CallR.or' call_len_str call_len_seq) fun ι H μ ds vs Q m r q => ?_
  unfold fLen at q
  split at q
  · obtain ⟨v, H0, rfl, r1⟩ := r.one
    have e1 := repN_str r1
    subst e1
    split at q
    · rename_i hz
      exact .inl ⟨_, rfl, hz, post_same m (rep_int _) q⟩
    · exact q.elim
  · obtain ⟨v, H0, rfl, r1⟩ := r.one
    split at q
    · rename_i es hd
      obtain ⟨p, xs, rfl, h1, h2⟩ := cont_ok m r1 hd
      have := post_same m (rep_int _) q
      rw [h2.len] at this
      exact .inr ⟨p, xs, rfl, h1, this⟩
    · exact q.elim
  · exact q.elim
def fInt : MF
  | [.int i], μ => .ok (.int i) μ
  | [.bl k], μ => .ok (.int (if k then 1 else 0)) μ
  | _, _ => .bad
theorem dc_int : DCall X (.type "int") fInt := by
  refine dcall_of call_int1 fun ι H μ ds vs Q m r q => ?_
  unfold fInt at q
  split at q
  · obtain ⟨v, H0, rfl, r1⟩ := r.one
    have e1 := repN_int r1
    subst e1
    exact .inl ⟨_, rfl, post_same m (rep_int _) q⟩
  · obtain ⟨v, H0, rfl, r1⟩ := r.one
    have e1 := repN_bl r1
    subst e1
    exact .inr ⟨_, rfl, post_same m (rep_int _) q⟩
  · exact q.elim
def fTuple : MF
  | [.tup ds], μ => .ok (.tup ds) μ
  | [d], μ => match contL d μ with
    | some ds => .ok (.tup ds) μ
    | none => .bad
  | _, _ => .bad
theorem dc_tuple : DCall X (.type "tuple") fTuple := by
  refine dcall_of call_tuple_of fun ι H μ ds vs Q m r q => ?_
  unfold fTuple at q
  split at q
  · obtain ⟨v, H0, rfl, r1⟩ := r.one
    obtain ⟨p, xs, rfl, h1, h2⟩ := repN_tup r1
    refine ⟨p, xs, rfl, .inr ⟨h1, post_same m (d := .tup _) ?_ q⟩⟩
    simp only [Rep]
    exact ⟨p, xs, rfl, h1, h2⟩
  · obtain ⟨v, H0, rfl, r1⟩ := r.one
    split at q
    · rename_i es hd
      obtain ⟨p, xs, rfl, h1, h2⟩ := contL_ok m r1 hd
      exact ⟨p, xs, rfl, .inl ⟨h1, fun l hl => post_tup m hl h2 q⟩⟩
    · exact q.elim
  · exact q.elim
def fList : MF
  | [d], μ => match cont d μ with
    | some ds => .ok (.new ds) μ
    | none => .bad
  | _, _ => .bad
theorem dc_list : DCall X (.type "list") fList := by
  refine dcall_of call_list_of fun ι H μ ds vs Q m r q => ?_
  unfold fList at q
  split at q
  · obtain ⟨v, H0, rfl, r1⟩ := r.one
    split at q
    · rename_i es hd
      obtain ⟨p, xs, rfl, h1, h2⟩ := cont_ok m r1 hd
      exact ⟨p, xs, rfl, h1, fun l hl => post_new m hl h2 q⟩
    · exact q.elim
  · exact q.elim
/-! lists of ints, of bools -/
def asI : List D → Option (List Int)
  | [] => some []
  | .int i :: r => (asI r).map (i :: ·)
  | _ :: _ => none
def asB : List D → Option (List Bool)
  | [] => some []
  | .bl i :: r => (asB r).map (i :: ·)
  | _ :: _ => none
theorem asI_ok {K : PySem.W.Frag} {ι : List Addr} {H : Hp} : ∀ {ds : List D} {vs : List V} {ns : List Int}, Reps K ι H ds vs → asI ds = some ns → vs = ns.map V.int
  | [], vs, ns, r, h => by simp only [Reps] at r; subst r; cases h; rfl
  | d :: ds, vs, ns, r, h => by
    simp only [Reps] at r
    obtain ⟨v, w, rfl, r1, r2⟩ := r
    cases d with
    | int i =>
      have h' : (asI ds).map (i :: ·) = some ns := h
      cases q : asI ds with
      | none => rw [q] at h'; cases h'
      | some ms =>
        rw [q] at h'
        cases h'
        simp only [Rep] at r1
        rw [r1, asI_ok r2 q]
        rfl
    | _ => cases h
theorem asB_ok {K : PySem.W.Frag} {ι : List Addr} {H : Hp} : ∀ {ds : List D} {vs : List V} {ns : List Bool}, Reps K ι H ds vs → asB ds = some ns → vs = ns.map V.bl
  | [], vs, ns, r, h => by simp only [Reps] at r; subst r; cases h; rfl
  | d :: ds, vs, ns, r, h => by
    simp only [Reps] at r
    obtain ⟨v, w, rfl, r1, r2⟩ := r
    cases d with
    | bl i =>
      have h' : (asB ds).map (i :: ·) = some ns := h
      cases q : asB ds with
      | none => rw [q] at h'; cases h'
      | some ms =>
        rw [q] at h'
        cases h'
        simp only [Rep] at r1
        rw [r1, asB_ok r2 q]
        rfl
    | _ => cases h
theorem asI_map (ns : List Int) : asI (ns.map D.int) = some ns := by
  induction ns with
  | nil => rfl
  | cons n r ih => simp only [List.map_cons, asI, ih, Option.map_some]
theorem asB_map (ns : List Bool) : asB (ns.map D.bl) = some ns := by
  induction ns with
  | nil => rfl
  | cons n r ih => simp only [List.map_cons, asB, ih, Option.map_some]
theorem reps_ints {K : PySem.W.Frag} {ι : List Addr} {H : Hp} (ns : List Int) : Reps K ι H (ns.map D.int) (ns.map V.int) := by
  induction ns with
  | nil => simp only [List.map_nil, Reps]
  | cons n r ih => simp only [List.map_cons, Reps]; exact ⟨_, _, rfl, rep_int n, ih⟩
def intsL (d : D) (μ : Mu) : Option (List Int) := (contL d μ).bind asI
theorem intsL_ok {ι : List Addr} {H H0 : Hp} {μ : Mu} {d : D} {v : V} {ns : List Int} (m : SM X.K ι H μ) (r : RepN X.K ι H H0 d v) (h : intsL d μ = some ns) : ∃ a, v = .ref a ∧ SqL X.K H a (ns.map V.int) := by
  unfold intsL at h
  cases q : contL d μ with
  | none => rw [q] at h; cases h
  | some ds =>
    rw [q] at h
    obtain ⟨a, xs, rfl, h1, h2⟩ := contL_ok m r q
    rw [asI_ok h2 h] at h1
    exact ⟨a, rfl, h1⟩
def minI : List Int → Int
  | [] => 0
  | [x] => x
  | x :: r => min x (minI r)
def maxI : List Int → Int
  | [] => 0
  | [x] => x
  | x :: r => max x (maxI r)
theorem minI_cons {x : Int} {r : List Int} (h : r ≠ []) : minI (x :: r) = min x (minI r) := by
  cases r with
  | nil => exact absurd rfl h
  | cons y r => rfl
theorem maxI_cons {x : Int} {r : List Int} (h : r ≠ []) : maxI (x :: r) = max x (maxI r) := by
  cases r with
  | nil => exact absurd rfl h
  | cons y r => rfl
theorem minI_spec : ∀ {ns : List Int}, ns ≠ [] → minI ns ∈ ns ∧ ∀ y ∈ ns, minI ns ≤ y
  | [x], _ => by simp [minI]
  | x :: y :: r, _ => by
    have ih := minI_spec (ns := y :: r) (by simp)
    rw [minI_cons (by simp)]
    refine ⟨?_, fun z hz => ?_⟩
    · by_cases h : x ≤ minI (y :: r)
      · rw [Int.min_eq_left h]; exact List.mem_cons_self
      · rw [Int.min_eq_right (by omega)]; exact List.mem_cons_of_mem _ ih.1
    · rcases List.mem_cons.mp hz with rfl | hz
      · exact Int.min_le_left _ _
      · exact Int.le_trans (Int.min_le_right _ _) (ih.2 z hz)
theorem maxI_spec : ∀ {ns : List Int}, ns ≠ [] → maxI ns ∈ ns ∧ ∀ y ∈ ns, y ≤ maxI ns
  | [x], _ => by simp [maxI]
  | x :: y :: r, _ => by
    have ih := maxI_spec (ns := y :: r) (by simp)
    rw [maxI_cons (by simp)]
    refine ⟨?_, fun z hz => ?_⟩
    · by_cases h : maxI (y :: r) ≤ x
      · rw [Int.max_eq_left h]; exact List.mem_cons_self
      · rw [Int.max_eq_right (by omega)]; exact List.mem_cons_of_mem _ ih.1
    · rcases List.mem_cons.mp hz with rfl | hz
      · exact Int.le_max_left _ _
      · exact Int.le_trans (ih.2 z hz) (Int.le_max_right _ _)
def fMin : MF
  | [d], μ => match intsL d μ with
    | some ns => if ns ≠ [] then .ok (.int (minI ns)) μ else .bad
    | none => .bad
  | [.int i, .int j], μ => .ok (.int (if j < i then j else i)) μ
  | _, _ => .bad
def fMax : MF
  | [d], μ => match intsL d μ with
    | some ns => if ns ≠ [] then .ok (.int (maxI ns)) μ else .bad
    | none => .bad
  | [.int i, .int j], μ => .ok (.int (if j > i then j else i)) μ
  | _, _ => .bad
theorem dc_min (hc : X.calm = true) : DCall X (.builtin "min") fMin := by
  refine dcall_of (CallR.or' (cr_min hc) (call_min2 hc)) fun ι H μ ds vs Q m r q => ?_
  unfold fMin at q
  split at q
  · obtain ⟨v, H0, rfl, r1⟩ := r.one
    split at q
    · rename_i ns hd
      split at q
      · rename_i hne
        obtain ⟨p, rfl, h1⟩ := intsL_ok m r1 hd
        refine .inl ⟨p, ns, rfl, h1, List.length_pos_iff.mpr hne, fun k h2 h3 => ?_⟩
        obtain ⟨g1, g2⟩ := minI_spec hne
        have e : k = minI ns := Int.le_antisymm (h3 _ g1) (g2 _ h2)
        rw [e]
        exact post_same m (rep_int _) q
      · exact q.elim
    · exact q.elim
  · obtain ⟨v, u, H0, H1, rfl, r1, r2⟩ := r.two
    have e1 := repN_int r1
    have e2 := repN_int r2
    subst e1 e2
    exact .inr ⟨_, _, rfl, post_same m (rep_int _) q⟩
  · exact q.elim
theorem dc_max (hc : X.calm = true) : DCall X (.builtin "max") fMax := by
  refine dcall_of (CallR.or' (cr_max hc) (call_max2 hc)) fun ι H μ ds vs Q m r q => ?_
  unfold fMax at q
  split at q
  · obtain ⟨v, H0, rfl, r1⟩ := r.one
    split at q
    · rename_i ns hd
      split at q
      · rename_i hne
        obtain ⟨p, rfl, h1⟩ := intsL_ok m r1 hd
        refine .inl ⟨p, ns, rfl, h1, List.length_pos_iff.mpr hne, fun k h2 h3 => ?_⟩
        obtain ⟨g1, g2⟩ := maxI_spec hne
        have e : k = maxI ns := Int.le_antisymm (g2 _ h2) (h3 _ g1)
        rw [e]
        exact post_same m (rep_int _) q
      · exact q.elim
    · exact q.elim
  · obtain ⟨v, u, H0, H1, rfl, r1, r2⟩ := r.two
    have e1 := repN_int r1
    have e2 := repN_int r2
    subst e1 e2
    exact .inr ⟨_, _, rfl, post_same m (rep_int _) q⟩
  · exact q.elim
def fSum : MF
  | [d], μ => match intsL d μ with
    | some ns => .ok (.int ns.sum) μ
    | none => .bad
  | _, _ => .bad
theorem dc_sum (hc : X.calm = true) : DCall X (.builtin "sum") fSum := by
  refine dcall_of (cr_sum hc) fun ι H μ ds vs Q m r q => ?_
  unfold fSum at q
  split at q
  · obtain ⟨v, H0, rfl, r1⟩ := r.one
    split at q
    · rename_i ns hd
      obtain ⟨p, rfl, h1⟩ := intsL_ok m r1 hd
      exact ⟨p, ns, rfl, h1, post_same m (rep_int _) q⟩
    · exact q.elim
  · exact q.elim
def fAll : MF
  | [d], μ => match (contL d μ).bind asB with
    | some ns => .ok (.bl (ns.all id)) μ
    | none => .bad
  | _, _ => .bad
def fAny : MF
  | [d], μ => match (contL d μ).bind asB with
    | some ns => .ok (.bl (ns.any id)) μ
    | none => .bad
  | _, _ => .bad
theorem boolsL_ok {ι : List Addr} {H H0 : Hp} {μ : Mu} {d : D} {v : V} {ns : List Bool} (m : SM X.K ι H μ) (r : RepN X.K ι H H0 d v) (h : (contL d μ).bind asB = some ns) : ∃ a, v = .ref a ∧ SqL X.K H a (ns.map V.bl) := by
  cases q : contL d μ with
  | none => rw [q] at h; cases h
  | some ds =>
    rw [q] at h
    obtain ⟨a, xs, rfl, h1, h2⟩ := contL_ok m r q
    rw [asB_ok h2 h] at h1
    exact ⟨a, rfl, h1⟩
theorem dc_all (hc : X.calm = true) : DCall X (.builtin "all") fAll := by
  refine dcall_of (cr_all hc) fun ι H μ ds vs Q m r q => ?_
  unfold fAll at q
  split at q
  · obtain ⟨v, H0, rfl, r1⟩ := r.one
    split at q
    · rename_i ns hd
      obtain ⟨p, rfl, h1⟩ := boolsL_ok m r1 hd
      exact ⟨p, ns, rfl, h1, post_same m (rep_bl _) q⟩
    · exact q.elim
  · exact q.elim
theorem dc_any (hc : X.calm = true) : DCall X (.builtin "any") fAny := by
  refine dcall_of (cr_any hc) fun ι H μ ds vs Q m r q => ?_
  unfold fAny at q
  split at q
  · obtain ⟨v, H0, rfl, r1⟩ := r.one
    split at q
    · rename_i ns hd
      obtain ⟨p, rfl, h1⟩ := boolsL_ok m r1 hd
      exact ⟨p, ns, rfl, h1, post_same m (rep_bl _) q⟩
    · exact q.elim
  · exact q.elim
def fGcd : MF
  | [.int i, .int j], μ => .ok (.int ((Nat.gcd i.natAbs j.natAbs : Nat) : Int)) μ
  | _, _ => .bad
theorem dc_gcd : DCall X (.builtin "math.gcd") fGcd := by
  refine dcall_of cr_gcd fun ι H μ ds vs Q m r q => ?_
  unfold fGcd at q
  split at q
  · obtain ⟨v, u, H0, H1, rfl, r1, r2⟩ := r.two
    have e1 := repN_int r1
    have e2 := repN_int r2
    subst e1 e2
    exact ⟨_, _, rfl, post_same m (rep_int _) q⟩
  · exact q.elim
/-! sorted: ints of a list, of a dict's keys -/
def sortI (ns : List Int) : List Int := ns.mergeSort fun x y => decide (x ≤ y)
theorem sortI_perm (ns : List Int) : (sortI ns).Perm ns := List.mergeSort_perm _ _
theorem sortI_sorted (ns : List Int) : (sortI ns).Pairwise (· ≤ ·) := by
  have h := List.pairwise_mergeSort (le := fun x y : Int => decide (x ≤ y)) (fun x y z h1 h2 => by simp at *; omega) (fun x y => by simp; omega) ns
  exact h.imp fun {x y} q => by simpa using q
theorem sortI_eq {ns ms : List Int} (hp : ms.Perm ns) (hs : ms.Pairwise (· ≤ ·)) : ms = sortI ns := PySem.W.ksm_same (hp.trans (sortI_perm ns).symm) hs (sortI_sorted ns)
/-- sorted(d), the keys ints, however many -/
theorem call_sortedKI (hcalm : X.calm = true) : CallR X (.builtin "sorted") fun xs H Q => ∃ (d : Addr) (kvs : List (Key × V)) (ks : List Int), xs = [V.ref d] ∧ H d = some (.dK kvs) ∧ kvs.map (·.1) = ks.map Sum.inl ∧
    ∀ (ys : List Int) (p : Addr), ys.Perm ks → ys.Pairwise (· ≤ ·) → H p = none → Q (.ref p) (upd H p (.lst (ys.map V.int))) := by
  intro pins s σ H xs us Q I r h
  obtain ⟨d, kvs, ks, rfl, hd, hk, q⟩ := h
  obtain ⟨u, rfl, ru⟩ := vals1 r
  cases ru
  obtain ⟨hz, hne, ents, rel, dof⟩ := dk_of I.hok hd
  obtain ⟨ep, dat⟩ := dof.dictAt
  have ekeys : ents.map (·.1) = ks.map Sum.inl := by
    rw [← rel.keys]
    exact hk
  have elen : ents.length = ks.length := by simpa using congrArg List.length ekeys
  have kvlen : kvs.length = ks.length := by simpa using congrArg List.length hk
  have small : ents.length ≤ sizeLine := by omega
  refine Calls.call_function_entry kind_sorted plain_sorted entry_sorted (args_sorted1 _) ?_
  unfold Builtin.«sorted»
  refine wpAny_bind (m := checkCount "sorted" 1 1 _) (wpAny_pure (wpAny_bind ?_))
  refine PySem.W.kdu_collect (A := X.A.in1) (PySem.W.kdl_dict (knd := mixKind X.prog X.w) (kvs := ents) (ep := ep) hne) (I.ok.hd hcalm) dat small fun g tk arr keep items => ?_
  have alen : arr.toList.length = ks.length := (Array.length_toList).trans (items.1.trans elen)
  have hI : IntsAre arr.toList ks := ints_each alen fun j v hv => by
    obtain ⟨key, w, h1, h2⟩ := items.2 j v ((Array.getElem?_toList).symm.trans hv)
    have h3 : (ks.map Sum.inl)[j]? = some key := by
      rw [← ekeys, List.getElem?_map, h1]
      rfl
    rw [List.getElem?_map] at h3
    cases h4 : ks[j]? with
    | none => rw [h4] at h3; cases h3
    | some y =>
      rw [h4] at h3
      have h5 : (Sum.inl y : Key) = key := Option.some.inj h3
      rcases keyIs_shape (show keyIs key v = true from h2) with ⟨i, t, e1, e2⟩ | ⟨z, t, e1, e2⟩
      · rw [e1] at h5
        exact ⟨y, t, rfl, by rw [e2, Sum.inl.inj h5]⟩
      · rw [e1] at h5; cases h5
  have J : Inv X pins σ H { s with heap := g, toks := tk } := I.kept keep
  have fits : arr.toList.length ≤ sizeLine := by omega
  refine wpAny_bind (wpAny_newList ?_ fits)
  have there : (g.push (seqObj "list" arr.toList.toArray 0)).get? g.objs.size = some (seqObj "list" arr.toList.toArray 0) := Heap.get?_push_size _ rfl
  refine wpAny_bind (wpAny_holding ?_)
  refine wpAny_call_entry (s := { s with heap := g.push (seqObj "list" arr.toList.toArray 0), toks := tk }) slot_list_sort ⟨_, there, rfl⟩ entry_list_sort ?_ (args_list_sort _)
  refine SrtO.list_sort_ord (s := { s with heap := g.push (seqObj "list" arr.toList.toArray 0), toks := tk }) SrtO.swo_int there fits (fun two => SrtO.ints_sortable hI two) fun out o1 o2 => ⟨.none, rfl, wpAny_pure ?_⟩
  obtain ⟨j1, j2, j3⟩ := SrtO.ints_out hI o1 o2
  obtain ⟨ep', at'⟩ := sortedHeap_at (vs := arr.toList) (out := out.toArray) there
  have len' : ((out.map SrtO.iv).map V.int).length ≤ sizeLine := by rw [List.length_map, j2.length_eq, ← alen]; exact fits
  refine ⟨_, rfl, .ref g.objs.size, upd H g.objs.size (.lst ((out.map SrtO.iv).map V.int)), ?_, rfl, q _ _ j2 j3 (J.hok.fresh (Nat.le_refl _))⟩
  refine J.laid (t' := tk) (fun b o hb => ?_) (Nat.le_refl _) ⟨len', out, ep', vals_of_ints j1, at'⟩
  have lt : b < g.objs.size := Heap.lt_size hb
  rw [sortedHeap_old (Nat.ne_of_lt lt) (by rw [size_push']; exact Nat.lt_succ_of_lt lt)]
  exact Heap.get?_push_of_some _ hb
def keysI : List (Key × D) → Option (List Int)
  | [] => some []
  | (.inl i, _) :: r => (keysI r).map (i :: ·)
  | _ :: _ => none
theorem keysI_ok : ∀ {kvs : List (Key × D)} {ks : List Int}, keysI kvs = some ks → kvs.map Prod.fst = ks.map Sum.inl
  | [], ks, h => by cases h; rfl
  | (.inl i, d) :: r, ks, h => by
    have h' : (keysI r).map (i :: ·) = some ks := h
    cases q : keysI r with
    | none => rw [q] at h'; cases h'
    | some l =>
      rw [q] at h'
      cases h'
      simp only [List.map_cons, keysI_ok q]
  | (.inr z, d) :: r, ks, h => by cases h
def fSorted : MF
  | [.ref n], μ => match μ[n]? with
    | some (.dic kvs) => match keysI kvs with
      | some ks => .ok (.new ((sortI ks).map D.int)) μ
      | none => .bad
    | _ => match intsL (.ref n) μ with
      | some ns => .ok (.new ((sortI ns).map D.int)) μ
      | none => .bad
  | [d], μ => match intsL d μ with
    | some ns => .ok (.new ((sortI ns).map D.int)) μ
    | none => .bad
  | _, _ => .bad
theorem dc_sorted (hc : X.calm = true) : DCall X (.builtin "sorted") fSorted := by
  refine dcall_of (CallR.or' (call_sortedKI hc) cr_sortedI) fun ι H μ ds vs Q m r q => ?_
  have lst : ∀ (d : D) (v : V) (H0 : Hp), RepN X.K ι H H0 d v → (match intsL d μ with | some ns => Rs.ok (D.new ((sortI ns).map D.int)) μ | none => .bad).sat (PostE X.K ι H Q) (fun _ _ => False) → rSortedI X.K [v] H Q := by
    intro d v H0 r1 q
    split at q
    · rename_i ns hd
      obtain ⟨p, rfl, h1⟩ := intsL_ok m r1 hd
      refine ⟨p, ns, rfl, h1, fun ns' p' k1 k2 hp => ?_⟩
      rw [sortI_eq k1 k2]
      exact post_new m hp (reps_ints _) q
    · exact q.elim
  unfold fSorted at q
  split at q
  · obtain ⟨v, H0, rfl, r1⟩ := r.one
    split at q
    · rename_i kvs hn
      split at q
      · rename_i ks hk
        have r2 : Rep X.K ι H (.ref _) v := r1
        simp only [Rep] at r2
        obtain ⟨p, rfl, hp⟩ := r2
        obtain ⟨xs, h1, h2, _⟩ := m.obj _ _ p hn hp
        refine .inl ⟨p, xs, ks, rfl, h1, h2.trans (keysI_ok hk), fun ys p' k1 k2 hp' => ?_⟩
        rw [sortI_eq k1 k2]
        exact post_new m hp' (reps_ints _) q
      · exact q.elim
    · exact .inr (lst _ _ _ r1 q)
  · obtain ⟨v, H0, rfl, r1⟩ := r.one
    exact .inr (lst _ _ _ r1 q)
  · exact q.elim
end
end M

namespace M
open PySem PySem.Spec PyProof.Rows L2

/-! ## the readings that hang on the mirror alone -/
def canE (K : PySem.W.Frag) (W : XW) (t : ME) : TE := fun σ H Q => ∃ ι ρ μ, SM K ι H μ ∧ SE K ι H ρ σ ∧ (t ρ μ).sat (PostE K ι H Q) (PostX K ι H W)
def canT (K : PySem.W.Frag) (W : XW) (t : MT) : TT := fun σ H Q => ∃ ι ρ μ, SM K ι H μ ∧ SE K ι H ρ σ ∧ (t ρ μ).sat (PostT K ι H Q) (PostX K ι H W)
section
variable {X : Cx} {W : XW} {pos : Pos} {a b c e : Expr}
theorem DE.can {t : ME} (h : DE X W e t) : PE X e (canE X.K W t) := by
  obtain ⟨tA, pA, hA⟩ := h.run
  exact ⟨fun pins s σ H Q I ⟨ι, ρ, μ, m, r, q⟩ => pA.run pins s σ H Q I (hA ι H ρ μ σ Q m r q)⟩
theorem DT.can {t : MT} (h : DT X W e t) : PT X e (canT X.K W t) := by
  obtain ⟨tA, pA, hA⟩ := h.run
  exact ⟨fun pins s σ H Q I ⟨ι, ρ, μ, m, r, q⟩ => pA.run pins s σ H Q I (hA ι H ρ μ σ Q m r q)⟩
end

/-! ## equality of data -/
mutual
def beqD : D → D → Bool
  | .non, .non => true
  | .bl a, .bl b => a == b
  | .int a, .int b => a == b
  | .str a, .str b => a == b
  | .tup a, .tup b => beqs a b
  | .ref a, .ref b => a == b
  | .sls a, .sls b => beqs a b
  | .new a, .new b => beqs a b
  | _, _ => false
def beqs : List D → List D → Bool
  | [], [] => true
  | a :: r, b :: s => beqD a b && beqs r s
  | _, _ => false
end
mutual
theorem beqD_eq : ∀ a b : D, beqD a b = true → a = b
  | .non, b, h => by cases b <;> simp_all [beqD]
  | .bl a, b, h => by cases b <;> simp_all [beqD]
  | .int a, b, h => by cases b <;> simp_all [beqD]
  | .str a, b, h => by cases b <;> simp_all [beqD]
  | .ref a, b, h => by cases b <;> simp_all [beqD]
  | .tup a, b, h => by cases b <;> simp [beqD] at h ⊢; exact beqs_eq a _ h
  | .sls a, b, h => by cases b <;> simp [beqD] at h ⊢; exact beqs_eq a _ h
  | .new a, b, h => by cases b <;> simp [beqD] at h ⊢; exact beqs_eq a _ h
theorem beqs_eq : ∀ a b : List D, beqs a b = true → a = b
  | [], b, h => by cases b <;> simp_all [beqs]
  | a :: r, b, h => by
    cases b with
    | nil => simp [beqs] at h
    | cons b s =>
      simp only [beqs, Bool.and_eq_true] at h
      rw [beqD_eq a b h.1, beqs_eq r s h.2]
end
mutual
theorem beqD_rfl : ∀ a : D, beqD a a = true
  | .non => by simp [beqD]
  | .bl a => by simp [beqD]
  | .int a => by simp [beqD]
  | .str a => by simp [beqD]
  | .ref a => by simp [beqD]
  | .tup a => by simp [beqD, beqs_rfl a]
  | .sls a => by simp [beqD, beqs_rfl a]
  | .new a => by simp [beqD, beqs_rfl a]
theorem beqs_rfl : ∀ a : List D, beqs a a = true
  | [] => by simp [beqs]
  | a :: r => by simp [beqs, beqD_rfl a, beqs_rfl r]
end
/-- the list that is walked is as it was -/
def ownB (own : Option Nat) (all : List D) (μ : Mu) : Bool := match own with
  | none => true
  | some n => match μ[n]? with
    | some (.lst ds) => beqs ds all
    | _ => false
theorem ownB_some {n : Nat} {all : List D} {μ : Mu} (h : μ[n]? = some (.lst all)) : ownB (some n) all μ = true := by
  simp only [ownB, h, beqs_rfl]
theorem of_ownB {n : Nat} {all : List D} {μ : Mu} (h : ownB (some n) all μ = true) : μ[n]? = some (.lst all) := by
  simp only [ownB] at h
  split at h
  · rename_i ds hd
    rw [hd, beqs_eq ds all h]
  · cases h

/-! ## what is walked -/
structure Src where
  items : List D
  own : Option Nat
structure Wk (K : PySem.W.Frag) (J : It) (S : Src) (ι0 : List Addr) (H0 : Hp) : Prop where
  go : ∀ (i : Nat) (ι : List Addr) (H : Hp) (μ : Mu), Ext ι0 H0 ι H → SM K ι H μ → ownB S.own S.items μ = true → i < S.items.length → J.go i H
  stop : ∀ (ι : List Addr) (H : Hp) (μ : Mu), Ext ι0 H0 ι H → SM K ι H μ → ownB S.own S.items μ = true → J.stop S.items.length H
  yld : ∀ (i : Nat) (ι : List Addr) (H : Hp) (μ : Mu) (x : V) (H' : Hp), Ext ι0 H0 ι H → SM K ι H μ → ownB S.own S.items μ = true → i < S.items.length → J.yld i H x H' → ∃ d, S.items[i]? = some d ∧ Ext ι H ι H' ∧ SM K ι H' μ ∧ Rep K ι H' d x
abbrev MI := En → Mu → Rs Src
def PostI (K : PySem.W.Frag) (ι : List Addr) (H : Hp) (R : It → Hp → Prop) : Src → Mu → Prop := fun S μ' => ∀ ι' H' J, Ext ι H ι' H' → SM K ι' H' μ' → Wk K J S ι' H' → R J H'
structure DI (X : Cx) (W : XW) (tg iter : Expr) (t : MI) : Prop where
  run : ∃ wi : TI, PI X tg iter wi ∧ ∀ (ι : List Addr) (H : Hp) (ρ : En) (μ : Mu) (σ : L2.St) (R : It → Hp → Prop), SM X.K ι H μ → SE X.K ι H ρ σ → (t ρ μ).sat (PostI X.K ι H R) (PostX X.K ι H W) → wi σ H R
section
variable {X : Cx} {W : XW} {pos : Pos} {a b c e tg : Expr}
theorem Ext.same (ι : List Addr) (H : Hp) : Ext ι H ι H := .refl ι H
/-- a list at a that stands as it stands -/
theorem wk_list {K : PySem.W.Frag} {ι0 : List Addr} {H0 : Hp} {a : Addr} {ds : List D} {own : Option Nat}
    (h : ∀ (ι : List Addr) (H : Hp) (μ : Mu), Ext ι0 H0 ι H → SM K ι H μ → ownB own ds μ = true → ∃ xs, SqL K H a xs ∧ Reps K ι H ds xs) : Wk K (Itl K a) ⟨ds, own⟩ ι0 H0 := by
  refine ⟨fun i ι H μ e m o hi => ?_, fun ι H μ e m o => ?_, fun i ι H μ x H' e m o hi y => ?_⟩
  · obtain ⟨xs, h1, h2⟩ := h ι H μ e m o
    have hl : i < xs.length := by rw [← h2.len]; exact hi
    exact ⟨xs, xs[i], h1, List.getElem?_eq_getElem hl⟩
  · obtain ⟨xs, h1, h2⟩ := h ι H μ e m o
    exact ⟨xs, h1, by rw [← h2.len]; exact Nat.le_refl _⟩
  · obtain ⟨xs, h1, h2⟩ := h ι H μ e m o
    obtain ⟨e1, y⟩ := y
    subst e1
    obtain ⟨d, g1, g2⟩ := h2.getV (y xs h1)
    exact ⟨d, g1, .refl _ _, m, g2⟩
theorem wk_tup {K : PySem.W.Frag} {ι0 : List Addr} {H0 : Hp} {a : Addr} {ds : List D} {xs : List V} (h1 : SqT K H0 a xs) (h2 : Reps K ι0 H0 ds xs) : Wk K (Itt K a) ⟨ds, none⟩ ι0 H0 := by
  refine ⟨fun i ι H μ e m o hi => ?_, fun ι H μ e m o => ?_, fun i ι H μ x H' e m o hi y => ?_⟩
  · have hl : i < xs.length := by rw [← h2.len]; exact hi
    exact ⟨xs, xs[i], SqT.ext e h1, List.getElem?_eq_getElem hl⟩
  · exact ⟨xs, SqT.ext e h1, by rw [← h2.len]; exact Nat.le_refl _⟩
  · obtain ⟨e1, y⟩ := y
    subst e1
    obtain ⟨d, g1, g2⟩ := (h2.ext e).getV (y xs (SqT.ext e h1))
    exact ⟨d, g1, .refl _ _, m, g2⟩
def srcOf (d : D) (μ : Mu) : Rs Src := match d with
  | .tup ds => .ok ⟨ds, none⟩ μ
  | .sls ds => .ok ⟨ds, none⟩ μ
  | .new ds => .ok ⟨ds, none⟩ μ
  | .ref n => match μ[n]? with
    | some (.lst ds) => .ok ⟨ds, some n⟩ μ
    | _ => .bad
  | _ => .bad
/-- a tuple or a list, by its value -/
def mSq (t : ME) : MI := fun ρ μ => (t ρ μ).bind srcOf
theorem PI.or {wi wi' : TI} (h : PI X tg e wi) (h' : PI X tg e wi') : PI X tg e (fun σ H R => wi σ H R ∨ wi' σ H R) :=
  ⟨fun pins s σ H R I q => q.elim (h.run pins s σ H R I) (h'.run pins s σ H R I)⟩
end
section
variable {X : Cx} {W : XW} {pos : Pos} {a b c e tg : Expr}
/-- a list or a tuple: which one is known when it is evaluated -/
def iSeq (K : PySem.W.Frag) (te : TE) : TI := fun σ H R => te σ H fun x H1 => ∃ a, x = .ref a ∧ ((∃ xs, SqL K H1 a xs) ∧ R (Itl K a) H1 ∨ (∃ xs, SqT K H1 a xs) ∧ R (Itt K a) H1)
theorem pi_seq {te : TE} (he : PE X e te) : PI X tg e (iSeq X.K te) := by
  refine ⟨fun pins s σ H R I h => ?_⟩
  refine thn (he.run pins s σ H _ I h) fun v s1 ⟨x, H1, J, rx, q⟩ => ?_
  obtain ⟨a, rfl, q⟩ := q
  cases rx
  have fin : ∀ {g : Heap} {Jt : It} {tn : Nat → Heap → Prop}, (∀ b o, s1.heap.get? b = some o → g.get? b = some o) → Turn X.prog X.w X.K tg Jt [s1.heap.objs.size] s1.heap.objs.size tn → tn 0 g → R Jt H1 →
      PIE X pins σ tg R (.ref s1.heap.objs.size) { s1 with heap := g } := fun {g Jt tn} keep T st r => by
    refine ⟨s1.heap.objs.size, [s1.heap.objs.size], tn, Jt, H1, rfl, J.kept (t' := s1.toks) keep, T, st, fun b hb => ?_, r⟩
    have eb : b = s1.heap.objs.size := by simpa using hb
    subst eb
    exact J.fpOk (Nat.le_refl _) (J.hok.fresh (Nat.le_refl _))
  rcases q with ⟨⟨xs, hq⟩, r⟩ | ⟨⟨xs, hq⟩, r⟩
  · obtain ⟨its, _, pl, _⟩ := J.list hq
    exact wpAny_pyIter_list pl.isList (fin (fun b o z => Heap.get?_push_of_some _ z) (turn_list a _) ⟨_, Heap.get?_push_size _ rfl, rfl, rfl⟩ r)
  · obtain ⟨its, _, pl, _⟩ := J.tuple hq
    exact wpAny_pyIter_tuple (show s1.heap.IsTuple a its.toArray from pl) (fin (fun b o z => Heap.get?_push_of_some _ z) (turn_tuple a _) ⟨_, Heap.get?_push_size _ rfl, rfl, rfl⟩ r)
theorem di_seq {t : ME} (h : DE X W e t) : DI X W tg e (mSq t) := by
  obtain ⟨tA, pA, hA⟩ := h.run
  refine ⟨_, pi_seq pA, fun ι H ρ μ σ R m s q => hA ι H ρ μ σ _ m s (Rs.sat_mono (Rs.sat_bind q) (fun d μ1 q1 ι1 H1 v e1 m1 r1 => ?_) fun _ _ h => h)⟩
  unfold srcOf at q1
  split at q1
  · obtain ⟨p, xs, rfl, h1, h2⟩ := repN_tup r1
    exact ⟨p, rfl, .inr ⟨⟨xs, h1⟩, q1 ι1 H1 _ e1 m1 (wk_tup h1 h2)⟩⟩
  · have r2 : Rep X.K ι1 H1 (.sls _) v := r1
    simp only [Rep] at r2
    obtain ⟨p, xs, rfl, h1, h2⟩ := r2
    exact ⟨p, rfl, .inl ⟨⟨xs, h1.sq⟩, q1 ι1 H1 _ e1 m1 (wk_list fun ι2 H2 μ2 e2 m2 _ => ⟨xs, (h1.ext e2).sq, h2.ext e2⟩)⟩⟩
  · obtain ⟨p, xs, rfl, h1, h2, h3, h4⟩ := r1
    exact ⟨p, rfl, .inl ⟨⟨xs, .of h2⟩, q1 ι1 H1 _ e1 m1 (wk_list fun ι2 H2 μ2 e2 m2 _ => ⟨xs, .of (e2.keep _ _ h2 h1), h4.ext e2⟩)⟩⟩
  · split at q1
    · rename_i n ds hd
      have r2 : Rep X.K ι1 H1 (.ref _) v := r1
      simp only [Rep] at r2
      obtain ⟨p, rfl, hp⟩ := r2
      obtain ⟨xs, h1, h2⟩ := m1.obj _ _ p hd hp
      refine ⟨p, rfl, .inl ⟨⟨xs, .of h1⟩, q1 ι1 H1 _ e1 m1 (wk_list fun ι2 H2 μ2 e2 m2 o2 => ?_)⟩⟩
      obtain ⟨ys, g1, g2⟩ := m2.obj _ _ p (of_ownB o2) (e2.ix hp)
      exact ⟨ys, .of g1, g2⟩
    · exact q1.elim
  · exact q1.elim
def rngD (lo : Int) (n : Nat) : List D := (List.range n).map fun i => D.int (lo + (i : Nat))
theorem rngD_len (lo : Int) (n : Nat) : (rngD lo n).length = n := by simp [rngD]
theorem rngD_get {lo : Int} {n i : Nat} (h : i < n) : (rngD lo n)[i]? = some (.int (lo + (i : Nat))) := by
  unfold rngD
  rw [List.getElem?_map, List.getElem?_range h]
  rfl
theorem wk_rng {K : PySem.W.Frag} {ι0 : List Addr} {H0 : Hp} {lo : Int} {n : Nat} : Wk K (Itr lo n) ⟨rngD lo n, none⟩ ι0 H0 := by
  refine ⟨fun i ι H μ e m o hi => ?_, fun ι H μ e m o => ?_, fun i ι H μ x H' e m o hi y => ?_⟩
  · rw [rngD_len] at hi; exact hi
  · rw [rngD_len]; exact Nat.le_refl _
  · rw [rngD_len] at hi
    obtain ⟨e1, e2⟩ := y
    subst e1 e2
    exact ⟨_, rngD_get hi, .refl _ _, m, rep_int _⟩
def smBI (j : Int) : Bool := decide (-(2 ^ 62) ≤ j ∧ j < 2 ^ 62)
noncomputable def smB (j : Int) : Bool := @decide (-(2 ^ 62) ≤ j ∧ j < 2 ^ 62) (Classical.propDecidable _)
theorem smB_iff {j : Int} : smB j = true ↔ (-(2 ^ 62) ≤ j ∧ j < 2 ^ 62) := @decide_eq_true_iff _ (Classical.propDecidable _)
def mRng1 (t : ME) : MI := fun ρ μ => (t ρ μ).bind fun d μ1 => match d with
  | .int j => if smB j = true then .ok ⟨rngD 0 j.toNat, none⟩ μ1 else .bad
  | _ => .bad
def mRng2 (t u : ME) : MI := fun ρ μ => (t ρ μ).bind fun d μ1 => (u ρ μ1).bind fun e μ2 => match d, e with
  | .int i, .int j => if smB i = true ∧ smB j = true then .ok ⟨rngD i (j - i).toNat, none⟩ μ2 else .bad
  | _, _ => .bad
theorem di_rng1 {t : ME} {p : Pos} (hg : Gl X "range") (hm : X.mg "range" = none) (h : DE X W a t) (hs : starEach [a] X.env = [(false, eval a X.env)] := by rfl) : DI X W tg (.Call (.Name "range" p) [a] [] pos) (mRng1 t) := by
  obtain ⟨tA, pA, hA⟩ := h.run
  refine ⟨_, pi_range1 hg hm (pa_cons pA pa_nil hs) hs, fun ι H ρ μ σ R m s q => hA ι H ρ μ σ _ m s (Rs.sat_mono (Rs.sat_bind q) (fun d μ1 q1 ι1 H1 v e1 m1 r1 => ?_) fun _ _ h => h)⟩
  split at q1
  · rename_i j
    have ev := repN_int r1
    subst ev
    split at q1
    · rename_i hj
      exact ⟨j, rfl, (smB_iff.mp hj).1, (smB_iff.mp hj).2, q1 ι1 H1 _ e1 m1 wk_rng⟩
    · exact q1.elim
  · exact q1.elim
theorem di_rng2 {t u : ME} {p : Pos} (hg : Gl X "range") (hm : X.mg "range" = none) (h : DE X W a t) (g : DE X W b u) (hs : starEach [a, b] X.env = [(false, eval a X.env), (false, eval b X.env)] := by rfl) (hs2 : starEach [b] X.env = [(false, eval b X.env)] := by rfl)
    (hs3 : starEach (a :: [b]) X.env = (false, eval a X.env) :: starEach [b] X.env := by rfl) (hs4 : starEach (b :: []) X.env = (false, eval b X.env) :: starEach [] X.env := by rfl) : DI X W tg (.Call (.Name "range" p) [a, b] [] pos) (mRng2 t u) := by
  obtain ⟨tA, pA, hA⟩ := h.run
  obtain ⟨tB, pB, hB⟩ := g.run
  refine ⟨_, pi_range2 hg hm (pa_cons pA (pa_cons pB pa_nil hs4) hs3) hs hs2, fun ι H ρ μ σ R m s q => ?_⟩
  refine hA ι H ρ μ σ _ m s (Rs.sat_mono (Rs.sat_bind q) (fun d μ1 q1 ι1 H1 v e1 m1 r1 => ?_) fun _ _ h => h)
  refine hB ι1 H1 ρ μ1 σ _ m1 (s.ext e1) (Rs.sat_mono (Rs.sat_bind q1) (fun d2 μ2 q2 ι2 H2 u2 e2 m2 r2 => ?_) fun _ _ h => h.ext e1)
  split at q2
  · rename_i i j
    have ev := repN_int r1
    have eu := repN_int r2
    subst ev eu
    split at q2
    · rename_i hj
      exact ⟨i, j, rfl, ⟨(smB_iff.mp hj.1).1, (smB_iff.mp hj.1).2, (smB_iff.mp hj.2).1, (smB_iff.mp hj.2).2⟩, q2 ι2 H2 _ (e1.trans e2) m2 wk_rng⟩
    · exact q2.elim
  · exact q2.elim

/-! ## targets; vs: the slots that may change -/
abbrev MG := D → En → Mu → Rs En
def PostG (K : PySem.W.Frag) (ι : List Addr) (H : Hp) (vs : List Nat) (σ : L2.St) (Q : L2.St → Hp → Prop) : En → Mu → Prop := fun ρ' μ' => ∀ ι' H' σ', Ext ι H ι' H' → SM K ι' H' μ' → SE K ι' H' ρ' σ' → σ'.length = σ.length → (∀ j, j ∉ vs → σ'[j]? = σ[j]?) → Q σ' H'
structure DG (X : Cx) (W : XW) (vs : List Nat) (tg : Expr) (g : MG) : Prop where
  run : ∃ t : TG, PG X tg t ∧ ∀ (ι : List Addr) (H : Hp) (ρ : En) (μ : Mu) (σ : L2.St) (d : D) (v : V) (Q : L2.St → Hp → Prop), SM X.K ι H μ → SE X.K ι H ρ σ → Rep X.K ι H d v → (g d ρ μ).sat (PostG X.K ι H vs σ Q) (PostX X.K ι H W) → t v σ H Q
def gN (i : Nat) : MG := fun d ρ μ => .ok (ρ.set i (some d)) μ
theorem dg_name {i : Nat} {x : Str} {vs : List Nat} (h : PG X (.Name x pos) (gName i)) (hi : i ∈ vs) : DG X W vs (.Name x pos) (gN i) :=
  ⟨_, h, fun ι H ρ μ σ d v Q m s r q => q ι H _ (.refl _ _) m (s.set r) (by rw [List.length_set]) fun j hj => by rw [List.getElem?_set_ne]; rintro rfl; exact hj hi⟩
abbrev MGs := List D → En → Mu → Rs En
structure DGs (X : Cx) (W : XW) (vs : List Nat) (tgs : List Expr) (g : MGs) : Prop where
  run : ∃ t : TGs, PGs X tgs t ∧ ∀ (ι : List Addr) (H : Hp) (ρ : En) (μ : Mu) (σ : L2.St) (ds : List D) (us : List V) (Q : L2.St → Hp → Prop), SM X.K ι H μ → SE X.K ι H ρ σ → Reps X.K ι H ds us → (g ds ρ μ).sat (PostG X.K ι H vs σ Q) (PostX X.K ι H W) → t us σ H Q
def gsNil : MGs := fun ds ρ μ => match ds with
  | [] => .ok ρ μ
  | _ => .bad
def gsCons (g : MG) (gs : MGs) : MGs := fun ds ρ μ => match ds with
  | d :: r => (g d ρ μ).bind fun ρ1 μ1 => gs r ρ1 μ1
  | _ => .bad
theorem dgs_nil {vs : List Nat} : DGs X W vs [] gsNil := by
  refine ⟨_, pgs_nil, fun ι H ρ μ σ ds us Q m s r q => ?_⟩
  cases ds with
  | nil =>
    simp only [Reps] at r
    exact ⟨r, q ι H σ (.refl _ _) m s rfl fun _ _ => rfl⟩
  | cons d ds => exact q.elim
theorem dgs_cons {vs : List Nat} {es : List Expr} {g : MG} {gs : MGs} (h1 : DG X W vs e g) (h2 : DGs X W vs es gs) (hs : (assignEach (e :: es) X.env).map (·.2) = assign e X.env :: (assignEach es X.env).map (·.2) := by rfl) : DGs X W vs (e :: es) (gsCons g gs) := by
  obtain ⟨tA, pA, hA⟩ := h1.run
  obtain ⟨tB, pB, hB⟩ := h2.run
  refine ⟨_, pgs_cons pA pB hs, fun ι H ρ μ σ ds us Q m s r q => ?_⟩
  cases ds with
  | nil => exact q.elim
  | cons d ds =>
    simp only [Reps] at r
    obtain ⟨v, w, rfl, r1, r2⟩ := r
    refine ⟨v, w, rfl, hA ι H ρ μ σ d v _ m s r1 (Rs.sat_mono (Rs.sat_bind q) (fun ρ1 μ1 q1 ι1 H1 σ1 e1 m1 s1 l1 k1 => ?_) fun _ _ h => h)⟩
    refine hB ι1 H1 ρ1 μ1 σ1 ds w Q m1 s1 (r2.ext e1) (Rs.sat_mono q1 (fun ρ2 μ2 q2 ι2 H2 σ2 e2 m2 s2 l2 k2 => ?_) fun _ _ h => h.ext e1)
    exact q2 ι2 H2 σ2 (e1.trans e2) m2 s2 (l2.trans l1) fun j hj => (k2 j hj).trans (k1 j hj)
def gT (n : Nat) (gs : MGs) : MG := fun d ρ μ => match d with
  | .tup ds => if ds.length = n then gs ds ρ μ else .bad
  | _ => .bad
theorem dg_tup {vs : List Nat} {es : List Expr} {k n : Nat} {gs : MGs} (hc : X.calm = true) (h : DGs X W vs es gs) (hn : (assignEach es X.env).length = n := by rfl) (hst : (assignEach es X.env).findIdx? (·.1) = none := by rfl) : DG X W vs (.Tuple es k pos) (gT n gs) := by
  obtain ⟨tA, pA, hA⟩ := h.run
  refine ⟨_, pg_tup hc pA hn hst, fun ι H ρ μ σ d v Q m s r q => ?_⟩
  cases d with
  | tup ds =>
    obtain ⟨p, xs, rfl, h1, h2⟩ := repN_tup (H0 := H) r.n
    have q : (if ds.length = n then gs ds ρ μ else .bad).sat (PostG X.K ι H vs σ Q) (PostX X.K ι H W) := q
    split at q
    · rename_i hl
      exact ⟨p, xs, rfl, h1, by rw [← h2.len]; exact hl, hA ι H ρ μ σ ds xs Q m s h2 q⟩
    · exact q.elim
  | _ => exact q.elim

/-! ## for -/
def forD (g : MG) (body : MS) (own : Option Nat) (all : List D) : List D → MS
  | [], ρ, μ => if ownB own all μ = true then .ok (.nx, ρ) μ else .bad
  | x :: xs, ρ, μ => if ownB own all μ = true then (g x ρ μ).bind fun ρ1 μ1 => (body ρ1 μ1).bind fun r μ2 => match r.1 with
      | .nx => forD g body own all xs r.2 μ2
      | .ct => forD g body own all xs r.2 μ2
      | .bk => .ok (.nx, r.2) μ2
      | .rt d => .ok (.rt d, r.2) μ2
    else .bad
def mFor (src : MI) (g : MG) (body : MS) : MS := fun ρ μ => (src ρ μ).bind fun S μ1 => forD g body S.own S.items S.items ρ μ1
theorem ds_for {tg iter : Expr} {st : List Stmt} {src : MI} {g : MG} {body : MS} {vs : List Nat} (hp : PassesOwn (model X.prog X.w) X.A X.env X.xe) (hc : X.calm = true) (hi : DI X W tg iter src) (hg : DG X W vs tg g) (hb : DSs X W st body)
    (hs : ∀ x, foldedSetIterable iter X.env x = pure x := by intro _; rfl) : DS X W (.For tg iter st [] pos) (mFor src g body) := by
  obtain ⟨wi, pI, hI⟩ := hi.run
  obtain ⟨tg', pG, hG⟩ := hg.run
  obtain ⟨tb, pB, hB⟩ := hb.run
  refine ⟨_, ps_for hp hc pI pG pB hs, fun ι H ρ μ σ B m s q => ?_⟩
  refine hI ι H ρ μ σ _ m s (Rs.sat_mono (Rs.sat_bind q) (fun S μ1 q1 ι1 H1 J e1 m1 wk => ?_) fun _ _ h => h)
  refine ⟨fun i n σ' H' => n = S.items.length - i ∧ i ≤ S.items.length ∧ ∃ ι' ρ' μ', Ext ι1 H1 ι' H' ∧ SM X.K ι' H' μ' ∧ SE X.K ι' H' ρ' σ' ∧ (forD g body S.own S.items (S.items.drop i) ρ' μ').sat (PostS X.K ι H B) (PostX X.K ι H W),
    ⟨S.items.length, by simp, Nat.zero_le _, ι1, ρ, μ1, .refl _ _, m1, s.ext e1, by simpa using q1⟩, ?_⟩
  rintro i n σ' H' ⟨rfl, hi', ι', ρ', μ', e', m', s', q'⟩
  by_cases hlt : i < S.items.length
  · rw [List.drop_eq_getElem_cons hlt] at q'
    unfold forD at q'
    split at q'
    · rename_i ho
      refine .inr ⟨wk.go i ι' H' μ' e' m' ho hlt, fun σ2 H2 => ∃ n', n' < S.items.length - i ∧ n' = S.items.length - (i + 1) ∧ i + 1 ≤ S.items.length ∧ ∃ ι2 ρ2 μ2, Ext ι1 H1 ι2 H2 ∧ SM X.K ι2 H2 μ2 ∧ SE X.K ι2 H2 ρ2 σ2 ∧
        (forD g body S.own S.items (S.items.drop (i + 1)) ρ2 μ2).sat (PostS X.K ι H B) (PostX X.K ι H W), fun σ2 H2 ⟨n', h1, h2, h3, h4⟩ => ⟨n', h1, h2, h3, h4⟩, fun x H2 hy => ?_⟩
      obtain ⟨d, hd, e2, m2, r2⟩ := wk.yld i ι' H' μ' x H2 e' m' ho hlt hy
      rw [List.getElem?_eq_getElem hlt] at hd
      cases hd
      refine hG ι' H2 ρ' μ' σ' _ x _ m2 (s'.ext e2) r2 (Rs.sat_mono (Rs.sat_bind q') (fun ρ3 μ3 q3 ι3 H3 σ3 e3 m3 s3 _ _ => ?_) fun _ _ h => h.ext (e1.trans (e'.trans e2)))
      have e4 : Ext ι H ι3 H3 := e1.trans (e'.trans (e2.trans e3))
      refine hB ι3 H3 ρ3 μ3 σ3 _ m3 s3 (Rs.sat_mono (Rs.sat_bind q3) (fun r μ4 q4 => ?_) fun _ _ h => h.ext e4)
      intro ι4 H4 e5 m4
      have e6 : Ext ι1 H1 ι4 H4 := e'.trans (e2.trans (e3.trans e5))
      obtain ⟨f, ρ4⟩ := r
      cases f with
      | nx => exact fun σ4 s4 => ⟨S.items.length - (i + 1), by omega, rfl, hlt, ι4, ρ4, μ4, e6, m4, s4, q4⟩
      | ct => exact fun σ4 s4 => ⟨S.items.length - (i + 1), by omega, rfl, hlt, ι4, ρ4, μ4, e6, m4, s4, q4⟩
      | bk => exact fun σ4 s4 => (PostS.ext e4 (show PostS X.K ι H B (.nx, ρ4) μ4 from q4)) ι4 H4 e5 m4 σ4 s4
      | rt d => exact fun v r4 => (PostS.ext e4 (show PostS X.K ι H B (.rt d, ρ4) μ4 from q4)) ι4 H4 e5 m4 v r4
    · exact q'.elim
  · have ei : i = S.items.length := by omega
    subst ei
    rw [List.drop_length] at q'
    unfold forD at q'
    split at q'
    · rename_i ho
      exact .inl ⟨wk.stop ι' H' μ' e' m' ho, q' ι' H' (e1.trans e') m' σ' s'⟩
    · exact q'.elim

/-! ## while -/
def whileD (c : MT) (body : MS) : Nat → MS
  | 0, _, _ => .bad
  | n + 1, ρ, μ => (c ρ μ).bind fun b μ1 => if b = true then (body ρ μ1).bind fun r μ2 => match r.1 with
      | .nx => whileD c body n r.2 μ2
      | .ct => whileD c body n r.2 μ2
      | .bk => .ok (.nx, r.2) μ2
      | .rt d => .ok (.rt d, r.2) μ2
    else .ok (.nx, ρ) μ1
@[irreducible] def FUEL : Nat := 2 ^ 4000
def mWhile (c : MT) (body : MS) : MS := whileD c body FUEL
theorem ds_while {st : List Stmt} {t : MT} {body : MS} (hp : PassesOwn (model X.prog X.w) X.A X.env X.xe) (hc : DT X W c t) (hb : DSs X W st body) : DS X W (.While c st [] pos) (mWhile t body) := by
  obtain ⟨tc, pC, hC⟩ := hc.run
  obtain ⟨tb, pB, hB⟩ := hb.run
  refine ⟨_, ps_while hp pC pB, fun ι H ρ μ σ B m s q => ?_⟩
  refine ⟨fun n σ' H' => ∃ ι' ρ' μ', Ext ι H ι' H' ∧ SM X.K ι' H' μ' ∧ SE X.K ι' H' ρ' σ' ∧ (whileD t body n ρ' μ').sat (PostS X.K ι H B) (PostX X.K ι H W), ⟨FUEL, ι, ρ, μ, .refl _ _, m, s, q⟩, ?_⟩
  rintro n σ' H' ⟨ι', ρ', μ', e', m', s', q'⟩
  cases n with
  | zero => exact q'.elim
  | succ n =>
    unfold whileD at q'
    refine hC ι' H' ρ' μ' σ' _ m' s' (Rs.sat_mono (Rs.sat_bind q') (fun b μ1 q1 ι1 H1 e1 m1 => ?_) fun _ _ h => h.ext e')
    have e2 : Ext ι H ι1 H1 := e'.trans e1
    cases b with
    | false =>
      have q2 : PostS X.K ι H B (.nx, ρ') μ1 := q1
      exact iteF (q2 ι1 H1 e2 m1 σ' (s'.ext e1))
    | true =>
      rw [if_pos rfl] at q1
      refine iteT ⟨fun σ2 H2 => ∃ ι2 ρ2 μ2, Ext ι H ι2 H2 ∧ SM X.K ι2 H2 μ2 ∧ SE X.K ι2 H2 ρ2 σ2 ∧ (whileD t body n ρ2 μ2).sat (PostS X.K ι H B) (PostX X.K ι H W), fun σ2 H2 h => ⟨n, Nat.lt_succ_self n, h⟩, ?_⟩
      refine hB ι1 H1 ρ' μ1 σ' _ m1 (s'.ext e1) (Rs.sat_mono (Rs.sat_bind q1) (fun r μ4 q4 => ?_) fun _ _ h => h.ext e2)
      intro ι4 H4 e5 m4
      obtain ⟨f, ρ4⟩ := r
      cases f with
      | nx => exact fun σ4 s4 => ⟨ι4, ρ4, μ4, e2.trans e5, m4, s4, q4⟩
      | ct => exact fun σ4 s4 => ⟨ι4, ρ4, μ4, e2.trans e5, m4, s4, q4⟩
      | bk => exact fun σ4 s4 => (PostS.ext e2 (show PostS X.K ι H B (.nx, ρ4) μ4 from q4)) ι4 H4 e5 m4 σ4 s4
      | rt d => exact fun v r4 => (PostS.ext e2 (show PostS X.K ι H B (.rt d, ρ4) μ4 from q4)) ι4 H4 e5 m4 v r4
end
end M

namespace M
open PySem PySem.Spec PyProof.Rows L2
section
variable {X : Cx} {W : XW} {pos : Pos} {a b c e o : Expr}

/-! ## methods of lists of the store -/
theorem Ext.write' {K : PySem.W.Frag} {ι : List Addr} {H : Hp} {μ : Mu} {n : Nat} {p : Addr} {u : HO} (m : SM K ι H μ) (hp : ι[n]? = some p) : Ext ι H ι (upd H p u) := by
  obtain ⟨_, _, _, _, r⟩ := m.tracked (List.mem_of_getElem? hp)
  exact Ext.write (List.mem_of_getElem? hp) r.some
theorem post_write {ι : List Addr} {H : Hp} {μ : Mu} {n : Nat} {p : Addr} {ob : O} {u : HO} {d : D} {v : V} {Q : VK} (m : SM X.K ι H μ) (hp : ι[n]? = some p) (ho : ∀ H', Ext ι H ι H' → H' p = some u → RepO X.K ι H' ob p) (r : Rep X.K ι H d v) (q : PostE X.K ι H Q d (μ.set n ob)) : Q v (upd H p u) := by
  have ex : Ext ι H ι (upd H p u) := Ext.write' m hp
  exact q ι _ v ex (m.write hp (ho _ ex upd_same)) (r.ext ex).n
/-- o.m(): o a list of the store -/
abbrev MM0 := Nat → List D → Mu → Rs D
abbrev MM1 := Nat → List D → D → Mu → Rs D
def lstAt (d : D) (μ : Mu) : Option (Nat × List D) := match d with
  | .ref n => match μ[n]? with
    | some (.lst ds) => some (n, ds)
    | _ => none
  | _ => none
theorem lstAt_ok {ι : List Addr} {H H0 : Hp} {μ : Mu} {d : D} {v : V} {n : Nat} {ds : List D} (m : SM X.K ι H μ) (r : RepN X.K ι H H0 d v) (h : lstAt d μ = some (n, ds)) : d = .ref n ∧ μ[n]? = some (.lst ds) ∧ ∃ p xs, v = .ref p ∧ ι[n]? = some p ∧ H p = some (.lst xs) ∧ Reps X.K ι H ds xs := by
  unfold lstAt at h
  split at h
  · split at h
    · rename_i es he
      cases h
      have r2 : Rep X.K ι H (.ref _) v := r
      simp only [Rep] at r2
      obtain ⟨p, rfl, hp⟩ := r2
      obtain ⟨xs, h1, h2⟩ := m.obj _ _ p he hp
      exact ⟨rfl, he, p, xs, rfl, hp, h1, h2⟩
    · cases h
  · cases h
def mM0 (f : MM0) (to : ME) : ME := fun ρ μ => (to ρ μ).bind fun d μ1 => match lstAt d μ1 with
  | some (n, ds) => noex (f n ds μ1)
  | none => .bad
def mM1 (f : MM1) (to t : ME) : ME := fun ρ μ => (to ρ μ).bind fun d μ1 => match lstAt d μ1 with
  | some _ => (t ρ μ1).bind fun x μ2 => match lstAt d μ2 with
    | some (n, ds) => noex (f n ds x μ2)
    | none => .bad
  | none => .bad
theorem de_m0 {name : Str} {id : String} {apos : Pos} {f : MM0} {to : ME} {r : V → List V → Hp → VK → Prop} (slot : Slot "list" name id) (hty : typeOf (.builtin id) = pure (.type "method_descriptor")) (hm : MtR X id r)
    (hf : ∀ (ι : List Addr) (H : Hp) (μ : Mu) (n : Nat) (ds : List D) (p : Addr) (xs : List V) (Q : VK), SM X.K ι H μ → μ[n]? = some (.lst ds) → ι[n]? = some p → H p = some (.lst xs) → Reps X.K ι H ds xs → (f n ds μ).sat (PostE X.K ι H Q) (fun _ _ => False) → r (.ref p) [] H Q)
    (ho : DE X W o to) (hbase : attributeBase o name X.env (eval o X.env) = eval o X.env := by rfl) (hline : (apos.endLine == pos.line) = true := by rfl) : DE X W (.Call (.Attribute o name apos) [] [] pos) (mM0 f to) := by
  obtain ⟨tA, pA, hA⟩ := ho.run
  refine ⟨_, pe_bm0 PySem.F.plainAttrs_list slot hty hm pA hbase hline, fun ι H ρ μ σ Q m s q => hA ι H ρ μ σ _ m s (Rs.sat_mono (Rs.sat_bind q) (fun d μ1 q1 ι1 H1 v e1 m1 r1 => ?_) fun _ _ h => h)⟩
  split at q1
  · rename_i n ds hd
    obtain ⟨rfl, h0, p, xs, rfl, h1, h2, h3⟩ := lstAt_ok m1 r1 hd
    exact ⟨.inl ⟨rfl, xs, .of h2⟩, hf ι1 H1 μ1 n ds p xs Q m1 h0 h1 h2 h3 (Rs.sat_mono (sat_noex q1) (fun _ _ h => h.ext e1) fun _ _ h => h)⟩
  · exact q1.elim
theorem de_m1 {name : Str} {id : String} {apos : Pos} {f : MM1} {to t : ME} {r : V → List V → Hp → VK → Prop} (slot : Slot "list" name id) (hty : typeOf (.builtin id) = pure (.type "method_descriptor")) (hm : MtR X id r)
    (hf : ∀ (ι : List Addr) (H H0 : Hp) (μ : Mu) (n : Nat) (ds : List D) (p : Addr) (xs : List V) (x : D) (v : V) (Q : VK), SM X.K ι H μ → μ[n]? = some (.lst ds) → ι[n]? = some p → H p = some (.lst xs) → Reps X.K ι H ds xs → RepN X.K ι H H0 x v →
      (f n ds x μ).sat (PostE X.K ι H Q) (fun _ _ => False) → r (.ref p) [v] H Q)
    (ho : DE X W o to) (ha : DE X W e t) (hbase : attributeBase o name X.env (eval o X.env) = eval o X.env := by rfl)
    (hfew : ((backTo pos (starEach (e :: []) X.env)).all (fun x => !x.1) && (backToKw pos (keywordEach [] X.env)).all (fun x => x.1.isSome)
      && decide ((e :: []).length + ([] : List Keyword).length + (if ([] : List Keyword).isEmpty then 0 else 1) < 30)) = true := by rfl)
    (hline : (apos.endLine == pos.line) = true := by rfl) (hs : starEach (e :: []) X.env = (false, eval e X.env) :: starEach [] X.env := by rfl) (hplain : (backTo pos (starEach [] X.env)).any (·.1) = false := by rfl) : DE X W (.Call (.Attribute o name apos) [e] [] pos) (mM1 f to t) := by
  obtain ⟨tA, pA, hA⟩ := ho.run
  obtain ⟨tB, pB, hB⟩ := ha.run
  refine ⟨_, pe_bm PySem.F.plainAttrs_list slot hty hm pA (pa_cons pB pa_nil hs) hbase hfew hline hs hplain, fun ι H ρ μ σ Q m s q => hA ι H ρ μ σ _ m s (Rs.sat_mono (Rs.sat_bind q) (fun d μ1 q1 ι1 H1 v e1 m1 r1 => ?_) fun _ _ h => h)⟩
  split at q1
  · rename_i nds hd
    obtain ⟨n, ds⟩ := nds
    obtain ⟨rfl, h0, p, xs, rfl, h1, h2, h3⟩ := lstAt_ok m1 r1 hd
    refine ⟨.inl ⟨rfl, xs, .of h2⟩, hB ι1 H1 ρ μ1 σ _ m1 (s.ext e1) (Rs.sat_mono (Rs.sat_bind q1) (fun x μ2 q2 ι2 H2 u e2 m2 r2 => ?_) fun _ _ h => h.ext e1)⟩
    split at q2
    · rename_i k es hd2
      obtain ⟨e3, g0, p2, ys, e4, g1, g2, g3⟩ := lstAt_ok m2 (r1.ext e2) hd2
      cases e3
      cases e4
      exact hf ι2 H2 _ μ2 n es p ys x u Q m2 g0 g1 g2 g3 r2 (Rs.sat_mono (sat_noex q2) (fun _ _ h => h.ext (e1.trans e2)) fun _ _ h => h)
    · exact q2.elim
  · exact q1.elim
/-- append: the item is settled -/
def fAppend : MM1 := fun n ds x μ => match x with
  | .new _ => .bad
  | x => if ds.length < sizeLine then .ok .non (μ.set n (.lst (ds ++ [x]))) else .bad
theorem rep_non {K : PySem.W.Frag} {ι : List Addr} {H : Hp} : Rep K ι H .non .non := by simp only [Rep]
theorem DE.set {t : ME} (ha : DE X W e t) : DE X W e (mSet t) := by
  obtain ⟨tA, pA, hA⟩ := ha.run
  exact ⟨_, pA, fun ι H ρ μ σ Q m s q => set_ok hA m s q fun d μ' ι' H' v p e1 m1 r1 => p ι' H' v e1 m1 r1.n⟩
theorem de_append {apos : Pos} {to t : ME} (ho : DE X W o to) (ha : DE X W e t) (hbase : attributeBase o "append" X.env (eval o X.env) = eval o X.env := by rfl)
    (hfew : ((backTo pos (starEach (e :: []) X.env)).all (fun x => !x.1) && (backToKw pos (keywordEach [] X.env)).all (fun x => x.1.isSome)
      && decide ((e :: []).length + ([] : List Keyword).length + (if ([] : List Keyword).isEmpty then 0 else 1) < 30)) = true := by rfl)
    (hline : (apos.endLine == pos.line) = true := by rfl) (hs : starEach (e :: []) X.env = (false, eval e X.env) :: starEach [] X.env := by rfl) (hplain : (backTo pos (starEach [] X.env)).any (·.1) = false := by rfl) : DE X W (.Call (.Attribute o "append" apos) [e] [] pos) (mM1 fAppend to (mSet t)) := by
  refine de_m1 PySem.F.slot_list_append PySem.F.type_list_append mt_append (fun ι H H0 μ n ds p xs x v Q m h0 h1 h2 h3 r q => ?_) ho ha.set hbase hfew hline hs hplain
  unfold fAppend at q
  split at q
  · exact q.elim
  · rename_i hx
    split at q
    · rename_i hz
      refine ⟨p, xs, v, rfl, rfl, h2, by rw [← h3.len]; exact hz, ?_⟩
      have r' : Rep X.K ι H x v := by
        cases x with
        | new es => exact (hx es rfl).elim
        | _ => exact r
      exact post_write (ob := .lst (ds ++ [x])) m h1 (fun H' ex hu => ⟨_, hu, (h3.ext ex).append (.one (r'.ext ex))⟩) rep_non q
    · exact q.elim
def fExtend : MM1 := fun n ds x μ => match contM x μ with
  | some es => if ds.length + es.length ≤ sizeLine then .ok .non (μ.set n (.lst (ds ++ es))) else .bad
  | none => .bad
theorem de_extend {apos : Pos} {to t : ME} (ho : DE X W o to) (ha : DE X W e t) (hbase : attributeBase o "extend" X.env (eval o X.env) = eval o X.env := by rfl)
    (hfew : ((backTo pos (starEach (e :: []) X.env)).all (fun x => !x.1) && (backToKw pos (keywordEach [] X.env)).all (fun x => x.1.isSome)
      && decide ((e :: []).length + ([] : List Keyword).length + (if ([] : List Keyword).isEmpty then 0 else 1) < 30)) = true := by rfl)
    (hline : (apos.endLine == pos.line) = true := by rfl) (hs : starEach (e :: []) X.env = (false, eval e X.env) :: starEach [] X.env := by rfl) (hplain : (backTo pos (starEach [] X.env)).any (·.1) = false := by rfl) : DE X W (.Call (.Attribute o "extend" apos) [e] [] pos) (mM1 fExtend to t) := by
  refine de_m1 PySem.F.slot_list_extend PySem.F.type_list_extend mt_extend (fun ι H H0 μ n ds p xs x v Q m h0 h1 h2 h3 r q => ?_) ho ha hbase hfew hline hs hplain
  unfold fExtend at q
  split at q
  · rename_i es hx
    split at q
    · rename_i hz
      obtain ⟨b', zs, rfl, g1, g2⟩ := contM_ok m r hx
      refine ⟨p, b', xs, zs, rfl, rfl, h2, g1, by rw [← h3.len, ← g2.len]; exact hz, ?_⟩
      exact post_write (ob := .lst (ds ++ es)) m h1 (fun H' ex hu => ⟨_, hu, (h3.ext ex).append (g2.ext ex)⟩) rep_non q
    · exact q.elim
  · exact q.elim
def fPop : MM0 := fun n ds μ => match ds[ds.length - 1]? with
  | some d => .ok d (μ.set n (.lst ds.dropLast))
  | none => .bad
theorem Reps.dropLast {K : PySem.W.Frag} {ι : List Addr} {H : Hp} {ds : List D} {vs : List V} (h : Reps K ι H ds vs) : Reps K ι H ds.dropLast vs.dropLast := by
  rw [List.dropLast_eq_take, List.dropLast_eq_take, h.len]
  exact h.take _
theorem de_pop {apos : Pos} {to : ME} (ho : DE X W o to) (hbase : attributeBase o "pop" X.env (eval o X.env) = eval o X.env := by rfl) (hline : (apos.endLine == pos.line) = true := by rfl) : DE X W (.Call (.Attribute o "pop" apos) [] [] pos) (mM0 fPop to) := by
  refine de_m0 PySem.F.slot_list_pop PySem.F.type_list_pop mt_pop (fun ι H μ n ds p xs Q m h0 h1 h2 h3 q => ?_) ho hbase hline
  unfold fPop at q
  split at q
  · rename_i d hd
    obtain ⟨y, g1, g2⟩ := h3.get hd
    rw [h3.len] at g1
    refine ⟨p, xs, y, rfl, rfl, h2, g1, ?_⟩
    exact post_write (ob := .lst ds.dropLast) m h1 (fun H' ex hu => ⟨_, hu, (Reps.dropLast h3).ext ex⟩) g2 q
  · exact q.elim
def fPopAt : MM1 := fun n ds x μ => match x with
  | .int i => if sm63B i = true then match ixN ds.length i with
      | some k => match ds[k]? with
        | some d => .ok d (μ.set n (.lst (ds.eraseIdx k)))
        | none => .bad
      | none => .bad
    else .bad
  | _ => .bad
theorem de_popAt {apos : Pos} {to t : ME} (ho : DE X W o to) (ha : DE X W e t) (hbase : attributeBase o "pop" X.env (eval o X.env) = eval o X.env := by rfl)
    (hfew : ((backTo pos (starEach (e :: []) X.env)).all (fun x => !x.1) && (backToKw pos (keywordEach [] X.env)).all (fun x => x.1.isSome)
      && decide ((e :: []).length + ([] : List Keyword).length + (if ([] : List Keyword).isEmpty then 0 else 1) < 30)) = true := by rfl)
    (hline : (apos.endLine == pos.line) = true := by rfl) (hs : starEach (e :: []) X.env = (false, eval e X.env) :: starEach [] X.env := by rfl) (hplain : (backTo pos (starEach [] X.env)).any (·.1) = false := by rfl) : DE X W (.Call (.Attribute o "pop" apos) [e] [] pos) (mM1 fPopAt to t) := by
  refine de_m1 PySem.F.slot_list_pop PySem.F.type_list_pop mt_popAt (fun ι H H0 μ n ds p xs x v Q m h0 h1 h2 h3 r q => ?_) ho ha hbase hfew hline hs hplain
  unfold fPopAt at q
  split at q
  · have ev := repN_int r
    subst ev
    split at q
    · rename_i hb
      split at q
      · rename_i k hk
        split at q
        · rename_i d hd
          obtain ⟨y, g1, g2⟩ := h3.get hd
          rw [h3.len] at hk
          refine ⟨p, xs, _, k, y, rfl, rfl, h2, (sm63B_iff.mp hb).1, (sm63B_iff.mp hb).2, (ixN_seq hk).1, g1, ?_⟩
          exact post_write (ob := .lst (ds.eraseIdx k)) m h1 (fun H' ex hu => ⟨_, hu, (h3.eraseIdx k).ext ex⟩) g2 q
        · exact q.elim
      · exact q.elim
    · exact q.elim
  · exact q.elim

/-! ## small statements -/
variable {st : Stmt} {rest : List Stmt}
def mNext : MS := fun ρ μ => .ok (.nx, ρ) μ
def mSeq (a b : MS) : MS := fun ρ μ => (a ρ μ).bind fun r μ1 => match r.1 with
  | .nx => b r.2 μ1
  | .bk => .ok (.bk, r.2) μ1
  | .ct => .ok (.ct, r.2) μ1
  | .rt d => .ok (.rt d, r.2) μ1
theorem dss_nil : DSs X W [] mNext := ⟨_, pss_nil, fun ι H ρ μ σ B m s q => (show PostS X.K ι H B (.nx, ρ) μ from q) ι H (.refl _ _) m σ s⟩
theorem dss_cons {t u : MS} (h : DS X W st t) (g : DSs X W rest u) : DSs X W (st :: rest) (mSeq t u) := by
  obtain ⟨tA, pA, hA⟩ := h.run
  obtain ⟨tB, pB, hB⟩ := g.run
  refine ⟨_, pss_cons pA pB, fun ι H ρ μ σ B m s q => hA ι H ρ μ σ _ m s (Rs.sat_mono (Rs.sat_bind q) (fun r μ1 q1 => ?_) fun _ _ h => h)⟩
  intro ι1 H1 e1 m1
  obtain ⟨f, ρ1⟩ := r
  cases f with
  | nx => exact fun σ1 s1 => hB ι1 H1 ρ1 μ1 σ1 B m1 s1 (Rs.sat_mono (show (u ρ1 μ1).sat (PostS X.K ι H B) (PostX X.K ι H W) from q1) (fun _ _ h => h.ext e1) fun _ _ h => h.ext e1)
  | bk => exact fun σ1 s1 => (show PostS X.K ι H B (.bk, ρ1) μ1 from q1) ι1 H1 e1 m1 σ1 s1
  | ct => exact fun σ1 s1 => (show PostS X.K ι H B (.ct, ρ1) μ1 from q1) ι1 H1 e1 m1 σ1 s1
  | rt d => exact fun v r1 => (show PostS X.K ι H B (.rt d, ρ1) μ1 from q1) ι1 H1 e1 m1 v r1
theorem dss_one {t : MS} (h : DS X W st t) : DSs X W [st] t := by
  obtain ⟨tA, pA, hA⟩ := h.run
  exact ⟨_, pss_one pA, hA⟩
theorem ds_pass : DS X W (.Pass pos) mNext := ⟨_, ps_pass, fun ι H ρ μ σ B m s q => (show PostS X.K ι H B (.nx, ρ) μ from q) ι H (.refl _ _) m σ s⟩
def mBreak : MS := fun ρ μ => .ok (.bk, ρ) μ
def mCont : MS := fun ρ μ => .ok (.ct, ρ) μ
theorem ds_break : DS X W (.Break pos) mBreak := ⟨_, ps_break, fun ι H ρ μ σ B m s q => (show PostS X.K ι H B (.bk, ρ) μ from q) ι H (.refl _ _) m σ s⟩
theorem ds_continue : DS X W (.Continue pos) mCont := ⟨_, ps_continue, fun ι H ρ μ σ B m s q => (show PostS X.K ι H B (.ct, ρ) μ from q) ι H (.refl _ _) m σ s⟩
def mExpr (t : ME) : MS := fun ρ μ => (t ρ μ).bind fun _ μ1 => .ok (.nx, ρ) μ1
theorem ds_expr {t : ME} (h : DE X W e t) (hs : swapsWith e none pos.line X.env = pure false := by rfl) : DS X W (.Expr e pos) (mExpr t) := by
  obtain ⟨tA, pA, hA⟩ := h.run
  refine ⟨_, ps_expr pA hs, fun ι H ρ μ σ B m s q => hA ι H ρ μ σ _ m s (Rs.sat_mono (Rs.sat_bind q) (fun d μ1 q1 ι1 H1 v e1 m1 r1 => ?_) fun _ _ h => h)⟩
  exact (show PostS X.K ι H B (.nx, ρ) μ1 from q1) ι1 H1 e1 m1 σ (s.ext e1)
def mRet (t : ME) : MS := fun ρ μ => (mSet t ρ μ).bind fun d μ1 => .ok (.rt d, ρ) μ1
theorem ds_ret {t : ME} (h : DE X W e t) : DS X W (.Return (some e) pos) (mRet t) := by
  obtain ⟨tA, pA, hA⟩ := h.run
  refine ⟨_, ps_ret pA, fun ι H ρ μ σ B m s q => set_ok hA m s (Rs.sat_bind q) fun d μ1 ι1 H1 v q1 e1 m1 r1 => ?_⟩
  exact (show PostS X.K ι H B (.rt d, ρ) μ1 from q1) ι1 H1 e1 m1 v r1
def mRetN : MS := fun ρ μ => .ok (.rt .non, ρ) μ
theorem ds_retN : DS X W (.Return none pos) mRetN := ⟨_, ps_retN, fun ι H ρ μ σ B m s q => (show PostS X.K ι H B (.rt .non, ρ) μ from q) ι H (.refl _ _) m .non rep_non⟩
def mIfS (c : MT) (t u : MS) : MS := fun ρ μ => (c ρ μ).bind fun b μ1 => if b = true then t ρ μ1 else u ρ μ1
theorem ds_if {s1 s2 : List Stmt} {tc : MT} {t u : MS} (hc : DT X W c tc) (ha : DSs X W s1 t) (hb : DSs X W s2 u) : DS X W (.If c s1 s2 pos) (mIfS tc t u) := by
  obtain ⟨tC', pC, hC⟩ := hc.run
  obtain ⟨tA, pA, hA⟩ := ha.run
  obtain ⟨tB, pB, hB⟩ := hb.run
  refine ⟨_, ps_if pC pA pB, fun ι H ρ μ σ B m s q => hC ι H ρ μ σ _ m s (Rs.sat_mono (Rs.sat_bind q) (fun d μ1 q1 ι1 H1 e1 m1 => ?_) fun _ _ h => h)⟩
  cases d with
  | true => exact iteT (hA ι1 H1 ρ μ1 σ B m1 (s.ext e1) (Rs.sat_mono (show (t ρ μ1).sat (PostS X.K ι H B) (PostX X.K ι H W) from q1) (fun _ _ h => h.ext e1) fun _ _ h => h.ext e1))
  | false => exact iteF (hB ι1 H1 ρ μ1 σ B m1 (s.ext e1) (Rs.sat_mono (show (u ρ μ1).sat (PostS X.K ι H B) (PostX X.K ι H W) from q1) (fun _ _ h => h.ext e1) fun _ _ h => h.ext e1))
/-- x = e -/
def mAsg (i : Nat) (t : ME) : MS := fun ρ μ => (mSet t ρ μ).bind fun d μ1 => .ok (.nx, ρ.set i (some d)) μ1
theorem asg_ok {i : Nat} {t : ME} {tA : TE} (hA : ∀ (ι : List Addr) (H : Hp) (ρ : En) (μ : Mu) (σ : L2.St) (Q : VK), SM X.K ι H μ → SE X.K ι H ρ σ → (t ρ μ).sat (PostE X.K ι H Q) (PostX X.K ι H W) → tA σ H Q)
    (ι : List Addr) (H : Hp) (ρ : En) (μ : Mu) (σ : L2.St) (B : Ends) (m : SM X.K ι H μ) (s : SE X.K ι H ρ σ) (q : (mAsg i t ρ μ).sat (PostS X.K ι H B) (PostX X.K ι H W)) : tAsg tA (gName i) B σ H := by
  refine set_ok hA m s (Rs.sat_bind q) fun d μ1 ι1 H1 v q1 e1 m1 r1 => ?_
  exact (show PostS X.K ι H B (.nx, ρ.set i (some d)) μ1 from q1) ι1 H1 e1 m1 _ ((s.ext e1).set r1)
theorem ds_set {i : Nat} {x : Str} {t : ME} {pos' : Pos} (hN : X.N.Nodup) (hi : X.N[i]? = some x) (hx : Loc X.env.scope x) (he : DE X W e t) (hs : swapsWith e (some (.Name x pos')) pos.line X.env = pure false := by rfl)
    (hf : X.fn x = true ∨ X.env.scope.names.lookup x = some .local := by first | exact .inl rfl | exact .inr rfl | assumption) : DS X W (.Assign [.Name x pos'] e pos) (mAsg i t) := by
  obtain ⟨tA, pA, hA⟩ := he.run
  exact ⟨_, ps_set hN hi hx pA hs hf, asg_ok hA⟩
/-- target = e -/
def mAsgG (g : MG) (t : ME) : MS := fun ρ μ => (mSet t ρ μ).bind fun d μ1 => (g d ρ μ1).bind fun ρ1 μ2 => .ok (.nx, ρ1) μ2
theorem ds_asg {tg : Expr} {vs : List Nat} {g : MG} {t : ME} (he : DE X W e t) (hg : DG X W vs tg g) (hs : swapsWithSole [tg] e pos.line X.env = pure false := by rfl) (hw : swappedStores [tg] e X.env = pure none := by rfl)
    (h1 : (assignEach [tg] X.env).map (·.2) = [assign tg X.env] := by rfl) : DS X W (.Assign [tg] e pos) (mAsgG g t) := by
  obtain ⟨tA, pA, hA⟩ := he.run
  obtain ⟨tB, pB, hB⟩ := hg.run
  refine ⟨_, ps_asg pA pB hs hw h1, fun ι H ρ μ σ B m s q => set_ok hA m s (Rs.sat_bind q) fun d μ1 ι1 H1 v q1 e1 m1 r1 => ?_⟩
  refine hB ι1 H1 ρ μ1 σ d v _ m1 (s.ext e1) r1 (Rs.sat_mono (Rs.sat_bind q1) (fun ρ2 μ2 q2 ι2 H2 σ2 e2 m2 s2 _ _ => ?_) fun _ _ h => h.ext e1)
  exact (show PostS X.K ι H B (.nx, ρ2) μ2 from q2) ι2 H2 (e1.trans e2) m2 σ2 s2
/-- a, b = e1, e2 of plain local names -/
def mPar (i j : Nat) (t : MA) : MS := fun ρ μ => (t ρ μ).bind fun ds μ1 => match ds with
  | [d, e] => .ok (.nx, (ρ.set i (some d)).set j (some e)) μ1
  | _ => .bad
theorem ds_par {i j : Nat} {x y : Str} {t : MA} {px py pt : Pos} {kt k2 pt2} (hc : X.calm = true) (hN : X.N.Nodup) (hi : X.N[i]? = some x) (hj : X.N[j]? = some y) (hij : i ≠ j)
    (hx : X.env.scope.names.lookup x = some .local) (hy : X.env.scope.names.lookup y = some .local) (ha : DA X W [a, b] t)
    (hw : swappedStores [.Tuple [.Name x px, .Name y py] kt pt] (.Tuple [a, b] k2 pt2) X.env = pure (some [x, y]))
    (hs : swapsWithSole [.Tuple [.Name x px, .Name y py] kt pt] (.Tuple [a, b] k2 pt2) pos.line X.env = pure false := by rfl) : DS X W (.Assign [.Tuple [.Name x px, .Name y py] kt pt] (.Tuple [a, b] k2 pt2) pos) (mPar i j t) := by
  obtain ⟨tA, pA, hA⟩ := ha.run
  refine ⟨_, ps_par hc hN hi hj hij hx hy pA hw hs, fun ι H ρ μ σ B m s q => hA ι H ρ μ σ _ m s (Rs.sat_mono (Rs.sat_bind q) (fun ds μ1 q1 ι1 H1 vs e1 m1 r1 => ?_) fun _ _ h => h)⟩
  split at q1
  · rename_i d d2
    simp only [Reps] at r1
    obtain ⟨v, r, rfl, r2, w, r', rfl, r3, rfl⟩ := r1
    exact ⟨v, w, rfl, (show PostS X.K ι H B (.nx, (ρ.set i (some d)).set j (some d2)) μ1 from q1) ι1 H1 e1 m1 _ (((s.ext e1).set r2).set r3)⟩
  · exact q1.elim
def mPar3 (i j l : Nat) (t : MA) : MS := fun ρ μ => (t ρ μ).bind fun ds μ1 => match ds with
  | [d, e, f] => .ok (.nx, ((ρ.set i (some d)).set j (some e)).set l (some f)) μ1
  | _ => .bad
theorem ds_par3 {i j l : Nat} {x y z : Str} {t : MA} {px py pz pt : Pos} {kt k2 pt2} (hc : X.calm = true) (hN : X.N.Nodup) (hi : X.N[i]? = some x) (hj : X.N[j]? = some y) (hl : X.N[l]? = some z) (hij : i ≠ j) (hil : i ≠ l) (hjl : j ≠ l)
    (hx : X.env.scope.names.lookup x = some .local) (hy : X.env.scope.names.lookup y = some .local) (hz : X.env.scope.names.lookup z = some .local) (ha : DA X W [a, b, c] t)
    (hw : swappedStores [.Tuple [.Name x px, .Name y py, .Name z pz] kt pt] (.Tuple [a, b, c] k2 pt2) X.env = pure (some [x, y, z]))
    (hs : swapsWithSole [.Tuple [.Name x px, .Name y py, .Name z pz] kt pt] (.Tuple [a, b, c] k2 pt2) pos.line X.env = pure false := by rfl) : DS X W (.Assign [.Tuple [.Name x px, .Name y py, .Name z pz] kt pt] (.Tuple [a, b, c] k2 pt2) pos) (mPar3 i j l t) := by
  obtain ⟨tA, pA, hA⟩ := ha.run
  refine ⟨_, ps_par3 hc hN hi hj hl hij hil hjl hx hy hz pA hw hs, fun ι H ρ μ σ B m s q => hA ι H ρ μ σ _ m s (Rs.sat_mono (Rs.sat_bind q) (fun ds μ1 q1 ι1 H1 vs e1 m1 r1 => ?_) fun _ _ h => h)⟩
  split at q1
  · rename_i d d2 d3
    simp only [Reps] at r1
    obtain ⟨v, r, rfl, r2, w, r', rfl, r3, u, r'', rfl, r4, rfl⟩ := r1
    exact ⟨v, w, u, rfl, (show PostS X.K ι H B (.nx, ((ρ.set i (some d)).set j (some d2)).set l (some d3)) μ1 from q1) ι1 H1 e1 m1 _ ((((s.ext e1).set r2).set r3).set r4)⟩
  · exact q1.elim
/-- o[i] = .. of a list of the store -/
def gSt (to ti : ME) : MG := fun d ρ μ => (to ρ μ).bind fun x μ1 => (ti ρ μ1).bind fun k μ2 => match lstAt x μ2, k with
  | some (n, ds), .int i => match ixN ds.length i with
    | some j => .ok ρ (μ2.set n (.lst (ds.set j d)))
    | none => .bad
  | _, _ => .bad
theorem dg_sub {vs : List Nat} {i : Expr} {to ti : ME} (ho : DE X W o to) (hi : DE X W i ti)
    (ha : ∀ v, assign (.Subscript o i pos) X.env v = (do
      let ov ← holding [v] (eval o X.env)
      let iv ← holding [v, ov] (eval i X.env)
      standAt pos
      holding [v, ov, iv] (setItem ov iv v)
      release [v, ov, iv] []) := by intro _; rfl) : DG X W vs (.Subscript o i pos) (gSt to ti) := by
  obtain ⟨tA, pA, hA⟩ := ho.run
  obtain ⟨tB, pB, hB⟩ := hi.run
  refine ⟨_, pg_sub pA pB set_list ha, fun ι H ρ μ σ d v Q m s r q => ?_⟩
  refine hA ι H ρ μ σ _ m s (Rs.sat_mono (Rs.sat_bind q) (fun x μ1 q1 ι1 H1 u1 e1 m1 r1 => ?_) fun _ _ h => h)
  refine hB ι1 H1 ρ μ1 σ _ m1 (s.ext e1) (Rs.sat_mono (Rs.sat_bind q1) (fun k μ2 q2 ι2 H2 u2 e2 m2 r2 => ?_) fun _ _ h => h.ext e1)
  split at q2
  · rename_i n ds z hx
    have ek := repN_int r2
    subst ek
    split at q2
    · rename_i j hj
      obtain ⟨rfl, h0, p, xs, rfl, h1, h2, h3⟩ := lstAt_ok m2 (r1.ext e2) hx
      rw [h3.len] at hj
      refine ⟨p, xs, z, j, rfl, rfl, h2, hj, ?_⟩
      have ex : Ext ι2 H2 ι2 (upd H2 p (.lst (xs.set j v))) := Ext.write' m2 h1
      have rv : Rep X.K ι2 (upd H2 p (.lst (xs.set j v))) d v := ((r.ext e1).ext e2).ext ex
      have q3 : PostG X.K ι H vs σ Q ρ (μ2.set n (.lst (ds.set j d))) := q2
      exact q3 ι2 _ σ ((e1.trans e2).trans ex) (m2.write (o := .lst (ds.set j d)) h1 ⟨_, upd_same, Reps.set rv j (h3.ext ex)⟩) (((s.ext e1).ext e2).ext ex) rfl fun _ _ => rfl
    · exact q2.elim
  · exact q2.elim
end
end M

namespace M
open PySem PySem.Spec PyProof.Rows L2

/-! ## list comprehensions -/
theorem wipe_get {σ : L2.St} {j : Nat} : ∀ vs : List Nat, (wipe σ vs)[j]? = if j ∈ vs then (if j < σ.length then some none else none) else σ[j]?
  | [] => by simp [L2.wipe]
  | v :: vs => by
    unfold L2.wipe
    by_cases e : v = j
    · subst e
      rw [if_pos List.mem_cons_self]
      by_cases hl : v < σ.length
      · rw [if_pos hl, List.getElem?_set_self (by rw [wipe_length]; exact hl)]
      · rw [if_neg hl, List.getElem?_eq_none (by rw [List.length_set, wipe_length]; omega)]
    · rw [List.getElem?_set_ne e, wipe_get vs]
      have : (j ∈ v :: vs) ↔ (j ∈ vs) := by simp [Ne.symm e]
      simp only [this]
theorem wipe_eq {σ σ2 : L2.St} {vs : List Nat} (hl : σ2.length = (wipe σ vs).length) (h : ∀ j, j ∉ vs → σ2[j]? = (wipe σ vs)[j]?) : wipe σ2 vs = wipe σ vs := by
  rw [wipe_length] at hl
  refine List.ext_getElem? fun j => ?_
  rw [wipe_get vs, wipe_get vs, hl]
  by_cases hj : j ∈ vs
  · rw [if_pos hj, if_pos hj]
  · rw [if_neg hj, if_neg hj, h j hj, wipe_get vs, if_neg hj]
def TGok (K : PySem.W.Frag) (vs : List Nat) (t : TG) (g : MG) : Prop := ∀ (ι : List Addr) (H : Hp) (ρ : En) (μ : Mu) (σ : L2.St) (d : D) (v : V) (Q : L2.St → Hp → Prop), SM K ι H μ → SE K ι H ρ σ → Rep K ι H d v → (g d ρ μ).sat (PostG K ι H vs σ Q) (fun _ _ => False) → t v σ H Q
def TGsok (K : PySem.W.Frag) (vs : List Nat) (t : TGs) (g : MGs) : Prop := ∀ (ι : List Addr) (H : Hp) (ρ : En) (μ : Mu) (σ : L2.St) (ds : List D) (us : List V) (Q : L2.St → Hp → Prop), SM K ι H μ → SE K ι H ρ σ → Reps K ι H ds us → (g ds ρ μ).sat (PostG K ι H vs σ Q) (fun _ _ => False) → t us σ H Q
theorem tg_name {K : PySem.W.Frag} {vs : List Nat} {i : Nat} (hi : i ∈ vs) : TGok K vs (gName i) (gN i) := fun ι H ρ μ σ d v Q m s r q =>
  q ι H _ (.refl _ _) m (s.set r) (by rw [List.length_set]) fun j hj => by rw [List.getElem?_set_ne]; rintro rfl; exact hj hi
theorem tgs_nil {K : PySem.W.Frag} {vs : List Nat} : TGsok K vs gNil gsNil := fun ι H ρ μ σ ds us Q m s r q => by
  cases ds with
  | nil =>
    simp only [Reps] at r
    exact ⟨r, q ι H σ (.refl _ _) m s rfl fun _ _ => rfl⟩
  | cons d ds => exact q.elim
theorem tgs_cons {K : PySem.W.Frag} {vs : List Nat} {t : TG} {u : TGs} {g : MG} {gs : MGs} (hA : TGok K vs t g) (hB : TGsok K vs u gs) : TGsok K vs (gCons t u) (gsCons g gs) := fun ι H ρ μ σ ds us Q m s r q => by
  cases ds with
  | nil => exact q.elim
  | cons d ds =>
    simp only [Reps] at r
    obtain ⟨v, w, rfl, r1, r2⟩ := r
    refine ⟨v, w, rfl, hA ι H ρ μ σ d v _ m s r1 (Rs.sat_mono (Rs.sat_bind q) (fun ρ1 μ1 q1 ι1 H1 σ1 e1 m1 s1 l1 k1 => ?_) fun _ _ h => h)⟩
    refine hB ι1 H1 ρ1 μ1 σ1 ds w Q m1 s1 (r2.ext e1) (Rs.sat_mono q1 (fun ρ2 μ2 q2 ι2 H2 σ2 e2 m2 s2 l2 k2 => ?_) fun _ _ h => h)
    exact q2 ι2 H2 σ2 (e1.trans e2) m2 s2 (l2.trans l1) fun j hj => (k2 j hj).trans (k1 j hj)
theorem tg_tup {K : PySem.W.Frag} {vs : List Nat} {n : Nat} {t : TGs} {gs : MGs} (h : TGsok K vs t gs) : TGok K vs (gTup K n t) (gT n gs) := fun ι H ρ μ σ d v Q m s r q => by
  cases d with
  | tup ds =>
    obtain ⟨p, xs, rfl, h1, h2⟩ := repN_tup (H0 := H) r.n
    have q : (if ds.length = n then gs ds ρ μ else .bad).sat (PostG K ι H vs σ Q) (fun _ _ => False) := q
    split at q
    · rename_i hl
      exact ⟨p, xs, rfl, h1, by rw [← h2.len]; exact hl, h ι H ρ μ σ ds xs Q m s h2 q⟩
    · exact q.elim
  | _ => exact q.elim
def mYes : MT := fun _ μ => .ok true μ
def lcD (g : MG) (tt : MT) (te : ME) (vs : List Nat) (own : Option Nat) (all : List D) (ρ : En) : List D → List D → Mu → Rs (List D)
  | [], acc, μ => if ownB own all μ = true then .ok acc μ else .bad
  | x :: xs, acc, μ => if ownB own all μ = true then (noex (g x (wipeD ρ vs) μ)).bind fun ρ1 μ1 => (noex (tt ρ1 μ1)).bind fun b μ2 => if b = true then
      (noex (mSet te ρ1 μ2)).bind fun y μ3 => if acc.length < sizeLine then lcD g tt te vs own all ρ xs (acc ++ [y]) μ3 else .bad
      else lcD g tt te vs own all ρ xs acc μ2
    else .bad
def mLc (src : MI) (g : MG) (tt : MT) (te : ME) (vs : List Nat) : ME := fun ρ μ => (src ρ μ).bind fun S μ1 => (lcD g tt te vs S.own S.items ρ S.items [] μ1).bind fun acc μ2 => .ok (.new acc) μ2
/-- a tracked list outside the store is written -/
theorem SM.other {K : PySem.W.Frag} {ι : List Addr} {H : Hp} {μ : Mu} {p : Addr} {xs ys : List V} (m : SM K ι H μ) (hp : p ∉ ι) (h : H p = some (.lst xs)) : Sub ι H ι (upd H p (.lst ys)) ∧ SM K ι (upd H p (.lst ys)) μ := by
  have sb : Sub ι H ι (upd H p (.lst ys)) := ⟨fun _ _ q => q, fun b zs q => by rw [upd_ne (by rintro rfl; rw [h] at q; cases q)]; exact q, fun b o u q => by rw [upd_ne (by rintro rfl; rw [h] at q; cases q)]; exact q⟩
  exact ⟨sb, m.nd, m.len, fun n o a h1 h2 => (m.obj n o a h1 h2).sub sb (upd_ne (by rintro rfl; exact hp (List.mem_of_getElem? h2)))⟩
theorem Ext.other {ι0 ι : List Addr} {H0 H : Hp} {p : Addr} {u : HO} (e : Ext ι0 H0 ι H) (hp : H0 p = none) : Ext ι0 H0 ι (upd H p u) :=
  ⟨e.new, fun a o h n => by rw [upd_ne (ne_of_none h hp)]; exact e.keep a o h n, fun a o h => by rw [upd_ne (ne_of_none h hp)]; exact e.tups a o h, fun a o w h => by rw [upd_ne (ne_of_none h hp)]; exact e.frzs a o w h, fun a h => by
    by_cases q : a = p
    · rw [q]; exact hp
    · rw [upd_ne q] at h; exact e.trk a h⟩
theorem Ext.notin {ι ι' : List Addr} {H H' : Hp} (e : Ext ι H ι' H') {p : Addr} {u : HO} (hp : p ∉ ι) (h : H p = some u) : p ∉ ι' := by
  obtain ⟨nu, rfl, hn⟩ := e.new
  intro z
  rcases List.mem_append.mp z with z | z
  · exact hp z
  · rw [hn p z] at h; cases h
section
variable {X : Cx} {W : XW} {pos : Pos} {a b c e : Expr}
theorem lc_ok {K : PySem.W.Frag} {src : MI} {g : MG} {tt : MT} {te : ME} {vs : List Nat} {wi : TI} {tgt : TG} (hI : ∀ (ι : List Addr) (H : Hp) (ρ : En) (μ : Mu) (σ : L2.St) (R : It → Hp → Prop), SM K ι H μ → SE K ι H ρ σ → (src ρ μ).sat (PostI K ι H R) (PostX K ι H W) → wi σ H R) (hG : TGok K vs tgt g)
    (ι : List Addr) (H : Hp) (ρ : En) (μ : Mu) (σ : L2.St) (Q : VK) (m : SM K ι H μ) (s : SE K ι H ρ σ) (q : (mLc src g tt te vs ρ μ).sat (PostE K ι H Q) (PostX K ι H W)) : tLc wi tgt (canT K W0 tt) (canE K W0 te) vs σ H Q := by
  refine hI ι H ρ μ σ _ m s (Rs.sat_mono (Rs.sat_bind q) (fun S μ1 q1 ι1 H1 J e1 m1 wk => ?_) fun _ _ h => h)
  intro L hL
  refine ⟨fun i n H' => n = S.items.length - i ∧ i ≤ S.items.length ∧ ∃ ι' μ' acc xs, Ext ι1 H1 ι' H' ∧ SM K ι' H' μ' ∧ H' L = some (.lst xs) ∧ L ∉ ι' ∧ Reps K ι' H' acc xs ∧
    ((lcD g tt te vs S.own S.items ρ (S.items.drop i) acc μ').bind fun acc μ2 => Rs.ok (D.new acc) μ2).sat (PostE K ι H Q) (PostX K ι H W),
    ⟨S.items.length, by simp, Nat.zero_le _, ι1, μ1, [], [], .laid hL, m1.laid hL, upd_same, not_mem_of_none m1 hL, by simp only [Reps], by simpa using q1⟩, ?_⟩
  rintro i n H' ⟨rfl, hi', ι', μ', acc, xs, e', m', hL', nL', ra, q'⟩
  by_cases hlt : i < S.items.length
  · rw [List.drop_eq_getElem_cons hlt] at q'
    unfold lcD at q'
    split at q'
    · rename_i ho
      refine .inr ⟨wk.go i ι' H' μ' e' m' ho hlt, fun H2 => ∃ n', n' < S.items.length - i ∧ n' = S.items.length - (i + 1) ∧ i + 1 ≤ S.items.length ∧ ∃ ι2 μ2 acc2 xs2, Ext ι1 H1 ι2 H2 ∧ SM K ι2 H2 μ2 ∧ H2 L = some (.lst xs2) ∧ L ∉ ι2 ∧ Reps K ι2 H2 acc2 xs2 ∧
        ((lcD g tt te vs S.own S.items ρ (S.items.drop (i + 1)) acc2 μ2).bind fun acc μ2 => Rs.ok (D.new acc) μ2).sat (PostE K ι H Q) (PostX K ι H W), fun H2 ⟨n', h1, h2, h3, h4⟩ => ⟨n', h1, h2, h3, h4⟩, fun x H2 hy => ?_⟩
      obtain ⟨d, hd, e2, m2, r2⟩ := wk.yld i ι' H' μ' x H2 e' m' ho hlt hy
      rw [List.getElem?_eq_getElem hlt] at hd
      cases hd
      have s2 : SE K ι' H2 (wipeD ρ vs) (wipe σ vs) := ((((s.ext e1).ext e').ext e2).wipe vs)
      have hL2 := e2.keep _ _ hL' nL'
      have assoc1 : ∀ {α β γ : Type} {r : Rs α} {k : α → Mu → Rs β} {l : β → Mu → Rs γ}, (r.bind k).bind l = r.bind fun a μ => (k a μ).bind l := by intro α β γ r k l; cases r <;> rfl
      rw [assoc1] at q'
      refine hG ι' H2 (wipeD ρ vs) μ' (wipe σ vs) _ x _ m2 s2 r2 (Rs.sat_mono (sat_noex (Rs.sat_bind q')) (fun ρ3 μ3 q3 ι3 H3 σ3 e3 m3 s3 l3 k3 => ?_) fun _ _ h => h)
      have hL3 := e3.keep _ _ hL2 nL'
      have nL3 := e3.notin nL' hL2
      refine ⟨wipe_eq l3 k3, ι3, ρ3, μ3, m3, s3, ?_⟩
      rw [assoc1] at q3
      refine Rs.sat_mono (sat_noex (Rs.sat_bind q3)) (fun b μ4 q4 ι4 H4 e4 m4 => ?_) fun _ _ h => h.elim
      have hL4 := e4.keep _ _ hL3 nL3
      have nL4 := e4.notin nL3 hL3
      have e5 : Ext ι1 H1 ι4 H4 := e'.trans (e2.trans (e3.trans e4))
      cases b with
      | false =>
        rw [if_neg Bool.false_ne_true] at q4
        exact iteF ⟨S.items.length - (i + 1), by omega, rfl, hlt, ι4, μ4, acc, xs, e5, m4, hL4, nL4, ((ra.ext e2).ext e3).ext e4, q4⟩
      | true =>
        rw [if_pos rfl, assoc1] at q4
        refine iteT ⟨ι4, ρ3, μ4, m4, s3.ext e4, ?_⟩
        refine Rs.sat_mono (Rs.sat_bind (sat_noex (Rs.sat_bind q4))) (fun y μ5 q5 ι5 H5 v e6 m5 r5 => ?_) fun _ _ h => h.elim
        obtain ⟨ι6, y6, μ6, q6, e7, m6, r6, sb⟩ := settle_ok e6 m5 r5 q5
        have hL6 := e7.keep _ _ hL4 nL4
        have nL6 := e7.notin nL4 hL4
        split at q6
        · rename_i hz
          have ra6 : Reps K ι6 H5 acc xs := (((ra.ext e2).ext e3).ext e4).ext e7
          refine ⟨xs, hL6, by rw [← ra6.len]; exact hz, S.items.length - (i + 1), by omega, rfl, hlt, ι6, μ6, acc ++ [y6], xs ++ [v], (e5.trans e7).other hL, (m6.other nL6 hL6).2, upd_same, nL6, ?_, q6⟩
          exact Reps.sub (m6.other nL6 hL6).1 _ _ (ra6.append (.one r6))
        · exact q6.elim
    · exact q'.elim
  · have ei : i = S.items.length := by omega
    subst ei
    rw [List.drop_length] at q'
    unfold lcD at q'
    split at q'
    · rename_i ho
      refine .inl ⟨wk.stop ι' H' μ' e' m' ho, ?_⟩
      exact (show PostE K ι H Q (.new acc) μ' from q') ι' H' _ (e1.trans e') m' ⟨L, xs, rfl, nL', hL', e1.trk _ hL, ra⟩
    · exact q'.elim
theorem pts_nil' : PTs X [] (canT X.K W0 mYes) := ⟨fun pins s σ H Q I ⟨ι, ρ, μ, m, r, q⟩ => (pts_nil (X := X)).run pins s σ H Q I ((show PostT X.K ι H Q true μ from q) ι H (.refl _ _) m)⟩
theorem pts_one' {t : MT} (h : DT X W0 c t) : PTs X [c] (canT X.K W0 t) := pts_one h.can
theorem de_lc {elt tg iter : Expr} {ifs : List Expr} {scope : Scope} {own : List (Str × Nat)} {src : MI} {g : MG} {tgt : TG} {tt : MT} {te : ME} (hc : X.calm = true) (hN : X.N.Nodup) (hi : DI X W tg iter src) (ok : BlkOk X.N X.env.scope scope own) (hG : TGok X.K (own.map (·.2)) tgt g)
    (hg : ∀ (s : Shared) (H : Hp) (C : Addr) (cl : List (Str × Addr)) (fp : List Addr), PG (X.blk s H scope (compEnvC scope cl C X.env) fp) tg tgt) (ht : ∀ (s : Shared) (H : Hp) (C : Addr) (cl : List (Str × Addr)) (fp : List Addr), PTs (X.blk s H scope (compEnvC scope cl C X.env) fp) ifs (canT X.K W0 tt))
    (he : ∀ (s : Shared) (H : Hp) (C : Addr) (cl : List (Str × Addr)) (fp : List Addr), DE (X.blk s H scope (compEnvC scope cl C X.env) fp) W0 elt te) (hs : ∀ x, foldedSetIterable iter X.env x = pure x := by intro _; rfl) :
    DE X W (.ListComp elt [⟨tg, iter, ifs, 0⟩] scope pos) (mLc src g tt te (own.map (·.2))) := by
  obtain ⟨wi, pI, hI⟩ := hi.run
  exact ⟨_, pe_lc hc hN pI ok hg ht (fun s H C cl fp => (he s H C cl fp).can) hs, lc_ok hI hG⟩
theorem ds_setLc {i : Nat} {y : Str} {py spos : Pos} {elt tg iter : Expr} {ifs : List Expr} {scope : Scope} {own : List (Str × Nat)} {src : MI} {g : MG} {tgt : TG} {tt : MT} {te : ME} (hc : X.calm = true) (hN : X.N.Nodup) (hy : X.N[i]? = some y) (hyl : X.env.scope.names.lookup y = some .local)
    (hsw : swapsWith (.ListComp elt [⟨tg, iter, ifs, 0⟩] scope pos) (some (.Name y py)) spos.line X.env = pure true) (hi : DI X W tg iter src) (ok : BlkOk X.N X.env.scope scope own) (hG : TGok X.K (own.map (·.2)) tgt g)
    (hg : ∀ (s : Shared) (H : Hp) (C : Addr) (cl : List (Str × Addr)) (fp : List Addr), PG (X.blk s H scope (compEnvC scope cl C X.env) fp) tg tgt) (ht : ∀ (s : Shared) (H : Hp) (C : Addr) (cl : List (Str × Addr)) (fp : List Addr), PTs (X.blk s H scope (compEnvC scope cl C X.env) fp) ifs (canT X.K W0 tt))
    (he : ∀ (s : Shared) (H : Hp) (C : Addr) (cl : List (Str × Addr)) (fp : List Addr), DE (X.blk s H scope (compEnvC scope cl C X.env) fp) W0 elt te) (hs : ∀ x, foldedSetIterable iter X.env x = pure x := by intro _; rfl) :
    DS X W (.Assign [.Name y py] (.ListComp elt [⟨tg, iter, ifs, 0⟩] scope pos) spos) (mAsg i (mLc src g tt te (own.map (·.2)))) := by
  obtain ⟨wi, pI, hI⟩ := hi.run
  exact ⟨_, ps_setLc hc hN hy hyl hsw pI ok hg ht (fun s H C cl fp => (he s H C cl fp).can) hs, asg_ok (lc_ok hI hG)⟩
end

/-! ## defs -/
abbrev MFn := List D → Mu → Option (D × Mu)
/-- what a def promises: the function f of data -/
def spM (K : PySem.W.Frag) (n : Nat) (f : MFn) : Sp := fun vs H Q _ => vs.length = n ∧ ∃ ι μ ds d μ', SM K ι H μ ∧ Reps K ι H ds vs ∧ f ds μ = some (d, μ') ∧ ∀ ι' H' v, Ext ι H ι' H' → SM K ι' H' μ' → Rep K ι' H' d v → Q v H'
structure FnG (P : Program) (w : World) (K : PySem.W.Frag) (mg : Str → Option Value) (base : Heap) (CX : CXT) (k : Nat) (f : Addr) (fd : FuncData) (ps : List Str) (sp : Sp) : Prop where
  len : ∀ vs H Q E, sp vs H Q E → vs.length = ps.length
  run : ∀ (A : Around) (outer : List Env) (s : Shared) (H : Hp) (args : Args) (us : List Value) (vs : List V) (Q : VK) (E : XK), Room k A → A.guards = some [] → Env0 P w K mg base A outer s H → BindsTo s fd args (ps.zip us) → Vals vs us → sp vs H Q E →
    codeAny (model P w) A (.call (.ref f) args) (CR CX outer P w H s Q E) s
theorem FnG.imp {P : Program} {w : World} {K : PySem.W.Frag} {mg : Str → Option Value} {base : Heap} {CX : CXT} {k : Nat} {f : Addr} {fd : FuncData} {ps : List Str} {sp sp' : Sp} (F : FnG P w K mg base CX k f fd ps sp) (h : ∀ vs H Q E, sp' vs H Q E → sp vs H Q E) :
    FnG P w K mg base CX k f fd ps sp' := ⟨fun vs H Q E q => F.len vs H Q E (h _ _ _ _ q), fun A outer s H args us vs Q E hr hg he hb hv hs => F.run A outer s H args us vs Q E hr hg he hb hv (h _ _ _ _ hs)⟩
def runDef (n : Nat) (m : MS) : MFn := fun ds μ => match m (ds.map some ++ List.replicate (n - ds.length) none) μ with
  | .ok (.rt d, _) μ' => some (d, μ')
  | .ok (.nx, _) μ' => some (.non, μ')
  | _ => none
theorem se_start {K : PySem.W.Frag} {ι : List Addr} {H : Hp} {N : List Str} {ds : List D} {vs : List V} (r : Reps K ι H ds vs) : SE K ι H (ds.map some ++ List.replicate (N.length - ds.length) none) (L2.start N vs) := by
  unfold L2.start
  have hl := r.len
  refine ⟨by simp [hl], fun i d hd => ?_⟩
  by_cases h : i < ds.length
  · rw [List.getElem?_append_left (by simpa using h), List.getElem?_map] at hd
    cases q : ds[i]? with
    | none => rw [q] at hd; cases hd
    | some d' =>
      rw [q] at hd
      cases hd
      obtain ⟨v, h1, h2⟩ := r.get q
      refine ⟨v, ?_, h2⟩
      rw [List.getElem?_append_left (by simp; omega), List.getElem?_map, h1]
      rfl
  · rw [List.getElem?_append_right (by simp; omega), List.getElem?_replicate] at hd
    split at hd <;> cases hd
/-- a def of the text, by its body's mirror -/
theorem okM {P : Program} {w : World} {K : PySem.W.Frag} {mg : Str → Option Value} {base : Heap} {x qual : Str} {st : Stmt} {f : Addr} {fd : FuncData} {N ps : List Str} {k : Nat} {m : MS} (F : Fun K x qual st f fd) (S : FnScope N ps (defScope st))
    (hbody : ∀ (cdv : Value) (A : Around) (outer : List Env) (s : Shared) (H : Hp) (E : XK), Room k (A.deeper (envOfC qual (defScope st) s.heap.objs.size f cdv)) → A.guards = some [] →
      DSs (cxOf CX0 P w K mg base N qual (defScope st) f cdv A outer s H E).nox W0 (defBody st) m) : FnG P w K mg base CX0 (k + 1) f fd ps (spM K ps.length (runDef N.length m)) := by
  obtain ⟨oc, od, kV, doc, pm, an, cdv, ct, osl, rfl, lk, hcd⟩ := F.ex
  refine ⟨fun vs H Q E q => q.1, fun A outer s H args us vs Q E hr hgd e0 hb r hsp => ?_⟩
  obtain ⟨hl, ι, μ, ds, d, μ', sm, rp, hf, hQ⟩ := hsp
  have KX : K.In s.heap := e0.mod.kin.keeps fun b o e => (e0.bs b o e).1
  have lim : s.heap.NoLimit := e0.mod.nolimit.keeps fun b o e => (e0.bs b o e).1
  have hkind : ∀ y ∈ ps.zip us, (defScope st).names.lookup y.1 = some .local ∨ ((defScope st).names.lookup y.1 = some .cell ∧ ((cellsFrom (s.heap.objs.size + 1) (defScope st).names []).lookup y.1).isSome = true) := by
    rintro ⟨n, v⟩ hy
    rcases S.par n (List.of_mem_zip hy).1 with q | q
    · exact .inl q
    · exact .inr ⟨q, PySem.W.cellsFrom_some _ _ _ (.inl q)⟩
  refine codeAny_call_function hr.depth (KX _ _ lk) rfl S.co S.gen rfl (PySem.W.codeRec_of KX hcd) (hb _ _ _ _ ?_)
  refine wpAny_newFunctionEnv_cells S.kind hkind fun env henv s1 ic => ?_
  subst henv
  refine ⟨lim.keeps ic.toInCall.keep, codeAny_func ?_⟩
  obtain ⟨tt, hp, ht⟩ := (hbody cdv A outer s H E (hr.deeper _) hgd).run
  have I : Inv (cxOf CX0 P w K mg base N qual (defScope st) f cdv A outer s H E) [] (L2.start N vs) H s1 := inv_start S hr.hd e0 hl r ic
  have rd : tt { nx := fun _ H' => Q .non H', rt := Q } (L2.start N vs) H := by
    refine ht ι H _ μ _ _ sm (se_start (N := N) rp) ?_
    unfold runDef at hf
    split at hf
    · rename_i d' ρ' μ1 hm
      cases hf
      rw [hm]
      exact fun ι' H' e' m' v rv => hQ ι' H' v e' m' rv
    · rename_i ρ' μ1 hm
      cases hf
      rw [hm]
      exact fun ι' H' e' m' σ' _ => hQ ι' H' .non e' m' rep_non
    · cases hf
  refine wpAny_mono (hp.nox.run [] s1 (L2.start N vs) H _ I rd) (fun fl s2 hs => ?_) fun e s2 hs => hs
  have fin : ∀ {σ2 : L2.St} {H2 : Hp} {v : V} {u : Value}, Inv (cxOf CX0 P w K mg base N qual (defScope st) f cdv A outer s H E) [] σ2 H2 s2 → RelV v u → Q v H2 → CE outer P w H s Q u s2 :=
    fun {σ2 H2 v u} J rv q => ⟨v, H2, J.os, J.bare, J.base, J.hok, rv, q⟩
  cases fl with
  | ret u => obtain ⟨v, σ2, H2, J, rv, q⟩ := hs; exact fin J rv q
  | next => obtain ⟨σ2, H2, J, q⟩ := hs; exact fin (v := V.non) (u := Value.none) J rfl q
  | brk => obtain ⟨_, _, _, q⟩ := hs; exact False.elim q
  | cont => obtain ⟨_, _, _, q⟩ := hs; exact False.elim q
/-- the mirror may be told otherwise -/
theorem FnG.as {P : Program} {w : World} {K : PySem.W.Frag} {mg : Str → Option Value} {base : Heap} {k n : Nat} {f : Addr} {fd : FuncData} {ps : List Str} {r g : MFn} (F : FnG P w K mg base CX0 k f fd ps (spM K n r))
    (h : ∀ ds μ d μ', g ds μ = some (d, μ') → ∃ d1 μ1, r ds μ = some (d1, μ1) ∧ ∀ (ι0 ι : List Addr) (H0 H : Hp) (v : V), ι0.length = μ.length → Ext ι0 H0 ι H → SM K ι H μ1 → Rep K ι H d1 v → ∃ ι', Ext ι0 H0 ι' H ∧ SM K ι' H μ' ∧ Rep K ι' H d v) : FnG P w K mg base CX0 k f fd ps (spM K n g) := by
  refine F.imp fun vs H Q E q => ?_
  obtain ⟨hl, ι, μ, ds, d, μ', sm, rp, hf, hQ⟩ := q
  obtain ⟨d1, μ1, h1, h2⟩ := h ds μ d μ' hf
  refine ⟨hl, ι, μ, ds, d1, μ1, sm, rp, h1, fun ι' H' v e' m' r' => ?_⟩
  obtain ⟨ι2, e2, m2, r2⟩ := h2 ι ι' H H' v sm.len e' m' r'
  exact hQ ι2 H' v e2 m2 r2
/-- a def at hand for calls -/
structure Fn (P : Program) (w : World) (K : PySem.W.Frag) (mg : Str → Option Value) (base : Heap) (x : Str) (st : Stmt) (k : Nat) (ps : List Str) (f : MFn) : Prop where
  ex : ∃ fa fd, mg x = some (.ref fa) ∧ Fun K x x st fa fd ∧ FnG P w K mg base CX0 k fa fd ps (spM K ps.length f) ∧ Binds K fd ps []
section
variable {X : Cx} {W : XW} {pos : Pos} {a b c e : Expr}
def mCall (f : MFn) (t : MA) : ME := fun ρ μ => (t ρ μ).bind fun ds μ1 => match f ds μ1 with
  | some (d, μ2) => .ok d μ2
  | none => .bad
theorem run_g {pins : List (Addr × Obj)} {σ : L2.St} {H : Hp} {s : Shared} {Q : VK} {us : List Value} {vs : List V} {k : Nat} {fa : Addr} {fd : FuncData} {ps : List Str} {sp : Sp} {args : Args} (F : FnG X.prog X.w X.K X.mg X.base CX0 k fa fd ps sp) (hr : Room k X.A) (hg : X.A.guards = some []) (I : Inv X pins σ H s)
    (hb : BindsTo s fd args (ps.zip us)) (r : Vals vs us) (h : sp vs H Q E0) : codeAny (model X.prog X.w) X.A (.call (.ref fa) args) (fun r s' => match r with | .ok (.ret u) => EP X pins σ Q u s' | .ok _ => False | .error _ => False) s := by
  refine codeAny_mono (F.run X.A X.stack s H args us vs Q E0 hr hg I.env0 hb r h) fun r s' hq => ?_
  cases r with
  | error e => exact hq
  | ok fl =>
    cases fl with
    | ret u => exact I.after hq
    | next => exact hq
    | brk => exact hq
    | cont => exact hq
theorem call_sp {K : PySem.W.Frag} {ι : List Addr} {H : Hp} {μ : Mu} {n : Nat} {f : MFn} {ds : List D} {vs : List V} {Q : VK} {N : Exn → Mu → Prop} {E : XK} (m : SM K ι H μ) (r : Reps K ι H ds vs) (hl : vs.length = n) (q : (match f ds μ with | some (d, μ2) => Rs.ok d μ2 | none => .bad).sat (PostE K ι H Q) N) : spM K n f vs H Q E := by
  split at q
  · rename_i d μ2 hf
    exact ⟨hl, ι, μ, ds, d, μ2, m, r, hf, fun ι' H' v e' m' r' => q ι' H' v e' m' r'.n⟩
  · exact q.elim
theorem de_call {x : Str} {p : Pos} {es : List Expr} {t : MA} {st : Stmt} {k : Nat} {ps : List Str} {f : MFn} (F : Fn X.prog X.w X.K X.mg X.base x st k ps f) (hr : Room k X.A) (hgd : X.A.guards = some []) (hg : Gl X x) (ha : DA X W (e :: es) t) (hl : (e :: es).length = ps.length)
    (hdb : (x == ("__debug__" : Str)) = false := by decide) (he : starEach (e :: es) X.env = (false, eval e X.env) :: starEach es X.env := by rfl) (hpl : (backTo pos (starEach es X.env)).any (·.1) = false := by rfl)
    (hn : ∀ ρ μ ds μ', t ρ μ = .ok ds μ' → ds.length = ps.length) : DE X W (.Call (.Name x p) (e :: es) [] pos) (mCall f t) := by
  obtain ⟨fa, fd, hm, F0, G, hb⟩ := F.ex
  obtain ⟨tA, pA, hA⟩ := ha.run
  refine ⟨fun σ H Q => tA σ H fun vs H1 => spM X.K ps.length f vs H1 Q E0, ⟨fun pins s σ H Q I h => ?_⟩, fun ι H ρ μ σ Q m s q => hA ι H ρ μ σ _ m s ?_⟩
  · refine wpAny_Call_Name_kw (ld_glob I hg hm ?_ hdb)
    refine PySem.W.callWith_K (h₀ := X.base) I.ok.mod.kin F0.kp (thn (pA.run pos pins s σ H _ I h) fun us s1 ⟨vs, H1, I1, r, q⟩ => ⟨I1.kIn, ?_⟩) he hpl
    have hlen : (us ++ ([] : List Value)).length = ps.length := by rw [List.append_nil, ← r.length]; exact G.len _ _ _ _ q
    refine wpAny_call (codeAny_mono (run_g G hr hgd I1 (by have := hb s1 us I1.kIn hlen; rw [List.append_nil] at this; exact this) r q) fun r s' hq => ?_)
    cases r with
    | error e => exact hq.elim
    | ok fl =>
      cases fl with
      | ret u => exact hq
      | next => exact hq.elim
      | brk => exact hq.elim
      | cont => exact hq.elim
  · have qq := Rs.sat_bind q
    cases ht : t ρ μ with
    | ok ds μ1 =>
      rw [ht] at qq
      intro ι1 H1 vs e1 m1 r1
      refine call_sp m1 r1 (by rw [← r1.len]; exact hn _ _ _ _ ht) (N := fun _ _ => False) ?_
      have q1 : (match f ds μ1 with | some (d, μ2) => Rs.ok d μ2 | none => .bad).sat (PostE X.K ι H Q) (PostX X.K ι H W) := qq
      cases hf : f ds μ1 with
      | none => rw [hf] at q1; exact q1
      | some z =>
        rw [hf] at q1
        exact PostE.ext e1 q1
    | ex x μ1 => rw [ht] at qq; exact qq
    | bad => rw [ht] at qq; exact qq
/-- all parameters by keywords, in any order: ks a row of places of the parameters -/
def permD (ix : List Nat) (ds : List D) : List D := ix.map fun i => ds.getD i .non
def mCallK (f : MFn) (ix : List Nat) (t : MA) : ME := fun ρ μ => (t ρ μ).bind fun ds μ1 => if ds.length = ix.length then match f (permD ix ds) μ1 with
  | some (d, μ2) => .ok d μ2
  | none => .bad
  else .bad
theorem reps_perm {K : PySem.W.Frag} {ι : List Addr} {H : Hp} {ds : List D} {vs : List V} (r : Reps K ι H ds vs) : ∀ (ix : List Nat), (∀ i ∈ ix, i < ds.length) → Reps K ι H (permD ix ds) (ix.map fun i => vs.getD i .non)
  | [], _ => by simp only [permD, List.map_nil, Reps]
  | i :: ix, h => by
    have ih := reps_perm r ix fun j hj => h j (List.mem_cons_of_mem _ hj)
    have hi := h i List.mem_cons_self
    obtain ⟨v, h1, h2⟩ := r.get (List.getElem?_eq_getElem hi)
    unfold permD at ih ⊢
    simp only [List.map_cons, Reps]
    refine ⟨v, _, ?_, ?_, ih⟩
    · rw [List.getD_eq_getElem?_getD, h1]; rfl
    · rw [List.getD_eq_getElem?_getD, List.getElem?_eq_getElem hi]; exact h2
theorem vals_perm {vs : List V} {us : List Value} (r : Vals vs us) : ∀ ix : List Nat, Vals (ix.map fun i => vs.getD i .non) (ix.map fun i => us.getD i .none)
  | [] => .nil
  | i :: ix => by
    refine .cons ?_ (vals_perm r ix)
    show RelV (vs.getD i .non) (us.getD i .none)
    rw [List.getD_eq_getElem?_getD, List.getD_eq_getElem?_getD]
    cases h : vs[i]? with
    | none => rw [r.none_of h]; rfl
    | some v =>
      obtain ⟨u, h1, h2⟩ := r.get h
      rw [h1]
      exact h2
theorem de_callK {x : Str} {p : Pos} {kws : List Keyword} {t : MA} {st : Stmt} {k : Nat} {ps ks : List Str} {f : MFn} {ix : List Nat} (F : Fn X.prog X.w X.K X.mg X.base x st k ps f) (hr : Room k X.A) (hgd : X.A.guards = some []) (hg : Gl X x) (ha : DK X W kws t)
    (hbind : ∀ (kV doc pm : Value) (an : Option Addr) (cdv ct : Value) (ws : List Value), ws.length = ks.length → bindArgs (PySem.W.fnOf x x (defArgs st) (defBody st) (defScope st) .none kV doc pm an cdv ct) ⟨[], ks.zip ws⟩ = pure (ps.zip (ix.map fun i => ws.getD i .none)))
    (hix : ∀ i ∈ ix, i < ix.length) (hl : ix.length = ps.length) (hkl : ks.length = ix.length)
    (hall : (backToKw pos (keywordEach kws X.env)).all (·.1.isSome) = true := by rfl) (hks : (backToKw pos (keywordEach kws X.env)).filterMap (·.1) = ks := by rfl)
    (hdb : (x == ("__debug__" : Str)) = false := by decide) (hpl : ((backTo pos (starEach [] X.env)).any (·.1) || (backToKw pos (keywordEach kws X.env)).any (·.1.isNone)) = false := by rfl) : DE X W (.Call (.Name x p) [] kws pos) (mCallK f ix t) := by
  obtain ⟨fa, fd, hm, F0, G, hb⟩ := F.ex
  obtain ⟨tA, pA, hA⟩ := ha.run
  refine ⟨fun σ H Q => tA σ H fun vs H1 => vs.length = ix.length ∧ spM X.K ps.length f (ix.map fun i => vs.getD i .non) H1 Q E0, ⟨fun pins s σ H Q I h => ?_⟩, fun ι H ρ μ σ Q m s q => hA ι H ρ μ σ _ m s ?_⟩
  · refine wpAny_Call_Name_kw (ld_glob I hg hm ?_ hdb)
    refine PySem.W.callWith_KW0 (h₀ := X.base) I.ok.mod.kin F0.kp hall ?_ hpl
    refine thn (pA.run pos pins s σ H _ I h) fun ws s2 ⟨vs, H2, I2, r, hvl, q2⟩ => ⟨I2.kIn, ?_⟩
    rw [hks]
    obtain ⟨oc, od, kV, doc, pm, an, cdv, ct, osl, rfl, lk, hcd⟩ := F0.ex
    refine wpAny_call (codeAny_mono (run_g G hr hgd I2 (.of_eq (hbind kV doc pm an cdv ct ws (by rw [hkl, ← hvl, r.length]))) (vals_perm r ix) q2) fun r s' hq => ?_)
    cases r with
    | error e => exact hq.elim
    | ok fl =>
      cases fl with
      | ret u => exact hq
      | next => exact hq.elim
      | brk => exact hq.elim
      | cont => exact hq.elim
  · have qq := Rs.sat_bind q
    cases ht : t ρ μ with
    | ok ds μ1 =>
      rw [ht] at qq
      intro ι1 H1 vs e1 m1 r1
      have q1 : (if ds.length = ix.length then match f (permD ix ds) μ1 with | some (d, μ2) => Rs.ok d μ2 | none => .bad else .bad).sat (PostE X.K ι H Q) (PostX X.K ι H W) := qq
      split at q1
      · rename_i hdl
        refine ⟨by rw [← r1.len]; exact hdl, call_sp m1 (reps_perm r1 ix (by rw [hdl]; exact hix)) (by rw [List.length_map]; exact hl) (N := fun _ _ => False) ?_⟩
        cases hf : f (permD ix ds) μ1 with
        | none => rw [hf] at q1; exact q1
        | some z =>
          rw [hf] at q1
          exact PostE.ext e1 q1
      · exact q1.elim
    | ex x μ1 => rw [ht] at qq; exact qq
    | bad => rw [ht] at qq; exact qq
/-! repr -/
def ReprOk (p : PyData) : Prop := p.showable = true ∧ p.hasDict = false ∧ p.depth ≤ 20 ∧ p.shown.length ≤ sizeLine
instance (p : PyData) : Decidable (ReprOk p) := by unfold ReprOk; infer_instance
def fRepr : MF
  | [d], μ => match toP μ 12 d with
    | some p => if ReprOk p then .ok (.str p.shown) μ else .bad
    | none => .bad
  | _, _ => .bad
theorem call_reprD (hg : X.A.guards = some []) (hu : X.A.units + 64 < cLine) : CallR X (.builtin "repr") fun xs H Q => ∃ x p, xs = [x] ∧ Dp X.K H x p ∧ ReprOk p ∧ Q (.str p.shown) H := by
  intro pins s σ H xs us Q I r h
  obtain ⟨x, p, rfl, dp, ⟨h1, h2, h3, h4⟩, q⟩ := h
  obtain ⟨u, rfl, ru⟩ := vals1 r
  obtain ⟨as, rd⟩ := Dp.reads I p x u dp ru
  have fin : ∀ t, EP X pins σ Q (.str p.shown t) { s with toks := s.toks + 1 } := fun t => ⟨.str p.shown, H, I.tok _, ⟨t, rfl⟩, q⟩
  cases rd with
  | none => exact P.repr_of_none (fin _)
  | bool b => exact P.repr_of_bool (fin _)
  | int i t => exact P.repr_of_int (of_decide_eq_true h1) (fin _)
  | str y t => exact P.repr_of_str (fin _) h4
  | list g1 g2 g3 g4 => exact repr_of_reads' (.list g1 g2 g3 g4) h1 (PyData.noDict_hsm h2) hg (by omega) (fun _ _ z => z) (fun h' t tk k => ⟨.str _, H, I.kept k, ⟨t, rfl⟩, q⟩) h4
  | tuple g1 g2 g3 g4 => exact repr_of_reads' (.tuple g1 g2 g3 g4) h1 (PyData.noDict_hsm h2) hg (by omega) (fun _ _ z => z) (fun h' t tk k => ⟨.str _, H, I.kept k, ⟨t, rfl⟩, q⟩) h4
  | dict g1 g2 g3 g4 g5 => simp [PyData.hasDict] at h2
theorem dc_repr (hg : X.A.guards = some []) (hu : X.A.units + 64 < cLine) : DCall X (.builtin "repr") fRepr := by
  refine dcall_of (call_reprD hg hu) fun ι H μ ds vs Q m r q => ?_
  unfold fRepr at q
  split at q
  · obtain ⟨v, H0, rfl, r1⟩ := r.one
    split at q
    · rename_i p hp
      split at q
      · rename_i ho
        exact ⟨v, p, rfl, toP_ok m 12 _ v H0 p r1 hp, ho, post_same m (rep_str _) q⟩
      · exact q.elim
    · exact q.elim
  · exact q.elim
end
end M

namespace M
open PySem PySem.Spec PyProof.Rows L2
/-! ## the end of a law -/
theorem sls_of {K : PySem.W.Frag} {H : Hp} {a : Addr} {xs : List V} (o : Only H) (h : SqL K H a xs) : Sls K H a xs := by
  rcases h with (h | ⟨ob, h⟩) | h
  · rcases o a with z | ⟨ob, ys, z⟩
    · rw [h] at z; cases z
    · rw [h] at z; cases z
  · exact .inl ⟨ob, h⟩
  · exact .inr h
/-- a law's def keeps its promise at the entry -/
theorem law_sp {K : PySem.W.Frag} {H : Hp} {a : Addr} {ns : List Int} {f : MFn} {E : XK} (o : Only H) (h : SqL K H a (ns.map V.int)) (hf : ∃ μ', f [.sls (ns.map D.int)] [] = some (.bl true, μ')) : spM K 1 f [.ref a] H (fun v _ => v = .bl true) E := by
  obtain ⟨μ', e⟩ := hf
  refine ⟨rfl, [], [], [.sls (ns.map D.int)], .bl true, μ', ⟨List.nodup_nil, rfl, fun n ob b h1 h2 => by simp at h1⟩, .one ?_, e, fun ι' H' v _ _ r => by simpa only [Rep] using r⟩
  simp only [Rep]
  exact ⟨a, _, rfl, sls_of o h, reps_ints ns⟩
section
variable {P : Program} {w : World} {K : PySem.W.Frag} {mg mb : Str → Option Value}
/-- the law is called at the heap behind the top; H: nothing is tracked, or the script alone -/
theorem run_law {k : Nat} {fa a : Addr} {fd : FuncData} {x : Str} {sp : Sp} {z : Shared} {vs : List Value} {H : Hp} (hr : Room k callerA) (kin : K.In z.heap) (hns : z.heap.Ns mainGlobals mg) (hb : z.heap.Ns builtinsNs mb)
    (hbb : ∀ x : Str, x ≠ "__name__" → mb x = bootBuiltins x) (hlim : z.heap.NoLimit) (hgen : z.gens = #[]) (hobj : z.heap.get? a = some { cls := .type "list", data := .seq vs.toArray })
    (F : ∀ base : Heap, K.In base → base.Ns mainGlobals mg → FnG P w K mg base CX0 k fa fd [x] sp) (hbind : ∀ (s : Shared) (u : Value), BindsTo s fd ⟨[u], []⟩ [(x, u)])
    (only : Only H) (ok : HOk P w H z.heap) (at_a : ∀ b, H b ≠ none → b = a) (notK : H a ≠ none → K.lookup a = none) (hsp : sp [.ref a] H (fun v _ => v = .bl true) E0) :
    codeAny (model P w) callerA (.call (.ref fa) ⟨[.ref a], []⟩) (fun r s' => r = .ok (.ret (.bool true)) ∧ OldK z.heap s'.heap ∧ s'.os = z.os ∧ AllBare s'.gens) z := by
  have free : ∀ (b : Addr) (o : Obj), z.heap.get? b = some o → (∀ (hb' : b = a), False) → H b = none := fun b o e n => by
    cases q : H b with
    | none => rfl
    | some u => exact (n (at_a b (by rw [q]; exact fun t => nomatch t))).elim
  have nsT : ∀ (b : Addr) (m : Str → Option Value), z.heap.Ns b m → (hidT z.heap H).Ns b m := fun b m ⟨o, es, ep, e, d, r⟩ => by
    refine ⟨o, es, ep, hidT_get e (free b o e fun q => ?_), d, r⟩
    subst q
    rw [hobj] at e
    cases e
    cases (show Data.seq vs.toArray _ = Data.dict es ep from d)
  have kT : K.In (hidT z.heap H) := fun b o e => hidT_get (kin b o e) (by
    cases q : H b with
    | none => rfl
    | some u =>
      have eb := at_a b (by rw [q]; exact fun t => nomatch t)
      subst eb
      rw [notK (by rw [q]; exact fun t => nomatch t)] at e
      cases e)
  have md : Mod K mg (hidT z.heap H) := ⟨kT, nsT _ _ hns, ⟨mb, nsT _ _ hb, hbb⟩, let ⟨mc, g1, g2⟩ := hlim; ⟨mc, nsT _ _ g1, g2⟩⟩
  have e0 : Env0 P w K mg (hidT z.heap H) callerA [] z H := ⟨rfl, md, fun b o e => of_hidT e, Nat.le_of_eq (hidT_size _ _), trivial, fun b hm => (nomatch hm), ok, .of_eq hgen⟩
  refine codeAny_mono ((F _ kT (nsT _ _ hns)).run callerA [] z H ⟨[.ref a], []⟩ [.ref a] [.ref a] _ _ hr rfl e0 (hbind z (.ref a)) (.cons rfl .nil) hsp) fun r s2 hq => ?_
  cases r with
  | error e => exact (show False from hq).elim
  | ok fl =>
    cases fl with
    | next => exact (show False from hq).elim
    | brk => exact (show False from hq).elim
    | cont => exact (show False from hq).elim
    | ret u =>
      obtain ⟨v, H2, os, bare, un, ok2, rv, ev⟩ := hq
      have ev : v = .bl true := ev
      subst ev
      obtain rfl : u = Value.bool true := rv
      refine ⟨rfl, OldK.of_keep fun b o e => ?_, os, bare⟩
      cases q : H b with
      | none => exact un.keep b o e q (fun t => nomatch t) (fun t => nomatch t)
      | some u =>
        rcases only b with t | ⟨ob, ys, t⟩
        · rw [q] at t; cases t
        · obtain ⟨k1, _⟩ := ok b _ t
          obtain ⟨k2, _⟩ := ok2 b _ (un.frzs b ob _ t)
          rw [e] at k1
          cases k1
          exact k2
theorem call_law {k : Nat} {fa a : Addr} {fd : FuncData} {x : Str} {f : MFn} {z : Shared} {vs : List Value} {ns : List Int} (hr : Room k callerA) (kin : K.In z.heap) (hns : z.heap.Ns mainGlobals mg) (hb : z.heap.Ns builtinsNs mb)
    (hbb : ∀ x : Str, x ≠ "__name__" → mb x = bootBuiltins x) (hlim : z.heap.NoLimit) (hgen : z.gens = #[]) (hobj : z.heap.get? a = some { cls := .type "list", data := .seq vs.toArray }) (hi : IntsAre vs ns) (hl : ns.length ≤ sizeLine)
    (F : ∀ base : Heap, K.In base → base.Ns mainGlobals mg → FnG P w K mg base CX0 k fa fd [x] (spM K 1 f)) (hbind : ∀ (s : Shared) (u : Value), BindsTo s fd ⟨[u], []⟩ [(x, u)]) (hf : ∃ μ', f [.sls (ns.map D.int)] [] = some (.bl true, μ')) :
    codeAny (model P w) callerA (.call (.ref fa) ⟨[.ref a], []⟩) (fun r s' => r = .ok (.ret (.bool true)) ∧ OldK z.heap s'.heap ∧ s'.os = z.os ∧ AllBare s'.gens) z := by
  have rv := vals_ints hi
  have hlen := hi.length
  cases hk : K.lookup a with
  | some o =>
    have e := kin a o hk
    rw [hobj] at e
    cases e
    have hS : SqL K (fun _ => none) a (ns.map V.int) := .inr ⟨_, vs.toArray, _, hk, rfl, rfl, rfl, by rw [List.size_toArray, hlen]; exact hl, by simpa using rv⟩
    exact run_law (H := fun _ => none) hr kin hns hb hbb hlim hgen hobj F hbind (fun _ => .inl rfl) (fun b u t => nomatch t) (fun b t => absurd rfl t) (fun t => absurd rfl t) (law_sp (fun _ => .inl rfl) hS hf)
  | none =>
    let ob : Obj := { cls := .type "list", data := .seq vs.toArray }
    let H1 : Hp := fun b => if b = a then some (.frz ob (.lst (ns.map V.int))) else none
    have h1 : H1 a = some (.frz ob (.lst (ns.map V.int))) := if_pos rfl
    have h2 : ∀ b, b ≠ a → H1 b = none := fun b t => if_neg t
    have on : Only H1 := fun b => by
      by_cases t : b = a
      · exact .inr ⟨ob, _, by rw [t]; exact h1⟩
      · exact .inl (h2 b t)
    refine run_law (H := H1) hr kin hns hb hbb hlim hgen hobj F hbind on (fun b u t => ?_) (fun b t => ?_) (fun _ => hk) (law_sp on (.inl (.inr ⟨ob, h1⟩)) hf)
    · by_cases q : b = a
      · subst q
        rw [h1] at t
        cases t
        exact ⟨hobj, by rw [List.length_map]; exact hl, vs, _, rv, hobj⟩
      · rw [h2 b q] at t; cases t
    · by_cases q : b = a
      · exact q
      · exact absurd (h2 b q) t
end
/-- what k_head leaves, from the law's mirror -/
theorem walk_m {l : PySem.W.OpenLaw} {k : Nat} {q : Program} {loose : List Str} {XP : (Str → Option Value) → Heap → Prop} {YP : World → Heap → Prop} {d : DefRec} {K : Params → PySem.W.Frag} {x : Str} {f : MFn} (hn : l.most = some 63) (hdf : d.params.defaults = []) (hr : Room k callerA)
    (hY : ∀ (w : World) (h : Heap), YP w h → (K w.params).In h)
    (F : ∀ (w : World) (mg : Str → Option Value) (fa : Addr) (h : Heap), (K w.params).In h → h.Ns mainGlobals mg → mg d.name = some (.ref fa) →
      ∃ fd : FuncData, (∀ (s : Shared) (u : Value), BindsTo s fd ⟨[u], []⟩ [(x, u)]) ∧ ∀ base : Heap, (K w.params).In base → base.Ns mainGlobals mg → FnG l.prog w (K w.params) mg base CX0 k fa fd [x] (spM (K w.params) 1 f))
    (hf : ∀ ns : List Int, ns.length ≤ 63 → ∃ μ', f [.sls (ns.map D.int)] [] = some (.bl true, μ')) : PySem.W.WalkO q loose XP YP l.row.toRowW d [] (fun f vs => PySem.call f vs) := by
  refine Att.attach_call hn hdf fun w s0 z mg mb fa o pm cd doc a vs ns G Y ho hd hcd hmg hobj hints hlen hg => ?_
  have kin := hY w _ Y
  obtain ⟨fd, hb, hF⟩ := F w mg fa _ kin G.T.g hmg
  exact call_law hr kin G.T.g G.T.b G.T.builtins G.T.nolimit hg hobj hints (Nat.le_trans hlen (by decide)) hF hb (hf ns hlen)
end M

namespace M
open PySem PySem.Spec PyProof.Rows L2 HT
/-! ## t[::-1] of a tuple -/
section
variable {prog : Program} {w : World} {A : Around} {E : Value → Shared → Prop} {s : Shared}
theorem slicePart_m1 {v : Value} {Q : Option Int → Shared → Prop} (p : IsPart v (some (-1))) (h : Q (some (-1)) s) : wpAny (model prog w) A (Builtin.Slice.slicePartIndex v) Q E s := by
  cases p with
  | int i t => exact slicePart_int h
theorem applied_back {sl : Addr} {vl vu vs : Value} {n : Nat} {Q : Int × Int × Nat → Shared → Prop} (hs : s.heap.IsSliceOf sl vl vu vs) (pl : IsPart vl none) (pu : IsPart vu none) (ps : IsPart vs (some (-1)))
    (h : Q ((n : Int) - 1, -1, n) s) : wpAny (model prog w) A (Builtin.Slice.sliceApplied (.ref sl) (pure (n : Int))) Q E s := by
  obtain ⟨os, hos, hcs, hds⟩ := id hs
  unfold Builtin.Slice.sliceApplied Builtin.Slice.sliceFields
  refine wpAny_bind (wpAny_bind (wpAny_field hos hds (x := vl) rfl (wpAny_bind (wpAny_field hos hds (x := vu) rfl (wpAny_bind (wpAny_field hos hds (x := vs) rfl (wpAny_pure ?_)))))))
  refine wpAny_bind (slicePart_m1 ps ?_)
  show wpAny _ _ (if ((-1 : Int) == 0) = true then _ else _) _ _ s
  rw [if_neg (by decide)]
  cases pl
  cases pu
  refine wpAny_bind (slicePart_none (wpAny_bind (slicePart_none (wpAny_bind (wpAny_pure ?_)))))
  have e : Builtin.Slice.sliceAdjust none none (-1) (n : Int) = ((n : Int) - 1, -1) := by
    unfold Builtin.Slice.sliceAdjust
    simp
  have e2 : Builtin.Slice.slicePlaces ((n : Int) - 1) (-1) (-1) = n := by
    unfold Builtin.Slice.slicePlaces
    have h1 : ¬ ((-1 : Int) > 0) := by omega
    have h2 : (- -1 : Int) = 1 := rfl
    simp only [h1, if_false, h2, Int.ediv_one]
    split <;> omega
  show wpAny _ _ (match Builtin.Slice.sliceAdjust none none (-1) (n : Int) with | (lo, hi) => pure (lo, (-1 : Int), Builtin.Slice.slicePlaces lo hi (-1))) _ _ s
  rw [e]
  show wpAny _ _ (pure ((n : Int) - 1, (-1 : Int), Builtin.Slice.slicePlaces ((n : Int) - 1) (-1) (-1))) _ _ s
  rw [e2]
  exact wpAny_pure h
theorem filterMap_all {α β : Type} {f : α → Option β} {g : α → β} : ∀ {l : List α}, (∀ x ∈ l, f x = some (g x)) → l.filterMap f = l.map g
  | [], _ => rfl
  | x :: l, h => by
    rw [List.filterMap_cons, h x List.mem_cons_self]
    show g x :: _ = _
    rw [filterMap_all fun y hy => h y (List.mem_cons_of_mem _ hy)]
    rfl
theorem vals_rev : ∀ {xs : List V} {us : List Value}, Vals xs us → Vals xs.reverse us.reverse
  | _, _, .nil => .nil
  | _, _, .cons r t => by
    rw [List.reverse_cons, List.reverse_cons]
    exact (vals_rev t).append (.cons r .nil)
theorem pick_back (xs : Array Value) : ((List.range xs.size).filterMap fun (k : Nat) => xs[(((xs.size : Nat) : Int) - 1 + (k : Int) * (-1)).toNat]?) = xs.toList.reverse := by
  have e : ((List.range xs.size).filterMap fun (k : Nat) => xs[(((xs.size : Nat) : Int) - 1 + (k : Int) * (-1)).toNat]?) = ((List.range xs.size).map fun k => xs.toList.getD (xs.size - 1 - k) .none) := by
    refine filterMap_all fun k hk => ?_
    have hk := List.mem_range.mp hk
    have e1 : (((xs.size : Nat) : Int) - 1 + (k : Int) * (-1)).toNat = xs.size - 1 - k := by omega
    rw [e1]
    have h2 : xs.size - 1 - k < xs.toList.length := by rw [Array.length_toList]; omega
    rw [← Array.getElem?_toList, List.getElem?_eq_getElem h2]
    rw [List.getD_eq_getElem?_getD, List.getElem?_eq_getElem h2]
    rfl
  rw [e]
  refine List.ext_getElem (by simp) fun i h1 h2 => ?_
  simp only [List.length_map, List.length_range] at h1
  rw [List.getElem_map, List.getElem_range, List.getElem_reverse, List.getD_eq_getElem?_getD, List.getElem?_eq_getElem (by rw [Array.length_toList]; omega)]
  simp only [Option.getD_some, Array.length_toList]
theorem get_back {t sl : Addr} {items : Array Value} {vl vu vs : Value} {Q : Value → Shared → Prop} (ht : IsTup s.heap t items) (hs : s.heap.IsSliceOf sl vl vu vs) (pl : IsPart vl none) (pu : IsPart vu none) (ps : IsPart vs (some (-1)))
    (h : Q (.ref s.heap.objs.size) { s with heap := s.heap.push { cls := .type "tuple", data := .seq items.toList.reverse.toArray } }) (hsz : items.size ≤ sizeLine) : wpAny (model prog w) A (getItem (.ref t) (.ref sl)) Q E s := by
  obtain ⟨os, hos, hcs, hds⟩ := id hs
  have isl : s.TypeIs (.ref sl) "slice" := ⟨os, hos, hcs⟩
  have fits : sizeOk (.seq items.toList.reverse.toArray) := by
    show items.toList.reverse.toArray.size ≤ sizeLine
    rw [List.size_toArray, List.length_reverse, Array.length_toList]
    exact hsz
  unfold getItem
  try with_reducible refine wpAny_holding ?_
  first | refine wpAny_bind (wpAny_pure ?_) | skip
  refine wpAny_bind (wpAny_sequenceKey ht.typeIs (by decide) (wpAny_bind ?_))
  refine wpAny_callSpecial?_slot (name := Str.ofString "__getitem__") ht.typeIs PyProof.Rows.slot_tuple_getitem (wpAny_call_entry PyProof.Rows.slot_tuple_getitem ht.typeIs entry_tuple_getitem ?_ (args_tuple_getitem _ _))
  show wpAny _ _ (Builtin.Tuple.tupleItemsOf (.ref t) >>= _) _ _ s
  refine wpAny_bind (tupleItemsOf_ ht (wpAny_bind (wpAny_typeOf isl ?_)))
  rw [if_pos (by decide)]
  refine wpAny_bind (applied_back hs pl pu ps ?_)
  show wpAny _ _ (if ((((items.size : Nat) : Int) - 1) == 0 && (-1 : Int) == 1 && items.size == items.size) = true then _ else _) _ _ s
  have no : ¬ (((((items.size : Nat) : Int) - 1) == 0 && (-1 : Int) == 1 && items.size == items.size) = true) := by simp
  rw [if_neg no, pick_back]
  first
    | exact wpAny_bind (m := Builtin.Tuple.tupleExact _) (wpAny_newObj_type (wpAny_pure ⟨_, rfl, wpAny_pure h⟩) fits)
    | exact wpAny_bind (m := Builtin.Tuple.tupleExact _) (wpAny_newObj_type (wpAny_bind (wpAny_pure (wpAny_pure ⟨_, rfl, wpAny_pure h⟩))) fits)
    | exact wpAny_bind (wpAny_bind (m := Builtin.Tuple.tupleExact _) (wpAny_newObj_type (wpAny_pure (wpAny_pure ⟨_, rfl, wpAny_pure h⟩)) fits))
    | exact wpAny_bind (wpAny_bind (m := Builtin.Tuple.tupleExact _) (wpAny_newObj_type (wpAny_pure ⟨_, rfl, wpAny_pure h⟩) fits))
end
section
variable {X : Cx} {W : XW} {pos : Pos} {a b c e o : Expr}
/-- x[::-1]: a list or a tuple -/
def tBackA (K : PySem.W.Frag) (te : TE) : TE := fun σ H Q => te σ H fun x H1 => ∃ a xs, x = .ref a ∧ (SqL K H1 a xs ∧ (∀ p, H1 p = none → Q (.ref p) (upd H1 p (.lst xs.reverse))) ∨ SqT K H1 a xs ∧ ∀ p, H1 p = none → Q (.ref p) (upd H1 p (.tup xs.reverse)))
theorem pe_backA {te : TE} {k : Nat} {p1 p2 p3 : Pos} (he : PE X e te) : PE X (.Subscript e (.Slice none none (some (.UnaryOp .USub (.Constant (.int 1) k p1) p2)) p3) pos) (tBackA X.K te) := by
  refine ⟨fun pins s σ H Q I h => ?_⟩
  refine Subscript_ (thn (he.run pins s σ H _ I h) fun v s1 ⟨x, H1, I1, rx, l, xs, ex, q⟩ => ?_)
  subst ex
  cases rx
  have step : PO X (some (.UnaryOp .USub (.Constant (.int 1) k p1) p2)) (tPart (tUn (rU fun i => .int (-i)) (tC (.int 1)))) := po_some (pe_un un_neg pe_int)
  refine wpAny_Slice (thn (po_none.run pins s1 σ H1 (fun u H2 => u = none ∧ H2 = H1) I1 ⟨rfl, rfl⟩) fun vl s2 ⟨u2, H2, I2, pl, el, e2⟩ => ?_)
  subst el e2
  refine thn (po_none.run pins s2 σ H2 (fun u H3 => u = none ∧ H3 = H2) I2 ⟨rfl, rfl⟩) fun vu s3 ⟨u3, H3, I3, pu, eu, e3⟩ => ?_
  subst eu e3
  refine thn (step.run pins s3 σ H3 (fun u H4 => u = some (-1) ∧ H4 = H3) I3 ⟨1, rfl, -1, rfl, rfl, rfl⟩) fun vs s4 ⟨u4, H4, I4, ps, eo, e4⟩ => ?_
  subst eo e4
  have J : Inv X pins σ H4 { s4 with heap := s4.heap.push { cls := .type "slice", data := .fields #[vl, vu, vs] } } := I4.kept (t' := s4.toks) fun b ob z => Heap.get?_push_of_some _ z
  show wpAny (model X.prog X.w) X.A (subscriptTail e (.Slice none none (some (.UnaryOp .USub (.Constant (.int 1) k p1) p2)) p3) (.ref l) (.ref s4.heap.objs.size)) (EP X pins σ Q) X.xe { s4 with heap := s4.heap.push { cls := .type "slice", data := .fields #[vl, vu, vs] } }
  rcases q with ⟨hx, q⟩ | ⟨hx, q⟩
  · obtain ⟨its, r, ht, hz⟩ := J.list hx
    refine tail_any (ops := [.ref l, .ref s4.heap.objs.size]) ht.isList.typeIs (PySem.slot_list_getitem.lookup) ?_ (by with_unfolding_all rfl)
    refine wpAny_getItem_list_slice ht.isList (Heap.IsSliceOf.new _ vl vu vs) pl pu ps (by decide) ?_ (by rw [List.size_toArray, ← r.length]; exact hz)
    rw [PySem.W.krv_pick]
    refine ⟨.ref _, _, J.laid (t' := s4.toks) (o := .lst xs.reverse) (fun b ob z => Heap.get?_push_of_some _ z) (Nat.le_refl _) ⟨by rw [List.length_reverse]; exact hz, its.reverse, _, vals_rev r, Heap.get?_push_size _ rfl⟩, rfl, q _ (J.hok.fresh (Nat.le_refl _))⟩
  · obtain ⟨its, r, ht, hz⟩ := J.tuple hx
    refine tail_any (ops := [.ref l, .ref s4.heap.objs.size]) ht.typeIs (PyProof.Rows.slot_tuple_getitem.lookup) ?_ (by with_unfolding_all rfl)
    refine get_back ht (Heap.IsSliceOf.new _ vl vu vs) pl pu ps ?_ (by rw [List.size_toArray, ← r.length]; exact hz)
    refine ⟨.ref _, _, J.laid (t' := s4.toks) (o := .tup xs.reverse) (fun b ob z => Heap.get?_push_of_some _ z) (Nat.le_refl _) ⟨by rw [List.length_reverse]; exact hz, its.reverse, vals_rev r, IsTup.new _ _⟩, rfl, q _ (J.hok.fresh (Nat.le_refl _))⟩
def oBack (x : D) (μ : Mu) : Rs D := match x with
  | .tup ds => .ok (.tup ds.reverse) μ
  | d => match contL d μ with
    | some ds => .ok (.new ds.reverse) μ
    | none => .bad
def mBack (t : ME) : ME := fun ρ μ => (t ρ μ).bind fun d μ1 => noex (oBack d μ1)
theorem de_back {t : ME} {k : Nat} {p1 p2 p3 : Pos} (h : DE X W e t) : DE X W (.Subscript e (.Slice none none (some (.UnaryOp .USub (.Constant (.int 1) k p1) p2)) p3) pos) (mBack t) := by
  obtain ⟨tA, pA, hA⟩ := h.run
  refine ⟨_, pe_backA pA, fun ι H ρ μ σ Q m s q => hA ι H ρ μ σ _ m s (Rs.sat_mono (Rs.sat_bind q) (fun d μ1 q1 ι1 H1 v e1 m1 r1 => ?_) fun _ _ h => h)⟩
  have q2 : (oBack d μ1).sat (PostE X.K ι1 H1 Q) (fun _ _ => False) := Rs.sat_mono (sat_noex q1) (fun _ _ h => h.ext e1) fun _ _ h => h
  unfold oBack at q2
  split at q2
  · obtain ⟨p, xs, rfl, h1, h2⟩ := repN_tup r1
    exact ⟨p, xs, rfl, .inr ⟨h1, fun p' hp => post_tup m1 hp h2.reverse q2⟩⟩
  · split at q2
    · rename_i ds hd
      obtain ⟨p, xs, rfl, h1, h2⟩ := contL_ok m1 r1 hd
      exact ⟨p, xs, rfl, .inl ⟨h1, fun p' hp => post_new m1 hp h2.reverse q2⟩⟩
    · exact q2.elim

/-! ## t * 1 -/
theorem tuple_mul1 (l : Addr) (items : Array Value) (n : Nat) (dd : Option Addr) (sl : Array (Option Value)) (u : Tok) : Meets (Builtin.«tuple.__mul__» ⟨[.ref l, .int 1 u], []⟩) (fun _ R s => s.heap.get? l = some { cls := .type "tuple", dict := dd, data := .seq items n, slots := sl } ∧
      R (.ok (.ret (.ref l))) s) :=
  .of_wp fun prog w A R s h => by
    obtain ⟨hp, g, d, tk, os⟩ := s
    obtain ⟨hl, h⟩ := h
    have f1 := AutoSeq1.idx_int
    have c1 : (items.isEmpty || (1 : Int) == 1) = true := by simp
    wp_walk using wpAny_loadPart' hl
    repeat (first
      | (refine wpAny_ite_true (decide_eq_true (by rw [c1])) ?_; wp_walk using wpAny_loadPart' hl)
      | (refine wpAny_ite_true c1 ?_; wp_walk using wpAny_loadPart' hl))
    exact ⟨_, rfl, h⟩
theorem op_mulT1 : OpR X (binaryOp .Mult) fun x y H Q => ∃ l xs, x = .ref l ∧ y = .int 1 ∧ SqT X.K H l xs ∧ Q (.ref l) H := by
  intro pins s σ H x y v u Q I rx ry h
  obtain ⟨l, xs, rfl, rfl, hT, q⟩ := h
  cases rx
  obtain ⟨t, rfl⟩ := ry
  obtain ⟨its, r, ⟨⟨cls, dd, data, sl⟩, ho, hc, n, hd⟩, hs⟩ := I.tuple hT
  simp only at hc hd
  subst hc hd
  refine wpAny_binaryOp_repeat_ref (T := "tuple") (U := "int") (by decide) ⟨_, ho, rfl⟩ (fun s' => typeIs_int s' 1 t) noFill_tuple_mul F.fills_int_mul F.slot_int_rmul repeat_tuple F.slot_int_index.lookup
    (call_meets F.slot_int_rmul (typeIs_int s 1 t) F.entry_int_rmul (F.args_int_rmul_2 _ _) (int_rmul_tuple 1 t l its.toArray n dd sl) ⟨ho, rfl, ⟨_, ho, rfl⟩,
      call_meets F.slot_tuple_mul ⟨_, ho, rfl⟩ F.entry_tuple_mul (F.args_tuple_mul_2 _ _) (tuple_mul1 l its.toArray n dd sl t) ⟨ho, .ref l, H, I, rfl, q⟩⟩)
def oMul' : MO := fun x y μ => match x, y with
  | .tup xs, .int 1 => .ok (.tup xs) μ
  | x, y => oMul x y μ
theorem dop_mul' : DOp X (binaryOp .Mult) oMul' := by
  obtain ⟨r, hr, hs⟩ := dop_mul (X := X)
  refine dop_of (OpR.or' op_mulT1 hr) fun ι H Ha Hb μ x y v u Q m rx ry q => ?_
  unfold oMul' at q
  split at q
  · have e2 := repN_int ry
    subst e2
    obtain ⟨l, vs, rfl, h1, h2⟩ := repN_tup rx
    refine .inl ⟨l, vs, rfl, rfl, h1, post_same m (d := .tup _) ?_ q⟩
    simp only [Rep]
    exact ⟨l, vs, rfl, h1, h2⟩
  · exact .inr (hs ι H Ha Hb μ x y v u Q m rx ry q)

/-! ## dicts of the store: keys ints and texts -/
def keyOf (d : D) : Option Key := match d with
  | .int i => some (.inl i)
  | .str x => some (.inr x)
  | _ => none
theorem keyOf_ok {K : PySem.W.Frag} {ι : List Addr} {H H0 : Hp} {d : D} {v : V} {k : Key} (r : RepN K ι H H0 d v) (h : keyOf d = some k) : v = kV k := by
  cases d with
  | int i => cases h; exact repN_int r
  | str x => cases h; exact repN_str r
  | _ => cases h
def dicAt (d : D) (μ : Mu) : Option (Nat × List (Key × D)) := match d with
  | .ref n => match μ[n]? with
    | some (.dic kvs) => some (n, kvs)
    | _ => none
  | _ => none
theorem dicAt_ok {ι : List Addr} {H H0 : Hp} {μ : Mu} {d : D} {v : V} {n : Nat} {kvs : List (Key × D)} (m : SM X.K ι H μ) (r : RepN X.K ι H H0 d v) (h : dicAt d μ = some (n, kvs)) :
    d = .ref n ∧ μ[n]? = some (.dic kvs) ∧ ∃ p xs, v = .ref p ∧ ι[n]? = some p ∧ H p = some (.dK xs) ∧ xs.map Prod.fst = kvs.map Prod.fst ∧ Reps X.K ι H (kvs.map Prod.snd) (xs.map Prod.snd) := by
  unfold dicAt at h
  split at h
  · split at h
    · rename_i es he
      cases h
      have r2 : Rep X.K ι H (.ref _) v := r
      simp only [Rep] at r2
      obtain ⟨p, rfl, hp⟩ := r2
      obtain ⟨xs, h1, h2, h3⟩ := m.obj _ _ p he hp
      exact ⟨rfl, he, p, xs, rfl, hp, h1, h2, h3⟩
    · cases h
  · cases h
def lookK (kvs : List (Key × D)) (k : Key) : Option D := (kvs.find? fun kv => decide (kv.1 = k)).map (·.2)
def putD (kvs : List (Key × D)) (k : Key) (d : D) : List (Key × D) :=
  if (kvs.any fun kv => decide (kv.1 = k)) = true then kvs.map (fun kv => if kv.1 = k then (kv.1, d) else kv) else kvs ++ [(k, d)]
theorem kv_cons {K : PySem.W.Frag} {ι : List Addr} {H : Hp} {k : Key} {d : D} {r : List (Key × D)} {xs : List (Key × V)} (h1 : xs.map Prod.fst = ((k, d) :: r).map Prod.fst) (h2 : Reps K ι H (((k, d) :: r).map Prod.snd) (xs.map Prod.snd)) :
    ∃ v t, xs = (k, v) :: t ∧ Rep K ι H d v ∧ t.map Prod.fst = r.map Prod.fst ∧ Reps K ι H (r.map Prod.snd) (t.map Prod.snd) := by
  cases xs with
  | nil => simp at h1
  | cons x t =>
    simp only [List.map_cons, List.cons.injEq] at h1
    simp only [List.map_cons, Reps] at h2
    obtain ⟨v, w, e, r1, r2⟩ := h2
    simp only [List.cons.injEq] at e
    obtain ⟨e1, e2⟩ := e
    obtain ⟨x1, x2⟩ := x
    simp only at h1 e1
    obtain ⟨rfl, h1⟩ := h1
    subst e1 e2
    exact ⟨_, t, rfl, r1, h1, r2⟩
theorem look_ok {K : PySem.W.Frag} {ι : List Addr} {H : Hp} {k : Key} : ∀ {kvs : List (Key × D)} {xs : List (Key × V)}, xs.map Prod.fst = kvs.map Prod.fst → Reps K ι H (kvs.map Prod.snd) (xs.map Prod.snd) →
    match lookK kvs k with
    | some d => ∃ v, valV xs k = some v ∧ Rep K ι H d v
    | none => valV xs k = none
  | [], xs, h1, h2 => by
    cases xs with
    | nil => rfl
    | cons x t => simp at h1
  | (k', d) :: r, xs, h1, h2 => by
    obtain ⟨v, t, rfl, r1, g1, g2⟩ := kv_cons h1 h2
    by_cases e : k' = k
    · have : lookK ((k', d) :: r) k = some d := by simp [lookK, e]
      rw [this]
      exact ⟨v, valV_pos (p := (k', v)) e, r1⟩
    · have : lookK ((k', d) :: r) k = lookK r k := by simp [lookK, e]
      rw [this, valV_neg (p := (k', v)) e]
      exact look_ok g1 g2
theorem any_keys {κ α β : Type} [DecidableEq κ] {k : κ} : ∀ {xs : List (κ × α)} {ys : List (κ × β)}, xs.map Prod.fst = ys.map Prod.fst → (xs.any fun kv => decide (kv.1 = k)) = (ys.any fun kv => decide (kv.1 = k))
  | [], [], _ => rfl
  | [], _ :: _, h => by simp at h
  | _ :: _, [], h => by simp at h
  | x :: xs, y :: ys, h => by
    simp only [List.map_cons, List.cons.injEq] at h
    simp only [List.any_cons, h.1, any_keys h.2]
theorem put_ok {K : PySem.W.Frag} {ι : List Addr} {H : Hp} {k : Key} {d : D} {v : V} (r : Rep K ι H d v) {kvs : List (Key × D)} {xs : List (Key × V)} (h1 : xs.map Prod.fst = kvs.map Prod.fst) (h2 : Reps K ι H (kvs.map Prod.snd) (xs.map Prod.snd)) :
    (putK xs k v).map Prod.fst = (putD kvs k d).map Prod.fst ∧ Reps K ι H ((putD kvs k d).map Prod.snd) ((putK xs k v).map Prod.snd) := by
  unfold putK putD
  rw [any_keys h1]
  split
  · have go : ∀ {kvs : List (Key × D)} {xs : List (Key × V)}, xs.map Prod.fst = kvs.map Prod.fst → Reps K ι H (kvs.map Prod.snd) (xs.map Prod.snd) →
        (xs.map fun kv => if kv.1 = k then (kv.1, v) else kv).map Prod.fst = (kvs.map fun kv => if kv.1 = k then (kv.1, d) else kv).map Prod.fst ∧ Reps K ι H ((kvs.map fun kv => if kv.1 = k then (kv.1, d) else kv).map Prod.snd) ((xs.map fun kv => if kv.1 = k then (kv.1, v) else kv).map Prod.snd) := by
      intro kvs
      induction kvs with
      | nil =>
        intro xs h1 h2
        cases xs with
        | nil => simp only [List.map_nil, Reps, and_self]
        | cons x t => simp at h1
      | cons p rr ih =>
        intro xs h1 h2
        obtain ⟨k', d'⟩ := p
        obtain ⟨v', t, rfl, r1, g1, g2⟩ := kv_cons h1 h2
        obtain ⟨j1, j2⟩ := ih g1 g2
        simp only [List.map_cons]
        by_cases e : k' = k
        · simp only [e, if_true, List.cons.injEq, true_and, Reps]
          exact ⟨j1, v, _, ⟨rfl, rfl⟩, r, j2⟩
        · simp only [e, if_false, List.cons.injEq, true_and, Reps]
          exact ⟨j1, v', _, ⟨rfl, rfl⟩, r1, j2⟩
    exact go h1 h2
  · refine ⟨by simp [h1], ?_⟩
    rw [List.map_append, List.map_append]
    exact h2.append (.one r)
/-- d[k] = v -/
def mDPut (td tk tv : ME) : MS := fun ρ μ => (mSet tv ρ μ).bind fun v μ1 => (td ρ μ1).bind fun d μ2 => (tk ρ μ2).bind fun k μ3 => match dicAt d μ3, keyOf k with
  | some (n, kvs), some key => if kvs.length < sizeLine then .ok (.nx, ρ) (μ3.set n (.dic (putD kvs key v))) else .bad
  | _, _ => .bad
theorem ds_dput {i value : Expr} {td tk tv : ME} {pos' : Pos} (hu : X.A.units + 1 < cLine) (ho : DE X W o td) (hi : DE X W i tk) (hv : DE X W value tv) (hs : swapsWith value (some (.Subscript o i pos')) pos.line X.env = pure false := by rfl) : DS X W (.Assign [.Subscript o i pos'] value pos) (mDPut td tk tv) := by
  obtain ⟨tA, pA, hA⟩ := ho.run
  obtain ⟨tB, pB, hB⟩ := hi.run
  obtain ⟨tC', pC, hC⟩ := hv.run
  refine ⟨_, ps_dput hu pA pB pC hs, fun ι H ρ μ σ B m s q => set_ok hC m s (Rs.sat_bind q) fun d μ1 ι1 H1 v q1 e1 m1 r1 => ?_⟩
  refine hA ι1 H1 ρ μ1 σ _ m1 (s.ext e1) (Rs.sat_mono (Rs.sat_bind q1) (fun x μ2 q2 ι2 H2 u2 e2 m2 r2 => ?_) fun _ _ h => h.ext e1)
  refine hB ι2 H2 ρ μ2 σ _ m2 ((s.ext e1).ext e2) (Rs.sat_mono (Rs.sat_bind q2) (fun k μ3 q3 ι3 H3 u3 e3 m3 r3 => ?_) fun _ _ h => (h.ext e1).ext e2)
  split at q3
  · rename_i n kvs key hx hk
    obtain ⟨rfl, h0, p, xs, rfl, h1, h2, h3, h4⟩ := dicAt_ok m3 (r2.ext e3) hx
    have ek := keyOf_ok r3 hk
    subst ek
    split at q3
    · rename_i hz
      have ex : Ext ι3 H3 ι3 (upd H3 p (.dK (putK xs key v))) := Ext.write' m3 h1
      have rv : Rep X.K ι3 H3 d v := (r1.ext e2).ext e3
      obtain ⟨g1, g2⟩ := put_ok (k := key) rv h3 h4
      refine ⟨p, _, rfl, .k h2 (by rw [show xs.length = kvs.length by simpa using congrArg List.length h3]; exact hz), ?_⟩
      have e4 := ((e1.trans e2).trans e3).trans ex
      exact (show PostS X.K ι H B (.nx, ρ) (μ3.set n (.dic (putD kvs key d))) from q3) ι3 _ e4 (m3.write (o := .dic (putD kvs key d)) h1 ⟨_, upd_same, g1, g2.ext ex⟩) σ (s.ext e4)
    · exact q3.elim
  · exact q3.elim
/-- d[k] -/
def mDGet (td tk : ME) : ME := fun ρ μ => (td ρ μ).bind fun d μ1 => (tk ρ μ1).bind fun k μ2 => match dicAt d μ2, keyOf k with
  | some (_, kvs), some key => match lookK kvs key with
    | some v => .ok v μ2
    | none => .bad
  | _, _ => .bad
theorem de_dget {i : Expr} {td tk : ME} (hu : X.A.units + 1 < cLine) (ho : DE X W o td) (hi : DE X W i tk) (hs : NoSl i) : DE X W (.Subscript o i pos) (mDGet td tk) := by
  obtain ⟨tA, pA, hA⟩ := ho.run
  obtain ⟨tB, pB, hB⟩ := hi.run
  refine ⟨_, pe_dget hu pA pB hs, fun ι H ρ μ σ Q m s q => ?_⟩
  refine hA ι H ρ μ σ _ m s (Rs.sat_mono (Rs.sat_bind q) (fun x μ1 q1 ι1 H1 u1 e1 m1 r1 => ?_) fun _ _ h => h)
  refine hB ι1 H1 ρ μ1 σ _ m1 (s.ext e1) (Rs.sat_mono (Rs.sat_bind q1) (fun k μ2 q2 ι2 H2 u2 e2 m2 r2 => ?_) fun _ _ h => h.ext e1)
  split at q2
  · rename_i n kvs key hx hk
    obtain ⟨rfl, h0, p, xs, rfl, h1, h2, h3, h4⟩ := dicAt_ok m2 (r1.ext e2) hx
    have ek := keyOf_ok r2 hk
    subst ek
    split at q2
    · rename_i v hv
      have lk := look_ok (k := key) h3 h4
      rw [hv] at lk
      obtain ⟨w, g1, g2⟩ := lk
      exact ⟨p, w, rfl, by rw [← g1]; exact .k h2, q2 ι2 H2 w (e1.trans e2) m2 g2.n⟩
    · exact q2.elim
  · exact q2.elim
/-- k in d, k not in d -/
def mDIn (neg : Bool) (tk td : ME) : ME := fun ρ μ => (tk ρ μ).bind fun k μ1 => (td ρ μ1).bind fun d μ2 => match dicAt d μ2, keyOf k with
  | some (_, kvs), some key => .ok (.bl (if neg then !(lookK kvs key).isSome else (lookK kvs key).isSome)) μ2
  | _, _ => .bad
theorem din_ok {K : PySem.W.Frag} {i : Expr} {td tk : ME} {tA tB : TE} (neg : Bool) (hA : ∀ (ι : List Addr) (H : Hp) (ρ : En) (μ : Mu) (σ : L2.St) (Q : VK), SM K ι H μ → SE K ι H ρ σ → (tk ρ μ).sat (PostE K ι H Q) (PostX K ι H W) → tA σ H Q)
    (hB : ∀ (ι : List Addr) (H : Hp) (ρ : En) (μ : Mu) (σ : L2.St) (Q : VK), SM K ι H μ → SE K ι H ρ σ → (td ρ μ).sat (PostE K ι H Q) (PostX K ι H W) → tB σ H Q)
    (eK : X.K = K) (ι : List Addr) (H : Hp) (ρ : En) (μ : Mu) (σ : L2.St) (Q : VK) (m : SM K ι H μ) (s : SE K ι H ρ σ) (q : (mDIn neg tk td ρ μ).sat (PostE K ι H Q) (PostX K ι H W)) :
    tA σ H fun y H1 => tB σ H1 fun x H2 => ∃ a o, x = .ref a ∧ DGet H2 a y o ∧ Q (.bl (if neg then !o.isSome else o.isSome)) H2 := by
  subst eK
  refine hA ι H ρ μ σ _ m s (Rs.sat_mono (Rs.sat_bind q) (fun k μ1 q1 ι1 H1 u1 e1 m1 r1 => ?_) fun _ _ h => h)
  refine hB ι1 H1 ρ μ1 σ _ m1 (s.ext e1) (Rs.sat_mono (Rs.sat_bind q1) (fun x μ2 q2 ι2 H2 u2 e2 m2 r2 => ?_) fun _ _ h => h.ext e1)
  split at q2
  · rename_i n kvs key hx hk
    obtain ⟨rfl, h0, p, xs, rfl, h1, h2, h3, h4⟩ := dicAt_ok m2 r2 hx
    have ek := keyOf_ok (r1.ext e2) hk
    subst ek
    refine ⟨p, valV xs key, rfl, .k h2, ?_⟩
    have lk := look_ok (k := key) h3 h4
    have es : (lookK kvs key).isSome = (valV xs key).isSome := by
      cases hv : lookK kvs key with
      | none => rw [hv] at lk; rw [lk]; rfl
      | some v => rw [hv] at lk; obtain ⟨w, g1, _⟩ := lk; rw [g1]; rfl
    rw [es] at q2
    exact q2 ι2 H2 _ (e1.trans e2) m2 (rep_bl _).n
  · exact q2.elim
theorem de_din {i : Expr} {td tk : ME} (hu : X.A.units + 1 < cLine) (hi : DE X W i tk) (ho : DE X W o td) (hm : behindInMarks .In o = false := by rfl) : DE X W (.Compare i [.In] [o] pos) (mDIn false tk td) := by
  obtain ⟨tA, pA, hA⟩ := hi.run
  obtain ⟨tB, pB, hB⟩ := ho.run
  refine ⟨_, pe_cmp (pc_din hu pA pB) hm, fun ι H ρ μ σ Q m s q => ?_⟩
  have := din_ok (X := X) (i := i) false hA hB rfl ι H ρ μ σ Q m s q
  exact this
theorem dt_din {i : Expr} {td tk : ME} (hu : X.A.units + 1 < cLine) (hi : DE X W i tk) (ho : DE X W o td) (hm : behindInMarks .In o = false := by rfl) : DT X W (.Compare i [.In] [o] pos) (mT (mDIn false tk td)) := by
  obtain ⟨tA, pA, hA⟩ := hi.run
  obtain ⟨tB, pB, hB⟩ := ho.run
  refine ⟨_, pt_cmp (pc_din hu pA pB) hm, fun ι H ρ μ σ Q m s q => ?_⟩
  have := mT_ok (tA := fun σ H Q => tA σ H fun y H1 => tB σ H1 fun x H2 => ∃ a o, x = .ref a ∧ DGet H2 a y o ∧ Q (.bl (if false then !o.isSome else o.isSome)) H2) (din_ok (X := X) (i := i) false hA hB rfl) ι H ρ μ σ Q m s q
  exact this
theorem de_dnotin {i : Expr} {td tk : ME} (hu : X.A.units + 1 < cLine) (hi : DE X W i tk) (ho : DE X W o td) (hm : behindInMarks .NotIn o = false := by rfl) : DE X W (.Compare i [.NotIn] [o] pos) (mDIn true tk td) := by
  obtain ⟨tA, pA, hA⟩ := hi.run
  obtain ⟨tB, pB, hB⟩ := ho.run
  refine ⟨_, pe_cmp (pc_dnotin hu pA pB) hm, fun ι H ρ μ σ Q m s q => ?_⟩
  have := din_ok (X := X) (i := i) true hA hB rfl ι H ρ μ σ Q m s q
  exact this
theorem dt_dnotin {i : Expr} {td tk : ME} (hu : X.A.units + 1 < cLine) (hi : DE X W i tk) (ho : DE X W o td) (hm : behindInMarks .NotIn o = false := by rfl) : DT X W (.Compare i [.NotIn] [o] pos) (mT (mDIn true tk td)) := by
  obtain ⟨tA, pA, hA⟩ := hi.run
  obtain ⟨tB, pB, hB⟩ := ho.run
  refine ⟨_, pt_cmp (pc_dnotin hu pA pB) hm, fun ι H ρ μ σ Q m s q => ?_⟩
  have := mT_ok (tA := fun σ H Q => tA σ H fun y H1 => tB σ H1 fun x H2 => ∃ a o, x = .ref a ∧ DGet H2 a y o ∧ Q (.bl (if true then !o.isSome else o.isSome)) H2) (din_ok (X := X) (i := i) true hA hB rfl) ι H ρ μ σ Q m s q
  exact this
/-! the lengths of argument rows -/
theorem len_nil (ρ : En) (μ : Mu) (ds : List D) (μ' : Mu) (h : mNil ρ μ = .ok ds μ') : ds.length = 0 := by cases h; rfl
theorem len_cons {t : ME} {u : MA} {n : Nat} (hu : ∀ ρ μ ds μ', u ρ μ = .ok ds μ' → ds.length = n) (ρ : En) (μ : Mu) (ds : List D) (μ' : Mu) (h : mCons t u ρ μ = .ok ds μ') : ds.length = n + 1 := by
  unfold mCons at h
  cases h1 : mSet t ρ μ with
  | ok d μ1 =>
    rw [h1] at h
    simp only [Rs.bind] at h
    cases h2 : u ρ μ1 with
    | ok es μ2 =>
      rw [h2] at h
      cases h
      rw [List.length_cons, hu _ _ _ _ h2]
    | ex x μ2 => rw [h2] at h; cases h
    | bad => rw [h2] at h; cases h
  | ex x μ1 => rw [h1] at h; cases h
  | bad => rw [h1] at h; cases h
end
end M

namespace M
open L2
/-! ## running mirrors: no exception -/
abbrev Ok {α : Type} (r : Rs α) (P : α → Mu → Prop) : Prop := r.sat P (fun _ _ => False)
theorem ok_bind {α β : Type} {r : Rs α} {k : α → Mu → Rs β} {P : β → Mu → Prop} : Ok (r.bind k) P ↔ Ok r fun a μ => Ok (k a μ) P := by
  cases r <;> exact Iff.rfl
theorem ok_ok {α : Type} {a : α} {μ : Mu} {P : α → Mu → Prop} : Ok (.ok a μ) P ↔ P a μ := Iff.rfl
theorem ok_mono {α : Type} {r : Rs α} {P P' : α → Mu → Prop} (h : Ok r P) (hp : ∀ a μ, P a μ → P' a μ) : Ok r P' := Rs.sat_mono h hp fun _ _ z => z
theorem ok_noex {α : Type} {r : Rs α} {P : α → Mu → Prop} : Ok (noex r) P ↔ Ok r P := by
  cases r <;> exact Iff.rfl
theorem ok_iff {α : Type} {r : Rs α} {P : α → Mu → Prop} : Ok r P ↔ ∃ a μ, r = .ok a μ ∧ P a μ := by
  cases r with
  | ok a μ => exact ⟨fun h => ⟨a, μ, rfl, h⟩, fun ⟨b, ν, e, h⟩ => by cases e; exact h⟩
  | ex x μ => exact ⟨fun h => h.elim, fun ⟨_, _, e, _⟩ => nomatch e⟩
  | bad => exact ⟨fun h => h.elim, fun ⟨_, _, e, _⟩ => nomatch e⟩
theorem bind_ok {α β : Type} {a : α} {μ : Mu} {k : α → Mu → Rs β} : (Rs.ok a μ).bind k = k a μ := rfl
/-- a def's value -/
def Wp (o : Option (D × Mu)) (P : D → Mu → Prop) : Prop := ∃ d μ, o = some (d, μ) ∧ P d μ
theorem Wp.mono {o : Option (D × Mu)} {P P' : D → Mu → Prop} (h : Wp o P) (hp : ∀ d μ, P d μ → P' d μ) : Wp o P' := let ⟨d, μ, e, p⟩ := h; ⟨d, μ, e, hp d μ p⟩
theorem wp_run {n : Nat} {b : MS} {ds : List D} {μ : Mu} {P : D → Mu → Prop} (h : Ok (b (ds.map some ++ List.replicate (n - ds.length) none) μ) fun r μ' => match r.1 with | .rt d => P d μ' | .nx => P .non μ' | _ => False) : Wp (runDef n b ds μ) P := by
  obtain ⟨⟨f, ρ⟩, μ', e, p⟩ := ok_iff.mp h
  unfold runDef
  rw [e]
  cases f with
  | rt d => exact ⟨d, μ', rfl, p⟩
  | nx => exact ⟨.non, μ', rfl, p⟩
  | bk => exact p.elim
  | ct => exact p.elim
theorem ok_call {f : MFn} {t : MA} {ρ : En} {μ : Mu} {P : D → Mu → Prop} (h : Ok (t ρ μ) fun ds μ1 => Wp (f ds μ1) P) : Ok (mCall f t ρ μ) P := by
  unfold mCall
  refine ok_bind.mpr (ok_mono h fun ds μ1 ⟨d, μ2, e, p⟩ => ?_)
  rw [e]
  exact p
theorem ok_callK {f : MFn} {ix : List Nat} {t : MA} {ρ : En} {μ : Mu} {P : D → Mu → Prop} (h : Ok (t ρ μ) fun ds μ1 => ds.length = ix.length ∧ Wp (f (permD ix ds) μ1) P) : Ok (mCallK f ix t ρ μ) P := by
  unfold mCallK
  refine ok_bind.mpr (ok_mono h fun ds μ1 ⟨l, d, μ2, e, p⟩ => ?_)
  rw [if_pos l, e]
  exact p
theorem ok_callW {f : MFn} {t : MA} {ρ : En} {μ : Mu} {P : D → Mu → Prop} : Ok (mCall f t ρ μ) P ↔ Ok (t ρ μ) fun ds μ1 => Wp (f ds μ1) P := by
  refine ⟨fun h => ?_, ok_call⟩
  unfold mCall at h
  refine ok_mono (ok_bind.mp h) fun ds μ1 q => ?_
  cases e : f ds μ1 with
  | none => rw [e] at q; exact q.elim
  | some r =>
    obtain ⟨d, μ2⟩ := r
    rw [e] at q
    exact ⟨d, μ2, rfl, q⟩
theorem ok_callKW {f : MFn} {ix : List Nat} {t : MA} {ρ : En} {μ : Mu} {P : D → Mu → Prop} : Ok (mCallK f ix t ρ μ) P ↔ Ok (t ρ μ) fun ds μ1 => ds.length = ix.length ∧ Wp (f (permD ix ds) μ1) P := by
  refine ⟨fun h => ?_, ok_callK⟩
  unfold mCallK at h
  refine ok_mono (ok_bind.mp h) fun ds μ1 q => ?_
  split at q
  · rename_i hl
    refine ⟨hl, ?_⟩
    cases e : f (permD ix ds) μ1 with
    | none => rw [e] at q; exact q.elim
    | some r =>
      obtain ⟨d, μ2⟩ := r
      rw [e] at q
      exact ⟨d, μ2, rfl, q⟩
  · exact q.elim
/-! the combinators, as what must hold -/
section
variable {ρ : En} {μ : Mu}
theorem ok_var {i : Nat} {d : D} {P : D → Mu → Prop} (h : ρ[i]? = some (some d)) (p : P d μ) : Ok (mVar i ρ μ) P := by
  unfold mVar
  rw [h]
  exact p
theorem ok_seq {a b : MS} {P : Fl × En → Mu → Prop} (h : Ok (a ρ μ) fun r μ1 => match r.1 with | .nx => Ok (b r.2 μ1) P | .bk => P (.bk, r.2) μ1 | .ct => P (.ct, r.2) μ1 | .rt d => P (.rt d, r.2) μ1) : Ok (mSeq a b ρ μ) P := by
  unfold mSeq
  refine ok_bind.mpr (ok_mono h fun r μ1 q => ?_)
  obtain ⟨f, ρ1⟩ := r
  cases f <;> exact q
theorem ok_set {t : ME} {P : D → Mu → Prop} (h : Ok (t ρ μ) fun d μ1 => Ok (settle d μ1) P) : Ok (mSet t ρ μ) P := ok_bind.mpr h
theorem ok_asg {i : Nat} {t : ME} {P : Fl × En → Mu → Prop} (h : Ok (mSet t ρ μ) fun d μ1 => P (.nx, ρ.set i (some d)) μ1) : Ok (mAsg i t ρ μ) P := ok_bind.mpr h
theorem ok_ret {t : ME} {P : Fl × En → Mu → Prop} (h : Ok (mSet t ρ μ) fun d μ1 => P (.rt d, ρ) μ1) : Ok (mRet t ρ μ) P := ok_bind.mpr h
theorem ok_if {c : MT} {a b : MS} {P : Fl × En → Mu → Prop} (h : Ok (c ρ μ) fun k μ1 => if k = true then Ok (a ρ μ1) P else Ok (b ρ μ1) P) : Ok (mIfS c a b ρ μ) P := by
  unfold mIfS
  refine ok_bind.mpr (ok_mono h fun k μ1 q => ?_)
  cases k <;> exact q
end

/-! ## loops -/
theorem forD_ok {g : MG} {body : MS} {own : Option Nat} {all : List D} {ρ : En} {μ : Mu} {P : Fl × En → Mu → Prop} (I : Nat → En → Mu → Prop) (h0 : I 0 ρ μ) (ho : ∀ i ρ μ, I i ρ μ → ownB own all μ = true)
    (hs : ∀ (i : Nat) (x : D) (ρ : En) (μ : Mu), all[i]? = some x → I i ρ μ → Ok (g x ρ μ) fun ρ1 μ1 => Ok (body ρ1 μ1) fun r μ2 => match r.1 with | .nx => I (i + 1) r.2 μ2 | .ct => I (i + 1) r.2 μ2 | .bk => P (.nx, r.2) μ2 | .rt d => P (.rt d, r.2) μ2)
    (he : ∀ ρ μ, I all.length ρ μ → P (.nx, ρ) μ) : Ok (forD g body own all all ρ μ) P := by
  have go : ∀ (k i : Nat) (ρ : En) (μ : Mu), k = all.length - i → i ≤ all.length → I i ρ μ → Ok (forD g body own all (all.drop i) ρ μ) P := by
    intro k
    induction k with
    | zero =>
      intro i ρ μ hk hi h
      have e : i = all.length := by omega
      subst e
      rw [List.drop_length]
      unfold forD
      rw [if_pos (ho _ _ _ h)]
      exact he _ _ h
    | succ k ih =>
      intro i ρ μ hk hi h
      have hlt : i < all.length := by omega
      rw [List.drop_eq_getElem_cons hlt]
      unfold forD
      rw [if_pos (ho _ _ _ h)]
      refine ok_bind.mpr (ok_mono (hs i _ ρ μ (List.getElem?_eq_getElem hlt) h) fun ρ1 μ1 q => ok_bind.mpr (ok_mono q fun r μ2 q2 => ?_))
      obtain ⟨f, ρ2⟩ := r
      cases f with
      | nx => exact ih (i + 1) ρ2 μ2 (by omega) hlt q2
      | ct => exact ih (i + 1) ρ2 μ2 (by omega) hlt q2
      | bk => exact q2
      | rt d => exact q2
  have := go all.length 0 ρ μ (by omega) (Nat.zero_le _) h0
  rwa [List.drop_zero] at this
theorem lcD_ok {g : MG} {tt : MT} {te : ME} {vs : List Nat} {own : Option Nat} {all : List D} {ρ : En} {μ : Mu} {P : List D → Mu → Prop} (hz : all.length ≤ PySem.sizeLine) (I : Nat → List D → Mu → Prop) (h0 : I 0 [] μ) (ho : ∀ i acc μ, I i acc μ → ownB own all μ = true)
    (hs : ∀ (i : Nat) (x : D) (acc : List D) (μ : Mu), all[i]? = some x → acc.length ≤ i → I i acc μ → Ok (g x (wipeD ρ vs) μ) fun ρ1 μ1 => Ok (tt ρ1 μ1) fun b μ2 => if b = true then Ok (mSet te ρ1 μ2) fun y μ3 => I (i + 1) (acc ++ [y]) μ3 else I (i + 1) acc μ2)
    (he : ∀ acc μ, acc.length ≤ all.length → I all.length acc μ → P acc μ) : Ok (lcD g tt te vs own all ρ all [] μ) P := by
  have go : ∀ (k i : Nat) (acc : List D) (μ : Mu), k = all.length - i → i ≤ all.length → acc.length ≤ i → I i acc μ → Ok (lcD g tt te vs own all ρ (all.drop i) acc μ) P := by
    intro k
    induction k with
    | zero =>
      intro i acc μ hk hi ha h
      have e : i = all.length := by omega
      subst e
      rw [List.drop_length]
      unfold lcD
      rw [if_pos (ho _ _ _ h)]
      exact he _ _ ha h
    | succ k ih =>
      intro i acc μ hk hi ha h
      have hlt : i < all.length := by omega
      rw [List.drop_eq_getElem_cons hlt]
      unfold lcD
      rw [if_pos (ho _ _ _ h)]
      refine ok_bind.mpr (ok_noex.mpr (ok_mono (hs i _ acc μ (List.getElem?_eq_getElem hlt) ha h) fun ρ1 μ1 q => ok_bind.mpr (ok_noex.mpr (ok_mono q fun b μ2 q2 => ?_))))
      cases b with
      | false => exact ih (i + 1) acc μ2 (by omega) hlt (by omega) q2
      | true =>
        refine ok_bind.mpr (ok_noex.mpr (ok_mono q2 fun y μ3 q3 => ?_))
        rw [if_pos (show acc.length < PySem.sizeLine by omega)]
        exact ih (i + 1) (acc ++ [y]) μ3 (by omega) hlt (by rw [List.length_append]; simp; omega) q3
  have := go all.length 0 [] μ (by omega) (Nat.zero_le _) (Nat.le_refl _) h0
  rwa [List.drop_zero] at this
theorem whileD_ok {c : MT} {body : MS} {P : Fl × En → Mu → Prop} (I : Nat → En → Mu → Prop)
    (hs : ∀ (n : Nat) (ρ : En) (μ : Mu), I n ρ μ → Ok (c ρ μ) fun b μ1 => if b = true then Ok (body ρ μ1) fun r μ2 => match r.1 with | .nx => ∃ k, k < n ∧ I k r.2 μ2 | .ct => ∃ k, k < n ∧ I k r.2 μ2 | .bk => P (.nx, r.2) μ2 | .rt d => P (.rt d, r.2) μ2 else P (.nx, ρ) μ1) :
    ∀ (fuel n : Nat) (ρ : En) (μ : Mu), n < fuel → I n ρ μ → Ok (whileD c body fuel ρ μ) P := by
  intro fuel
  induction fuel with
  | zero => intro n ρ μ h; omega
  | succ fuel ih =>
    intro n ρ μ h hi
    unfold whileD
    refine ok_bind.mpr (ok_mono (hs n ρ μ hi) fun b μ1 q => ?_)
    cases b with
    | false => exact q
    | true =>
      refine ok_bind.mpr (ok_mono q fun r μ2 q2 => ?_)
      obtain ⟨f, ρ2⟩ := r
      cases f with
      | nx => obtain ⟨k, hk, i2⟩ := q2; exact ih k ρ2 μ2 (by omega) i2
      | ct => obtain ⟨k, hk, i2⟩ := q2; exact ih k ρ2 μ2 (by omega) i2
      | bk => exact q2
      | rt d => exact q2
theorem while_ok {c : MT} {body : MS} {ρ : En} {μ : Mu} {P : Fl × En → Mu → Prop} (I : Nat → En → Mu → Prop) (n : Nat) (hn : n < 2 ^ 4000) (h0 : I n ρ μ)
    (hs : ∀ (n : Nat) (ρ : En) (μ : Mu), I n ρ μ → Ok (c ρ μ) fun b μ1 => if b = true then Ok (body ρ μ1) fun r μ2 => match r.1 with | .nx => ∃ k, k < n ∧ I k r.2 μ2 | .ct => ∃ k, k < n ∧ I k r.2 μ2 | .bk => P (.nx, r.2) μ2 | .rt d => P (.rt d, r.2) μ2 else P (.nx, ρ) μ1) : Ok (mWhile c body ρ μ) P := by
  unfold mWhile
  refine whileD_ok I hs FUEL n ρ μ ?_ h0
  unfold FUEL
  exact hn
theorem for_ok {src : MI} {g : MG} {body : MS} {ρ : En} {μ : Mu} {P : Fl × En → Mu → Prop} (h : Ok (src ρ μ) fun S μ1 => Ok (forD g body S.own S.items S.items ρ μ1) P) : Ok (mFor src g body ρ μ) P := ok_bind.mpr h
theorem lc_run {src : MI} {g : MG} {tt : MT} {te : ME} {vs : List Nat} {ρ : En} {μ : Mu} {P : D → Mu → Prop} (h : Ok (src ρ μ) fun S μ1 => Ok (lcD g tt te vs S.own S.items ρ S.items [] μ1) fun acc μ2 => P (.new acc) μ2) : Ok (mLc src g tt te vs ρ μ) P := by
  unfold mLc
  refine ok_bind.mpr (ok_mono h fun S μ1 q => ok_bind.mpr (ok_mono q fun acc μ2 p => p))

/-! ## the store grows -/
def Pre (μ μ' : Mu) : Prop := ∃ t, μ' = μ ++ t
theorem Pre.refl (μ : Mu) : Pre μ μ := ⟨[], by simp⟩
theorem Pre.trans {a b c : Mu} (h : Pre a b) (g : Pre b c) : Pre a c := by
  obtain ⟨t, rfl⟩ := h
  obtain ⟨u, rfl⟩ := g
  exact ⟨t ++ u, by rw [List.append_assoc]⟩
theorem Pre.get {a b : Mu} (h : Pre a b) {n : Nat} {o : O} (e : a[n]? = some o) : b[n]? = some o := by
  obtain ⟨t, rfl⟩ := h
  rw [List.getElem?_append_left (List.getElem?_eq_some_iff.mp e).1]
  exact e
theorem Pre.add {a b : Mu} (h : Pre a b) (t : Mu) : Pre a (b ++ t) := h.trans ⟨t, rfl⟩
theorem Pre.len {a b : Mu} (h : Pre a b) : a.length ≤ b.length := by
  obtain ⟨t, rfl⟩ := h
  simp
/-- an entry behind is written -/
theorem Pre.set {a b : Mu} (h : Pre a b) {n : Nat} (hn : a.length ≤ n) (o : O) : Pre a (b.set n o) := by
  obtain ⟨t, rfl⟩ := h
  exact ⟨t.set (n - a.length) o, by rw [List.set_append_right _ _ hn]⟩
theorem get_last {μ : Mu} {o : O} : (μ ++ [o])[μ.length]? = some o := by
  rw [List.getElem?_append_right (Nat.le_refl _)]
  simp
end M

namespace M
open L2
/-! ## values of the operations, for simp -/
section
variable {μ : Mu} {i j : Int} {xs ys : List D} {n m : Nat}
theorem e_add : oAdd (.int i) (.int j) μ = .ok (.int (i + j)) μ := rfl
theorem e_addT : oAdd (.tup xs) (.tup ys) μ = if xs.length + ys.length ≤ PySem.sizeLine then .ok (.tup (xs ++ ys)) μ else .bad := rfl
theorem e_sub : oSub (.int i) (.int j) μ = .ok (.int (i - j)) μ := rfl
theorem e_lt : oLt (.int i) (.int j) μ = .ok (.bl (decide (i < j))) μ := rfl
theorem e_le : oLe (.int i) (.int j) μ = .ok (.bl (decide (i ≤ j))) μ := rfl
theorem e_gt : oGt (.int i) (.int j) μ = .ok (.bl (decide (j < i))) μ := rfl
theorem e_ge : oGe (.int i) (.int j) μ = .ok (.bl (decide (j ≤ i))) μ := rfl
theorem e_eq : oEq (.int i) (.int j) μ = .ok (.bl (decide (i = j))) μ := by simp [oEq, eqC]
theorem e_ne : oNe (.int i) (.int j) μ = .ok (.bl (!decide (i = j))) μ := by simp [oNe, eqC]
theorem e_eqS {x y : PySem.Str} : oEq (.str x) (.str y) μ = .ok (.bl (decide (x = y))) μ := by simp [oEq, eqC]
theorem e_neS {x y : PySem.Str} : oNe (.str x) (.str y) μ = .ok (.bl (!decide (x = y))) μ := by simp [oNe, eqC]
theorem oIx_tup {d : D} (h : atI xs i = some d) : oIx (.tup xs) (.int i) μ = .ok d μ := by simp only [oIx, cont, h]
theorem oIx_sls {d : D} (h : atI xs i = some d) : oIx (.sls xs) (.int i) μ = .ok d μ := by simp only [oIx, cont, h]
theorem oIx_new {d : D} (h : atI xs i = some d) : oIx (.new xs) (.int i) μ = .ok d μ := by simp only [oIx, cont, h]
theorem oIx_ref {d : D} (h0 : μ[n]? = some (.lst xs)) (h : atI xs i = some d) : oIx (.ref n) (.int i) μ = .ok d μ := by simp only [oIx, cont, h0, h]
theorem atI_get' {α : Type} {xs : List α} {i : Nat} {d : α} (h : xs[i]? = some d) : atI xs (i : Int) = some d := by
  have hi := (List.getElem?_eq_some_iff.mp h).1
  unfold atI ixN
  rw [if_pos (by omega), if_pos (by omega)]
  simpa using h
theorem log2_lt {j : Int} (h0 : 0 < j) (h : j < 2 ^ 8000) : j.natAbs.log2 < 9000 := by
  have : j.natAbs < 2 ^ 8000 := by omega
  have := (Nat.log2_lt (n := j.natAbs) (k := 8000) (by omega)).mpr this
  omega
theorem oFdiv_ok (h0 : 0 < j) (h : j < 2 ^ 8000) : oFdiv (.int i) (.int j) μ = .ok (.int (i / j)) μ := by
  simp only [oFdiv, oInt]
  rw [if_pos ⟨h0, log2_lt h0 h⟩]
theorem oMod_ok (h0 : 0 < j) : oMod (.int i) (.int j) μ = .ok (.int (i % j)) μ := by
  simp only [oMod, oInt]
  rw [if_pos h0]
theorem oMul_ok (h : MulOk i j) : oMul' (.int i) (.int j) μ = .ok (.int (i * j)) μ := by
  have : oMul' (.int i) (.int j) μ = oMul (.int i) (.int j) μ := rfl
  rw [this]
  simp only [oMul]
  rw [if_pos (mulB_iff.mpr h)]
theorem mulR (h1 : -(2 ^ 64) < j) (h2 : j < 2 ^ 64) : MulOk i j := .inl (.inr ⟨h1, h2⟩)
theorem mulL (h1 : -(2 ^ 64) < i) (h2 : i < 2 ^ 64) : MulOk i j := .inl (.inl ⟨h1, h2⟩)
theorem e_mulT (h0 : xs ≠ []) (h1 : 2 ≤ i) (h2 : i ≤ 1000) (h3 : xs.length ≤ 1000) : oMul' (.tup xs) (.int i) μ = .ok (.tup (List.replicate i.toNat xs).flatten) μ := by
  have e : oMul' (.tup xs) (.int i) μ = oMul (.tup xs) (.int i) μ := by
    unfold oMul'
    split
    · rename_i h
      cases h
      omega
    · rfl
  rw [e]
  simp only [oMul]
  rw [if_pos ⟨h0, h1, h2, h3⟩]
theorem e_mulT1 : oMul' (.tup xs) (.int 1) μ = .ok (.tup xs) μ := rfl
theorem e_int : fInt [.int i] μ = .ok (.int i) μ := rfl
theorem e_lenT : fLen [.tup xs] μ = .ok (.int xs.length) μ := rfl
theorem e_lenL : fLen [.sls xs] μ = .ok (.int xs.length) μ := rfl
theorem e_lenN : fLen [.new xs] μ = .ok (.int xs.length) μ := rfl
theorem e_lenR (h : μ[n]? = some (.lst xs)) : fLen [.ref n] μ = .ok (.int xs.length) μ := by simp only [fLen, cont, h]
theorem e_tupT : fTuple [.tup xs] μ = .ok (.tup xs) μ := rfl
theorem e_tupN : fTuple [.new xs] μ = .ok (.tup xs) μ := rfl
theorem e_tupR (h : μ[n]? = some (.lst xs)) : fTuple [.ref n] μ = .ok (.tup xs) μ := by simp only [fTuple, contL, cont, h]
theorem e_listT : fList [.tup xs] μ = .ok (.new xs) μ := rfl
theorem e_listN : fList [.new xs] μ = .ok (.new xs) μ := rfl
theorem e_listR (h : μ[n]? = some (.lst xs)) : fList [.ref n] μ = .ok (.new xs) μ := by simp only [fList, cont, h]
theorem e_max2 : fMax [.int i, .int j] μ = .ok (.int (if j > i then j else i)) μ := rfl
theorem e_min2 : fMin [.int i, .int j] μ = .ok (.int (if j < i then j else i)) μ := rfl
theorem e_gcd {a b : Nat} : fGcd [.int a, .int b] μ = .ok (.int (Nat.gcd a b : Nat)) μ := rfl
theorem settle_int : settle (.int i) μ = .ok (.int i) μ := rfl
theorem settle_bl {b : Bool} : settle (.bl b) μ = .ok (.bl b) μ := rfl
theorem settle_tup : settle (.tup xs) μ = .ok (.tup xs) μ := rfl
theorem settle_ref : settle (.ref n) μ = .ok (.ref n) μ := rfl
theorem settle_non : settle .non μ = .ok .non μ := rfl
theorem settle_str {x : PySem.Str} : settle (.str x) μ = .ok (.str x) μ := rfl
theorem settle_sls : settle (.sls xs) μ = .ok (.sls xs) μ := rfl
theorem settle_new : settle (.new xs) μ = .ok (.ref μ.length) (μ ++ [.lst xs]) := rfl
theorem srcOf_tup : srcOf (.tup xs) μ = .ok ⟨xs, none⟩ μ := rfl
theorem srcOf_sls : srcOf (.sls xs) μ = .ok ⟨xs, none⟩ μ := rfl
theorem srcOf_new : srcOf (.new xs) μ = .ok ⟨xs, none⟩ μ := rfl
theorem srcOf_ref (h : μ[n]? = some (.lst xs)) : srcOf (.ref n) μ = .ok ⟨xs, some n⟩ μ := by simp only [srcOf, h]
theorem own_none : ownB none xs μ = true := rfl
theorem lstAt_ref (h : μ[n]? = some (.lst xs)) : lstAt (.ref n) μ = some (n, xs) := by simp only [lstAt, h]
theorem dicAt_ref {kvs : List (Key × D)} (h : μ[n]? = some (.dic kvs)) : dicAt (.ref n) μ = some (n, kvs) := by simp only [dicAt, h]
theorem szl_small {n : Nat} (h : n ≤ 64) : (n ≤ PySem.sizeLine) = True := by
  rw [PySem.sizeLine_eq]
  exact eq_true (by omega)
theorem szl {n : Nat} (h : n ≤ 16777216) : n ≤ PySem.sizeLine := by
  rw [PySem.sizeLine_eq]
  exact h
/-! lists of whole numbers are compared with empty ones -/
theorem toP_int (k : Nat) (i : Int) : toP μ (k + 1) (.int i) = some (.int i) := rfl
theorem toP_bl (k : Nat) (b : Bool) : toP μ (k + 1) (.bl b) = some (.bool b) := rfl
theorem toP_non (k : Nat) : toP μ (k + 1) .non = some .none := rfl
theorem toP_tup (k : Nat) (ds : List D) : toP μ (k + 1) (.tup ds) = (mapO (toP μ k) ds).map .tuple := rfl
theorem toP_new (k : Nat) (ds : List D) : toP μ (k + 1) (.new ds) = (mapO (toP μ k) ds).map .list := rfl
theorem toP_ref (k : Nat) {ds : List D} (h : μ[n]? = some (.lst ds)) : toP μ (k + 1) (.ref n) = (mapO (toP μ k) ds).map .list := by
  show (match μ[n]? with | some (O.lst ds) => (mapO (toP μ k) ds).map PySem.PyData.list | _ => none) = _
  rw [h]
theorem toP_ints (k : Nat) (ns : List Int) : mapO (toP μ (k + 1)) (ns.map D.int) = some (ns.map PySem.PyData.int) := by
  induction ns with
  | nil => rfl
  | cons a r ih => simp only [List.map_cons, mapO, ih, toP_int]
theorem shaped_ints (ns : List Int) : PySem.SeqAt.shaped (.list (ns.map PySem.PyData.int)) = true ∧ PySem.SeqAt.shaped (.tuple (ns.map PySem.PyData.int)) = true := by
  have h1 : PySem.PyData.canLayAll0 (ns.map PySem.PyData.int) = true := by
    induction ns with
    | nil => rfl
    | cons a r ih => simp only [List.map_cons, PySem.PyData.canLayAll0, PySem.PyData.canLay0, ih, Bool.and_self]
  have h2 : PySem.PyData.depthAll (ns.map PySem.PyData.int) ≤ 1 := by
    clear h1
    induction ns with
    | nil => simp [PySem.PyData.depthAll]
    | cons a r ih => simp only [List.map_cons, PySem.PyData.depthAll, PySem.PyData.depth]; omega
  unfold PySem.SeqAt.shaped
  simp only [PySem.PyData.canLay0, h1, PySem.PyData.depth, Bool.true_and, decide_eq_true_eq]
  exact ⟨decide_eq_true (by omega), decide_eq_true (by omega)⟩
theorem eqv_nil (ps : List PySem.PyData) : PySem.PyData.eqvAll ps [] = ps.isEmpty := by cases ps <;> simp [PySem.PyData.eqvAll]
theorem e_neR {ns : List Int} (h : μ[n]? = some (.lst (ns.map D.int))) : oNe (.ref n) (.new []) μ = .ok (.bl (!ns.isEmpty)) μ := by
  have e1 : toP μ 12 (.ref n) = some (.list (ns.map PySem.PyData.int)) := (toP_ref 11 h).trans (by rw [toP_ints 10]; rfl)
  have e2 : toP μ 12 (.new []) = some (.list []) := rfl
  have e3 : eqC true (.ref n) (.new []) μ = (match toP μ 12 (.ref n), toP μ 12 (.new []) with
    | some p, some r => if PySem.SeqAt.shaped p = true ∧ PySem.SeqAt.shaped r = true then .ok (.bl (if true then !PySem.PyData.eqv p r else PySem.PyData.eqv p r)) μ else .bad
    | _, _ => .bad) := rfl
  show eqC true (.ref n) (.new []) μ = _
  rw [e3, e1, e2]
  simp only
  rw [if_pos ⟨(shaped_ints ns).1, (shaped_ints []).1⟩]
  simp only [PySem.PyData.eqv, eqv_nil, if_true, List.isEmpty_map]
theorem e_neT {ns : List Int} : oNe (.tup (ns.map D.int)) (.tup []) μ = .ok (.bl (!ns.isEmpty)) μ := by
  have e1 : toP μ 12 (.tup (ns.map D.int)) = some (.tuple (ns.map PySem.PyData.int)) := (toP_tup 11 _).trans (by rw [toP_ints 10]; rfl)
  have e2 : toP μ 12 (.tup []) = some (.tuple []) := rfl
  have e3 : eqC true (.tup (ns.map D.int)) (.tup []) μ = (match toP μ 12 (.tup (ns.map D.int)), toP μ 12 (.tup []) with
    | some p, some r => if PySem.SeqAt.shaped p = true ∧ PySem.SeqAt.shaped r = true then .ok (.bl (if true then !PySem.PyData.eqv p r else PySem.PyData.eqv p r)) μ else .bad
    | _, _ => .bad) := rfl
  show eqC true (.tup (ns.map D.int)) (.tup []) μ = _
  rw [e3, e1, e2]
  simp only
  rw [if_pos ⟨(shaped_ints ns).2, (shaped_ints []).2⟩]
  simp only [PySem.PyData.eqv, eqv_nil, if_true, List.isEmpty_map]
theorem e_eqNewNil {ns : List Int} : oEq (.new (ns.map D.int)) (.new []) μ = .ok (.bl ns.isEmpty) μ := by
  have e1 : toP μ 12 (.new (ns.map D.int)) = some (.list (ns.map PySem.PyData.int)) := (toP_new 11 _).trans (by rw [toP_ints 10]; rfl)
  have e2 : toP μ 12 (.new []) = some (.list []) := rfl
  have e3 : eqC false (.new (ns.map D.int)) (.new []) μ = (match toP μ 12 (.new (ns.map D.int)), toP μ 12 (.new []) with
    | some p, some r => if PySem.SeqAt.shaped p = true ∧ PySem.SeqAt.shaped r = true then .ok (.bl (if false then !PySem.PyData.eqv p r else PySem.PyData.eqv p r)) μ else .bad
    | _, _ => .bad) := rfl
  show eqC false (.new (ns.map D.int)) (.new []) μ = _
  rw [e3, e1, e2]
  simp only
  rw [if_pos ⟨(shaped_ints ns).1, (shaped_ints []).1⟩]
  simp [PySem.PyData.eqv, eqv_nil]
end
/-! ranges -/
def Sm (j : Int) : Prop := -(2 ^ 62) ≤ j ∧ j < 2 ^ 62
theorem sm_by {j : Int} (h1 : -4611686018427387904 ≤ j) (h2 : j < 4611686018427387904) : Sm j := ⟨h1, h2⟩
def rg1 (d : D) (Q : Int → Prop) : Prop := match d with
  | .int j => Sm j ∧ Q j
  | _ => False
def rg2 (d e : D) (Q : Int → Int → Prop) : Prop := match d, e with
  | .int i, .int j => Sm i ∧ Sm j ∧ Q i j
  | _, _ => False
theorem rg1_int {j : Int} {Q : Int → Prop} : rg1 (.int j) Q ↔ Sm j ∧ Q j := Iff.rfl
theorem rg2_int {i j : Int} {Q : Int → Int → Prop} : rg2 (.int i) (.int j) Q ↔ Sm i ∧ Sm j ∧ Q i j := Iff.rfl
theorem ok_rng1 {t : ME} {ρ : En} {μ : Mu} {P : Src → Mu → Prop} : Ok (mRng1 t ρ μ) P ↔ Ok (t ρ μ) fun d μ1 => rg1 d fun j => P ⟨rngD 0 j.toNat, none⟩ μ1 := by
  unfold mRng1
  rw [ok_bind]
  refine ⟨fun h => ok_mono h fun d μ1 q => ?_, fun h => ok_mono h fun d μ1 q => ?_⟩
  · cases d with
    | int j =>
      simp only at q
      split at q
      · rename_i hj
        exact ⟨smB_iff.mp hj, q⟩
      · exact q.elim
    | _ => exact q.elim
  · cases d with
    | int j =>
      obtain ⟨a, b⟩ := q
      simp only
      rw [if_pos (smB_iff.mpr a)]
      exact b
    | _ => exact q.elim
theorem ok_rng2 {t u : ME} {ρ : En} {μ : Mu} {P : Src → Mu → Prop} : Ok (mRng2 t u ρ μ) P ↔ Ok (t ρ μ) fun d μ1 => Ok (u ρ μ1) fun e μ2 => rg2 d e fun i j => P ⟨rngD i (j - i).toNat, none⟩ μ2 := by
  unfold mRng2
  rw [ok_bind]
  simp only [ok_bind]
  refine ⟨fun h => ok_mono h fun d μ1 q => ok_mono q fun e μ2 q => ?_, fun h => ok_mono h fun d μ1 q => ok_mono q fun e μ2 q => ?_⟩
  · cases d with
    | int i =>
      cases e with
      | int j =>
        simp only at q
        split at q
        · rename_i hj
          exact ⟨smB_iff.mp hj.1, smB_iff.mp hj.2, q⟩
        · exact q.elim
      | _ => exact q.elim
    | _ => exact q.elim
  · cases d with
    | int i =>
      cases e with
      | int j =>
        obtain ⟨a, b, c⟩ := q
        simp only
        rw [if_pos ⟨smB_iff.mpr a, smB_iff.mpr b⟩]
        exact c
      | _ => exact q.elim
    | _ => exact q.elim
theorem e_addRN {μ : Mu} {n : Nat} {xs ys : List D} (h : μ[n]? = some (.lst xs)) (hz : xs.length + ys.length ≤ 16777216) : oAdd (.ref n) (.new ys) μ = .ok (.new (xs ++ ys)) μ := by
  simp only [oAdd, contM, h]
  rw [if_pos (szl hz)]
theorem e_addNN {μ : Mu} {xs ys : List D} (hz : xs.length + ys.length ≤ 16777216) : oAdd (.new xs) (.new ys) μ = .ok (.new (xs ++ ys)) μ := by
  simp only [oAdd, contM]
  rw [if_pos (szl hz)]
theorem e_addTT {μ : Mu} {xs ys : List D} (hz : xs.length + ys.length ≤ 16777216) : oAdd (.tup xs) (.tup ys) μ = .ok (.tup (xs ++ ys)) μ := by
  simp only [oAdd]
  rw [if_pos (szl hz)]
theorem szlt {n : Nat} (h : n < 16777216) : n < PySem.sizeLine := by
  rw [PySem.sizeLine_eq]
  exact h
theorem e_app {μ : Mu} {n : Nat} {ds : List D} {x : D} (hx : ∀ xs, x ≠ .new xs) (hz : ds.length < 16777216) : fAppend n ds x μ = .ok .non (μ.set n (.lst (ds ++ [x]))) := by
  unfold fAppend
  split
  · exact absurd rfl (hx _)
  · rw [if_pos (szlt hz)]
theorem asI_ints (ns : List Int) : asI (ns.map D.int) = some ns := by
  induction ns with
  | nil => rfl
  | cons a r ih =>
    show (asI (r.map D.int)).map _ = _
    rw [ih]
    rfl
theorem e_minR {μ : Mu} {n : Nat} {ns : List Int} (h : μ[n]? = some (.lst (ns.map D.int))) (h0 : ns ≠ []) : fMin [.ref n] μ = .ok (.int (minI ns)) μ := by
  simp only [fMin, intsL, contL, cont, h, Option.bind_some, asI_ints]
  rw [if_pos h0]
end M

/-! plain mathematics of spans: least common multiples of sublists -/
namespace LP
def lcmN : List Nat → Nat
  | [] => 1
  | m :: r => Nat.lcm m (lcmN r)
theorem lcm_pos' {a b : Nat} (ha : 0 < a) (hb : 0 < b) : 0 < Nat.lcm a b := Nat.lcm_pos ha hb
def Pos (ms : List Nat) : Prop := ∀ m ∈ ms, 0 < m
theorem lcmN_pos : ∀ {ms : List Nat}, Pos ms → 0 < lcmN ms
  | [], _ => Nat.one_pos
  | m :: r, h => Nat.lcm_pos (h m List.mem_cons_self) (lcmN_pos fun x hx => h x (List.mem_cons_of_mem _ hx))
theorem Pos.sub {s ms : List Nat} (h : Pos ms) (g : s.Sublist ms) : Pos s := fun m hm => h m (g.subset hm)
theorem dvd_lcmN : ∀ {ms : List Nat} {m : Nat}, m ∈ ms → m ∣ lcmN ms
  | a :: r, m, h => by
    rcases List.mem_cons.mp h with rfl | h
    · exact Nat.dvd_lcm_left _ _
    · exact Nat.dvd_trans (dvd_lcmN h) (Nat.dvd_lcm_right _ _)
theorem lcmN_dvd : ∀ {ms : List Nat} {n : Nat}, (∀ m ∈ ms, m ∣ n) → lcmN ms ∣ n
  | [], n, _ => Nat.one_dvd n
  | a :: r, n, h => Nat.lcm_dvd (h a List.mem_cons_self) (lcmN_dvd fun m hm => h m (List.mem_cons_of_mem _ hm))
theorem lcmN_mono {s t : List Nat} (h : ∀ m ∈ s, ∃ k ∈ t, m ∣ k) : lcmN s ∣ lcmN t := lcmN_dvd fun m hm => let ⟨k, hk, d⟩ := h m hm; Nat.dvd_trans d (dvd_lcmN hk)
theorem lcmN_sub {s t : List Nat} (h : ∀ m ∈ s, m ∈ t) : lcmN s ∣ lcmN t := lcmN_mono fun m hm => ⟨m, h m hm, Nat.dvd_refl m⟩
theorem lcmN_same {s t : List Nat} (h : ∀ m, m ∈ s ↔ m ∈ t) : lcmN s = lcmN t := Nat.dvd_antisymm (lcmN_sub fun m hm => (h m).mp hm) (lcmN_sub fun m hm => (h m).mpr hm)
theorem lcmN_le {s t : List Nat} (ht : Pos t) (h : ∀ m ∈ s, ∃ k ∈ t, m ∣ k) : lcmN s ≤ lcmN t := Nat.le_of_dvd (lcmN_pos ht) (lcmN_mono h)
/-- the least span of any k lanes -/
structure IsL (ms : List Nat) (k v : Nat) : Prop where
  has : ∃ s : List Nat, s.Sublist ms ∧ s.length = k ∧ lcmN s = v
  least : ∀ s : List Nat, s.Sublist ms → s.length = k → v ≤ lcmN s
theorem IsL.uniq {ms : List Nat} {k v w : Nat} (h : IsL ms k v) (g : IsL ms k w) : v = w := by
  obtain ⟨s, h1, h2, h3⟩ := h.has
  obtain ⟨t, g1, g2, g3⟩ := g.has
  have a := h.least t g1 g2
  have b := g.least s h1 h2
  omega
theorem IsL.zero (ms : List Nat) : IsL ms 0 1 := ⟨⟨[], List.nil_sublist _, rfl, rfl⟩, fun s _ h => by
  have e := List.eq_nil_of_length_eq_zero h
  subst e
  exact Nat.le_refl _⟩
/-- some least one of a row of numbers that is not empty -/
theorem exists_least {P : Nat → Prop} (h : ∃ n, P n) : ∃ n, P n ∧ ∀ k, P k → n ≤ k := by
  obtain ⟨n, hn⟩ := h
  induction n using Nat.strongRecOn with
  | _ n ih =>
    by_cases q : ∃ k, k < n ∧ P k
    · obtain ⟨k, h1, h2⟩ := q
      exact ih k h1 h2
    · exact ⟨n, hn, fun k hk => Nat.le_of_not_lt fun hlt => q ⟨k, hlt, hk⟩⟩
theorem IsL.ex {ms : List Nat} {k : Nat} (h : k ≤ ms.length) : ∃ v, IsL ms k v := by
  obtain ⟨v, ⟨s, h1, h2, h3⟩, h4⟩ := exists_least (P := fun v => ∃ s : List Nat, s.Sublist ms ∧ s.length = k ∧ lcmN s = v) ⟨_, ms.take k, List.take_sublist _ _, by rw [List.length_take]; omega, rfl⟩
  exact ⟨v, ⟨s, h1, h2, h3⟩, fun t g1 g2 => h4 _ ⟨t, g1, g2, rfl⟩⟩
noncomputable def Lf (ms : List Nat) (k : Nat) : Nat := @dite _ (∃ v, IsL ms k v) (Classical.propDecidable _) (fun h => Classical.choose h) fun _ => 1
theorem Lf_is {ms : List Nat} {k : Nat} (h : k ≤ ms.length) : IsL ms k (Lf ms k) := by
  unfold Lf
  have e := IsL.ex h
  rw [dif_pos e]
  exact Classical.choose_spec e
theorem Lf_eq {ms : List Nat} {k v : Nat} (h : IsL ms k v) : Lf ms k = v := by
  obtain ⟨s, h1, h2, _⟩ := h.has
  exact (Lf_is (by have := h1.length_le; omega)).uniq h
theorem Lf_zero (ms : List Nat) : Lf ms 0 = 1 := Lf_eq (IsL.zero ms)
theorem Lf_pos {ms : List Nat} {k : Nat} (hp : Pos ms) (h : k ≤ ms.length) : 1 ≤ Lf ms k := by
  obtain ⟨s, h1, _, h3⟩ := (Lf_is h).has
  rw [← h3]
  exact lcmN_pos (hp.sub h1)
/-- to compare: each k of the one have k of the other that are no more -/
theorem Lf_le {ms ns : List Nat} {k j : Nat} (hj : j ≤ ns.length) (hk : k ≤ ms.length) (h : ∀ s : List Nat, s.Sublist ns → s.length = j → ∃ t : List Nat, t.Sublist ms ∧ t.length = k ∧ lcmN t ≤ lcmN s) : Lf ms k ≤ Lf ns j := by
  obtain ⟨s, h1, h2, h3⟩ := (Lf_is hj).has
  obtain ⟨t, g1, g2, g3⟩ := h s h1 h2
  rw [← h3]
  exact Nat.le_trans ((Lf_is hk).least t g1 g2) g3
theorem Lf_reverse {ms : List Nat} {k : Nat} (h : k ≤ ms.length) : Lf ms.reverse k = Lf ms k := by
  refine Lf_eq ⟨?_, fun s h1 h2 => ?_⟩
  · obtain ⟨s, h1, h2, h3⟩ := (Lf_is h).has
    exact ⟨s.reverse, List.reverse_sublist.mpr h1, by rw [List.length_reverse]; exact h2, by rw [← h3]; exact lcmN_same fun m => List.mem_reverse⟩
  · have := (Lf_is h).least s.reverse (by rw [← List.reverse_reverse (as := ms)]; exact List.reverse_sublist.mpr h1) (by rw [List.length_reverse]; exact h2)
    rwa [show lcmN s.reverse = lcmN s from lcmN_same fun m => List.mem_reverse] at this
/-- one lane less -/
theorem Lf_ins {a b : List Nat} {x k : Nat} (hp : Pos (a ++ x :: b)) (h : k ≤ (a ++ b).length) : Lf (a ++ b) k ≤ Lf (a ++ x :: b) (k + 1) := by
  refine Lf_le (by simp at h ⊢; omega) h fun s h1 h2 => ?_
  obtain ⟨s1, s2, rfl, g1, g2⟩ := List.sublist_append_iff.mp h1
  have hps : Pos (s1 ++ s2) := hp.sub h1
  rcases List.sublist_cons_iff.mp g2 with g3 | ⟨r, rfl, g3⟩
  · refine ⟨(s1 ++ s2).take k, (List.take_sublist _ _).trans (g1.append g3), by rw [List.length_take]; omega, lcmN_le hps fun m hm => ⟨m, List.mem_of_mem_take hm, Nat.dvd_refl m⟩⟩
  · refine ⟨s1 ++ r, g1.append g3, by simp at h2 ⊢; omega, lcmN_le hps fun m hm => ⟨m, ?_, Nat.dvd_refl m⟩⟩
    rcases List.mem_append.mp hm with z | z
    · exact List.mem_append_left _ z
    · exact List.mem_append_right _ (List.mem_cons_of_mem _ z)
/-- multiples in the place of a modulus -/
theorem Lf_mul {a b : List Nat} {x c k : Nat} (hp : Pos (a ++ x * c :: b)) (h : k ≤ (a ++ x :: b).length) : Lf (a ++ x :: b) k ≤ Lf (a ++ x * c :: b) k := by
  refine Lf_le (by simp at h ⊢; omega) h fun s h1 h2 => ?_
  obtain ⟨s1, s2, rfl, g1, g2⟩ := List.sublist_append_iff.mp h1
  have hps : Pos (s1 ++ s2) := hp.sub h1
  rcases List.sublist_cons_iff.mp g2 with g3 | ⟨r, rfl, g3⟩
  · exact ⟨s1 ++ s2, g1.append (g3.trans (List.sublist_cons_self _ _)), h2, Nat.le_refl _⟩
  · refine ⟨s1 ++ x :: r, g1.append (g3.cons_cons _), by simp at h2 ⊢; omega, lcmN_le hps fun m hm => ?_⟩
    rcases List.mem_append.mp hm with z | z
    · exact ⟨m, List.mem_append_left _ z, Nat.dvd_refl m⟩
    · rcases List.mem_cons.mp z with rfl | z
      · exact ⟨m * c, List.mem_append_right _ List.mem_cons_self, Nat.dvd_mul_right _ _⟩
      · exact ⟨m, List.mem_append_right _ (List.mem_cons_of_mem _ z), Nat.dvd_refl m⟩
/-- the one outdoes the other -/
def OD (one other : List Nat) : Prop := ∀ t : Nat, Lf other (other.length - 2 * t) ≤ Lf one (one.length - 2 * t)
theorem OD.refl (ms : List Nat) : OD ms ms := fun _ => Nat.le_refl _
theorem OD.trans {a b c : List Nat} (h : OD a b) (g : OD b c) : OD a c := fun t => Nat.le_trans (g t) (h t)
theorem od_ins {a b : List Nat} {x : Nat} (hp : Pos (a ++ x :: b)) : OD (a ++ x :: b) (a ++ b) := fun t => by
  by_cases h : 2 * t ≤ (a ++ b).length
  · have e : (a ++ x :: b).length - 2 * t = (a ++ b).length - 2 * t + 1 := by simp at h ⊢; omega
    rw [e]
    exact Lf_ins hp (by omega)
  · have e : (a ++ b).length - 2 * t = 0 := by omega
    rw [e, Lf_zero]
    exact Lf_pos hp (by omega)
theorem od_mul {a b : List Nat} {x c : Nat} (hp : Pos (a ++ x * c :: b)) : OD (a ++ x * c :: b) (a ++ x :: b) := fun t => by
  have e : (a ++ x * c :: b).length = (a ++ x :: b).length := by simp
  rw [e]
  exact Lf_mul hp (by omega)
theorem od_rev {ms : List Nat} : OD ms.reverse ms := fun t => by
  rw [List.length_reverse, Lf_reverse (by omega)]
  exact Nat.le_refl _
/-- it is enough to look as far as some lanes are left -/
theorem od_iff {one other : List Nat} (hp : Pos one) (n : Nat) (hn : other.length < 2 * n) : OD one other ↔ ∀ t, t < n → Lf other (other.length - 2 * t) ≤ Lf one (one.length - 2 * t) := by
  refine ⟨fun h t _ => h t, fun h t => ?_⟩
  by_cases ht : t < n
  · exact h t ht
  · have e : other.length - 2 * t = 0 := by omega
    rw [e, Lf_zero]
    exact Lf_pos hp (by omega)
end LP

namespace LP
/-! ascending rows of places -/
def nxt (p : List Nat) : Nat := match p.getLast? with
  | some l => l + 1
  | none => 0
def extL (n : Nat) (p : List Nat) : List (List Nat) := (List.range (n - nxt p)).map fun i => p ++ [nxt p + i]
def picksL (n : Nat) : Nat → List (List Nat)
  | 0 => [[]]
  | k + 1 => (picksL n k).flatMap (extL n)
theorem nxt_snoc (p : List Nat) (x : Nat) : nxt (p ++ [x]) = x + 1 := by simp [nxt]
theorem nxt_gt {p : List Nat} (hp : p.Pairwise (· < ·)) {x : Nat} (hx : x ∈ p) : x < nxt p := by
  rcases List.eq_nil_or_concat p with rfl | ⟨q, y, rfl⟩
  · cases hx
  · rw [List.concat_eq_append] at *
    rw [nxt_snoc]
    rcases List.mem_append.mp hx with h | h
    · have := (List.pairwise_append.mp hp).2.2 x h y (by simp)
      omega
    · simp at h
      omega
theorem nxt_le {p : List Nat} {b : Nat} (h : ∀ x ∈ p, x < b) : nxt p ≤ b := by
  rcases List.eq_nil_or_concat p with rfl | ⟨q, y, rfl⟩
  · exact Nat.zero_le _
  · rw [List.concat_eq_append] at *
    rw [nxt_snoc]
    exact h y (by simp)
theorem mem_picksL {n : Nat} : ∀ {k : Nat} {p : List Nat}, p ∈ picksL n k ↔ p.length = k ∧ p.Pairwise (· < ·) ∧ ∀ x ∈ p, x < n
  | 0, p => by
    simp only [picksL, List.mem_singleton]
    constructor
    · rintro rfl; exact ⟨rfl, List.Pairwise.nil, by simp⟩
    · rintro ⟨h, _⟩; exact List.eq_nil_of_length_eq_zero h
  | k + 1, p => by
    simp only [picksL, List.mem_flatMap, extL, List.mem_map, List.mem_range]
    constructor
    · rintro ⟨q, hq, i, hi, rfl⟩
      obtain ⟨h1, h2, h3⟩ := mem_picksL.mp hq
      refine ⟨by simp [h1], List.pairwise_append.mpr ⟨h2, by simp, fun a ha b hb => ?_⟩, fun x hx => ?_⟩
      · simp at hb
        have := nxt_gt h2 ha
        omega
      · rcases List.mem_append.mp hx with h | h
        · exact h3 x h
        · simp at h; omega
    · rintro ⟨h1, h2, h3⟩
      rcases List.eq_nil_or_concat p with rfl | ⟨q, y, rfl⟩
      · simp at h1
      · rw [List.concat_eq_append] at *
        obtain ⟨g1, _, g3⟩ := List.pairwise_append.mp h2
        have hy : y < n := h3 y (by simp)
        have hn : nxt q ≤ y := nxt_le fun x hx => g3 x hx y (by simp)
        refine ⟨q, mem_picksL.mpr ⟨by simpa using h1, g1, fun x hx => h3 x (List.mem_append_left _ hx)⟩, y - nxt q, by omega, ?_⟩
        rw [show nxt q + (y - nxt q) = y by omega]
theorem picksL_some {ms : List Nat} {k : Nat} {p : List Nat} (h : p ∈ picksL ms.length k) : (p.map fun l => ms.getD l 1).Sublist ms := by
  obtain ⟨_, h2, h3⟩ := mem_picksL.mp h
  have e : p.map (fun l => ms.getD l 1) = (p.attach.map fun l => (⟨l.1, h3 l.1 l.2⟩ : Fin ms.length)).map fun i => ms[i] := by
    rw [List.map_map]
    have : (fun l : { x // x ∈ p } => (fun i : Fin ms.length => ms[i]) ⟨l.1, h3 l.1 l.2⟩) = fun l : { x // x ∈ p } => ms.getD l.1 1 := by
      funext l
      have := h3 l.1 l.2
      simp [List.getD_eq_getElem?_getD, this]
    show _ = p.attach.map (fun l : { x // x ∈ p } => (fun i : Fin ms.length => ms[i]) ⟨l.1, h3 l.1 l.2⟩)
    rw [this]
    have a : p.attach.map (fun l : { x // x ∈ p } => ms.getD l.1 1) = (p.attach.map Subtype.val).map fun l => ms.getD l 1 := by rw [List.map_map]; rfl
    rw [a, List.attach_map_subtype_val]
  rw [e]
  refine List.map_getElem_sublist ?_
  rw [List.pairwise_map]
  have a : p.attach.Pairwise fun x y : { x // x ∈ p } => x.1 < y.1 := by
    rw [← List.pairwise_map (f := Subtype.val) (R := (· < ·)), List.attach_map_subtype_val]
    exact h2
  exact a
theorem picksL_all {ms s : List Nat} (h : s.Sublist ms) : ∃ p ∈ picksL ms.length s.length, s = p.map fun l => ms.getD l 1 := by
  obtain ⟨is, e, hp⟩ := List.sublist_eq_map_getElem h
  refine ⟨is.map fun i => i.1, mem_picksL.mpr ⟨by rw [e]; simp, List.pairwise_map.mpr hp, fun x hx => ?_⟩, ?_⟩
  · obtain ⟨i, _, rfl⟩ := List.mem_map.mp hx
    exact i.2
  · rw [List.map_map, e]
    refine List.map_congr_left fun i _ => ?_
    simp [List.getD_eq_getElem?_getD]
/-! how many there are -/
def weightL (n : Nat) (ps : List (List Nat)) : Nat := (ps.map fun p => 2 ^ (n - nxt p)).sum
theorem ext_weight (n f : Nat) : ∀ m, m ≤ n - f → ((List.range m).map fun i => 2 ^ (n - (f + i + 1))).sum + 2 ^ (n - f - m) = 2 ^ (n - f)
  | 0, _ => by simp
  | m + 1, h => by
    have ih := ext_weight n f m (by omega)
    rw [List.range_succ, List.map_append, List.sum_append]
    simp only [List.map_cons, List.map_nil, List.sum_cons, List.sum_nil, Nat.add_zero]
    have e1 : n - (f + m + 1) = n - f - (m + 1) := by omega
    have e2 : n - f - m = (n - f - (m + 1)) + 1 := by omega
    rw [e1]
    rw [e2, Nat.pow_succ] at ih
    omega
theorem weight_ext (n : Nat) (p : List Nat) : weightL n (extL n p) ≤ 2 ^ (n - nxt p) := by
  unfold weightL extL
  rw [List.map_map]
  have e : ((fun p => 2 ^ (n - nxt p)) ∘ fun i => p ++ [nxt p + i]) = fun i => 2 ^ (n - (nxt p + i + 1)) := by
    funext i
    simp only [Function.comp, nxt_snoc]
  rw [e]
  exact Nat.le.intro (ext_weight n (nxt p) (n - nxt p) (Nat.le_refl _))
theorem weight_flat (n : Nat) : ∀ ps : List (List Nat), weightL n (ps.flatMap (extL n)) ≤ weightL n ps
  | [] => Nat.le_refl _
  | p :: r => by
    have ih := weight_flat n r
    have h := weight_ext n p
    rw [List.flatMap_cons]
    unfold weightL at *
    rw [List.map_append, List.sum_append, List.map_cons, List.sum_cons]
    omega
theorem picks_weight (n : Nat) : ∀ k, weightL n (picksL n k) ≤ 2 ^ n
  | 0 => by simp [weightL, picksL, nxt]
  | k + 1 => Nat.le_trans (weight_flat n _) (picks_weight n k)
theorem len_weight (n : Nat) (ps : List (List Nat)) : ps.length ≤ weightL n ps := by
  unfold weightL
  induction ps with
  | nil => exact Nat.le_refl _
  | cons p r ih =>
    rw [List.length_cons, List.map_cons, List.sum_cons]
    have : 1 ≤ 2 ^ (n - nxt p) := Nat.one_le_two_pow
    omega
theorem picks_len (n k : Nat) : (picksL n k).length ≤ 2 ^ n := Nat.le_trans (len_weight n _) (picks_weight n k)
end LP

namespace M
open PySem PySem.Spec PyProof.Rows L2
/-! the text by places -/
def topS (i : Nat) : Stmt := PySem.Challenge.pw_straylanes_k54_whole_outdoing_by_all_str.main.body.getD i (.Pass ⟨0, 0, 0, 0⟩)
/-- the names that the text leaves to the built-ins -/
structure Txt (mg : Str → Option Value) : Prop where
  gcd : mg "gcd" = some (.builtin "math.gcd")
  b_int : mg "int" = none
  b_len : mg "len" = none
  b_list : mg "list" = none
  b_max : mg "max" = none
  b_min : mg "min" = none
  b_range : mg "range" = none
  b_repr : mg "repr" = none
  b_sorted : mg "sorted" = none
  b_tuple : mg "tuple" = none

/-! ### span_of -/
abbrev s_span_of : Stmt := topS 2
abbrev N_span_of : List Str := ["machine", "lanes", "found", "lane"]
def b_span_of : MS := (mSeq (mAsg 2 (mC (.int 1))) (mSeq (mFor (mSq (mVar 1)) (gN 3) (mAsg 2 (mOp oMul' (mOp oFdiv (mVar 2) (mB2 fGcd (mVar 2) (mOp oIx (mVar 0) (mVar 3)))) (mOp oIx (mVar 0) (mVar 3))))) (mRet (mVar 2))))
def r_span_of : MFn := runDef 4 b_span_of
def f_span_of : MFn := r_span_of
theorem sc_span_of : FnScope N_span_of ["machine", "lanes"] (defScope s_span_of) := ⟨rfl, rfl, rfl, by decide +kernel, rfl, by decide +kernel, by decide +kernel⟩
theorem g_span_of {P : Program} {w : World} {K : PySem.W.Frag} {mg : Str → Option Value} {base : Heap} {fa : Addr} {fd : FuncData} (F : Fun K "span_of" "span_of" s_span_of fa fd) (T : Txt mg)  : FnG P w K mg base CX0 1 fa fd ["machine", "lanes"] (spM K 2 r_span_of) := by
  have S := sc_span_of
  refine okM (k := 0) F S fun cdv A outer s H E hr hgd => ?_
  have hu := hr.units
  have hu1 := hu_of hr
  exact (dss_cons (ds_set (i := 2) S.nd rfl (.inl rfl) de_int)
      (dss_cons (ds_for PassesOwn.never rfl (di_seq (de_var 1 (pv 1))) (dg_name (vs := [3]) (pg_name (i := 3) S.nd rfl (.inl rfl)) (by decide)) (dss_one (ds_set (i := 2) S.nd rfl (.inl rfl) (de_op dop_mul' (de_op dop_fdiv (de_var 2 (pv 2)) (de_G2 dc_gcd rfl T.gcd (de_var 2 (pv 2)) (de_ix dop_ix (de_var 0 (pv 0)) (de_var 3 (pv 3)) (fun _ _ => rfl)))) (de_ix dop_ix (de_var 0 (pv 0)) (de_var 3 (pv 3)) (fun _ _ => rfl))))))
      (dss_one (ds_ret (de_var 2 (pv 2))))))

/-! ### picks -/
abbrev s_picks : Stmt := topS 4
abbrev N_picks : List Str := ["many", "size", "found", "turn", "longer", "pick", "first", "number"]
def b_picks : MS := (mSeq (mAsg 2 (mLst (mCons (mTup mNil) mNil))) (mSeq (mFor (mRng1 (mVar 1)) (gN 3) (mSeq (mAsg 4 (mLst mNil)) (mSeq (mFor (mSq (mVar 2)) (gN 5) (mSeq (mAsg 6 (mIf (mT (mOp oNe (mVar 5) (mTup mNil))) (mOp oAdd (mOp oIx (mVar 5) (mNeg (mC (.int 1)))) (mC (.int 1))) (mC (.int 0)))) (mExpr (mM1 fExtend (mVar 4) (mLc (mRng2 (mVar 6) (mVar 0)) (gN 7) mYes (mTup (mStar (mVar 5) (mCons (mVar 7) mNil))) [7]))))) (mAsg 2 (mB1 fList (mVar 4)))))) (mRet (mVar 2))))
def r_picks : MFn := runDef 8 b_picks
def f_picks : MFn := r_picks
theorem sc_picks : FnScope N_picks ["many", "size"] (defScope s_picks) := ⟨rfl, rfl, rfl, by decide +kernel, rfl, by decide +kernel, by decide +kernel⟩
theorem g_picks {P : Program} {w : World} {K : PySem.W.Frag} {mg : Str → Option Value} {base : Heap} {fa : Addr} {fd : FuncData} (F : Fun K "picks" "picks" s_picks fa fd) (T : Txt mg)  : FnG P w K mg base CX0 1 fa fd ["many", "size"] (spM K 2 r_picks) := by
  have S := sc_picks
  refine okM (k := 0) F S fun cdv A outer s H E hr hgd => ?_
  have hu := hr.units
  have hu1 := hu_of hr
  exact (dss_cons (ds_set (i := 2) S.nd rfl (.inl rfl) (de_lst (da_cons (de_tup da_nil) da_nil)))
      (dss_cons (ds_for PassesOwn.never rfl (di_rng1 rfl T.b_range (de_var 1 (pv 1))) (dg_name (vs := [3]) (pg_name (i := 3) S.nd rfl (.inl rfl)) (by decide)) (dss_cons (ds_set (i := 4) S.nd rfl (.inl rfl) (de_lst da_nil))
      (dss_cons (ds_for PassesOwn.never rfl (di_seq (de_var 2 (pv 2))) (dg_name (vs := [5]) (pg_name (i := 5) S.nd rfl (.inr rfl)) (by decide)) (dss_cons (ds_set (i := 6) S.nd rfl (.inl rfl) (de_ifExp (dt_cmp (dop_ne hu) (de_var 5 (pv 5)) (de_tup da_nil) (nomark _)) (de_op dop_add (de_ix dop_ix (de_var 5 (pv 5)) (de_neg de_int) (fun _ _ => rfl)) de_int) de_int))
      (dss_one (ds_expr (de_extend (de_var 4 (pv 4)) (de_lc (own := [("number", 7)]) rfl S.nd (di_rng2 rfl T.b_range (de_var 6 (pv 6)) (de_var 0 (pv 0))) (blkOk_by (own := [("number", 7)]) (N := N_picks) (sc := defScope s_picks) (by decide +kernel)) (tg_name (by decide)) (fun _ _ _ _ _ => (pg_name (i := 7) S.nd rfl (Or.inl rfl))) (fun _ _ _ _ _ => pts_nil') (fun _ _ _ _ _ => (de_tup (da_star (de_var 5 (pv 5)) (da_cons (de_var 7 (pv 7)) da_nil))))))))))
      (dss_one (ds_set (i := 2) S.nd rfl (.inl rfl) (de_T1 dc_list rfl T.b_list (by decide +kernel) (de_var 4 (pv 4))))))))
      (dss_one (ds_ret (de_var 2 (pv 2))))))

/-! ### spans_of -/
abbrev s_spans_of : Stmt := topS 5
abbrev N_spans_of : List Str := ["machine", "size", "known", "lanes"]
def b_spans_of : MS := (mSeq (mAsg 2 mDict0) (mSeq (mFor (mSq (mCall f_picks (mCons (mB1 fLen (mVar 0)) (mCons (mVar 1) mNil)))) (gN 3) (mDPut (mVar 2) (mCall f_span_of (mCons (mVar 0) (mCons (mVar 3) mNil))) (mC (.bl true)))) (mRet (mB1 fSorted (mVar 2)))))
def r_spans_of : MFn := runDef 4 b_spans_of
def f_spans_of : MFn := r_spans_of
theorem sc_spans_of : FnScope N_spans_of ["machine", "size"] (defScope s_spans_of) := ⟨rfl, rfl, rfl, by decide +kernel, rfl, by decide +kernel, by decide +kernel⟩
theorem g_spans_of {P : Program} {w : World} {K : PySem.W.Frag} {mg : Str → Option Value} {base : Heap} {fa : Addr} {fd : FuncData} (F : Fun K "spans_of" "spans_of" s_spans_of fa fd) (T : Txt mg) (C_picks : Fn P w K mg base "picks" s_picks 1 ["many", "size"] f_picks) (C_span_of : Fn P w K mg base "span_of" s_span_of 1 ["machine", "lanes"] f_span_of) : FnG P w K mg base CX0 2 fa fd ["machine", "size"] (spM K 2 r_spans_of) := by
  have S := sc_spans_of
  refine okM (k := 1) F S fun cdv A outer s H E hr hgd => ?_
  have hu := hr.units
  have hu1 := hu_of hr
  exact (dss_cons (ds_set (i := 2) S.nd rfl (.inl rfl) de_dict0)
      (dss_cons (ds_for PassesOwn.never rfl (di_seq (de_call C_picks (hr.mono (by decide)) hgd rfl (da_cons (de_B1 dc_len rfl T.b_len (by decide +kernel) (de_var 0 (pv 0))) (da_cons (de_var 1 (pv 1)) da_nil)) rfl (hn := (len_cons (len_cons len_nil))))) (dg_name (vs := [3]) (pg_name (i := 3) S.nd rfl (.inl rfl)) (by decide)) (dss_one (ds_dput hu1 (de_var 2 (pv 2)) (de_call C_span_of (hr.mono (by decide)) hgd rfl (da_cons (de_var 0 (pv 0)) (da_cons (de_var 3 (pv 3)) da_nil)) rfl (hn := (len_cons (len_cons len_nil)))) de_bl)))
      (dss_one (ds_ret (de_B1 (dc_sorted rfl) rfl T.b_sorted (by decide +kernel) (de_var 2 (pv 2)))))))

/-! ### least_left -/
abbrev s_least_left : Stmt := topS 6
abbrev N_least_left : List Str := ["machine", "t"]
def b_least_left : MS := (mRet (mOp oIx (mCall f_spans_of (mCons (mVar 0) (mCons (mOp oSub (mB1 fLen (mVar 0)) (mOp oMul' (mC (.int 2)) (mVar 1))) mNil))) (mC (.int 0))))
def r_least_left : MFn := runDef 2 b_least_left
def f_least_left : MFn := r_least_left
theorem sc_least_left : FnScope N_least_left ["machine", "t"] (defScope s_least_left) := ⟨rfl, rfl, rfl, by decide +kernel, rfl, by decide +kernel, by decide +kernel⟩
theorem g_least_left {P : Program} {w : World} {K : PySem.W.Frag} {mg : Str → Option Value} {base : Heap} {fa : Addr} {fd : FuncData} (F : Fun K "least_left" "least_left" s_least_left fa fd) (T : Txt mg) (C_spans_of : Fn P w K mg base "spans_of" s_spans_of 2 ["machine", "size"] f_spans_of) : FnG P w K mg base CX0 3 fa fd ["machine", "t"] (spM K 2 r_least_left) := by
  have S := sc_least_left
  refine okM (k := 2) F S fun cdv A outer s H E hr hgd => ?_
  have hu := hr.units
  have hu1 := hu_of hr
  exact (dss_one (ds_ret (de_ix dop_ix (de_call C_spans_of (hr.mono (by decide)) hgd rfl (da_cons (de_var 0 (pv 0)) (da_cons (de_op dop_sub (de_B1 dc_len rfl T.b_len (by decide +kernel) (de_var 0 (pv 0))) (de_op dop_mul' de_int (de_var 1 (pv 1)))) da_nil)) rfl (hn := (len_cons (len_cons len_nil)))) de_int (fun _ _ => rfl))))

/-! ### outdoes -/
abbrev s_outdoes : Stmt := topS 7
abbrev N_outdoes : List Str := ["one", "other", "t"]
def b_outdoes : MS := (mSeq (mFor (mRng1 (mOp oAdd (mOp oFdiv (mB2 fMax (mB1 fLen (mVar 0)) (mB1 fLen (mVar 1))) (mC (.int 2))) (mC (.int 1)))) (gN 2) (mIfS (mT (mOp oLt (mCall f_least_left (mCons (mVar 0) (mCons (mVar 2) mNil))) (mCall f_least_left (mCons (mVar 1) (mCons (mVar 2) mNil))))) (mRet (mC (.bl false))) mNext)) (mRet (mC (.bl true))))
def r_outdoes : MFn := runDef 3 b_outdoes
def f_outdoes : MFn := r_outdoes
theorem sc_outdoes : FnScope N_outdoes ["one", "other"] (defScope s_outdoes) := ⟨rfl, rfl, rfl, by decide +kernel, rfl, by decide +kernel, by decide +kernel⟩
theorem g_outdoes {P : Program} {w : World} {K : PySem.W.Frag} {mg : Str → Option Value} {base : Heap} {fa : Addr} {fd : FuncData} (F : Fun K "outdoes" "outdoes" s_outdoes fa fd) (T : Txt mg) (C_least_left : Fn P w K mg base "least_left" s_least_left 3 ["machine", "t"] f_least_left) : FnG P w K mg base CX0 4 fa fd ["one", "other"] (spM K 2 r_outdoes) := by
  have S := sc_outdoes
  refine okM (k := 3) F S fun cdv A outer s H E hr hgd => ?_
  have hu := hr.units
  have hu1 := hu_of hr
  exact (dss_cons (ds_for PassesOwn.never rfl (di_rng1 rfl T.b_range (de_op dop_add (de_op dop_fdiv (de_B2 (dc_max rfl) rfl T.b_max (by decide +kernel) (de_B1 dc_len rfl T.b_len (by decide +kernel) (de_var 0 (pv 0))) (de_B1 dc_len rfl T.b_len (by decide +kernel) (de_var 1 (pv 1)))) de_int) de_int)) (dg_name (vs := [2]) (pg_name (i := 2) S.nd rfl (.inl rfl)) (by decide)) (dss_one (ds_if (dt_cmp dop_lt (de_call C_least_left (hr.mono (by decide)) hgd rfl (da_cons (de_var 0 (pv 0)) (da_cons (de_var 2 (pv 2)) da_nil)) rfl (hn := (len_cons (len_cons len_nil)))) (de_call C_least_left (hr.mono (by decide)) hgd rfl (da_cons (de_var 1 (pv 1)) (da_cons (de_var 2 (pv 2)) da_nil)) rfl (hn := (len_cons (len_cons len_nil)))) (nomark _)) (dss_one (ds_ret de_bl)) dss_nil)))
      (dss_one (ds_ret de_bl)))

/-! ### _law_deck -/
abbrev s__law_deck : Stmt := topS 9
abbrev N__law_deck : List Str := ["script", "cells", "stirred", "cell"]
def b__law_deck : MS := (mSeq (mPar 1 2 (mCons (mLc (mSq (mSl (mVar 0) mNoP (mPart (mC (.int 63))))) (gN 3) mYes (mIf (mT (mOp oGe (mVar 3) (mC (.int 0)))) (mOp oMul' (mC (.int 2)) (mVar 3)) (mOp oSub (mOp oMul' (mNeg (mC (.int 2))) (mVar 3)) (mC (.int 1)))) [3]) (mCons (mOp oAdd (mC (.int 80231)) (mB1 fLen (mVar 0))) mNil))) (mSeq (mFor (mSq (mVar 1)) (gN 3) (mAsg 2 (mOp oMod (mB1 fInt (mOp oAdd (mOp oMul' (mVar 2) (mC (.int 48271))) (mVar 3))) (mC (.int 4294967291))))) (mRet (mLst (mCons (mLc (mSq (mVar 1)) (gN 3) (mT (mOp oGe (mVar 3) (mOp oPow (mC (.int 10)) (mC (.int 15))))) (mVar 3) [3]) (mCons (mVar 2) (mCons (mC (.int 0)) mNil)))))))
def r__law_deck : MFn := runDef 4 b__law_deck
def f__law_deck : MFn := r__law_deck
theorem sc__law_deck : FnScope N__law_deck ["script"] (defScope s__law_deck) := ⟨rfl, rfl, rfl, by decide +kernel, rfl, by decide +kernel, by decide +kernel⟩
theorem g__law_deck {P : Program} {w : World} {K : PySem.W.Frag} {mg : Str → Option Value} {base : Heap} {fa : Addr} {fd : FuncData} (F : Fun K "_law_deck" "_law_deck" s__law_deck fa fd) (T : Txt mg)  : FnG P w K mg base CX0 1 fa fd ["script"] (spM K 1 r__law_deck) := by
  have S := sc__law_deck
  refine okM (k := 0) F S fun cdv A outer s H E hr hgd => ?_
  have hu := hr.units
  have hu1 := hu_of hr
  exact (dss_cons (ds_par (i := 1) (j := 2) rfl S.nd rfl rfl (by decide) rfl rfl (da_cons (de_lc (own := [("cell", 3)]) rfl S.nd (di_seq (de_slice (de_var 0 (pv 0)) dp_none (dp_some de_int))) (blkOk_by (own := [("cell", 3)]) (N := N__law_deck) (sc := defScope s__law_deck) (by decide +kernel)) (tg_name (by decide)) (fun _ _ _ _ _ => (pg_name (i := 3) S.nd rfl (Or.inl rfl))) (fun _ _ _ _ _ => pts_nil') (fun _ _ _ _ _ => (de_ifExp (dt_cmp dop_ge (de_var 3 (pv 3)) de_int (nomark _)) (de_op dop_mul' de_int (de_var 3 (pv 3))) (de_op dop_sub (de_op dop_mul' (de_neg de_int) (de_var 3 (pv 3))) de_int)))) (da_cons (de_op dop_add de_int (de_B1 dc_len rfl T.b_len (by decide +kernel) (de_var 0 (pv 0)))) da_nil)) rfl)
      (dss_cons (ds_for PassesOwn.never rfl (di_seq (de_var 1 (pv 1))) (dg_name (vs := [3]) (pg_name (i := 3) S.nd rfl (.inl rfl)) (by decide)) (dss_one (ds_set (i := 2) S.nd rfl (.inl rfl) (de_op dop_mod (de_T1 dc_int rfl T.b_int (by decide +kernel) (de_op dop_add (de_op dop_mul' (de_var 2 (pv 2)) de_int) (de_var 3 (pv 3)))) de_int))))
      (dss_one (ds_ret (de_lst (da_cons (de_lc (own := [("cell", 3)]) rfl S.nd (di_seq (de_var 1 (pv 1))) (blkOk_by (own := [("cell", 3)]) (N := N__law_deck) (sc := defScope s__law_deck) (by decide +kernel)) (tg_name (by decide)) (fun _ _ _ _ _ => (pg_name (i := 3) S.nd rfl (Or.inl rfl))) (fun _ _ _ _ _ => (pts_one' (dt_cmp dop_ge (de_var 3 (pv 3)) (de_op dop_pow de_int de_int) (nomark _)))) (fun _ _ _ _ _ => (de_var 3 (pv 3)))) (da_cons (de_var 2 (pv 2)) (da_cons de_int da_nil))))))))

/-! ### _law_draw -/
abbrev s__law_draw : Stmt := topS 10
abbrev N__law_draw : List Str := ["deck", "many", "cell", "mixed"]
def b__law_draw : MS := (mSeq (mIfS (mT (mOp oNe (mOp oIx (mVar 0) (mC (.int 0))) (mLst mNil))) (mSeq (mAsg 2 (mOp oIx (mOp oIx (mVar 0) (mC (.int 0))) (mC (.int 0)))) (mSeq (mAsgG (gSt (mOp oIx (mVar 0) (mC (.int 0))) (mC (.int 0))) (mOp oFdiv (mVar 2) (mVar 1))) (mSeq (mIfS (mT (mOp oLt (mVar 2) (mVar 1))) (mExpr (mM1 fPopAt (mOp oIx (mVar 0) (mC (.int 0))) (mC (.int 0)))) mNext) (mRet (mOp oMod (mB1 fInt (mVar 2)) (mVar 1)))))) mNext) (mSeq (mAsgG (gSt (mVar 0) (mC (.int 2))) (mOp oAdd (mOp oIx (mVar 0) (mC (.int 2))) (mC (.int 1)))) (mSeq (mAsg 3 (mOp oMod (mB1 fInt (mOp oAdd (mOp oIx (mVar 0) (mC (.int 1))) (mOp oMul' (mC (.int 2654435761)) (mOp oIx (mVar 0) (mC (.int 2)))))) (mC (.int 4294967291)))) (mSeq (mAsg 3 (mOp oMod (mB1 fInt (mOp oAdd (mOp oAdd (mOp oMul' (mVar 3) (mVar 3)) (mOp oMul' (mC (.int 40503)) (mOp oIx (mVar 0) (mC (.int 2))))) (mC (.int 11)))) (mC (.int 4294967279)))) (mSeq (mAsg 3 (mOp oMod (mB1 fInt (mOp oAdd (mOp oMul' (mVar 3) (mVar 3)) (mOp oIx (mVar 0) (mC (.int 1))))) (mC (.int 4294967231)))) (mRet (mOp oMod (mB1 fInt (mOp oFdiv (mVar 3) (mC (.int 64)))) (mVar 1))))))))
def r__law_draw : MFn := runDef 4 b__law_draw
def f__law_draw : MFn := r__law_draw
theorem sc__law_draw : FnScope N__law_draw ["deck", "many"] (defScope s__law_draw) := ⟨rfl, rfl, rfl, by decide +kernel, rfl, by decide +kernel, by decide +kernel⟩
theorem g__law_draw {P : Program} {w : World} {K : PySem.W.Frag} {mg : Str → Option Value} {base : Heap} {fa : Addr} {fd : FuncData} (F : Fun K "_law_draw" "_law_draw" s__law_draw fa fd) (T : Txt mg)  : FnG P w K mg base CX0 1 fa fd ["deck", "many"] (spM K 2 r__law_draw) := by
  have S := sc__law_draw
  refine okM (k := 0) F S fun cdv A outer s H E hr hgd => ?_
  have hu := hr.units
  have hu1 := hu_of hr
  exact (dss_cons (ds_if (dt_cmp (dop_ne hu) (de_ix dop_ix (de_var 0 (pv 0)) de_int (fun _ _ => rfl)) (de_lst da_nil) (nomark _)) (dss_cons (ds_set (i := 2) S.nd rfl (.inl rfl) (de_ix dop_ix (de_ix dop_ix (de_var 0 (pv 0)) de_int (fun _ _ => rfl)) de_int (fun _ _ => rfl)))
      (dss_cons (ds_asg (de_op dop_fdiv (de_var 2 (pv 2)) (de_var 1 (pv 1))) (dg_sub (vs := []) (de_ix dop_ix (de_var 0 (pv 0)) de_int (fun _ _ => rfl)) de_int))
      (dss_cons (ds_if (dt_cmp dop_lt (de_var 2 (pv 2)) (de_var 1 (pv 1)) (nomark _)) (dss_one (ds_expr (de_popAt (de_ix dop_ix (de_var 0 (pv 0)) de_int (fun _ _ => rfl)) de_int))) dss_nil)
      (dss_one (ds_ret (de_op dop_mod (de_T1 dc_int rfl T.b_int (by decide +kernel) (de_var 2 (pv 2))) (de_var 1 (pv 1)))))))) dss_nil)
      (dss_cons (ds_asg (de_op dop_add (de_ix dop_ix (de_var 0 (pv 0)) de_int (fun _ _ => rfl)) de_int) (dg_sub (vs := []) (de_var 0 (pv 0)) de_int))
      (dss_cons (ds_set (i := 3) S.nd rfl (.inl rfl) (de_op dop_mod (de_T1 dc_int rfl T.b_int (by decide +kernel) (de_op dop_add (de_ix dop_ix (de_var 0 (pv 0)) de_int (fun _ _ => rfl)) (de_op dop_mul' de_int (de_ix dop_ix (de_var 0 (pv 0)) de_int (fun _ _ => rfl))))) de_int))
      (dss_cons (ds_set (i := 3) S.nd rfl (.inl rfl) (de_op dop_mod (de_T1 dc_int rfl T.b_int (by decide +kernel) (de_op dop_add (de_op dop_add (de_op dop_mul' (de_var 3 (pv 3)) (de_var 3 (pv 3))) (de_op dop_mul' de_int (de_ix dop_ix (de_var 0 (pv 0)) de_int (fun _ _ => rfl)))) de_int)) de_int))
      (dss_cons (ds_set (i := 3) S.nd rfl (.inl rfl) (de_op dop_mod (de_T1 dc_int rfl T.b_int (by decide +kernel) (de_op dop_add (de_op dop_mul' (de_var 3 (pv 3)) (de_var 3 (pv 3))) (de_ix dop_ix (de_var 0 (pv 0)) de_int (fun _ _ => rfl)))) de_int))
      (dss_one (ds_ret (de_op dop_mod (de_T1 dc_int rfl T.b_int (by decide +kernel) (de_op dop_fdiv (de_var 3 (pv 3)) de_int)) (de_var 1 (pv 1))))))))))

/-! ### _law_pick -/
abbrev s__law_pick : Stmt := topS 11
abbrev N__law_pick : List Str := ["deck", "items"]
def b__law_pick : MS := (mRet (mOp oIx (mVar 1) (mCall f__law_draw (mCons (mVar 0) (mCons (mB1 fLen (mVar 1)) mNil)))))
def r__law_pick : MFn := runDef 2 b__law_pick
def f__law_pick : MFn := r__law_pick
theorem sc__law_pick : FnScope N__law_pick ["deck", "items"] (defScope s__law_pick) := ⟨rfl, rfl, rfl, by decide +kernel, rfl, by decide +kernel, by decide +kernel⟩
theorem g__law_pick {P : Program} {w : World} {K : PySem.W.Frag} {mg : Str → Option Value} {base : Heap} {fa : Addr} {fd : FuncData} (F : Fun K "_law_pick" "_law_pick" s__law_pick fa fd) (T : Txt mg) (C__law_draw : Fn P w K mg base "_law_draw" s__law_draw 1 ["deck", "many"] f__law_draw) : FnG P w K mg base CX0 2 fa fd ["deck", "items"] (spM K 2 r__law_pick) := by
  have S := sc__law_pick
  refine okM (k := 1) F S fun cdv A outer s H E hr hgd => ?_
  have hu := hr.units
  have hu1 := hu_of hr
  exact (dss_one (ds_ret (de_ix dop_ix (de_var 1 (pv 1)) (de_call C__law_draw (hr.mono (by decide)) hgd rfl (da_cons (de_var 0 (pv 0)) (da_cons (de_B1 dc_len rfl T.b_len (by decide +kernel) (de_var 1 (pv 1))) da_nil)) rfl (hn := (len_cons (len_cons len_nil)))) (fun _ _ => rfl))))

/-! ### _law_mixed -/
abbrev s__law_mixed : Stmt := topS 12
abbrev N__law_mixed : List Str := ["deck", "items", "rest", "found"]
def b__law_mixed : MS := (mSeq (mPar 2 3 (mCons (mB1 fList (mVar 1)) (mCons (mLst mNil) mNil))) (mSeq (mWhile (mT (mOp oNe (mVar 2) (mLst mNil))) (mExpr (mM1 fAppend (mVar 3) (mSet (mM1 fPopAt (mVar 2) (mCall f__law_draw (mCons (mVar 0) (mCons (mB1 fLen (mVar 2)) mNil)))))))) (mRet (mVar 3))))
def r__law_mixed : MFn := runDef 4 b__law_mixed
def f__law_mixed : MFn := r__law_mixed
theorem sc__law_mixed : FnScope N__law_mixed ["deck", "items"] (defScope s__law_mixed) := ⟨rfl, rfl, rfl, by decide +kernel, rfl, by decide +kernel, by decide +kernel⟩
theorem g__law_mixed {P : Program} {w : World} {K : PySem.W.Frag} {mg : Str → Option Value} {base : Heap} {fa : Addr} {fd : FuncData} (F : Fun K "_law_mixed" "_law_mixed" s__law_mixed fa fd) (T : Txt mg) (C__law_draw : Fn P w K mg base "_law_draw" s__law_draw 1 ["deck", "many"] f__law_draw) : FnG P w K mg base CX0 2 fa fd ["deck", "items"] (spM K 2 r__law_mixed) := by
  have S := sc__law_mixed
  refine okM (k := 1) F S fun cdv A outer s H E hr hgd => ?_
  have hu := hr.units
  have hu1 := hu_of hr
  exact (dss_cons (ds_par (i := 2) (j := 3) rfl S.nd rfl rfl (by decide) rfl rfl (da_cons (de_T1 dc_list rfl T.b_list (by decide +kernel) (de_var 1 (pv 1))) (da_cons (de_lst da_nil) da_nil)) rfl)
      (dss_cons (ds_while PassesOwn.never (dt_cmp (dop_ne hu) (de_var 2 (pv 2)) (de_lst da_nil) (nomark _)) (dss_one (ds_expr (de_append (de_var 3 (pv 3)) (de_popAt (de_var 2 (pv 2)) (de_call C__law_draw (hr.mono (by decide)) hgd rfl (da_cons (de_var 0 (pv 0)) (da_cons (de_B1 dc_len rfl T.b_len (by decide +kernel) (de_var 2 (pv 2))) da_nil)) rfl (hn := (len_cons (len_cons len_nil)))))))))
      (dss_one (ds_ret (de_var 3 (pv 3))))))

/-! ### _law_machine -/
abbrev s__law_machine : Stmt := topS 13
abbrev N__law_machine : List Str := ["deck", "n", "most", "way", "base", "found", "turn", "own"]
def b__law_machine : MS := (mSeq (mAsg 3 (mCall f__law_draw (mCons (mVar 0) (mCons (mC (.int 4)) mNil)))) (mSeq (mIfS (mT (mOp oEq (mVar 3) (mC (.int 0)))) (mRet (mOp oMul' (mTup (mCons (mOp oAdd (mC (.int 2)) (mCall f__law_draw (mCons (mVar 0) (mCons (mOp oSub (mVar 2) (mC (.int 1))) mNil)))) mNil)) (mVar 1))) mNext) (mSeq (mIfS (mT (mOp oEq (mVar 3) (mC (.int 1)))) (mSeq (mAsg 4 (mOp oAdd (mC (.int 2)) (mCall f__law_draw (mCons (mVar 0) (mCons (mC (.int 2)) mNil))))) (mRet (mB1 fTuple (mLc (mRng1 (mVar 1)) (gN 6) mYes (mOp oMul' (mVar 4) (mOp oAdd (mC (.int 1)) (mCall f__law_draw (mCons (mVar 0) (mCons (mOp oFdiv (mVar 2) (mVar 4)) mNil))))) [6])))) mNext) (mSeq (mIfS (mT (mOp oEq (mVar 3) (mC (.int 2)))) (mSeq (mAsg 5 (mLc (mSq (mTup (mCons (mC (.int 2)) (mCons (mC (.int 3)) (mCons (mC (.int 5)) (mCons (mC (.int 7)) (mCons (mC (.int 11)) (mCons (mC (.int 13)) mNil)))))))) (gN 7) (mT (mOp oLe (mVar 7) (mB2 fMax (mVar 2) (mC (.int 7))))) (mVar 7) [7])) (mRet (mB1 fTuple (mSl (mOp oAdd (mOp oAdd (mCall f__law_mixed (mCons (mVar 0) (mCons (mVar 5) mNil))) (mCall f__law_mixed (mCons (mVar 0) (mCons (mVar 5) mNil)))) (mVar 5)) mNoP (mPart (mVar 1)))))) mNext) (mRet (mB1 fTuple (mLc (mRng1 (mVar 1)) (gN 6) mYes (mOp oAdd (mC (.int 2)) (mCall f__law_draw (mCons (mVar 0) (mCons (mOp oSub (mVar 2) (mC (.int 1))) mNil)))) [6])))))))
def r__law_machine : MFn := runDef 8 b__law_machine
def f__law_machine : MFn := r__law_machine
theorem sc__law_machine : FnScope N__law_machine ["deck", "n", "most"] (defScope s__law_machine) := ⟨rfl, rfl, rfl, by decide +kernel, rfl, by decide +kernel, by decide +kernel⟩
theorem g__law_machine {P : Program} {w : World} {K : PySem.W.Frag} {mg : Str → Option Value} {base : Heap} {fa : Addr} {fd : FuncData} (F : Fun K "_law_machine" "_law_machine" s__law_machine fa fd) (T : Txt mg) (C__law_draw : Fn P w K mg base "_law_draw" s__law_draw 1 ["deck", "many"] f__law_draw) (C__law_mixed : Fn P w K mg base "_law_mixed" s__law_mixed 2 ["deck", "items"] f__law_mixed) : FnG P w K mg base CX0 3 fa fd ["deck", "n", "most"] (spM K 3 r__law_machine) := by
  have S := sc__law_machine
  refine okM (k := 2) F S fun cdv A outer s H E hr hgd => ?_
  have hu := hr.units
  have hu1 := hu_of hr
  exact (dss_cons (ds_set (i := 3) S.nd rfl (.inl rfl) (de_call C__law_draw (hr.mono (by decide)) hgd rfl (da_cons (de_var 0 (pv 0)) (da_cons de_int da_nil)) rfl (hn := (len_cons (len_cons len_nil)))))
      (dss_cons (ds_if (dt_cmp (dop_eq hu) (de_var 3 (pv 3)) de_int (nomark _)) (dss_one (ds_ret (de_op dop_mul' (de_tup (da_cons (de_op dop_add de_int (de_call C__law_draw (hr.mono (by decide)) hgd rfl (da_cons (de_var 0 (pv 0)) (da_cons (de_op dop_sub (de_var 2 (pv 2)) de_int) da_nil)) rfl (hn := (len_cons (len_cons len_nil))))) da_nil)) (de_var 1 (pv 1))))) dss_nil)
      (dss_cons (ds_if (dt_cmp (dop_eq hu) (de_var 3 (pv 3)) de_int (nomark _)) (dss_cons (ds_set (i := 4) S.nd rfl (.inr rfl) (de_op dop_add de_int (de_call C__law_draw (hr.mono (by decide)) hgd rfl (da_cons (de_var 0 (pv 0)) (da_cons de_int da_nil)) rfl (hn := (len_cons (len_cons len_nil))))))
      (dss_one (ds_ret (de_T1 dc_tuple rfl T.b_tuple (by decide +kernel) (de_lc (own := [("turn", 6)]) rfl S.nd (di_rng1 rfl T.b_range (de_var 1 (pv 1))) (blkOk_by (own := [("turn", 6)]) (N := N__law_machine) (sc := defScope s__law_machine) (by decide +kernel)) (tg_name (by decide)) (fun _ _ _ _ _ => (pg_name (i := 6) S.nd rfl (Or.inl rfl))) (fun _ _ _ _ _ => pts_nil') (fun _ _ _ _ _ => (de_op dop_mul' (de_var 4 (pv 4)) (de_op dop_add de_int (de_call C__law_draw (hr.mono (by decide)) hgd rfl (da_cons (de_var 0 (pv 0)) (da_cons (de_op dop_fdiv (de_var 2 (pv 2)) (de_var 4 (pv 4))) da_nil)) rfl (hn := (len_cons (len_cons len_nil)))))))))))) dss_nil)
      (dss_cons (ds_if (dt_cmp (dop_eq hu) (de_var 3 (pv 3)) de_int (nomark _)) (dss_cons (ds_setLc (i := 5) (own := [("own", 7)]) rfl S.nd rfl rfl (sw_true rfl rfl rfl (by decide +kernel)) (di_seq (de_tup (da_cons de_int (da_cons de_int (da_cons de_int (da_cons de_int (da_cons de_int (da_cons de_int da_nil)))))))) (blkOk_by (own := [("own", 7)]) (N := N__law_machine) (sc := defScope s__law_machine) (by decide +kernel)) (tg_name (by decide)) (fun _ _ _ _ _ => (pg_name (i := 7) S.nd rfl (Or.inl rfl))) (fun _ _ _ _ _ => (pts_one' (dt_cmp dop_le (de_var 7 (pv 7)) (de_B2 (dc_max rfl) rfl T.b_max (by decide +kernel) (de_var 2 (pv 2)) de_int) (nomark _)))) (fun _ _ _ _ _ => (de_var 7 (pv 7))))
      (dss_one (ds_ret (de_T1 dc_tuple rfl T.b_tuple (by decide +kernel) (de_slice (de_op dop_add (de_op dop_add (de_call C__law_mixed (hr.mono (by decide)) hgd rfl (da_cons (de_var 0 (pv 0)) (da_cons (de_var 5 (pv 5)) da_nil)) rfl (hn := (len_cons (len_cons len_nil)))) (de_call C__law_mixed (hr.mono (by decide)) hgd rfl (da_cons (de_var 0 (pv 0)) (da_cons (de_var 5 (pv 5)) da_nil)) rfl (hn := (len_cons (len_cons len_nil))))) (de_var 5 (pv 5))) dp_none (dp_some (de_var 1 (pv 1)))))))) dss_nil)
      (dss_one (ds_ret (de_T1 dc_tuple rfl T.b_tuple (by decide +kernel) (de_lc (own := [("turn", 6)]) rfl S.nd (di_rng1 rfl T.b_range (de_var 1 (pv 1))) (blkOk_by (own := [("turn", 6)]) (N := N__law_machine) (sc := defScope s__law_machine) (by decide +kernel)) (tg_name (by decide)) (fun _ _ _ _ _ => (pg_name (i := 6) S.nd rfl (Or.inl rfl))) (fun _ _ _ _ _ => pts_nil') (fun _ _ _ _ _ => (de_op dop_add de_int (de_call C__law_draw (hr.mono (by decide)) hgd rfl (da_cons (de_var 0 (pv 0)) (da_cons (de_op dop_sub (de_var 2 (pv 2)) de_int) da_nil)) rfl (hn := (len_cons (len_cons len_nil))))))))))))))

/-! ### _law_divisor -/
abbrev s__law_divisor : Stmt := topS 14
abbrev N__law_divisor : List Str := ["one", "other"]
def b__law_divisor : MS := (mSeq (mWhile (mT (mOp oGt (mVar 1) (mC (.int 0)))) (mPar 0 1 (mCons (mVar 1) (mCons (mOp oMod (mB1 fInt (mVar 0)) (mVar 1)) mNil)))) (mRet (mVar 0)))
def r__law_divisor : MFn := runDef 2 b__law_divisor
def f__law_divisor : MFn := r__law_divisor
theorem sc__law_divisor : FnScope N__law_divisor ["one", "other"] (defScope s__law_divisor) := ⟨rfl, rfl, rfl, by decide +kernel, rfl, by decide +kernel, by decide +kernel⟩
theorem g__law_divisor {P : Program} {w : World} {K : PySem.W.Frag} {mg : Str → Option Value} {base : Heap} {fa : Addr} {fd : FuncData} (F : Fun K "_law_divisor" "_law_divisor" s__law_divisor fa fd) (T : Txt mg)  : FnG P w K mg base CX0 1 fa fd ["one", "other"] (spM K 2 r__law_divisor) := by
  have S := sc__law_divisor
  refine okM (k := 0) F S fun cdv A outer s H E hr hgd => ?_
  have hu := hr.units
  have hu1 := hu_of hr
  exact (dss_cons (ds_while PassesOwn.never (dt_cmp dop_gt (de_var 1 (pv 1)) de_int (nomark _)) (dss_one (ds_par (i := 0) (j := 1) rfl S.nd rfl rfl (by decide) rfl rfl (da_cons (de_var 1 (pv 1)) (da_cons (de_op dop_mod (de_T1 dc_int rfl T.b_int (by decide +kernel) (de_var 0 (pv 0))) (de_var 1 (pv 1))) da_nil)) rfl)))
      (dss_one (ds_ret (de_var 0 (pv 0)))))

/-! ### _law_spans -/
abbrev s__law_spans : Stmt := topS 15
abbrev N__law_spans : List Str := ["machine", "found", "every", "modulus", "size", "span"]
def b__law_spans : MS := (mSeq (mAsg 1 (mLc (mRng1 (mOp oAdd (mB1 fLen (mVar 0)) (mC (.int 1)))) (gN 4) mYes (mLst mNil) [4])) (mSeq (mAsg 2 (mLst (mCons (mTup (mCons (mC (.int 0)) (mCons (mC (.int 1)) mNil))) mNil))) (mSeq (mFor (mSq (mVar 0)) (gN 3) (mAsg 2 (mOp oAdd (mVar 2) (mLc (mSq (mVar 2)) (gT 2 (gsCons (gN 4) (gsCons (gN 5) gsNil))) mYes (mTup (mCons (mOp oAdd (mVar 4) (mC (.int 1))) (mCons (mOp oMul' (mOp oFdiv (mVar 5) (mCall f__law_divisor (mCons (mVar 5) (mCons (mVar 3) mNil)))) (mVar 3)) mNil))) [4, 5])))) (mSeq (mFor (mSq (mVar 2)) (gT 2 (gsCons (gN 4) (gsCons (gN 5) gsNil))) (mExpr (mM1 fAppend (mOp oIx (mVar 1) (mVar 4)) (mSet (mVar 5))))) (mRet (mVar 1))))))
def r__law_spans : MFn := runDef 6 b__law_spans
def f__law_spans : MFn := r__law_spans
theorem sc__law_spans : FnScope N__law_spans ["machine"] (defScope s__law_spans) := ⟨rfl, rfl, rfl, by decide +kernel, rfl, by decide +kernel, by decide +kernel⟩
theorem g__law_spans {P : Program} {w : World} {K : PySem.W.Frag} {mg : Str → Option Value} {base : Heap} {fa : Addr} {fd : FuncData} (F : Fun K "_law_spans" "_law_spans" s__law_spans fa fd) (T : Txt mg) (C__law_divisor : Fn P w K mg base "_law_divisor" s__law_divisor 1 ["one", "other"] f__law_divisor) : FnG P w K mg base CX0 2 fa fd ["machine"] (spM K 1 r__law_spans) := by
  have S := sc__law_spans
  refine okM (k := 1) F S fun cdv A outer s H E hr hgd => ?_
  have hu := hr.units
  have hu1 := hu_of hr
  exact (dss_cons (ds_setLc (i := 1) (own := [("size", 4)]) rfl S.nd rfl rfl (sw_true rfl rfl rfl (by decide +kernel)) (di_rng1 rfl T.b_range (de_op dop_add (de_B1 dc_len rfl T.b_len (by decide +kernel) (de_var 0 (pv 0))) de_int)) (blkOk_by (own := [("size", 4)]) (N := N__law_spans) (sc := defScope s__law_spans) (by decide +kernel)) (tg_name (by decide)) (fun _ _ _ _ _ => (pg_name (i := 4) S.nd rfl (Or.inl rfl))) (fun _ _ _ _ _ => pts_nil') (fun _ _ _ _ _ => (de_lst da_nil)))
      (dss_cons (ds_set (i := 2) S.nd rfl (.inl rfl) (de_lst (da_cons (de_tup (da_cons de_int (da_cons de_int da_nil))) da_nil)))
      (dss_cons (ds_for PassesOwn.never rfl (di_seq (de_var 0 (pv 0))) (dg_name (vs := [3]) (pg_name (i := 3) S.nd rfl (.inr rfl)) (by decide)) (dss_one (ds_set (i := 2) S.nd rfl (.inl rfl) (de_op dop_add (de_var 2 (pv 2)) (de_lc (own := [("size", 4), ("span", 5)]) rfl S.nd (di_seq (de_var 2 (pv 2))) (blkOk_by (own := [("size", 4), ("span", 5)]) (N := N__law_spans) (sc := defScope s__law_spans) (by decide +kernel)) (tg_tup (tgs_cons (tg_name (by decide)) (tgs_cons (tg_name (by decide)) tgs_nil))) (fun _ _ _ _ _ => (pg_tup rfl (pgs_cons (pg_name (i := 4) S.nd rfl (Or.inl rfl)) (pgs_cons (pg_name (i := 5) S.nd rfl (Or.inl rfl)) pgs_nil)))) (fun _ _ _ _ _ => pts_nil') (fun _ _ _ _ _ => (de_tup (da_cons (de_op dop_add (de_var 4 (pv 4)) de_int) (da_cons (de_op dop_mul' (de_op dop_fdiv (de_var 5 (pv 5)) (de_call C__law_divisor (hr.mono (by decide)) hgd rfl (da_cons (de_var 5 (pv 5)) (da_cons (de_var 3 (pv 3)) da_nil)) rfl (hn := (len_cons (len_cons len_nil))))) (de_var 3 (pv 3))) da_nil)))))))))
      (dss_cons (ds_for PassesOwn.never rfl (di_seq (de_var 2 (pv 2))) (dg_tup (vs := [4, 5]) rfl (dgs_cons (dg_name (vs := [4, 5]) (pg_name (i := 4) S.nd rfl (.inl rfl)) (by decide)) (dgs_cons (dg_name (vs := [4, 5]) (pg_name (i := 5) S.nd rfl (.inl rfl)) (by decide)) dgs_nil))) (dss_one (ds_expr (de_append (de_ix dop_ix (de_var 1 (pv 1)) (de_var 4 (pv 4)) (fun _ _ => rfl)) (de_var 5 (pv 5))))))
      (dss_one (ds_ret (de_var 1 (pv 1))))))))

/-! ### _law_leasts -/
abbrev s__law_leasts : Stmt := topS 16
abbrev N__law_leasts : List Str := ["machine", "spans", "n", "t"]
def b__law_leasts : MS := (mSeq (mAsgG (gT 2 (gsCons (gN 1) (gsCons (gN 2) gsNil))) (mTup (mCons (mCall f__law_spans (mCons (mVar 0) mNil)) (mCons (mB1 fLen (mVar 0)) mNil)))) (mRet (mOp oAdd (mLc (mRng1 (mOp oAdd (mOp oFdiv (mVar 2) (mC (.int 2))) (mC (.int 1)))) (gN 3) mYes (mB1 fMin (mOp oIx (mVar 1) (mOp oSub (mVar 2) (mOp oMul' (mC (.int 2)) (mVar 3))))) [3]) (mLst (mCons (mC (.int 1)) mNil)))))
def r__law_leasts : MFn := runDef 4 b__law_leasts
def f__law_leasts : MFn := r__law_leasts
theorem sc__law_leasts : FnScope N__law_leasts ["machine"] (defScope s__law_leasts) := ⟨rfl, rfl, rfl, by decide +kernel, rfl, by decide +kernel, by decide +kernel⟩
theorem g__law_leasts {P : Program} {w : World} {K : PySem.W.Frag} {mg : Str → Option Value} {base : Heap} {fa : Addr} {fd : FuncData} (F : Fun K "_law_leasts" "_law_leasts" s__law_leasts fa fd) (T : Txt mg) (C__law_spans : Fn P w K mg base "_law_spans" s__law_spans 2 ["machine"] f__law_spans) : FnG P w K mg base CX0 3 fa fd ["machine"] (spM K 1 r__law_leasts) := by
  have S := sc__law_leasts
  refine okM (k := 2) F S fun cdv A outer s H E hr hgd => ?_
  have hu := hr.units
  have hu1 := hu_of hr
  exact (dss_cons (ds_asg (de_tup (da_cons (de_call C__law_spans (hr.mono (by decide)) hgd rfl (da_cons (de_var 0 (pv 0)) da_nil) rfl (hn := (len_cons len_nil))) (da_cons (de_B1 dc_len rfl T.b_len (by decide +kernel) (de_var 0 (pv 0))) da_nil))) (dg_tup (vs := [1, 2]) rfl (dgs_cons (dg_name (vs := [1, 2]) (pg_name (i := 1) S.nd rfl (.inr rfl)) (by decide)) (dgs_cons (dg_name (vs := [1, 2]) (pg_name (i := 2) S.nd rfl (.inr rfl)) (by decide)) dgs_nil))))
      (dss_one (ds_ret (de_op dop_add (de_lc (own := [("t", 3)]) rfl S.nd (di_rng1 rfl T.b_range (de_op dop_add (de_op dop_fdiv (de_var 2 (pv 2)) de_int) de_int)) (blkOk_by (own := [("t", 3)]) (N := N__law_leasts) (sc := defScope s__law_leasts) (by decide +kernel)) (tg_name (by decide)) (fun _ _ _ _ _ => (pg_name (i := 3) S.nd rfl (Or.inl rfl))) (fun _ _ _ _ _ => pts_nil') (fun _ _ _ _ _ => (de_B1 (dc_min rfl) rfl T.b_min (by decide +kernel) (de_ix dop_ix (de_var 1 (pv 1)) (de_op dop_sub (de_var 2 (pv 2)) (de_op dop_mul' de_int (de_var 3 (pv 3)))) (fun _ _ => rfl))))) (de_lst (da_cons de_int da_nil))))))

/-! ### _law_does -/
abbrev s__law_does : Stmt := topS 17
abbrev N__law_does : List Str := ["machine", "many", "t", "least"]
def b__law_does : MS := (mSeq (mAsg 3 (mCall f__law_leasts (mCons (mVar 0) mNil))) (mRet (mAndV (mOp oGe (mB1 fLen (mVar 0)) (mVar 2)) (mOp oGe (mOp oIx (mVar 3) (mB2 fMin (mVar 2) (mOp oSub (mB1 fLen (mVar 3)) (mC (.int 1))))) (mVar 1)))))
def r__law_does : MFn := runDef 4 b__law_does
def f__law_does : MFn := r__law_does
theorem sc__law_does : FnScope N__law_does ["machine", "many", "t"] (defScope s__law_does) := ⟨rfl, rfl, rfl, by decide +kernel, rfl, by decide +kernel, by decide +kernel⟩
theorem g__law_does {P : Program} {w : World} {K : PySem.W.Frag} {mg : Str → Option Value} {base : Heap} {fa : Addr} {fd : FuncData} (F : Fun K "_law_does" "_law_does" s__law_does fa fd) (T : Txt mg) (C__law_leasts : Fn P w K mg base "_law_leasts" s__law_leasts 3 ["machine"] f__law_leasts) : FnG P w K mg base CX0 4 fa fd ["machine", "many", "t"] (spM K 3 r__law_does) := by
  have S := sc__law_does
  refine okM (k := 3) F S fun cdv A outer s H E hr hgd => ?_
  have hu := hr.units
  have hu1 := hu_of hr
  exact (dss_cons (ds_set (i := 3) S.nd rfl (.inl rfl) (de_call C__law_leasts (hr.mono (by decide)) hgd rfl (da_cons (de_var 0 (pv 0)) da_nil) rfl (hn := (len_cons len_nil))))
      (dss_one (ds_ret (de_and (de_cmp dop_ge (de_B1 dc_len rfl T.b_len (by decide +kernel) (de_var 0 (pv 0))) (de_var 2 (pv 2)) (nomark _)) (de_one (de_cmp dop_ge (de_ix dop_ix (de_var 3 (pv 3)) (de_B2 (dc_min rfl) rfl T.b_min (by decide +kernel) (de_var 2 (pv 2)) (de_op dop_sub (de_B1 dc_len rfl T.b_len (by decide +kernel) (de_var 3 (pv 3))) de_int)) (fun _ _ => rfl)) (de_var 1 (pv 1)) (nomark _)))))))

/-! ### _law_least_at -/
abbrev s__law_least_at : Stmt := topS 18
abbrev N__law_least_at : List Str := ["least", "t"]
def b__law_least_at : MS := (mRet (mIf (mT (mOp oLt (mVar 1) (mB1 fLen (mVar 0)))) (mOp oIx (mVar 0) (mVar 1)) (mC (.int 1))))
def r__law_least_at : MFn := runDef 2 b__law_least_at
def f__law_least_at : MFn := r__law_least_at
theorem sc__law_least_at : FnScope N__law_least_at ["least", "t"] (defScope s__law_least_at) := ⟨rfl, rfl, rfl, by decide +kernel, rfl, by decide +kernel, by decide +kernel⟩
theorem g__law_least_at {P : Program} {w : World} {K : PySem.W.Frag} {mg : Str → Option Value} {base : Heap} {fa : Addr} {fd : FuncData} (F : Fun K "_law_least_at" "_law_least_at" s__law_least_at fa fd) (T : Txt mg)  : FnG P w K mg base CX0 1 fa fd ["least", "t"] (spM K 2 r__law_least_at) := by
  have S := sc__law_least_at
  refine okM (k := 0) F S fun cdv A outer s H E hr hgd => ?_
  have hu := hr.units
  have hu1 := hu_of hr
  exact (dss_one (ds_ret (de_ifExp (dt_cmp dop_lt (de_var 1 (pv 1)) (de_B1 dc_len rfl T.b_len (by decide +kernel) (de_var 0 (pv 0))) (nomark _)) (de_ix dop_ix (de_var 0 (pv 0)) (de_var 1 (pv 1)) (fun _ _ => rfl)) de_int)))

/-! ### _law_due -/
abbrev s__law_due : Stmt := topS 19
abbrev N__law_due : List Str := ["one", "other", "first", "second", "t"]
def b__law_due : MS := (mSeq (mAsgG (gT 2 (gsCons (gN 2) (gsCons (gN 3) gsNil))) (mTup (mCons (mCall f__law_leasts (mCons (mVar 0) mNil)) (mCons (mCall f__law_leasts (mCons (mVar 1) mNil)) mNil)))) (mRet (mOp oEq (mLc (mRng1 (mB1 fLen (mVar 3))) (gN 4) (mT (mOp oLt (mCall f__law_least_at (mCons (mVar 2) (mCons (mVar 4) mNil))) (mOp oIx (mVar 3) (mVar 4)))) (mVar 4) [4]) (mLst mNil))))
def r__law_due : MFn := runDef 5 b__law_due
def f__law_due : MFn := r__law_due
theorem sc__law_due : FnScope N__law_due ["one", "other"] (defScope s__law_due) := ⟨rfl, rfl, rfl, by decide +kernel, rfl, by decide +kernel, by decide +kernel⟩
theorem g__law_due {P : Program} {w : World} {K : PySem.W.Frag} {mg : Str → Option Value} {base : Heap} {fa : Addr} {fd : FuncData} (F : Fun K "_law_due" "_law_due" s__law_due fa fd) (T : Txt mg) (C__law_leasts : Fn P w K mg base "_law_leasts" s__law_leasts 3 ["machine"] f__law_leasts) (C__law_least_at : Fn P w K mg base "_law_least_at" s__law_least_at 1 ["least", "t"] f__law_least_at) : FnG P w K mg base CX0 4 fa fd ["one", "other"] (spM K 2 r__law_due) := by
  have S := sc__law_due
  refine okM (k := 3) F S fun cdv A outer s H E hr hgd => ?_
  have hu := hr.units
  have hu1 := hu_of hr
  exact (dss_cons (ds_asg (de_tup (da_cons (de_call C__law_leasts (hr.mono (by decide)) hgd rfl (da_cons (de_var 0 (pv 0)) da_nil) rfl (hn := (len_cons len_nil))) (da_cons (de_call C__law_leasts (hr.mono (by decide)) hgd rfl (da_cons (de_var 1 (pv 1)) da_nil) rfl (hn := (len_cons len_nil))) da_nil))) (dg_tup (vs := [2, 3]) rfl (dgs_cons (dg_name (vs := [2, 3]) (pg_name (i := 2) S.nd rfl (.inr rfl)) (by decide)) (dgs_cons (dg_name (vs := [2, 3]) (pg_name (i := 3) S.nd rfl (.inr rfl)) (by decide)) dgs_nil))))
      (dss_one (ds_ret (de_cmp (dop_eq hu) (de_lc (own := [("t", 4)]) rfl S.nd (di_rng1 rfl T.b_range (de_B1 dc_len rfl T.b_len (by decide +kernel) (de_var 3 (pv 3)))) (blkOk_by (own := [("t", 4)]) (N := N__law_due) (sc := defScope s__law_due) (by decide +kernel)) (tg_name (by decide)) (fun _ _ _ _ _ => (pg_name (i := 4) S.nd rfl (Or.inl rfl))) (fun _ _ _ _ _ => (pts_one' (dt_cmp dop_lt (de_call C__law_least_at (hr.mono (by decide)) hgd rfl (da_cons (de_var 2 (pv 2)) (da_cons (de_var 4 (pv 4)) da_nil)) rfl (hn := (len_cons (len_cons len_nil)))) (de_ix dop_ix (de_var 3 (pv 3)) (de_var 4 (pv 4)) (fun _ _ => rfl)) (nomark _)))) (fun _ _ _ _ _ => (de_var 4 (pv 4)))) (de_lst da_nil) (nomark _)))))

/-! ### _law_some_machine -/
abbrev s__law_some_machine : Stmt := topS 20
abbrev N__law_some_machine : List Str := ["deck", "n", "turn"]
def b__law_some_machine : MS := (mSeq (mAsg 1 (mOp oAdd (mC (.int 1)) (mCall f__law_draw (mCons (mVar 0) (mCons (mC (.int 6)) mNil))))) (mSeq (mIfS (mT (mOp oEq (mCall f__law_draw (mCons (mVar 0) (mCons (mC (.int 6)) mNil))) (mC (.int 0)))) (mRet (mB1 fTuple (mLc (mRng1 (mVar 1)) (gN 2) mYes (mOp oAdd (mC (.int 2)) (mCall f__law_draw (mCons (mVar 0) (mCons (mC (.int 999999)) mNil)))) [2]))) mNext) (mRet (mCall f__law_machine (mCons (mVar 0) (mCons (mVar 1) (mCons (mCall f__law_pick (mCons (mVar 0) (mCons (mLst (mCons (mC (.int 4)) (mCons (mC (.int 12)) mNil))) mNil))) mNil)))))))
def r__law_some_machine : MFn := runDef 3 b__law_some_machine
def f__law_some_machine : MFn := r__law_some_machine
theorem sc__law_some_machine : FnScope N__law_some_machine ["deck"] (defScope s__law_some_machine) := ⟨rfl, rfl, rfl, by decide +kernel, rfl, by decide +kernel, by decide +kernel⟩
theorem g__law_some_machine {P : Program} {w : World} {K : PySem.W.Frag} {mg : Str → Option Value} {base : Heap} {fa : Addr} {fd : FuncData} (F : Fun K "_law_some_machine" "_law_some_machine" s__law_some_machine fa fd) (T : Txt mg) (C__law_draw : Fn P w K mg base "_law_draw" s__law_draw 1 ["deck", "many"] f__law_draw) (C__law_machine : Fn P w K mg base "_law_machine" s__law_machine 3 ["deck", "n", "most"] f__law_machine) (C__law_pick : Fn P w K mg base "_law_pick" s__law_pick 2 ["deck", "items"] f__law_pick) : FnG P w K mg base CX0 4 fa fd ["deck"] (spM K 1 r__law_some_machine) := by
  have S := sc__law_some_machine
  refine okM (k := 3) F S fun cdv A outer s H E hr hgd => ?_
  have hu := hr.units
  have hu1 := hu_of hr
  exact (dss_cons (ds_set (i := 1) S.nd rfl (.inl rfl) (de_op dop_add de_int (de_call C__law_draw (hr.mono (by decide)) hgd rfl (da_cons (de_var 0 (pv 0)) (da_cons de_int da_nil)) rfl (hn := (len_cons (len_cons len_nil))))))
      (dss_cons (ds_if (dt_cmp (dop_eq hu) (de_call C__law_draw (hr.mono (by decide)) hgd rfl (da_cons (de_var 0 (pv 0)) (da_cons de_int da_nil)) rfl (hn := (len_cons (len_cons len_nil)))) de_int (nomark _)) (dss_one (ds_ret (de_T1 dc_tuple rfl T.b_tuple (by decide +kernel) (de_lc (own := [("turn", 2)]) rfl S.nd (di_rng1 rfl T.b_range (de_var 1 (pv 1))) (blkOk_by (own := [("turn", 2)]) (N := N__law_some_machine) (sc := defScope s__law_some_machine) (by decide +kernel)) (tg_name (by decide)) (fun _ _ _ _ _ => (pg_name (i := 2) S.nd rfl (Or.inl rfl))) (fun _ _ _ _ _ => pts_nil') (fun _ _ _ _ _ => (de_op dop_add de_int (de_call C__law_draw (hr.mono (by decide)) hgd rfl (da_cons (de_var 0 (pv 0)) (da_cons de_int da_nil)) rfl (hn := (len_cons (len_cons len_nil)))))))))) dss_nil)
      (dss_one (ds_ret (de_call C__law_machine (hr.mono (by decide)) hgd rfl (da_cons (de_var 0 (pv 0)) (da_cons (de_var 1 (pv 1)) (da_cons (de_call C__law_pick (hr.mono (by decide)) hgd rfl (da_cons (de_var 0 (pv 0)) (da_cons (de_lst (da_cons de_int (da_cons de_int da_nil))) da_nil)) rfl (hn := (len_cons (len_cons len_nil)))) da_nil))) rfl (hn := (len_cons (len_cons (len_cons len_nil)))))))))

/-! ### _law_made -/
abbrev s__law_made : Stmt := topS 21
abbrev N__law_made : List Str := ["deck", "machine", "lane", "times", "wider", "more"]
def b__law_made : MS := (mSeq (mAsg 2 (mCall f__law_draw (mCons (mVar 0) (mCons (mB1 fLen (mVar 1)) mNil)))) (mSeq (mAsg 3 (mOp oAdd (mC (.int 1)) (mCall f__law_draw (mCons (mVar 0) (mCons (mB2 fMax (mC (.int 1)) (mB2 fMin (mC (.int 5)) (mOp oFdiv (mOp oPow (mC (.int 10)) (mC (.int 6))) (mOp oIx (mVar 1) (mVar 2))))) mNil))))) (mSeq (mAsg 4 (mOp oAdd (mOp oAdd (mSl (mVar 1) mNoP (mPart (mVar 2))) (mTup (mCons (mOp oMul' (mOp oIx (mVar 1) (mVar 2)) (mVar 3)) mNil))) (mSl (mVar 1) (mPart (mOp oAdd (mVar 2) (mC (.int 1)))) mNoP))) (mSeq (mAsg 5 (mOp oAdd (mOp oAdd (mSl (mVar 1) mNoP (mPart (mVar 2))) (mTup (mCons (mOp oAdd (mC (.int 2)) (mCall f__law_draw (mCons (mVar 0) (mCons (mC (.int 12)) mNil)))) mNil))) (mSl (mVar 1) (mPart (mVar 2)) mNoP))) (mRet (mCall f__law_pick (mCons (mVar 0) (mCons (mLst (mCons (mVar 4) (mCons (mBack (mVar 1)) (mCons (mIf (mT (mOp oLt (mB1 fLen (mVar 1)) (mC (.int 10)))) (mVar 5) (mVar 4)) mNil)))) mNil))))))))
def r__law_made : MFn := runDef 6 b__law_made
def f__law_made : MFn := r__law_made
theorem sc__law_made : FnScope N__law_made ["deck", "machine"] (defScope s__law_made) := ⟨rfl, rfl, rfl, by decide +kernel, rfl, by decide +kernel, by decide +kernel⟩
theorem g__law_made {P : Program} {w : World} {K : PySem.W.Frag} {mg : Str → Option Value} {base : Heap} {fa : Addr} {fd : FuncData} (F : Fun K "_law_made" "_law_made" s__law_made fa fd) (T : Txt mg) (C__law_draw : Fn P w K mg base "_law_draw" s__law_draw 1 ["deck", "many"] f__law_draw) (C__law_pick : Fn P w K mg base "_law_pick" s__law_pick 2 ["deck", "items"] f__law_pick) : FnG P w K mg base CX0 3 fa fd ["deck", "machine"] (spM K 2 r__law_made) := by
  have S := sc__law_made
  refine okM (k := 2) F S fun cdv A outer s H E hr hgd => ?_
  have hu := hr.units
  have hu1 := hu_of hr
  exact (dss_cons (ds_set (i := 2) S.nd rfl (.inl rfl) (de_call C__law_draw (hr.mono (by decide)) hgd rfl (da_cons (de_var 0 (pv 0)) (da_cons (de_B1 dc_len rfl T.b_len (by decide +kernel) (de_var 1 (pv 1))) da_nil)) rfl (hn := (len_cons (len_cons len_nil)))))
      (dss_cons (ds_set (i := 3) S.nd rfl (.inl rfl) (de_op dop_add de_int (de_call C__law_draw (hr.mono (by decide)) hgd rfl (da_cons (de_var 0 (pv 0)) (da_cons (de_B2 (dc_max rfl) rfl T.b_max (by decide +kernel) de_int (de_B2 (dc_min rfl) rfl T.b_min (by decide +kernel) de_int (de_op dop_fdiv (de_op dop_pow de_int de_int) (de_ix dop_ix (de_var 1 (pv 1)) (de_var 2 (pv 2)) (fun _ _ => rfl))))) da_nil)) rfl (hn := (len_cons (len_cons len_nil))))))
      (dss_cons (ds_set (i := 4) S.nd rfl (.inl rfl) (de_op dop_add (de_op dop_add (de_slice (de_var 1 (pv 1)) dp_none (dp_some (de_var 2 (pv 2)))) (de_tup (da_cons (de_op dop_mul' (de_ix dop_ix (de_var 1 (pv 1)) (de_var 2 (pv 2)) (fun _ _ => rfl)) (de_var 3 (pv 3))) da_nil))) (de_slice (de_var 1 (pv 1)) (dp_some (de_op dop_add (de_var 2 (pv 2)) de_int)) dp_none)))
      (dss_cons (ds_set (i := 5) S.nd rfl (.inl rfl) (de_op dop_add (de_op dop_add (de_slice (de_var 1 (pv 1)) dp_none (dp_some (de_var 2 (pv 2)))) (de_tup (da_cons (de_op dop_add de_int (de_call C__law_draw (hr.mono (by decide)) hgd rfl (da_cons (de_var 0 (pv 0)) (da_cons de_int da_nil)) rfl (hn := (len_cons (len_cons len_nil))))) da_nil))) (de_slice (de_var 1 (pv 1)) (dp_some (de_var 2 (pv 2))) dp_none)))
      (dss_one (ds_ret (de_call C__law_pick (hr.mono (by decide)) hgd rfl (da_cons (de_var 0 (pv 0)) (da_cons (de_lst (da_cons (de_var 4 (pv 4)) (da_cons (de_back (de_var 1 (pv 1))) (da_cons (de_ifExp (dt_cmp dop_lt (de_B1 dc_len rfl T.b_len (by decide +kernel) (de_var 1 (pv 1))) de_int (nomark _)) (de_var 5 (pv 5)) (de_var 4 (pv 4))) da_nil)))) da_nil)) rfl (hn := (len_cons (len_cons len_nil))))))))))

/-! ### _law_is_told -/
abbrev s__law_is_told : Stmt := topS 22
abbrev N__law_is_told : List Str := ["one", "other", "known", "due"]
def b__law_is_told : MS := (mSeq (mPar 2 3 (mCons (mB1 fRepr (mLst (mCons (mVar 0) (mCons (mVar 1) mNil)))) (mCons (mB1 fRepr (mCall f__law_due (mCons (mVar 0) (mCons (mVar 1) mNil)))) mNil))) (mSeq (mIfS (mOrT (mT (mOp oNe (mB1 fRepr (mCall f_outdoes (mCons (mVar 0) (mCons (mVar 1) mNil)))) (mVar 3))) (mT (mOp oNe (mB1 fRepr (mCallK f_outdoes [1, 0] (mCons (mVar 1) (mCons (mVar 0) mNil)))) (mVar 3)))) (mRet (mC (.bl false))) mNext) (mRet (mOp oEq (mB1 fRepr (mLst (mCons (mVar 0) (mCons (mVar 1) mNil)))) (mVar 2)))))
def r__law_is_told : MFn := runDef 4 b__law_is_told
def f__law_is_told : MFn := r__law_is_told
theorem sc__law_is_told : FnScope N__law_is_told ["one", "other"] (defScope s__law_is_told) := ⟨rfl, rfl, rfl, by decide +kernel, rfl, by decide +kernel, by decide +kernel⟩
theorem g__law_is_told {P : Program} {w : World} {K : PySem.W.Frag} {mg : Str → Option Value} {base : Heap} {fa : Addr} {fd : FuncData} (F : Fun K "_law_is_told" "_law_is_told" s__law_is_told fa fd) (T : Txt mg) (C__law_due : Fn P w K mg base "_law_due" s__law_due 4 ["one", "other"] f__law_due) (C_outdoes : Fn P w K mg base "outdoes" s_outdoes 4 ["one", "other"] f_outdoes) : FnG P w K mg base CX0 5 fa fd ["one", "other"] (spM K 2 r__law_is_told) := by
  have S := sc__law_is_told
  refine okM (k := 4) F S fun cdv A outer s H E hr hgd => ?_
  have hu := hr.units
  have hu1 := hu_of hr
  exact (dss_cons (ds_par (i := 2) (j := 3) rfl S.nd rfl rfl (by decide) rfl rfl (da_cons (de_B1 (dc_repr hgd hu) rfl T.b_repr (by decide +kernel) (de_lst (da_cons (de_var 0 (pv 0)) (da_cons (de_var 1 (pv 1)) da_nil)))) (da_cons (de_B1 (dc_repr hgd hu) rfl T.b_repr (by decide +kernel) (de_call C__law_due (hr.mono (by decide)) hgd rfl (da_cons (de_var 0 (pv 0)) (da_cons (de_var 1 (pv 1)) da_nil)) rfl (hn := (len_cons (len_cons len_nil))))) da_nil)) rfl)
      (dss_cons (ds_if (dt_w (dw_or (dt_cmp (dop_ne hu) (de_B1 (dc_repr hgd hu) rfl T.b_repr (by decide +kernel) (de_call C_outdoes (hr.mono (by decide)) hgd rfl (da_cons (de_var 0 (pv 0)) (da_cons (de_var 1 (pv 1)) da_nil)) rfl (hn := (len_cons (len_cons len_nil))))) (de_var 3 (pv 3)) (nomark _)) (dw_or1 (dt_cmp (dop_ne hu) (de_B1 (dc_repr hgd hu) rfl T.b_repr (by decide +kernel) (de_callK (ks := ["other", "one"]) (ix := [1, 0]) C_outdoes (hr.mono (by decide)) hgd rfl (dk_cons (de_var 1 (pv 1)) (dk_cons (de_var 0 (pv 0)) dk_nil)) (fun _ _ _ _ _ _ ws hw => match ws, hw with | [_, _], _ => rfl) (by decide) rfl rfl)) (de_var 3 (pv 3)) (nomark _))))) (dss_one (ds_ret de_bl)) dss_nil)
      (dss_one (ds_ret (de_cmp (dop_eq hu) (de_B1 (dc_repr hgd hu) rfl T.b_repr (by decide +kernel) (de_lst (da_cons (de_var 0 (pv 0)) (da_cons (de_var 1 (pv 1)) da_nil)))) (de_var 2 (pv 2)) (nomark _))))))

/-! ### _law_is_meant -/
abbrev s__law_is_meant : Stmt := topS 23
abbrev N__law_is_meant : List Str := ["deck", "one", "other", "turn", "t", "many"]
def b__law_is_meant : MS := (mSeq (mFor (mRng1 (mC (.int 4))) (gN 3) (mSeq (mAsg 4 (mCall f__law_draw (mCons (mVar 0) (mCons (mC (.int 4)) mNil)))) (mSeq (mAsg 5 (mB2 fMax (mC (.int 2)) (mOp oSub (mCall f__law_least_at (mCons (mCall f__law_leasts (mCons (mVar 2) mNil)) (mCons (mVar 4) mNil))) (mCall f__law_draw (mCons (mVar 0) (mCons (mC (.int 2)) mNil)))))) (mIfS (mAndT (mT (mCall f__law_does (mCons (mVar 2) (mCons (mVar 5) (mCons (mVar 4) mNil))))) (mNotT (mT (mCall f__law_does (mCons (mVar 1) (mCons (mVar 5) (mCons (mVar 4) mNil))))))) (mRet (mC (.bl false))) mNext)))) (mRet (mC (.bl true))))
def r__law_is_meant : MFn := runDef 6 b__law_is_meant
def f__law_is_meant : MFn := r__law_is_meant
theorem sc__law_is_meant : FnScope N__law_is_meant ["deck", "one", "other"] (defScope s__law_is_meant) := ⟨rfl, rfl, rfl, by decide +kernel, rfl, by decide +kernel, by decide +kernel⟩
theorem g__law_is_meant {P : Program} {w : World} {K : PySem.W.Frag} {mg : Str → Option Value} {base : Heap} {fa : Addr} {fd : FuncData} (F : Fun K "_law_is_meant" "_law_is_meant" s__law_is_meant fa fd) (T : Txt mg) (C__law_draw : Fn P w K mg base "_law_draw" s__law_draw 1 ["deck", "many"] f__law_draw) (C__law_least_at : Fn P w K mg base "_law_least_at" s__law_least_at 1 ["least", "t"] f__law_least_at) (C__law_leasts : Fn P w K mg base "_law_leasts" s__law_leasts 3 ["machine"] f__law_leasts) (C__law_does : Fn P w K mg base "_law_does" s__law_does 4 ["machine", "many", "t"] f__law_does) : FnG P w K mg base CX0 5 fa fd ["deck", "one", "other"] (spM K 3 r__law_is_meant) := by
  have S := sc__law_is_meant
  refine okM (k := 4) F S fun cdv A outer s H E hr hgd => ?_
  have hu := hr.units
  have hu1 := hu_of hr
  exact (dss_cons (ds_for PassesOwn.never rfl (di_rng1 rfl T.b_range de_int) (dg_name (vs := [3]) (pg_name (i := 3) S.nd rfl (.inl rfl)) (by decide)) (dss_cons (ds_set (i := 4) S.nd rfl (.inl rfl) (de_call C__law_draw (hr.mono (by decide)) hgd rfl (da_cons (de_var 0 (pv 0)) (da_cons de_int da_nil)) rfl (hn := (len_cons (len_cons len_nil)))))
      (dss_cons (ds_set (i := 5) S.nd rfl (.inl rfl) (de_B2 (dc_max rfl) rfl T.b_max (by decide +kernel) de_int (de_op dop_sub (de_call C__law_least_at (hr.mono (by decide)) hgd rfl (da_cons (de_call C__law_leasts (hr.mono (by decide)) hgd rfl (da_cons (de_var 2 (pv 2)) da_nil) rfl (hn := (len_cons len_nil))) (da_cons (de_var 4 (pv 4)) da_nil)) rfl (hn := (len_cons (len_cons len_nil)))) (de_call C__law_draw (hr.mono (by decide)) hgd rfl (da_cons (de_var 0 (pv 0)) (da_cons de_int da_nil)) rfl (hn := (len_cons (len_cons len_nil)))))))
      (dss_one (ds_if (dt_w (dw_and (dt_val (de_call C__law_does (hr.mono (by decide)) hgd rfl (da_cons (de_var 2 (pv 2)) (da_cons (de_var 5 (pv 5)) (da_cons (de_var 4 (pv 4)) da_nil))) rfl (hn := (len_cons (len_cons (len_cons len_nil)))))) (dw_and1 (dt_not (dt_val (de_call C__law_does (hr.mono (by decide)) hgd rfl (da_cons (de_var 1 (pv 1)) (da_cons (de_var 5 (pv 5)) (da_cons (de_var 4 (pv 4)) da_nil))) rfl (hn := (len_cons (len_cons (len_cons len_nil)))))))))) (dss_one (ds_ret de_bl)) dss_nil)))))
      (dss_one (ds_ret de_bl)))

/-! ### law -/
abbrev s_law : Stmt := topS 24
abbrev N_law : List Str := ["script", "deck", "one", "turn", "other", "made", "third", "fewer", "first", "second", "lane"]
def b_law : MS := (mSeq (mAsg 1 (mCall f__law_deck (mCons (mVar 0) mNil))) (mSeq (mIfS (mT (mOp oEq (mCall f__law_draw (mCons (mVar 1) (mCons (mC (.int 16)) mNil))) (mC (.int 0)))) (mSeq (mAsg 2 (mB1 fTuple (mLc (mRng1 (mC (.int 10))) (gN 10) mYes (mOp oAdd (mC (.int 2)) (mCall f__law_draw (mCons (mVar 1) (mCons (mC (.int 12)) mNil)))) [10]))) (mRet (mCall f__law_is_told (mCons (mVar 2) (mCons (mCall f__law_made (mCons (mVar 1) (mCons (mVar 2) mNil))) mNil))))) mNext) (mSeq (mFor (mRng1 (mC (.int 2))) (gN 3) (mSeq (mPar 2 4 (mCons (mCall f__law_some_machine (mCons (mVar 1) mNil)) (mCons (mCall f__law_some_machine (mCons (mVar 1) mNil)) mNil))) (mSeq (mAsg 5 (mCall f__law_made (mCons (mVar 1) (mCons (mVar 2) mNil)))) (mSeq (mAsg 6 (mIf (mT (mOp oEq (mCall f__law_draw (mCons (mVar 1) (mCons (mC (.int 2)) mNil))) (mC (.int 0)))) (mCall f__law_made (mCons (mVar 1) (mCons (mVar 5) mNil))) (mCall f__law_some_machine (mCons (mVar 1) mNil)))) (mSeq (mAsg 7 (mIf (mT (mOp oGt (mB1 fLen (mVar 2)) (mC (.int 1)))) (mSl (mVar 2) (mPart (mC (.int 1))) mNoP) (mVar 2))) (mSeq (mFor (mSq (mLst (mCons (mTup (mCons (mVar 2) (mCons (mVar 4) mNil))) (mCons (mTup (mCons (mVar 4) (mCons (mVar 2) mNil))) (mCons (mTup (mCons (mVar 5) (mCons (mVar 2) mNil))) (mCons (mTup (mCons (mVar 2) (mCons (mVar 5) mNil))) (mCons (mTup (mCons (mVar 6) (mCons (mVar 4) mNil))) (mCons (mTup (mCons (mVar 7) (mCons (mVar 2) mNil))) mNil)))))))) (gT 2 (gsCons (gN 8) (gsCons (gN 9) gsNil))) (mSeq (mIfS (mNotT (mT (mCall f__law_is_told (mCons (mVar 8) (mCons (mVar 9) mNil))))) (mRet (mC (.bl false))) mNext) (mIfS (mAndT (mT (mCall f_outdoes (mCons (mVar 8) (mCons (mVar 9) mNil)))) (mNotT (mT (mCall f__law_is_meant (mCons (mVar 1) (mCons (mVar 8) (mCons (mVar 9) mNil))))))) (mRet (mC (.bl false))) mNext))) (mSeq (mIfS (mOrT (mNotT (mT (mCall f_outdoes (mCons (mVar 2) (mCons (mVar 2) mNil))))) (mOrT (mNotT (mT (mCall f_outdoes (mCons (mVar 5) (mCons (mVar 2) mNil))))) (mNotT (mT (mCall f_outdoes (mCons (mVar 2) (mCons (mVar 7) mNil))))))) (mRet (mC (.bl false))) mNext) (mIfS (mAndT (mT (mCall f_outdoes (mCons (mVar 6) (mCons (mVar 5) mNil)))) (mNotT (mT (mCall f_outdoes (mCons (mVar 6) (mCons (mVar 2) mNil)))))) (mRet (mC (.bl false))) mNext)))))))) (mRet (mOp oEq (mB1 fRepr (mLst (mCons (mCall f_outdoes (mCons (mTup (mCons (mC (.int 7)) mNil)) (mCons (mTup (mCons (mC (.int 2)) (mCons (mC (.int 2)) mNil))) mNil))) (mCons (mCall f_outdoes (mCons (mTup (mCons (mC (.int 7)) mNil)) (mCons (mTup (mCons (mC (.int 2)) (mCons (mC (.int 2)) (mCons (mC (.int 2)) mNil)))) mNil))) mNil)))) (mB1 fRepr (mLst (mCons (mC (.bl true)) (mCons (mC (.bl false)) mNil)))))))))
def r_law : MFn := runDef 11 b_law
def f_law : MFn := r_law
theorem sc_law : FnScope N_law ["script"] (defScope s_law) := ⟨rfl, rfl, rfl, by decide +kernel, rfl, by decide +kernel, by decide +kernel⟩
theorem g_law {P : Program} {w : World} {K : PySem.W.Frag} {mg : Str → Option Value} {base : Heap} {fa : Addr} {fd : FuncData} (F : Fun K "law" "law" s_law fa fd) (T : Txt mg) (C__law_deck : Fn P w K mg base "_law_deck" s__law_deck 1 ["script"] f__law_deck) (C__law_draw : Fn P w K mg base "_law_draw" s__law_draw 1 ["deck", "many"] f__law_draw) (C__law_is_told : Fn P w K mg base "_law_is_told" s__law_is_told 5 ["one", "other"] f__law_is_told) (C__law_made : Fn P w K mg base "_law_made" s__law_made 3 ["deck", "machine"] f__law_made) (C__law_some_machine : Fn P w K mg base "_law_some_machine" s__law_some_machine 4 ["deck"] f__law_some_machine) (C_outdoes : Fn P w K mg base "outdoes" s_outdoes 4 ["one", "other"] f_outdoes) (C__law_is_meant : Fn P w K mg base "_law_is_meant" s__law_is_meant 5 ["deck", "one", "other"] f__law_is_meant) : FnG P w K mg base CX0 6 fa fd ["script"] (spM K 1 r_law) := by
  have S := sc_law
  refine okM (k := 5) F S fun cdv A outer s H E hr hgd => ?_
  have hu := hr.units
  have hu1 := hu_of hr
  exact (dss_cons (ds_set (i := 1) S.nd rfl (.inr rfl) (de_call C__law_deck (hr.mono (by decide)) hgd rfl (da_cons (de_var 0 (pv 0)) da_nil) rfl (hn := (len_cons len_nil))))
      (dss_cons (ds_if (dt_cmp (dop_eq hu) (de_call C__law_draw (hr.mono (by decide)) hgd rfl (da_cons (de_var 1 (pv 1)) (da_cons de_int da_nil)) rfl (hn := (len_cons (len_cons len_nil)))) de_int (nomark _)) (dss_cons (ds_set (i := 2) S.nd rfl (.inl rfl) (de_T1 dc_tuple rfl T.b_tuple (by decide +kernel) (de_lc (own := [("lane", 10)]) rfl S.nd (di_rng1 rfl T.b_range de_int) (blkOk_by (own := [("lane", 10)]) (N := N_law) (sc := defScope s_law) (by decide +kernel)) (tg_name (by decide)) (fun _ _ _ _ _ => (pg_name (i := 10) S.nd rfl (Or.inl rfl))) (fun _ _ _ _ _ => pts_nil') (fun _ _ _ _ _ => (de_op dop_add de_int (de_call C__law_draw (hr.mono (by decide)) hgd rfl (da_cons (de_var 1 (pv 1)) (da_cons de_int da_nil)) rfl (hn := (len_cons (len_cons len_nil)))))))))
      (dss_one (ds_ret (de_call C__law_is_told (hr.mono (by decide)) hgd rfl (da_cons (de_var 2 (pv 2)) (da_cons (de_call C__law_made (hr.mono (by decide)) hgd rfl (da_cons (de_var 1 (pv 1)) (da_cons (de_var 2 (pv 2)) da_nil)) rfl (hn := (len_cons (len_cons len_nil)))) da_nil)) rfl (hn := (len_cons (len_cons len_nil))))))) dss_nil)
      (dss_cons (ds_for PassesOwn.never rfl (di_rng1 rfl T.b_range de_int) (dg_name (vs := [3]) (pg_name (i := 3) S.nd rfl (.inl rfl)) (by decide)) (dss_cons (ds_par (i := 2) (j := 4) rfl S.nd rfl rfl (by decide) rfl rfl (da_cons (de_call C__law_some_machine (hr.mono (by decide)) hgd rfl (da_cons (de_var 1 (pv 1)) da_nil) rfl (hn := (len_cons len_nil))) (da_cons (de_call C__law_some_machine (hr.mono (by decide)) hgd rfl (da_cons (de_var 1 (pv 1)) da_nil) rfl (hn := (len_cons len_nil))) da_nil)) rfl)
      (dss_cons (ds_set (i := 5) S.nd rfl (.inl rfl) (de_call C__law_made (hr.mono (by decide)) hgd rfl (da_cons (de_var 1 (pv 1)) (da_cons (de_var 2 (pv 2)) da_nil)) rfl (hn := (len_cons (len_cons len_nil)))))
      (dss_cons (ds_set (i := 6) S.nd rfl (.inl rfl) (de_ifExp (dt_cmp (dop_eq hu) (de_call C__law_draw (hr.mono (by decide)) hgd rfl (da_cons (de_var 1 (pv 1)) (da_cons de_int da_nil)) rfl (hn := (len_cons (len_cons len_nil)))) de_int (nomark _)) (de_call C__law_made (hr.mono (by decide)) hgd rfl (da_cons (de_var 1 (pv 1)) (da_cons (de_var 5 (pv 5)) da_nil)) rfl (hn := (len_cons (len_cons len_nil)))) (de_call C__law_some_machine (hr.mono (by decide)) hgd rfl (da_cons (de_var 1 (pv 1)) da_nil) rfl (hn := (len_cons len_nil)))))
      (dss_cons (ds_set (i := 7) S.nd rfl (.inl rfl) (de_ifExp (dt_cmp dop_gt (de_B1 dc_len rfl T.b_len (by decide +kernel) (de_var 2 (pv 2))) de_int (nomark _)) (de_slice (de_var 2 (pv 2)) (dp_some de_int) dp_none) (de_var 2 (pv 2))))
      (dss_cons (ds_for PassesOwn.never rfl (di_seq (de_lst (da_cons (de_tup (da_cons (de_var 2 (pv 2)) (da_cons (de_var 4 (pv 4)) da_nil))) (da_cons (de_tup (da_cons (de_var 4 (pv 4)) (da_cons (de_var 2 (pv 2)) da_nil))) (da_cons (de_tup (da_cons (de_var 5 (pv 5)) (da_cons (de_var 2 (pv 2)) da_nil))) (da_cons (de_tup (da_cons (de_var 2 (pv 2)) (da_cons (de_var 5 (pv 5)) da_nil))) (da_cons (de_tup (da_cons (de_var 6 (pv 6)) (da_cons (de_var 4 (pv 4)) da_nil))) (da_cons (de_tup (da_cons (de_var 7 (pv 7)) (da_cons (de_var 2 (pv 2)) da_nil))) da_nil)))))))) (dg_tup (vs := [8, 9]) rfl (dgs_cons (dg_name (vs := [8, 9]) (pg_name (i := 8) S.nd rfl (.inl rfl)) (by decide)) (dgs_cons (dg_name (vs := [8, 9]) (pg_name (i := 9) S.nd rfl (.inl rfl)) (by decide)) dgs_nil))) (dss_cons (ds_if (dt_not (dt_val (de_call C__law_is_told (hr.mono (by decide)) hgd rfl (da_cons (de_var 8 (pv 8)) (da_cons (de_var 9 (pv 9)) da_nil)) rfl (hn := (len_cons (len_cons len_nil)))))) (dss_one (ds_ret de_bl)) dss_nil)
      (dss_one (ds_if (dt_w (dw_and (dt_val (de_call C_outdoes (hr.mono (by decide)) hgd rfl (da_cons (de_var 8 (pv 8)) (da_cons (de_var 9 (pv 9)) da_nil)) rfl (hn := (len_cons (len_cons len_nil))))) (dw_and1 (dt_not (dt_val (de_call C__law_is_meant (hr.mono (by decide)) hgd rfl (da_cons (de_var 1 (pv 1)) (da_cons (de_var 8 (pv 8)) (da_cons (de_var 9 (pv 9)) da_nil))) rfl (hn := (len_cons (len_cons (len_cons len_nil)))))))))) (dss_one (ds_ret de_bl)) dss_nil))))
      (dss_cons (ds_if (dt_w (dw_or (dt_not (dt_val (de_call C_outdoes (hr.mono (by decide)) hgd rfl (da_cons (de_var 2 (pv 2)) (da_cons (de_var 2 (pv 2)) da_nil)) rfl (hn := (len_cons (len_cons len_nil)))))) (dw_or (dt_not (dt_val (de_call C_outdoes (hr.mono (by decide)) hgd rfl (da_cons (de_var 5 (pv 5)) (da_cons (de_var 2 (pv 2)) da_nil)) rfl (hn := (len_cons (len_cons len_nil)))))) (dw_or1 (dt_not (dt_val (de_call C_outdoes (hr.mono (by decide)) hgd rfl (da_cons (de_var 2 (pv 2)) (da_cons (de_var 7 (pv 7)) da_nil)) rfl (hn := (len_cons (len_cons len_nil)))))))))) (dss_one (ds_ret de_bl)) dss_nil)
      (dss_one (ds_if (dt_w (dw_and (dt_val (de_call C_outdoes (hr.mono (by decide)) hgd rfl (da_cons (de_var 6 (pv 6)) (da_cons (de_var 5 (pv 5)) da_nil)) rfl (hn := (len_cons (len_cons len_nil))))) (dw_and1 (dt_not (dt_val (de_call C_outdoes (hr.mono (by decide)) hgd rfl (da_cons (de_var 6 (pv 6)) (da_cons (de_var 2 (pv 2)) da_nil)) rfl (hn := (len_cons (len_cons len_nil))))))))) (dss_one (ds_ret de_bl)) dss_nil)))))))))
      (dss_one (ds_ret (de_cmp (dop_eq hu) (de_B1 (dc_repr hgd hu) rfl T.b_repr (by decide +kernel) (de_lst (da_cons (de_call C_outdoes (hr.mono (by decide)) hgd rfl (da_cons (de_tup (da_cons de_int da_nil)) (da_cons (de_tup (da_cons de_int (da_cons de_int da_nil))) da_nil)) rfl (hn := (len_cons (len_cons len_nil)))) (da_cons (de_call C_outdoes (hr.mono (by decide)) hgd rfl (da_cons (de_tup (da_cons de_int da_nil)) (da_cons (de_tup (da_cons de_int (da_cons de_int (da_cons de_int da_nil)))) da_nil)) rfl (hn := (len_cons (len_cons len_nil)))) da_nil)))) (de_B1 (dc_repr hgd hu) rfl T.b_repr (by decide +kernel) (de_lst (da_cons de_bl (da_cons de_bl da_nil)))) (nomark _)))))))

end M
namespace M
open L2 LP
local macro_rules | `(tactic| walk_at "ev") => `(tactic| simp only [mSeq, mAsg, mAsgG, mSet, mRet, mExpr, mIfS, mFor, mC, mVar, mOp, mB1, mB2, mT, mIf, mNotT, mAndT, mOrT, mAndV, mOrV, mNotV, mNeg, mSq, mTup, mLst, mCons, mNil, mStar, mLc, gN, gsNil, gsCons, gT, mYes, mPar, mPar3, mNext, mPart, mNoP, mSl, mM0, mM1, mDPut, mDict0, mBack,
  ok_callW, ok_callKW, ok_rng1, ok_rng2, rg1_int, rg2_int, ok_bind, ok_ok, ok_noex, bind_ok, List.getElem?_cons_zero, List.getElem?_cons_succ, List.set_cons_zero, List.set_cons_succ, List.map_cons, List.map_nil, List.length_cons, List.length_nil, List.cons_append, List.nil_append, List.replicate_succ, List.replicate_zero, Nat.reduceAdd, Nat.reduceSub,
  settle_int, settle_bl, settle_tup, settle_ref, settle_non, settle_str, settle_sls, settle_new, srcOf_tup, srcOf_sls, srcOf_new, e_add, e_sub, e_lt, e_le, e_gt, e_ge, e_eq, e_ne, e_int, e_lenT, e_lenL, e_lenN, e_tupT, e_tupN, e_listT, e_listN, e_max2, e_min2, e_gcd, cont, wipeD, szl_small, if_true, Nat.reduceLeDiff, true_and, and_true, List.isEmpty_nil, Bool.not_true, Bool.not_false, Bool.false_eq_true, if_false])

/-- whole numbers, tuples of them -/
abbrev nD (n : Nat) : D := .int (n : Int)
abbrev tD (ms : List Nat) : D := .tup (ms.map nD)
/-- the span of some lanes -/
def spanA (ms : List Nat) (ls : List Nat) : Nat := lcmN (ls.map fun l => ms.getD l 1)
structure Mach (ms : List Nat) : Prop where
  pos : Pos ms
  small : ∀ m ∈ ms, m < 2 ^ 60
theorem lcm_form {a b : Nat} : a / Nat.gcd a b * b = Nat.lcm a b := by
  unfold Nat.lcm
  rw [Nat.div_mul_right_comm (Nat.gcd_dvd_left a b)]
theorem lcmN_append {a b : List Nat} : lcmN (a ++ b) = Nat.lcm (lcmN a) (lcmN b) := by
  refine Nat.dvd_antisymm (lcmN_dvd fun m hm => ?_) (Nat.lcm_dvd (lcmN_sub fun m hm => List.mem_append_left _ hm) (lcmN_sub fun m hm => List.mem_append_right _ hm))
  rcases List.mem_append.mp hm with h | h
  · exact Nat.dvd_trans (dvd_lcmN h) (Nat.dvd_lcm_left _ _)
  · exact Nat.dvd_trans (dvd_lcmN h) (Nat.dvd_lcm_right _ _)
theorem lcmN_one (m : Nat) : lcmN [m] = m := by simp [lcmN]
theorem v_span_of {ms ls : List Nat} {μ : Mu} (hm : Mach ms) (hl : ∀ l ∈ ls, l < ms.length) : Wp (f_span_of [tD ms, tD ls] μ) fun d μ' => d = nD (spanA ms ls) ∧ μ' = μ := by
  refine wp_run (b := b_span_of) ?_
  unfold b_span_of
  walk_at "ev"
  refine forD_ok (fun i ρ μ1 => μ1 = μ ∧ ∃ z, ρ = [some (tD ms), some (tD ls), some (nD (spanA ms (ls.take i))), z]) ⟨rfl, none, rfl⟩ ?_ ?_ ?_
  · exact fun _ _ _ _ => rfl
  · rintro i x ρ μ1 hx ⟨rfl, z, rfl⟩
    rw [List.getElem?_map] at hx
    cases hl' : ls[i]? with
    | none => rw [hl'] at hx; cases hx
    | some l =>
      rw [hl'] at hx
      cases hx
      have hlt := hl l (List.mem_of_getElem? hl')
      have hm' : ms[l]? = some ms[l] := List.getElem?_eq_getElem hlt
      have hat : atI (ms.map nD) (l : Int) = some (nD ms[l]) := atI_get' (by rw [List.getElem?_map, hm']; rfl)
      have hpos : 0 < ms[l] := hm.pos _ (List.getElem_mem hlt)
      have hsm : ms[l] < 2 ^ 60 := hm.small _ (List.getElem_mem hlt)
      walk_at "ev"
      rw [oIx_tup hat]
      walk_at "ev"
      have hg0 : 0 < (spanA ms (ls.take i)).gcd ms[l] := Nat.gcd_pos_of_pos_right _ hpos
      have hg1 : (spanA ms (ls.take i)).gcd ms[l] ≤ ms[l] := Nat.gcd_le_right _ hpos
      rw [oFdiv_ok (by omega) (by omega)]
      walk_at "ev"
      rw [oIx_tup hat]
      walk_at "ev"
      rw [oMul_ok (mulR (by omega) (by omega))]
      walk_at "ev"
      refine ⟨some (nD l), ?_⟩
      have e : ((spanA ms (ls.take i) : Nat) : Int) / (((spanA ms (ls.take i)).gcd ms[l] : Nat) : Int) * ((ms[l] : Nat) : Int) = ((spanA ms (ls.take (i + 1)) : Nat) : Int) := by
        rw [← Int.natCast_ediv, ← Int.natCast_mul, lcm_form]
        congr 1
        unfold spanA
        rw [List.take_succ, hl', List.map_append, lcmN_append]
        simp [lcmN_one, hm']
      rw [e]
  · rintro ρ μ1 ⟨rfl, z, rfl⟩
    walk_at "ev"
    rw [List.length_map, List.take_length]

theorem e_neT' {p : List Nat} {μ : Mu} : oNe (tD p) (.tup []) μ = .ok (.bl (!p.isEmpty)) μ := by
  have e : tD p = .tup ((p.map fun n : Nat => (n : Int)).map D.int) := by rw [tD, List.map_map]; rfl
  rw [e, e_neT, List.isEmpty_map]
theorem atI_last' {α : Type} {xs : List α} {x : α} : atI (xs ++ [x]) (-1) = some x := by
  unfold atI ixN
  rw [if_neg (by omega), if_pos (by simp; omega)]
  have e : (-1 + (((xs ++ [x]).length : Nat) : Int)).toNat = xs.length := by simp; omega
  rw [e]
  simp
theorem flat_take_le {α β : Type} {f : α → List β} : ∀ (l : List α) (j : Nat), ((l.take j).flatMap f).length ≤ (l.flatMap f).length
  | [], j => by simp
  | a :: l, 0 => by simp
  | a :: l, j + 1 => by
    rw [List.take_succ_cons, List.flatMap_cons, List.flatMap_cons, List.length_append, List.length_append]
    have := flat_take_le (f := f) l j
    omega
theorem flat_take_succ {α β : Type} {f : α → List β} {l : List α} {j : Nat} {a : α} (h : l[j]? = some a) : (l.take (j + 1)).flatMap f = (l.take j).flatMap f ++ f a := by
  rw [List.take_succ, h]
  simp
theorem set_last {μ : Mu} {o o' : O} : (μ ++ [o]).set μ.length o' = μ ++ [o'] := by
  rw [List.set_append_right _ _ (Nat.le_refl _)]
  simp
theorem picks_ext {n : Nat} {z : Int} {x : D} {f : Nat} {p : List Nat} {z6 z7 : Option D} {μ1 : Mu} {xs : List D} (hn : n ≤ 20) (hk2 : p.length ≤ 1000) (hnx : nxt p ≤ n) (hb : xs.length + (extL n p).length ≤ 16777216) : Ok (mSeq (mAsg 6 (mC (.int (nxt p : Nat)))) (mExpr (mM1 fExtend (mVar 4) (mLc (mRng2 (mVar 6) (mVar 0)) (gN 7) mYes (mTup (mStar (mVar 5) (mCons (mVar 7) mNil))) [7]))) [some (nD n), some (.int z), some (.ref f), some x, some (.ref μ1.length), some (tD p), z6, z7] (μ1 ++ [.lst xs]))
            fun r μ2 => r.1 = .nx ∧ μ2 = μ1 ++ [.lst (xs ++ (extL n p).map tD)] ∧ ∃ z6', r.2 = [some (nD n), some (.int z), some (.ref f), some x, some (.ref μ1.length), some (tD p), z6', z7] := by
  have hgot : (μ1 ++ [O.lst xs])[μ1.length]? = some (.lst xs) := get_last
  walk_at "ev"
  rw [lstAt_ref hgot]
  simp only
  walk_at "ev"
  refine ⟨sm_by (by omega) (by omega), sm_by (by omega) (by omega), ?_⟩
  refine lcD_ok (szl (by rw [rngD_len]; omega)) (fun m acc μ2 => μ2 = μ1 ++ [.lst xs] ∧ acc = ((List.range m).map fun i => p ++ [nxt p + i]).map tD) ⟨rfl, rfl⟩ (fun _ _ _ _ => rfl) ?_ ?_
  · rintro m w acc μ2 hw _ ⟨rfl, rfl⟩
    have hm : m < ((n : Int) - (nxt p : Nat)).toNat := by
      have := (List.getElem?_eq_some_iff.mp hw).1
      rwa [rngD_len] at this
    rw [rngD_get hm] at hw
    cases hw
    walk_at "ev"
    rw [if_pos (szl (by rw [List.length_append, List.length_map, List.length_singleton]; omega))]
    walk_at "ev"
    rw [List.range_succ, List.map_append, List.map_append]
    simp [tD]
  · rintro acc μ2 _ ⟨rfl, rfl⟩
    rw [rngD_len]
    have e1 : ((n : Int) - (nxt p : Nat)).toNat = n - nxt p := by omega
    rw [e1]
    rw [lstAt_ref hgot]
    simp only [fExtend, contM, ok_noex]
    have e2 : ((List.range (n - nxt p)).map fun i => p ++ [nxt p + i]) = extL n p := rfl
    rw [e2, if_pos (szl (by rw [List.length_map]; exact hb))]
    walk_at "ev"
    refine ⟨set_last, _, rfl⟩
theorem asg_c {i : Nat} {e : ME} {b : MS} {ρ : En} {μ : Mu} {d : D} {P : Fl × En → Mu → Prop} (h : e ρ μ = .ok d μ) (k : Ok (mSeq (mAsg i (mC d)) b ρ μ) P) : Ok (mSeq (mAsg i e) b ρ μ) P := by
  unfold mSeq mAsg mSet at *
  rw [h]
  exact k
theorem noex_ok {α : Type} {a : α} {μ : Mu} : noex (.ok a μ) = .ok a μ := rfl
theorem nxt_last {p : List Nat} {x : Nat} : ((nxt (p ++ [x]) : Nat) : Int) = (x : Int) + 1 := by rw [nxt_snoc]; omega
theorem v_picks {n k : Nat} {z : Int} {μ : Mu} (hn : n ≤ 20) (hk : k = z.toNat) (hk2 : k ≤ 1000) (hz : -1000 ≤ z) : Wp (f_picks [nD n, .int z] μ) fun d μ' => Pre μ μ' ∧ ∃ f, d = .ref f ∧ μ'[f]? = some (.lst ((picksL n k).map tD)) := by
  refine wp_run (b := b_picks) ?_
  unfold b_picks
  walk_at "ev"
  refine ⟨sm_by (by omega) (by omega), ?_⟩
  refine forD_ok (fun i ρ μ1 => Pre μ μ1 ∧ ∃ f z3 z4 z5 z6 z7, ρ = [some (nD n), some (.int z), some (.ref f), z3, z4, z5, z6, z7] ∧ f < μ1.length ∧ μ1[f]? = some (.lst ((picksL n i).map tD)))
    ⟨(Pre.refl μ).add _, μ.length, none, none, none, none, none, rfl, by simp, get_last⟩ ?_ ?_ ?_
  · exact fun _ _ _ _ => rfl
  · rintro i x ρ μ1 hx ⟨hpre, f, z3, z4, z5, z6, z7, rfl, hf, hfe⟩
    walk_at "ev"
    rw [srcOf_ref (by rw [List.getElem?_append_left hf]; exact hfe)]
    walk_at "ev"
    have hin : i < k := by
      have := (List.getElem?_eq_some_iff.mp hx).1
      rw [rngD_len] at this
      omega
    refine forD_ok (fun j ρ μ2 => μ2 = μ1 ++ [.lst ((((picksL n i).take j).flatMap (extL n)).map tD)] ∧ ∃ z5 z6 z7, ρ = [some (nD n), some (.int z), some (.ref f), some x, some (.ref μ1.length), z5, z6, z7])
      ⟨by simp, z5, z6, z7, rfl⟩ ?_ ?_ ?_
    · rintro j ρ μ2 ⟨rfl, _⟩
      exact ownB_some (by rw [List.getElem?_append_left hf]; exact hfe)
    · rintro j y ρ μ2 hy ⟨rfl, z5, z6, z7, rfl⟩
      rw [List.getElem?_map] at hy
      cases hp : (picksL n i)[j]? with
      | none => rw [hp] at hy; cases hy
      | some p =>
        rw [hp] at hy
        cases hy
        obtain ⟨q1, q2, q3⟩ := mem_picksL.mp (List.mem_of_getElem? hp)
        have hnx : nxt p ≤ n := nxt_le q3
        have hb : ((((picksL n i).take j).flatMap (extL n)).map tD).length + (extL n p).length ≤ 16777216 := by
          have h1 := flat_take_le (f := extL n) (picksL n i) (j + 1)
          rw [flat_take_succ hp, List.length_append] at h1
          have h2 : ((picksL n i).flatMap (extL n)).length ≤ 2 ^ n := picks_len n (i + 1)
          have h3 : 2 ^ n ≤ 2 ^ 20 := Nat.pow_le_pow_right (by omega) hn
          rw [List.length_map]
          omega
        have rest : ∀ z6 z7, Ok (mSeq (mAsg 6 (mC (.int (nxt p : Nat)))) (mExpr (mM1 fExtend (mVar 4) (mLc (mRng2 (mVar 6) (mVar 0)) (gN 7) mYes (mTup (mStar (mVar 5) (mCons (mVar 7) mNil))) [7]))) [some (nD n), some (.int z), some (.ref f), some x, some (.ref μ1.length), some (tD p), z6, z7] (μ1 ++ [.lst ((((picksL n i).take j).flatMap (extL n)).map tD)]))
            fun r μ2 => r.1 = .nx ∧ μ2 = μ1 ++ [.lst ((((picksL n i).take (j + 1)).flatMap (extL n)).map tD)] ∧ ∃ z6', r.2 = [some (nD n), some (.int z), some (.ref f), some x, some (.ref μ1.length), some (tD p), z6', z7] := by
          intro z6 z7
          refine ok_mono (picks_ext hn (by omega) hnx hb) ?_
          rintro r μ2 ⟨a, b, c⟩
          refine ⟨a, ?_, c⟩
          rw [b, flat_take_succ hp, List.map_append]
        simp only [gN, ok_ok, List.set_cons_succ, List.set_cons_zero]
        refine asg_c (d := .int (nxt p : Nat)) ?_ (ok_mono (rest z6 z7) ?_)
        · simp only [mIf, mT, mOp, mVar, mTup, mNil, mC, mNeg, bind_ok, List.getElem?_cons_zero, List.getElem?_cons_succ]
          rw [if_pos (szl (by simp))]
          simp only [bind_ok, e_neT', noex_ok]
          rcases List.eq_nil_or_concat p with rfl | ⟨q, w, rfl⟩
          · rfl
          · rw [List.concat_eq_append]
            have e : (q ++ [w]).isEmpty = false := by simp
            have e2 : oIx (tD (q ++ [w])) (.int (-1)) (μ1 ++ [O.lst (List.map tD (List.flatMap (extL n) (List.take j (picksL n i))))]) = .ok (nD w) _ := oIx_tup (by rw [List.map_append]; exact atI_last')
            rw [e, if_pos (show (!false) = true from rfl), e2, nxt_last]
            rfl
        · rintro ⟨r, ρ2⟩ μ2 ⟨h1, h2, z, h3⟩
          cases h1
          exact ⟨h2, _, _, _, h3⟩
    · rintro ρ2 μ2 ⟨rfl, z5, z6, z7, rfl⟩
      walk_at "ev"
      have hgot : (μ1 ++ [O.lst (List.map tD (List.flatMap (extL n) (List.take (List.map tD (picksL n i)).length (picksL n i))))])[μ1.length]? = _ := get_last
      rw [e_listR hgot]
      walk_at "ev"
      rw [List.length_map, List.take_length] at *
      exact ⟨(hpre.add _).add _, _, _, _, _, _, _, rfl, by simp, get_last⟩
  · rintro ρ2 μ2 ⟨hpre, f, z3, z4, z5, z6, z7, rfl, hf, hfe⟩
    walk_at "ev"
    rw [rngD_len] at hfe
    rw [← hk] at hfe
    exact ⟨hpre, f, rfl, hfe⟩

theorem putD_mem {kvs : List (Key × D)} {k q : Key} {d : D} : q ∈ (putD kvs k d).map Prod.fst ↔ q ∈ kvs.map Prod.fst ∨ q = k := by
  unfold putD
  split
  · rename_i h
    have e : (kvs.map (fun kv => if kv.1 = k then (kv.1, d) else kv)).map Prod.fst = kvs.map Prod.fst := by
      rw [List.map_map]
      refine List.map_congr_left fun kv _ => ?_
      simp only [Function.comp]
      split <;> rfl
    rw [e]
    refine ⟨fun z => .inl z, fun z => ?_⟩
    rcases z with z | rfl
    · exact z
    · obtain ⟨kv, h1, h2⟩ := List.any_eq_true.mp h
      exact List.mem_map.mpr ⟨kv, h1, of_decide_eq_true h2⟩
  · rw [List.map_append, List.mem_append]
    simp
theorem putD_len {kvs : List (Key × D)} {k : Key} {d : D} : (putD kvs k d).length ≤ kvs.length + 1 := by
  unfold putD
  split
  · rw [List.length_map]; omega
  · rw [List.length_append]; simp
theorem keysI_some : ∀ {kvs : List (Key × D)}, (∀ q ∈ kvs.map Prod.fst, ∃ n : Nat, q = .inl (n : Int)) → ∃ ks : List Nat, keysI kvs = some (ks.map fun n : Nat => (n : Int)) ∧ ∀ n : Nat, n ∈ ks ↔ (.inl (n : Int) : Key) ∈ kvs.map Prod.fst
  | [], _ => ⟨[], rfl, by simp⟩
  | (k, d) :: r, h => by
    obtain ⟨n, hn⟩ := h k (by simp)
    cases hn
    obtain ⟨ks, h1, h2⟩ := keysI_some (kvs := r) fun q hq => h q (by rw [List.map_cons]; exact List.mem_cons_of_mem _ hq)
    refine ⟨n :: ks, ?_, fun m => ?_⟩
    · show (keysI r).map _ = _
      rw [h1]
      rfl
    · rw [List.mem_cons, h2 m, List.map_cons, List.mem_cons]
      constructor
      · rintro (rfl | z)
        · exact .inl rfl
        · exact .inr z
      · rintro (z | z)
        · left
          injection z with z
          omega
        · exact .inr z
theorem Pre.set_last {a b : Mu} {o o' : O} (h : Pre a b) : Pre a ((b ++ [o]).set b.length o') := (h.add _).set h.len _
/-- the spans of all picks of a size: the least comes first -/
theorem v_spans_of {ms : List Nat} {z : Int} {μ : Mu} (hm : Mach ms) (hl : ms.length ≤ 20) (hz : -1000 ≤ z) (hz2 : z.toNat ≤ ms.length) : Wp (f_spans_of [tD ms, .int z] μ) fun d μ' => Pre μ μ' ∧ ∃ f xs, d = .ref f ∧ μ'[f]? = some (.lst (nD (Lf ms z.toNat) :: xs)) := by
  refine wp_run (b := b_spans_of) ?_
  unfold b_spans_of
  walk_at "ev"
  rw [List.length_map]
  refine (v_picks hl rfl (by omega) hz).mono ?_
  rintro d μ1 ⟨hpre, f, rfl, hf⟩
  rw [srcOf_ref hf]
  walk_at "ev"
  have hlt : f < μ1.length := (List.getElem?_eq_some_iff.mp hf).1
  have hμ : μ.length < μ1.length := by
    have := hpre.len
    simp at this
    omega
  have hdic : μ1[μ.length]? = some (.dic []) := hpre.get get_last
  have hfn : f ≠ μ.length := by
    rintro rfl
    rw [hf] at hdic
    cases hdic
  have hp0 : Pre μ μ1 := (Pre.refl μ).add [.dic []] |>.trans hpre
  have hlen : (picksL ms.length z.toNat).length ≤ 2 ^ 20 := Nat.le_trans (picks_len _ _) (Nat.pow_le_pow_right (by omega) hl)
  refine forD_ok (fun i ρ μ2 => Pre μ μ2 ∧ μ2.length = μ1.length ∧ μ2[f]? = μ1[f]? ∧ (∃ z3, ρ = [some (tD ms), some (.int z), some (.ref μ.length), z3]) ∧ ∃ kvs, μ2[μ.length]? = some (.dic kvs) ∧ kvs.length ≤ i ∧ ∀ q, q ∈ kvs.map Prod.fst ↔ ∃ p ∈ (picksL ms.length z.toNat).take i, q = .inl ((spanA ms p : Nat) : Int))
    ⟨hp0, rfl, rfl, ⟨none, rfl⟩, [], hdic, Nat.le_refl _, by simp⟩ ?_ ?_ ?_
  · rintro i ρ μ2 ⟨_, _, h, _⟩
    exact ownB_some (by rw [h]; exact hf)
  · rintro i y ρ μ2 hy ⟨h1, h2, h3, ⟨z3, rfl⟩, kvs, h4, h5, h6⟩
    rw [List.getElem?_map] at hy
    cases hp : (picksL ms.length z.toNat)[i]? with
    | none => rw [hp] at hy; cases hy
    | some p =>
      rw [hp] at hy
      cases hy
      have hi := (List.getElem?_eq_some_iff.mp hp).1
      obtain ⟨q1, q2, q3⟩ := mem_picksL.mp (List.mem_of_getElem? hp)
      walk_at "ev"
      refine (v_span_of hm q3).mono ?_
      rintro d μ3 ⟨rfl, rfl⟩
      rw [dicAt_ref h4]
      simp only [keyOf]
      rw [if_pos (Nat.lt_of_lt_of_le (show kvs.length < 16777216 by omega) (Nat.le_of_eq PySem.sizeLine_eq.symm))]
      walk_at "ev"
      have hμ2 : μ.length < μ3.length := by omega
      refine ⟨h1.set (Nat.le_refl _) _, by rw [List.length_set]; exact h2, by rw [List.getElem?_set_ne hfn.symm]; exact h3, ⟨_, rfl⟩, _, by rw [List.getElem?_set_self hμ2], by have := putD_len (kvs := kvs) (k := .inl ((spanA ms p : Nat) : Int)) (d := .bl true); omega, fun q => ?_⟩
      rw [putD_mem, h6 q, List.take_succ, hp]
      constructor
      · rintro (⟨p', a, b⟩ | a)
        · exact ⟨p', List.mem_append_left _ a, b⟩
        · exact ⟨p, List.mem_append_right _ (by simp), a⟩
      · rintro ⟨p', a, b⟩
        rcases List.mem_append.mp a with a | a
        · exact .inl ⟨p', a, b⟩
        · simp at a
          subst a
          exact .inr b
  · rintro ρ μ2 ⟨h1, h2, h3, ⟨z3, rfl⟩, kvs, h4, h5, h6⟩
    walk_at "ev"
    rw [List.length_map, List.take_length] at h6
    obtain ⟨ks, k1, k2⟩ := keysI_some (kvs := kvs) fun q hq => let ⟨p, _, b⟩ := (h6 q).mp hq; ⟨_, b⟩
    have hk : ∀ n : Nat, n ∈ ks ↔ ∃ p ∈ picksL ms.length z.toNat, n = spanA ms p := fun n => by
      rw [k2, h6]
      refine ⟨fun ⟨p, a, b⟩ => ⟨p, a, ?_⟩, fun ⟨p, a, b⟩ => ⟨p, a, by rw [b]⟩⟩
      injection b with b
      omega
    have e : fSorted [.ref μ.length] μ2 = .ok (.new ((sortI (ks.map fun n : Nat => (n : Int))).map D.int)) μ2 := by
      simp only [fSorted, h4, k1]
    rw [e]
    walk_at "ev"
    refine ⟨h1.add _, μ2.length, ?_⟩
    have hperm := sortI_perm (ks.map fun n : Nat => (n : Int))
    have hsort := sortI_sorted (ks.map fun n : Nat => (n : Int))
    have hone : sortI (ks.map fun n : Nat => (n : Int)) ≠ [] := by
      intro e0
      rw [e0] at hperm
      have e1 := List.map_eq_nil_iff.mp hperm.symm.eq_nil
      obtain ⟨p, a, b⟩ := picksL_all (ms := ms) (s := ms.take z.toNat) (List.take_sublist _ _)
      rw [List.length_take, Nat.min_eq_left hz2] at a
      have := (hk (spanA ms p)).mpr ⟨p, a, rfl⟩
      rw [e1] at this
      cases this
    cases es : sortI (ks.map fun n : Nat => (n : Int)) with
    | nil => exact (hone es).elim
    | cons v rest =>
      rw [es] at hsort hperm
      have hv : v ∈ ks.map fun n : Nat => (n : Int) := hperm.mem_iff.mp List.mem_cons_self
      obtain ⟨w, hw, rfl⟩ := List.mem_map.mp hv
      have hL : Lf ms z.toNat = w := by
        refine Lf_eq ⟨?_, fun s s1 s2 => ?_⟩
        · obtain ⟨p, a, b⟩ := (hk w).mp hw
          exact ⟨_, picksL_some a, by rw [List.length_map]; exact (mem_picksL.mp a).1, b.symm⟩
        · obtain ⟨p, a, b⟩ := picksL_all s1
          rw [s2] at a
          have h7 := (hk (spanA ms p)).mpr ⟨p, a, rfl⟩
          have h8 : ((spanA ms p : Nat) : Int) ∈ ((w : Int) :: rest) := hperm.mem_iff.mpr (List.mem_map.mpr ⟨_, h7, rfl⟩)
          rw [b]
          rcases List.mem_cons.mp h8 with h9 | h9
          · have : spanA ms p = w := by omega
            rw [← this]
            exact Nat.le_refl _
          · have := (List.pairwise_cons.mp hsort).1 _ h9
            have h10 : w ≤ spanA ms p := by omega
            exact h10
      rw [hL]
      exact ⟨rest.map D.int, rfl, get_last⟩

theorem v_least_left {ms : List Nat} {t : Nat} {μ : Mu} (hm : Mach ms) (hl : ms.length ≤ 20) (ht : t ≤ 400) : Wp (f_least_left [tD ms, nD t] μ) fun d μ' => Pre μ μ' ∧ d = nD (Lf ms (ms.length - 2 * t)) := by
  refine wp_run (b := b_least_left) ?_
  unfold b_least_left
  walk_at "ev"
  rw [oMul_ok (mulL (by omega) (by omega))]
  walk_at "ev"
  rw [List.length_map]
  refine (v_spans_of hm hl (by omega) (by omega)).mono ?_
  rintro d μ1 ⟨hp, f, xs, rfl, hf⟩
  rw [oIx_ref hf (d := nD (Lf ms ((ms.length : Int) - 2 * (t : Int)).toNat)) (by exact atI_get' (i := 0) rfl)]
  walk_at "ev"
  have e : ((ms.length : Int) - 2 * (t : Int)).toNat = ms.length - 2 * t := by omega
  rw [e]
  exact ⟨hp, rfl⟩
theorem v_outdoes {ms ns : List Nat} {μ : Mu} (hm : Mach ms) (hl : ms.length ≤ 20) (hn : Mach ns) (hl2 : ns.length ≤ 20) : Wp (f_outdoes [tD ms, tD ns] μ) fun d μ' => Pre μ μ' ∧ ∃ b, d = .bl b ∧ (b = true ↔ OD ms ns) := by
  refine wp_run (b := b_outdoes) ?_
  unfold b_outdoes
  walk_at "ev"
  rw [List.length_map, List.length_map]
  have hmax : ∃ k : Nat, (if (ns.length : Int) > (ms.length : Int) then (ns.length : Int) else (ms.length : Int)) = (k : Int) ∧ k ≤ 20 ∧ ns.length ≤ k := by
    by_cases h : (ns.length : Int) > (ms.length : Int)
    · exact ⟨ns.length, by rw [if_pos h], hl2, Nat.le_refl _⟩
    · exact ⟨ms.length, by rw [if_neg h], hl, by omega⟩
  obtain ⟨k, e, k1, k2⟩ := hmax
  rw [e, oFdiv_ok (by omega) (by omega)]
  walk_at "ev"
  refine ⟨sm_by (by omega) (by omega), ?_⟩
  have e2 : ((k : Int) / 2 + 1).toNat = k / 2 + 1 := by omega
  rw [e2]
  refine forD_ok (fun i ρ μ1 => Pre μ μ1 ∧ (∃ z, ρ = [some (tD ms), some (tD ns), z]) ∧ ∀ t, t < i → Lf ns (ns.length - 2 * t) ≤ Lf ms (ms.length - 2 * t)) ⟨Pre.refl μ, ⟨none, rfl⟩, fun t h => by omega⟩ ?_ ?_ ?_
  · exact fun _ _ _ _ => rfl
  · rintro i x ρ μ1 hx ⟨hp, ⟨z, rfl⟩, hi⟩
    have hlt : i < k / 2 + 1 := by
      have := (List.getElem?_eq_some_iff.mp hx).1
      rwa [rngD_len] at this
    rw [rngD_get hlt] at hx
    cases hx
    have ez : (0 : Int) + (i : Int) = (i : Int) := by omega
    rw [ez]
    walk_at "ev"
    refine (v_least_left hm hl (t := i) (by omega)).mono ?_
    rintro d μ2 ⟨p2, rfl⟩
    refine (v_least_left hn hl2 (t := i) (by omega)).mono ?_
    rintro d μ3 ⟨p3, rfl⟩
    walk_at "ev"
    by_cases hc : ((Lf ms (ms.length - 2 * i) : Nat) : Int) < ((Lf ns (ns.length - 2 * i) : Nat) : Int)
    · rw [decide_eq_true hc, if_pos rfl]
      walk_at "ev"
      refine ⟨(hp.trans p2).trans p3, false, rfl, ?_⟩
      constructor
      · intro h; cases h
      · intro h
        have := h i
        omega
    · rw [decide_eq_false hc, if_neg (by simp)]
      walk_at "ev"
      refine ⟨(hp.trans p2).trans p3, ⟨_, rfl⟩, fun t ht => ?_⟩
      by_cases h : t = i
      · subst h; omega
      · exact hi t (by omega)
  · rintro ρ μ1 ⟨hp, ⟨z, rfl⟩, hi⟩
    walk_at "ev"
    rw [rngD_len] at hi
    refine ⟨hp, true, rfl, ?_⟩
    exact ⟨fun _ => (od_iff hm.pos (k / 2 + 1) (by omega)).mpr hi, fun _ => rfl⟩

/-! division, the spans of all sizes -/
theorem v_divisor {a b : Nat} {μ : Mu} (hb : b < 2 ^ 4000) : Wp (f__law_divisor [nD a, nD b] μ) fun d μ' => d = nD (Nat.gcd a b) ∧ μ' = μ := by
  refine wp_run (b := b__law_divisor) ?_
  unfold b__law_divisor
  walk_at "ev"
  refine while_ok (fun n ρ μ1 => μ1 = μ ∧ ∃ a' : Nat, ρ = [some (nD a'), some (nD n)] ∧ Nat.gcd a' n = Nat.gcd a b) b hb ⟨rfl, a, rfl, rfl⟩ ?_
  rintro n ρ μ1 ⟨rfl, a', rfl, hg⟩
  walk_at "ev"
  by_cases h : (0 : Int) < (n : Int)
  · rw [decide_eq_true h, if_pos rfl, oMod_ok h]
    walk_at "ev"
    refine ⟨a' % n, Nat.mod_lt _ (by omega), ?_⟩
    rw [← Int.natCast_emod]
    refine ⟨n, rfl, ?_⟩
    rw [← hg, Nat.gcd_comm a' n, Nat.gcd_rec n a', Nat.gcd_comm]
  · rw [decide_eq_false h, if_neg (by simp)]
    have : n = 0 := by omega
    subst this
    rw [Nat.gcd_zero_right] at hg
    rw [hg]
    first | done | exact ⟨rfl, rfl⟩
/-! plainly -/
abbrev Sp := Nat × Nat
def stepL (m : Nat) (e : List Sp) : List Sp := e ++ e.map fun q => (q.1 + 1, Nat.lcm q.2 m)
def everyL (ms : List Nat) : List Sp := ms.foldl (fun e m => stepL m e) [(0, 1)]
theorem everyL_snoc {ms : List Nat} {m : Nat} : everyL (ms ++ [m]) = stepL m (everyL ms) := by
  unfold everyL
  rw [List.foldl_append]
  rfl
theorem everyL_len : ∀ (k : Nat) (ms : List Nat), ms.length = k → (everyL ms).length = 2 ^ k
  | 0, ms, h => by
    rw [List.eq_nil_of_length_eq_zero h]
    rfl
  | k + 1, ms, h => by
    rcases List.eq_nil_or_concat ms with rfl | ⟨r, m, rfl⟩
    · cases h
    · rw [List.concat_eq_append] at *
      rw [everyL_snoc]
      unfold stepL
      have := everyL_len k r (by simpa using h)
      rw [List.length_append, List.length_map, this, Nat.pow_succ]
      omega
theorem everyL_mem : ∀ (k : Nat) (ms : List Nat), ms.length = k → ∀ s v, (s, v) ∈ everyL ms ↔ ∃ t : List Nat, t.Sublist ms ∧ t.length = s ∧ lcmN t = v
  | 0, ms, h, s, v => by
    rw [List.eq_nil_of_length_eq_zero h]
    show (s, v) ∈ [(0, 1)] ↔ _
    rw [List.mem_singleton]
    constructor
    · intro e
      injection e with e1 e2
      subst e1 e2
      exact ⟨[], List.nil_sublist _, rfl, rfl⟩
    · rintro ⟨t, h1, h2, h3⟩
      have := List.sublist_nil.mp h1
      subst this
      subst h2 h3
      rfl
  | k + 1, ms, h, s, v => by
    rcases List.eq_nil_or_concat ms with rfl | ⟨r, m, rfl⟩
    · cases h
    · rw [List.concat_eq_append] at *
      rw [everyL_snoc]
      unfold stepL
      have ih := everyL_mem k r (by simpa using h)
      rw [List.mem_append, ih s v]
      constructor
      · rintro (⟨t, h1, h2, h3⟩ | g)
        · exact ⟨t, h1.trans (List.sublist_append_left _ _), h2, h3⟩
        · obtain ⟨⟨s', v'⟩, g1, g2⟩ := List.mem_map.mp g
          obtain ⟨t, h1, h2, h3⟩ := (ih s' v').mp g1
          injection g2 with e1 e2
          refine ⟨t ++ [m], h1.append (List.Sublist.refl _), by rw [List.length_append, h2]; exact e1, ?_⟩
          rw [lcmN_append, lcmN_one, h3]
          exact e2
      · rintro ⟨t, h1, h2, h3⟩
        obtain ⟨t1, t2, rfl, g1, g2⟩ := List.sublist_append_iff.mp h1
        rcases List.sublist_cons_iff.mp g2 with g3 | ⟨u, rfl, g3⟩
        · have := List.sublist_nil.mp g3
          subst this
          rw [List.append_nil] at h2 h3
          exact .inl ⟨t1, g1, h2, h3⟩
        · have := List.sublist_nil.mp g3
          subst this
          refine .inr (List.mem_map.mpr ⟨(t1.length, lcmN t1), (ih _ _).mpr ⟨t1, g1, rfl, rfl⟩, ?_⟩)
          rw [lcmN_append, lcmN_one] at h3
          rw [← h3, ← h2]
          simp
theorem everyL_size {ms : List Nat} {q : Sp} (h : q ∈ everyL ms) : q.1 ≤ ms.length := by
  obtain ⟨t, h1, h2, _⟩ := (everyL_mem _ ms rfl q.1 q.2).mp h
  rw [← h2]
  exact h1.length_le
/-- the least of the spans of one size -/
theorem everyL_least {ms : List Nat} {s w : Nat} (hw : (s, w) ∈ everyL ms) (hl : ∀ v, (s, v) ∈ everyL ms → w ≤ v) : Lf ms s = w := by
  refine Lf_eq ⟨?_, fun t h1 h2 => ?_⟩
  · exact (everyL_mem _ ms rfl s w).mp hw
  · exact hl _ ((everyL_mem _ ms rfl s _).mpr ⟨t, h1, h2, rfl⟩)
theorem everyL_some {ms : List Nat} {s : Nat} (h : s ≤ ms.length) : ∃ w, (s, w) ∈ everyL ms := ⟨_, (everyL_mem _ ms rfl s _).mpr ⟨ms.take s, List.take_sublist _ _, by rw [List.length_take]; omega, rfl⟩⟩
def blankL (k : Nat) : Mu := List.replicate k (.lst [])
theorem blankL_len {k : Nat} : (blankL k).length = k := List.length_replicate
theorem blankL_succ {k : Nat} : blankL (k + 1) = blankL k ++ [.lst []] := List.replicate_succ'
theorem blankL_get {k i : Nat} (h : i < k) : (blankL k)[i]? = some (.lst []) := by
  unfold blankL
  rw [List.getElem?_replicate, if_pos h]
abbrev spD (q : Sp) : D := .tup [nD q.1, nD q.2]
theorem v_spans {ms : List Nat} {μ : Mu} (hm : Mach ms) (hl : ms.length ≤ 20) : Wp (f__law_spans [tD ms] μ) fun d μ' => Pre μ μ' ∧ ∃ f p, d = .ref f ∧ μ'[f]? = some (.lst ((List.range (ms.length + 1)).map fun s => D.ref (p + s))) ∧ ∀ s, s ≤ ms.length → μ'[p + s]? = some (.lst (((everyL ms).filter fun q => decide (q.1 = s)).map fun q => nD q.2)) := by
  refine wp_run (n := 6) (b := b__law_spans) (ds := [tD ms]) ?_
  delta b__law_spans
  walk_at "ev"
  rw [List.length_map]
  refine ⟨sm_by (by omega) (by omega), ?_⟩
  have en : ((ms.length : Int) + 1).toNat = ms.length + 1 := by omega
  rw [en]
  refine lcD_ok (szl (by rw [rngD_len]; omega)) (fun i acc μ1 => μ1 = μ ++ blankL i ∧ acc = (List.range i).map fun s => D.ref (μ.length + s)) ⟨(List.append_nil μ).symm, rfl⟩ (fun _ _ _ _ => rfl) ?_ ?_
  · rintro i x acc μ1 hx ha ⟨rfl, rfl⟩
    walk_at "ev"
    refine ⟨?_, ?_⟩
    · rw [List.append_assoc, blankL_succ]
    · rw [List.range_succ, List.map_append, List.length_append, blankL_len]
      rfl
  · rintro acc μ1 ha ⟨rfl, rfl⟩
    rw [rngD_len]
    obtain ⟨A, hA⟩ : ∃ A, A = μ ++ blankL (ms.length + 1) ++ [O.lst ((List.range (ms.length + 1)).map fun s => D.ref (μ.length + s))] := ⟨_, rfl⟩
    have hp : Pre μ A := by rw [hA]; exact ((Pre.refl μ).add _).add _
    have hAl : A.length = μ.length + ms.length + 2 := by rw [hA]; simp [blankL_len]; omega
    have hf : A[μ.length + ms.length + 1]? = some (.lst ((List.range (ms.length + 1)).map fun s => D.ref (μ.length + s))) := by
      rw [hA]
      have : μ.length + ms.length + 1 = (μ ++ blankL (ms.length + 1)).length := by simp [blankL_len]; omega
      rw [this]
      exact get_last
    have he : ∀ s, s ≤ ms.length → A[μ.length + s]? = some (.lst []) := by
      intro s hs
      rw [hA, List.getElem?_append_left (by simp [blankL_len]; omega), List.getElem?_append_right (by omega), blankL_get (by omega)]
    have hfn : (μ ++ blankL (ms.length + 1)).length = μ.length + ms.length + 1 := by simp [blankL_len]; omega
    rw [← hA, hfn]
    clear hfn hA
    refine forD_ok (fun i ρ μ2 => Pre A μ2 ∧ ∃ k z3 z4 z5, ρ = [some (tD ms), some (.ref (μ.length + ms.length + 1)), some (.ref k), z3, z4, z5] ∧ A.length ≤ k ∧ μ2[k]? = some (.lst ((everyL (ms.take i)).map spD)))
      ⟨(Pre.refl A).add _, A.length, none, none, none, rfl, Nat.le_refl _, get_last⟩ ?_ ?_ ?_
    · exact fun _ _ _ _ => rfl
    · rintro i x ρ μ2 hx ⟨hp2, k, z3, z4, z5, rfl, hk, hke⟩
      rw [List.getElem?_map] at hx
      cases hl' : ms[i]? with
      | none => rw [hl'] at hx; cases hx
      | some m =>
        rw [hl'] at hx
        cases hx
        have hmp : 0 < m := hm.pos _ (List.mem_of_getElem? hl')
        have hms : m < 2 ^ 60 := hm.small _ (List.mem_of_getElem? hl')
        have hil := (List.getElem?_eq_some_iff.mp hl').1
        have hlen : (everyL (ms.take i)).length = 2 ^ i := everyL_len i _ (by rw [List.length_take]; omega)
        have h20 : 2 ^ i ≤ 2 ^ 20 := Nat.pow_le_pow_right (by omega) (by omega)
        walk_at "ev"
        rw [srcOf_ref hke]
        walk_at "ev"
        refine lcD_ok (szl (by rw [List.length_map]; omega)) (fun j acc μ3 => μ3 = μ2 ∧ acc = (((everyL (ms.take i)).take j).map fun q => (q.1 + 1, Nat.lcm q.2 m)).map spD) ⟨rfl, rfl⟩ (fun j acc μ3 h => by rw [h.1]; exact ownB_some hke) ?_ ?_
        · rintro j y acc μ3 hy ha ⟨rfl, rfl⟩
          rw [List.getElem?_map] at hy
          cases hq : (everyL (ms.take i))[j]? with
          | none => rw [hq] at hy; cases hy
          | some q =>
            rw [hq] at hy
            cases hy
            walk_at "ev"
            refine (v_divisor (by omega)).mono ?_
            rintro d μ4 ⟨rfl, rfl⟩
            have hg0 : 0 < Nat.gcd q.2 m := Nat.gcd_pos_of_pos_right _ hmp
            have hg1 : Nat.gcd q.2 m ≤ m := Nat.gcd_le_right _ hmp
            rw [oFdiv_ok (by omega) (by omega)]
            walk_at "ev"
            rw [oMul_ok (mulR (by omega) (by omega))]
            walk_at "ev"
            have e : ((q.2 : Nat) : Int) / ((Nat.gcd q.2 m : Nat) : Int) * ((m : Nat) : Int) = ((Nat.lcm q.2 m : Nat) : Int) := by
              rw [← Int.natCast_ediv, ← Int.natCast_mul, lcm_form]
            rw [e, List.take_succ, hq, List.map_append, List.map_append]
            rfl
        · rintro acc μ3 ha ⟨rfl, rfl⟩
          rw [List.length_map, List.take_length]
          rw [e_addRN hke (by rw [List.length_map, List.length_map, List.length_map, hlen]; omega)]
          walk_at "ev"
          refine ⟨hp2.add _, _, _, _, _, rfl, by have := hp2.len; omega, ?_⟩
          have e : everyL (ms.take (i + 1)) = stepL m (everyL (ms.take i)) := by
            rw [List.take_succ, hl']
            exact everyL_snoc
          rw [e]
          unfold stepL
          rw [List.map_append]
          exact get_last
    · rintro ρ μ2 ⟨hp2, k, z3, z4, z5, rfl, hk, hke⟩
      rw [List.length_map, List.take_length] at hke
      walk_at "ev"
      rw [srcOf_ref hke]
      walk_at "ev"
      have hlen : (everyL ms).length = 2 ^ ms.length := everyL_len _ _ rfl
      have h20 : 2 ^ ms.length ≤ 2 ^ 20 := Nat.pow_le_pow_right (by omega) hl
      refine forD_ok (fun i ρ μ3 => Pre μ μ3 ∧ (∃ z4 z5, ρ = [some (tD ms), some (.ref (μ.length + ms.length + 1)), some (.ref k), z3, z4, z5]) ∧ μ3[k]? = some (.lst ((everyL ms).map spD)) ∧ μ3[μ.length + ms.length + 1]? = some (.lst ((List.range (ms.length + 1)).map fun s => D.ref (μ.length + s))) ∧ ∀ s, s ≤ ms.length → μ3[μ.length + s]? = some (.lst ((((everyL ms).take i).filter fun q => decide (q.1 = s)).map fun q => nD q.2)))
        ⟨hp.trans hp2, ⟨z4, z5, rfl⟩, hke, hp2.get hf, fun s hs => hp2.get (he s hs)⟩ ?_ ?_ ?_
      · rintro i ρ μ3 ⟨_, _, h, _⟩
        exact ownB_some h
      · rintro i y ρ μ3 hy ⟨hp3, ⟨z4, z5, rfl⟩, h1, h2, h3⟩
        rw [List.getElem?_map] at hy
        cases hq : (everyL ms)[i]? with
        | none => rw [hq] at hy; cases hy
        | some q =>
          rw [hq] at hy
          cases hy
          have hqs : q.1 ≤ ms.length := everyL_size (List.mem_of_getElem? hq)
          have hil := (List.getElem?_eq_some_iff.mp hq).1
          walk_at "ev"
          rw [oIx_ref h2 (d := .ref (μ.length + q.1)) (atI_get' (by rw [List.getElem?_map, List.getElem?_range (by omega)]; rfl))]
          walk_at "ev"
          rw [lstAt_ref (h3 q.1 hqs)]
          simp only
          walk_at "ev"
          rw [e_app (by intro xs h; cases h) (by
            rw [List.length_map]
            have := List.length_filter_le (fun r : Sp => decide (r.1 = q.1)) ((everyL ms).take i)
            have := List.length_take_le i (everyL ms)
            omega)]
          walk_at "ev"
          have hlt3 : μ.length + q.1 < μ3.length := (List.getElem?_eq_some_iff.mp (h3 q.1 hqs)).1
          refine ⟨hp3.set (by omega) _, ⟨_, _, rfl⟩, by rw [List.getElem?_set_ne (by omega)]; exact h1, by rw [List.getElem?_set_ne (by omega)]; exact h2, fun s hs => ?_⟩
          by_cases e : s = q.1
          · subst e
            rw [List.getElem?_set_self hlt3, List.take_succ, hq, List.filter_append, List.map_append]
            simp
          · rw [List.getElem?_set_ne (by omega), h3 s hs, List.take_succ, hq, List.filter_append]
            have : List.filter (fun r : Sp => decide (r.1 = s)) (some q).toList = [] := by simp; omega
            rw [this, List.append_nil]
      · rintro ρ μ3 ⟨hp3, ⟨z4, z5, rfl⟩, h1, h2, h3⟩
        walk_at "ev"
        rw [List.length_map, List.take_length] at h3
        exact ⟨hp3, _, _, rfl, h2, h3⟩

noncomputable def lAt (ms : List Nat) (t : Nat) : Nat := Lf ms (ms.length - 2 * t)
noncomputable def leL (ms : List Nat) : List Nat := ((List.range (ms.length / 2 + 1)).map fun t => lAt ms t) ++ [1]
theorem leL_len (ms : List Nat) : (leL ms).length = ms.length / 2 + 2 := by simp [leL]
theorem lAt_far {ms : List Nat} {t : Nat} (h : ms.length ≤ 2 * t) : lAt ms t = 1 := by
  unfold lAt
  rw [show ms.length - 2 * t = 0 by omega, Lf_zero]
theorem leL_get {ms : List Nat} {t : Nat} (h : t < ms.length / 2 + 2) : (leL ms)[t]? = some (lAt ms t) := by
  unfold leL
  by_cases h1 : t < ms.length / 2 + 1
  · rw [List.getElem?_append_left (by simpa using h1), List.getElem?_map, List.getElem?_range h1]
    rfl
  · rw [List.getElem?_append_right (by simp; omega)]
    have : t = ms.length / 2 + 1 := by omega
    subst this
    rw [lAt_far (by omega)]
    simp
theorem v_leasts {ms : List Nat} {μ : Mu} (hm : Mach ms) (hl : ms.length ≤ 20) : Wp (f__law_leasts [tD ms] μ) fun d μ' => Pre μ μ' ∧ ∃ f, d = .ref f ∧ μ'[f]? = some (.lst ((leL ms).map nD)) := by
  refine wp_run (b := b__law_leasts) ?_
  unfold b__law_leasts
  walk_at "ev"
  refine (v_spans hm hl).mono ?_
  rintro d μ1 ⟨hp, f, p, rfl, hf, hs⟩
  walk_at "ev"
  rw [List.length_map, oFdiv_ok (by omega) (by omega)]
  walk_at "ev"
  refine ⟨sm_by (by omega) (by omega), ?_⟩
  have en : ((ms.length : Int) / 2 + 1).toNat = ms.length / 2 + 1 := by omega
  rw [en]
  refine lcD_ok (szl (by rw [rngD_len]; omega)) (fun i acc μ2 => μ2 = μ1 ∧ acc = ((List.range i).map fun t => lAt ms t).map nD) ⟨rfl, rfl⟩ (fun _ _ _ _ => rfl) ?_ ?_
  · rintro i x acc μ2 hx ha ⟨rfl, rfl⟩
    have hlt : i < ms.length / 2 + 1 := by
      have := (List.getElem?_eq_some_iff.mp hx).1
      rwa [rngD_len] at this
    rw [rngD_get hlt] at hx
    cases hx
    rw [show (0 : Int) + (i : Int) = (i : Int) by omega]
    walk_at "ev"
    rw [oMul_ok (mulL (by omega) (by omega))]
    walk_at "ev"
    have e : ((ms.length : Int) - 2 * (i : Int)) = ((ms.length - 2 * i : Nat) : Int) := by omega
    rw [e, oIx_ref hf (d := .ref (p + (ms.length - 2 * i))) (atI_get' (by rw [List.getElem?_map, List.getElem?_range (by omega)]; rfl))]
    walk_at "ev"
    have hh := hs (ms.length - 2 * i) (by omega)
    obtain ⟨ns, hns⟩ : ∃ ns : List Int, ns = ((everyL ms).filter fun q => decide (q.1 = ms.length - 2 * i)).map fun q => (q.2 : Int) := ⟨_, rfl⟩
    have e2 : (((everyL ms).filter fun q => decide (q.1 = ms.length - 2 * i)).map fun q => nD q.2) = ns.map D.int := by
      rw [hns, List.map_map]
      rfl
    rw [e2] at hh
    have hmem : ∀ v : Nat, (v : Int) ∈ ns ↔ (ms.length - 2 * i, v) ∈ everyL ms := by
      intro v
      rw [hns, List.mem_map]
      constructor
      · rintro ⟨q, h1, h2⟩
        obtain ⟨h3, h4⟩ := List.mem_filter.mp h1
        have h5 : q.1 = ms.length - 2 * i := of_decide_eq_true h4
        have h6 : q.2 = v := by omega
        rw [← h5, ← h6]
        exact h3
      · intro h
        exact ⟨_, List.mem_filter.mpr ⟨h, decide_eq_true rfl⟩, rfl⟩
    have hne : ns ≠ [] := by
      obtain ⟨w, hw⟩ := everyL_some (ms := ms) (s := ms.length - 2 * i) (by omega)
      have := (hmem w).mpr hw
      intro h0
      rw [h0] at this
      cases this
    rw [e_minR hh hne]
    walk_at "ev"
    obtain ⟨m1, m2⟩ := minI_spec hne
    have m3 := m1
    rw [hns] at m3
    obtain ⟨q, _, hq⟩ := List.mem_map.mp m3
    have hL : lAt ms i = q.2 := by
      refine everyL_least ((hmem q.2).mp ?_) fun v hv => ?_
      · rw [hq, ← hns]
        exact m1
      · have := m2 _ ((hmem v).mpr hv)
        rw [hns, ← hq] at this
        omega
    rw [List.range_succ, List.map_append, List.map_append]
    show _ = _ ++ [nD (lAt ms i)]
    rw [hL, hns, ← hq]
  · rintro acc μ2 ha ⟨rfl, rfl⟩
    rw [rngD_len, e_addNN (by simp; omega)]
    walk_at "ev"
    refine ⟨hp.add _, _, rfl, ?_⟩
    have e : (leL ms).map nD = ((List.range (ms.length / 2 + 1)).map fun t => lAt ms t).map nD ++ [D.int 1] := by
      unfold leL
      rw [List.map_append]
      rfl
    rw [e]
    exact get_last
theorem v_least_at {ms : List Nat} {f t : Nat} {μ : Mu} (hf : μ[f]? = some (.lst ((leL ms).map nD))) : Wp (f__law_least_at [.ref f, nD t] μ) fun d μ' => d = nD (lAt ms t) ∧ μ' = μ := by
  refine wp_run (b := b__law_least_at) ?_
  unfold b__law_least_at
  walk_at "ev"
  rw [e_lenR hf]
  walk_at "ev"
  rw [List.length_map, leL_len]
  by_cases h : (t : Int) < ((ms.length / 2 + 2 : Nat) : Int)
  · rw [decide_eq_true h, if_pos rfl, oIx_ref hf (d := nD (lAt ms t)) (atI_get' (by rw [List.getElem?_map, leL_get (by omega)]; rfl))]
    walk_at "ev"
  · rw [decide_eq_false h, if_neg (by simp)]
    walk_at "ev"
    rw [lAt_far (by omega)]
    rfl
theorem v_does {ms : List Nat} {many : Int} {t : Nat} {μ : Mu} (hm : Mach ms) (hl : ms.length ≤ 20) : Wp (f__law_does [tD ms, .int many, nD t] μ) fun d μ' => Pre μ μ' ∧ ∃ b, d = .bl b ∧ (b = true ↔ t ≤ ms.length ∧ many ≤ (lAt ms t : Int)) := by
  refine wp_run (b := b__law_does) ?_
  unfold b__law_does
  walk_at "ev"
  refine (v_leasts hm hl).mono ?_
  rintro d μ1 ⟨hp, f, rfl, hf⟩
  walk_at "ev"
  rw [List.length_map]
  by_cases h : (t : Int) ≤ (ms.length : Int)
  · rw [decide_eq_true h]
    simp only
    rw [e_lenR hf]
    walk_at "ev"
    rw [List.length_map, leL_len]
    have hlast : ∃ k : Nat, (if ((ms.length / 2 + 2 : Nat) : Int) - 1 < (t : Int) then ((ms.length / 2 + 2 : Nat) : Int) - 1 else (t : Int)) = (k : Int) ∧ k < ms.length / 2 + 2 ∧ lAt ms k = lAt ms t := by
      by_cases h2 : ((ms.length / 2 + 2 : Nat) : Int) - 1 < (t : Int)
      · exact ⟨ms.length / 2 + 1, by rw [if_pos h2]; omega, by omega, by rw [lAt_far (by omega), lAt_far (by omega)]⟩
      · exact ⟨t, by rw [if_neg h2], by omega, rfl⟩
    obtain ⟨k, e, k1, k2⟩ := hlast
    rw [e, oIx_ref hf (d := nD (lAt ms k)) (atI_get' (by rw [List.getElem?_map, leL_get k1]; rfl))]
    walk_at "ev"
    refine ⟨hp, _, rfl, ?_⟩
    rw [decide_eq_true_iff, k2]
    exact ⟨fun z => ⟨by omega, z⟩, fun z => z.2⟩
  · rw [decide_eq_false h]
    simp only
    walk_at "ev"
    refine ⟨hp, _, rfl, ?_⟩
    exact ⟨fun z => (by cases z), fun z => absurd (by omega) h⟩
theorem v_due {ms ns : List Nat} {μ : Mu} (hm : Mach ms) (hl : ms.length ≤ 20) (hn : Mach ns) (hl2 : ns.length ≤ 20) : Wp (f__law_due [tD ms, tD ns] μ) fun d μ' => Pre μ μ' ∧ ∃ b, d = .bl b ∧ (b = true ↔ OD ms ns) := by
  refine wp_run (b := b__law_due) ?_
  unfold b__law_due
  walk_at "ev"
  refine (v_leasts hm hl).mono ?_
  rintro d μ1 ⟨hp, f, rfl, hf⟩
  refine (v_leasts hn hl2).mono ?_
  rintro d μ2 ⟨hp2, g, rfl, hg⟩
  walk_at "ev"
  rw [e_lenR hg]
  walk_at "ev"
  rw [List.length_map, leL_len]
  refine ⟨sm_by (by omega) (by omega), ?_⟩
  rw [Int.toNat_natCast]
  have hf2 := hp2.get hf
  refine lcD_ok (szl (by rw [rngD_len]; omega)) (fun i acc μ3 => μ3 = μ2 ∧ ∃ bs : List Int, acc = bs.map D.int ∧ (bs = [] ↔ ∀ t, t < i → lAt ns t ≤ lAt ms t)) ⟨rfl, [], rfl, fun _ t h => by omega, fun _ => rfl⟩ (fun _ _ _ _ => rfl) ?_ ?_
  · rintro i x acc μ3 hx ha ⟨rfl, bs, rfl, hbs⟩
    have hlt : i < ns.length / 2 + 2 := by
      have := (List.getElem?_eq_some_iff.mp hx).1
      rwa [rngD_len] at this
    rw [rngD_get hlt] at hx
    cases hx
    rw [show (0 : Int) + (i : Int) = (i : Int) by omega]
    walk_at "ev"
    refine (v_least_at (t := i) hf2).mono ?_
    rintro d μ4 ⟨rfl, rfl⟩
    rw [oIx_ref hg (d := nD (lAt ns i)) (atI_get' (by rw [List.getElem?_map, leL_get hlt]; rfl))]
    walk_at "ev"
    by_cases h : ((lAt ms i : Nat) : Int) < ((lAt ns i : Nat) : Int)
    · rw [decide_eq_true h, if_pos rfl]
      refine ⟨bs ++ [(i : Int)], by rw [List.map_append]; rfl, fun z => absurd z (by simp), fun z => ?_⟩
      have := z i (by omega)
      omega
    · rw [decide_eq_false h, if_neg (by simp)]
      refine ⟨bs, rfl, ?_⟩
      rw [hbs]
      constructor
      · intro z t ht
        by_cases e : t = i
        · subst e; omega
        · exact z t (by omega)
      · exact fun z t ht => z t (by omega)
  · rintro acc μ3 ha ⟨rfl, bs, rfl, hbs⟩
    rw [rngD_len] at hbs
    rw [e_eqNewNil]
    walk_at "ev"
    refine ⟨hp.trans hp2, _, rfl, ?_⟩
    rw [List.isEmpty_iff, hbs]
    exact (od_iff hm.pos (ns.length / 2 + 2) (by omega)).symm

/-! the deck: a list in the store, with its list of cells -/
def Dk (d c : Nat) (μ : Mu) : Prop := c ≠ d ∧ ∃ (cs : List Int) (a b : Int), μ[d]? = some (.lst [.ref c, .int a, .int b]) ∧ μ[c]? = some (.lst (cs.map D.int))
structure Mv (d c : Nat) (μ μ' : Mu) : Prop where
  len : μ.length ≤ μ'.length
  same : ∀ n, n < μ.length → n ≠ d → n ≠ c → μ'[n]? = μ[n]?
theorem Mv.refl (d c : Nat) (μ : Mu) : Mv d c μ μ := ⟨Nat.le_refl _, fun _ _ _ _ => rfl⟩
theorem Mv.trans {d c : Nat} {μ μ1 μ2 : Mu} (h : Mv d c μ μ1) (g : Mv d c μ1 μ2) : Mv d c μ μ2 :=
  ⟨Nat.le_trans h.len g.len, fun n h1 h2 h3 => (g.same n (Nat.lt_of_lt_of_le h1 h.len) h2 h3).trans (h.same n h1 h2 h3)⟩
theorem Pre.mv {d c : Nat} {μ μ1 : Mu} (h : Pre μ μ1) : Mv d c μ μ1 := by
  refine ⟨h.len, fun n h1 _ _ => ?_⟩
  obtain ⟨t, rfl⟩ := h
  exact List.getElem?_append_left h1
theorem Mv.get {d c : Nat} {μ μ1 : Mu} (h : Mv d c μ μ1) {n : Nat} {o : O} (e : μ[n]? = some o) (h2 : n ≠ d) (h3 : n ≠ c) : μ1[n]? = some o := (h.same n (List.getElem?_eq_some_iff.mp e).1 h2 h3).trans e
theorem Dk.pre {d c : Nat} {μ μ1 : Mu} (h : Dk d c μ) (p : Pre μ μ1) : Dk d c μ1 := by
  obtain ⟨h0, cs, a, b, h1, h2⟩ := h
  exact ⟨h0, cs, a, b, p.get h1, p.get h2⟩
theorem Dk.lt {d c : Nat} {μ : Mu} (h : Dk d c μ) : d < μ.length ∧ c < μ.length := by
  obtain ⟨h0, cs, a, b, h1, h2⟩ := h
  exact ⟨(List.getElem?_eq_some_iff.mp h1).1, (List.getElem?_eq_some_iff.mp h2).1⟩
/-- the deck lives on -/
def Sv (d c : Nat) (μ μ' : Mu) : Prop := Dk d c μ' ∧ Mv d c μ μ'
theorem Sv.trans {d c : Nat} {μ μ1 μ2 : Mu} (h : Sv d c μ μ1) (g : Sv d c μ1 μ2) : Sv d c μ μ2 := ⟨g.1, h.2.trans g.2⟩
theorem Sv.pre {d c : Nat} {μ μ1 μ2 : Mu} (h : Sv d c μ μ1) (g : Pre μ1 μ2) : Sv d c μ μ2 := ⟨h.1.pre g, h.2.trans g.mv⟩
theorem Sv.refl {d c : Nat} {μ : Mu} (h : Dk d c μ) : Sv d c μ μ := ⟨h, Mv.refl _ _ _⟩
theorem Sv.get {d c : Nat} {μ μ1 : Mu} (h : Sv d c μ μ1) {n : Nat} {o : O} (e : μ[n]? = some o) (h2 : n ≠ d) (h3 : n ≠ c) : μ1[n]? = some o := h.2.get e h2 h3
theorem emodN {i : Int} {n : Nat} (h : 0 < n) : ∃ k : Nat, i % (n : Int) = (k : Int) ∧ k < n := by
  have h1 : 0 ≤ i % (n : Int) := Int.emod_nonneg _ (by omega)
  have h2 : i % (n : Int) < (n : Int) := Int.emod_lt_of_pos _ (by omega)
  exact ⟨(i % (n : Int)).toNat, by omega, by omega⟩
theorem at0 {α : Type} {x : α} {xs : List α} : atI (x :: xs) 0 = some x := by
  have := atI_get' (xs := x :: xs) (i := 0) (d := x) rfl
  exact this
theorem at1 {α : Type} {x y : α} {xs : List α} : atI (x :: y :: xs) 1 = some y := by
  have := atI_get' (xs := x :: y :: xs) (i := 1) (d := y) rfl
  exact this
theorem at2 {α : Type} {x y z : α} {xs : List α} : atI (x :: y :: z :: xs) 2 = some z := by
  have := atI_get' (xs := x :: y :: z :: xs) (i := 2) (d := z) rfl
  exact this
theorem ix0 {n : Nat} (h : 0 < n) : ixN n 0 = some 0 := by
  unfold ixN
  rw [if_pos (by omega), if_pos (by omega)]
  rfl
theorem ix2 {n : Nat} (h : 2 < n) : ixN n 2 = some 2 := by
  unfold ixN
  rw [if_pos (by omega), if_pos (by omega)]
  rfl
theorem gst_ok {to ti : ME} {dv : D} {ρ : En} {μ μ1 : Mu} {n j : Nat} {i : Int} {xs : List D} (h1 : to ρ μ = .ok (.ref n) μ1) (h2 : ti ρ μ1 = .ok (.int i) μ1) (h3 : μ1[n]? = some (.lst xs)) (h4 : ixN xs.length i = some j) : gSt to ti dv ρ μ = .ok ρ (μ1.set n (.lst (xs.set j dv))) := by
  unfold gSt
  rw [h1, bind_ok, h2, bind_ok, lstAt_ref h3]
  simp only
  rw [h4]
theorem ixN_nat {n j : Nat} (hj : j < n) : ixN n (j : Int) = some j := by
  unfold ixN
  rw [if_pos (by omega), if_pos (by omega)]
  simp
theorem e_popAt {n k : Nat} {i : Int} {ds : List D} {x : D} {μ : Mu} (h0 : -9223372036854775808 ≤ i) (h1 : i < 9223372036854775808) (h2 : ixN ds.length i = some k) (h3 : ds[k]? = some x) : fPopAt n ds (.int i) μ = .ok x (μ.set n (.lst (ds.eraseIdx k))) := by
  unfold fPopAt
  simp only
  rw [if_pos (sm63B_iff.mpr ⟨h0, h1⟩), h2]
  simp only
  rw [h3]
theorem v_draw {d c many : Nat} {μ : Mu} (h : Dk d c μ) (h0 : 0 < many) (h1 : many < 2 ^ 60) : Wp (f__law_draw [.ref d, nD many] μ) fun r μ' => Sv d c μ μ' ∧ μ'.length = μ.length ∧ ∃ k : Nat, r = nD k ∧ k < many := by
  obtain ⟨hdc, cs, a, b, hd, hc⟩ := h
  have ld := (List.getElem?_eq_some_iff.mp hd).1
  have lc := (List.getElem?_eq_some_iff.mp hc).1
  refine wp_run (b := b__law_draw) ?_
  unfold b__law_draw
  walk_at "ev"
  rw [oIx_ref hd at0]
  walk_at "ev"
  rw [e_neR hc]
  walk_at "ev"
  cases cs with
  | nil =>
    rw [show (!([] : List Int).isEmpty) = false from rfl, if_neg (by simp)]
    walk_at "ev"
    rw [oIx_ref hd at2]
    walk_at "ev"
    rw [gst_ok (μ1 := μ) rfl rfl hd (ix2 (by simp))]
    walk_at "ev"
    have hd2 : (μ.set d (.lst [.ref c, .int a, .int (b + 1)]))[d]? = some (.lst [.ref c, .int a, .int (b + 1)]) := List.getElem?_set_self ld
    rw [oIx_ref hd2 at1]
    walk_at "ev"
    rw [oIx_ref hd2 at2]
    walk_at "ev"
    rw [oMul_ok (mulL (by omega) (by omega))]
    walk_at "ev"
    rw [oMod_ok (by omega)]
    walk_at "ev"
    generalize e1 : (a + 2654435761 * (b + 1)) % 4294967291 = m1
    rw [oMul_ok (mulL (by omega) (by omega))]
    walk_at "ev"
    rw [oIx_ref hd2 at2]
    walk_at "ev"
    rw [oMul_ok (mulL (by omega) (by omega))]
    walk_at "ev"
    rw [oMod_ok (by omega)]
    walk_at "ev"
    generalize e2 : (m1 * m1 + 40503 * (b + 1) + 11) % 4294967279 = m2
    rw [oMul_ok (mulL (by omega) (by omega))]
    walk_at "ev"
    rw [oIx_ref hd2 at1]
    walk_at "ev"
    rw [oMod_ok (by omega)]
    walk_at "ev"
    rw [oFdiv_ok (by omega) (by omega)]
    walk_at "ev"
    rw [oMod_ok (by omega)]
    walk_at "ev"
    obtain ⟨k, ek, hk⟩ := emodN (i := (m2 * m2 + a) % 4294967231 / 64) h0
    rw [ek]
    exact ⟨⟨⟨hdc, [], a, b + 1, hd2, by rw [List.getElem?_set_ne (Ne.symm hdc)]; exact hc⟩, by rw [List.length_set]; exact Nat.le_refl _, fun n _ h2 _ => List.getElem?_set_ne (Ne.symm h2)⟩, List.length_set, k, rfl, hk⟩
  | cons x cs =>
    rw [show (!(x :: cs).isEmpty) = true from rfl, if_pos rfl]
    walk_at "ev"
    rw [oIx_ref hd at0]
    walk_at "ev"
    rw [oIx_ref hc at0]
    walk_at "ev"
    rw [oFdiv_ok (by omega) (by omega)]
    walk_at "ev"
    have g1 : (mOp oIx (mVar 0) (mC (.int 0))) [some (D.ref d), some (nD many), some (.int x), none] μ = .ok (.ref c) μ := by
      show noex (oIx (.ref d) (.int 0) μ) = _
      rw [oIx_ref hd at0]
      rfl
    rw [gst_ok g1 rfl hc (ix0 (by simp))]
    walk_at "ev"
    obtain ⟨ν, hν⟩ : ∃ ν, ν = μ.set c (.lst (.int (x / (many : Int)) :: cs.map D.int)) := ⟨_, rfl⟩
    rw [← hν]
    have hd2 : ν[d]? = some (.lst [.ref c, .int a, .int b]) := by rw [hν, List.getElem?_set_ne hdc]; exact hd
    have hc2 : ν[c]? = some (.lst (((x / (many : Int)) :: cs).map D.int)) := by rw [hν]; exact List.getElem?_set_self lc
    have lν : ν.length = μ.length := by rw [hν]; exact List.length_set
    have mv : ∀ n, n ≠ c → ν[n]? = μ[n]? := fun n h => by rw [hν]; exact List.getElem?_set_ne (Ne.symm h)
    obtain ⟨k, ek, hk⟩ := emodN (i := x) h0
    by_cases hx : x < (many : Int)
    · rw [decide_eq_true hx, if_pos rfl]
      walk_at "ev"
      rw [oIx_ref hd2 at0]
      walk_at "ev"
      rw [lstAt_ref hc2]
      walk_at "ev"
      rw [e_popAt (by omega) (by omega) (ix0 (by simp)) (x := .int (x / (many : Int))) rfl]
      walk_at "ev"
      rw [oMod_ok (by omega)]
      walk_at "ev"
      rw [ek]
      have lc' : c < ν.length := by omega
      exact ⟨⟨⟨hdc, cs, a, b, by rw [List.getElem?_set_ne hdc]; exact hd2, by rw [List.getElem?_set_self lc']; rfl⟩, by rw [List.length_set]; exact Nat.le_of_eq lν.symm, fun n _ _ h => by rw [List.getElem?_set_ne (Ne.symm h)]; exact mv n h⟩, by rw [List.length_set]; exact lν, k, rfl, hk⟩
    · rw [decide_eq_false hx, if_neg (by simp)]
      walk_at "ev"
      rw [oMod_ok (by omega)]
      walk_at "ev"
      rw [ek]
      exact ⟨⟨⟨hdc, _, a, b, hd2, hc2⟩, Nat.le_of_eq lν.symm, fun n _ _ h => mv n h⟩, lν, k, rfl, hk⟩
theorem v_pick {d c n : Nat} {μ : Mu} {xs : List D} (h : Dk d c μ) (hn : μ[n]? = some (.lst xs)) (h1 : n ≠ d) (h2 : n ≠ c) (h3 : 0 < xs.length) (h4 : xs.length < 1000000) (h5 : ∀ x, x ∈ xs → ∀ ν, settle x ν = .ok x ν) : Wp (f__law_pick [.ref d, .ref n] μ) fun r μ' => Sv d c μ μ' ∧ r ∈ xs := by
  refine wp_run (b := b__law_pick) ?_
  unfold b__law_pick
  walk_at "ev"
  rw [e_lenR hn]
  walk_at "ev"
  refine (v_draw h h3 (by omega)).mono ?_
  rintro d2 μ1 ⟨s1, _, k, rfl, hk⟩
  have g : xs[k]? = some xs[k] := List.getElem?_eq_getElem hk
  rw [oIx_ref (s1.get hn h1 h2) (atI_get' g)]
  walk_at "ev"
  rw [h5 _ (List.getElem_mem hk)]
  exact ⟨s1, List.getElem_mem hk⟩
theorem Sv.set {d c n : Nat} {μ μ1 : Mu} {o : O} (h : Sv d c μ μ1) (h1 : μ.length ≤ n) (hd : Dk d c μ) : Sv d c μ (μ1.set n o) := by
  obtain ⟨⟨h0, cs, a, b, g1, g2⟩, m⟩ := h
  obtain ⟨l1, l2⟩ := hd.lt
  refine ⟨⟨h0, cs, a, b, ?_, ?_⟩, by rw [List.length_set]; exact m.len, fun k k1 k2 k3 => ?_⟩
  · rw [List.getElem?_set_ne (by omega)]; exact g1
  · rw [List.getElem?_set_ne (by omega)]; exact g2
  · rw [List.getElem?_set_ne (by omega)]; exact m.same k k1 k2 k3
theorem map_erase {α β : Type} {f : α → β} : ∀ (xs : List α) (j : Nat), (xs.map f).eraseIdx j = (xs.eraseIdx j).map f
  | [], _ => rfl
  | _ :: _, 0 => rfl
  | x :: xs, j + 1 => by
    show f x :: (xs.map f).eraseIdx j = f x :: (xs.eraseIdx j).map f
    rw [map_erase xs j]
theorem v_mixed {d c n : Nat} {μ : Mu} {ns : List Int} (h : Dk d c μ) (hn : μ[n]? = some (.lst (ns.map D.int))) (hz : ns.length < 1000000) : Wp (f__law_mixed [.ref d, .ref n] μ) fun r μ' => Sv d c μ μ' ∧ ∃ f ys, r = .ref f ∧ μ.length ≤ f ∧ μ'[f]? = some (.lst ((ys : List Int).map D.int)) ∧ ys.length = ns.length ∧ ∀ y ∈ ys, y ∈ ns := by
  refine wp_run (b := b__law_mixed) ?_
  unfold b__law_mixed
  walk_at "ev"
  rw [e_listR hn]
  walk_at "ev"
  obtain ⟨l1, l2⟩ := h.lt
  have en : (μ ++ [O.lst (ns.map D.int)]).length = μ.length + 1 := by simp
  rw [en]
  refine while_ok (fun k ρ μ1 => Sv d c μ μ1 ∧ ρ = [some (.ref d), some (.ref n), some (.ref μ.length), some (.ref (μ.length + 1))] ∧ ∃ rs fs : List Int, μ1[μ.length]? = some (.lst (rs.map D.int)) ∧ μ1[μ.length + 1]? = some (.lst (fs.map D.int)) ∧ k = rs.length ∧ rs.length + fs.length = ns.length ∧ (∀ y ∈ rs, y ∈ ns) ∧ ∀ y ∈ fs, y ∈ ns)
    ns.length (by omega) ⟨(Sv.refl h).pre (((Pre.refl μ).add _).add _), rfl, ns, [], ?_, ?_, rfl, by simp, fun _ z => z, by simp⟩ ?_
  · rw [List.getElem?_append_left (by simp)]
    exact get_last
  · rw [← en]
    exact get_last
  · rintro k ρ μ1 ⟨s1, rfl, rs, fs, g1, g2, rfl, g3, g4, g5⟩
    walk_at "ev"
    rw [e_neR g1]
    walk_at "ev"
    cases rs with
    | nil =>
      rw [show (!([] : List Int).isEmpty) = false from rfl, if_neg (by simp)]
      exact ⟨s1, _, fs, rfl, by omega, g2, by simpa using g3, g5⟩
    | cons x rs =>
      rw [show (!(x :: rs).isEmpty) = true from rfl, if_pos rfl]
      rw [lstAt_ref g2]
      walk_at "ev"
      rw [lstAt_ref g1]
      walk_at "ev"
      rw [e_lenR g1]
      simp only [List.map_cons, List.length_cons, ok_ok]
      rw [settle_int, ok_ok, show (((List.map D.int rs).length + 1 : Nat) : Int) = ((rs.length + 1 : Nat) : Int) by rw [List.length_map]]
      simp only [List.length_cons] at g3
      refine (v_draw s1.1 (Nat.succ_pos _) (by omega)).mono ?_
      rintro r μ2 ⟨s2, _, j, rfl, hj⟩
      have s3 : Sv d c μ μ2 := s1.trans s2
      have f1 := s2.get g1 (by omega) (by omega)
      have f2 := s2.get g2 (by omega) (by omega)
      have gy : (x :: rs)[j]? = some (x :: rs)[j] := List.getElem?_eq_getElem hj
      generalize (x :: rs)[j] = y at gy
      have hy : y ∈ x :: rs := List.mem_of_getElem? gy
      have lr : μ.length < μ2.length := (List.getElem?_eq_some_iff.mp f1).1
      have lf : μ.length + 1 < μ2.length := (List.getElem?_eq_some_iff.mp f2).1
      rw [lstAt_ref f1]
      simp only
      rw [ok_noex, e_popAt (by omega) (by omega) (k := j) (x := .int y) (ixN_nat (by rw [List.length_map]; exact hj)) (by rw [List.getElem?_map, gy]; rfl), ok_ok, settle_int, ok_ok]
      have f3 : (μ2.set μ.length (.lst (((x :: rs).map D.int).eraseIdx j)))[μ.length + 1]? = some (.lst (fs.map D.int)) := by rw [List.getElem?_set_ne (by omega)]; exact f2
      rw [lstAt_ref f3]
      simp only
      rw [ok_noex, e_app (by intro xs h; cases h) (by rw [List.length_map]; omega)]
      walk_at "ev"
      refine ⟨((x :: rs).eraseIdx j).length, ?_, (s3.set (Nat.le_refl _) h).set (by omega) h, (x :: rs).eraseIdx j, fs ++ [y], ?_, ?_, rfl, ?_, ?_, ?_⟩
      · have := List.length_eraseIdx_of_lt (l := x :: rs) (i := j) hj
        rw [this]
        simp
      · rw [List.getElem?_set_ne (by omega), List.getElem?_set_self lr, ← map_erase, List.map_cons]
      · rw [List.getElem?_set_self (by rw [List.length_set]; exact lf), List.map_append]
        rfl
      · have := List.length_eraseIdx_of_lt (l := x :: rs) (i := j) hj
        rw [this, List.length_append]
        simp
        omega
      · exact fun z hz => g4 z (List.mem_of_mem_eraseIdx hz)
      · intro z hz
        rcases List.mem_append.mp hz with q | q
        · exact g5 z q
        · rw [List.mem_singleton] at q
          rw [q]
          exact g4 y hy

/-- rows of drawn numbers -/
theorem lc_draws {d c n v : Nat} {te : ME} {vs : List Nat} {ρ : En} {μ : Mu} {P : Nat → Prop} (hd : Dk d c μ) (hn : n ≤ 1000) (hE : ∀ (x : D) (μ1 : Mu), Dk d c μ1 → Ok (te ((wipeD ρ vs).set v (some x)) μ1) fun r μ2 => Sv d c μ1 μ2 ∧ ∃ k, r = nD k ∧ P k) :
    Ok (lcD (gN v) mYes te vs none (rngD 0 n) ρ (rngD 0 n) [] μ) fun acc μ' => Sv d c μ μ' ∧ ∃ ms : List Nat, acc = ms.map nD ∧ ms.length = n ∧ ∀ m ∈ ms, P m := by
  refine lcD_ok (szl (by rw [rngD_len]; omega)) (fun i acc μ1 => Sv d c μ μ1 ∧ ∃ ms : List Nat, acc = ms.map nD ∧ ms.length = i ∧ ∀ m ∈ ms, P m) ⟨Sv.refl hd, [], rfl, rfl, by simp⟩ (fun _ _ _ _ => rfl) ?_ ?_
  · rintro i x acc μ1 hx ha ⟨s1, ms, rfl, hl, hp⟩
    simp only [gN, mYes, ok_ok, if_true, mSet, ok_bind]
    refine ok_mono (hE x μ1 s1.1) ?_
    rintro r μ2 ⟨s2, k, rfl, hk⟩
    rw [settle_int, ok_ok]
    refine ⟨s1.trans s2, ms ++ [k], by rw [List.map_append]; rfl, by simp [hl], fun m hm => ?_⟩
    rcases List.mem_append.mp hm with q | q
    · exact hp m q
    · rw [List.mem_singleton] at q
      rw [q]
      exact hk
  · rintro acc μ1 ha ⟨s1, ms, rfl, hl, hp⟩
    rw [rngD_len] at hl
    exact ⟨s1, ms, rfl, hl, hp⟩
theorem e_addRR {μ : Mu} {n m : Nat} {xs ys : List D} (h : μ[n]? = some (.lst xs)) (g : μ[m]? = some (.lst ys)) (hz : xs.length + ys.length ≤ 16777216) : oAdd (.ref n) (.ref m) μ = .ok (.new (xs ++ ys)) μ := by
  simp only [oAdd, contM, h, g]
  rw [if_pos (szl hz)]
theorem e_addNR {μ : Mu} {m : Nat} {xs ys : List D} (g : μ[m]? = some (.lst ys)) (hz : xs.length + ys.length ≤ 16777216) : oAdd (.new xs) (.ref m) μ = .ok (.new (xs ++ ys)) μ := by
  simp only [oAdd, contM, g]
  rw [if_pos (szl hz)]
theorem cut_to {α : Type} {xs : List α} {k : Nat} : cutD xs none (some (k : Int)) = xs.take k := by
  unfold cutD
  rw [HT.sIx_none, HT.sIx_nat, List.drop_zero, Nat.sub_zero]
  by_cases h : k ≤ xs.length
  · rw [Nat.min_eq_left h]
  · rw [Nat.min_eq_right (by omega), List.take_length, List.take_of_length_le (by omega)]
theorem cut_from {α : Type} {xs : List α} {k : Nat} : cutD xs (some (k : Int)) none = xs.drop k := by
  unfold cutD
  rw [HT.sIx_none, HT.sIx_nat]
  by_cases h : k ≤ xs.length
  · rw [Nat.min_eq_left h, List.take_of_length_le (by rw [List.length_drop]; exact Nat.le_refl _)]
  · rw [Nat.min_eq_right (by omega), List.drop_length, Nat.sub_self, List.take_zero, List.drop_of_length_le (by omega)]
theorem e_slT {μ : Mu} {lo hi : Option Int} {xs : List D} : oSl lo hi (.tup xs) μ = .ok (.tup (cutD xs lo hi)) μ := rfl
theorem e_slN {μ : Mu} {lo hi : Option Int} {xs : List D} : oSl lo hi (.new xs) μ = .ok (.new (cutD xs lo hi)) μ := rfl
theorem e_backT {μ : Mu} {xs : List D} : oBack (.tup xs) μ = .ok (.tup xs.reverse) μ := rfl
def Mq (B : Nat) (ms : List Nat) : Prop := ∀ m ∈ ms, 2 ≤ m ∧ m ≤ B
theorem e_mulTn {μ : Mu} {x : D} {n : Nat} (h0 : 1 ≤ n) (h1 : n ≤ 1000) : oMul' (.tup [x]) (.int (n : Int)) μ = .ok (.tup (List.replicate n x)) μ := by
  by_cases e : n = 1
  · subst e
    rfl
  · rw [e_mulT (by simp) (by omega) (by omega) (by simp), Int.toNat_natCast]
    congr 2
    clear e h0 h1
    induction n with
    | zero => rfl
    | succ n ih => rw [List.replicate_succ, List.flatten_cons, ih, List.replicate_succ]; rfl
theorem asN {ns : List Int} (h : ∀ x ∈ ns, 2 ≤ x ∧ x ≤ 13) : ∃ ms : List Nat, ns.map D.int = ms.map nD ∧ ms.length = ns.length ∧ Mq 13 ms := by
  refine ⟨ns.map Int.toNat, ?_, by rw [List.length_map], fun m hm => ?_⟩
  · rw [List.map_map]
    refine List.map_congr_left fun x hx => ?_
    have := h x hx
    show D.int x = D.int ((x.toNat : Nat) : Int)
    congr 1
    omega
  · obtain ⟨x, hx, rfl⟩ := List.mem_map.mp hm
    have := h x hx
    omega
theorem v_machine {d c n most : Nat} {μ : Mu} (h : Dk d c μ) (h0 : 1 ≤ n) (h1 : n ≤ 10) (hm : 4 ≤ most) (hm2 : most ≤ 12) : Wp (f__law_machine [.ref d, nD n, nD most] μ) fun r μ' => Sv d c μ μ' ∧ ∃ ms, r = tD ms ∧ ms.length = n ∧ Mq 13 ms := by
  refine wp_run (b := b__law_machine) ?_
  unfold b__law_machine
  walk_at "ev"
  refine (v_draw (many := 4) h (by omega) (by omega)).mono ?_
  rintro r μ1 ⟨s1, _, way, rfl, hway⟩
  walk_at "ev"
  have em : ((most : Nat) : Int) - 1 = ((most - 1 : Nat) : Int) := by omega
  by_cases w0 : ((way : Nat) : Int) = 0
  · rw [decide_eq_true w0, if_pos rfl]
    walk_at "ev"
    rw [em]
    refine (v_draw s1.1 (by omega) (by omega)).mono ?_
    rintro r μ2 ⟨s2, _, k, rfl, hk⟩
    walk_at "ev"
    rw [e_mulTn h0 (by omega)]
    walk_at "ev"
    refine ⟨s1.trans s2, List.replicate n (2 + k), ?_, by simp, fun m hm => ?_⟩
    · rw [tD, List.map_replicate]
      rfl
    · have := List.eq_of_mem_replicate hm
      omega
  · rw [decide_eq_false w0, if_neg (by simp)]
    walk_at "ev"
    by_cases w1 : ((way : Nat) : Int) = 1
    · rw [decide_eq_true w1, if_pos rfl]
      walk_at "ev"
      refine (v_draw (many := 2) s1.1 (by omega) (by omega)).mono ?_
      rintro r μ2 ⟨s2, _, b, rfl, hb⟩
      walk_at "ev"
      refine ⟨sm_by (by omega) (by omega), ?_⟩
      rw [Int.toNat_natCast]
      refine ok_mono (lc_draws (P := fun m => 2 ≤ m ∧ m ≤ 13) s2.1 (by omega) ?_) ?_
      · intro x μ3 h3
        walk_at "ev"
        rw [oFdiv_ok (by omega) (by omega)]
        walk_at "ev"
        have e : ((most : Nat) : Int) / (2 + (b : Int)) = ((most / (2 + b) : Nat) : Int) := by
          rw [Int.natCast_ediv]
          try rfl
        have hq : 0 < most / (2 + b) := Nat.div_pos (by omega) (by omega)
        have hq2 : most / (2 + b) ≤ most := Nat.div_le_self _ _
        rw [e]
        refine (v_draw h3 hq (by omega)).mono ?_
        rintro r μ4 ⟨s4, _, k, rfl, hk⟩
        try walk_at "ev"
        rw [oMul_ok (mulL (by omega) (by omega))]
        refine ⟨s4, (2 + b) * (1 + k), ?_, ?_⟩
        · show D.int _ = D.int _
          congr 1
        · have h5 : (2 + b) * (1 + k) ≤ (2 + b) * (most / (2 + b)) := Nat.mul_le_mul_left _ (by omega)
          have h6 : (2 + b) * (most / (2 + b)) ≤ most := Nat.mul_div_le _ _
          have h7 : (2 + b) * 1 ≤ (2 + b) * (1 + k) := Nat.mul_le_mul_left _ (by omega)
          omega
      · rintro acc μ3 ⟨s3, ms, rfl, hl, hp⟩
        exact ⟨(s1.trans s2).trans s3, ms, rfl, hl, hp⟩
    · rw [decide_eq_false w1, if_neg (by simp)]
      walk_at "ev"
      by_cases w2 : ((way : Nat) : Int) = 2
      · rw [decide_eq_true w2, if_pos rfl]
        walk_at "ev"
        refine lcD_ok (szl (by simp)) (fun i acc μ2 => μ2 = μ1 ∧ ∃ ns : List Int, acc = ns.map D.int ∧ (∀ x ∈ ns, 2 ≤ x ∧ x ≤ 13) ∧ min i 4 ≤ ns.length) ⟨rfl, [], rfl, by simp, by simp⟩ (fun _ _ _ _ => rfl) ?_ ?_
        · rintro i x acc μ2 hx ha ⟨rfl, ns, rfl, h2, h3⟩
          have hx2 : ∃ j : Int, x = .int j ∧ 2 ≤ j ∧ j ≤ 13 ∧ (i < 4 → j ≤ 7) := by
            match i, hx with
            | 0, hx => cases hx; exact ⟨2, rfl, by omega, by omega, by omega⟩
            | 1, hx => cases hx; exact ⟨3, rfl, by omega, by omega, by omega⟩
            | 2, hx => cases hx; exact ⟨5, rfl, by omega, by omega, by omega⟩
            | 3, hx => cases hx; exact ⟨7, rfl, by omega, by omega, by omega⟩
            | 4, hx => cases hx; exact ⟨11, rfl, by omega, by omega, by omega⟩
            | 5, hx => cases hx; exact ⟨13, rfl, by omega, by omega, by omega⟩
            | i + 6, hx => simp at hx
          obtain ⟨j, rfl, j1, j2, j3⟩ := hx2
          walk_at "ev"
          by_cases hj : j ≤ (if (7 : Int) > (most : Int) then 7 else (most : Int))
          · rw [decide_eq_true hj, if_pos rfl]
            refine ⟨ns ++ [j], by rw [List.map_append]; rfl, fun x hx => ?_, by rw [List.length_append, List.length_singleton]; omega⟩
            rcases List.mem_append.mp hx with q | q
            · exact h2 x q
            · rw [List.mem_singleton] at q
              omega
          · rw [decide_eq_false hj, if_neg (by simp)]
            refine ⟨ns, rfl, h2, ?_⟩
            have h7 : ¬i < 4 := fun hi => by
              have := j3 hi
              split at hj <;> omega
            omega
        · rintro acc μ2 ha ⟨rfl, ns, rfl, h2, h3⟩
          have h4 : 4 ≤ ns.length := by simpa using h3
          have h5 : ns.length ≤ 6 := by simpa using ha
          obtain ⟨l1, l2⟩ := s1.1.lt
          have g0 : (μ2 ++ [O.lst (ns.map D.int)])[μ2.length]? = some (.lst (ns.map D.int)) := get_last
          have s2 : Sv d c μ (μ2 ++ [O.lst (ns.map D.int)]) := s1.pre ((Pre.refl _).add _)
          refine (v_mixed s2.1 g0 (by omega)).mono ?_
          rintro r μ3 ⟨s3, f, ys, rfl, f1, f2, f3, f4⟩
          rw [List.length_append, List.length_singleton] at f1
          have g1 := s3.get g0 (by omega) (by omega)
          refine (v_mixed s3.1 g1 (by omega)).mono ?_
          rintro r μ4 ⟨s4, f', ys', rfl, f1', f2', f3', f4'⟩
          have g2 := s4.get g1 (by omega) (by omega)
          have g3 := s4.get f2 (by omega) (by omega)
          rw [e_addRR g3 f2' (by rw [List.length_map, List.length_map]; omega), ok_ok, e_addNR g2 (by simp only [List.length_append, List.length_map]; omega), ok_ok, e_slN, cut_to]
          walk_at "ev"
          have e : (ys.map D.int ++ ys'.map D.int ++ ns.map D.int).take n = ((ys ++ ys' ++ ns).take n).map D.int := by rw [List.map_take, List.map_append, List.map_append]
          rw [e]
          obtain ⟨ms, k1, k2, k3⟩ := asN (ns := (ys ++ ys' ++ ns).take n) fun x hx => by
            have hx := List.mem_of_mem_take hx
            rcases List.mem_append.mp hx with q | q
            · rcases List.mem_append.mp q with q | q
              · exact h2 x (f4 x q)
              · exact h2 x (f4' x q)
            · exact h2 x q
          refine ⟨(s2.trans s3).trans s4, ms, by rw [k1], ?_, k3⟩
          rw [k2, List.length_take, List.length_append, List.length_append]
          omega
      · rw [decide_eq_false w2, if_neg (by simp)]
        walk_at "ev"
        refine ⟨sm_by (by omega) (by omega), ?_⟩
        rw [Int.toNat_natCast]
        refine ok_mono (lc_draws (P := fun m => 2 ≤ m ∧ m ≤ 13) s1.1 (by omega) ?_) ?_
        · intro x μ3 h3
          walk_at "ev"
          rw [em]
          refine (v_draw h3 (by omega) (by omega)).mono ?_
          rintro r μ4 ⟨s4, _, k, rfl, hk⟩
          walk_at "ev"
          exact ⟨s4, 2 + k, rfl, by omega, by omega⟩
        · rintro acc μ3 ⟨s3, ms, rfl, hl, hp⟩
          exact ⟨s1.trans s3, ms, rfl, hl, hp⟩
theorem v_some_machine {d c : Nat} {μ : Mu} (h : Dk d c μ) : Wp (f__law_some_machine [.ref d] μ) fun r μ' => Sv d c μ μ' ∧ ∃ ms, r = tD ms ∧ 1 ≤ ms.length ∧ ms.length ≤ 6 ∧ Mq 1000000 ms := by
  refine wp_run (b := b__law_some_machine) ?_
  unfold b__law_some_machine
  walk_at "ev"
  refine (v_draw (many := 6) h (by omega) (by omega)).mono ?_
  rintro r μ1 ⟨s1, _, n, rfl, hn⟩
  walk_at "ev"
  refine (v_draw (many := 6) s1.1 (by omega) (by omega)).mono ?_
  rintro r μ2 ⟨s2, _, k, rfl, hk⟩
  walk_at "ev"
  have en : (1 : Int) + (n : Int) = ((n + 1 : Nat) : Int) := by omega
  have s12 := s1.trans s2
  by_cases w : ((k : Nat) : Int) = 0
  · rw [decide_eq_true w, if_pos rfl]
    walk_at "ev"
    rw [en]
    refine ⟨sm_by (by omega) (by omega), ?_⟩
    rw [Int.toNat_natCast]
    refine ok_mono (lc_draws (P := fun m => 2 ≤ m ∧ m ≤ 1000000) s2.1 (by omega) ?_) ?_
    · intro x μ3 h3
      walk_at "ev"
      refine (v_draw (many := 999999) h3 (by omega) (by omega)).mono ?_
      rintro r μ4 ⟨s4, _, k, rfl, hk⟩
      walk_at "ev"
      exact ⟨s4, 2 + k, rfl, by omega, by omega⟩
    · rintro acc μ3 ⟨s3, ms, rfl, hl, hp⟩
      exact ⟨s12.trans s3, ms, rfl, by omega, by omega, hp⟩
  · rw [decide_eq_false w, if_neg (by simp)]
    walk_at "ev"
    obtain ⟨l1, l2⟩ := s2.1.lt
    refine (v_pick (s12.1.pre ((Pre.refl μ2).add _)) get_last (by omega) (by omega) (by simp) (by simp) (by simp [settle_int])).mono ?_
    rintro r μ3 ⟨s3, hr⟩
    have hm : ∃ most : Nat, r = nD most ∧ 4 ≤ most ∧ most ≤ 12 := by
      rcases List.mem_cons.mp hr with rfl | hr
      · exact ⟨4, rfl, by omega, by omega⟩
      · rw [List.mem_singleton] at hr
        exact ⟨12, hr, by omega, by omega⟩
    obtain ⟨most, rfl, m1, m2⟩ := hm
    have s13 := (s12.pre ((Pre.refl μ2).add [O.lst [D.int 4, D.int 12]])).trans s3
    rw [settle_int, ok_ok, en]
    refine (v_machine s13.1 (by omega) (by omega) m1 m2).mono ?_
    rintro r μ4 ⟨s4, ms, rfl, h1, h2⟩
    walk_at "ev"
    exact ⟨s13.trans s4, ms, rfl, by omega, by omega, fun m hm => by have := h2 m hm; omega⟩

theorem Mq.mach {B : Nat} {ms : List Nat} (h : Mq B ms) (hB : B < 2 ^ 60) : Mach ms := ⟨fun m hm => by have := h m hm; omega, fun m hm => by have := h m hm; omega⟩
theorem Mq.mono {B C : Nat} {ms : List Nat} (h : Mq B ms) (hB : B ≤ C) : Mq C ms := fun m hm => by have := h m hm; omega
theorem oPow_ok {i j : Int} {μ : Mu} (h : PowOk i j) : oPow (.int i) (.int j) μ = .ok (.int (i ^ j.toNat)) μ := by
  simp only [oPow, oInt]
  rw [if_pos (powB_iff.mpr h)]
theorem split_at {α : Type} {xs : List α} {l : Nat} (h : l < xs.length) : ∃ a x b, xs = a ++ x :: b ∧ a.length = l :=
  ⟨xs.take l, xs[l], xs.drop (l + 1), by rw [← List.drop_eq_getElem_cons h, List.take_append_drop], by rw [List.length_take]; omega⟩
theorem v_made {d c B : Nat} {ms : List Nat} {μ : Mu} (h : Dk d c μ) (h0 : 1 ≤ ms.length) (h1 : ms.length ≤ 10) (hq : Mq B ms) (hB : B < 2 ^ 50) : Wp (f__law_made [.ref d, tD ms] μ) fun r μ' => Sv d c μ μ' ∧ ∃ ns, r = tD ns ∧ OD ns ms ∧ Mq (5 * B + 13) ns ∧ 1 ≤ ns.length ∧ ns.length ≤ ms.length + 1 ∧ ns.length ≤ 10 := by
  refine wp_run (b := b__law_made) ?_
  unfold b__law_made
  walk_at "ev"
  rw [List.length_map]
  refine (v_draw h h0 (by omega)).mono ?_
  rintro r μ1 ⟨s1, _, l, rfl, hl⟩
  obtain ⟨a, x, b, rfl, rfl⟩ := split_at hl
  walk_at "ev"
  rw [oPow_ok ⟨by omega, by omega, by omega⟩]
  walk_at "ev"
  have hat : atI ((a ++ x :: b).map nD) (a.length : Int) = some (nD x) := atI_get' (by rw [List.getElem?_map, List.getElem?_append_right (Nat.le_refl _)]; simp)
  obtain ⟨x2, xB⟩ := hq x (by simp)
  rw [oIx_tup hat]
  walk_at "ev"
  rw [oFdiv_ok (by omega) (by omega)]
  walk_at "ev"
  have hmany : ∃ t : Nat, (if (if (10 : Int) ^ Int.toNat 6 / (x : Int) < 5 then (10 : Int) ^ Int.toNat 6 / (x : Int) else 5) > 1 then if (10 : Int) ^ Int.toNat 6 / (x : Int) < 5 then (10 : Int) ^ Int.toNat 6 / (x : Int) else 5 else 1) = (t : Int) ∧ 1 ≤ t ∧ t ≤ 5 := by
    generalize (10 : Int) ^ Int.toNat 6 / (x : Int) = q
    by_cases q1 : q < 5
    · rw [if_pos q1]
      by_cases q2 : q > 1
      · rw [if_pos q2]
        exact ⟨q.toNat, by omega, by omega, by omega⟩
      · rw [if_neg q2]
        exact ⟨1, rfl, by omega, by omega⟩
    · rw [if_neg q1, if_pos (by omega)]
      exact ⟨5, rfl, by omega, by omega⟩
  obtain ⟨tm, e, t1, t2⟩ := hmany
  rw [e]
  refine (v_draw s1.1 t1 (by omega)).mono ?_
  rintro r μ2 ⟨s2, _, k, rfl, hk⟩
  walk_at "ev"
  have s12 := s1.trans s2
  have e1 : (1 : Int) + (k : Int) = ((1 + k : Nat) : Int) := by omega
  have e2 : ((a.length : Nat) : Int) + 1 = ((a.length + 1 : Nat) : Int) := by omega
  have c1 : cutD ((a ++ x :: b).map nD) none (some ((a.length : Nat) : Int)) = a.map nD := by rw [cut_to, ← List.map_take]; simp
  have c2 : cutD ((a ++ x :: b).map nD) (some ((a.length + 1 : Nat) : Int)) none = b.map nD := by rw [cut_from, ← List.map_drop]; simp
  have c3 : cutD ((a ++ x :: b).map nD) (some ((a.length : Nat) : Int)) none = (x :: b).map nD := by rw [cut_from, ← List.map_drop]; simp
  have hlen : a.length + b.length + 1 ≤ 10 := by simp at h1; omega
  rw [e1, e2, e_slT, c1]
  walk_at "ev"
  rw [oIx_tup hat]
  walk_at "ev"
  rw [oMul_ok (mulR (by omega) (by omega))]
  walk_at "ev"
  rw [e_addTT (by simp; omega)]
  walk_at "ev"
  rw [e_slT, c2]
  walk_at "ev"
  rw [e_addTT (by simp; omega)]
  walk_at "ev"
  rw [e_slT, c1]
  walk_at "ev"
  refine (v_draw (many := 12) s2.1 (by omega) (by omega)).mono ?_
  rintro r μ3 ⟨s3, _, y, rfl, hy⟩
  walk_at "ev"
  have hw : D.tup (List.map nD a ++ [D.int ((x : Int) * ((1 + k : Nat) : Int))] ++ List.map nD b) = tD (a ++ x * (1 + k) :: b) := by
    rw [tD, List.map_append, List.map_cons, List.append_assoc]
    show _ = D.tup (List.map nD a ++ ([D.int ((x * (1 + k) : Nat) : Int)] ++ List.map nD b))
    rw [Int.natCast_mul]
  have hmr : D.tup (List.map nD a ++ [D.int (2 + (y : Int))] ++ List.map nD (x :: b)) = tD (a ++ (2 + y) :: x :: b) := by
    rw [tD, List.map_append, List.map_cons, List.append_assoc]
    rfl
  rw [hw]
  rw [e_addTT (by simp; omega)]
  walk_at "ev"
  rw [e_slT, c3]
  walk_at "ev"
  rw [← List.map_cons, e_addTT (by simp; omega), ok_ok, hmr]
  walk_at "ev"
  rw [e_backT]
  walk_at "ev"
  have s13 := s12.trans s3
  have hend : ∀ (ts : List D) (ν : Mu), Sv d c μ ν → (∀ q ∈ ts, q = tD (a ++ x * (1 + k) :: b) ∨ q = tD (a ++ x :: b).reverse ∨ q = tD (a ++ (2 + y) :: x :: b) ∧ (a ++ x :: b).length < 10) → 0 < ts.length → ts.length < 10 → Wp (f__law_pick [.ref d, .ref ν.length] (ν ++ [.lst ts])) fun r μ' => Ok (settle r μ') fun r μ' => Sv d c μ μ' ∧ ∃ ns, r = tD ns ∧ OD ns (a ++ x :: b) ∧ Mq (5 * B + 13) ns ∧ 1 ≤ ns.length ∧ ns.length ≤ (a ++ x :: b).length + 1 ∧ ns.length ≤ 10 := by
    intro ts ν sν hts ht0 ht1
    obtain ⟨l1, l2⟩ := sν.1.lt
    have hst : ∀ q ∈ ts, ∃ ns, q = tD ns := fun q hq => by
      rcases hts q hq with z | z | ⟨z, _⟩ <;> exact ⟨_, z⟩
    refine (v_pick (sν.1.pre ((Pre.refl ν).add _)) get_last (by omega) (by omega) ht0 (by omega) fun q hq ν2 => by obtain ⟨ns, rfl⟩ := hst q hq; rfl).mono ?_
    rintro r μ5 ⟨s5, hr⟩
    have s6 := (sν.pre ((Pre.refl ν).add [.lst ts])).trans s5
    have hk5 : 1 + k ≤ 5 := by omega
    have hwide : Mq (5 * B + 13) (a ++ x * (1 + k) :: b) := by
      intro m hm
      rcases List.mem_append.mp hm with z | z
      · have := hq m (List.mem_append_left _ z)
        omega
      · rcases List.mem_cons.mp z with rfl | z
        · have h5 : x * (1 + k) ≤ x * 5 := Nat.mul_le_mul_left _ hk5
          have h6 : x * 1 ≤ x * (1 + k) := Nat.mul_le_mul_left _ (by omega)
          omega
        · have := hq m (List.mem_append_right _ (List.mem_cons_of_mem _ z))
          omega
    rcases hts r hr with rfl | rfl | ⟨rfl, hlt⟩
    · exact ⟨s6, _, rfl, od_mul (hwide.mach (by omega)).pos, hwide, by simp only [List.length_append, List.length_cons, List.length_reverse]; omega, by simp only [List.length_append, List.length_cons, List.length_reverse]; omega, by simp only [List.length_append, List.length_cons, List.length_reverse]; omega⟩
    · exact ⟨s6, _, rfl, od_rev, fun m hm => by have := hq m (List.mem_reverse.mp hm); omega, by simp only [List.length_append, List.length_cons, List.length_reverse]; omega, by simp only [List.length_append, List.length_cons, List.length_reverse]; omega, by simp only [List.length_append, List.length_cons, List.length_reverse]; omega⟩
    · have hmo : Mq (5 * B + 13) (a ++ (2 + y) :: x :: b) := by
        intro m hm
        rcases List.mem_append.mp hm with z | z
        · have := hq m (List.mem_append_left _ z)
          omega
        · rcases List.mem_cons.mp z with rfl | z
          · omega
          · have := hq m (List.mem_append_right _ z)
            omega
      exact ⟨s6, _, rfl, od_ins (hmo.mach (by omega)).pos, hmo, by simp only [List.length_append, List.length_cons, List.length_reverse]; omega, by simp only [List.length_append, List.length_cons, List.length_reverse]; omega, by simp only [List.length_append, List.length_cons] at hlt ⊢; omega⟩
  have hb : D.tup (List.map nD (a ++ x :: b)).reverse = tD (a ++ x :: b).reverse := by rw [tD, List.map_reverse]
  rw [hb]
  by_cases hlt : (((a ++ x :: b).length : Nat) : Int) < 10
  · rw [decide_eq_true hlt, if_pos rfl]
    rw [ok_ok, settle_tup, ok_ok]
    refine hend _ _ s13 (fun q hq => ?_) (by simp) (by simp)
    rcases List.mem_cons.mp hq with rfl | hq
    · exact .inl rfl
    · rcases List.mem_cons.mp hq with rfl | hq
      · exact .inr (.inl rfl)
      · rw [List.mem_singleton] at hq
        exact .inr (.inr ⟨hq, by omega⟩)
  · rw [decide_eq_false hlt, if_neg (by simp)]
    rw [ok_ok, settle_tup, ok_ok]
    refine hend _ _ s13 (fun q hq => ?_) (by simp) (by simp)
    rcases List.mem_cons.mp hq with rfl | hq
    · exact .inl rfl
    · rcases List.mem_cons.mp hq with rfl | hq
      · exact .inr (.inl rfl)
      · rw [List.mem_singleton] at hq
        exact .inl hq

open PySem in
theorem shown_of {d : PyData} (h0 : d.canLay0 = true) (h1 : d.intsShort 13 = true) (h2 : d.weight ≤ 1048576) : d.shown.length ≤ sizeLine := by
  have h := PyData.shown_le 13 (by decide) d (PyData.leavesShort_of_canLay0 13 d h0 h1)
  rw [sizeLine_eq]
  omega
open PySem in
theorem reprOk_of {d : PyData} (h0 : d.canLay0 = true) (h1 : d.intsShort 13 = true) (h2 : d.weight ≤ 1048576) (h3 : d.showable = true) (h4 : d.depth ≤ 20) : ReprOk d :=
  ⟨h3, PyData.hasDict_of_canLay d h0, h4, shown_of h0 h1 h2⟩
abbrev pI (n : Nat) : PySem.PyData := .int (n : Int)
abbrev pT (ms : List Nat) : PySem.PyData := .tuple (ms.map pI)
structure Fine (B : Nat) (d : PySem.PyData) : Prop where
  lay : d.canLay0 = true
  short : d.intsShort 13 = true
  show' : d.showable = true
theorem log2_small {n : Nat} (h : n ≤ 999999999999) : n.log2 < 40 := by
  by_cases e : n = 0
  · subst e; decide
  · exact (Nat.log2_lt e).mpr (by omega)
open PySem in
theorem ints_fine : ∀ {ms : List Nat}, (∀ m ∈ ms, m ≤ 999999999999) → PyData.canLayAll0 (ms.map pI) = true ∧ PyData.intsShortAll 13 (ms.map pI) = true ∧ PyData.showableAll (ms.map pI) = true ∧ PyData.depthAll (ms.map pI) ≤ 1 ∧ PyData.weightAll (ms.map pI) ≤ 42 * ms.length
  | [], _ => ⟨rfl, rfl, rfl, by simp [PyData.depthAll], by simp [PyData.weightAll]⟩
  | m :: ms, h => by
    obtain ⟨a, b, c, d, e⟩ := ints_fine (ms := ms) fun x hx => h x (List.mem_cons_of_mem _ hx)
    have hm : m ≤ 999999999999 := h m List.mem_cons_self
    have hl := log2_small hm
    have h13 : (PyData.shown (.int (m : Int))).length ≤ 13 := PyData.shown_int_le2 (by omega) (by omega)
    refine ⟨?_, ?_, ?_, ?_, ?_⟩
    · simp only [List.map_cons, PyData.canLayAll0, PyData.canLay0, a, Bool.and_self]
    · simp only [List.map_cons, PyData.intsShortAll, PyData.intsShort, b, Bool.and_true]
      exact decide_eq_true h13
    · simp only [List.map_cons, PyData.showableAll, PyData.showable, c, Bool.and_true]
      exact decide_eq_true (by rw [Int.natAbs_natCast]; omega)
    · simp only [List.map_cons, PyData.depthAll, PyData.depth]
      omega
    · simp only [List.map_cons, PyData.weightAll, PyData.weight, List.length_cons, Int.natAbs_natCast]
      split <;> omega
open PySem in
theorem repr_two {ms ns : List Nat} (hm : ∀ m ∈ ms, m ≤ 999999999999) (hn : ∀ m ∈ ns, m ≤ 999999999999) (lm : ms.length ≤ 100) (ln : ns.length ≤ 100) : ReprOk (.list [pT ms, pT ns]) := by
  obtain ⟨a, b, c, d, e⟩ := ints_fine hm
  obtain ⟨a', b', c', d', e'⟩ := ints_fine hn
  refine reprOk_of ?_ ?_ ?_ ?_ ?_
  · simp only [PyData.canLay0, PyData.canLayAll0, a, a', Bool.and_self]
  · simp only [PyData.intsShort, PyData.intsShortAll, b, b', Bool.and_self]
  · simp only [PyData.weight, PyData.weightAll]
    omega
  · simp only [PyData.showable, PyData.showableAll, c, c', Bool.and_self]
  · simp only [PyData.depth, PyData.depthAll]
    omega
open PySem in
theorem reprOk_bl (b : Bool) : ReprOk (.bool b) := by
  cases b <;> exact ⟨rfl, rfl, by decide, by rw [sizeLine_eq]; decide +kernel⟩
theorem toP_nats {μ : Mu} (k : Nat) (ms : List Nat) : mapO (toP μ (k + 1)) (ms.map nD) = some (ms.map pI) := by
  induction ms with
  | nil => rfl
  | cons a r ih => simp only [List.map_cons, mapO, ih, toP_int]
theorem toP_tD {μ : Mu} (k : Nat) (ms : List Nat) : toP μ (k + 2) (tD ms) = some (pT ms) := (toP_tup (k + 1) _).trans (by rw [toP_nats k]; rfl)
theorem toP_two {μ : Mu} (ms ns : List Nat) : toP μ 12 (.new [tD ms, tD ns]) = some (.list [pT ms, pT ns]) := (toP_new 11 _).trans (by simp only [mapO, toP_tD 9]; rfl)
theorem e_repr2 {μ : Mu} {ms ns : List Nat} (h : ReprOk (.list [pT ms, pT ns])) : fRepr [.new [tD ms, tD ns]] μ = .ok (.str (PySem.PyData.shown (.list [pT ms, pT ns]))) μ := by
  simp only [fRepr, toP_two]
  rw [if_pos h]
theorem e_reprB {μ : Mu} {b : Bool} : fRepr [.bl b] μ = .ok (.str (PySem.PyData.shown (.bool b))) μ := by
  simp only [fRepr, toP_bl]
  rw [if_pos (reprOk_bl b)]
theorem v_is_told {ms ns : List Nat} {μ : Mu} (hm : Mq 999999999 ms) (lm : ms.length ≤ 20) (hn : Mq 999999999 ns) (ln : ns.length ≤ 20) : Wp (f__law_is_told [tD ms, tD ns] μ) fun r μ' => r = .bl true ∧ Pre μ μ' := by
  have hM := hm.mach (by omega)
  have hN := hn.mach (by omega)
  have hr : ReprOk (.list [pT ms, pT ns]) := repr_two (fun m h => by have := hm m h; omega) (fun m h => by have := hn m h; omega) (by omega) (by omega)
  refine wp_run (b := b__law_is_told) ?_
  unfold b__law_is_told
  walk_at "ev"
  rw [e_repr2 hr]
  walk_at "ev"
  refine (v_due hM lm hN ln).mono ?_
  rintro r μ1 ⟨p1, b, rfl, hb⟩
  rw [e_reprB]
  walk_at "ev"
  refine (v_outdoes hM lm hN ln).mono ?_
  rintro r μ2 ⟨p2, b2, rfl, hb2⟩
  have eb : b2 = b := by
    rw [Bool.eq_iff_iff, hb, hb2]
  subst eb
  rw [e_reprB]
  walk_at "ev"
  rw [e_neS]
  walk_at "ev"
  rw [if_neg (by simp)]
  walk_at "ev"
  refine (show Wp (f_outdoes [tD ms, tD ns] μ2) _ from (v_outdoes hM lm hN ln).mono ?_)
  rintro r μ3 ⟨p3, b3, rfl, hb3⟩
  have eb : b3 = b2 := by
    rw [Bool.eq_iff_iff, hb3, hb2]
  subst eb
  rw [e_reprB]
  walk_at "ev"
  rw [e_neS]
  walk_at "ev"
  rw [if_neg (by simp)]
  walk_at "ev"
  rw [e_repr2 hr]
  walk_at "ev"
  rw [e_eqS]
  walk_at "ev"
  exact ⟨by simp, (p1.trans p2).trans p3⟩
/-! what it means: nothing is lost -/
theorem v_is_meant {d c : Nat} {ms ns : List Nat} {μ : Mu} (h : Dk d c μ) (hm : Mach ms) (lm : ms.length ≤ 20) (hn : Mach ns) (ln : ns.length ≤ 20) (ho : OD ms ns) : Wp (f__law_is_meant [.ref d, tD ms, tD ns] μ) fun r μ' => r = .bl true ∧ Sv d c μ μ' := by
  refine wp_run (b := b__law_is_meant) ?_
  unfold b__law_is_meant
  walk_at "ev"
  refine ⟨sm_by (by omega) (by omega), ?_⟩
  refine forD_ok (fun i ρ μ1 => Sv d c μ μ1 ∧ ∃ z3 z4 z5, ρ = [some (.ref d), some (tD ms), some (tD ns), z3, z4, z5]) ⟨Sv.refl h, _, _, _, rfl⟩ ?_ ?_ ?_
  · exact fun _ _ _ _ => rfl
  · rintro i x ρ μ1 hx ⟨s1, z3, z4, z5, rfl⟩
    walk_at "ev"
    refine (v_draw (many := 4) s1.1 (by omega) (by omega)).mono ?_
    rintro r μ2 ⟨s2, _, t, rfl, ht⟩
    walk_at "ev"
    refine (v_leasts hn ln).mono ?_
    rintro r μ3 ⟨p3, f, rfl, hf⟩
    walk_at "ev"
    refine (v_least_at (t := t) hf).mono ?_
    rintro r μ4 ⟨rfl, rfl⟩
    have s3 := (s1.trans s2).pre p3
    refine (v_draw (many := 2) s3.1 (by omega) (by omega)).mono ?_
    rintro r μ5 ⟨s5, _, k, rfl, hk⟩
    have s6 := s3.trans s5
    walk_at "ev"
    generalize hmany : (if ((lAt ns t : Nat) : Int) - (k : Int) > 2 then ((lAt ns t : Nat) : Int) - (k : Int) else 2) = many
    have hmany2 : 2 ≤ many := by
      rw [← hmany]
      split <;> omega
    refine (v_does (t := t) hn ln).mono ?_
    rintro r μ7 ⟨p7, b7, rfl, h7⟩
    walk_at "ev"
    cases b7 with
    | false =>
      rw [if_neg (by simp)]
      walk_at "ev"
      exact ⟨s6.pre p7, _, _, _, rfl⟩
    | true =>
      rw [if_pos rfl]
      walk_at "ev"
      refine (v_does (t := t) hm lm).mono ?_
      rintro r μ8 ⟨p8, b8, rfl, h8⟩
      have hb8 : b8 = true := by
        obtain ⟨g1, g2⟩ := h7.mp rfl
        have g3 : lAt ns t ≤ lAt ms t := ho t
        refine h8.mpr ⟨?_, by omega⟩
        by_cases hc : t ≤ ms.length
        · exact hc
        · have := lAt_far (ms := ms) (t := t) (by omega)
          omega
      subst hb8
      walk_at "ev"
      exact ⟨(s6.pre p7).pre p8, _, _, _, rfl⟩
  · rintro ρ μ1 ⟨s1, z3, z4, z5, rfl⟩
    walk_at "ev"
    exact s1

theorem e_slS {μ : Mu} {lo hi : Option Int} {xs : List D} : oSl lo hi (.sls xs) μ = .ok (.new (cutD xs lo hi)) μ := rfl
theorem v_deck {ns : List Int} {μ : Mu} (hl : ns.length ≤ 63) : Wp (f__law_deck [.sls (ns.map D.int)] μ) fun r μ' => ∃ d c, r = .ref d ∧ Dk d c μ' := by
  refine wp_run (b := b__law_deck) ?_
  unfold b__law_deck
  walk_at "ev"
  rw [e_slS]
  walk_at "ev"
  have e63 : cutD (ns.map D.int) none (some 63) = ns.map D.int := by
    rw [show (63 : Int) = ((63 : Nat) : Int) from rfl, cut_to, List.take_of_length_le (by rw [List.length_map]; exact hl)]
  rw [e63]
  refine lcD_ok (szl (by rw [List.length_map]; omega)) (fun i acc μ1 => μ1 = μ ∧ ∃ cs : List Int, acc = cs.map D.int) ⟨rfl, [], rfl⟩ (fun _ _ _ _ => rfl) ?_ ?_
  · rintro i x acc μ1 hx ha ⟨rfl, cs, rfl⟩
    rw [List.getElem?_map] at hx
    cases hc : ns[i]? with
    | none => rw [hc] at hx; cases hx
    | some j =>
      rw [hc] at hx
      cases hx
      walk_at "ev"
      by_cases h0 : (0 : Int) ≤ j
      · rw [decide_eq_true h0, if_pos rfl]
        rw [oMul_ok (mulL (by omega) (by omega))]
        walk_at "ev"
        exact ⟨cs ++ [2 * j], by rw [List.map_append]; rfl⟩
      · rw [decide_eq_false h0, if_neg (by simp)]
        walk_at "ev"
        rw [oMul_ok (mulL (by omega) (by omega))]
        walk_at "ev"
        exact ⟨cs ++ [-2 * j - 1], by rw [List.map_append]; rfl⟩
  · rintro acc μ1 ha ⟨rfl, cs, rfl⟩
    have hc : (μ1 ++ [O.lst (cs.map D.int)])[μ1.length]? = some (.lst (cs.map D.int)) := get_last
    have hcs : cs.length ≤ 63 := by
      rw [List.length_map, List.length_map] at ha
      omega
    rw [srcOf_ref hc]
    walk_at "ev"
    obtain ⟨A, hA⟩ : ∃ A, A = μ1 ++ [O.lst (cs.map D.int)] := ⟨_, rfl⟩
    rw [← hA] at hc ⊢
    refine forD_ok (fun i ρ μ2 => μ2 = A ∧ ∃ (s : Int) (z : Option D), ρ = [some (.sls (ns.map D.int)), some (.ref μ1.length), some (.int s), z]) ⟨rfl, _, _, rfl⟩ ?_ ?_ ?_
    · rintro i ρ μ2 ⟨rfl, _⟩
      exact ownB_some hc
    · rintro i x ρ μ2 hx ⟨rfl, s, z, rfl⟩
      rw [List.getElem?_map] at hx
      cases hj : cs[i]? with
      | none => rw [hj] at hx; cases hx
      | some j =>
        rw [hj] at hx
        cases hx
        walk_at "ev"
        rw [oMul_ok (mulR (by omega) (by omega))]
        walk_at "ev"
        rw [oMod_ok (by omega)]
        walk_at "ev"
        exact ⟨_, _, rfl⟩
    · rintro ρ μ2 ⟨rfl, s, z, rfl⟩
      walk_at "ev"
      rw [srcOf_ref hc]
      walk_at "ev"
      refine lcD_ok (szl (by rw [List.length_map]; omega)) (fun i acc μ3 => μ3 = μ2 ∧ ∃ cs : List Int, acc = cs.map D.int) ⟨rfl, [], rfl⟩ (fun i acc μ3 h => by rw [h.1]; exact ownB_some hc) ?_ ?_
      · rintro i x acc μ3 hx ha ⟨rfl, cs', rfl⟩
        rw [List.getElem?_map] at hx
        cases hj : cs[i]? with
        | none => rw [hj] at hx; cases hx
        | some j =>
          rw [hj] at hx
          cases hx
          walk_at "ev"
          rw [oPow_ok ⟨by omega, by omega, by omega⟩]
          walk_at "ev"
          split
          · exact ⟨cs' ++ [j], by rw [List.map_append]; rfl⟩
          · exact ⟨cs', rfl⟩
      · rintro acc μ3 ha ⟨rfl, cs', rfl⟩
        refine ⟨_, _, rfl, ?_, cs', s, 0, get_last, ?_⟩
        · simp
        · rw [List.getElem?_append_left (by simp)]
          exact get_last

theorem Lf_full (ms : List Nat) : Lf ms ms.length = lcmN ms := Lf_eq ⟨⟨ms, List.Sublist.refl _, rfl, rfl⟩, fun s h1 h2 => by rw [h1.eq_of_length h2]; exact Nat.le_refl _⟩
theorem od_7_22 : OD [7] [2, 2] := fun t => by
  match t with
  | 0 =>
    have e1 := Lf_full [2, 2]
    have e2 := Lf_full [7]
    show Lf [2, 2] 2 ≤ Lf [7] 1
    have e1' : Lf [2, 2] 2 = lcmN [2, 2] := e1
    have e2' : Lf [7] 1 = lcmN [7] := e2
    rw [e1', e2']
    decide
  | t + 1 =>
    have e1 : ([2, 2] : List Nat).length - 2 * (t + 1) = 0 := by simp; omega
    have e2 : ([7] : List Nat).length - 2 * (t + 1) = 0 := by simp; omega
    rw [e1, e2, Lf_zero, Lf_zero]
    exact Nat.le_refl _
theorem od_7_222 : ¬OD [7] [2, 2, 2] := fun h => by
  have h1 : Lf [2, 2, 2] 1 ≤ Lf [7] 0 := h 1
  have h2 : Lf [2, 2, 2] 1 = 2 := by
    refine Lf_eq ⟨⟨[2], by decide, rfl, by decide⟩, fun s s1 s2 => ?_⟩
    match s, s2 with
    | [x], _ =>
      have hx : x ∈ [2, 2, 2] := s1.subset List.mem_cons_self
      have : x = 2 := by simpa using hx
      rw [this, lcmN_one]
      exact Nat.le_refl _
  rw [h2, Lf_zero] at h1
  omega
theorem od_tail {x : Nat} {b : List Nat} (h : Pos (x :: b)) : OD (x :: b) b := od_ins (a := []) h
structure Good (ms : List Nat) : Prop where
  num : Mq 999999999 ms
  one : 1 ≤ ms.length
  ten : ms.length ≤ 10
theorem Good.mach {ms : List Nat} (h : Good ms) : Mach ms := h.num.mach (by omega)
theorem Good.l20 {ms : List Nat} (h : Good ms) : ms.length ≤ 20 := Nat.le_trans h.ten (by omega)
open PySem in
theorem e_reprTF {μ : Mu} : fRepr [.new [.bl true, .bl false]] μ = .ok (.str (PyData.shown (.list [.bool true, .bool false]))) μ := by
  have e : toP μ 12 (.new [.bl true, .bl false]) = some (.list [.bool true, .bool false]) := rfl
  simp only [fRepr, e]
  rw [if_pos ⟨rfl, rfl, by decide, by rw [sizeLine_eq]; decide +kernel⟩]
theorem turn_head {T : MS} {Q : Fl × En → Mu → Prop} {d c : Nat} {s z2 z3 z4 z5 z6 z7 z8 z9 z10 : Option D} {μ : Mu} (hd : Dk d c μ)
    (hT : ∀ (one other made third fewer : List Nat) (μ' : Mu), Sv d c μ μ' → Good one → Good other → Good made → Good third → Good fewer → OD made one → OD one fewer → Ok (T [s, some (.ref d), some (tD one), z3, some (tD other), some (tD made), some (tD third), some (tD fewer), z8, z9, z10] μ') Q) :
    Ok (mSeq (mPar 2 4 (mCons (mCall f__law_some_machine (mCons (mVar 1) mNil)) (mCons (mCall f__law_some_machine (mCons (mVar 1) mNil)) mNil))) (mSeq (mAsg 5 (mCall f__law_made (mCons (mVar 1) (mCons (mVar 2) mNil)))) (mSeq (mAsg 6 (mIf (mT (mOp oEq (mCall f__law_draw (mCons (mVar 1) (mCons (mC (.int 2)) mNil))) (mC (.int 0)))) (mCall f__law_made (mCons (mVar 1) (mCons (mVar 5) mNil))) (mCall f__law_some_machine (mCons (mVar 1) mNil)))) (mSeq (mAsg 7 (mIf (mT (mOp oGt (mB1 fLen (mVar 2)) (mC (.int 1)))) (mSl (mVar 2) (mPart (mC (.int 1))) mNoP) (mVar 2))) T))) [s, some (.ref d), z2, z3, z4, z5, z6, z7, z8, z9, z10] μ) Q := by
  walk_at "ev"
  refine (v_some_machine hd).mono ?_
  rintro r μ1 ⟨s1, one, rfl, o1, o6, oq⟩
  walk_at "ev"
  refine (v_some_machine s1.1).mono ?_
  rintro r μ2 ⟨s2, other, rfl, p1, p6, pq⟩
  walk_at "ev"
  have s12 := s1.trans s2
  refine (v_made s2.1 o1 (by omega) oq (by omega)).mono ?_
  rintro r μ3 ⟨s3, made, rfl, mo, mq, m1, m7, _⟩
  walk_at "ev"
  have s13 := s12.trans s3
  refine (v_draw (many := 2) s3.1 (by omega) (by omega)).mono ?_
  rintro r μ4 ⟨s4, _, k, rfl, hk⟩
  walk_at "ev"
  have s14 := s13.trans s4
  have gone : Good one := ⟨oq.mono (by omega), o1, by omega⟩
  have gother : Good other := ⟨pq.mono (by omega), p1, by omega⟩
  have gmade : Good made := ⟨mq.mono (by omega), m1, by omega⟩
  have last : ∀ (third : List Nat) (μ5 : Mu), Good third → Sv d c μ μ5 → Ok (if decide ((1 : Int) < (((List.map nD one).length : Nat) : Int)) = true then noex (oSl (some 1) none (.tup (List.map nD one)) μ5) else .ok (.tup (List.map nD one)) μ5) (fun a μ => Ok (settle a μ) fun a μ => Ok (T [s, some (.ref d), some (.tup (List.map nD one)), z3, some (.tup (List.map nD other)), some (.tup (List.map nD made)), some (.tup (List.map nD third)), some a, z8, z9, z10] μ) Q) := by
    intro third μ5 gthird s5
    rw [List.length_map]
    cases one with
    | nil => exact absurd o1 (by simp)
    | cons x b =>
      by_cases hb : (1 : Int) < (((x :: b).length : Nat) : Int)
      · rw [decide_eq_true hb, if_pos rfl]
        have e : cutD ((x :: b).map nD) (some 1) none = b.map nD := by
          rw [show (1 : Int) = ((1 : Nat) : Int) from rfl, cut_from]
          rfl
        rw [ok_noex, e_slT, e]
        walk_at "ev"
        have gb : Good b := ⟨fun m hm => gone.num m (List.mem_cons_of_mem _ hm), by simp at hb; omega, by have := gone.ten; simp at this; omega⟩
        exact hT (x :: b) other made third b μ5 s5 gone gother gmade gthird gb mo (od_tail gone.mach.pos)
      · rw [decide_eq_false hb, if_neg (by simp)]
        walk_at "ev"
        exact hT (x :: b) other made third (x :: b) μ5 s5 gone gother gmade gthird gone mo (OD.refl _)
  by_cases w : ((k : Nat) : Int) = 0
  · rw [decide_eq_true w, if_pos rfl]
    walk_at "ev"
    refine (v_made s14.1 m1 (by omega) mq (by omega)).mono ?_
    rintro r μ5 ⟨s5, third, rfl, to, tq, t1, t8, t10⟩
    walk_at "ev"
    exact last third μ5 ⟨tq.mono (by omega), t1, t10⟩ (s14.trans s5)
  · rw [decide_eq_false w, if_neg (by simp)]
    walk_at "ev"
    refine (v_some_machine s14.1).mono ?_
    rintro r μ5 ⟨s5, third, rfl, t1, t6, tq⟩
    walk_at "ev"
    exact last third μ5 ⟨tq.mono (by omega), t1, by omega⟩ (s14.trans s5)

/-- one pair of the six -/
theorem turn_pair {d c : Nat} {s z2 z3 z4 z5 z6 z7 z10 : Option D} {a b : List Nat} {μ : Mu} (hd : Dk d c μ) (ga : Good a) (gb : Good b) :
    Ok (mSeq (mIfS (mNotT (mT (mCall f__law_is_told (mCons (mVar 8) (mCons (mVar 9) mNil))))) (mRet (mC (.bl false))) mNext) (mIfS (mAndT (mT (mCall f_outdoes (mCons (mVar 8) (mCons (mVar 9) mNil)))) (mNotT (mT (mCall f__law_is_meant (mCons (mVar 1) (mCons (mVar 8) (mCons (mVar 9) mNil))))))) (mRet (mC (.bl false))) mNext) [s, some (.ref d), z2, z3, z4, z5, z6, z7, some (tD a), some (tD b), z10] μ)
      fun r μ' => r = (.nx, [s, some (.ref d), z2, z3, z4, z5, z6, z7, some (tD a), some (tD b), z10]) ∧ Sv d c μ μ' := by
  walk_at "ev"
  refine (v_is_told ga.num ga.l20 gb.num gb.l20).mono ?_
  rintro r μ1 ⟨rfl, p1⟩
  walk_at "ev"
  refine (v_outdoes ga.mach ga.l20 gb.mach gb.l20).mono ?_
  rintro r μ2 ⟨p2, b2, rfl, hb⟩
  have s2 : Sv d c μ μ2 := ((Sv.refl hd).pre p1).pre p2
  cases b2 with
  | false =>
    walk_at "ev"
    exact s2
  | true =>
    walk_at "ev"
    refine (v_is_meant s2.1 ga.mach ga.l20 gb.mach gb.l20 (hb.mp rfl)).mono ?_
    rintro r μ3 ⟨rfl, s3⟩
    walk_at "ev"
    exact s2.trans s3
theorem turn_tail {d c : Nat} {s z3 z8 z9 z10 : Option D} {one other made third fewer : List Nat} {μ : Mu} (hd : Dk d c μ) (g1 : Good one) (g2 : Good other) (g3 : Good made) (g4 : Good third) (g5 : Good fewer) (o1 : OD made one) (o2 : OD one fewer) :
    Ok (mSeq (mFor (mSq (mLst (mCons (mTup (mCons (mVar 2) (mCons (mVar 4) mNil))) (mCons (mTup (mCons (mVar 4) (mCons (mVar 2) mNil))) (mCons (mTup (mCons (mVar 5) (mCons (mVar 2) mNil))) (mCons (mTup (mCons (mVar 2) (mCons (mVar 5) mNil))) (mCons (mTup (mCons (mVar 6) (mCons (mVar 4) mNil))) (mCons (mTup (mCons (mVar 7) (mCons (mVar 2) mNil))) mNil)))))))) (gT 2 (gsCons (gN 8) (gsCons (gN 9) gsNil))) (mSeq (mIfS (mNotT (mT (mCall f__law_is_told (mCons (mVar 8) (mCons (mVar 9) mNil))))) (mRet (mC (.bl false))) mNext) (mIfS (mAndT (mT (mCall f_outdoes (mCons (mVar 8) (mCons (mVar 9) mNil)))) (mNotT (mT (mCall f__law_is_meant (mCons (mVar 1) (mCons (mVar 8) (mCons (mVar 9) mNil))))))) (mRet (mC (.bl false))) mNext))) (mSeq (mIfS (mOrT (mNotT (mT (mCall f_outdoes (mCons (mVar 2) (mCons (mVar 2) mNil))))) (mOrT (mNotT (mT (mCall f_outdoes (mCons (mVar 5) (mCons (mVar 2) mNil))))) (mNotT (mT (mCall f_outdoes (mCons (mVar 2) (mCons (mVar 7) mNil))))))) (mRet (mC (.bl false))) mNext) (mIfS (mAndT (mT (mCall f_outdoes (mCons (mVar 6) (mCons (mVar 5) mNil)))) (mNotT (mT (mCall f_outdoes (mCons (mVar 6) (mCons (mVar 2) mNil)))))) (mRet (mC (.bl false))) mNext))
      [s, some (.ref d), some (tD one), z3, some (tD other), some (tD made), some (tD third), some (tD fewer), z8, z9, z10] μ)
      fun r μ' => r.1 = .nx ∧ Sv d c μ μ' ∧ ∃ z2 z3 z4 z5 z6 z7 z8 z9 z10, r.2 = [s, some (.ref d), z2, z3, z4, z5, z6, z7, z8, z9, z10] := by
  refine ok_seq (for_ok ?_)
  have hsrc : mSq (mLst (mCons (mTup (mCons (mVar 2) (mCons (mVar 4) mNil))) (mCons (mTup (mCons (mVar 4) (mCons (mVar 2) mNil))) (mCons (mTup (mCons (mVar 5) (mCons (mVar 2) mNil))) (mCons (mTup (mCons (mVar 2) (mCons (mVar 5) mNil))) (mCons (mTup (mCons (mVar 6) (mCons (mVar 4) mNil))) (mCons (mTup (mCons (mVar 7) (mCons (mVar 2) mNil))) mNil)))))))
      [s, some (.ref d), some (tD one), z3, some (tD other), some (tD made), some (tD third), some (tD fewer), z8, z9, z10] μ = .ok ⟨[.tup [tD one, tD other], .tup [tD other, tD one], .tup [tD made, tD one], .tup [tD one, tD made], .tup [tD third, tD other], .tup [tD fewer, tD one]], none⟩ μ := by
    walk_at "ev"
  rw [hsrc, ok_ok]
  refine forD_ok (fun i ρ μ1 => Sv d c μ μ1 ∧ ∃ z8 z9, ρ = [s, some (.ref d), some (tD one), z3, some (tD other), some (tD made), some (tD third), some (tD fewer), z8, z9, z10]) ⟨Sv.refl hd, _, _, rfl⟩ ?_ ?_ ?_
  · exact fun _ _ _ _ => rfl
  · rintro i x ρ μ1 hx ⟨s1, z8, z9, rfl⟩
    have hab : ∃ a b, x = .tup [tD a, tD b] ∧ Good a ∧ Good b := by
      match i, hx with
      | 0, hx => cases hx; exact ⟨_, _, rfl, g1, g2⟩
      | 1, hx => cases hx; exact ⟨_, _, rfl, g2, g1⟩
      | 2, hx => cases hx; exact ⟨_, _, rfl, g3, g1⟩
      | 3, hx => cases hx; exact ⟨_, _, rfl, g1, g3⟩
      | 4, hx => cases hx; exact ⟨_, _, rfl, g4, g2⟩
      | 5, hx => cases hx; exact ⟨_, _, rfl, g5, g1⟩
      | i + 6, hx => simp at hx
    obtain ⟨a, b, rfl, ga, gb⟩ := hab
    have hg : gT 2 (gsCons (gN 8) (gsCons (gN 9) gsNil)) (.tup [tD a, tD b]) [s, some (.ref d), some (tD one), z3, some (tD other), some (tD made), some (tD third), some (tD fewer), z8, z9, z10] μ1 = .ok [s, some (.ref d), some (tD one), z3, some (tD other), some (tD made), some (tD third), some (tD fewer), some (tD a), some (tD b), z10] μ1 := rfl
    rw [hg, ok_ok]
    refine ok_mono (turn_pair s1.1 ga gb) ?_
    rintro r μ2 ⟨rfl, s2⟩
    exact ⟨s1.trans s2, _, _, rfl⟩
  · rintro ρ μ1 ⟨s1, z8, z9, rfl⟩
    simp only
    walk_at "ev"
    refine (v_outdoes g1.mach g1.l20 g1.mach g1.l20).mono ?_
    rintro r μ2 ⟨p2, b2, rfl, hb2⟩
    rw [hb2.mpr (OD.refl _)]
    walk_at "ev"
    refine (v_outdoes g3.mach g3.l20 g1.mach g1.l20).mono ?_
    rintro r μ3 ⟨p3, b3, rfl, hb3⟩
    rw [hb3.mpr o1]
    walk_at "ev"
    refine (v_outdoes g1.mach g1.l20 g5.mach g5.l20).mono ?_
    rintro r μ4 ⟨p4, b4, rfl, hb4⟩
    rw [hb4.mpr o2]
    walk_at "ev"
    refine (v_outdoes g4.mach g4.l20 g3.mach g3.l20).mono ?_
    rintro r μ5 ⟨p5, b5, rfl, hb5⟩
    have s5 := (((s1.pre p2).pre p3).pre p4).pre p5
    cases b5 with
    | false =>
      walk_at "ev"
      exact ⟨s5, _, _, _, _, _, _, _, _, _, rfl⟩
    | true =>
      walk_at "ev"
      refine (v_outdoes g4.mach g4.l20 g1.mach g1.l20).mono ?_
      rintro r μ6 ⟨p6, b6, rfl, hb6⟩
      rw [hb6.mpr ((hb5.mp rfl).trans o1)]
      walk_at "ev"
      exact ⟨s5.pre p6, _, _, _, _, _, _, _, _, _, rfl⟩
theorem v_law {ns : List Int} (hl : ns.length ≤ 63) : Wp (f_law [.sls (ns.map D.int)] []) fun r μ' => r = .bl true := by
  refine wp_run (b := b_law) ?_
  unfold b_law
  walk_at "ev"
  refine (v_deck hl).mono ?_
  rintro r μ1 ⟨d, c, rfl, hd⟩
  walk_at "ev"
  refine (v_draw (many := 16) hd (by omega) (by omega)).mono ?_
  rintro r μ2 ⟨s2, _, k, rfl, hk⟩
  walk_at "ev"
  by_cases w : ((k : Nat) : Int) = 0
  · rw [decide_eq_true w, if_pos rfl]
    walk_at "ev"
    refine ⟨sm_by (by omega) (by omega), ?_⟩
    refine ok_mono (lc_draws (P := fun m => 2 ≤ m ∧ m ≤ 13) (n := 10) s2.1 (by omega) ?_) ?_
    · intro x μ3 h3
      walk_at "ev"
      refine (v_draw (many := 12) h3 (by omega) (by omega)).mono ?_
      rintro r μ4 ⟨s4, _, k, rfl, hk⟩
      walk_at "ev"
      exact ⟨s4, 2 + k, rfl, by omega, by omega⟩
    · rintro acc μ3 ⟨s3, ms, rfl, hl, hp⟩
      have hg : Good ms := ⟨Mq.mono (B := 13) hp (by omega), by omega, by omega⟩
      refine (v_made s3.1 (by omega) (by omega) (B := 13) hp (by omega)).mono ?_
      rintro r μ4 ⟨s4, made, rfl, mo, mq, m1, m7, m10⟩
      have gm : Good made := ⟨mq.mono (by omega), m1, m10⟩
      rw [settle_tup, ok_ok]
      refine (v_is_told hg.num hg.l20 gm.num gm.l20).mono ?_
      rintro r μ5 ⟨rfl, p5⟩
      exact rfl
  · rw [decide_eq_false w, if_neg (by simp)]
    walk_at "ev"
    refine ⟨sm_by (by omega) (by omega), ?_⟩
    refine forD_ok (fun i ρ μ3 => Sv d c μ2 μ3 ∧ ∃ z2 z3 z4 z5 z6 z7 z8 z9 z10, ρ = [some (.sls (ns.map D.int)), some (.ref d), z2, z3, z4, z5, z6, z7, z8, z9, z10]) ⟨Sv.refl s2.1, _, _, _, _, _, _, _, _, _, rfl⟩ ?_ ?_ ?_
    · exact fun _ _ _ _ => rfl
    · rintro i x ρ μ3 hx ⟨s3, z2, z3, z4, z5, z6, z7, z8, z9, z10, rfl⟩
      simp only [gN, ok_ok, List.set_cons_succ, List.set_cons_zero]
      refine turn_head s3.1 ?_
      intro one other made third fewer μ4 s4 g1 g2 g3 g4 g5 o1 o2
      refine ok_mono (turn_tail s4.1 g1 g2 g3 g4 g5 o1 o2) ?_
      rintro ⟨r, ρ⟩ μ5 ⟨h1, s5, h2⟩
      cases h1
      exact ⟨(s3.trans s4).trans s5, h2⟩
    · rintro ρ μ3 ⟨s3, z2, z3, z4, z5, z6, z7, z8, z9, z10, rfl⟩
      walk_at "ev"
      have m7 : Mach [7] := ⟨by intro m hm; simp at hm; omega, by intro m hm; simp at hm; omega⟩
      have m22 : Mach [2, 2] := ⟨by intro m hm; simp at hm; omega, by intro m hm; simp at hm; omega⟩
      have m222 : Mach [2, 2, 2] := ⟨by intro m hm; simp at hm; omega, by intro m hm; simp at hm; omega⟩
      refine (show Wp (f_outdoes [tD [7], tD [2, 2]] μ3) _ from (v_outdoes m7 (by simp) m22 (by simp)).mono ?_)
      rintro r μ4 ⟨p4, b4, rfl, hb4⟩
      rw [hb4.mpr od_7_22]
      walk_at "ev"
      refine (show Wp (f_outdoes [tD [7], tD [2, 2, 2]] μ4) _ from (v_outdoes m7 (by simp) m222 (by simp)).mono ?_)
      rintro r μ5 ⟨p5, b5, rfl, hb5⟩
      have e5 : b5 = false := by
        cases b5 with
        | false => rfl
        | true => exact absurd (hb5.mp rfl) od_7_222
      subst e5
      walk_at "ev"
      rw [e_reprTF]
      walk_at "ev"
      rw [e_reprTF]
      walk_at "ev"
      rw [e_eqS]
      walk_at "ev"
      simp

end M
namespace M
open PySem PySem.Spec PyProof.Rows L2
theorem law_holds {ns : List Int} (hl : ns.length ≤ 63) : ∃ μ', f_law [.sls (ns.map D.int)] [] = some (.bl true, μ') := by
  obtain ⟨d, μ', e, h⟩ := v_law hl
  have h : d = .bl true := h
  subst h
  exact ⟨μ', e⟩

/-! ### what the top has written, and the theorem -/
theorem all_mk {l : PySem.W.OpenLaw} {w : World} {K : PySem.W.Frag} {h : Heap} {mg : Str → Option Value} {fa f0 f1 f2 f3 f4 f5 f6 f7 f8 f9 f10 f11 f12 f13 f14 f15 f16 f17 f18 f19 f20 : Addr} (X : K.In h) (G : h.Ns mainGlobals mg) (hfa : mg "law" = some (.ref fa))
    {od0 an0 od1 an1 od2 an2 od3 an3 od4 an4 od5 an5 od6 an6 od7 an7 od8 an8 od9 an9 od10 an10 od11 an11 od12 an12 od13 an13 od14 an14 od15 an15 od16 an16 od17 an17 od18 an18 od19 an19 od20 an20 : Option Addr} {sl0 sl1 sl2 sl3 sl4 sl5 sl6 sl7 sl8 sl9 sl10 sl11 sl12 sl13 sl14 sl15 sl16 sl17 sl18 sl19 sl20 : Array (Option Value)} {oc0 kV0 dc0 pm0 cd0 ct0 oc1 kV1 dc1 pm1 cd1 ct1 oc2 kV2 dc2 pm2 cd2 ct2 oc3 kV3 dc3 pm3 cd3 ct3 oc4 kV4 dc4 pm4 cd4 ct4 oc5 kV5 dc5 pm5 cd5 ct5 oc6 kV6 dc6 pm6 cd6 ct6 oc7 kV7 dc7 pm7 cd7 ct7 oc8 kV8 dc8 pm8 cd8 ct8 oc9 kV9 dc9 pm9 cd9 ct9 oc10 kV10 dc10 pm10 cd10 ct10 oc11 kV11 dc11 pm11 cd11 ct11 oc12 kV12 dc12 pm12 cd12 ct12 oc13 kV13 dc13 pm13 cd13 ct13 oc14 kV14 dc14 pm14 cd14 ct14 oc15 kV15 dc15 pm15 cd15 ct15 oc16 kV16 dc16 pm16 cd16 ct16 oc17 kV17 dc17 pm17 cd17 ct17 oc18 kV18 dc18 pm18 cd18 ct18 oc19 kV19 dc19 pm19 cd19 ct19 oc20 kV20 dc20 pm20 cd20 ct20 : Value}
    (a0 : PySem.W.nsIn K mainGlobals "span_of" = some (some (.ref f0))) (l0 : K.lookup f0 = some ⟨oc0, od0, .func (PySem.W.fnOf "span_of" "span_of" (defArgs s_span_of) (defBody s_span_of) (defScope s_span_of) .none kV0 dc0 pm0 an0 cd0 ct0), sl0⟩) (c0 : PySem.W.codeIn K cd0 "span_of" = true) (k0 : PySem.W.keepIn K (.ref f0) = true)
    (a1 : PySem.W.nsIn K mainGlobals "picks" = some (some (.ref f1))) (l1 : K.lookup f1 = some ⟨oc1, od1, .func (PySem.W.fnOf "picks" "picks" (defArgs s_picks) (defBody s_picks) (defScope s_picks) .none kV1 dc1 pm1 an1 cd1 ct1), sl1⟩) (c1 : PySem.W.codeIn K cd1 "picks" = true) (k1 : PySem.W.keepIn K (.ref f1) = true)
    (a2 : PySem.W.nsIn K mainGlobals "spans_of" = some (some (.ref f2))) (l2 : K.lookup f2 = some ⟨oc2, od2, .func (PySem.W.fnOf "spans_of" "spans_of" (defArgs s_spans_of) (defBody s_spans_of) (defScope s_spans_of) .none kV2 dc2 pm2 an2 cd2 ct2), sl2⟩) (c2 : PySem.W.codeIn K cd2 "spans_of" = true) (k2 : PySem.W.keepIn K (.ref f2) = true)
    (a3 : PySem.W.nsIn K mainGlobals "least_left" = some (some (.ref f3))) (l3 : K.lookup f3 = some ⟨oc3, od3, .func (PySem.W.fnOf "least_left" "least_left" (defArgs s_least_left) (defBody s_least_left) (defScope s_least_left) .none kV3 dc3 pm3 an3 cd3 ct3), sl3⟩) (c3 : PySem.W.codeIn K cd3 "least_left" = true) (k3 : PySem.W.keepIn K (.ref f3) = true)
    (a4 : PySem.W.nsIn K mainGlobals "outdoes" = some (some (.ref f4))) (l4 : K.lookup f4 = some ⟨oc4, od4, .func (PySem.W.fnOf "outdoes" "outdoes" (defArgs s_outdoes) (defBody s_outdoes) (defScope s_outdoes) .none kV4 dc4 pm4 an4 cd4 ct4), sl4⟩) (c4 : PySem.W.codeIn K cd4 "outdoes" = true) (k4 : PySem.W.keepIn K (.ref f4) = true)
    (a5 : PySem.W.nsIn K mainGlobals "_law_deck" = some (some (.ref f5))) (l5 : K.lookup f5 = some ⟨oc5, od5, .func (PySem.W.fnOf "_law_deck" "_law_deck" (defArgs s__law_deck) (defBody s__law_deck) (defScope s__law_deck) .none kV5 dc5 pm5 an5 cd5 ct5), sl5⟩) (c5 : PySem.W.codeIn K cd5 "_law_deck" = true) (k5 : PySem.W.keepIn K (.ref f5) = true)
    (a6 : PySem.W.nsIn K mainGlobals "_law_draw" = some (some (.ref f6))) (l6 : K.lookup f6 = some ⟨oc6, od6, .func (PySem.W.fnOf "_law_draw" "_law_draw" (defArgs s__law_draw) (defBody s__law_draw) (defScope s__law_draw) .none kV6 dc6 pm6 an6 cd6 ct6), sl6⟩) (c6 : PySem.W.codeIn K cd6 "_law_draw" = true) (k6 : PySem.W.keepIn K (.ref f6) = true)
    (a7 : PySem.W.nsIn K mainGlobals "_law_pick" = some (some (.ref f7))) (l7 : K.lookup f7 = some ⟨oc7, od7, .func (PySem.W.fnOf "_law_pick" "_law_pick" (defArgs s__law_pick) (defBody s__law_pick) (defScope s__law_pick) .none kV7 dc7 pm7 an7 cd7 ct7), sl7⟩) (c7 : PySem.W.codeIn K cd7 "_law_pick" = true) (k7 : PySem.W.keepIn K (.ref f7) = true)
    (a8 : PySem.W.nsIn K mainGlobals "_law_mixed" = some (some (.ref f8))) (l8 : K.lookup f8 = some ⟨oc8, od8, .func (PySem.W.fnOf "_law_mixed" "_law_mixed" (defArgs s__law_mixed) (defBody s__law_mixed) (defScope s__law_mixed) .none kV8 dc8 pm8 an8 cd8 ct8), sl8⟩) (c8 : PySem.W.codeIn K cd8 "_law_mixed" = true) (k8 : PySem.W.keepIn K (.ref f8) = true)
    (a9 : PySem.W.nsIn K mainGlobals "_law_machine" = some (some (.ref f9))) (l9 : K.lookup f9 = some ⟨oc9, od9, .func (PySem.W.fnOf "_law_machine" "_law_machine" (defArgs s__law_machine) (defBody s__law_machine) (defScope s__law_machine) .none kV9 dc9 pm9 an9 cd9 ct9), sl9⟩) (c9 : PySem.W.codeIn K cd9 "_law_machine" = true) (k9 : PySem.W.keepIn K (.ref f9) = true)
    (a10 : PySem.W.nsIn K mainGlobals "_law_divisor" = some (some (.ref f10))) (l10 : K.lookup f10 = some ⟨oc10, od10, .func (PySem.W.fnOf "_law_divisor" "_law_divisor" (defArgs s__law_divisor) (defBody s__law_divisor) (defScope s__law_divisor) .none kV10 dc10 pm10 an10 cd10 ct10), sl10⟩) (c10 : PySem.W.codeIn K cd10 "_law_divisor" = true) (k10 : PySem.W.keepIn K (.ref f10) = true)
    (a11 : PySem.W.nsIn K mainGlobals "_law_spans" = some (some (.ref f11))) (l11 : K.lookup f11 = some ⟨oc11, od11, .func (PySem.W.fnOf "_law_spans" "_law_spans" (defArgs s__law_spans) (defBody s__law_spans) (defScope s__law_spans) .none kV11 dc11 pm11 an11 cd11 ct11), sl11⟩) (c11 : PySem.W.codeIn K cd11 "_law_spans" = true) (k11 : PySem.W.keepIn K (.ref f11) = true)
    (a12 : PySem.W.nsIn K mainGlobals "_law_leasts" = some (some (.ref f12))) (l12 : K.lookup f12 = some ⟨oc12, od12, .func (PySem.W.fnOf "_law_leasts" "_law_leasts" (defArgs s__law_leasts) (defBody s__law_leasts) (defScope s__law_leasts) .none kV12 dc12 pm12 an12 cd12 ct12), sl12⟩) (c12 : PySem.W.codeIn K cd12 "_law_leasts" = true) (k12 : PySem.W.keepIn K (.ref f12) = true)
    (a13 : PySem.W.nsIn K mainGlobals "_law_does" = some (some (.ref f13))) (l13 : K.lookup f13 = some ⟨oc13, od13, .func (PySem.W.fnOf "_law_does" "_law_does" (defArgs s__law_does) (defBody s__law_does) (defScope s__law_does) .none kV13 dc13 pm13 an13 cd13 ct13), sl13⟩) (c13 : PySem.W.codeIn K cd13 "_law_does" = true) (k13 : PySem.W.keepIn K (.ref f13) = true)
    (a14 : PySem.W.nsIn K mainGlobals "_law_least_at" = some (some (.ref f14))) (l14 : K.lookup f14 = some ⟨oc14, od14, .func (PySem.W.fnOf "_law_least_at" "_law_least_at" (defArgs s__law_least_at) (defBody s__law_least_at) (defScope s__law_least_at) .none kV14 dc14 pm14 an14 cd14 ct14), sl14⟩) (c14 : PySem.W.codeIn K cd14 "_law_least_at" = true) (k14 : PySem.W.keepIn K (.ref f14) = true)
    (a15 : PySem.W.nsIn K mainGlobals "_law_due" = some (some (.ref f15))) (l15 : K.lookup f15 = some ⟨oc15, od15, .func (PySem.W.fnOf "_law_due" "_law_due" (defArgs s__law_due) (defBody s__law_due) (defScope s__law_due) .none kV15 dc15 pm15 an15 cd15 ct15), sl15⟩) (c15 : PySem.W.codeIn K cd15 "_law_due" = true) (k15 : PySem.W.keepIn K (.ref f15) = true)
    (a16 : PySem.W.nsIn K mainGlobals "_law_some_machine" = some (some (.ref f16))) (l16 : K.lookup f16 = some ⟨oc16, od16, .func (PySem.W.fnOf "_law_some_machine" "_law_some_machine" (defArgs s__law_some_machine) (defBody s__law_some_machine) (defScope s__law_some_machine) .none kV16 dc16 pm16 an16 cd16 ct16), sl16⟩) (c16 : PySem.W.codeIn K cd16 "_law_some_machine" = true) (k16 : PySem.W.keepIn K (.ref f16) = true)
    (a17 : PySem.W.nsIn K mainGlobals "_law_made" = some (some (.ref f17))) (l17 : K.lookup f17 = some ⟨oc17, od17, .func (PySem.W.fnOf "_law_made" "_law_made" (defArgs s__law_made) (defBody s__law_made) (defScope s__law_made) .none kV17 dc17 pm17 an17 cd17 ct17), sl17⟩) (c17 : PySem.W.codeIn K cd17 "_law_made" = true) (k17 : PySem.W.keepIn K (.ref f17) = true)
    (a18 : PySem.W.nsIn K mainGlobals "_law_is_told" = some (some (.ref f18))) (l18 : K.lookup f18 = some ⟨oc18, od18, .func (PySem.W.fnOf "_law_is_told" "_law_is_told" (defArgs s__law_is_told) (defBody s__law_is_told) (defScope s__law_is_told) .none kV18 dc18 pm18 an18 cd18 ct18), sl18⟩) (c18 : PySem.W.codeIn K cd18 "_law_is_told" = true) (k18 : PySem.W.keepIn K (.ref f18) = true)
    (a19 : PySem.W.nsIn K mainGlobals "_law_is_meant" = some (some (.ref f19))) (l19 : K.lookup f19 = some ⟨oc19, od19, .func (PySem.W.fnOf "_law_is_meant" "_law_is_meant" (defArgs s__law_is_meant) (defBody s__law_is_meant) (defScope s__law_is_meant) .none kV19 dc19 pm19 an19 cd19 ct19), sl19⟩) (c19 : PySem.W.codeIn K cd19 "_law_is_meant" = true) (k19 : PySem.W.keepIn K (.ref f19) = true)
    (a20 : PySem.W.nsIn K mainGlobals "law" = some (some (.ref f20))) (l20 : K.lookup f20 = some ⟨oc20, od20, .func (PySem.W.fnOf "law" "law" (defArgs s_law) (defBody s_law) (defScope s_law) .none kV20 dc20 pm20 an20 cd20 ct20), sl20⟩) (c20 : PySem.W.codeIn K cd20 "law" = true) (k20 : PySem.W.keepIn K (.ref f20) = true)
    (z0 : PySem.W.nsIn K mainGlobals "gcd" = some (some (.builtin "math.gcd")))
    (z1 : PySem.W.nsIn K mainGlobals "int" = some none)
    (z2 : PySem.W.nsIn K mainGlobals "len" = some none)
    (z3 : PySem.W.nsIn K mainGlobals "list" = some none)
    (z4 : PySem.W.nsIn K mainGlobals "max" = some none)
    (z5 : PySem.W.nsIn K mainGlobals "min" = some none)
    (z6 : PySem.W.nsIn K mainGlobals "range" = some none)
    (z7 : PySem.W.nsIn K mainGlobals "repr" = some none)
    (z8 : PySem.W.nsIn K mainGlobals "sorted" = some none)
    (z9 : PySem.W.nsIn K mainGlobals "tuple" = some none)
    : ∃ fd : FuncData, (∀ (s : Shared) (v : Value), BindsTo s fd ⟨[v], []⟩ [("script", v)]) ∧ ∀ base : Heap, K.In base → base.Ns mainGlobals mg → FnG l.prog w K mg base CX0 6 fa fd ["script"] (spM K 1 f_law) := by
  have e := hfa.symm.trans (PySem.W.mg_of X G a20)
  cases e
  have T : Txt mg := ⟨PySem.W.mg_of X G z0, PySem.W.mg_none_of X G z1, PySem.W.mg_none_of X G z2, PySem.W.mg_none_of X G z3, PySem.W.mg_none_of X G z4, PySem.W.mg_none_of X G z5, PySem.W.mg_none_of X G z6, PySem.W.mg_none_of X G z7, PySem.W.mg_none_of X G z8, PySem.W.mg_none_of X G z9⟩
  have F0 := fun_mk (st := s_span_of) l0 c0 k0
  have b0 := F0.binds (ps := ["machine", "lanes"]) fun _ _ _ _ _ _ us hl => match us, hl with | [_, _], _ => rfl
  have F1 := fun_mk (st := s_picks) l1 c1 k1
  have b1 := F1.binds (ps := ["many", "size"]) fun _ _ _ _ _ _ us hl => match us, hl with | [_, _], _ => rfl
  have F2 := fun_mk (st := s_spans_of) l2 c2 k2
  have b2 := F2.binds (ps := ["machine", "size"]) fun _ _ _ _ _ _ us hl => match us, hl with | [_, _], _ => rfl
  have F3 := fun_mk (st := s_least_left) l3 c3 k3
  have b3 := F3.binds (ps := ["machine", "t"]) fun _ _ _ _ _ _ us hl => match us, hl with | [_, _], _ => rfl
  have F4 := fun_mk (st := s_outdoes) l4 c4 k4
  have b4 := F4.binds (ps := ["one", "other"]) fun _ _ _ _ _ _ us hl => match us, hl with | [_, _], _ => rfl
  have F5 := fun_mk (st := s__law_deck) l5 c5 k5
  have b5 := F5.binds (ps := ["script"]) fun _ _ _ _ _ _ us hl => match us, hl with | [_], _ => rfl
  have F6 := fun_mk (st := s__law_draw) l6 c6 k6
  have b6 := F6.binds (ps := ["deck", "many"]) fun _ _ _ _ _ _ us hl => match us, hl with | [_, _], _ => rfl
  have F7 := fun_mk (st := s__law_pick) l7 c7 k7
  have b7 := F7.binds (ps := ["deck", "items"]) fun _ _ _ _ _ _ us hl => match us, hl with | [_, _], _ => rfl
  have F8 := fun_mk (st := s__law_mixed) l8 c8 k8
  have b8 := F8.binds (ps := ["deck", "items"]) fun _ _ _ _ _ _ us hl => match us, hl with | [_, _], _ => rfl
  have F9 := fun_mk (st := s__law_machine) l9 c9 k9
  have b9 := F9.binds (ps := ["deck", "n", "most"]) fun _ _ _ _ _ _ us hl => match us, hl with | [_, _, _], _ => rfl
  have F10 := fun_mk (st := s__law_divisor) l10 c10 k10
  have b10 := F10.binds (ps := ["one", "other"]) fun _ _ _ _ _ _ us hl => match us, hl with | [_, _], _ => rfl
  have F11 := fun_mk (st := s__law_spans) l11 c11 k11
  have b11 := F11.binds (ps := ["machine"]) fun _ _ _ _ _ _ us hl => match us, hl with | [_], _ => rfl
  have F12 := fun_mk (st := s__law_leasts) l12 c12 k12
  have b12 := F12.binds (ps := ["machine"]) fun _ _ _ _ _ _ us hl => match us, hl with | [_], _ => rfl
  have F13 := fun_mk (st := s__law_does) l13 c13 k13
  have b13 := F13.binds (ps := ["machine", "many", "t"]) fun _ _ _ _ _ _ us hl => match us, hl with | [_, _, _], _ => rfl
  have F14 := fun_mk (st := s__law_least_at) l14 c14 k14
  have b14 := F14.binds (ps := ["least", "t"]) fun _ _ _ _ _ _ us hl => match us, hl with | [_, _], _ => rfl
  have F15 := fun_mk (st := s__law_due) l15 c15 k15
  have b15 := F15.binds (ps := ["one", "other"]) fun _ _ _ _ _ _ us hl => match us, hl with | [_, _], _ => rfl
  have F16 := fun_mk (st := s__law_some_machine) l16 c16 k16
  have b16 := F16.binds (ps := ["deck"]) fun _ _ _ _ _ _ us hl => match us, hl with | [_], _ => rfl
  have F17 := fun_mk (st := s__law_made) l17 c17 k17
  have b17 := F17.binds (ps := ["deck", "machine"]) fun _ _ _ _ _ _ us hl => match us, hl with | [_, _], _ => rfl
  have F18 := fun_mk (st := s__law_is_told) l18 c18 k18
  have b18 := F18.binds (ps := ["one", "other"]) fun _ _ _ _ _ _ us hl => match us, hl with | [_, _], _ => rfl
  have F19 := fun_mk (st := s__law_is_meant) l19 c19 k19
  have b19 := F19.binds (ps := ["deck", "one", "other"]) fun _ _ _ _ _ _ us hl => match us, hl with | [_, _, _], _ => rfl
  have F20 := fun_mk (st := s_law) l20 c20 k20
  refine ⟨PySem.W.fnOf "law" "law" (defArgs s_law) (defBody s_law) (defScope s_law) .none kV20 dc20 pm20 an20 cd20 ct20, fun s v => .of_eq rfl, fun base _ _ => ?_⟩
  have C_span_of : Fn l.prog w K mg base "span_of" s_span_of 1 ["machine", "lanes"] f_span_of := ⟨f0, _, PySem.W.mg_of X G a0, F0, g_span_of F0 T, b0⟩
  have C_picks : Fn l.prog w K mg base "picks" s_picks 1 ["many", "size"] f_picks := ⟨f1, _, PySem.W.mg_of X G a1, F1, g_picks F1 T, b1⟩
  have C_spans_of : Fn l.prog w K mg base "spans_of" s_spans_of 2 ["machine", "size"] f_spans_of := ⟨f2, _, PySem.W.mg_of X G a2, F2, g_spans_of F2 T C_picks C_span_of, b2⟩
  have C_least_left : Fn l.prog w K mg base "least_left" s_least_left 3 ["machine", "t"] f_least_left := ⟨f3, _, PySem.W.mg_of X G a3, F3, g_least_left F3 T C_spans_of, b3⟩
  have C_outdoes : Fn l.prog w K mg base "outdoes" s_outdoes 4 ["one", "other"] f_outdoes := ⟨f4, _, PySem.W.mg_of X G a4, F4, g_outdoes F4 T C_least_left, b4⟩
  have C__law_deck : Fn l.prog w K mg base "_law_deck" s__law_deck 1 ["script"] f__law_deck := ⟨f5, _, PySem.W.mg_of X G a5, F5, g__law_deck F5 T, b5⟩
  have C__law_draw : Fn l.prog w K mg base "_law_draw" s__law_draw 1 ["deck", "many"] f__law_draw := ⟨f6, _, PySem.W.mg_of X G a6, F6, g__law_draw F6 T, b6⟩
  have C__law_pick : Fn l.prog w K mg base "_law_pick" s__law_pick 2 ["deck", "items"] f__law_pick := ⟨f7, _, PySem.W.mg_of X G a7, F7, g__law_pick F7 T C__law_draw, b7⟩
  have C__law_mixed : Fn l.prog w K mg base "_law_mixed" s__law_mixed 2 ["deck", "items"] f__law_mixed := ⟨f8, _, PySem.W.mg_of X G a8, F8, g__law_mixed F8 T C__law_draw, b8⟩
  have C__law_machine : Fn l.prog w K mg base "_law_machine" s__law_machine 3 ["deck", "n", "most"] f__law_machine := ⟨f9, _, PySem.W.mg_of X G a9, F9, g__law_machine F9 T C__law_draw C__law_mixed, b9⟩
  have C__law_divisor : Fn l.prog w K mg base "_law_divisor" s__law_divisor 1 ["one", "other"] f__law_divisor := ⟨f10, _, PySem.W.mg_of X G a10, F10, g__law_divisor F10 T, b10⟩
  have C__law_spans : Fn l.prog w K mg base "_law_spans" s__law_spans 2 ["machine"] f__law_spans := ⟨f11, _, PySem.W.mg_of X G a11, F11, g__law_spans F11 T C__law_divisor, b11⟩
  have C__law_leasts : Fn l.prog w K mg base "_law_leasts" s__law_leasts 3 ["machine"] f__law_leasts := ⟨f12, _, PySem.W.mg_of X G a12, F12, g__law_leasts F12 T C__law_spans, b12⟩
  have C__law_does : Fn l.prog w K mg base "_law_does" s__law_does 4 ["machine", "many", "t"] f__law_does := ⟨f13, _, PySem.W.mg_of X G a13, F13, g__law_does F13 T C__law_leasts, b13⟩
  have C__law_least_at : Fn l.prog w K mg base "_law_least_at" s__law_least_at 1 ["least", "t"] f__law_least_at := ⟨f14, _, PySem.W.mg_of X G a14, F14, g__law_least_at F14 T, b14⟩
  have C__law_due : Fn l.prog w K mg base "_law_due" s__law_due 4 ["one", "other"] f__law_due := ⟨f15, _, PySem.W.mg_of X G a15, F15, g__law_due F15 T C__law_leasts C__law_least_at, b15⟩
  have C__law_some_machine : Fn l.prog w K mg base "_law_some_machine" s__law_some_machine 4 ["deck"] f__law_some_machine := ⟨f16, _, PySem.W.mg_of X G a16, F16, g__law_some_machine F16 T C__law_draw C__law_machine C__law_pick, b16⟩
  have C__law_made : Fn l.prog w K mg base "_law_made" s__law_made 3 ["deck", "machine"] f__law_made := ⟨f17, _, PySem.W.mg_of X G a17, F17, g__law_made F17 T C__law_draw C__law_pick, b17⟩
  have C__law_is_told : Fn l.prog w K mg base "_law_is_told" s__law_is_told 5 ["one", "other"] f__law_is_told := ⟨f18, _, PySem.W.mg_of X G a18, F18, g__law_is_told F18 T C__law_due C_outdoes, b18⟩
  have C__law_is_meant : Fn l.prog w K mg base "_law_is_meant" s__law_is_meant 5 ["deck", "one", "other"] f__law_is_meant := ⟨f19, _, PySem.W.mg_of X G a19, F19, g__law_is_meant F19 T C__law_draw C__law_least_at C__law_leasts C__law_does, b19⟩
  exact g_law F20 T C__law_deck C__law_draw C__law_is_told C__law_made C__law_some_machine C_outdoes C__law_is_meant
end M
end
open PySem PySem.W PyProof.Rows
set_option maxRecDepth 100000 in
set_option maxHeartbeats 0 in
theorem PySem.Challenge.cw_straylanes_k54_whole_outdoing_by_all_str_holds : PySem.Challenge.rw_straylanes_k54_whole_outdoing_by_all_str.Holds := by
  w_on; o_law; k_head; (case hw => w_witness2)
  k_fill
  refine M.walk_m (l := PySem.Challenge.rw_straylanes_k54_whole_outdoing_by_all_str) (k := 6) (x := "script") (f := M.f_law) rfl rfl ⟨rfl, by decide, by decide⟩ (fun w h Y => PySem.W.kIn_of Y) ?F (fun ns hl => M.law_holds hl)
  case F =>
    intro w mg fa h KX G hmg
    refine' M.all_mk KX G hmg ?a0 ?l0 ?c0 ?k0 ?a1 ?l1 ?c1 ?k1 ?a2 ?l2 ?c2 ?k2 ?a3 ?l3 ?c3 ?k3 ?a4 ?l4 ?c4 ?k4 ?a5 ?l5 ?c5 ?k5 ?a6 ?l6 ?c6 ?k6 ?a7 ?l7 ?c7 ?k7 ?a8 ?l8 ?c8 ?k8 ?a9 ?l9 ?c9 ?k9 ?a10 ?l10 ?c10 ?k10 ?a11 ?l11 ?c11 ?k11 ?a12 ?l12 ?c12 ?k12 ?a13 ?l13 ?c13 ?k13 ?a14 ?l14 ?c14 ?k14 ?a15 ?l15 ?c15 ?k15 ?a16 ?l16 ?c16 ?k16 ?a17 ?l17 ?c17 ?k17 ?a18 ?l18 ?c18 ?k18 ?a19 ?l19 ?c19 ?k19 ?a20 ?l20 ?c20 ?k20 ?z0 ?z1 ?z2 ?z3 ?z4 ?z5 ?z6 ?z7 ?z8 ?z9
    (case a0 => k_is); (case l0 => k_is); (case c0 => k_is); (case k0 => k_is)
    (case a1 => k_is); (case l1 => k_is); (case c1 => k_is); (case k1 => k_is)
    (case a2 => k_is); (case l2 => k_is); (case c2 => k_is); (case k2 => k_is)
    (case a3 => k_is); (case l3 => k_is); (case c3 => k_is); (case k3 => k_is)
    (case a4 => k_is); (case l4 => k_is); (case c4 => k_is); (case k4 => k_is)
    (case a5 => k_is); (case l5 => k_is); (case c5 => k_is); (case k5 => k_is)
    (case a6 => k_is); (case l6 => k_is); (case c6 => k_is); (case k6 => k_is)
    (case a7 => k_is); (case l7 => k_is); (case c7 => k_is); (case k7 => k_is)
    (case a8 => k_is); (case l8 => k_is); (case c8 => k_is); (case k8 => k_is)
    (case a9 => k_is); (case l9 => k_is); (case c9 => k_is); (case k9 => k_is)
    (case a10 => k_is); (case l10 => k_is); (case c10 => k_is); (case k10 => k_is)
    (case a11 => k_is); (case l11 => k_is); (case c11 => k_is); (case k11 => k_is)
    (case a12 => k_is); (case l12 => k_is); (case c12 => k_is); (case k12 => k_is)
    (case a13 => k_is); (case l13 => k_is); (case c13 => k_is); (case k13 => k_is)
    (case a14 => k_is); (case l14 => k_is); (case c14 => k_is); (case k14 => k_is)
    (case a15 => k_is); (case l15 => k_is); (case c15 => k_is); (case k15 => k_is)
    (case a16 => k_is); (case l16 => k_is); (case c16 => k_is); (case k16 => k_is)
    (case a17 => k_is); (case l17 => k_is); (case c17 => k_is); (case k17 => k_is)
    (case a18 => k_is); (case l18 => k_is); (case c18 => k_is); (case k18 => k_is)
    (case a19 => k_is); (case l19 => k_is); (case c19 => k_is); (case k19 => k_is)
    (case a20 => k_is); (case l20 => k_is); (case c20 => k_is); (case k20 => k_is)
    (case z0 => k_is); (case z1 => k_is); (case z2 => k_is); (case z3 => k_is); (case z4 => k_is); (case z5 => k_is); (case z6 => k_is); (case z7 => k_is); (case z8 => k_is); (case z9 => k_is)
