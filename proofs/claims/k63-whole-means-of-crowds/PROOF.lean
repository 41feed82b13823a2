import PyProof.Rows.All
import Wide.All
import OpenK.AllK
import Wide.FinOn
import HandS.ForMost
import HandS.Exc
import HandS.Lambda
import HandS.ExcOwn
import HandS.TupAny
import HandS.Wide
import HandS.WideBits
import HandS.Deep
import KE.DataCmp
import KE.DataMinMax
import KE.SortData
import HandS.IsInst
import HandS.Gcd
import HandS.Iter
import HandS.Zip
import HandS.SetFor
import HandS.Star
import KE.GoesMore
import PyProof.ReprRoads
import PyProof.FitsInt
import HandS.EndTab
import HandS.HeadHook4
import HandS.HeadEnd
import HandS.Style
import PyProof.ZipIter
import HandS.Conv
import PyProof.ListRange
import HandS.Strs
import KE.KMathGC
import HandS.TupLe
import KE.DataFind
import HandS.TupSets
import PySem.Challenge.RW_tiesenough_k63_whole_means_of_crowds
import HandS.Head2
import HandS.Head3
set_option Elab.async false
set_option linter.all false
set_option maxRecDepth 100000
section S_PLCore
namespace PL
open PySem PySem.Spec PyProof.Rows L2

/-! ### plain meanings -/
abbrev D := PyData
/-- a slot of a def: nothing, data, or a list that is owned (par: a parameter's) -/
inductive Sl where
  | no
  | dat (d : D)
  | own (xs : List D) (par : Bool)
  | fn
/-- a lambda that was handed in: it, its code object and name, what it sees -/
structure FnV where
  f : Addr
  c : Addr
  q : Str
  vs : List V
  ds : List D
/-- what is fixed through a def: the tables of code objects, the lambda -/
structure Tx where
  tabs : List (Addr × Str)
  fn : Option FnV
abbrev En := List Sl
/-- an exception of an own class, with its one field -/
structure Xn where
  cls : Str
  arg : Option (Str × D)
inductive R (α : Type) where
  | ok (a : α) (ρ : En)
  | ex (x : Xn) (ρ : En)
  | no
abbrev Cm (α : Type) := En → R α
def R.bind {α β : Type} : R α → (α → Cm β) → R β
  | .ok a ρ, k => k a ρ
  | .ex x ρ, _ => .ex x ρ
  | .no, _ => .no
def ret {α : Type} (a : α) : Cm α := fun ρ => .ok a ρ
def bnd {α β : Type} (m : Cm α) (k : α → Cm β) : Cm β := fun ρ => (m ρ).bind k
def lift {α : Type} : Option α → Cm α
  | some a => ret a
  | none => fun _ => .no
/-- what a call gives: data, or a new list that nobody else has -/
inductive Vl where
  | dat (d : D)
  | own (xs : List D)
inductive Fl where
  | nx | bk | ct
  | ret (v : Vl)

/-! ### data in a heap -/
theorem Rd_ext {H H' : Hp} (e : Same H H') {a : Addr} {u : HO} (r : Rd H a u) : Rd H' a u := r.elim (fun q => .inl (e _ _ q)) fun ⟨o, q⟩ => .inr ⟨o, e _ _ q⟩
theorem SqT_ext {K : PySem.W.Frag} {H H' : Hp} (e : Same H H') {a : Addr} {xs : List V} (r : SqT K H a xs) : SqT K H' a xs := r.elim (fun q => .inl (Rd_ext e q)) .inr
mutual
/-- v is the data d in the heap H -/
inductive Dq (K : PySem.W.Frag) (H : Hp) : V → D → Prop
  | non : Dq K H .non .none
  | bl (b : Bool) : Dq K H (.bl b) (.bool b)
  | int (i : Int) : Dq K H (.int i) (.int i)
  | str (x : Str) : Dq K H (.str x) (.str x)
  | lst {a : Addr} {xs : List V} {ds : List D} : Rd H a (.lst xs) → DqAll K H xs ds → Dq K H (.ref a) (.list ds)
  | tup {a : Addr} {xs : List V} {ds : List D} : SqT K H a xs → DqAll K H xs ds → Dq K H (.ref a) (.tuple ds)
inductive DqAll (K : PySem.W.Frag) (H : Hp) : List V → List D → Prop
  | nil : DqAll K H [] []
  | cons {v : V} {vs : List V} {d : D} {ds : List D} : Dq K H v d → DqAll K H vs ds → DqAll K H (v :: vs) (d :: ds)
end
mutual
theorem Dq_ext {K : PySem.W.Frag} {H H' : Hp} (e : Same H H') : ∀ {v : V} {d : D}, Dq K H v d → Dq K H' v d
  | _, _, .non => .non
  | _, _, .bl b => .bl b
  | _, _, .int i => .int i
  | _, _, .str x => .str x
  | _, _, .lst h a => .lst (Rd_ext e h) (DqAll_ext e a)
  | _, _, .tup h a => .tup (SqT_ext e h) (DqAll_ext e a)
theorem DqAll_ext {K : PySem.W.Frag} {H H' : Hp} (e : Same H H') : ∀ {vs : List V} {ds : List D}, DqAll K H vs ds → DqAll K H' vs ds
  | _, _, .nil => .nil
  | _, _, .cons h t => .cons (Dq_ext e h) (DqAll_ext e t)
end
mutual
theorem Dq_dp {K : PySem.W.Frag} {H : Hp} : ∀ {v : V} {d : D}, Dq K H v d → Dp K H v d
  | _, _, .non => .non
  | _, _, .bl b => .bl b
  | _, _, .int i => .int i
  | _, _, .str x => .str x
  | _, _, .lst h a => .lst (.inl h) (DqAll_dp a)
  | _, _, .tup h a => .tup h (DqAll_dp a)
theorem DqAll_dp {K : PySem.W.Frag} {H : Hp} : ∀ {vs : List V} {ds : List D}, DqAll K H vs ds → DpAll K H vs ds
  | _, _, .nil => .nil
  | _, _, .cons h t => .cons (Dq_dp h) (DqAll_dp t)
end
theorem DqAll_len {K : PySem.W.Frag} {H : Hp} : ∀ {vs : List V} {ds : List D}, DqAll K H vs ds → vs.length = ds.length
  | _, _, .nil => rfl
  | _, _, .cons _ t => congrArg Nat.succ (DqAll_len t)
theorem DqAll_at {K : PySem.W.Frag} {H : Hp} : ∀ {vs : List V} {ds : List D} {i : Nat} {v : V}, DqAll K H vs ds → vs[i]? = some v → ∃ d, ds[i]? = some d ∧ Dq K H v d
  | _, _, _, _, .nil, e => by simp at e
  | _, _, 0, _, .cons h _, e => by
    simp at e
    subst e
    exact ⟨_, rfl, h⟩
  | _, _, i + 1, _, .cons _ t, e => by
    obtain ⟨d, h1, h2⟩ := DqAll_at (i := i) t (by simpa using e)
    exact ⟨d, by simpa using h1, h2⟩
theorem DqAll_at' {K : PySem.W.Frag} {H : Hp} : ∀ {vs : List V} {ds : List D} {i : Nat} {d : D}, DqAll K H vs ds → ds[i]? = some d → ∃ v, vs[i]? = some v ∧ Dq K H v d
  | _, _, _, _, .nil, e => by simp at e
  | _, _, 0, _, .cons h _, e => by
    simp at e
    subst e
    exact ⟨_, rfl, h⟩
  | _, _, i + 1, _, .cons _ t, e => by
    obtain ⟨d, h1, h2⟩ := DqAll_at' (i := i) t (by simpa using e)
    exact ⟨d, by simpa using h1, h2⟩
theorem DqAll_append {K : PySem.W.Frag} {H : Hp} : ∀ {vs ws : List V} {ds es : List D}, DqAll K H vs ds → DqAll K H ws es → DqAll K H (vs ++ ws) (ds ++ es)
  | _, _, _, _, .nil, s => s
  | _, _, _, _, .cons h t, s => .cons h (DqAll_append t s)
theorem DqAll_set {K : PySem.W.Frag} {H : Hp} {v : V} {d : D} (h : Dq K H v d) : ∀ {vs : List V} {ds : List D} (i : Nat), DqAll K H vs ds → DqAll K H (vs.set i v) (ds.set i d)
  | _, _, _, .nil => .nil
  | _, _, 0, .cons _ t => .cons h t
  | _, _, i + 1, .cons q t => .cons q (DqAll_set h i t)
theorem DqAll_take {K : PySem.W.Frag} {H : Hp} : ∀ {vs : List V} {ds : List D} (n : Nat), DqAll K H vs ds → DqAll K H (vs.take n) (ds.take n)
  | _, _, 0, _ => .nil
  | _, _, _ + 1, .nil => .nil
  | _, _, n + 1, .cons q t => .cons q (DqAll_take n t)
theorem DqAll_drop {K : PySem.W.Frag} {H : Hp} : ∀ {vs : List V} {ds : List D} (n : Nat), DqAll K H vs ds → DqAll K H (vs.drop n) (ds.drop n)
  | _, _, 0, q => q
  | _, _, _ + 1, .nil => .nil
  | _, _, n + 1, .cons _ t => DqAll_drop n t
theorem DqAll_ints {K : PySem.W.Frag} {H : Hp} : ∀ (ns : List Int), DqAll K H (ns.map V.int) (ns.map .int)
  | [] => .nil
  | n :: ns => .cons (.int n) (DqAll_ints ns)

/-! ### the state of a def: G what stood at its entry -/
/-- H0, F0: the heap and its data's part at the entry; M p true: a list of the caller's that may be changed, M p false: one of our own -/
structure Gh where
  H0 : Hp
  F0 : Hp
  M : Addr → Bool → Prop
  fresh : ∀ p, H0 p = none → M p false
/-- data grows: F the data's part of the heap -/
structure Gr (F H F' H' : Hp) : Prop where
  f : Same F F'
  s : Same F' H'
  h : Same H H'
  n : ∀ q, H q ≠ none → F q = none → F' q = none
def OwnAt (K : PySem.W.Frag) (G : Gh) (F H : Hp) (p : Addr) (xs : List D) (b : Bool) : Prop :=
  F p = none ∧ G.M p b ∧ ∃ vs, H p = some (.lst vs) ∧ DqAll K F vs xs
def FnR (K : PySem.W.Frag) (T : Tx) (σ : L2.St) (F H : Hp) (i : Nat) : Prop := ∃ z, T.fn = some z ∧ σ[i]? = some (some (.ref z.f)) ∧ DqAll K F z.vs z.ds ∧ H z.c = some (LamX.CodeO z.c z.q)
theorem FnR.mv {K : PySem.W.Frag} {T : Tx} {σ σ' : L2.St} {F F' H H' : Hp} {i : Nat} (h : FnR K T σ F H i) (hs : σ'[i]? = σ[i]?) (f : Same F F') (hc : ∀ c q, H c = some (LamX.CodeO c q) → H' c = some (LamX.CodeO c q)) : FnR K T σ' F' H' i := by
  obtain ⟨z, h1, h2, h3, h4⟩ := h
  exact ⟨z, h1, hs.trans h2, DqAll_ext f h3, hc _ _ h4⟩
theorem code_ne {H : Hp} {c p : Addr} {q : Str} {vs : List V} (h : H c = some (LamX.CodeO c q)) (hp : H p = some (.lst vs)) : c ≠ p := ne_of h hp (by intro z; unfold LamX.CodeO at z; cases z)
def SlR (K : PySem.W.Frag) (T : Tx) (G : Gh) (σ : L2.St) (F H : Hp) (i : Nat) : Sl → Prop
  | .no => True
  | .dat d => ∃ v, σ[i]? = some (some v) ∧ Dq K F v d
  | .own xs b => ∃ p, σ[i]? = some (some (.ref p)) ∧ OwnAt K G F H p xs b
  | .fn => FnR K T σ F H i
structure Rp (K : PySem.W.Frag) (T : Tx) (G : Gh) (ρ : En) (F : Hp) (σ : L2.St) (H : Hp) : Prop where
  len : ρ.length = σ.length
  f0 : Same G.F0 F
  same : Same F H
  fr : ∀ q o, G.H0 q = some o → (∀ b, ¬ G.M q b) → (∀ ps, o ≠ .tbl ps) → H q = some o
  th : ∀ q, G.H0 q ≠ none → H q ≠ none
  nw : ∀ q, G.H0 q ≠ none → G.F0 q = none → ¬ G.M q false → F q = none
  tab : LamX.Tabs T.tabs H
  tabF : ∀ t ∈ T.tabs, F t.1 = none
  sl : ∀ (i : Nat) (s : Sl), ρ[i]? = some s → SlR K T G σ F H i s
  sep : ∀ (i j : Nat) (xs ys : List D) (b c : Bool), ρ[i]? = some (Sl.own xs b) → ρ[j]? = some (Sl.own ys c) → σ[i]? = σ[j]? → i = j
/-- a new list that nobody has, at p -/
structure New (K : PySem.W.Frag) (G : Gh) (ρ : En) (F : Hp) (σ : L2.St) (H : Hp) (p : Addr) (xs : List D) : Prop where
  at_ : OwnAt K G F H p xs false
  sep : ∀ (i : Nat) (ys : List D) (b : Bool), ρ[i]? = some (Sl.own ys b) → σ[i]? ≠ some (some (V.ref p))
section
variable {K : PySem.W.Frag} {T : Tx} {G : Gh} {ρ ρ' : En} {F F' H H' F2 H2 : Hp} {σ σ' : L2.St} {p : Addr} {xs : List D} {b : Bool}
theorem Gr.refl (s : Same F H) : Gr F H F H := ⟨.refl _, s, .refl _, fun _ _ h => h⟩
theorem Gr.trans (a : Gr F H F' H') (b : Gr F' H' F2 H2) : Gr F H F2 H2 :=
  ⟨a.f.trans b.f, b.s, a.h.trans b.h, fun q h1 h2 => b.n q (fun z => h1 (a.h.free z)) (a.n q h1 h2)⟩
theorem OwnAt.gr (h : OwnAt K G F H p xs b) (g : Gr F H F' H') : OwnAt K G F' H' p xs b := by
  obtain ⟨h1, h2, vs, h3, h4⟩ := h
  exact ⟨g.n p (by rw [h3]; simp) h1, h2, vs, g.h _ _ h3, DqAll_ext g.f h4⟩
theorem Rp.gr (r : Rp K T G ρ F σ H) (g : Gr F H F' H') : Rp K T G ρ F' σ H' where
  len := r.len
  f0 := r.f0.trans g.f
  same := g.s
  fr := fun q o h1 h2 h3 => g.h _ _ (r.fr q o h1 h2 h3)
  th := fun q h z => r.th q h (g.h.free z)
  nw := fun q h1 h2 h3 => g.n q (r.th q h1) (r.nw q h1 h2 h3)
  tab := r.tab.ext g.h
  tabF := fun t ht => g.n _ (by obtain ⟨ps, e, _⟩ := r.tab t ht; rw [e]; simp) (r.tabF t ht)
  sl := fun i s e => by
    have q := r.sl i s e
    cases s with
    | no => trivial
    | fn => exact FnR.mv q rfl g.f fun c q e => g.h _ _ e
    | dat d => obtain ⟨v, e1, e2⟩ := q; exact ⟨v, e1, Dq_ext g.f e2⟩
    | own xs b => obtain ⟨p, e1, e2⟩ := q; exact ⟨p, e1, e2.gr g⟩
  sep := r.sep
theorem New.gr (h : New K G ρ F σ H p xs) (g : Gr F H F' H') : New K G ρ F' σ H' p xs := ⟨h.at_.gr g, h.sep⟩
/-- a new data object -/
theorem Rp.laid (r : Rp K T G ρ F σ H) {o : HO} (hp : H p = none) : Gr F H (upd F p o) (upd H p o) := by
  have fp : F p = none := r.same.free hp
  refine ⟨fun q u e => ?_, fun q u e => ?_, fun q u e => ?_, fun q h1 h2 => ?_⟩
  · rw [upd_ne (ne_of_none e fp)]; exact e
  · by_cases hq : q = p
    · subst hq; rw [upd_same] at e ⊢; exact e
    · rw [upd_ne hq] at e ⊢; exact r.same _ _ e
  · rw [upd_ne (ne_of_none e hp)]; exact e
  · by_cases hq : q = p
    · subst hq; exact absurd hp h1
    · rw [upd_ne hq]; exact h2
theorem gr_laid (s : Same F H) {o : HO} (hp : H p = none) : Gr F H (upd F p o) (upd H p o) := by
  have fp : F p = none := s.free hp
  refine ⟨fun q u e => ?_, fun q u e => ?_, fun q u e => ?_, fun q h1 h2 => ?_⟩
  · rw [upd_ne (ne_of_none e fp)]; exact e
  · by_cases hq : q = p
    · subst hq; rw [upd_same] at e ⊢; exact e
    · rw [upd_ne hq] at e ⊢; exact s _ _ e
  · rw [upd_ne (ne_of_none e hp)]; exact e
  · by_cases hq : q = p
    · subst hq; exact absurd hp h1
    · rw [upd_ne hq]; exact h2
/-- a new list that stays owned -/
theorem Rp.grown (r : Rp K T G ρ F σ H) {o : HO} (hp : H p = none) : Gr F H F (upd H p o) := by
  refine ⟨.refl _, fun q u e => ?_, fun q u e => ?_, fun q h1 h2 => h2⟩
  · rw [upd_ne (ne_of_none (r.same _ _ e) hp)]; exact r.same _ _ e
  · rw [upd_ne (ne_of_none e hp)]; exact e
theorem Rp.noH0 (r : Rp K T G ρ F σ H) (hp : H p = none) : G.M p false := by
  refine G.fresh p ?_
  cases e : G.H0 p with
  | none => rfl
  | some u => exact absurd hp (r.th p (by rw [e]; simp))
theorem Rp.new (r : Rp K T G ρ F σ H) {vs : List V} (hp : H p = none) (a : DqAll K F vs xs) : New K G ρ F σ (upd H p (.lst vs)) p xs := by
  refine ⟨⟨r.same.free hp, r.noH0 hp, vs, upd_same, a⟩, fun i ys b e z => ?_⟩
  obtain ⟨p', e1, _, _, vs', e2, _⟩ := r.sl i _ e
  rw [z] at e1
  cases e1
  rw [hp] at e2
  cases e2
/-- the owned list at p becomes data -/
theorem New.freeze (n : New K G ρ F σ H p xs) (r : Rp K T G ρ F σ H) : ∃ F', Same F F' ∧ Rp K T G ρ F' σ H ∧ Dq K F' (.ref p) (.list xs) := by
  obtain ⟨h1, h2, vs, h3, h4⟩ := n.at_
  have f : Same F (upd F p (.lst vs)) := fun q u e => by rw [upd_ne (ne_of_none e h1)]; exact e
  have keep : ∀ q, q ≠ p → F q = none → (upd F p (.lst vs)) q = none := fun q hq e => by rw [upd_ne hq]; exact e
  refine ⟨upd F p (.lst vs), f, ⟨r.len, r.f0.trans f, fun q u e => ?_, r.fr, r.th, fun q e1 e2 e3 => keep q ?_ (r.nw q e1 e2 e3), r.tab, fun t ht => keep _ ?_ (r.tabF t ht), fun i s e => ?_, r.sep⟩, .lst (.of upd_same) (DqAll_ext f h4)⟩
  · by_cases hq : q = p
    · subst hq; rw [upd_same] at e; cases e; exact h3
    · rw [upd_ne hq] at e; exact r.same _ _ e
  · rintro rfl
    exact e3 h2
  · rintro rfl
    obtain ⟨ps, e, _⟩ := r.tab t ht
    rw [e] at h3
    cases h3
  · have q := r.sl i s e
    cases s with
    | no => trivial
    | fn => exact FnR.mv q rfl f fun c q e => e
    | dat d => obtain ⟨v, e1, e2⟩ := q; exact ⟨v, e1, Dq_ext f e2⟩
    | own ys b =>
      obtain ⟨p', e1, e2, e3, ws, e4, e5⟩ := q
      exact ⟨p', e1, keep _ (fun z => n.sep i ys b e (by rw [e1, z])) e2, e3, ws, e4, DqAll_ext f e5⟩
/-- a slot is given data -/
theorem Rp.setD (r : Rp K T G ρ F σ H) (i : Nat) {v : V} {d : D} (h : Dq K F v d) : Rp K T G (ρ.set i (.dat d)) F (σ.set i (some v)) H where
  len := by simpa using r.len
  f0 := r.f0
  same := r.same
  fr := r.fr
  th := r.th
  nw := r.nw
  tab := r.tab
  tabF := r.tabF
  sl := fun j s e => by
    by_cases hj : i = j
    · subst hj
      have hl : i < ρ.length := by
        have := (List.getElem?_eq_some_iff.mp e).1
        simpa using this
      rw [List.getElem?_set_self hl] at e
      cases e
      exact ⟨v, List.getElem?_set_self (by rw [← r.len]; exact hl), h⟩
    · rw [List.getElem?_set_ne hj] at e
      have q := r.sl j s e
      cases s with
      | no => trivial
      | fn => exact FnR.mv q (List.getElem?_set_ne hj) (.refl _) fun c q e => e
      | dat d => obtain ⟨v', e1, e2⟩ := q; exact ⟨v', by rw [List.getElem?_set_ne hj]; exact e1, e2⟩
      | own xs b => obtain ⟨p, e1, e2⟩ := q; exact ⟨p, by rw [List.getElem?_set_ne hj]; exact e1, e2⟩
  sep := fun j k xs ys b c e1 e2 e3 => by
    have nj : ∀ {j : Nat} {xs : List D} {b : Bool}, (ρ.set i (.dat d))[j]? = some (Sl.own xs b) → i ≠ j := fun {j xs b} e z => by
      subst z
      have hl : i < ρ.length := by
        have := (List.getElem?_eq_some_iff.mp e).1
        simpa using this
      rw [List.getElem?_set_self hl] at e
      cases e
    have n1 := nj e1
    have n2 := nj e2
    rw [List.getElem?_set_ne n1] at e1 e3
    rw [List.getElem?_set_ne n2] at e2 e3
    exact r.sep j k xs ys b c e1 e2 e3
/-- a slot is given the new list -/
theorem Rp.setO (r : Rp K T G ρ F σ H) (i : Nat) (n : New K G ρ F σ H p xs) : Rp K T G (ρ.set i (.own xs false)) F (σ.set i (some (.ref p))) H where
  len := by simpa using r.len
  f0 := r.f0
  same := r.same
  fr := r.fr
  th := r.th
  nw := r.nw
  tab := r.tab
  tabF := r.tabF
  sl := fun j s e => by
    by_cases hj : i = j
    · subst hj
      have hl : i < ρ.length := by
        have := (List.getElem?_eq_some_iff.mp e).1
        simpa using this
      rw [List.getElem?_set_self hl] at e
      cases e
      exact ⟨p, List.getElem?_set_self (by rw [← r.len]; exact hl), n.at_⟩
    · rw [List.getElem?_set_ne hj] at e
      have q := r.sl j s e
      cases s with
      | no => trivial
      | fn => exact FnR.mv q (List.getElem?_set_ne hj) (.refl _) fun c q e => e
      | dat d => obtain ⟨v', e1, e2⟩ := q; exact ⟨v', by rw [List.getElem?_set_ne hj]; exact e1, e2⟩
      | own xs b => obtain ⟨p, e1, e2⟩ := q; exact ⟨p, by rw [List.getElem?_set_ne hj]; exact e1, e2⟩
  sep := fun j k xs' ys b c e1 e2 e3 => by
    have at_ : ∀ {j : Nat} {xs' : List D} {b : Bool}, (ρ.set i (.own xs false))[j]? = some (Sl.own xs' b) → (j = i ∧ (σ.set i (some (.ref p)))[j]? = some (some (.ref p))) ∨ (j ≠ i ∧ ρ[j]? = some (Sl.own xs' b) ∧ (σ.set i (some (V.ref p)))[j]? = σ[j]?) := fun {j xs' b} e => by
      by_cases z : i = j
      · subst z
        have hl : i < ρ.length := by
          have := (List.getElem?_eq_some_iff.mp e).1
          simpa using this
        exact .inl ⟨rfl, List.getElem?_set_self (by rw [← r.len]; exact hl)⟩
      · rw [List.getElem?_set_ne z] at e
        exact .inr ⟨fun q => z q.symm, e, List.getElem?_set_ne z⟩
    rcases at_ e1 with ⟨a1, a2⟩ | ⟨a1, a2, a3⟩
    · rcases at_ e2 with ⟨b1, b2⟩ | ⟨b1, b2, b3⟩
      · rw [a1, b1]
      · rw [a2, b3] at e3
        exact absurd e3.symm (n.sep k ys c b2)
    · rcases at_ e2 with ⟨b1, b2⟩ | ⟨b1, b2, b3⟩
      · rw [a3, b2] at e3
        exact absurd e3 (n.sep j xs' b a2)
      · rw [a3, b3] at e3
        exact r.sep j k xs' ys b c a2 b2 e3
/-- the content of an owned slot is changed -/
theorem Rp.write (r : Rp K T G ρ F σ H) {i : Nat} {vs : List V} {ys : List D} (e : ρ[i]? = some (Sl.own xs b)) (hp : σ[i]? = some (some (V.ref p))) (a : DqAll K F vs ys) : Rp K T G (ρ.set i (.own ys b)) F σ (upd H p (.lst vs)) := by
  obtain ⟨p', e1, e2, e3, ws, e4, e5⟩ := r.sl i _ e
  rw [hp] at e1
  cases e1
  have hl : i < ρ.length := (List.getElem?_eq_some_iff.mp e).1
  have n0 : ∀ q u, F q = some u → q ≠ p := fun q u z => ne_of_none z e2
  refine ⟨by simpa using r.len, r.f0, fun q u z => by rw [upd_ne (n0 q u z)]; exact r.same _ _ z, fun q o h1 h2 h3 => ?_, fun q h1 h2 => ?_, r.nw, fun t ht => ?_, r.tabF, fun j s z => ?_, fun j k xs' zs b' c z1 z2 z3 => ?_⟩
  · have hq : q ≠ p := fun z => h2 b (z ▸ e3)
    rw [upd_ne hq]
    exact r.fr q o h1 h2 h3
  · by_cases hq : q = p
    · subst hq; rw [upd_same] at h2; cases h2
    · rw [upd_ne hq] at h2; exact r.th q h1 h2
  · obtain ⟨ps, q1, q2, q3⟩ := r.tab t ht
    refine ⟨ps, by rw [upd_ne (ne_of q1 e4 (by intro z; cases z))]; exact q1, q2, fun pos cv hc => ?_⟩
    obtain ⟨c, q4, q5⟩ := q3 pos cv hc
    exact ⟨c, q4, by rw [upd_ne (ne_of q5 e4 (by intro z; unfold LamX.CodeO at z; cases z))]; exact q5⟩
  · by_cases hj : i = j
    · subst hj
      rw [List.getElem?_set_self hl] at z
      cases z
      exact ⟨p, hp, e2, e3, vs, upd_same, a⟩
    · rw [List.getElem?_set_ne hj] at z
      have q := r.sl j s z
      cases s with
      | no => trivial
      | fn => exact FnR.mv q rfl (.refl _) fun c q e => by rw [upd_ne (code_ne e e4)]; exact e
      | dat d => exact q
      | own ys' b' =>
        obtain ⟨p2, q1, q2, q3, ws2, q4, q5⟩ := q
        refine ⟨p2, q1, q2, q3, ws2, ?_, q5⟩
        rw [upd_ne (fun z2 => ?_)]
        · exact q4
        · subst z2
          exact hj (r.sep i j _ _ _ _ e z (hp.trans q1.symm))
  · have own_of : ∀ {j : Nat} {xs' : List D} {b' : Bool}, (ρ.set i (.own ys b))[j]? = some (Sl.own xs' b') → ∃ xs2 b2, ρ[j]? = some (Sl.own xs2 b2) := fun {j xs' b'} q => by
      by_cases hj : i = j
      · subst hj; exact ⟨_, _, e⟩
      · rw [List.getElem?_set_ne hj] at q; exact ⟨_, _, q⟩
    obtain ⟨x1, b1, y1⟩ := own_of z1
    obtain ⟨x2, b2, y2⟩ := own_of z2
    exact r.sep j k x1 x2 b1 b2 y1 y2 z3
/-- a slot is forgotten -/
theorem Rp.setN (r : Rp K T G ρ F σ H) (i : Nat) (v : Option V) : Rp K T G (ρ.set i .no) F (σ.set i v) H where
  len := by simpa using r.len
  f0 := r.f0
  same := r.same
  fr := r.fr
  th := r.th
  nw := r.nw
  tab := r.tab
  tabF := r.tabF
  sl := fun j s e => by
    by_cases hj : i = j
    · subst hj
      have hl : i < ρ.length := by
        have := (List.getElem?_eq_some_iff.mp e).1
        simpa using this
      rw [List.getElem?_set_self hl] at e
      cases e
      trivial
    · rw [List.getElem?_set_ne hj] at e
      have q := r.sl j s e
      cases s with
      | no => trivial
      | fn => exact FnR.mv q (List.getElem?_set_ne hj) (.refl _) fun c q e => e
      | dat d => obtain ⟨v', e1, e2⟩ := q; exact ⟨v', by rw [List.getElem?_set_ne hj]; exact e1, e2⟩
      | own xs b => obtain ⟨p, e1, e2⟩ := q; exact ⟨p, by rw [List.getElem?_set_ne hj]; exact e1, e2⟩
  sep := fun j k xs ys b c e1 e2 e3 => by
    have nj : ∀ {j : Nat} {xs : List D} {b : Bool}, (ρ.set i Sl.no)[j]? = some (Sl.own xs b) → i ≠ j := fun {j xs b} e z => by
      subst z
      have hl : i < ρ.length := by
        have := (List.getElem?_eq_some_iff.mp e).1
        simpa using this
      rw [List.getElem?_set_self hl] at e
      cases e
    have n1 := nj e1
    have n2 := nj e2
    rw [List.getElem?_set_ne n1] at e1 e3
    rw [List.getElem?_set_ne n2] at e2 e3
    exact r.sep j k xs ys b c e1 e2 e3

/-! ### a part of the run with a ghost of its own: what else stands is kept -/
/-- the ghost of a part that begins at (ρ, F, σ, H): it may change the owned slots alone -/
def inner (G : Gh) (ρ : En) (F : Hp) (σ : L2.St) (H : Hp) : Gh where
  H0 := H
  F0 := F
  M := fun p b => (∃ (i : Nat) (xs : List D), ρ[i]? = some (Sl.own xs b) ∧ σ[i]? = some (some (V.ref p))) ∨ (b = false ∧ H p = none)
  fresh := fun p h => .inr ⟨rfl, h⟩
theorem Rp.enter (r : Rp K T G ρ F σ H) : Rp K T (inner G ρ F σ H) ρ F σ H where
  len := r.len
  f0 := .refl _
  same := r.same
  fr := fun _ _ h _ _ => h
  th := fun _ h => h
  nw := fun _ _ h _ => h
  tab := r.tab
  tabF := r.tabF
  sl := fun i s e => by
    have q := r.sl i s e
    cases s with
    | no => trivial
    | fn => exact q
    | dat d => exact q
    | own xs b => obtain ⟨p, e1, e2, e3, e4⟩ := q; exact ⟨p, e1, e2, .inl ⟨i, xs, e, e1⟩, e4⟩
  sep := r.sep
theorem Rp.innerM (r : Rp K T G ρ F σ H) {q : Addr} {b : Bool} (h : (inner G ρ F σ H).M q b) : G.M q b := by
  rcases h with ⟨i, xs, e, e1⟩ | ⟨rfl, e⟩
  · obtain ⟨p', e2, _, e3, _⟩ := r.sl i _ e
    rw [e1] at e2
    cases e2
    exact e3
  · exact r.noH0 e
theorem Rp.leave (r : Rp K T G ρ F σ H) (r' : Rp K T (inner G ρ F σ H) ρ' F' σ' H') : Rp K T G ρ' F' σ' H' where
  len := r'.len
  f0 := r.f0.trans r'.f0
  same := r'.same
  fr := fun q o h1 h2 h3 => r'.fr q o (r.fr q o h1 h2 h3) (fun b z => h2 b (r.innerM z)) h3
  th := fun q h => r'.th q (r.th q h)
  nw := fun q h1 h2 h3 => r'.nw q (r.th q h1) (r.nw q h1 h2 h3) (fun z => h3 (r.innerM z))
  tab := r'.tab
  tabF := r'.tabF
  sl := fun i s e => by
    have q := r'.sl i s e
    cases s with
    | no => trivial
    | fn => exact q
    | dat d => exact q
    | own xs b => obtain ⟨p, e1, e2, e3, e4⟩ := q; exact ⟨p, e1, e2, r.innerM e3, e4⟩
  sep := r'.sep
/-- a new list that is no slot's stays through such a part -/
theorem New.inner (n : New K G ρ F σ H p xs) (r : Rp K T G ρ F σ H) (r' : Rp K T (inner G ρ F σ H) ρ' F' σ' H') : New K G ρ' F' σ' H' p xs := by
  obtain ⟨h1, h2, vs, h3, h4⟩ := n.at_
  have nM : ∀ b, ¬ (PL.inner G ρ F σ H).M p b := fun b z => by
    rcases z with ⟨i, ys, e, e1⟩ | ⟨_, e⟩
    · exact n.sep i ys b e e1
    · rw [h3] at e; cases e
  refine ⟨⟨r'.nw p (show H p ≠ none by rw [h3]; simp) h1 (nM false), h2, vs, r'.fr p _ h3 nM (fun ps z => by cases z), DqAll_ext r'.f0 h4⟩, fun i ys b e z => ?_⟩
  obtain ⟨p', e1, _, e2, _⟩ := r'.sl i _ e
  rw [z] at e1
  cases e1
  exact nM b e2
end
end PL
end S_PLCore

section S_PLJ
namespace PL
open PySem PySem.Spec PyProof.Rows L2

/-! ### judgements -/
def XR (K : PySem.W.Frag) (mg : Str → Option Value) (x : Xn) (cls : Value) (d : Option Addr) (F H : Hp) : Prop :=
  ∃ C : Addr, mg x.cls = some (.ref C) ∧ cls = .ref C ∧ match x.arg with
    | none => d = none
    | some (f, a) => ∃ dd v, d = some dd ∧ H dd = some (.xd [(f, v)]) ∧ Dq K F v a
def Rs {α : Type} (K : PySem.W.Frag) (T : Tx) (mg : Str → Option Value) (W : WX) (G : Gh) (F : Hp) (σ : L2.St) (r : R α) (post : α → En → Hp → Hp → Prop) : Prop :=
  match r with
  | .ok a ρ => ∀ F' H', Same F F' → Rp K T G ρ F' σ H' → post a ρ F' H'
  | .ex x ρ => ∀ F' H' cls d, Same F F' → Rp K T G ρ F' σ H' → XR K mg x cls d F' H' → W cls d σ H'
  | .no => False
section
variable {α β : Type} {K : PySem.W.Frag} {T : Tx} {mg : Str → Option Value} {W : WX} {G : Gh} {F F' H H' : Hp} {σ : L2.St} {r : R α} {ρ : En}
theorem Rs.imp {p q : α → En → Hp → Hp → Prop} (h : Rs K T mg W G F σ r p) (i : ∀ a ρ F' H', Same F F' → Rp K T G ρ F' σ H' → p a ρ F' H' → q a ρ F' H') : Rs K T mg W G F σ r q := by
  cases r with
  | ok a ρ => exact fun F' H' s rp => i _ _ _ _ s rp (h F' H' s rp)
  | ex x ρ => exact h
  | no => exact h
theorem Rs.up {p : α → En → Hp → Hp → Prop} (h : Rs K T mg W G F σ r p) (s : Same F F') : Rs K T mg W G F' σ r p := by
  cases r with
  | ok a ρ => exact fun F2 H2 s2 rp => h F2 H2 (s.trans s2) rp
  | ex x ρ => exact fun F2 H2 c d s2 rp => h F2 H2 c d (s.trans s2) rp
  | no => exact h
theorem Rs.bind {m : Cm α} {k : α → Cm β} {p : β → En → Hp → Hp → Prop} (h : Rs K T mg W G F σ (bnd m k ρ) p) : Rs K T mg W G F σ (m ρ) fun a ρ1 F1 H1 => Rs K T mg W G F1 σ (k a ρ1) p := by
  unfold bnd at h
  cases e : m ρ with
  | ok a ρ1 => rw [e] at h; exact fun F1 H1 s _ => Rs.up h s
  | ex x ρ1 => rw [e] at h; exact h
  | no => rw [e] at h; exact h
theorem Rs.ret {a : α} {p : α → En → Hp → Hp → Prop} (h : Rs K T mg W G F σ (ret a ρ) p) (rp : Rp K T G ρ F' σ H') (s : Same F F') : p a ρ F' H' := h F' H' s rp
theorem Rs.lift {o : Option α} {p : α → En → Hp → Hp → Prop} (h : Rs K T mg W G F σ (PL.lift o ρ) p) : ∃ a, o = some a ∧ Rs K T mg W G F σ (PL.ret a ρ) p := by
  cases o with
  | none => exact h.elim
  | some a => exact ⟨a, rfl, h⟩
end
/-- an expression's reading: data -/
def tE (K : PySem.W.Frag) (T : Tx) (mg : Str → Option Value) (W : WX) (f : Cm D) : TE := fun σ H Q => ∃ G ρ F, Rp K T G ρ F σ H ∧ Rs K T mg W G F σ (f ρ) fun d _ F' H' => ∀ v, Dq K F' v d → Q v H'
/-- a new list -/
def tO (K : PySem.W.Frag) (T : Tx) (mg : Str → Option Value) (W : WX) (f : Cm (List D)) : TE := fun σ H Q => ∃ G ρ F, Rp K T G ρ F σ H ∧ Rs K T mg W G F σ (f ρ) fun xs ρ' F' H' => ∀ p, New K G ρ' F' σ H' p xs → Q (.ref p) H'
/-- a test -/
def tT (K : PySem.W.Frag) (T : Tx) (mg : Str → Option Value) (W : WX) (f : Cm Bool) : TT := fun σ H Q => ∃ G ρ F, Rp K T G ρ F σ H ∧ Rs K T mg W G F σ (f ρ) fun b _ F' H' => Q b H'
/-- arguments -/
def tA (K : PySem.W.Frag) (T : Tx) (mg : Str → Option Value) (W : WX) (f : Cm (List D)) : TA := fun σ H Q => ∃ G ρ F, Rp K T G ρ F σ H ∧ Rs K T mg W G F σ (f ρ) fun ds _ F' H' => ∀ vs, DqAll K F' vs ds → Q vs H'
def ValR (K : PySem.W.Frag) (G : Gh) (ρ : En) (F : Hp) (σ : L2.St) (H : Hp) (v : V) : Vl → Prop
  | .dat d => Dq K F v d
  | .own xs => ∃ p, v = .ref p ∧ New K G ρ F σ H p xs
/-- a call's value -/
def tV (K : PySem.W.Frag) (T : Tx) (mg : Str → Option Value) (W : WX) (f : Cm Vl) : TE := fun σ H Q => ∃ G ρ F, Rp K T G ρ F σ H ∧ Rs K T mg W G F σ (f ρ) fun a ρ' F' H' => ∀ v, ValR K G ρ' F' σ H' v a → Q v H'
def SRs (K : PySem.W.Frag) (T : Tx) (mg : Str → Option Value) (W : WX) (G : Gh) (F : Hp) (r : R Fl) (Dn : Ends) : Prop :=
  match r with
  | .ok .nx ρ => ∀ σ F' H', Same F F' → Rp K T G ρ F' σ H' → Dn.nx σ H'
  | .ok .bk ρ => ∀ σ F' H', Same F F' → Rp K T G ρ F' σ H' → Dn.bk σ H'
  | .ok .ct ρ => ∀ σ F' H', Same F F' → Rp K T G ρ F' σ H' → Dn.ct σ H'
  | .ok (.ret a) ρ => ∀ σ F' H' v, Same F F' → Rp K T G ρ F' σ H' → ValR K G ρ F' σ H' v a → Dn.rt v H'
  | .ex x ρ => ∀ σ F' H' cls d, Same F F' → Rp K T G ρ F' σ H' → XR K mg x cls d F' H' → W cls d σ H'
  | .no => False
/-- a statement -/
def tS (K : PySem.W.Frag) (T : Tx) (mg : Str → Option Value) (W : WX) (f : Cm Fl) : TS := fun Dn σ H => ∃ G ρ F, Rp K T G ρ F σ H ∧ SRs K T mg W G F (f ρ) Dn

abbrev DE (X : Cx) (T : Tx) (W : WX) (e : Expr) (f : Cm D) : Prop := PE X e (tE X.K T X.mg W f)
abbrev OE (X : Cx) (T : Tx) (W : WX) (e : Expr) (f : Cm (List D)) : Prop := PE X e (tO X.K T X.mg W f)
abbrev VE (X : Cx) (T : Tx) (W : WX) (e : Expr) (f : Cm Vl) : Prop := PE X e (tV X.K T X.mg W f)
abbrev DT (X : Cx) (T : Tx) (W : WX) (e : Expr) (f : Cm Bool) : Prop := PT X e (tT X.K T X.mg W f)
abbrev DA (X : Cx) (T : Tx) (W : WX) (es : List Expr) (f : Cm (List D)) : Prop := PA X es (tA X.K T X.mg W f)
abbrev DS (X : Cx) (T : Tx) (W : WX) (st : Stmt) (f : Cm Fl) : Prop := PS X st (tS X.K T X.mg W f)
abbrev DSs (X : Cx) (T : Tx) (W : WX) (st : List Stmt) (f : Cm Fl) : Prop := PSs X st (tS X.K T X.mg W f)

section
variable {X : Cx} {e : Expr} {t t' : TE} {u u' : TT} {es : List Expr} {a a' : TA} {st : Stmt} {sts : List Stmt} {z z' : TS}
theorem PE_imp (h : PE X e t) (i : ∀ σ H Q, t' σ H Q → t σ H Q) : PE X e t' := ⟨fun pins s σ H Q I q => h.run pins s σ H Q I (i σ H Q q)⟩
theorem PT_imp (h : PT X e u) (i : ∀ σ H Q, u' σ H Q → u σ H Q) : PT X e u' := ⟨fun pins s σ H Q I q => h.run pins s σ H Q I (i σ H Q q)⟩
theorem PA_imp (h : PA X es a) (i : ∀ σ H Q, a' σ H Q → a σ H Q) : PA X es a' := ⟨fun pos pins s σ H Q I q => h.run pos pins s σ H Q I (i σ H Q q)⟩
theorem PS_imp (h : PS X st z) (i : ∀ σ H Q, z' Q σ H → z Q σ H) : PS X st z' := ⟨fun pins s σ H Q I q => h.run pins s σ H Q I (i σ H Q q)⟩
theorem PSs_imp (h : PSs X sts z) (i : ∀ σ H Q, z' Q σ H → z Q σ H) : PSs X sts z' := ⟨fun pins s σ H Q I q => h.run pins s σ H Q I (i σ H Q q)⟩
end

/-! ### meanings of the small pieces -/
def rdV (i : Nat) : Cm D := fun ρ => match ρ[i]? with
  | some (.dat d) => .ok d ρ
  | _ => .no
def frz (m : Cm (List D)) : Cm D := bnd m fun xs => ret (.list xs)
def asD (m : Cm Vl) : Cm D := bnd m fun
  | .dat d => ret d
  | .own xs => ret (.list xs)
def asO (m : Cm Vl) : Cm (List D) := bnd m fun
  | .dat _ => fun _ => .no
  | .own xs => ret xs
def o1 (m : Cm D) (o : D → Option D) : Cm D := bnd m fun a => lift (o a)
def o2 (m n : Cm D) (o : D → D → Option D) : Cm D := bnd m fun a => bnd n fun b => lift (o a b)
def tru (m : Cm D) : Cm Bool := bnd m fun
  | .bool b => ret b
  | _ => fun _ => .no
def ofB (m : Cm Bool) : Cm D := bnd m fun b => ret (.bool b)
def ands (m n : Cm Bool) : Cm Bool := bnd m fun b => if b then n else ret false
def ors (m n : Cm Bool) : Cm Bool := bnd m fun b => if b then ret true else n
def nots (m : Cm Bool) : Cm Bool := bnd m fun b => ret (!b)
def ite3 {α : Type} (c : Cm Bool) (m n : Cm α) : Cm α := bnd c fun b => if b then m else n
def argN : Cm (List D) := ret []
def argC (m : Cm D) (n : Cm (List D)) : Cm (List D) := bnd m fun a => bnd n fun as => ret (a :: as)
def sizeOkL (n : Nat) : Bool := decide (n ≤ 16777216)
def tupM (n : Cm (List D)) : Cm D := bnd n fun as => if sizeOkL as.length then ret (.tuple as) else fun _ => .no
def lstM (n : Cm (List D)) : Cm (List D) := bnd n fun as => if sizeOkL as.length then ret as else fun _ => .no

section
variable {X : Cx} {T : Tx} {W : WX} {e e1 e2 : Expr} {es : List Expr} {pos : Pos} {f g : Cm D} {fo : Cm (List D)} {fv : Cm Vl} {ft gt : Cm Bool} {fa : Cm (List D)}
/-- v is the data d, or a list that stands in H alone -/
inductive Dv (K : PySem.W.Frag) (F H : Hp) : V → D → Prop
  | dat {v : V} {d : D} : Dq K F v d → Dv K F H v d
  | top {p : Addr} {vs : List V} {ds : List D} : Rd H p (.lst vs) → DqAll K F vs ds → Dv K F H (.ref p) (.list ds)
section
variable {K : PySem.W.Frag} {F H : Hp} {v : V}
theorem Dv.lst {ds : List D} (h : Dv K F H v (.list ds)) (s : Same F H) : ∃ p vs, v = .ref p ∧ Rd H p (.lst vs) ∧ DqAll K F vs ds := by
  cases h with
  | dat h => cases h with
    | lst r a => exact ⟨_, _, rfl, Rd_ext s r, a⟩
  | top r a => exact ⟨_, _, rfl, r, a⟩
theorem Dv.tup {ds : List D} (h : Dv K F H v (.tuple ds)) (s : Same F H) : ∃ p vs, v = .ref p ∧ SqT K H p vs ∧ DqAll K F vs ds := by
  cases h with
  | dat h => cases h with
    | tup r a => exact ⟨_, _, rfl, SqT_ext s r, a⟩
theorem Dv.dq {d : D} (h : Dv K F H v d) (n : ∀ ds, d ≠ .list ds) : Dq K F v d := by
  cases h with
  | dat h => exact h
  | top r a => exact absurd rfl (n _)
theorem Dv.int {i : Int} (h : Dv K F H v (.int i)) : v = .int i := by
  cases h with
  | dat h => cases h; rfl
theorem Dv.bl {i : Bool} (h : Dv K F H v (.bool i)) : v = .bl i := by
  cases h with
  | dat h => cases h; rfl
theorem Dv.str {i : Str} (h : Dv K F H v (.str i)) : v = .str i := by
  cases h with
  | dat h => cases h; rfl
theorem Dv.non (h : Dv K F H v .none) : v = .non := by
  cases h with
  | dat h => cases h; rfl
theorem Dv.dp {d : D} (h : Dv K F H v d) (s : Same F H) : Dp K H v d := by
  cases h with
  | dat h => exact Dq_dp (Dq_ext s h)
  | top r a => exact .lst (.inl r) (DqAll_dp (DqAll_ext s a))
end
inductive DvAll (K : PySem.W.Frag) (F H : Hp) : List V → List D → Prop
  | nil : DvAll K F H [] []
  | cons {v : V} {vs : List V} {d : D} {ds : List D} : Dv K F H v d → DvAll K F H vs ds → DvAll K F H (v :: vs) (d :: ds)
theorem DvAll_of {K : PySem.W.Frag} {F H : Hp} : ∀ {vs : List V} {ds : List D}, DqAll K F vs ds → DvAll K F H vs ds
  | _, _, .nil => .nil
  | _, _, .cons h t => .cons (.dat h) (DvAll_of t)
/-- pure data operation on values -/
def OpD (K : PySem.W.Frag) (r : R2) (o : D → D → Option D) : Prop := ∀ (F H : Hp) (x y : V) (d e z : D) (Q : VK), Same F H → Dv K F H x d → Dv K F H y e → o d e = some z → (∀ F' H' v, Gr F H F' H' → Dq K F' v z → Q v H') → r x y H Q
def UnD (K : PySem.W.Frag) (r : V → Hp → VK → Prop) (o : D → Option D) : Prop := ∀ (F H : Hp) (x : V) (d z : D) (Q : VK), Same F H → Dv K F H x d → o d = some z → (∀ F' H' v, Gr F H F' H' → Dq K F' v z → Q v H') → r x H Q
/-- a built-in on its arguments -/
def CaD (K : PySem.W.Frag) (r : List V → Hp → VK → Prop) (o : List D → Option D) : Prop := ∀ (F H : Hp) (xs : List V) (ds : List D) (z : D) (Q : VK), Same F H → DvAll K F H xs ds → o ds = some z → (∀ F' H' v, Gr F H F' H' → Dq K F' v z → Q v H') → r xs H Q
theorem de_op {op : Operator} {r : R2} {o : D → D → Option D} (ho : OpR X (binaryOp op) r) (hd : OpD X.K r o) (ha : DE X T W e1 f) (hb : DE X T W e2 g) : DE X T W (.BinOp e1 op e2 pos) (o2 f g o) :=
  PE_imp (pe_op ho ha hb) fun σ H Q ⟨G, ρ, F, rp, h⟩ => ⟨G, ρ, F, rp, h.bind.imp fun a ρ1 F1 H1 s1 rp1 h1 x hx => ⟨G, ρ1, F1, rp1, h1.bind.imp fun b ρ2 F2 H2 s2 rp2 h2 y hy => by
    obtain ⟨z, e, h3⟩ := h2.lift
    exact hd F2 H2 x y a b z Q rp2.same (.dat (Dq_ext s2 hx)) (.dat hy) e fun F' H' v g hv => h3.ret (rp2.gr g) g.f v hv⟩⟩
/-- an owned slot's list -/
def rdO (i : Nat) : Cm D := fun ρ => match ρ[i]? with
  | some (.own xs _) => .ok (.list xs) ρ
  | some (.dat d) => .ok d ρ
  | _ => .no
def o2L (i : Nat) (g : Cm D) (o : D → D → Option D) : Cm D := bnd g fun b => bnd (rdO i) fun a => lift (o a b)
def o2R (f : Cm D) (i : Nat) (o : D → D → Option D) : Cm D := bnd f fun a => bnd (rdO i) fun b => lift (o a b)
theorem rdO_ok {K : PySem.W.Frag} {T : Tx} {mg : Str → Option Value} {W : WX} {G : Gh} {F H : Hp} {ρ : En} {σ : L2.St} {i : Nat} {β : Type} {k : D → Cm β} {p : β → En → Hp → Hp → Prop} {v : V} (rp : Rp K T G ρ F σ H) (hv : σ[i]? = some (some v)) (h : Rs K T mg W G F σ (bnd (rdO i) k ρ) p) :
    ∃ d, Dv K F H v d ∧ Rs K T mg W G F σ (k d ρ) p := by
  unfold bnd rdO at h
  cases q : ρ[i]? with
  | none => rw [q] at h; exact (show False from h).elim
  | some s =>
    rw [q] at h
    cases s with
    | no => exact (show False from h).elim
    | fn => exact (show False from h).elim
    | dat d =>
      obtain ⟨w, e1, e2⟩ := rp.sl i _ q
      rw [hv] at e1
      cases e1
      exact ⟨d, .dat e2, h⟩
    | own xs b =>
      obtain ⟨p, e1, e2, e3, us, e4, e5⟩ := rp.sl i _ q
      rw [hv] at e1
      cases e1
      exact ⟨.list xs, .top (.of e4) e5, h⟩
theorem de_cmp {op : CmpOp} {r : R2} {o : D → D → Option D} (ho : OpR X (compareOp op) r) (hd : OpD X.K r o) (hm : behindInMarks op e2 = false) (ha : DE X T W e1 f) (hb : DE X T W e2 g) : DE X T W (.Compare e1 [op] [e2] pos) (o2 f g o) :=
  PE_imp (pe_cmpR ho ha hb hm) fun σ H Q ⟨G, ρ, F, rp, h⟩ => ⟨G, ρ, F, rp, h.bind.imp fun a ρ1 F1 H1 s1 rp1 h1 x hx => ⟨G, ρ1, F1, rp1, h1.bind.imp fun b ρ2 F2 H2 s2 rp2 h2 y hy => by
    obtain ⟨z, e, h3⟩ := h2.lift
    exact hd F2 H2 x y a b z Q rp2.same (.dat (Dq_ext s2 hx)) (.dat hy) e fun F' H' v g hv => h3.ret (rp2.gr g) g.f v hv⟩⟩
theorem de_un {op : UnaryOp} {r : V → Hp → VK → Prop} {o : D → Option D} (ho : UnR X (unaryOp op) r) (hd : UnD X.K r o) (ha : DE X T W e1 f) : DE X T W (.UnaryOp op e1 pos) (o1 f o) :=
  PE_imp (pe_un ho ha) fun σ H Q ⟨G, ρ, F, rp, h⟩ => ⟨G, ρ, F, rp, h.bind.imp fun a ρ1 F1 H1 s1 rp1 h1 x hx => by
    obtain ⟨z, e, h3⟩ := h1.lift
    exact hd F1 H1 x a z Q rp1.same (.dat hx) e fun F' H' v g hv => h3.ret (rp1.gr g) g.f v hv⟩
theorem de_int {i j pos} : DE X T W (.Constant (.int i) j pos) (ret (.int i)) := PE_imp pe_int fun σ H Q ⟨G, ρ, F, rp, h⟩ => h.ret rp (.refl _) _ (.int i)
theorem de_bool {i j pos} : DE X T W (.Constant (.bool i) j pos) (ret (.bool i)) := PE_imp pe_bl fun σ H Q ⟨G, ρ, F, rp, h⟩ => h.ret rp (.refl _) _ (.bl i)
theorem de_none {j pos} : DE X T W (.Constant .none j pos) (ret .none) := PE_imp pe_non fun σ H Q ⟨G, ρ, F, rp, h⟩ => h.ret rp (.refl _) _ .non
theorem de_str {i j pos} : DE X T W (.Constant (.str i) j pos) (ret (.str i)) := PE_imp pe_str fun σ H Q ⟨G, ρ, F, rp, h⟩ => h.ret rp (.refl _) _ (.str i)
theorem de_var {i : Nat} {x : Str} {pos : Pos} (hN : X.N[i]? = some x) (hv : Vis X.env.scope x) (hd : (x == ("__debug__" : Str)) = false := by decide) (hcd : (x == ("__classdict__" : Str)) = false := by decide) : DE X T W (.Name x pos) (rdV i) :=
  PE_imp (pe_var hN hv hd hcd) fun σ H Q ⟨G, ρ, F, rp, h⟩ => by
    unfold rdV at h
    cases q : ρ[i]? with
    | none => rw [q] at h; exact h.elim
    | some s =>
      rw [q] at h
      cases s with
      | no => exact h.elim
      | fn => exact h.elim
      | own _ _ => exact h.elim
      | dat d =>
        obtain ⟨v, e1, e2⟩ := rp.sl i _ q
        exact ⟨v, e1, h F H (.refl _) rp v e2⟩
/-- a module's constant -/
theorem de_glob {x : Str} {v : V} {d : D} {u : Value} {pos : Pos} (hg : Gl X x) (hm : X.mg x = some u) (r : RelV v u) (hd : ∀ H, Dq X.K H v d) (hb : (x == ("__debug__" : Str)) = false := by decide) : DE X T W (.Name x pos) (ret d) :=
  PE_imp (pe_glob hg hm r hb) fun σ H Q ⟨G, ρ, F, rp, h⟩ => h.ret rp (.refl _) v (hd F)
theorem de_frz (h : OE X T W e fo) : DE X T W e (frz fo) :=
  PE_imp h fun σ H Q ⟨G, ρ, F, rp, h⟩ => ⟨G, ρ, F, rp, h.bind.imp fun xs ρ1 F1 H1 s1 rp1 h1 p n => by
    obtain ⟨F2, s2, rp2, hd⟩ := n.freeze rp1
    exact h1.ret rp2 s2 _ hd⟩
theorem de_asD (h : VE X T W e fv) : DE X T W e (asD fv) :=
  PE_imp h fun σ H Q ⟨G, ρ, F, rp, h⟩ => ⟨G, ρ, F, rp, h.bind.imp fun a ρ1 F1 H1 s1 rp1 h1 v hv => by
    cases a with
    | dat d => exact h1.ret rp1 (.refl _) _ hv
    | own xs =>
      obtain ⟨p, e, n⟩ := hv
      subst e
      obtain ⟨F2, s2, rp2, hd⟩ := n.freeze rp1
      exact h1.ret rp2 s2 _ hd⟩
theorem oe_asO (h : VE X T W e fv) : OE X T W e (asO fv) :=
  PE_imp h fun σ H Q ⟨G, ρ, F, rp, h⟩ => ⟨G, ρ, F, rp, h.bind.imp fun a ρ1 F1 H1 s1 rp1 h1 v hv => by
    cases a with
    | dat d => exact h1.elim
    | own xs =>
      obtain ⟨p, e, n⟩ := hv
      subst e
      exact h1.ret rp1 (.refl _) _ n⟩
/-! tests -/
theorem dt_val (h : DE X T W e f) (he : ∀ whole, isTrue e X.env whole = (do let v ← whole; standAt e.pos; holding [v] (truthy v)) := by intro _; rfl) : DT X T W e (tru f) :=
  PT_imp (pt_val h he) fun σ H Q ⟨G, ρ, F, rp, h⟩ => ⟨G, ρ, F, rp, h.bind.imp fun a ρ1 F1 H1 s1 rp1 h1 v hv => by
    cases a with
    | bool b => cases hv; exact ⟨b, rfl, h1.ret rp1 (.refl _)⟩
    | _ => exact h1.elim⟩
theorem dt_cmp {op : CmpOp} {r : R2} {o : D → D → Option D} (ho : OpR X (compareOp op) r) (hd : OpD X.K r o) (hm : behindInMarks op e2 = false) (ha : DE X T W e1 f) (hb : DE X T W e2 g) : DT X T W (.Compare e1 [op] [e2] pos) (tru (o2 f g o)) :=
  PT_imp (pt_cmpR ho ha hb hm) fun σ H Q ⟨G, ρ, F, rp, h⟩ => ⟨G, ρ, F, rp, h.bind.bind.imp fun a ρ1 F1 H1 s1 rp1 h1 x hx => ⟨G, ρ1, F1, rp1, h1.bind.imp fun b ρ2 F2 H2 s2 rp2 h2 y hy => by
    obtain ⟨z, e, h3⟩ := h2.lift
    refine hd F2 H2 x y a b z _ rp2.same (.dat (Dq_ext s2 hx)) (.dat hy) e fun F' H' v g hv => ?_
    have h4 := h3.ret (rp2.gr g) g.f
    cases z with
    | bool b => cases hv; exact ⟨b, rfl, h4.ret (rp2.gr g) (.refl _)⟩
    | _ => exact h4.elim⟩⟩
theorem dt_not (h : DT X T W e ft) : DT X T W (.UnaryOp .Not e pos) (nots ft) :=
  PT_imp (pt_not h) fun σ H Q ⟨G, ρ, F, rp, h⟩ => ⟨G, ρ, F, rp, h.bind.imp fun b ρ1 F1 H1 s1 rp1 h1 => h1.ret rp1 (.refl _)⟩
abbrev DW (X : Cx) (T : Tx) (W : WX) (e : Expr) (f : Cm Bool) : Prop := PW X e (tT X.K T X.mg W f)
theorem PW_imp {e : Expr} {u u' : TT} (h : PW X e u) (i : ∀ σ H Q, u' σ H Q → u σ H Q) : PW X e u' := ⟨fun wh pins s σ H Q I q => h.run wh pins s σ H Q I (i σ H Q q)⟩
theorem dw_and1 (h : DT X T W e ft) : DW X T W (.BoolOp .And [e] pos) ft := pw_and1 h
theorem dw_or1 (h : DT X T W e ft) : DW X T W (.BoolOp .Or [e] pos) ft := pw_or1 h
theorem dw_and (ha : DT X T W e1 ft) (hb : DW X T W (.BoolOp .And (e2 :: es) pos) gt) : DW X T W (.BoolOp .And (e1 :: e2 :: es) pos) (ands ft gt) :=
  PW_imp (pw_and ha hb) fun σ H Q ⟨G, ρ, F, rp, h⟩ => ⟨G, ρ, F, rp, h.bind.imp fun b ρ1 F1 H1 s1 rp1 h1 => by
    cases b with
    | true => exact ⟨G, ρ1, F1, rp1, h1⟩
    | false => exact h1.ret rp1 (.refl _)⟩
theorem dw_or (ha : DT X T W e1 ft) (hb : DW X T W (.BoolOp .Or (e2 :: es) pos) gt) : DW X T W (.BoolOp .Or (e1 :: e2 :: es) pos) (ors ft gt) :=
  PW_imp (pw_or ha hb) fun σ H Q ⟨G, ρ, F, rp, h⟩ => ⟨G, ρ, F, rp, h.bind.imp fun b ρ1 F1 H1 s1 rp1 h1 => by
    cases b with
    | true => exact h1.ret rp1 (.refl _)
    | false => exact ⟨G, ρ1, F1, rp1, h1⟩⟩
theorem dt_of (h : DW X T W e ft) : DT X T W e ft := h.pt
/-! and, or, not as values -/
def andV (m n : Cm D) : Cm D := bnd m fun
  | .bool b => if b then n else ret (.bool false)
  | _ => fun _ => .no
def orV (m n : Cm D) : Cm D := bnd m fun
  | .bool b => if b then ret (.bool true) else n
  | _ => fun _ => .no
def notV (m : Cm D) : Cm D := bnd m fun
  | .bool b => ret (.bool (!b))
  | _ => fun _ => .no
theorem de_one {op} (h : DE X T W e f) : DE X T W (.BoolOp op [e] pos) f := pe_one h
theorem de_and (ha : DE X T W e1 f) (hb : DE X T W (.BoolOp .And (e2 :: es) pos) g) : DE X T W (.BoolOp .And (e1 :: e2 :: es) pos) (andV f g) :=
  PE_imp (pe_and ha hb) fun σ H Q ⟨G, ρ, F, rp, h⟩ => ⟨G, ρ, F, rp, h.bind.imp fun a ρ1 F1 H1 s1 rp1 h1 v hv => by
    cases a with
    | bool b =>
      cases hv
      refine ⟨b, rfl, ?_⟩
      cases b with
      | true => exact ⟨G, ρ1, F1, rp1, h1⟩
      | false => exact h1.ret rp1 (.refl _) _ (.bl false)
    | _ => exact h1.elim⟩
theorem de_or (ha : DE X T W e1 f) (hb : DE X T W (.BoolOp .Or (e2 :: es) pos) g) : DE X T W (.BoolOp .Or (e1 :: e2 :: es) pos) (orV f g) :=
  PE_imp (pe_or ha hb) fun σ H Q ⟨G, ρ, F, rp, h⟩ => ⟨G, ρ, F, rp, h.bind.imp fun a ρ1 F1 H1 s1 rp1 h1 v hv => by
    cases a with
    | bool b =>
      cases hv
      refine ⟨b, rfl, ?_⟩
      cases b with
      | true => exact h1.ret rp1 (.refl _) _ (.bl true)
      | false => exact ⟨G, ρ1, F1, rp1, h1⟩
    | _ => exact h1.elim⟩
theorem de_not (ha : DE X T W e1 f) : DE X T W (.UnaryOp .Not e1 pos) (notV f) :=
  PE_imp (pe_not ha) fun σ H Q ⟨G, ρ, F, rp, h⟩ => ⟨G, ρ, F, rp, h.bind.imp fun a ρ1 F1 H1 s1 rp1 h1 v hv => by
    cases a with
    | bool b => cases hv; exact ⟨b, rfl, h1.ret rp1 (.refl _) _ (.bl _)⟩
    | _ => exact h1.elim⟩
/-! a if t else b -/
theorem de_if {c : Expr} (hc : DT X T W c ft) (ha : DE X T W e1 f) (hb : DE X T W e2 g) : DE X T W (.IfExp c e1 e2 pos) (ite3 ft f g) :=
  PE_imp (pe_ifExp hc ha hb) fun σ H Q ⟨G, ρ, F, rp, h⟩ => ⟨G, ρ, F, rp, h.bind.imp fun b ρ1 F1 H1 s1 rp1 h1 => by
    cases b with
    | true => exact ⟨G, ρ1, F1, rp1, h1⟩
    | false => exact ⟨G, ρ1, F1, rp1, h1⟩⟩
/-! arguments, displays -/
theorem da_nil : DA X T W [] argN := PA_imp pa_nil fun σ H Q ⟨G, ρ, F, rp, h⟩ => h.ret rp (.refl _) _ .nil
theorem da_cons (ha : DE X T W e f) (hr : DA X T W es fa) (hs : starEach (e :: es) X.env = (false, eval e X.env) :: starEach es X.env := by rfl) : DA X T W (e :: es) (argC f fa) :=
  PA_imp (pa_cons ha hr hs) fun σ H Q ⟨G, ρ, F, rp, h⟩ => ⟨G, ρ, F, rp, h.bind.imp fun a ρ1 F1 H1 s1 rp1 h1 v hv => ⟨G, ρ1, F1, rp1, h1.bind.imp fun as ρ2 F2 H2 s2 rp2 h2 vs hvs => h2.ret rp2 (.refl _) _ (.cons (Dq_ext s2 hv) hvs)⟩⟩
theorem sizeOkL_le {n : Nat} (h : sizeOkL n = true) : n ≤ sizeLine := by rw [sizeLine_eq]; exact of_decide_eq_true h
theorem de_tup {k} (h : DA X T W es fa) : DE X T W (.Tuple es k pos) (tupM fa) :=
  PE_imp (pe_tup h) fun σ H Q ⟨G, ρ, F, rp, h⟩ => ⟨G, ρ, F, rp, h.bind.imp fun as ρ1 F1 H1 s1 rp1 h1 vs hv => by
    by_cases z : sizeOkL as.length = true
    · rw [if_pos z] at h1
      refine ⟨by rw [DqAll_len hv]; exact sizeOkL_le z, fun p hp => ?_⟩
      have g := rp1.laid (o := .tup vs) hp
      exact h1.ret (rp1.gr g) g.f _ (.tup (.of upd_same) (DqAll_ext g.f hv))
    · rw [if_neg z] at h1; exact h1.elim⟩
theorem oe_lst (h : DA X T W es fa) : OE X T W (.List es pos) (lstM fa) :=
  PE_imp (pe_lst h) fun σ H Q ⟨G, ρ, F, rp, h⟩ => ⟨G, ρ, F, rp, h.bind.imp fun as ρ1 F1 H1 s1 rp1 h1 vs hv => by
    by_cases z : sizeOkL as.length = true
    · rw [if_pos z] at h1
      refine ⟨by rw [DqAll_len hv]; exact sizeOkL_le z, fun p hp => ?_⟩
      exact h1.ret (rp1.gr (rp1.grown hp)) (.refl _) _ (rp1.new hp hv)
    · rw [if_neg z] at h1; exact h1.elim⟩
end
end PL
end S_PLJ

section S_PLS
namespace PL
open PySem PySem.Spec PyProof.Rows L2

/-! ### meanings of statements -/
def seqM (f g : Cm Fl) : Cm Fl := bnd f fun
  | .nx => g
  | r => ret r
def nextM : Cm Fl := ret .nx
def dropM (f : Cm D) : Cm Fl := bnd f fun _ => ret .nx
def retM (f : Cm D) : Cm Fl := bnd f fun d => ret (.ret (.dat d))
def retO (f : Cm (List D)) : Cm Fl := bnd f fun xs => ret (.ret (.own xs))
def retV (f : Cm Vl) : Cm Fl := bnd f fun v => ret (.ret v)
/-- a list of one's own is handed back -/
def retX (i : Nat) : Cm Fl := fun ρ => match ρ[i]? with
  | some (.own xs false) => .ok (.ret (.own xs)) (ρ.set i .no)
  | _ => .no
def stD (i : Nat) (d : D) : Cm Unit := fun ρ => .ok () (ρ.set i (.dat d))
def stO (i : Nat) (xs : List D) : Cm Unit := fun ρ => .ok () (ρ.set i (.own xs false))
def stV (i : Nat) : Vl → Cm Unit
  | .dat d => stD i d
  | .own xs => stO i xs
def done (m : Cm Unit) : Cm Fl := bnd m fun _ => ret .nx
def setM (i : Nat) (f : Cm D) : Cm Fl := bnd f fun d => done (stD i d)
def setO (i : Nat) (f : Cm (List D)) : Cm Fl := bnd f fun xs => done (stO i xs)
def asgM (f : Cm D) (g : D → Cm Unit) : Cm Fl := bnd f fun d => done (g d)
/-- what is behind a turn of a loop -/
def turnM (k : Cm Fl) : R Fl → R Fl
  | .ok .nx ρ => k ρ
  | .ok .ct ρ => k ρ
  | .ok .bk ρ => .ok .nx ρ
  | r => r
def forL (g : D → Cm Unit) (b : Cm Fl) : List D → Cm Fl
  | [] => ret .nx
  | d :: ds => bnd (g d) fun _ => fun ρ => turnM (forL g b ds) (b ρ)
def forM (it : Cm (List D)) (g : D → Cm Unit) (b : Cm Fl) : Cm Fl := bnd it (forL g b)
def whileL (c : Cm Bool) (b : Cm Fl) : Nat → Cm Fl
  | 0 => fun _ => .no
  | n + 1 => bnd c fun t => if t then fun ρ => turnM (whileL c b n) (b ρ) else ret .nx
def fuel : Nat := 1000000

section
variable {K : PySem.W.Frag} {T : Tx} {mg : Str → Option Value} {W : WX} {G : Gh} {F F' : Hp} {ρ : En} {σ : L2.St} {Dn : Ends}
theorem SRs.up {r : R Fl} (h : SRs K T mg W G F r Dn) (s : Same F F') : SRs K T mg W G F' r Dn := by
  cases r with
  | ok a ρ =>
    cases a with
    | nx => exact fun σ F2 H2 s2 rp => h σ F2 H2 (s.trans s2) rp
    | bk => exact fun σ F2 H2 s2 rp => h σ F2 H2 (s.trans s2) rp
    | ct => exact fun σ F2 H2 s2 rp => h σ F2 H2 (s.trans s2) rp
    | ret v => exact fun σ F2 H2 v s2 rp => h σ F2 H2 v (s.trans s2) rp
  | ex x ρ => exact fun σ F2 H2 c d s2 rp => h σ F2 H2 c d (s.trans s2) rp
  | no => exact h
theorem SRs.bind {α : Type} {m : Cm α} {k : α → Cm Fl} (h : SRs K T mg W G F (bnd m k ρ) Dn) : Rs K T mg W G F σ (m ρ) fun a ρ1 F1 H1 => SRs K T mg W G F1 (k a ρ1) Dn := by
  unfold bnd at h
  cases e : m ρ with
  | ok a ρ1 => rw [e] at h; exact fun F1 H1 s _ => SRs.up h s
  | ex x ρ1 => rw [e] at h; exact fun F1 H1 c d s rp x => h σ F1 H1 c d s rp x
  | no => rw [e] at h; exact h
theorem SRs.imp {r : R Fl} {D1 D2 : Ends} (h : SRs K T mg W G F r D1) (n : ∀ σ H, (∃ ρ F', r = .ok .nx ρ ∧ Same F F' ∧ Rp K T G ρ F' σ H) → D1.nx σ H → D2.nx σ H) (b : ∀ σ H, (∃ ρ F', r = .ok .bk ρ ∧ Same F F' ∧ Rp K T G ρ F' σ H) → D1.bk σ H → D2.bk σ H)
    (c : ∀ σ H, (∃ ρ F', r = .ok .ct ρ ∧ Same F F' ∧ Rp K T G ρ F' σ H) → D1.ct σ H → D2.ct σ H) (t : ∀ v H, D1.rt v H → D2.rt v H) : SRs K T mg W G F r D2 := by
  cases r with
  | ok a ρ =>
    cases a with
    | nx => exact fun σ F2 H2 s2 rp => n _ _ ⟨ρ, F2, rfl, s2, rp⟩ (h σ F2 H2 s2 rp)
    | bk => exact fun σ F2 H2 s2 rp => b _ _ ⟨ρ, F2, rfl, s2, rp⟩ (h σ F2 H2 s2 rp)
    | ct => exact fun σ F2 H2 s2 rp => c _ _ ⟨ρ, F2, rfl, s2, rp⟩ (h σ F2 H2 s2 rp)
    | ret v => exact fun σ F2 H2 v s2 rp z => t _ _ (h σ F2 H2 v s2 rp z)
  | ex x ρ => exact h
  | no => exact h
end

/-- what a store is to reach; vs: the slots that it may store -/
def GRs (K : PySem.W.Frag) (T : Tx) (mg : Str → Option Value) (W : WX) (vs : List Nat) (G : Gh) (F : Hp) (σ : L2.St) (r : R Unit) (Q : L2.St → Hp → Prop) : Prop :=
  match r with
  | .ok _ ρ' => ∀ σ' F' H', Same F F' → Rp K T G ρ' F' σ' H' → wipe σ' vs = wipe σ vs → Q σ' H'
  | .ex x ρ' => ∀ σ' F' H' cls d, Same F F' → Rp K T G ρ' F' σ' H' → XR K mg x cls d F' H' → W cls d σ' H'
  | .no => False
theorem GRs.bind {K : PySem.W.Frag} {T : Tx} {mg : Str → Option Value} {W : WX} {vs : List Nat} {G : Gh} {F : Hp} {σ : L2.St} {m k : Cm Unit} {ρ : En} {Q : L2.St → Hp → Prop} (h : GRs K T mg W vs G F σ (bnd m (fun _ => k) ρ) Q) :
    GRs K T mg W vs G F σ (m ρ) fun σ1 H1 => ∃ ρ1 F1, Rp K T G ρ1 F1 σ1 H1 ∧ Same F F1 ∧ GRs K T mg W vs G F1 σ1 (k ρ1) Q := by
  unfold bnd at h
  cases q : m ρ with
  | no => rw [q] at h; exact h
  | ex x ρ1 => rw [q] at h; exact h
  | ok a ρ1 =>
    rw [q] at h
    refine fun σ1 F1 H1 s1 rp1 w1 => ⟨ρ1, F1, rp1, s1, ?_⟩
    change GRs K T mg W vs G F σ (k ρ1) Q at h
    cases q2 : k ρ1 with
    | no => rw [q2] at h; exact h
    | ex x ρ2 => rw [q2] at h; exact fun σ' F' H' c d s rp x => h σ' F' H' c d (s1.trans s) rp x
    | ok a ρ2 => rw [q2] at h; exact fun σ' F' H' s rp w => h σ' F' H' (s1.trans s) rp (w.trans w1)
/-- a target's reading -/
def tGd (K : PySem.W.Frag) (T : Tx) (mg : Str → Option Value) (W : WX) (vs : List Nat) (g : D → Cm Unit) : TG := fun v σ H Q => ∃ G ρ F d, Rp K T G ρ F σ H ∧ Dq K F v d ∧ GRs K T mg W vs G F σ (g d ρ) Q
abbrev DG (X : Cx) (T : Tx) (W : WX) (vs : List Nat) (tg : Expr) (g : D → Cm Unit) : Prop := PG X tg (tGd X.K T X.mg W vs g)
/-- several targets -/
def tGs (K : PySem.W.Frag) (T : Tx) (mg : Str → Option Value) (W : WX) (vs : List Nat) (g : List D → Cm Unit) : TGs := fun us σ H Q => ∃ G ρ F ds, Rp K T G ρ F σ H ∧ DqAll K F us ds ∧ GRs K T mg W vs G F σ (g ds ρ) Q
abbrev DGs (X : Cx) (T : Tx) (W : WX) (vs : List Nat) (tg : List Expr) (g : List D → Cm Unit) : Prop := PGs X tg (tGs X.K T X.mg W vs g)
/-- what a loop walks -/
structure Wk (K : PySem.W.Frag) (J : It) (ds : List D) (F : Hp) : Prop where
  go : ∀ i F1 H1, Same F F1 → Same F1 H1 → i < ds.length → J.go i H1
  yld : ∀ i F1 H1 x H2, Same F F1 → Same F1 H1 → i < ds.length → J.yld i H1 x H2 → ∃ F2, Gr F1 H1 F2 H2 ∧ ∃ d, ds[i]? = some d ∧ Dq K F2 x d
  stop : ∀ i F1 H1, Same F F1 → Same F1 H1 → i = ds.length → J.stop i H1
def tId (K : PySem.W.Frag) (T : Tx) (mg : Str → Option Value) (W : WX) (f : Cm (List D)) : TI := fun σ H R => ∃ G ρ F, Rp K T G ρ F σ H ∧ Rs K T mg W G F σ (f ρ) fun ds _ F' H' => ∀ J, Wk K J ds F' → R J H'
abbrev DI (X : Cx) (T : Tx) (W : WX) (tg e : Expr) (f : Cm (List D)) : Prop := PI X tg e (tId X.K T X.mg W f)

section
variable {X : Cx} {T : Tx} {W : WX} {e e1 e2 tg : Expr} {es tgs : List Expr} {pos : Pos} {st : Stmt} {sts sts1 sts2 : List Stmt} {f g h : Cm Fl} {fd : Cm D} {fo : Cm (List D)} {fv : Cm Vl} {ft : Cm Bool} {vs : List Nat} {gd : D → Cm Unit} {gs : List D → Cm Unit}
theorem dss_nil : DSs X T W [] nextM := PSs_imp pss_nil fun σ H Dn ⟨G, ρ, F, rp, h⟩ => h σ F H (.refl _) rp
theorem dss_cons (h1 : DS X T W st f) (h2 : DSs X T W sts g) : DSs X T W (st :: sts) (seqM f g) :=
  PSs_imp (pss_cons h1 h2) fun σ H Dn ⟨G, ρ, F, rp, h⟩ => ⟨G, ρ, F, rp, by
    unfold seqM bnd at h
    cases e : f ρ with
    | no => rw [e] at h; exact h
    | ex x ρ1 => rw [e] at h; exact h
    | ok a ρ1 =>
      rw [e] at h
      cases a with
      | nx => exact fun σ1 F1 H1 s rp1 => ⟨G, ρ1, F1, rp1, SRs.up h s⟩
      | bk => exact h
      | ct => exact h
      | ret v => exact h⟩
theorem dss_one (h1 : DS X T W st f) : DSs X T W [st] f := pss_one h1
theorem ds_pass : DS X T W (.Pass pos) nextM := PS_imp ps_pass fun σ H Dn ⟨G, ρ, F, rp, h⟩ => h σ F H (.refl _) rp
theorem ds_expr (he : DE X T W e fd) (hs : swapsWith e none pos.line X.env = pure false := by rfl) : DS X T W (.Expr e pos) (dropM fd) :=
  PS_imp (ps_expr he hs) fun σ H Dn ⟨G, ρ, F, rp, h⟩ => ⟨G, ρ, F, rp, (SRs.bind h).imp fun d ρ1 F1 H1 s1 rp1 h1 v _ => h1 σ F1 H1 (.refl _) rp1⟩
theorem ds_ret (he : DE X T W e fd) : DS X T W (.Return (some e) pos) (retM fd) :=
  PS_imp (ps_ret he) fun σ H Dn ⟨G, ρ, F, rp, h⟩ => ⟨G, ρ, F, rp, (SRs.bind h).imp fun d ρ1 F1 H1 s1 rp1 h1 v hv => h1 σ F1 H1 v (.refl _) rp1 hv⟩
theorem ds_retO (he : OE X T W e fo) : DS X T W (.Return (some e) pos) (retO fo) :=
  PS_imp (ps_ret he) fun σ H Dn ⟨G, ρ, F, rp, h⟩ => ⟨G, ρ, F, rp, (SRs.bind h).imp fun d ρ1 F1 H1 s1 rp1 h1 p hp => h1 σ F1 H1 (.ref p) (.refl _) rp1 ⟨p, rfl, hp⟩⟩
theorem ds_retV (he : VE X T W e fv) : DS X T W (.Return (some e) pos) (retV fv) :=
  PS_imp (ps_ret he) fun σ H Dn ⟨G, ρ, F, rp, h⟩ => ⟨G, ρ, F, rp, (SRs.bind h).imp fun d ρ1 F1 H1 s1 rp1 h1 v hv => h1 σ F1 H1 v (.refl _) rp1 hv⟩
theorem ds_retX {i : Nat} {x : Str} {pos' : Pos} (hN : X.N[i]? = some x) (hv : Vis X.env.scope x) (hd : (x == ("__debug__" : Str)) = false := by decide) (hcd : (x == ("__classdict__" : Str)) = false := by decide) : DS X T W (.Return (some (.Name x pos')) pos) (retX i) :=
  PS_imp (ps_ret (pe_var hN hv hd hcd)) fun σ H Dn ⟨G, ρ, F, rp, h⟩ => by
    unfold retX at h
    cases q : ρ[i]? with
    | none => rw [q] at h; exact h.elim
    | some s =>
      rw [q] at h
      cases s with
      | no => exact h.elim
      | fn => exact h.elim
      | dat d => exact h.elim
      | own xs b =>
        cases b with
        | true => exact h.elim
        | false =>
          obtain ⟨p, e1, e2⟩ := rp.sl i _ q
          have il : i < ρ.length := (List.getElem?_eq_some_iff.mp q).1
          have il2 : i < σ.length := by rw [← rp.len]; exact il
          have es : σ.set i (σ[i]) = σ := List.set_getElem_self il2
          have rp1 := rp.setN i (σ[i])
          rw [es] at rp1
          refine ⟨.ref p, e1, h σ F H (.ref p) (.refl _) rp1 ⟨p, rfl, e2, fun j ys b z z1 => ?_⟩⟩
          by_cases hj : i = j
          · subst hj
            rw [List.getElem?_set_self il] at z
            cases z
          · rw [List.getElem?_set_ne hj] at z
            exact hj (rp.sep i j xs ys false b q z (e1.trans z1.symm))
theorem ds_retN : DS X T W (.Return none pos) (ret (.ret (.dat .none))) := PS_imp ps_retN fun σ H Dn ⟨G, ρ, F, rp, h⟩ => h σ F H .non (.refl _) rp .non
theorem ds_if {c : Expr} (hc : DT X T W c ft) (ha : DSs X T W sts1 f) (hb : DSs X T W sts2 g) : DS X T W (.If c sts1 sts2 pos) (ite3 ft f g) :=
  PS_imp (ps_if hc ha hb) fun σ H Dn ⟨G, ρ, F, rp, h⟩ => ⟨G, ρ, F, rp, (SRs.bind h).imp fun b ρ1 F1 H1 s1 rp1 h1 => by
    cases b with
    | true => exact ⟨G, ρ1, F1, rp1, h1⟩
    | false => exact ⟨G, ρ1, F1, rp1, h1⟩⟩
theorem ds_break : DS X T W (.Break pos) (ret .bk) := PS_imp ps_break fun σ H Dn ⟨G, ρ, F, rp, h⟩ => h σ F H (.refl _) rp
theorem ds_continue : DS X T W (.Continue pos) (ret .ct) := PS_imp ps_continue fun σ H Dn ⟨G, ρ, F, rp, h⟩ => h σ F H (.refl _) rp
/-! stores -/
theorem ds_set {i : Nat} {x : Str} {pos' : Pos} (hN : X.N.Nodup) (hi : X.N[i]? = some x) (hx : Loc X.env.scope x) (he : DE X T W e fd) (hs : swapsWith e (some (.Name x pos')) pos.line X.env = pure false := by rfl) (hf : X.fn x = true ∨ X.env.scope.names.lookup x = some .local := by first | exact .inl rfl | exact .inr rfl | assumption) :
    DS X T W (.Assign [.Name x pos'] e pos) (setM i fd) :=
  PS_imp (ps_set hN hi hx he hs hf) fun σ H Dn ⟨G, ρ, F, rp, h⟩ => ⟨G, ρ, F, rp, (SRs.bind h).imp fun d ρ1 F1 H1 s1 rp1 h1 v hv => h1 _ F1 H1 (.refl _) (rp1.setD i hv)⟩
theorem ds_setO {i : Nat} {x : Str} {pos' : Pos} (hN : X.N.Nodup) (hi : X.N[i]? = some x) (hx : Loc X.env.scope x) (he : OE X T W e fo) (hs : swapsWith e (some (.Name x pos')) pos.line X.env = pure false := by rfl) (hf : X.fn x = true ∨ X.env.scope.names.lookup x = some .local := by first | exact .inl rfl | exact .inr rfl | assumption) :
    DS X T W (.Assign [.Name x pos'] e pos) (setO i fo) :=
  PS_imp (ps_set hN hi hx he hs hf) fun σ H Dn ⟨G, ρ, F, rp, h⟩ => ⟨G, ρ, F, rp, (SRs.bind h).imp fun d ρ1 F1 H1 s1 rp1 h1 p hp => h1 _ F1 H1 (.refl _) (rp1.setO i hp)⟩
/-! targets -/
theorem wipe_comm (σ : L2.St) : ∀ (vs : List Nat) (i : Nat), (wipe σ vs).set i none = wipe (σ.set i none) vs
  | [], _ => rfl
  | v :: vs, i => by
    show ((wipe σ vs).set v none).set i none = (wipe (σ.set i none) vs).set v none
    rw [← wipe_comm σ vs i]
    by_cases h : v = i
    · subst h; rfl
    · rw [List.set_comm _ _ h]
theorem wipe_set {σ : L2.St} {vs : List Nat} {i : Nat} (h : i ∈ vs) (x : Option V) : wipe (σ.set i x) vs = wipe σ vs := by
  induction vs with
  | nil => cases h
  | cons v vs ih =>
    show (wipe (σ.set i x) vs).set v none = (wipe σ vs).set v none
    by_cases z : v = i
    · subst z
      rw [wipe_comm, wipe_comm, List.set_set]
    · rw [ih (by rcases List.mem_cons.mp h with e | e; exact absurd e.symm z; exact e)]
theorem dg_name {i : Nat} {x : Str} (hm : i ∈ vs) (hN : X.N.Nodup) (hi : X.N[i]? = some x) (hx : Loc X.env.scope x) (hf : X.fn x = true ∨ X.env.scope.names.lookup x = some .local := by first | exact .inl rfl | exact .inr rfl | assumption) : DG X T W vs (.Name x pos) (stD i) :=
  ⟨fun pins s σ H v u Q I r h => by
    obtain ⟨G, ρ, F, d, rp, hd, h⟩ := h
    exact (pg_name (pos := pos) hN hi hx hf).run pins s σ H v u Q I r (h _ F H (.refl _) (rp.setD i hd) (wipe_set hm _))⟩
def gNilM : List D → Cm Unit
  | [] => ret ()
  | _ => fun _ => .no
def gConsM (g : D → Cm Unit) (gs : List D → Cm Unit) : List D → Cm Unit
  | d :: ds => bnd (g d) fun _ => gs ds
  | [] => fun _ => .no
theorem dgs_nil : DGs X T W vs [] gNilM := ⟨fun pins s σ H us ws Q I r h => by
    obtain ⟨G, ρ, F, ds, rp, hd, h⟩ := h
    cases ds with
    | cons d ds => exact (show False from h).elim
    | nil =>
      cases hd
      exact pgs_nil.run pins s σ H [] ws Q I r ⟨rfl, h σ F H (.refl _) rp rfl⟩⟩
theorem dgs_cons (h1 : DG X T W vs e gd) (h2 : DGs X T W vs es gs) (hs : (assignEach (e :: es) X.env).map (·.2) = assign e X.env :: (assignEach es X.env).map (·.2) := by rfl) : DGs X T W vs (e :: es) (gConsM gd gs) := ⟨fun pins s σ H us ws Q I r h => by
    obtain ⟨G, ρ, F, ds, rp, hd, h⟩ := h
    cases ds with
    | nil => exact (show False from h).elim
    | cons d ds =>
      cases hd with
      | cons hv hvs =>
        refine (pgs_cons h1 h2 hs).run pins s σ H _ ws Q I r ⟨_, _, rfl, G, ρ, F, d, rp, hv, ?_⟩
        have h' := GRs.bind (m := gd d) (k := gs ds) h
        cases q : gd d ρ with
        | no => rw [q] at h'; exact h'
        | ex x ρ1 => rw [q] at h'; exact h'
        | ok a ρ1 =>
          rw [q] at h'
          refine fun σ1 F1 H1 s1 rp1 w1 => ?_
          obtain ⟨ρ2, F2, rp2, s2, h2⟩ := h' σ1 F1 H1 s1 rp1 w1
          exact ⟨G, ρ2, F2, ds, rp2, DqAll_ext s2 hvs, h2⟩⟩
def gTupM (n : Nat) (gs : List D → Cm Unit) : D → Cm Unit
  | .tuple ds => if ds.length = n then gs ds else fun _ => .no
  | _ => fun _ => .no
theorem dg_tup {k : Nat} {n : Nat} (hc : X.calm = true) (h : DGs X T W vs es gs) (hn : (assignEach es X.env).length = n := by rfl) (hst : (assignEach es X.env).findIdx? (·.1) = none := by rfl) : DG X T W vs (.Tuple es k pos) (gTupM n gs) := ⟨fun pins s σ H v u Q I r h1 => by
    obtain ⟨G, ρ, F, d, rp, hd, h1⟩ := h1
    cases d with
    | tuple ds =>
      cases hd with
      | tup hs ha =>
        have h1' : GRs X.K T X.mg W vs G F σ ((if ds.length = n then gs ds else fun _ => .no : Cm Unit) ρ) Q := h1
        by_cases hl : ds.length = n
        · rw [if_pos hl] at h1'
          refine (pg_tup (pos := pos) (k := k) hc h hn hst).run pins s σ H _ u Q I r ⟨_, _, rfl, ?_, (DqAll_len ha).trans hl, G, ρ, F, ds, rp, ha, h1'⟩
          exact hs.elim (fun r => .inl (r.elim (fun q => .inl (rp.same _ _ q)) fun ⟨o, q⟩ => .inr ⟨o, rp.same _ _ q⟩)) .inr
        · rw [if_neg hl] at h1'
          exact (show False from h1').elim
    | _ => exact (show False from h1).elim⟩
theorem ds_asg (he : DE X T W e fd) (hg : DG X T W vs tg gd) (hs : swapsWithSole [tg] e pos.line X.env = pure false := by rfl) (hw : swappedStores [tg] e X.env = pure none := by rfl)
    (h1 : (assignEach [tg] X.env).map (·.2) = [assign tg X.env] := by rfl) : DS X T W (.Assign [tg] e pos) (asgM fd gd) :=
  PS_imp (ps_asg he hg hs hw h1) fun σ H Dn ⟨G, ρ, F, rp, h⟩ => ⟨G, ρ, F, rp, (SRs.bind h).imp fun d ρ1 F1 H1 s1 rp1 h2 v hv => ⟨G, ρ1, F1, d, rp1, hv, by
    unfold done bnd at h2
    cases q : gd d ρ1 with
    | no => rw [q] at h2; exact h2
    | ex x ρ2 => rw [q] at h2; exact h2
    | ok a ρ2 => rw [q] at h2; exact fun σ' F' H' s rp _ => h2 σ' F' H' s rp⟩⟩
/-- a, b = e1, e2 -/
def parM (i j : Nat) (f : Cm (List D)) : Cm Fl := bnd f fun
  | [a, b] => fun ρ => .ok .nx ((ρ.set i (.dat a)).set j (.dat b))
  | _ => fun _ => .no
theorem ds_par {i j : Nat} {x y : Str} {a b : Expr} {px py pt : Pos} {kt k2 pt2} (hc : X.calm = true) (hN : X.N.Nodup) (hi : X.N[i]? = some x) (hj : X.N[j]? = some y) (hij : i ≠ j)
    (hx : X.env.scope.names.lookup x = some .local) (hy : X.env.scope.names.lookup y = some .local) (ha : DA X T W [a, b] fo)
    (hw : swappedStores [.Tuple [.Name x px, .Name y py] kt pt] (.Tuple [a, b] k2 pt2) X.env = pure (some [x, y]))
    (hs : swapsWithSole [.Tuple [.Name x px, .Name y py] kt pt] (.Tuple [a, b] k2 pt2) pos.line X.env = pure false := by rfl) :
    DS X T W (.Assign [.Tuple [.Name x px, .Name y py] kt pt] (.Tuple [a, b] k2 pt2) pos) (parM i j fo) :=
  PS_imp (ps_par hc hN hi hj hij hx hy ha hw hs) fun σ H Dn ⟨G, ρ, F, rp, h⟩ => ⟨G, ρ, F, rp, (SRs.bind h).imp fun ds ρ1 F1 H1 s1 rp1 h2 vs hv => by
    match ds, hv, h2 with
    | [d1, d2], .cons h3 (.cons h4 .nil), h2 => exact ⟨_, _, rfl, h2 _ F1 H1 (.refl _) ((rp1.setD i h3).setD j h4)⟩
    | [], _, h2 => exact h2.elim
    | [_], _, h2 => exact h2.elim
    | _ :: _ :: _ :: _, _, h2 => exact h2.elim⟩

/-! ### loops -/
theorem ds_for {body : List Stmt} (hp : PassesOwn (model X.prog X.w) X.A X.env X.xe) (hc : X.calm = true) (hi : DI X T W tg e fo) (hg : DG X T W vs tg gd) (hb : DSs X T W body f)
    (hs : ∀ x, foldedSetIterable e X.env x = pure x := by intro _; rfl) : DS X T W (.For tg e body [] pos) (forM fo gd f) :=
  PS_imp (ps_for hp hc hi hg hb hs) fun σ H Dn ⟨G, ρ, F, rp, h⟩ => ⟨G, ρ, F, rp, (SRs.bind h).imp fun ds ρ1 F1 H1 s1 rp1 h2 J wk => by
    refine ⟨fun i m σ H => m = ds.length - i ∧ i ≤ ds.length ∧ ∃ ρ F', Same F1 F' ∧ Rp X.K T G ρ F' σ H ∧ SRs X.K T X.mg W G F' (forL gd f (ds.drop i) ρ) Dn, ⟨_, rfl, Nat.zero_le _, ρ1, F1, .refl _, rp1, h2⟩, ?_⟩
    rintro i m σ2 H2 ⟨rfl, hi, ρ2, F2, s2, rp2, h3⟩
    by_cases hlt : i < ds.length
    · have ed : ds.drop i = ds[i] :: ds.drop (i + 1) := List.drop_eq_getElem_cons hlt
      rw [ed] at h3
      refine .inr ⟨wk.go i F2 H2 s2 rp2.same hlt, fun σ' H' => ∃ ρ F', Same F1 F' ∧ Rp X.K T G ρ F' σ' H' ∧ SRs X.K T X.mg W G F' (forL gd f (ds.drop (i + 1)) ρ) Dn, fun σ' H' z => ⟨_, by omega, rfl, hlt, z⟩, fun x H3 hy => ?_⟩
      obtain ⟨F3, g3, d, ed2, hd⟩ := wk.yld i F2 H2 x H3 s2 rp2.same hlt hy
      have : d = ds[i] := by rw [List.getElem?_eq_getElem hlt] at ed2; exact (Option.some.inj ed2).symm
      subst this
      refine ⟨G, ρ2, F3, _, rp2.gr g3, hd, ?_⟩
      unfold forL bnd at h3
      cases q : gd ds[i] ρ2 with
      | no => rw [q] at h3; exact h3
      | ex x ρ4 => rw [q] at h3; exact fun σ' F' H' c d s rp x => h3 σ' F' H' c d (g3.f.trans s) rp x
      | ok u ρ4 =>
        rw [q] at h3
        refine fun σ4 F4 H4 s4 rp4 _ => ⟨G, ρ4, F4, rp4, ?_⟩
        have h4 := SRs.up h3 (g3.f.trans s4)
        change SRs X.K T X.mg W G F4 (turnM (forL gd f (ds.drop (i + 1))) (f ρ4)) Dn at h4
        have s14 : Same F1 F4 := s2.trans (g3.f.trans s4)
        cases q5 : f ρ4 with
        | no => rw [q5] at h4; exact h4
        | ex x ρ5 => rw [q5] at h4; exact h4
        | ok a ρ5 =>
          rw [q5] at h4
          cases a with
          | nx => exact fun σ' F' H' s rp => ⟨ρ5, F', s14.trans s, rp, SRs.up h4 s⟩
          | ct => exact fun σ' F' H' s rp => ⟨ρ5, F', s14.trans s, rp, SRs.up h4 s⟩
          | bk => exact h4
          | ret v => exact h4
    · have ei : i = ds.length := by omega
      refine .inl ⟨wk.stop i F2 H2 s2 rp2.same (by omega), ?_⟩
      rw [List.drop_of_length_le (by omega)] at h3
      exact h3 σ2 F2 H2 (.refl _) rp2⟩
theorem ds_while {body : List Stmt} {c : Expr} (hp : PassesOwn (model X.prog X.w) X.A X.env X.xe) (hc : DT X T W c ft) (hb : DSs X T W body f) : DS X T W (.While c body [] pos) (whileL ft f fuel) :=
  PS_imp (ps_while hp hc hb) fun σ H Dn ⟨G, ρ, F, rp, h⟩ => by
    refine ⟨fun m σ H => ∃ ρ F', Same F F' ∧ Rp X.K T G ρ F' σ H ∧ SRs X.K T X.mg W G F' (whileL ft f m ρ) Dn, ⟨fuel, ρ, F, .refl _, rp, h⟩, ?_⟩
    rintro m σ1 H1 ⟨ρ1, F1, s1, rp1, h1⟩
    cases m with
    | zero => exact h1.elim
    | succ n =>
      refine ⟨G, ρ1, F1, rp1, (SRs.bind h1).imp fun b ρ2 F2 H2 s2 rp2 h2 => ?_⟩
      cases b with
      | false => rw [if_neg Bool.false_ne_true]; exact h2 σ1 F2 H2 (.refl _) rp2
      | true =>
        rw [if_pos rfl]
        refine ⟨fun σ' H' => ∃ ρ F', Same F F' ∧ Rp X.K T G ρ F' σ' H' ∧ SRs X.K T X.mg W G F' (whileL ft f n ρ) Dn, fun σ' H' z => ⟨n, Nat.lt_succ_self _, z⟩, G, ρ2, F2, rp2, ?_⟩
        change SRs X.K T X.mg W G F2 (turnM (whileL ft f n) (f ρ2)) Dn at h2
        have s12 : Same F F2 := s1.trans s2
        cases q5 : f ρ2 with
        | no => rw [q5] at h2; exact h2
        | ex x ρ5 => rw [q5] at h2; exact h2
        | ok a ρ5 =>
          rw [q5] at h2
          cases a with
          | nx => exact fun σ' F' H' s rp => ⟨ρ5, F', s12.trans s, rp, SRs.up h2 s⟩
          | ct => exact fun σ' F' H' s rp => ⟨ρ5, F', s12.trans s, rp, SRs.up h2 s⟩
          | bk => exact h2
          | ret v => exact h2
end
end PL
end S_PLS

section S_PLC
namespace PL
open PySem PySem.Spec PyProof.Rows L2

/-! ### list comprehensions -/
def wipeE (ρ : En) (vs : List Nat) : En := ρ.mapIdx fun j s => if vs.contains j then .no else s
def backE (ρ ρ' : En) (vs : List Nat) : En := ρ'.mapIdx fun j s => if vs.contains j then (ρ[j]?).getD .no else s
def noOwn (ρ : En) (vs : List Nat) : Bool := vs.all fun v => match ρ[v]? with
  | some (.own _ _) => false
  | some .fn => false
  | _ => true
def wipeC (vs : List Nat) : Cm Unit := fun ρ => .ok () (wipeE ρ vs)
def lcL (vs : List Nat) (g : D → Cm Unit) (t : Cm Bool) (e : Cm D) : List D → Cm (List D)
  | [] => ret []
  | d :: ds => bnd (g d) fun _ => bnd t fun b => if b then bnd e fun y => bnd (wipeC vs) fun _ => bnd (lcL vs g t e ds) fun ys => ret (y :: ys) else bnd (wipeC vs) fun _ => lcL vs g t e ds
def lcR (vs : List Nat) (ρ : En) : R (List D) → R (List D)
  | .ok ys ρ' => .ok ys (backE ρ ρ' vs)
  | _ => .no
def lcM (vs : List Nat) (it : Cm (List D)) (g : D → Cm Unit) (t : Cm Bool) (e : Cm D) : Cm (List D) := bnd it fun ds => fun ρ => if noOwn ρ vs && sizeOkL ds.length then lcR vs ρ (lcL vs g t e ds (wipeE ρ vs)) else .no
abbrev W0 : WX := fun _ _ _ _ => False

theorem wipe_get (σ : L2.St) {j : Nat} : ∀ {vs : List Nat}, j ∉ vs → (L2.wipe σ vs)[j]? = σ[j]?
  | [], _ => rfl
  | v :: vs, h => by
    show ((L2.wipe σ vs).set v none)[j]? = σ[j]?
    rw [List.getElem?_set_ne (fun z => h (by rw [z]; exact List.mem_cons_self)), wipe_get σ (fun z => h (List.mem_cons_of_mem _ z))]
theorem wipe_idem (σ : L2.St) : ∀ (vs : List Nat), wipe (L2.wipe σ vs) vs = wipe σ vs := fun vs => by
  have key : ∀ (us : List Nat) (τ : L2.St), (∀ u ∈ us, u ∈ vs) → wipe (wipe τ vs) us = wipe τ vs := by
    intro us
    induction us with
    | nil => intro τ _; rfl
    | cons u us ih =>
      intro τ hs
      show (wipe (wipe τ vs) us).set u none = wipe τ vs
      rw [ih τ (fun x hx => hs x (List.mem_cons_of_mem _ hx)), wipe_comm]
      exact wipe_set (hs u List.mem_cons_self) none
  exact key vs σ fun _ h => h
section
variable {K : PySem.W.Frag} {T : Tx} {mg : Str → Option Value} {W : WX} {G : Gh} {F F' H H' : Hp} {ρ ρ' : En} {σ : L2.St} {vs : List Nat} {p : Addr} {xs ys : List D}
theorem Rp.wipe (r : Rp K T G ρ F σ H) (vs : List Nat) : Rp K T G (wipeE ρ vs) F (L2.wipe σ vs) H where
  len := by rw [wipe_length, ← r.len]; unfold wipeE; rw [List.length_mapIdx]
  f0 := r.f0
  same := r.same
  fr := r.fr
  th := r.th
  nw := r.nw
  tab := r.tab
  tabF := r.tabF
  sl := fun j s e => by
    unfold wipeE at e
    rw [List.getElem?_mapIdx] at e
    cases q : ρ[j]? with
    | none => rw [q] at e; cases e
    | some s0 =>
      rw [q] at e
      simp only [Option.map_some, Option.some.injEq] at e
      by_cases hj : j ∈ vs
      · rw [if_pos (by simpa using hj)] at e
        subst e
        trivial
      · rw [if_neg (by simpa using hj)] at e
        subst e
        have z := r.sl j _ q
        cases s0 with
        | no => trivial
        | fn => exact FnR.mv z (wipe_get σ hj) (.refl _) fun c q e => e
        | dat d => obtain ⟨v, e1, e2⟩ := z; exact ⟨v, by rw [wipe_get σ hj]; exact e1, e2⟩
        | own ys b => obtain ⟨v, e1, e2⟩ := z; exact ⟨v, by rw [wipe_get σ hj]; exact e1, e2⟩
  sep := fun i j xs ys b c e1 e2 e3 => by
    have at_ : ∀ {j : Nat} {xs : List D} {b : Bool}, (wipeE ρ vs)[j]? = some (Sl.own xs b) → j ∉ vs ∧ ρ[j]? = some (Sl.own xs b) := fun {j xs b} e => by
      unfold wipeE at e
      rw [List.getElem?_mapIdx] at e
      cases q : ρ[j]? with
      | none => rw [q] at e; cases e
      | some s0 =>
        rw [q] at e
        simp only [Option.map_some, Option.some.injEq] at e
        by_cases hj : j ∈ vs
        · rw [if_pos (by simpa using hj)] at e; cases e
        · rw [if_neg (by simpa using hj)] at e; subst e; exact ⟨hj, rfl⟩
    obtain ⟨a1, a2⟩ := at_ e1
    obtain ⟨b1, b2⟩ := at_ e2
    rw [wipe_get σ a1, wipe_get σ b1] at e3
    exact r.sep i j xs ys b c a2 b2 e3
theorem Rp.back (r : Rp K T G ρ F σ H) (r' : Rp K T G ρ' F' (L2.wipe σ vs) H') (s : Same F F') (n : noOwn ρ vs = true) : Rp K T G (backE ρ ρ' vs) F' σ H' where
  len := by unfold backE; rw [List.length_mapIdx, r'.len, wipe_length]
  f0 := r'.f0
  same := r'.same
  fr := r'.fr
  th := r'.th
  nw := r'.nw
  tab := r'.tab
  tabF := r'.tabF
  sl := fun j s0 e => by
    unfold backE at e
    rw [List.getElem?_mapIdx] at e
    cases q : ρ'[j]? with
    | none => rw [q] at e; cases e
    | some s1 =>
      rw [q] at e
      simp only [Option.map_some, Option.some.injEq] at e
      by_cases hj : j ∈ vs
      · rw [if_pos (by simpa using hj)] at e
        subst e
        have hn := List.all_eq_true.mp n j hj
        cases q0 : ρ[j]? with
        | none => trivial
        | some s2 =>
          rw [q0] at hn
          have z := r.sl j _ q0
          cases s2 with
          | no => trivial
          | fn => exact absurd hn (by simp)
          | dat d => obtain ⟨v, e1, e2⟩ := z; exact ⟨v, e1, Dq_ext s e2⟩
          | own ys b => exact absurd hn (by simp)
      · rw [if_neg (by simpa using hj)] at e
        subst e
        have z := r'.sl j _ q
        cases s1 with
        | no => trivial
        | fn => exact FnR.mv z (by rw [wipe_get σ hj]) (.refl _) fun c q e => e
        | dat d => obtain ⟨v, e1, e2⟩ := z; exact ⟨v, by rw [wipe_get σ hj] at e1; exact e1, e2⟩
        | own ys b => obtain ⟨v, e1, e2⟩ := z; exact ⟨v, by rw [wipe_get σ hj] at e1; exact e1, e2⟩
  sep := fun i j xs ys b c e1 e2 e3 => by
    have at_ : ∀ {j : Nat} {xs : List D} {b : Bool}, (backE ρ ρ' vs)[j]? = some (Sl.own xs b) → j ∉ vs ∧ ρ'[j]? = some (Sl.own xs b) := fun {j xs b} e => by
      unfold backE at e
      rw [List.getElem?_mapIdx] at e
      cases q : ρ'[j]? with
      | none => rw [q] at e; cases e
      | some s0 =>
        rw [q] at e
        simp only [Option.map_some, Option.some.injEq] at e
        by_cases hj : j ∈ vs
        · rw [if_pos (by simpa using hj)] at e
          have hn := List.all_eq_true.mp n j hj
          cases q0 : ρ[j]? with
          | none => rw [q0] at e; cases e
          | some s2 =>
            rw [q0] at e hn
            simp only [Option.getD_some] at e
            subst e
            exact absurd hn (by simp)
        · rw [if_neg (by simpa using hj)] at e; subst e; exact ⟨hj, rfl⟩
    obtain ⟨a1, a2⟩ := at_ e1
    obtain ⟨b1, b2⟩ := at_ e2
    refine r'.sep i j xs ys b c a2 b2 ?_
    rw [wipe_get σ a1, wipe_get σ b1]
    exact e3
/-- the list that is no slot's is changed -/
theorem New.write (n : New K G ρ F σ H p xs) (r : Rp K T G ρ F σ H) {us : List V} (a : DqAll K F us ys) : Rp K T G ρ F σ (upd H p (.lst us)) ∧ New K G ρ F σ (upd H p (.lst us)) p ys := by
  obtain ⟨h1, h2, ws, h3, h4⟩ := n.at_
  have n0 : ∀ q u, F q = some u → q ≠ p := fun q u z => ne_of_none z h1
  refine ⟨⟨r.len, r.f0, fun q u z => by rw [upd_ne (n0 q u z)]; exact r.same _ _ z, fun q o e1 e2 e3 => ?_, fun q e1 e2 => ?_, r.nw, fun t ht => ?_, r.tabF, fun j s z => ?_, r.sep⟩, ⟨h1, h2, us, upd_same, a⟩, n.sep⟩
  · have hq : q ≠ p := fun z => e2 false (z ▸ h2)
    rw [upd_ne hq]
    exact r.fr q o e1 e2 e3
  · by_cases hq : q = p
    · subst hq; rw [upd_same] at e2; cases e2
    · rw [upd_ne hq] at e2; exact r.th q e1 e2
  · obtain ⟨ps, q1, q2, q3⟩ := r.tab t ht
    refine ⟨ps, by rw [upd_ne (ne_of q1 h3 (by intro z; cases z))]; exact q1, q2, fun pos cv hc => ?_⟩
    obtain ⟨c, q4, q5⟩ := q3 pos cv hc
    exact ⟨c, q4, by rw [upd_ne (ne_of q5 h3 (by intro z; unfold LamX.CodeO at z; cases z))]; exact q5⟩
  · have q := r.sl j s z
    cases s with
    | no => trivial
    | fn => exact FnR.mv q rfl (.refl _) fun c q e => by rw [upd_ne (code_ne e h3)]; exact e
    | dat d => exact q
    | own ys' b' =>
      obtain ⟨p2, q1, q2, q3, ws2, q4, q5⟩ := q
      refine ⟨p2, q1, q2, q3, ws2, ?_, q5⟩
      rw [upd_ne (fun z2 => ?_)]
      · exact q4
      · subst z2
        exact n.sep j ys' b' z q1
theorem New.wipe (n : New K G ρ F σ H p xs) (vs : List Nat) : New K G (wipeE ρ vs) F (L2.wipe σ vs) H p xs := by
  refine ⟨n.at_, fun i ys b e z => ?_⟩
  unfold wipeE at e
  rw [List.getElem?_mapIdx] at e
  cases q : ρ[i]? with
  | none => rw [q] at e; cases e
  | some s0 =>
    rw [q] at e
    simp only [Option.map_some, Option.some.injEq] at e
    by_cases hj : i ∈ vs
    · rw [if_pos (by simpa using hj)] at e; cases e
    · rw [if_neg (by simpa using hj)] at e
      subst e
      rw [wipe_get σ hj] at z
      exact n.sep i ys b q z
theorem New.back (n : New K G ρ' F σ' H p xs) {σ : L2.St} (e : σ' = L2.wipe σ vs) (hn : noOwn ρ vs = true) : New K G (backE ρ ρ' vs) F σ H p xs := by
  subst e
  refine ⟨n.at_, fun i ys b e z => ?_⟩
  unfold backE at e
  rw [List.getElem?_mapIdx] at e
  cases q : ρ'[i]? with
  | none => rw [q] at e; cases e
  | some s0 =>
    rw [q] at e
    simp only [Option.map_some, Option.some.injEq] at e
    by_cases hj : i ∈ vs
    · rw [if_pos (by simpa using hj)] at e
      have hn := List.all_eq_true.mp hn i hj
      cases q0 : ρ[i]? with
      | none => rw [q0] at e; cases e
      | some s2 =>
        rw [q0] at e hn
        simp only [Option.getD_some] at e
        subst e
        exact absurd hn (by simp)
    · rw [if_neg (by simpa using hj)] at e
      subst e
      refine n.sep i ys b q ?_
      rw [wipe_get σ hj]
      exact z
end

section
variable {K : PySem.W.Frag} {T : Tx} {mg : Str → Option Value} {W : WX} {vs : List Nat} {fi : Cm (List D)} {g : D → Cm Unit} {t : Cm Bool} {e : Cm D}
theorem bnd_ok {α β : Type} {m : Cm α} {k : α → Cm β} {ρ ρ' : En} {b : β} (h : bnd m k ρ = .ok b ρ') : ∃ a ρ1, m ρ = .ok a ρ1 ∧ k a ρ1 = .ok b ρ' := by
  unfold bnd at h
  cases e : m ρ with
  | ok a ρ1 => rw [e] at h; exact ⟨a, ρ1, rfl, h⟩
  | ex x ρ1 => rw [e] at h; cases h
  | no => rw [e] at h; cases h
/-- the reading of a comprehension, from its meaning -/
theorem lc_read {σ : L2.St} {H : Hp} {Q : VK} (h : tO K T mg W (lcM vs fi g t e) σ H Q) : tLc (tId K T mg W fi) (tGd K T mg W0 vs g) (tT K T mg W0 t) (tE K T mg W0 e) vs σ H Q := by
  obtain ⟨G, ρ, F, rp, h⟩ := h
  refine ⟨G, ρ, F, rp, h.bind.imp fun ds ρ1 F1 H1 s1 rp1 h1 J wk D hD => ?_⟩
  by_cases hc : (noOwn ρ1 vs && sizeOkL ds.length) = true
  · rw [if_pos hc] at h1
    obtain ⟨hn, hz⟩ := Bool.and_eq_true_iff.mp hc
    have hz : ds.length ≤ 16777216 := of_decide_eq_true hz
    cases hq : lcL vs g t e ds (wipeE ρ1 vs) with
    | no => rw [hq] at h1; exact (show False from h1).elim
    | ex x ρ2 => rw [hq] at h1; exact (show False from h1).elim
    | ok ys ρe =>
      rw [hq] at h1
      refine ⟨fun i m H => m = ds.length - i ∧ i ≤ ds.length ∧ ∃ ρ2 F2 acc ys', Same F1 F2 ∧ Rp K T G ρ2 F2 (L2.wipe σ vs) H ∧ New K G ρ2 F2 (L2.wipe σ vs) H D acc ∧ acc.length ≤ i ∧ lcL vs g t e (ds.drop i) ρ2 = .ok ys' ρe ∧ acc ++ ys' = ys,
        ⟨_, rfl, Nat.zero_le _, wipeE ρ1 vs, F1, [], ys, .refl _, (rp1.gr (rp1.grown hD)).wipe vs, (rp1.new hD .nil).wipe vs, Nat.zero_le _, hq, rfl⟩, ?_⟩
      rintro i m H2 ⟨rfl, hi, ρ2, F2, acc, ys', s2, rp2, n2, hacc, e2, ey⟩
      by_cases hlt : i < ds.length
      · have ed : ds.drop i = ds[i] :: ds.drop (i + 1) := List.drop_eq_getElem_cons hlt
        rw [ed] at e2
        refine .inr ⟨wk.go i F2 H2 s2 rp2.same hlt, fun H' => ∃ ρ2 F2 acc ys', Same F1 F2 ∧ Rp K T G ρ2 F2 (L2.wipe σ vs) H' ∧ New K G ρ2 F2 (L2.wipe σ vs) H' D acc ∧ acc.length ≤ i + 1 ∧ lcL vs g t e (ds.drop (i + 1)) ρ2 = .ok ys' ρe ∧ acc ++ ys' = ys,
          fun H' z => ⟨_, by omega, rfl, hlt, z⟩, fun x H3 hy => ?_⟩
        obtain ⟨F3, g3, d, ed2, hd⟩ := wk.yld i F2 H2 x H3 s2 rp2.same hlt hy
        have : d = ds[i] := by rw [List.getElem?_eq_getElem hlt] at ed2; exact (Option.some.inj ed2).symm
        subst this
        have rp3 := rp2.gr g3
        have n3 := n2.gr g3
        obtain ⟨_, ρ4, e4, e5⟩ := bnd_ok e2
        obtain ⟨b, ρ5, e6, e7⟩ := bnd_ok e5
        refine ⟨inner G ρ2 F3 (L2.wipe σ vs) H3, ρ2, F3, _, rp3.enter, hd, ?_⟩
        rw [e4]
        refine fun σ4 F4 H4 s4 rp4 w4 => ⟨w4.trans (wipe_idem σ vs), ?_⟩
        rw [wipe_idem] at w4
        refine ⟨_, ρ4, F4, rp4, ?_⟩
        rw [e6]
        refine fun F5 H5 s5 rp5 => ?_
        cases b with
        | false =>
          rw [if_neg Bool.false_ne_true] at e7 ⊢
          have rpo := (rp3.leave rp5).wipe vs
          have no := (n3.inner rp3 rp5).wipe vs
          rw [w4] at rpo no
          obtain ⟨_, ρ7, e8, e9⟩ := bnd_ok e7
          cases e8
          exact ⟨_, F5, acc, ys', s2.trans (g3.f.trans (s4.trans s5)), rpo, no, by omega, e9, ey⟩
        | true =>
          rw [if_pos rfl] at e7 ⊢
          obtain ⟨y, ρ6, e8, e9⟩ := bnd_ok e7
          refine ⟨_, ρ5, F5, rp5, ?_⟩
          rw [e8]
          refine fun F6 H6 s6 rp6 v hv => ?_
          have rpo := rp3.leave rp6
          have no := n3.inner rp3 rp6
          obtain ⟨_, _, us, hu, ha⟩ := no.at_
          obtain ⟨rpw, nw⟩ := no.write (us := us ++ [v]) (ys := acc ++ [y]) rpo (DqAll_append ha (.cons hv .nil))
          have hl := DqAll_len ha
          obtain ⟨_, ρ7, e10, e11⟩ := bnd_ok e9
          cases e10
          obtain ⟨ys2, ρ8, e12, e13⟩ := bnd_ok e11
          cases e13
          have rpo2 := rpw.wipe vs
          have no2 := nw.wipe vs
          rw [w4] at rpo2 no2
          refine ⟨us, hu, by rw [sizeLine_eq]; omega, _, F6, acc ++ [y], ys2, s2.trans (g3.f.trans (s4.trans (s5.trans s6))), rpo2, no2, by rw [List.length_append]; show acc.length + 1 ≤ i + 1; omega, e12, ?_⟩
          rw [List.append_assoc]
          exact ey
      · refine .inl ⟨wk.stop i F2 H2 s2 rp2.same (by omega), ?_⟩
        rw [List.drop_of_length_le (by omega)] at e2
        cases e2
        rw [List.append_nil] at ey
        subst ey
        exact h1 F2 H2 s2 (rp1.back rp2 s2 hn) D (n2.back rfl hn)
  · rw [if_neg hc] at h1
    exact (show False from h1).elim
end
section
variable {X : Cx} {T : Tx} {W : WX} {elt tg iter : Expr} {ifs : List Expr} {scope : Scope} {own : List (Str × Nat)} {pos spos py : Pos} {fi : Cm (List D)} {g : D → Cm Unit} {t : Cm Bool} {e : Cm D}
theorem dts_nil : PTs X [] (tT X.K T X.mg W (ret true)) := ⟨fun pins s σ H Q I ⟨G, ρ, F, rp, h⟩ => pts_nil.run pins s σ H Q I (h.ret rp (.refl _))⟩
theorem dts_one {c : Expr} {t : Cm Bool} (h : DT X T W c t) : PTs X [c] (tT X.K T X.mg W t) := pts_one h
theorem oe_lc (hc : X.calm = true) (hN : X.N.Nodup) (hi : DI X T W tg iter fi) (ok : BlkOk X.N X.env.scope scope own)
    (hg : ∀ (s : Shared) (H : Hp) (C : Addr) (cl : List (Str × Addr)) (fp : List Addr), DG (X.blk s H scope (compEnvC scope cl C X.env) fp) T W0 (own.map (·.2)) tg g) (ht : ∀ (s : Shared) (H : Hp) (C : Addr) (cl : List (Str × Addr)) (fp : List Addr), PTs (X.blk s H scope (compEnvC scope cl C X.env) fp) ifs (tT X.K T X.mg W0 t))
    (he : ∀ (s : Shared) (H : Hp) (C : Addr) (cl : List (Str × Addr)) (fp : List Addr), DE (X.blk s H scope (compEnvC scope cl C X.env) fp) T W0 elt e) (hs : ∀ x, foldedSetIterable iter X.env x = pure x := by intro _; rfl) :
    OE X T W (.ListComp elt [⟨tg, iter, ifs, 0⟩] scope pos) (lcM (own.map (·.2)) fi g t e) :=
  PE_imp (pe_lc hc hN hi ok hg ht he hs) fun σ H Q h => lc_read h
theorem ds_setLc {i : Nat} {y : Str} (hc : X.calm = true) (hN : X.N.Nodup) (hy : X.N[i]? = some y) (hyl : X.env.scope.names.lookup y = some .local)
    (hsw : swapsWith (.ListComp elt [⟨tg, iter, ifs, 0⟩] scope pos) (some (.Name y py)) spos.line X.env = pure true) (hi : DI X T W tg iter fi) (ok : BlkOk X.N X.env.scope scope own)
    (hg : ∀ (s : Shared) (H : Hp) (C : Addr) (cl : List (Str × Addr)) (fp : List Addr), DG (X.blk s H scope (compEnvC scope cl C X.env) fp) T W0 (own.map (·.2)) tg g) (ht : ∀ (s : Shared) (H : Hp) (C : Addr) (cl : List (Str × Addr)) (fp : List Addr), PTs (X.blk s H scope (compEnvC scope cl C X.env) fp) ifs (tT X.K T X.mg W0 t))
    (he : ∀ (s : Shared) (H : Hp) (C : Addr) (cl : List (Str × Addr)) (fp : List Addr), DE (X.blk s H scope (compEnvC scope cl C X.env) fp) T W0 elt e) (hs : ∀ x, foldedSetIterable iter X.env x = pure x := by intro _; rfl) :
    DS X T W (.Assign [.Name y py] (.ListComp elt [⟨tg, iter, ifs, 0⟩] scope pos) spos) (setM i (frz (lcM (own.map (·.2)) fi g t e))) :=
  PS_imp (ps_setLc hc hN hy hyl hsw hi ok hg ht he hs) fun σ H Dn ⟨G, ρ, F, rp, h⟩ => lc_read ⟨G, ρ, F, rp, (SRs.bind h).bind.imp fun xs ρ1 F1 H1 s1 rp1 h1 p n => by
    obtain ⟨F2, s2, rp2, hd⟩ := n.freeze rp1
    have h2 := h1.ret rp2 s2
    exact h2 _ F2 H1 (.refl _) (rp2.setD i hd)⟩
theorem ds_setLcO {i : Nat} {y : Str} (hc : X.calm = true) (hN : X.N.Nodup) (hy : X.N[i]? = some y) (hyl : X.env.scope.names.lookup y = some .local)
    (hsw : swapsWith (.ListComp elt [⟨tg, iter, ifs, 0⟩] scope pos) (some (.Name y py)) spos.line X.env = pure true) (hi : DI X T W tg iter fi) (ok : BlkOk X.N X.env.scope scope own)
    (hg : ∀ (s : Shared) (H : Hp) (C : Addr) (cl : List (Str × Addr)) (fp : List Addr), DG (X.blk s H scope (compEnvC scope cl C X.env) fp) T W0 (own.map (·.2)) tg g) (ht : ∀ (s : Shared) (H : Hp) (C : Addr) (cl : List (Str × Addr)) (fp : List Addr), PTs (X.blk s H scope (compEnvC scope cl C X.env) fp) ifs (tT X.K T X.mg W0 t))
    (he : ∀ (s : Shared) (H : Hp) (C : Addr) (cl : List (Str × Addr)) (fp : List Addr), DE (X.blk s H scope (compEnvC scope cl C X.env) fp) T W0 elt e) (hs : ∀ x, foldedSetIterable iter X.env x = pure x := by intro _; rfl) :
    DS X T W (.Assign [.Name y py] (.ListComp elt [⟨tg, iter, ifs, 0⟩] scope pos) spos) (setO i (lcM (own.map (·.2)) fi g t e)) :=
  PS_imp (ps_setLc hc hN hy hyl hsw hi ok hg ht he hs) fun σ H Dn ⟨G, ρ, F, rp, h⟩ => lc_read ⟨G, ρ, F, rp, (SRs.bind h).imp fun xs ρ1 F1 H1 s1 rp1 h1 p n => h1 _ F1 H1 (.refl _) (rp1.setO i n)⟩
end
end PL
end S_PLC

section S_PLF
namespace PL
open PySem PySem.Spec PyProof.Rows L2

/-! ### defs: their meaning, their promise -/
inductive Out where
  | ok (a : Vl) (bag : Option (List D))
  | ex (x : Xn) (bag : Option (List D))
  | no
/-- a def's meaning: the content of its first parameter where that is a list which it may change, the other arguments -/
abbrev Fm := Option (List D) → List D → Out
def argsS : Option (List D) → List D → List Sl
  | none, ds => ds.map .dat
  | some xs, ds => .own xs true :: ds.map .dat
def bag0 (ρ : En) (f : List D → Out) : Out := match ρ[0]? with
  | some (Sl.own xs true) => f xs
  | _ => .no
def finR : Option (List D) → R Fl → Out
  | none, .ok (.ret a) _ => .ok a none
  | none, .ok .nx _ => .ok (.dat .none) none
  | none, .ex x _ => .ex x none
  | some _, .ok (.ret a) ρ => bag0 ρ fun xs => .ok a (some xs)
  | some _, .ok .nx ρ => bag0 ρ fun xs => .ok (.dat .none) (some xs)
  | some _, .ex x ρ => bag0 ρ fun xs => .ex x (some xs)
  | _, _ => .no
def fnM (n : Nat) (b : Cm Fl) : Fm := fun bag ds => finR bag (b (argsS bag ds ++ List.replicate (n - (argsS bag ds).length) .no))

def BagR (K : PySem.W.Frag) (F H : Hp) (vb : List V) : Option (List D) → Prop
  | none => vb = []
  | some xs => ∃ p, vb = [.ref p] ∧ F p = none ∧ ∃ us, H p = some (.lst us) ∧ DqAll K F us xs
/-- what a call leaves -/
structure RetR (T : List (Addr × Str)) (vb : List V) (F H F' H' : Hp) : Prop where
  f : Same F F'
  s : Same F' H'
  fr : ∀ q o, H q = some o → V.ref q ∉ vb → (∀ ps, o ≠ .tbl ps) → H' q = some o
  th : ∀ q, H q ≠ none → H' q ≠ none
  nw : ∀ q, H q ≠ none → F q = none → F' q = none
  tab : LamX.Tabs T H'
def ValN (K : PySem.W.Frag) (H F' H' : Hp) (v : V) : Vl → Prop
  | .dat d => Dq K F' v d
  | .own xs => ∃ p, v = .ref p ∧ F' p = none ∧ H p = none ∧ ∃ us, H' p = some (.lst us) ∧ DqAll K F' us xs
def OutP (K : PySem.W.Frag) (mg : Str → Option Value) (T : List (Addr × Str)) (vb : List V) (F H : Hp) (Q : VK) (E : XK) : Out → Prop
  | .ok a bag' => ∀ v F' H', RetR T vb F H F' H' → BagR K F' H' vb bag' → ValN K H F' H' v a → Q v H'
  | .ex x bag' => ∀ cls d F' H', RetR T vb F H F' H' → BagR K F' H' vb bag' → XR K mg x cls d F' H' → E cls d H'
  | .no => False
def spM (K : PySem.W.Frag) (mg : Str → Option Value) (T : List (Addr × Str)) (n : Nat) (fm : Fm) : Sp := fun vs H Q E => vs.length = n ∧ ∃ F bag ds vb vd, vs = vb ++ vd ∧ BagR K F H vb bag ∧ DqAll K F vd ds ∧ Same F H ∧ LamX.Tabs T H ∧ (∀ t ∈ T, F t.1 = none) ∧ OutP K mg T vb F H Q E (fm bag ds)
structure FnG (P : Program) (w : World) (K : PySem.W.Frag) (mg : Str → Option Value) (base : Heap) (T : List (Addr × Str)) (k : Nat) (f : Addr) (fd : FuncData) (ps : List Str) (fm : Fm) : Prop where
  run : ∀ (A : Around) (outer : List Env) (s : Shared) (H : Hp) (args : Args) (us : List Value) (vs : List V) (Q : VK) (E : XK), Room k A → A.guards = some [] → Env0 P w K mg base A outer s H → BindsTo s fd args (ps.zip us) → Vals vs us → spM K mg T ps.length fm vs H Q E →
    codeAny (model P w) A (.call (.ref f) args) (CR (CX P w) outer P w H s Q E) s
theorem FnG.mono {P : Program} {w : World} {K : PySem.W.Frag} {mg : Str → Option Value} {base : Heap} {T : List (Addr × Str)} {j k : Nat} {f : Addr} {fd : FuncData} {ps : List Str} {fm : Fm} (F : FnG P w K mg base T j f fd ps fm) (h : j ≤ k) : FnG P w K mg base T k f fd ps fm :=
  ⟨fun A outer s H args us vs Q E hr => F.run A outer s H args us vs Q E (hr.mono h)⟩
/-- the ghost of a def's body -/
def bodyG (vb : List V) (F H : Hp) : Gh where
  H0 := H
  F0 := F
  M := fun p b => if b then V.ref p ∈ vb else H p = none
  fresh := fun p h => h

theorem args_len (bag : Option (List D)) (ds : List D) {K : PySem.W.Frag} {F H : Hp} {vb vd : List V} (hb : BagR K F H vb bag) (hd : DqAll K F vd ds) : (argsS bag ds).length = (vb ++ vd).length := by
  have hl := DqAll_len hd
  cases bag with
  | none =>
    have hb : vb = [] := hb
    subst hb
    show (ds.map Sl.dat).length = vd.length
    rw [List.length_map, hl]
  | some xs =>
    obtain ⟨p, rfl, _⟩ := hb
    show (ds.map Sl.dat).length + 1 = vd.length + 1
    rw [List.length_map, hl]
theorem start_get {N : List Str} {vs : List V} {i : Nat} {v : V} (h : vs[i]? = some v) : (L2.start N vs)[i]? = some (some v) := by
  unfold L2.start
  have hi : i < vs.length := (List.getElem?_eq_some_iff.mp h).1
  rw [List.getElem?_append_left (by simpa using hi), List.getElem?_map, h] <;> rfl
/-- the entry -/
theorem rp_start {K : PySem.W.Frag} {T : Tx} {F H : Hp} {vb vd : List V} {bag : Option (List D)} {ds : List D} {N : List Str} (hb : BagR K F H vb bag) (hd : DqAll K F vd ds) (s : Same F H) (t : LamX.Tabs T.tabs H) (tf : ∀ x ∈ T.tabs, F x.1 = none) (hn : (vb ++ vd).length ≤ N.length) :
    Rp K T (bodyG vb F H) (argsS bag ds ++ List.replicate (N.length - (argsS bag ds).length) .no) F (L2.start N (vb ++ vd)) H where
  len := by
    have := args_len bag ds hb hd
    unfold L2.start
    simp only [List.length_append, List.length_replicate, List.length_map] at *
    omega
  f0 := .refl _
  same := s
  fr := fun _ _ h _ _ => h
  th := fun _ h => h
  nw := fun _ _ h _ => h
  tab := t
  tabF := tf
  sl := fun i z e => by
    have hl := args_len bag ds hb hd
    by_cases hi : i < (argsS bag ds).length
    · rw [List.getElem?_append_left hi] at e
      have dat : ∀ (j : Nat) (ds' : List D) (vd' : List V), DqAll K F vd' ds' → (ds'.map Sl.dat)[j]? = some z → ∃ d v, z = .dat d ∧ vd'[j]? = some v ∧ Dq K F v d := fun j ds' vd' h e => by
        rw [List.getElem?_map] at e
        cases q : ds'[j]? with
        | none => rw [q] at e; cases e
        | some d =>
          rw [q] at e
          cases e
          obtain ⟨v, h1, h2⟩ := DqAll_at' h q
          exact ⟨d, v, rfl, h1, h2⟩
      cases bag with
      | none =>
        have hb : vb = [] := hb
        subst hb
        obtain ⟨d, v, rfl, h1, h2⟩ := dat i ds vd hd e
        exact ⟨v, start_get h1, h2⟩
      | some xs =>
        obtain ⟨p, rfl, hp, us, h1, h2⟩ := hb
        cases i with
        | zero =>
          cases e
          exact ⟨p, start_get rfl, hp, (by show (if true = true then V.ref p ∈ [V.ref p] else H p = none); simp), us, h1, h2⟩
        | succ i =>
          obtain ⟨d, v, rfl, h1, h2⟩ := dat i ds vd hd e
          exact ⟨v, start_get (i := i + 1) (by simpa using h1), h2⟩
    · rw [List.getElem?_append_right (by omega), List.getElem?_replicate] at e
      split at e
      · cases e; trivial
      · cases e
  sep := fun i j xs ys b c e1 e2 e3 => by
    have at_ : ∀ {i : Nat} {xs : List D} {b : Bool}, (argsS bag ds ++ List.replicate (N.length - (argsS bag ds).length) Sl.no)[i]? = some (Sl.own xs b) → i = 0 := fun {i xs b} e => by
      by_cases hi : i < (argsS bag ds).length
      · rw [List.getElem?_append_left hi] at e
        have dat : ∀ (j : Nat), (ds.map Sl.dat)[j]? ≠ some (Sl.own xs b) := fun j e => by
          rw [List.getElem?_map] at e
          cases q : ds[j]? with
          | none => rw [q] at e; cases e
          | some d => rw [q] at e; cases e
        cases bag with
        | none => exact absurd e (dat i)
        | some zs =>
          cases i with
          | zero => rfl
          | succ i => exact absurd e (dat i)
      · rw [List.getElem?_append_right (by omega), List.getElem?_replicate] at e
        split at e <;> cases e
    rw [at_ e1, at_ e2]
theorem retR_of {K : PySem.W.Frag} {T : Tx} {F H F' H' : Hp} {vb : List V} {ρ : En} {σ : L2.St} (r : Rp K T (bodyG vb F H) ρ F' σ H') : RetR T.tabs vb F H F' H' where
  f := r.f0
  s := r.same
  fr := fun q o h1 h2 h3 => r.fr q o h1 (fun b z => by
    cases b with
    | true => exact h2 z
    | false =>
      have z' : H q = none := z
      rw [z'] at h1; cases h1) h3
  th := r.th
  nw := fun q h1 h2 => r.nw q h1 h2 fun z => h1 z
  tab := r.tab
theorem bagR_of {K : PySem.W.Frag} {T : Tx} {F H F' H' : Hp} {p : Addr} {ρ : En} {σ : L2.St} {xs : List D} (r : Rp K T (bodyG [.ref p] F H) ρ F' σ H') (e : ρ[0]? = some (Sl.own xs true)) : BagR K F' H' [.ref p] (some xs) := by
  obtain ⟨p', e1, e2, e3, us, e4, e5⟩ := r.sl 0 _ e
  have e3 : V.ref p' ∈ [V.ref p] := e3
  have : p' = p := by simpa using e3
  subst this
  exact ⟨p', rfl, e2, us, e4, e5⟩
theorem valN_of {K : PySem.W.Frag} {F H F' H' : Hp} {vb : List V} {ρ : En} {σ : L2.St} {v : V} {a : Vl} (h : ValR K (bodyG vb F H) ρ F' σ H' v a) : ValN K H F' H' v a := by
  cases a with
  | dat d => exact h
  | own xs =>
    obtain ⟨p, e, ⟨h1, h2, us, h3, h4⟩, _⟩ := h
    exact ⟨p, e, h1, h2, us, h3, h4⟩
theorem outP_bag0 {K : PySem.W.Frag} {mg : Str → Option Value} {T : Tx} {vb : List V} {F H : Hp} {Q : VK} {E : XK} {ρ : En} {f : List D → Out} (h : OutP K mg T.tabs vb F H Q E (bag0 ρ f)) : ∃ xs, ρ[0]? = some (Sl.own xs true) ∧ OutP K mg T.tabs vb F H Q E (f xs) := by
  unfold bag0 at h
  split at h
  · rename_i xs e; exact ⟨xs, e, h⟩
  · exact (show False from h).elim
/-- the body's reading, from its meaning -/
theorem body_read {K : PySem.W.Frag} {mg : Str → Option Value} {T : Tx} {N : List Str} {n : Nat} {bm : Cm Fl} {vs : List V} {H : Hp} {Q : VK} {E : XK} (hn : n ≤ N.length) (h : spM K mg T.tabs n (fnM N.length bm) vs H Q E) :
    tS K T mg (fun cls d _ H => E cls d H) bm { nx := fun _ H' => Q .non H', rt := Q } (L2.start N vs) H := by
  obtain ⟨hl, F, bag, ds, vb, vd, rfl, hb, hd, s, t, tf, h⟩ := h
  have r0 := rp_start (N := N) hb hd s t tf (by omega)
  refine ⟨_, _, F, r0, ?_⟩
  unfold fnM at h
  cases q : bm (argsS bag ds ++ List.replicate (N.length - (argsS bag ds).length) .no) with
  | no => rw [q] at h; cases bag <;> exact (show False from h).elim
  | ex x ρ =>
    rw [q] at h
    intro σ F' H' cls d sf rp xr
    cases bag with
    | none =>
      have hb : vb = [] := hb
      subst hb
      exact h cls d F' H' (retR_of rp) rfl xr
    | some xs =>
      obtain ⟨p, rfl, _⟩ := hb
      obtain ⟨ys, q0, h⟩ := outP_bag0 (show OutP K mg T.tabs [.ref p] F H Q E (bag0 ρ fun xs => .ex x (some xs)) from h)
      exact h cls d F' H' (retR_of rp) (bagR_of rp q0) xr
  | ok a ρ =>
    rw [q] at h
    have fin : ∀ (a : Vl), OutP K mg T.tabs vb F H Q E (finR bag (.ok (.ret a) ρ)) → ∀ σ F' H' v, Same F F' → Rp K T (bodyG vb F H) ρ F' σ H' → ValR K (bodyG vb F H) ρ F' σ H' v a → Q v H' := fun a h σ F' H' v sf rp hv => by
      cases bag with
      | none =>
        have hb : vb = [] := hb
        subst hb
        exact h v F' H' (retR_of rp) rfl (valN_of hv)
      | some xs =>
        obtain ⟨p, rfl, _⟩ := hb
        obtain ⟨ys, q0, h⟩ := outP_bag0 (show OutP K mg T.tabs [.ref p] F H Q E (bag0 ρ fun xs => .ok a (some xs)) from h)
        exact h v F' H' (retR_of rp) (bagR_of rp q0) (valN_of hv)
    cases a with
    | ret a => exact fin a h
    | nx =>
      intro σ F' H' sf rp
      refine fin (.dat .none) ?_ σ F' H' .non sf rp .non
      cases bag with
      | none => exact h
      | some xs => exact h
    | bk => cases bag <;> exact (show False from h).elim
    | ct => cases bag <;> exact (show False from h).elim

/-- THE RULE: a def, by its body's meaning -/
theorem fn_okG {P : Program} {w : World} {K : PySem.W.Frag} {mg : Str → Option Value} {base : Heap} {T : List (Addr × Str)} {k : Nat} {f : Addr} {name qual : Str} {params : Arguments} {body : List Stmt} {scope : Scope} {dV kV doc pm cdv ct oc : Value} {an od : Option Addr}
    {osl : Array (Option Value)} {N ps : List Str} {bm : Cm Fl} (lk : K.lookup f = some ⟨oc, od, .func (PySem.W.fnOf name qual params body scope dV kV doc pm an cdv ct), osl⟩) (hcd : PySem.W.codeIn K cdv qual = true) (S : FnScope N ps scope)
    (hbody : ∀ (A : Around) (outer : List Env) (s : Shared) (H : Hp) (E : XK), Room k (A.deeper (envOfC qual scope s.heap.objs.size f cdv)) → (A.deeper (envOfC qual scope s.heap.objs.size f cdv)).guards = some [] →
      DSs (cxOf (CX P w) P w K mg base N qual scope f cdv A outer s H E) ⟨T, none⟩ (fun cls d _ H => E cls d H) body bm) :
    FnG P w K mg base T (k + 1) f (PySem.W.fnOf name qual params body scope dV kV doc pm an cdv ct) ps (fnM N.length bm) := by
  refine ⟨fun A outer s H args us vs Q E hr hgd e0 hb r hsp => ?_⟩
  have hl : vs.length = ps.length := hsp.1
  have hpl : ps.length ≤ N.length := by have := congrArg List.length S.pre; rw [List.length_take] at this; omega
  have KX : K.In s.heap := e0.mod.kin.keeps fun b o e => (e0.bs b o e).1
  have lim : s.heap.NoLimit := e0.mod.nolimit.keeps fun b o e => (e0.bs b o e).1
  have hkind : ∀ y ∈ ps.zip us, scope.names.lookup y.1 = some .local ∨ (scope.names.lookup y.1 = some .cell ∧ ((cellsFrom (s.heap.objs.size + 1) scope.names []).lookup y.1).isSome = true) := fun ⟨n, v⟩ hy => by
    rcases S.par n (List.of_mem_zip hy).1 with q | q
    · exact .inl q
    · exact .inr ⟨q, PySem.W.cellsFrom_some _ _ _ (.inl q)⟩
  refine codeAny_call_function hr.depth (KX _ _ lk) rfl S.co S.gen rfl (PySem.W.codeRec_of KX hcd) (hb _ _ _ _ ?_)
  refine wpAny_newFunctionEnv_cells S.kind hkind fun env he s1 x => ?_
  subst he
  refine ⟨lim.keeps x.toInCall.keep, codeAny_func ?_⟩
  have ht := hbody A outer s H E (hr.deeper _) hgd
  have I : Inv (cxOf (CX P w) P w K mg base N qual scope f cdv A outer s H E) [] (L2.start N vs) H s1 := inv_start S hr.hd e0 hl r x
  refine wpAny_mono (ht.run [] s1 (L2.start N vs) H _ I (body_read hpl hsp)) (fun fl s' hs => ?_) fun e s' hs => hs
  have fin : ∀ {σ' : L2.St} {H' : Hp} {v : V} {u : Value}, Inv (cxOf (CX P w) P w K mg base N qual scope f cdv A outer s H E) [] σ' H' s' → RelV v u → Q v H' → CE outer P w H s Q u s' :=
    fun {σ' H' v u} J rv q => ⟨v, H', J.os, J.bare, J.base, J.hok, rv, q⟩
  cases fl with
  | ret u =>
    obtain ⟨v, σ', H', J, rv, q⟩ := hs
    exact fin J rv q
  | next =>
    obtain ⟨σ', H', J, q⟩ := hs
    exact fin (v := V.non) (u := Value.none) J rfl q
  | brk =>
    obtain ⟨_, _, _, q⟩ := hs
    exact False.elim q
  | cont =>
    obtain ⟨_, _, _, q⟩ := hs
    exact False.elim q
theorem fun_okG {P : Program} {w : World} {K : PySem.W.Frag} {mg : Str → Option Value} {base : Heap} {T : List (Addr × Str)} {k : Nat} {x qual : Str} {st : Stmt} {f : Addr} {fd : FuncData} {N ps : List Str} {bm : Cm Fl} (F : Fun K x qual st f fd) (S : FnScope N ps (defScope st))
    (hbody : ∀ (cdv : Value) (A : Around) (outer : List Env) (s : Shared) (H : Hp) (E : XK), Room k (A.deeper (envOfC qual (defScope st) s.heap.objs.size f cdv)) → (A.deeper (envOfC qual (defScope st) s.heap.objs.size f cdv)).guards = some [] →
      DSs (cxOf (CX P w) P w K mg base N qual (defScope st) f cdv A outer s H E) ⟨T, none⟩ (fun cls d _ H => E cls d H) (defBody st) bm) : FnG P w K mg base T (k + 1) f fd ps (fnM N.length bm) := by
  obtain ⟨oc, od, kV, doc, pm, an, cdv, ct, osl, rfl, lk, hcd⟩ := F.ex
  exact fn_okG lk hcd S fun A outer s H E hr hg => hbody cdv A outer s H E hr hg
end PL
end S_PLF

section S_PLK
namespace PL
open PySem PySem.Spec PyProof.Rows L2

/-! ### calls -/
def outP (ρ : En) : Out → R Vl
  | .ok a _ => .ok a ρ
  | .ex x _ => .ex x ρ
  | .no => .no
def outB (i : Nat) (b : Bool) (ρ : En) : Out → R Vl
  | .ok a (some xs) => .ok a (ρ.set i (.own xs b))
  | .ex x (some xs) => .ex x (ρ.set i (.own xs b))
  | _ => .no
/-- a def called on data -/
def callP (n : Nat) (fm : Fm) (m : Cm (List D)) : Cm Vl := bnd m fun ds => if ds.length = n then fun ρ => outP ρ (fm none ds) else fun _ => .no
/-- a def called on the owned list of slot i and data -/
def isO (i : Nat) : Cm Unit := fun ρ => match ρ[i]? with
  | some (Sl.own _ _) => .ok () ρ
  | _ => .no
def callB (n : Nat) (fm : Fm) (i : Nat) (m : Cm (List D)) : Cm Vl := bnd (isO i) fun _ => bnd m fun ds => if ds.length + 1 = n then fun ρ => (match ρ[i]? with
  | some (Sl.own xs b) => outB i b ρ (fm (some xs) ds)
  | _ => .no) else fun _ => .no
/-- a def called on a new list alone -/
def callT (fm : Fm) (m : Cm (List D)) : Cm Vl := bnd m fun xs ρ => outP ρ (fm (some xs) [])

section
variable {K : PySem.W.Frag} {T : Tx} {mg : Str → Option Value} {W : WX} {G : Gh} {ρ : En} {F F' H H' : Hp} {σ : L2.St} {p : Addr}
theorem Rp.retP (r : Rp K T G ρ F σ H) (q : RetR T.tabs [] F H F' H') : Rp K T G ρ F' σ H' where
  len := r.len
  f0 := r.f0.trans q.f
  same := q.s
  fr := fun x o h1 h2 h3 => q.fr x o (r.fr x o h1 h2 h3) (by simp) h3
  th := fun x h => q.th x (r.th x h)
  nw := fun x h1 h2 h3 => q.nw x (r.th x h1) (r.nw x h1 h2 h3)
  tab := q.tab
  tabF := fun t ht => q.nw _ (by obtain ⟨ps, e, _⟩ := r.tab t ht; rw [e]; simp) (r.tabF t ht)
  sl := fun i s e => by
    have z := r.sl i s e
    cases s with
    | no => trivial
    | fn => exact FnR.mv z rfl q.f fun c _ e => q.fr c _ e (by simp) LamX.codeO_ne
    | dat d => obtain ⟨v, e1, e2⟩ := z; exact ⟨v, e1, Dq_ext q.f e2⟩
    | own xs b =>
      obtain ⟨p, e1, e2, e3, us, e4, e5⟩ := z
      exact ⟨p, e1, q.nw p (by rw [e4]; simp) e2, e3, us, q.fr p _ e4 (by simp) (fun ps z => by cases z), DqAll_ext q.f e5⟩
  sep := r.sep
theorem Rp.retB {i : Nat} {xs ys : List D} {b : Bool} (r : Rp K T G ρ F σ H) (e : ρ[i]? = some (Sl.own xs b)) (hp : σ[i]? = some (some (V.ref p))) (q : RetR T.tabs [.ref p] F H F' H') (br : BagR K F' H' [.ref p] (some ys)) : Rp K T G (ρ.set i (.own ys b)) F' σ H' := by
  obtain ⟨p', e1, e2, e3, ws, e4, e5⟩ := r.sl i _ e
  rw [hp] at e1
  cases e1
  obtain ⟨p2, eb, b1, us, b2, b3⟩ := br
  have : p2 = p := by
    have := List.head_eq_of_cons_eq eb
    cases this; rfl
  subst this
  have hl : i < ρ.length := (List.getElem?_eq_some_iff.mp e).1
  have own_of : ∀ {j : Nat} {xs' : List D} {b' : Bool}, (ρ.set i (.own ys b))[j]? = some (Sl.own xs' b') → ∃ xs2 b2, ρ[j]? = some (Sl.own xs2 b2) := fun {j xs' b'} q => by
    by_cases hj : i = j
    · subst hj; exact ⟨_, _, e⟩
    · rw [List.getElem?_set_ne hj] at q; exact ⟨_, _, q⟩
  refine ⟨by simpa using r.len, r.f0.trans q.f, q.s, fun x o h1 h2 h3 => q.fr x o (r.fr x o h1 h2 h3) (fun z => ?_) h3, fun x h => q.th x (r.th x h), fun x h1 h2 h3 => q.nw x (r.th x h1) (r.nw x h1 h2 h3), q.tab,
    fun t ht => q.nw _ (by obtain ⟨ps, e, _⟩ := r.tab t ht; rw [e]; simp) (r.tabF t ht), fun j s z => ?_, fun j k xs' zs b' c z1 z2 z3 => ?_⟩
  · have : x = p2 := by simpa using z
    subst this
    exact h2 b e3
  · by_cases hj : i = j
    · subst hj
      rw [List.getElem?_set_self hl] at z
      cases z
      exact ⟨p2, hp, b1, e3, us, b2, b3⟩
    · rw [List.getElem?_set_ne hj] at z
      have y := r.sl j s z
      cases s with
      | no => trivial
      | fn => exact FnR.mv y rfl q.f fun c _ e => q.fr c _ e (fun z => code_ne e e4 (by simpa using z)) LamX.codeO_ne
      | dat d => obtain ⟨v, y1, y2⟩ := y; exact ⟨v, y1, Dq_ext q.f y2⟩
      | own xs' b' =>
        obtain ⟨p3, y1, y2, y3, us', y4, y5⟩ := y
        refine ⟨p3, y1, q.nw p3 (by rw [y4]; simp) y2, y3, us', q.fr p3 _ y4 (fun z2 => ?_) (fun ps z => by cases z), DqAll_ext q.f y5⟩
        have : p3 = p2 := by simpa using z2
        subst this
        exact hj (r.sep i j _ _ _ _ e z (hp.trans y1.symm))
  · obtain ⟨x1, c1, y1⟩ := own_of z1
    obtain ⟨x2, c2, y2⟩ := own_of z2
    exact r.sep j k x1 x2 c1 c2 y1 y2 z3
/-- .. where the list is no slot's -/
theorem Rp.retT {xs : List D} (r : Rp K T G ρ F σ H) (n : New K G ρ F σ H p xs) (q : RetR T.tabs [.ref p] F H F' H') : Rp K T G ρ F' σ H' := by
  refine ⟨r.len, r.f0.trans q.f, q.s, fun x o h1 h2 h3 => q.fr x o (r.fr x o h1 h2 h3) (fun z => ?_) h3, fun x h => q.th x (r.th x h), fun x h1 h2 h3 => q.nw x (r.th x h1) (r.nw x h1 h2 h3), q.tab,
    fun t ht => q.nw _ (by obtain ⟨ps, e, _⟩ := r.tab t ht; rw [e]; simp) (r.tabF t ht), fun j s z => ?_, r.sep⟩
  · have : x = p := by simpa using z
    subst this
    exact h2 false n.at_.2.1
  · have y := r.sl j s z
    cases s with
    | no => trivial
    | fn => exact FnR.mv y rfl q.f fun c _ e => q.fr c _ e (fun z => by obtain ⟨_, _, us, e4, _⟩ := n.at_; exact code_ne e e4 (by simpa using z)) LamX.codeO_ne
    | dat d => obtain ⟨v, y1, y2⟩ := y; exact ⟨v, y1, Dq_ext q.f y2⟩
    | own xs' b' =>
      obtain ⟨p3, y1, y2, y3, us', y4, y5⟩ := y
      refine ⟨p3, y1, q.nw p3 (by rw [y4]; simp) y2, y3, us', q.fr p3 _ y4 (fun z2 => ?_) (fun ps z => by cases z), DqAll_ext q.f y5⟩
      have : p3 = p := by simpa using z2
      subst this
      exact n.sep j xs' b' z y1
theorem valR_of {v : V} {a : Vl} {ρ' : En} (r : Rp K T G ρ F σ H) (h : ValN K H F' H' v a) (hs : ∀ (i : Nat) (ys : List D) (b : Bool), ρ'[i]? = some (Sl.own ys b) → ∃ zs c, ρ[i]? = some (Sl.own zs c)) : ValR K G ρ' F' σ H' v a := by
  cases a with
  | dat d => exact h
  | own xs =>
    obtain ⟨p, e, h1, h2, h3⟩ := h
    refine ⟨p, e, ⟨h1, r.noH0 h2, h3⟩, fun i ys b z z1 => ?_⟩
    obtain ⟨zs, c, z2⟩ := hs i ys b z
    obtain ⟨p', y1, _, _, us, y2, _⟩ := r.sl i _ z2
    rw [z1] at y1
    cases y1
    rw [h2] at y2
    cases y2
theorem sp_P {n : Nat} {fm : Fm} {ds : List D} {vs : List V} {Q : VK} (r : Rp K T G ρ F σ H) (hd : DqAll K F vs ds)
    (h : Rs K T mg W G F σ ((if ds.length = n then fun ρ => outP ρ (fm none ds) else fun _ => .no : Cm Vl) ρ) fun a ρ' F' H' => ∀ v, ValR K G ρ' F' σ H' v a → Q v H') : spM K mg T.tabs n fm vs H Q (WE W σ) := by
  by_cases hn : ds.length = n
  · rw [if_pos hn] at h
    refine ⟨(DqAll_len hd).trans hn, F, none, ds, [], vs, rfl, rfl, hd, r.same, r.tab, r.tabF, ?_⟩
    cases q : fm none ds with
    | no => rw [q] at h; exact h
    | ok a b =>
      rw [q] at h
      exact fun v F' H' ret br hv => h F' H' ret.f (r.retP ret) v (valR_of r hv fun i ys b e => ⟨_, _, e⟩)
    | ex x b =>
      rw [q] at h
      exact fun cls d F' H' ret br xr => h F' H' cls d ret.f (r.retP ret) xr
  · rw [if_neg hn] at h
    exact (show False from h).elim
theorem sp_B {n i : Nat} {fm : Fm} {ds : List D} {vs : List V} {v0 : V} {Q : VK} (r : Rp K T G ρ F σ H) (hd : DqAll K F vs ds) (hv : σ[i]? = some (some v0))
    (h : Rs K T mg W G F σ ((if ds.length + 1 = n then fun ρ => (match ρ[i]? with
      | some (Sl.own xs b) => outB i b ρ (fm (some xs) ds)
      | _ => .no) else fun _ => .no : Cm Vl) ρ) fun a ρ' F' H' => ∀ v, ValR K G ρ' F' σ H' v a → Q v H') : spM K mg T.tabs n fm (v0 :: vs) H Q (WE W σ) := by
  by_cases hn : ds.length + 1 = n
  · rw [if_pos hn] at h
    cases q0 : ρ[i]? with
    | none => simp only [q0] at h; exact (show False from h).elim
    | some s =>
      simp only [q0] at h
      cases s with
      | no => exact (show False from h).elim
      | fn => exact (show False from h).elim
      | dat _ => exact (show False from h).elim
      | own xs b =>
        obtain ⟨p, e1, e2, e3, us, e4, e5⟩ := r.sl i _ q0
        rw [hv] at e1
        cases e1
        refine ⟨by rw [List.length_cons, DqAll_len hd]; exact hn, F, some xs, ds, [.ref p], vs, rfl, ⟨p, rfl, e2, us, e4, e5⟩, hd, r.same, r.tab, r.tabF, ?_⟩
        change Rs K T mg W G F σ (outB i b ρ (fm (some xs) ds)) _ at h
        have back : ∀ (zs : List D) (j : Nat) (ys : List D) (c : Bool), (ρ.set i (.own zs b))[j]? = some (Sl.own ys c) → ∃ ws c, ρ[j]? = some (Sl.own ws c) := fun zs j ys c e => by
          by_cases hj : i = j
          · subst hj; exact ⟨_, _, q0⟩
          · rw [List.getElem?_set_ne hj] at e; exact ⟨_, _, e⟩
        cases q : fm (some xs) ds with
        | no => rw [q] at h; exact h
        | ok a bb =>
          rw [q] at h
          cases bb with
          | none => exact (show False from h).elim
          | some zs => exact fun v F' H' ret br hv' => h F' H' ret.f (r.retB q0 hv ret br) v (valR_of r hv' (back zs))
        | ex x bb =>
          rw [q] at h
          cases bb with
          | none => exact (show False from h).elim
          | some zs => exact fun cls d F' H' ret br xr => h F' H' cls d ret.f (r.retB q0 hv ret br) xr
  · rw [if_neg hn] at h
    exact (show False from h).elim
theorem sp_T {fm : Fm} {xs : List D} {Q : VK} (r : Rp K T G ρ F σ H) (n : New K G ρ F σ H p xs)
    (h : Rs K T mg W G F σ (outP ρ (fm (some xs) [])) fun a ρ' F' H' => ∀ v, ValR K G ρ' F' σ H' v a → Q v H') : spM K mg T.tabs 1 fm [.ref p] H Q (WE W σ) := by
  obtain ⟨h1, h2, us, h3, h4⟩ := n.at_
  refine ⟨rfl, F, some xs, [], [.ref p], [], rfl, ⟨p, rfl, h1, us, h3, h4⟩, .nil, r.same, r.tab, r.tabF, ?_⟩
  cases q : fm (some xs) [] with
  | no => rw [q] at h; exact h
  | ok a b =>
    rw [q] at h
    exact fun v F' H' ret br hv => h F' H' ret.f (r.retT n ret) v (valR_of r hv fun i ys b e => ⟨_, _, e⟩)
  | ex x b =>
    rw [q] at h
    exact fun cls d F' H' ret br xr => h F' H' cls d ret.f (r.retT n ret) xr
end

section
variable {X : Cx} {T : Tx} {W : WX} {k : Nat} {f : Addr} {fd : FuncData} {ps ks : List Str} {fm : Fm} {x y : Str} {p py pos : Pos} {e : Expr} {es : List Expr} {fa fk : Cm (List D)} {dvs : List V} {ds : List Value} {dd : List D} {kws : List Keyword}
theorem run_fnG {pins : List (Addr × Obj)} {σ : L2.St} {H : Hp} {s : Shared} {Q : VK} {us us' : List Value} {kw : List (Str × Value)} {vs : List V} (Fn : FnG X.prog X.w X.K X.mg X.base T.tabs k f fd ps fm) (hr : Room k X.A) (hgd : X.A.guards = some []) (hb : BindsTo s fd ⟨us, kw⟩ (ps.zip us')) (tk : Takes X W)
    (I : L2.Inv X pins σ H s) (r : Vals vs us') (h : spM X.K X.mg T.tabs ps.length fm vs H Q (WE W σ)) : wpAny (model X.prog X.w) X.A (call (.ref f) us kw) (EP X pins σ Q) X.xe s := by
  refine wpAny_call (codeAny_mono (Fn.run X.A X.stack s H ⟨us, kw⟩ us' vs Q (WE W σ) hr hgd I.env0 hb r h) fun r s' hq => ?_)
  cases r with
  | error e => exact passAt tk σ pins H s e s' I hq
  | ok fl =>
    cases fl with
    | ret u => exact I.after hq
    | next => exact False.elim hq
    | brk => exact False.elim hq
    | cont => exact False.elim hq
/-- what a call of a def asks of its place -/
structure CallAt (X : Cx) (T : Tx) (W : WX) (x : Str) (k : Nat) (f : Addr) (fd : FuncData) (ps : List Str) (fm : Fm) : Prop where
  fn : FnG X.prog X.w X.K X.mg X.base T.tabs k f fd ps fm
  hr : Room k X.A
  hgd : X.A.guards = some []
  tk : Takes X W
  hm : X.mg x = some (.ref f)
  hk : PySem.W.keepIn X.K (.ref f) = true
theorem ve_call (C : CallAt X T W x k f fd ps fm) (hg : Gl X x) (hb : Binds X.K fd ps []) (ha : DA X T W (e :: es) fa) (hdb : (x == ("__debug__" : Str)) = false := by decide) (he : starEach (e :: es) X.env = (false, eval e X.env) :: starEach es X.env := by rfl) (hpl : (backTo pos (starEach es X.env)).any (·.1) = false := by rfl) :
    VE X T W (.Call (.Name x p) (e :: es) [] pos) (callP ps.length fm fa) := by
  refine ⟨fun pins s σ H Q I ⟨G, ρ, F, rp, h⟩ => ?_⟩
  refine wpAny_Call_Name_kw (ld_glob I hg C.hm ?_ hdb)
  refine PySem.W.callWith_K (h₀ := X.base) I.ok.mod.kin C.hk (thn (ha.run pos pins s σ H (fun vs H1 => spM X.K X.mg T.tabs ps.length fm vs H1 Q (WE W σ)) I ⟨G, ρ, F, rp, h.bind.imp fun ds ρ1 F1 H1 s1 rp1 h1 vs hv => sp_P rp1 hv h1⟩) fun us s1 ⟨vs, H1, I1, r, q⟩ => ⟨I1.kIn, ?_⟩) he hpl
  have hl : us.length = ps.length := by rw [← r.length]; exact q.1
  have b := hb s1 us I1.kIn (by rw [List.append_nil]; exact hl)
  rw [List.append_nil] at b
  exact run_fnG C.fn C.hr C.hgd b C.tk I1 r q
theorem ve_call0 (C : CallAt X T W x k f fd ps fm) (hg : Gl X x) (hb : Binds X.K fd ps []) (hdb : (x == ("__debug__" : Str)) = false := by decide) :
    VE X T W (.Call (.Name x p) [] [] pos) (callP ps.length fm argN) := by
  refine ⟨fun pins s σ H Q I ⟨G, ρ, F, rp, h⟩ => ?_⟩
  refine wpAny_Call_Name_kw (ld_glob I hg C.hm ?_ hdb)
  have q : spM X.K X.mg T.tabs ps.length fm [] H Q (WE W σ) := sp_P rp .nil h
  have b := hb s [] I.kIn (by simpa using q.1)
  exact PySem.W.callWith_K0 I.kIn C.hk (run_fnG (us := []) (us' := []) C.fn C.hr C.hgd b C.tk I .nil q)
/-- with defaults behind the written arguments -/
def callD (n : Nat) (fm : Fm) (dd : List D) (m : Cm (List D)) : Cm Vl := callP n fm (bnd m fun as => ret (as ++ dd))
theorem ve_callD (C : CallAt X T W x k f fd ps fm) (hg : Gl X x) (hb : Binds X.K fd ps ds) (hd : Vals dvs ds) (hdd : ∀ H, DqAll X.K H dvs dd) (ha : DA X T W (e :: es) fa) (hdb : (x == ("__debug__" : Str)) = false := by decide) (he : starEach (e :: es) X.env = (false, eval e X.env) :: starEach es X.env := by rfl) (hpl : (backTo pos (starEach es X.env)).any (·.1) = false := by rfl) :
    VE X T W (.Call (.Name x p) (e :: es) [] pos) (callD ps.length fm dd fa) := by
  refine ⟨fun pins s σ H Q I ⟨G, ρ, F, rp, h⟩ => ?_⟩
  refine wpAny_Call_Name_kw (ld_glob I hg C.hm ?_ hdb)
  refine PySem.W.callWith_K (h₀ := X.base) I.ok.mod.kin C.hk (thn (ha.run pos pins s σ H (fun vs H1 => spM X.K X.mg T.tabs ps.length fm (vs ++ dvs) H1 Q (WE W σ)) I ⟨G, ρ, F, rp, h.bind.bind.imp fun as ρ1 F1 H1 s1 rp1 h1 vs hv => sp_P rp1 (DqAll_append hv (hdd F1)) (h1.ret rp1 (.refl _))⟩) fun us s1 ⟨vs, H1, I1, r, q⟩ => ⟨I1.kIn, ?_⟩) he hpl
  have r2 := r.append hd
  have hl : (us ++ ds).length = ps.length := by rw [← r2.length]; exact q.1
  exact run_fnG C.fn C.hr C.hgd (hb s1 us I1.kIn hl) C.tk I1 r2 q
/-- on an owned list -/
theorem ve_callB {i : Nat} (C : CallAt X T W x k f fd ps fm) (hg : Gl X x) (hb : Binds X.K fd ps []) (hN : X.N[i]? = some y) (hv : Vis X.env.scope y) (ha : DA X T W es fa) (hd : (y == ("__debug__" : Str)) = false := by decide) (hcd : (y == ("__classdict__" : Str)) = false := by decide) (hdb : (x == ("__debug__" : Str)) = false := by decide)
    (he : starEach (.Name y py :: es) X.env = (false, eval (.Name y py) X.env) :: starEach es X.env := by rfl) (hpl : (backTo pos (starEach es X.env)).any (·.1) = false := by rfl) :
    VE X T W (.Call (.Name x p) (.Name y py :: es) [] pos) (callB ps.length fm i fa) := by
  refine ⟨fun pins s σ H Q I ⟨G, ρ, F, rp, h⟩ => ?_⟩
  refine wpAny_Call_Name_kw (ld_glob I hg C.hm ?_ hdb)
  have h1 := h.bind
  unfold isO at h1
  cases q0 : ρ[i]? with
  | none => rw [q0] at h1; exact (show False from h1).elim
  | some z =>
    rw [q0] at h1
    cases z with
    | no => exact (show False from h1).elim
    | fn => exact (show False from h1).elim
    | dat _ => exact (show False from h1).elim
    | own xs b =>
      obtain ⟨p0, hσ, _⟩ := rp.sl i _ q0
      have h2 := h1 F H (.refl _) rp
      refine PySem.W.callWith_K (h₀ := X.base) I.ok.mod.kin C.hk (thn ((pa_cons (pe_var (pos := py) hN hv hd hcd) ha he).run pos pins s σ H (fun vs H1 => spM X.K X.mg T.tabs ps.length fm vs H1 Q (WE W σ)) I ⟨_, hσ, G, ρ, F, rp, h2.bind.imp fun ds ρ1 F1 H1 s1 rp1 h1 vs hv => sp_B rp1 hv hσ h1⟩) fun us s1 ⟨vs, H1, I1, r, q⟩ => ⟨I1.kIn, ?_⟩) he hpl
      have hl : us.length = ps.length := by rw [← r.length]; exact q.1
      have b := hb s1 us I1.kIn (by rw [List.append_nil]; exact hl)
      rw [List.append_nil] at b
      exact run_fnG C.fn C.hr C.hgd b C.tk I1 r q
/-- on a new list alone -/
theorem ve_callT (C : CallAt X T W x k f fd ps fm) (hg : Gl X x) (hn : ps.length = 1) (hb : Binds X.K fd ps []) (ha : OE X T W e fa) (hdb : (x == ("__debug__" : Str)) = false := by decide) (he : starEach (e :: []) X.env = (false, eval e X.env) :: starEach [] X.env := by rfl) (hpl : (backTo pos (starEach [] X.env)).any (·.1) = false := by rfl) :
    VE X T W (.Call (.Name x p) [e] [] pos) (callT fm fa) := by
  refine ⟨fun pins s σ H Q I ⟨G, ρ, F, rp, h⟩ => ?_⟩
  refine wpAny_Call_Name_kw (ld_glob I hg C.hm ?_ hdb)
  refine PySem.W.callWith_K (h₀ := X.base) I.ok.mod.kin C.hk (thn ((pa_cons ha pa_nil he).run pos pins s σ H (fun vs H1 => spM X.K X.mg T.tabs ps.length fm vs H1 Q (WE W σ)) I ⟨G, ρ, F, rp, h.bind.imp fun ds ρ1 F1 H1 s1 rp1 h1 p n => by rw [hn]; exact sp_T rp1 n h1⟩) fun us s1 ⟨vs, H1, I1, r, q⟩ => ⟨I1.kIn, ?_⟩) he hpl
  have hl : us.length = ps.length := by rw [← r.length]; exact q.1
  have b := hb s1 us I1.kIn (by rw [List.append_nil]; exact hl)
  rw [List.append_nil] at b
  exact run_fnG C.fn C.hr C.hgd b C.tk I1 r q
end
end PL
end S_PLK

section S_PLO
namespace PL
open PySem PySem.Spec PyProof.Rows L2

/-! ### operators on data: what they give -/
def shp (d : D) : Bool := SeqAt.shaped d
def addD : D → D → Option D
  | .int i, .int j => some (.int (i + j))
  | .list a, .list b => if sizeOkL (a.length + b.length) then some (.list (a ++ b)) else none
  | .tuple a, .tuple b => if sizeOkL (a.length + b.length) then some (.tuple (a ++ b)) else none
  | .str a, .str b => if sizeOkL (a.length + b.length) then some (.str (a ++ b)) else none
  | _, _ => none
def subD : D → D → Option D
  | .int i, .int j => some (.int (i - j))
  | _, _ => none
def mulOk (i j : Int) : Bool := decide (i.natAbs.log2 + j.natAbs.log2 < 1000000)
def repD (xs : List D) (k : Int) : Option D := if decide (-(2 ^ 63) ≤ k) && decide (k < 2 ^ 63) && sizeOkL (xs.length * k.toNat) then some (.list (List.replicate k.toNat xs).flatten) else none
def mulD : D → D → Option D
  | .int i, .int j => if mulOk i j then some (.int (i * j)) else none
  | .list xs, .int k => repD xs k
  | _, _ => none
def fdivD : D → D → Option D
  | .int i, .int j => if decide (j ≠ 0) && decide (j.natAbs < 1073741824) then some (.int (i.fdiv j)) else if decide (0 < j) && decide (j.natAbs.log2 < 9000) then some (.int (i / j)) else none
  | _, _ => none
def modD : D → D → Option D
  | .int i, .int j => if decide (j ≠ 0) then some (.int (i.fmod j)) else none
  | _, _ => none
def powOk (i j : Int) : Bool := decide (0 ≤ j) && decide (j ≤ 1000000) && decide (i.natAbs < 18446744073709551616)
def powD : D → D → Option D
  | .int i, .int j => if powOk i j then some (.int (i ^ j.toNat)) else none
  | _, _ => none
def shlD : D → D → Option D
  | .int i, .int j => if powOk i j then some (.int (i * 2 ^ j.toNat)) else none
  | _, _ => none
def shrD : D → D → Option D
  | .int i, .int j => if decide (0 ≤ j) then some (.int (i / 2 ^ j.toNat)) else none
  | _, _ => none
def bandD : D → D → Option D
  | .int i, .int j => some (.int (Builtin.bitAnd i j))
  | _, _ => none
def borD : D → D → Option D
  | .int i, .int j => some (.int (Builtin.bitOr i j))
  | _, _ => none
def bxorD : D → D → Option D
  | .int i, .int j => some (.int (Builtin.bitXor i j))
  | _, _ => none
def eqD : D → D → Option D
  | .str a, .str b => some (.bool (a == b))
  | a, b => if shp a && shp b then some (.bool (PyData.eqv a b)) else none
def neD : D → D → Option D
  | .str a, .str b => some (.bool (!(a == b)))
  | a, b => if shp a && shp b then some (.bool (!PyData.eqv a b)) else none
def cmpOk (a b : D) : Bool := PySem.W.alike a b && (match a with | .none => false | _ => true) && decide (a.depth ≤ 64)
def ltD : D → D → Option D
  | .int i, .int j => some (.bool (decide (i < j)))
  | a, b => if cmpOk a b then some (.bool (PySem.W.dataLt a b)) else none
def leD : D → D → Option D
  | .int i, .int j => some (.bool (decide (i ≤ j)))
  | a, b => if cmpOk a b then some (.bool (!PySem.W.dataLt b a)) else none
def gtD : D → D → Option D
  | .int i, .int j => some (.bool (decide (j < i)))
  | a, b => if cmpOk a b then some (.bool (PySem.W.dataLt b a)) else none
def geD : D → D → Option D
  | .int i, .int j => some (.bool (decide (j ≤ i)))
  | a, b => if cmpOk a b then some (.bool (!PySem.W.dataLt a b)) else none
def memD (a : D) (ds : List D) : Bool := ds.any fun z => PyData.eqv z a
def inD : D → D → Option D
  | .str a, .str b => some (.bool (!(Builtin.Str.occurrences b a 0 b.length 1).isEmpty))
  | a, .list ds => if shp a && shp (.list ds) then some (.bool (memD a ds)) else none
  | a, .tuple ds => if shp a && shp (.tuple ds) then some (.bool (memD a ds)) else none
  | _, _ => none
def ninD : D → D → Option D
  | .str a, .str b => some (.bool (!(!(Builtin.Str.occurrences b a 0 b.length 1).isEmpty)))
  | a, .list ds => if shp a && shp (.list ds) then some (.bool (!memD a ds)) else none
  | a, .tuple ds => if shp a && shp (.tuple ds) then some (.bool (!memD a ds)) else none
  | _, _ => none
def isNonD : D → Bool
  | .none => true
  | _ => false
def isND : D → D → Option D
  | a, .none => some (.bool (isNonD a))
  | _, _ => none
def nisND : D → D → Option D
  | a, .none => some (.bool (!isNonD a))
  | _, _ => none
def negD : D → Option D
  | .int i => some (.int (-i))
  | _ => none

/-! ### rules by values that the layer has not -/
section
variable {X : Cx}
theorem lstR {pins : List (Addr × Obj)} {σ : L2.St} {H : Hp} {s : Shared} {l : Addr} {xs : List V} (I : L2.Inv X pins σ H s) (hH : Rd H l (.lst xs)) : xs.length ≤ sizeLine ∧ ∃ (its : List Value) (n : Nat), Vals xs its ∧ xs.length = its.length ∧ s.heap.get? l = some { cls := .type "list", data := .seq its.toArray n } := by
  obtain ⟨z, its, n, r, e⟩ := hH.ok I.hok
  exact ⟨z, its, n, r, r.length, e⟩
def rCatR : R2 := fun x y H Q => ∃ l b xs zs, x = .ref l ∧ y = .ref b ∧ Rd H l (.lst xs) ∧ Rd H b (.lst zs) ∧ xs.length + zs.length ≤ sizeLine ∧ ∀ p, H p = none → Q (.ref p) (upd H p (.lst (xs ++ zs)))
theorem op_catR : OpR X (binaryOp .Add) rCatR := by
  intro pins s σ H x y v u Q I rx ry h
  obtain ⟨l, b, xs, zs, rfl, rfl, hH, hB, hz, q⟩ := h
  cases rx
  cases ry
  obtain ⟨z, its, n, r, hl, e⟩ := lstR I hH
  obtain ⟨z2, its2, n2, r2, hl2, e2⟩ := lstR I hB
  refine PySem.P.add_list e e2 ?_ (by rw [List.size_toArray, List.size_toArray]; omega)
  have ea : its.toArray ++ its2.toArray = (its ++ its2).toArray := by simp
  rw [ea]
  exact ⟨.ref _, _, I.lnew (t' := s.toks) (r.append r2) (by rw [List.length_append]; omega), rfl, q _ I.fresh⟩
def rRepR : R2 := fun x y H Q => ∃ l k xs, x = .ref l ∧ y = .int k ∧ Rd H l (.lst xs) ∧ -(2 ^ 63) ≤ k ∧ k < 2 ^ 63 ∧ xs.length * k.toNat ≤ sizeLine ∧ ∀ p, H p = none → Q (.ref p) (upd H p (.lst (List.replicate k.toNat xs).flatten))
theorem op_repR : OpR X (binaryOp .Mult) rRepR := by
  intro pins s σ H x y v u Q I rx ry h
  obtain ⟨l, k, xs, rfl, rfl, hH, h1, h2, hz, q⟩ := h
  cases rx
  obtain ⟨t, rfl⟩ := ry
  obtain ⟨z, its, n, r, hl, e⟩ := lstR I hH
  have hlen : its.toArray.size * k.toNat ≤ sizeLine := by rw [List.size_toArray, ← hl]; exact hz
  have hcap : ¬ its.toArray.size * k.toNat > (2 ^ 63 - 1) / 8 := by
    have : (sizeLine : Nat) ≤ (2 ^ 63 - 1) / 8 := by decide
    omega
  have hfit : ¬ (!Builtin.List.listFitsIndex k) = true := by
    rw [fitsIndex_both h1 h2]
    exact Bool.false_ne_true
  have hlong : ¬ Builtin.List.listTooLong (its.toArray.size * k.toNat) = true := by
    rw [notLongL hlen]
    exact Bool.false_ne_true
  have hnew : List.foldl (fun x1 x2 => x1 ++ x2) #[] (List.replicate (if its.toArray.isEmpty = true then 0 else k.toNat) its.toArray) = (List.replicate k.toNat its).flatten.toArray := by
    have f0 : ∀ m : Nat, List.foldl (fun x1 x2 => x1 ++ x2) #[] (List.replicate m its.toArray) = (List.replicate m its).flatten.toArray := fun m => by
      have := foldl_rep its m []
      rw [List.nil_append] at this
      exact this
    rw [f0]
    cases its with
    | nil => simp
    | cons a r' => rw [if_neg (by simp)]
  refine wpAny_binaryOp_repeat_ref (T := "list") (U := "int") (by decide) ⟨_, e, rfl⟩ (fun s' => typeIs_int s' k t) noFill_list_mul F.fills_int_mul F.slot_int_rmul repeat_list F.slot_int_index.lookup
    (call_meets F.slot_int_rmul (typeIs_int s k t) F.entry_int_rmul (F.args_int_rmul_2 _ _) (int___rmul___int_list k t l its.toArray n)
      ⟨e, rfl, ⟨_, e, rfl⟩, call_meets F.slot_list_mul ⟨_, e, rfl⟩ F.entry_list_mul (F.args_list_mul_2 _ _) (AutoListH.list___mul___list_int_3 l its.toArray n k t hfit hcap hlong) ⟨e, ?_⟩⟩)
  rw [hnew]
  exact ⟨.ref _, _, I.lnew (t' := s.toks) (r.rep k.toNat) (by rw [PyProof.Rows.lm_len_rep_flat, Nat.mul_comm]; exact hz), rfl, q _ I.fresh⟩
/-- a comparison of two data -/
def rCmpD (K : PySem.W.Frag) (C : D → D → Bool) (g : D → D → Bool) : R2 := fun x y H Q => ∃ d e, Dp K H x d ∧ Dp K H y e ∧ C d e = true ∧ Q (.bl (g d e)) H
theorem cmpOk_ok {d e : D} (h : cmpOk d e = true) : PySem.W.alike d e = true ∧ d ≠ .none ∧ d.depth ≤ 64 := by
  unfold cmpOk at h
  rw [Bool.and_eq_true, Bool.and_eq_true] at h
  refine ⟨h.1.1, fun z => ?_, of_decide_eq_true h.2⟩
  rw [z] at h
  exact absurd h.1.2 Bool.false_ne_true
theorem op_cmpD {op : CmpOp} {g : D → D → Bool} (hu : X.A.units + 64 < cLine)
    (rule : ∀ {prog : Program} {w : World} {A : Around} {E : Value → Shared → Prop} {s : Shared} {a b : Value} {da db : D} {as bs : List Addr} {Q : Value → Shared → Prop}, Reads s.heap a da as → Reads s.heap b db bs → PySem.W.alike da db = true → da ≠ .none → A.units + min da.depth db.depth < cLine → Q (.bool (g da db)) s → wpAny (model prog w) A (compareOp op a b) Q E s) :
    OpR X (compareOp op) (rCmpD X.K cmpOk g) := by
  intro pins s σ H x y v u Q I rx ry h
  obtain ⟨d, e, hd, he, hc, q⟩ := h
  obtain ⟨as, r1⟩ := Dp.reads I d x v hd rx
  obtain ⟨bs, r2⟩ := Dp.reads I e y u he ry
  obtain ⟨h1, h2, h3⟩ := cmpOk_ok hc
  exact rule r1 r2 h1 h2 (by have : min d.depth e.depth ≤ d.depth := Nat.min_le_left _ _; omega) ⟨.bl _, H, I, rfl, q⟩
theorem op_ltDt (hu : X.A.units + 64 < cLine) : OpR X (compareOp .Lt) (rCmpD X.K cmpOk fun d e => PySem.W.dataLt d e) := op_cmpD hu PySem.W.lt_data
theorem op_gtDt (hu : X.A.units + 64 < cLine) : OpR X (compareOp .Gt) (rCmpD X.K cmpOk fun d e => PySem.W.dataLt e d) := op_cmpD hu PySem.W.gt_data
theorem op_leDt (hu : X.A.units + 64 < cLine) : OpR X (compareOp .LtE) (rCmpD X.K cmpOk fun d e => !PySem.W.dataLt e d) := op_cmpD hu PySem.W.le_data
theorem op_geDt (hu : X.A.units + 64 < cLine) : OpR X (compareOp .GtE) (rCmpD X.K cmpOk fun d e => !PySem.W.dataLt d e) := op_cmpD hu PySem.W.ge_data
theorem op_inTD (hu : X.A.units + 65 < cLine) : OpR X (compareOp .In) (fun x y H Q => ∃ d ds, Dp X.K H x d ∧ Dp X.K H y (.tuple ds) ∧ SeqAt.shaped d = true ∧ SeqAt.shaped (.tuple ds) = true ∧ Q (.bl (ds.any fun z => PyData.eqv z d)) H) := by
  intro pins s σ H x y v u Q I rx ry h
  obtain ⟨d, ds, hd, he, sd, se, q⟩ := h
  obtain ⟨as, r1⟩ := Dp.reads I d x v hd rx
  obtain ⟨bs, r2⟩ := Dp.reads I (.tuple ds) y u he ry
  have l2 : (PyData.tuple ds).canLay0 = true := SeqAt.canLay_of_shaped se
  exact SeqAt.in_tuple_reads r2 r1 (by simpa [PyData.canLay0] using l2) (SeqAt.canLay_of_shaped sd) (room_in_shaped sd hu) ⟨.bl _, H, I, rfl, q⟩
theorem op_ninTD (hu : X.A.units + 65 < cLine) : OpR X (compareOp .NotIn) (fun x y H Q => ∃ d ds, Dp X.K H x d ∧ Dp X.K H y (.tuple ds) ∧ SeqAt.shaped d = true ∧ SeqAt.shaped (.tuple ds) = true ∧ Q (.bl (!ds.any fun z => PyData.eqv z d)) H) := by
  intro pins s σ H x y v u Q I rx ry h
  obtain ⟨d, ds, hd, he, sd, se, q⟩ := h
  obtain ⟨as, r1⟩ := Dp.reads I d x v hd rx
  obtain ⟨bs, r2⟩ := Dp.reads I (.tuple ds) y u he ry
  have l2 : (PyData.tuple ds).canLay0 = true := SeqAt.canLay_of_shaped se
  exact SeqAt.notIn_tuple_reads r2 r1 (by simpa [PyData.canLay0] using l2) (SeqAt.canLay_of_shaped sd) (room_in_shaped sd hu) ⟨.bl _, H, I, rfl, q⟩
end

/-! ### readings from meanings -/
section
variable {K : PySem.W.Frag}
theorem opD_or1 {r r' : R2} {o : D → D → Option D} (h : OpD K r o) : OpD K (fun x y H Q => r x y H Q ∨ r' x y H Q) o := fun F H x y d e z Q s h1 h2 h3 h4 => .inl (h F H x y d e z Q s h1 h2 h3 h4)
theorem gr_self {F H : Hp} (s : Same F H) : Gr F H F H := .refl s
theorem od_add : OpD K (fun x y H Q => rI0 (fun i j => .int (i + j)) x y H Q ∨ rCatR x y H Q ∨ rCatA K x y H Q ∨ (∃ i j, x = .str i ∧ y = .str j ∧ i.length + j.length ≤ sizeLine ∧ Q (.str (i ++ j)) H)) addD := fun F H x y d e z Q s h1 h2 h3 h4 => by
  cases d with
  | int i =>
    cases e with
    | int j => obtain rfl := h1.int; obtain rfl := h2.int; cases h3; exact .inl ⟨i, j, rfl, rfl, h4 F H _ (.refl s) (.int _)⟩
    | _ => cases h3
  | list a =>
    cases e with
    | list b =>
      obtain ⟨la, us, rfl, r1, a1⟩ := h1.lst s
      · obtain ⟨lb, ws, rfl, r2, a2⟩ := h2.lst s
        · simp only [addD] at h3
          split at h3
          · rename_i hz
            cases h3
            refine .inr (.inl ⟨_, _, _, _, rfl, rfl, r1, r2, by rw [DqAll_len a1, DqAll_len a2]; exact sizeOkL_le hz, fun p hp => ?_⟩)
            have g := gr_laid s (o := .lst (us ++ ws)) hp
            exact h4 _ _ _ g (.lst (.of upd_same) (DqAll_ext g.f (DqAll_append a1 a2)))
          · cases h3
    | _ => cases h3
  | tuple a =>
    cases e with
    | tuple b =>
      obtain ⟨la, us, rfl, r1, a1⟩ := h1.tup s
      · obtain ⟨lb, ws, rfl, r2, a2⟩ := h2.tup s
        · simp only [addD] at h3
          split at h3
          · rename_i hz
            cases h3
            refine .inr (.inr (.inl ⟨_, _, _, _, rfl, rfl, r1, r2, by rw [DqAll_len a1, DqAll_len a2]; exact sizeOkL_le hz, fun e0 => ?_, fun _ e0 => ?_, fun _ _ p hp => ?_⟩))
            · subst e0; cases a1; exact h4 F H _ (.refl s) (h2.dq (fun _ z => by cases z))
            · subst e0; cases a2; exact h4 F H _ (.refl s) (by rw [List.append_nil]; exact h1.dq (fun _ z => by cases z))
            · have g := gr_laid s (o := .tup (us ++ ws)) hp
              exact h4 _ _ _ g (.tup (.of upd_same) (DqAll_ext g.f (DqAll_append a1 a2)))
          · cases h3
    | _ => cases h3
  | str a =>
    cases e with
    | str b =>
      obtain rfl := h1.str
      obtain rfl := h2.str
      simp only [addD] at h3
      split at h3
      · rename_i hz
        cases h3
        exact .inr (.inr (.inr ⟨a, b, rfl, rfl, sizeOkL_le hz, h4 F H _ (.refl s) (.str _)⟩))
      · cases h3
    | _ => cases h3
  | _ => cases h3
/-- ints alone -/
theorem od_int {C : Int → Int → Prop} {g : Int → Int → Int} {o : D → D → Option D} (ho : ∀ d e z, o d e = some z → ∃ i j, d = .int i ∧ e = .int j ∧ C i j ∧ z = .int (g i j)) : OpD K (rI C fun i j => .int (g i j)) o := fun F H x y d e z Q s h1 h2 h3 h4 => by
  obtain ⟨i, j, rfl, rfl, hc, rfl⟩ := ho d e z h3
  obtain rfl := h1.int
  obtain rfl := h2.int
  exact ⟨i, j, rfl, rfl, hc, h4 F H _ (.refl s) (.int _)⟩
theorem od_sub : OpD K (rI0 fun i j => .int (i - j)) subD := fun F H x y d e z Q s h1 h2 h3 h4 => by
  cases d <;> cases e <;> cases h3
  obtain rfl := h1.int
  obtain rfl := h2.int
  exact ⟨_, _, rfl, rfl, h4 F H _ (.refl s) (.int _)⟩
theorem od_band : OpD K (rI0 fun i j => .int (Builtin.bitAnd i j)) bandD := fun F H x y d e z Q s h1 h2 h3 h4 => by
  cases d <;> cases e <;> cases h3
  obtain rfl := h1.int
  obtain rfl := h2.int
  exact ⟨_, _, rfl, rfl, h4 F H _ (.refl s) (.int _)⟩
theorem od_bor : OpD K (rI0 fun i j => .int (Builtin.bitOr i j)) borD := fun F H x y d e z Q s h1 h2 h3 h4 => by
  cases d <;> cases e <;> cases h3
  obtain rfl := h1.int
  obtain rfl := h2.int
  exact ⟨_, _, rfl, rfl, h4 F H _ (.refl s) (.int _)⟩
theorem od_bxor : OpD K (rI0 fun i j => .int (Builtin.bitXor i j)) bxorD := fun F H x y d e z Q s h1 h2 h3 h4 => by
  cases d <;> cases e <;> cases h3
  obtain rfl := h1.int
  obtain rfl := h2.int
  exact ⟨_, _, rfl, rfl, h4 F H _ (.refl s) (.int _)⟩
theorem od_mul : OpD K (fun x y H Q => rI CMulW (fun i j => .int (i * j)) x y H Q ∨ rRepR x y H Q) mulD := fun F H x y d e z Q s h1 h2 h3 h4 => by
  cases d with
  | int i =>
    cases e with
    | int j =>
      obtain rfl := h1.int
      obtain rfl := h2.int
      simp only [mulD] at h3
      split at h3
      · rename_i hz
        cases h3
        exact .inl ⟨i, j, rfl, rfl, show i.natAbs.log2 + j.natAbs.log2 < 1000000 from of_decide_eq_true hz, h4 F H _ (.refl s) (.int _)⟩
      · cases h3
    | _ => cases h3
  | list a =>
    cases e with
    | int k =>
      obtain rfl := h2.int
      obtain ⟨la, us, rfl, r1, a1⟩ := h1.lst s
      · simp only [mulD, repD] at h3
        split at h3
        · rename_i hz
          cases h3
          rw [Bool.and_eq_true, Bool.and_eq_true] at hz
          refine .inr ⟨_, k, _, rfl, rfl, r1, of_decide_eq_true hz.1.1, of_decide_eq_true hz.1.2, by rw [DqAll_len a1]; exact sizeOkL_le hz.2, fun p hp => ?_⟩
          have g := gr_laid s (o := .lst (List.replicate k.toNat us).flatten) hp
          refine h4 _ _ _ g (.lst (.of upd_same) (DqAll_ext g.f ?_))
          generalize k.toNat = n
          induction n with
          | zero => exact .nil
          | succ n ih => rw [List.replicate_succ, List.replicate_succ, List.flatten_cons, List.flatten_cons]; exact DqAll_append a1 ih
        · cases h3
    | _ => cases h3
  | _ => cases h3
theorem od_fdiv : OpD K (fun x y H Q => rI CDivN (fun i j => .int (i.fdiv j)) x y H Q ∨ rI CDivW (fun i j => .int (i / j)) x y H Q) fdivD := fun F H x y d e z Q s h1 h2 h3 h4 => by
  cases d with
  | int i =>
    cases e with
    | int j =>
      obtain rfl := h1.int
      obtain rfl := h2.int
      simp only [fdivD] at h3
      split at h3
      · rename_i hz
        cases h3
        rw [Bool.and_eq_true] at hz
        exact .inl ⟨i, j, rfl, rfl, ⟨of_decide_eq_true hz.1, of_decide_eq_true hz.2⟩, h4 F H _ (.refl s) (.int _)⟩
      · split at h3
        · rename_i _ hz
          cases h3
          rw [Bool.and_eq_true] at hz
          exact .inr ⟨i, j, rfl, rfl, ⟨of_decide_eq_true hz.1, of_decide_eq_true hz.2⟩, h4 F H _ (.refl s) (.int _)⟩
        · cases h3
    | _ => cases h3
  | _ => cases h3
theorem od_mod : OpD K (rI (fun _ j => j ≠ 0) fun i j => .int (i.fmod j)) modD := od_int fun d e z h => by
  cases d <;> cases e <;> first | cases h | skip
  simp only [modD] at h
  split at h
  · rename_i hz; cases h; exact ⟨_, _, rfl, rfl, of_decide_eq_true hz, rfl⟩
  · cases h
theorem powOk_ok {i j : Int} (h : powOk i j = true) : CPow i j := by
  unfold powOk at h
  rw [Bool.and_eq_true, Bool.and_eq_true] at h
  exact ⟨of_decide_eq_true h.1.1, of_decide_eq_true h.1.2, of_decide_eq_true h.2⟩
theorem od_pow : OpD K (rI CPow fun i j => .int (i ^ j.toNat)) powD := od_int fun d e z h => by
  cases d <;> cases e <;> first | cases h | skip
  simp only [powD] at h
  split at h
  · rename_i hz; cases h; exact ⟨_, _, rfl, rfl, powOk_ok hz, rfl⟩
  · cases h
theorem od_shl : OpD K (rI CPow fun i j => .int (i * 2 ^ j.toNat)) shlD := od_int fun d e z h => by
  cases d <;> cases e <;> first | cases h | skip
  simp only [shlD] at h
  split at h
  · rename_i hz; cases h; exact ⟨_, _, rfl, rfl, powOk_ok hz, rfl⟩
  · cases h
theorem od_shr : OpD K (rI (fun _ j => 0 ≤ j) fun i j => .int (i / 2 ^ j.toNat)) shrD := od_int fun d e z h => by
  cases d <;> cases e <;> first | cases h | skip
  simp only [shrD] at h
  split at h
  · rename_i hz; cases h; exact ⟨_, _, rfl, rfl, of_decide_eq_true hz, rfl⟩
  · cases h
theorem od_eq : OpD K (fun x y H Q => rEq x y H Q ∨ rEqD K x y H Q) eqD := fun F H x y d e z Q s h1 h2 h3 h4 => by
  unfold eqD at h3
  split at h3
  · cases h3
    obtain rfl := h1.str
    obtain rfl := h2.str
    exact .inl ⟨rfl, by rw [dec_str]; exact h4 F H _ (.refl s) (.bl _)⟩
  · split at h3
    · rename_i hz
      cases h3
      rw [Bool.and_eq_true] at hz
      exact .inr ⟨_, _, h1.dp s, h2.dp s, hz.1, hz.2, h4 F H _ (.refl s) (.bl _)⟩
    · cases h3
theorem od_ne : OpD K (fun x y H Q => rNe x y H Q ∨ rNeD K x y H Q) neD := fun F H x y d e z Q s h1 h2 h3 h4 => by
  unfold neD at h3
  split at h3
  · cases h3
    obtain rfl := h1.str
    obtain rfl := h2.str
    exact .inl ⟨rfl, by rw [dec_str]; exact h4 F H _ (.refl s) (.bl _)⟩
  · split at h3
    · rename_i hz
      cases h3
      rw [Bool.and_eq_true] at hz
      exact .inr ⟨_, _, h1.dp s, h2.dp s, hz.1, hz.2, h4 F H _ (.refl s) (.bl _)⟩
    · cases h3
theorem od_cmp {g : Int → Int → Bool} {gd : D → D → Bool} {o : D → D → Option D} (hi : ∀ i j z, o (.int i) (.int j) = some z → z = .bool (g i j)) (hd : ∀ d e z, o d e = some z → (∃ i j, d = .int i ∧ e = .int j) ∨ (cmpOk d e = true ∧ z = .bool (gd d e))) :
    OpD K (fun x y H Q => rI0 (fun i j => .bl (g i j)) x y H Q ∨ rCmpD K cmpOk gd x y H Q) o := fun F H x y d e z Q s h1 h2 h3 h4 => by
  rcases hd d e z h3 with ⟨i, j, rfl, rfl⟩ | ⟨hc, rfl⟩
  · have := hi i j z h3
    subst this
    obtain rfl := h1.int
    obtain rfl := h2.int
    exact .inl ⟨i, j, rfl, rfl, h4 F H _ (.refl s) (.bl _)⟩
  · exact .inr ⟨d, e, h1.dp s, h2.dp s, hc, h4 F H _ (.refl s) (.bl _)⟩
theorem od_lt : OpD K (fun x y H Q => rI0 (fun i j => .bl (decide (i < j))) x y H Q ∨ rCmpD K cmpOk (fun d e => PySem.W.dataLt d e) x y H Q) ltD := od_cmp (fun i j z h => by cases h; rfl) fun d e z h => by
  unfold ltD at h
  split at h
  · exact .inl ⟨_, _, rfl, rfl⟩
  · split at h
    · rename_i hc; cases h; exact .inr ⟨hc, rfl⟩
    · cases h
theorem od_le : OpD K (fun x y H Q => rI0 (fun i j => .bl (decide (i ≤ j))) x y H Q ∨ rCmpD K cmpOk (fun d e => !PySem.W.dataLt e d) x y H Q) leD := od_cmp (fun i j z h => by cases h; rfl) fun d e z h => by
  unfold leD at h
  split at h
  · exact .inl ⟨_, _, rfl, rfl⟩
  · split at h
    · rename_i hc; cases h; exact .inr ⟨hc, rfl⟩
    · cases h
theorem od_gt : OpD K (fun x y H Q => rI0 (fun i j => .bl (decide (j < i))) x y H Q ∨ rCmpD K cmpOk (fun d e => PySem.W.dataLt e d) x y H Q) gtD := od_cmp (fun i j z h => by cases h; rfl) fun d e z h => by
  unfold gtD at h
  split at h
  · exact .inl ⟨_, _, rfl, rfl⟩
  · split at h
    · rename_i hc; cases h; exact .inr ⟨hc, rfl⟩
    · cases h
theorem od_ge : OpD K (fun x y H Q => rI0 (fun i j => .bl (decide (j ≤ i))) x y H Q ∨ rCmpD K cmpOk (fun d e => !PySem.W.dataLt d e) x y H Q) geD := od_cmp (fun i j z h => by cases h; rfl) fun d e z h => by
  unfold geD at h
  split at h
  · exact .inl ⟨_, _, rfl, rfl⟩
  · split at h
    · rename_i hc; cases h; exact .inr ⟨hc, rfl⟩
    · cases h
theorem od_in : OpD K (fun x y H Q => rInD K x y H Q ∨ (∃ d ds, Dp K H x d ∧ Dp K H y (.tuple ds) ∧ SeqAt.shaped d = true ∧ SeqAt.shaped (.tuple ds) = true ∧ Q (.bl (ds.any fun z => PyData.eqv z d)) H) ∨ (∃ i j, x = .str i ∧ y = .str j ∧ Q (.bl (!(Builtin.Str.occurrences j i 0 j.length 1).isEmpty)) H)) inD := fun F H x y d e z Q s h1 h2 h3 h4 => by
  unfold inD at h3
  split at h3
  · cases h3; obtain rfl := h1.str; obtain rfl := h2.str
    exact .inr (.inr ⟨_, _, rfl, rfl, h4 F H _ (.refl s) (.bl _)⟩)
  · split at h3
    · rename_i hz
      cases h3
      rw [Bool.and_eq_true] at hz
      exact .inl ⟨_, _, h1.dp s, h2.dp s, hz.1, hz.2, h4 F H _ (.refl s) (.bl _)⟩
    · cases h3
  · split at h3
    · rename_i hz
      cases h3
      rw [Bool.and_eq_true] at hz
      exact .inr (.inl ⟨_, _, h1.dp s, h2.dp s, hz.1, hz.2, h4 F H _ (.refl s) (.bl _)⟩)
    · cases h3
  · cases h3
theorem od_nin : OpD K (fun x y H Q => rNotInD K x y H Q ∨ (∃ d ds, Dp K H x d ∧ Dp K H y (.tuple ds) ∧ SeqAt.shaped d = true ∧ SeqAt.shaped (.tuple ds) = true ∧ Q (.bl (!ds.any fun z => PyData.eqv z d)) H) ∨ (∃ i j, x = .str i ∧ y = .str j ∧ Q (.bl (!(!(Builtin.Str.occurrences j i 0 j.length 1).isEmpty))) H)) ninD := fun F H x y d e z Q s h1 h2 h3 h4 => by
  unfold ninD at h3
  split at h3
  · cases h3; obtain rfl := h1.str; obtain rfl := h2.str
    exact .inr (.inr ⟨_, _, rfl, rfl, h4 F H _ (.refl s) (.bl _)⟩)
  · split at h3
    · rename_i hz
      cases h3
      rw [Bool.and_eq_true] at hz
      exact .inl ⟨_, _, h1.dp s, h2.dp s, hz.1, hz.2, h4 F H _ (.refl s) (.bl _)⟩
    · cases h3
  · split at h3
    · rename_i hz
      cases h3
      rw [Bool.and_eq_true] at hz
      exact .inr (.inl ⟨_, _, h1.dp s, h2.dp s, hz.1, hz.2, h4 F H _ (.refl s) (.bl _)⟩)
    · cases h3
  · cases h3
theorem od_isN : OpD K (fun x y H Q => y = .non ∧ Q (.bl (decide (x = .non))) H) isND := fun F H x y d e z Q s h1 h2 h3 h4 => by
  cases e <;> first | cases h3 | skip
  obtain rfl := h2.non
  refine ⟨rfl, ?_⟩
  have : decide (x = V.non) = isNonD d := by
    cases h1 with
    | dat h1 => cases h1 <;> rfl
    | top _ _ => rfl
  rw [this]
  exact h4 F H _ (.refl s) (.bl _)
theorem od_nisN : OpD K (fun x y H Q => y = .non ∧ Q (.bl (!decide (x = .non))) H) nisND := fun F H x y d e z Q s h1 h2 h3 h4 => by
  cases e <;> first | cases h3 | skip
  obtain rfl := h2.non
  refine ⟨rfl, ?_⟩
  have : (!decide (x = V.non)) = (!isNonD d) := by
    cases h1 with
    | dat h1 => cases h1 <;> rfl
    | top _ _ => rfl
  rw [this]
  exact h4 F H _ (.refl s) (.bl _)
theorem ud_neg : UnD K (rU fun i => .int (-i)) negD := fun F H x d z Q s h1 h3 h4 => by
  cases d <;> cases h3
  obtain rfl := h1.int
  exact ⟨_, rfl, h4 F H _ (.refl s) (.int _)⟩
end

/-! ### the rules -/
section
variable {X : Cx} {T : Tx} {W : WX} {e e1 e2 : Expr} {pos : Pos} {f g : Cm D} {k : Nat}
theorem de_add (ha : DE X T W e1 f) (hb : DE X T W e2 g) : DE X T W (.BinOp e1 .Add e2 pos) (o2 f g addD) := de_op (op_add.or (op_catR.or (op_catA.or op_add_str))) od_add ha hb
theorem de_sub (ha : DE X T W e1 f) (hb : DE X T W e2 g) : DE X T W (.BinOp e1 .Sub e2 pos) (o2 f g subD) := de_op op_sub od_sub ha hb
theorem de_mul (ha : DE X T W e1 f) (hb : DE X T W e2 g) : DE X T W (.BinOp e1 .Mult e2 pos) (o2 f g mulD) := de_op (op_mulW.or op_repR) od_mul ha hb
theorem de_fdiv (ha : DE X T W e1 f) (hb : DE X T W e2 g) : DE X T W (.BinOp e1 .FloorDiv e2 pos) (o2 f g fdivD) := de_op (op_fdivN.or op_fdivW) od_fdiv ha hb
theorem de_mod (ha : DE X T W e1 f) (hb : DE X T W e2 g) : DE X T W (.BinOp e1 .Mod e2 pos) (o2 f g modD) := de_op op_modN od_mod ha hb
theorem de_pow (ha : DE X T W e1 f) (hb : DE X T W e2 g) : DE X T W (.BinOp e1 .Pow e2 pos) (o2 f g powD) := de_op op_pow od_pow ha hb
theorem de_shl (ha : DE X T W e1 f) (hb : DE X T W e2 g) : DE X T W (.BinOp e1 .LShift e2 pos) (o2 f g shlD) := de_op op_shl od_shl ha hb
theorem de_shr (ha : DE X T W e1 f) (hb : DE X T W e2 g) : DE X T W (.BinOp e1 .RShift e2 pos) (o2 f g shrD) := de_op op_shr od_shr ha hb
theorem de_band (ha : DE X T W e1 f) (hb : DE X T W e2 g) : DE X T W (.BinOp e1 .BitAnd e2 pos) (o2 f g bandD) := de_op op_and od_band ha hb
theorem de_bor (ha : DE X T W e1 f) (hb : DE X T W e2 g) : DE X T W (.BinOp e1 .BitOr e2 pos) (o2 f g borD) := de_op op_or od_bor ha hb
theorem de_bxor (ha : DE X T W e1 f) (hb : DE X T W e2 g) : DE X T W (.BinOp e1 .BitXor e2 pos) (o2 f g bxorD) := de_op op_xor od_bxor ha hb
theorem de_neg (ha : DE X T W e1 f) : DE X T W (.UnaryOp .USub e1 pos) (o1 f negD) := de_un un_neg ud_neg ha
theorem de_eq (hr : Room k X.A) (ha : DE X T W e1 f) (hb : DE X T W e2 g) : DE X T W (.Compare e1 [.Eq] [e2] pos) (o2 f g eqD) := de_cmp (op_eq.or (op_eqD hr.units)) od_eq (nomark _) ha hb
theorem de_ne (hr : Room k X.A) (ha : DE X T W e1 f) (hb : DE X T W e2 g) : DE X T W (.Compare e1 [.NotEq] [e2] pos) (o2 f g neD) := de_cmp (op_ne.or (op_neD hr.units)) od_ne (nomark _) ha hb
theorem de_lt (hr : Room k X.A) (ha : DE X T W e1 f) (hb : DE X T W e2 g) : DE X T W (.Compare e1 [.Lt] [e2] pos) (o2 f g ltD) := de_cmp (op_lt.or (op_ltDt hr.units)) od_lt (nomark _) ha hb
theorem de_le (hr : Room k X.A) (ha : DE X T W e1 f) (hb : DE X T W e2 g) : DE X T W (.Compare e1 [.LtE] [e2] pos) (o2 f g leD) := de_cmp (op_le.or (op_leDt hr.units)) od_le (nomark _) ha hb
theorem de_gt (hr : Room k X.A) (ha : DE X T W e1 f) (hb : DE X T W e2 g) : DE X T W (.Compare e1 [.Gt] [e2] pos) (o2 f g gtD) := de_cmp (op_gt.or (op_gtDt hr.units)) od_gt (nomark _) ha hb
theorem de_ge (hr : Room k X.A) (ha : DE X T W e1 f) (hb : DE X T W e2 g) : DE X T W (.Compare e1 [.GtE] [e2] pos) (o2 f g geD) := de_cmp (op_ge.or (op_geDt hr.units)) od_ge (nomark _) ha hb
theorem room65 (hr : Room k X.A) : X.A.units + 65 < cLine := by have := hr.un; omega
theorem de_in (hr : Room k X.A) (hm : behindInMarks .In e2 = false) (ha : DE X T W e1 f) (hb : DE X T W e2 g) : DE X T W (.Compare e1 [.In] [e2] pos) (o2 f g inD) := de_cmp ((op_inD (room65 hr)).or ((op_inTD (room65 hr)).or op_in_str)) od_in hm ha hb
theorem de_nin (hr : Room k X.A) (hm : behindInMarks .NotIn e2 = false) (ha : DE X T W e1 f) (hb : DE X T W e2 g) : DE X T W (.Compare e1 [.NotIn] [e2] pos) (o2 f g ninD) := de_cmp ((op_notInD (room65 hr)).or ((op_ninTD (room65 hr)).or op_notin_str)) od_nin hm ha hb
theorem de_isN (ha : DE X T W e1 f) (hb : DE X T W e2 g) : DE X T W (.Compare e1 [.Is] [e2] pos) (o2 f g isND) := de_cmp op_isN od_isN (nomark _) ha hb
theorem de_nisN (ha : DE X T W e1 f) (hb : DE X T W e2 g) : DE X T W (.Compare e1 [.IsNot] [e2] pos) (o2 f g nisND) := de_cmp op_notN od_nisN (nomark _) ha hb
end
end PL
end S_PLO

section S_PLB
namespace PL
open PySem PySem.Spec PyProof.Rows L2

/-! ### sum of a tuple of ints -/
section
variable {prog : Program} {w : World} {A : Around} {E : Value → Shared → Prop} {s : Shared} {l : Addr}
theorem sum_tup_raw {its : List Value} {ns : List Int} {Q : Value → Shared → Prop} (hh : A.handled = none) (hl : s.heap.IsTuple l its.toArray) (hi : IntsAre its ns)
    (h : ∀ h' tk t', (∀ b o, s.heap.get? b = some o → h'.get? b = some o) → Q (.int ns.sum t') { s with heap := h', toks := tk }) : wpAny (model prog w) A (call (.builtin "sum") [.ref l]) Q E s := by
  obtain ⟨xs, e⟩ := hi.allInts.items
  have hn : numsOf (intItems xs).toList = ns := by rw [← e]; exact hi.numsOf
  rw [nums_intItems] at hn
  rw [e] at hl
  have hlt : l < s.heap.objs.size := by obtain ⟨_, e, _⟩ := hl; exact Heap.lt_size e
  refine call_sum_walkG (wpAny_pyIter_tuple hl ?_)
  refine ⟨_, [_, l], [_], _, _, _, numAt xs, rfl, Walks.tuple (A := A.in1) hh _ l (Nat.ne_of_lt hlt) (intItems xs), ⟨⟨_, Heap.get?_push_size _ rfl, rfl, rfl⟩, hl.push _⟩, fun b hb => ?_, (fun _ _ => intItems_at), fun h' tk t' hk => ?_⟩
  · show b < (s.heap.push _).objs.size
    rw [Heap.size_push]
    rcases List.mem_cons.mp hb with rfl | hb
    · exact Nat.lt_succ_self _
    · rcases List.mem_cons.mp hb with rfl | hb
      · exact Nat.lt_succ_of_lt hlt
      · cases hb
  · have := h h' tk t' fun b o e => by
      refine hk b o (fun hm => ?_) (Heap.get?_push_of_some _ e)
      rcases List.mem_cons.mp hm with e1 | hm
      · exact absurd (e1 ▸ Heap.lt_size e) (Nat.lt_irrefl _)
      · cases hm
    have e2 : preSum (numAt xs) (intItems xs).size = ns.sum := by
      rw [preSum_eq, List.take_of_length_le (by simp [intItems]), hn]
    rw [e2]
    exact this
end
def rSumT (K : PySem.W.Frag) : List V → Hp → VK → Prop := fun vs H Q => ∃ (a : Addr) (ns : List Int), vs = [V.ref a] ∧ SqT K H a (ns.map V.int) ∧ Q (.int ns.sum) H
theorem cr_sumT {X : Cx} (hc : X.calm = true) : CallR X (.builtin "sum") (rSumT X.K) := by
  intro pins s σ H vs us Q I r h
  obtain ⟨a, ns, rfl, hs, q⟩ := h
  obtain ⟨its, rv, hl, _⟩ := I.tuple hs
  rw [Vals.ref1 r]
  exact sum_tup_raw (I.ok.hd hc) hl rv.ints fun h' tk t' hk => ⟨.int _, H, I.kept hk, ⟨_, rfl⟩, q⟩
/-! ### own slots in operators -/
section
variable {X : Cx} {T : Tx} {W : WX} {e e1 e2 : Expr} {es : List Expr} {pos py : Pos} {f g : Cm D} {fa : Cm (List D)} {i : Nat} {y : Str}
/-- what a name that is seen gives: the slot's value -/
theorem var_read {σ : L2.St} {H : Hp} {Q : VK} {v : V} (h : σ[i]? = some (some v)) (q : Q v H) : ∃ v, σ[i]? = some (some v) ∧ Q v H := ⟨v, h, q⟩
theorem own_at {K : PySem.W.Frag} {mg : Str → Option Value} {G : Gh} {F H : Hp} {ρ : En} {σ : L2.St} {i : Nat} {β : Type} {k : D → Cm β} {p : β → En → Hp → Hp → Prop} (rp : Rp K T G ρ F σ H) (h : Rs K T mg W G F σ (bnd (rdO i) k ρ) p) :
    ∃ v d, σ[i]? = some (some v) ∧ Dv K F H v d ∧ Rs K T mg W G F σ (k d ρ) p := by
  unfold bnd rdO at h
  cases q : ρ[i]? with
  | none => rw [q] at h; exact (show False from h).elim
  | some s =>
    rw [q] at h
    cases s with
    | no => exact (show False from h).elim
    | fn => exact (show False from h).elim
    | dat d =>
      obtain ⟨w, e1, e2⟩ := rp.sl i _ q
      exact ⟨w, d, e1, .dat e2, h⟩
    | own xs b =>
      obtain ⟨p, e1, e2, e3, us, e4, e5⟩ := rp.sl i _ q
      exact ⟨.ref p, .list xs, e1, .top (.of e4) e5, h⟩
/-- the slot is bound at all -/
def isOs (i : Nat) : Cm Unit := fun ρ => match ρ[i]? with
  | some (.own _ _) => .ok () ρ
  | _ => .no
theorem isOs_at {K : PySem.W.Frag} {mg : Str → Option Value} {G : Gh} {F H : Hp} {ρ : En} {σ : L2.St} {i : Nat} {β : Type} {k : Cm β} {p : β → En → Hp → Hp → Prop} (rp : Rp K T G ρ F σ H) (h : Rs K T mg W G F σ (bnd (isOs i) (fun _ => k) ρ) p) :
    ∃ v, σ[i]? = some (some v) ∧ Rs K T mg W G F σ (k ρ) p := by
  unfold bnd isOs at h
  cases q : ρ[i]? with
  | none => rw [q] at h; exact (show False from h).elim
  | some s =>
    rw [q] at h
    cases s with
    | no => exact (show False from h).elim
    | fn => exact (show False from h).elim
    | dat d => exact (show False from h).elim
    | own xs b =>
      obtain ⟨p, e1, _⟩ := rp.sl i _ q
      exact ⟨.ref p, e1, h⟩
/-- .. or holds data -/
def isVs (i : Nat) : Cm Unit := fun ρ => match ρ[i]? with
  | some (.own _ _) => .ok () ρ
  | some (.dat _) => .ok () ρ
  | _ => .no
theorem isVs_at {K : PySem.W.Frag} {mg : Str → Option Value} {G : Gh} {F H : Hp} {ρ : En} {σ : L2.St} {i : Nat} {β : Type} {k : Cm β} {p : β → En → Hp → Hp → Prop} (rp : Rp K T G ρ F σ H) (h : Rs K T mg W G F σ (bnd (isVs i) (fun _ => k) ρ) p) :
    ∃ v, σ[i]? = some (some v) ∧ Rs K T mg W G F σ (k ρ) p := by
  unfold bnd isVs at h
  cases q : ρ[i]? with
  | none => rw [q] at h; exact (show False from h).elim
  | some s =>
    rw [q] at h
    cases s with
    | no => exact (show False from h).elim
    | fn => exact (show False from h).elim
    | dat d =>
      obtain ⟨w, e1, _⟩ := rp.sl i _ q
      exact ⟨w, e1, h⟩
    | own xs b =>
      obtain ⟨p, e1, _⟩ := rp.sl i _ q
      exact ⟨.ref p, e1, h⟩
def oL (i : Nat) (g : Cm D) (o : D → D → Option D) : Cm D := bnd (isVs i) fun _ => o2L i g o
theorem de_opL {op : Operator} {r : R2} {o : D → D → Option D} (ho : OpR X (binaryOp op) r) (hd : OpD X.K r o) (hN : X.N[i]? = some y) (hv : Vis X.env.scope y) (hb : DE X T W e2 g) (hdd : (y == ("__debug__" : Str)) = false := by decide) (hcd : (y == ("__classdict__" : Str)) = false := by decide) :
    DE X T W (.BinOp (.Name y py) op e2 pos) (oL i g o) :=
  PE_imp (pe_op ho (pe_var hN hv hdd hcd) hb) fun σ H Q ⟨G, ρ, F, rp, h⟩ => by
    obtain ⟨v, hv, h⟩ := isVs_at rp h
    exact ⟨v, hv, G, ρ, F, rp, h.bind.imp fun b ρ2 F2 H2 s2 rp2 h2 y hy => by
      obtain ⟨d, hd2, h3⟩ := rdO_ok rp2 hv h2
      obtain ⟨z, e, h4⟩ := h3.lift
      exact hd F2 H2 v y d b z Q rp2.same hd2 (.dat hy) e fun F' H' v g hv => h4.ret (rp2.gr g) g.f v hv⟩
theorem de_cmpL {op : CmpOp} {r : R2} {o : D → D → Option D} (ho : OpR X (compareOp op) r) (hd : OpD X.K r o) (hm : behindInMarks op e2 = false) (hN : X.N[i]? = some y) (hv : Vis X.env.scope y) (hb : DE X T W e2 g) (hdd : (y == ("__debug__" : Str)) = false := by decide) (hcd : (y == ("__classdict__" : Str)) = false := by decide) :
    DE X T W (.Compare (.Name y py) [op] [e2] pos) (oL i g o) :=
  PE_imp (pe_cmpR ho (pe_var hN hv hdd hcd) hb hm) fun σ H Q ⟨G, ρ, F, rp, h⟩ => by
    obtain ⟨v, hv, h⟩ := isVs_at rp h
    exact ⟨v, hv, G, ρ, F, rp, h.bind.imp fun b ρ2 F2 H2 s2 rp2 h2 y hy => by
      obtain ⟨d, hd2, h3⟩ := rdO_ok rp2 hv h2
      obtain ⟨z, e, h4⟩ := h3.lift
      exact hd F2 H2 v y d b z Q rp2.same hd2 (.dat hy) e fun F' H' v g hv => h4.ret (rp2.gr g) g.f v hv⟩
theorem dt_cmpL {op : CmpOp} {r : R2} {o : D → D → Option D} (ho : OpR X (compareOp op) r) (hd : OpD X.K r o) (hm : behindInMarks op e2 = false) (hN : X.N[i]? = some y) (hv : Vis X.env.scope y) (hb : DE X T W e2 g) (hdd : (y == ("__debug__" : Str)) = false := by decide) (hcd : (y == ("__classdict__" : Str)) = false := by decide) :
    DT X T W (.Compare (.Name y py) [op] [e2] pos) (tru (oL i g o)) :=
  PT_imp (pt_cmpR ho (pe_var hN hv hdd hcd) hb hm) fun σ H Q ⟨G, ρ, F, rp, h⟩ => by
    obtain ⟨v, hv, h⟩ := isVs_at rp h.bind
    exact ⟨v, hv, G, ρ, F, rp, h.bind.imp fun b ρ2 F2 H2 s2 rp2 h2 y hy => by
      obtain ⟨d, hd2, h3⟩ := rdO_ok rp2 hv h2
      obtain ⟨z, e, h4⟩ := h3.lift
      refine hd F2 H2 v y d b z _ rp2.same hd2 (.dat hy) e fun F' H' v g hv => ?_
      have h5 := h4.ret (rp2.gr g) g.f
      cases z with
      | bool b => cases hv; exact ⟨b, rfl, h5.ret (rp2.gr g) (.refl _)⟩
      | _ => exact h5.elim⟩
theorem de_cmpRo {op : CmpOp} {r : R2} {o : D → D → Option D} (ho : OpR X (compareOp op) r) (hd : OpD X.K r o) (ha : DE X T W e1 f) (hm : behindInMarks op (.Name y py) = false) (hN : X.N[i]? = some y) (hv : Vis X.env.scope y) (hdd : (y == ("__debug__" : Str)) = false := by decide) (hcd : (y == ("__classdict__" : Str)) = false := by decide) :
    DE X T W (.Compare e1 [op] [.Name y py] pos) (o2R f i o) :=
  PE_imp (pe_cmpR ho ha (pe_var hN hv hdd hcd) hm) fun σ H Q ⟨G, ρ, F, rp, h⟩ => ⟨G, ρ, F, rp, h.bind.imp fun a ρ1 F1 H1 s1 rp1 h1 x hx => by
    obtain ⟨v, d, hσ, hd2, h3⟩ := own_at rp1 h1
    obtain ⟨z, e, h4⟩ := h3.lift
    exact ⟨v, hσ, hd F1 H1 x v a d z Q rp1.same (.dat hx) hd2 e fun F' H' v g hv => h4.ret (rp1.gr g) g.f v hv⟩⟩
theorem dt_cmpRo {op : CmpOp} {r : R2} {o : D → D → Option D} (ho : OpR X (compareOp op) r) (hd : OpD X.K r o) (ha : DE X T W e1 f) (hm : behindInMarks op (.Name y py) = false) (hN : X.N[i]? = some y) (hv : Vis X.env.scope y) (hdd : (y == ("__debug__" : Str)) = false := by decide) (hcd : (y == ("__classdict__" : Str)) = false := by decide) :
    DT X T W (.Compare e1 [op] [.Name y py] pos) (tru (o2R f i o)) :=
  PT_imp (pt_cmpR ho ha (pe_var hN hv hdd hcd) hm) fun σ H Q ⟨G, ρ, F, rp, h⟩ => ⟨G, ρ, F, rp, h.bind.bind.imp fun a ρ1 F1 H1 s1 rp1 h1 x hx => by
    obtain ⟨v, d, hσ, hd2, h3⟩ := own_at rp1 h1
    obtain ⟨z, e, h4⟩ := h3.lift
    refine ⟨v, hσ, hd F1 H1 x v a d z _ rp1.same (.dat hx) hd2 e fun F' H' v g hv => ?_⟩
    have h5 := h4.ret (rp1.gr g) g.f
    cases z with
    | bool b => cases hv; exact ⟨b, rfl, h5.ret (rp1.gr g) (.refl _)⟩
    | _ => exact h5.elim⟩

/-! ### chains of two comparisons -/
def chM (f g h : Cm D) (o o' : D → D → Option D) : Cm D := bnd f fun a => bnd g fun b => bnd (lift (o a b)) fun
  | .bool true => bnd h fun c => lift (o' b c)
  | .bool false => ret (.bool false)
  | _ => fun _ => .no
theorem de_chain {op op' : CmpOp} {r r' : R2} {o o' : D → D → Option D} {e3 : Expr} {h : Cm D} (ho : OpR X (compareOp op) r) (ho' : OpR X (compareOp op') r') (hd : OpD X.K r o) (hd' : OpD X.K r' o') (ha : DE X T W e1 f) (hb : DE X T W e2 g) (hc : DE X T W e3 h)
    (hm : lastMarks [op, op'] [e2, e3] = false := by with_unfolding_all rfl) : DE X T W (.Compare e1 [op, op'] [e2, e3] pos) (chM f g h o o') :=
  PE_imp (pe_chain ho ho' ha hb hc hm) fun σ H Q ⟨G, ρ, F, rp, h⟩ => ⟨G, ρ, F, rp, h.bind.imp fun a ρ1 F1 H1 s1 rp1 h1 x hx => ⟨G, ρ1, F1, rp1, h1.bind.imp fun b ρ2 F2 H2 s2 rp2 h2 y hy => by
    obtain ⟨z, e, h3⟩ := h2.bind.lift
    refine hd F2 H2 x y a b z _ rp2.same (.dat (Dq_ext s2 hx)) (.dat hy) e fun F' H' v g hv => ?_
    have h4 := h3.ret (rp2.gr g) g.f
    cases z with
    | bool k =>
      cases hv
      cases k with
      | true =>
        refine ⟨true, rfl, ?_⟩
        exact ⟨G, ρ2, F', rp2.gr g, h4.bind.imp fun c ρ3 F3 H3 s3 rp3 h5 w hw => by
          obtain ⟨z, e, h6⟩ := h5.lift
          exact hd' F3 H3 y w b c z Q rp3.same (.dat (Dq_ext (g.f.trans s3) hy)) (.dat hw) e fun F' H' v g hv => h6.ret (rp3.gr g) g.f v hv⟩
      | false => exact ⟨false, rfl, h4.ret (rp2.gr g) (.refl _) _ (.bl false)⟩
    | _ => exact (show False from h4).elim⟩⟩
theorem dt_chain {op op' : CmpOp} {r r' : R2} {o o' : D → D → Option D} {e3 : Expr} {h : Cm D} (ho : OpR X (compareOp op) r) (ho' : OpR X (compareOp op') r') (hd : OpD X.K r o) (hd' : OpD X.K r' o') (ha : DE X T W e1 f) (hb : DE X T W e2 g) (hc : DE X T W e3 h)
    (hm : lastMarks [op, op'] [e2, e3] = false := by with_unfolding_all rfl) : DT X T W (.Compare e1 [op, op'] [e2, e3] pos) (tru (chM f g h o o')) :=
  PT_imp (pt_chain ho ho' ha hb hc hm) fun σ H Q ⟨G, ρ, F, rp, h⟩ => ⟨G, ρ, F, rp, h.bind.bind.imp fun a ρ1 F1 H1 s1 rp1 h1 x hx => ⟨G, ρ1, F1, rp1, h1.bind.imp fun b ρ2 F2 H2 s2 rp2 h2 y hy => by
    obtain ⟨z, e, h3⟩ := h2.bind.lift
    refine hd F2 H2 x y a b z _ rp2.same (.dat (Dq_ext s2 hx)) (.dat hy) e fun F' H' v g hv => ?_
    have h4 := h3.ret (rp2.gr g) g.f
    cases z with
    | bool k =>
      cases hv
      cases k with
      | true =>
        refine ⟨true, rfl, ?_⟩
        exact ⟨G, ρ2, F', rp2.gr g, h4.bind.imp fun c ρ3 F3 H3 s3 rp3 h5 w hw => by
          obtain ⟨z, e, h6⟩ := h5.lift
          refine hd' F3 H3 y w b c z _ rp3.same (.dat (Dq_ext (g.f.trans s3) hy)) (.dat hw) e fun F' H' v g hv => ?_
          have h7 := h6.ret (rp3.gr g) g.f
          cases z with
          | bool b => cases hv; exact ⟨b, rfl, h7.ret (rp3.gr g) (.refl _)⟩
          | _ => exact h7.elim⟩
      | false => exact ⟨false, rfl, false, rfl, (h4.ret (rp2.gr g) (.refl _)).ret (rp2.gr g) (.refl _)⟩
    | _ => exact (show False from h4).elim⟩⟩

/-! ### subscripts -/
theorem de_ixR {r : R2} {o : D → D → Option D} (hr : IxR X r) (hd : OpD X.K r o) (ha : DE X T W e1 f) (hb : DE X T W e2 g) (hs : PlainIx e2) : DE X T W (.Subscript e1 e2 pos) (o2 f g o) :=
  PE_imp (pe_ix hr ha hb hs) fun σ H Q ⟨G, ρ, F, rp, h⟩ => ⟨G, ρ, F, rp, h.bind.imp fun a ρ1 F1 H1 s1 rp1 h1 x hx => ⟨G, ρ1, F1, rp1, h1.bind.imp fun b ρ2 F2 H2 s2 rp2 h2 y hy => by
    obtain ⟨z, e, h3⟩ := h2.lift
    exact hd F2 H2 x y a b z Q rp2.same (.dat (Dq_ext s2 hx)) (.dat hy) e fun F' H' v g hv => h3.ret (rp2.gr g) g.f v hv⟩⟩
theorem de_ixRL {r : R2} {o : D → D → Option D} (hr : IxR X r) (hd : OpD X.K r o) (hN : X.N[i]? = some y) (hv : Vis X.env.scope y) (hb : DE X T W e2 g) (hs : PlainIx e2) (hdd : (y == ("__debug__" : Str)) = false := by decide) (hcd : (y == ("__classdict__" : Str)) = false := by decide) :
    DE X T W (.Subscript (.Name y py) e2 pos) (oL i g o) :=
  PE_imp (pe_ix hr (pe_var hN hv hdd hcd) hb hs) fun σ H Q ⟨G, ρ, F, rp, h⟩ => by
    obtain ⟨v, hv, h⟩ := isVs_at rp h
    exact ⟨v, hv, G, ρ, F, rp, h.bind.imp fun b ρ2 F2 H2 s2 rp2 h2 y hy => by
      obtain ⟨d, hd2, h3⟩ := rdO_ok rp2 hv h2
      obtain ⟨z, e, h4⟩ := h3.lift
      exact hd F2 H2 v y d b z Q rp2.same hd2 (.dat hy) e fun F' H' v g hv => h4.ret (rp2.gr g) g.f v hv⟩
def ixD : D → D → Option D
  | .list xs, .int i => atI xs i
  | .tuple xs, .int i => atI xs i
  | _, _ => none
theorem atI_dq {K : PySem.W.Frag} {F : Hp} {vs : List V} {ds : List D} {i : Int} {z : D} (a : DqAll K F vs ds) (h : atI ds i = some z) : ∃ v, atI vs i = some v ∧ Dq K F v z := by
  unfold atI at h ⊢
  rw [DqAll_len a]
  cases q : ixN ds.length i with
  | none => rw [q] at h; cases h
  | some j =>
    rw [q] at h
    exact DqAll_at' a h
theorem od_ix {K : PySem.W.Frag} : OpD K (fun x y H Q => rIxL K x y H Q ∨ rIxT K x y H Q) ixD := fun F H x y d e z Q s h1 h2 h3 h4 => by
  cases d with
  | list a =>
    cases e with
    | int k =>
      obtain rfl := h2.int
      obtain ⟨la, us, rfl, r1, a1⟩ := h1.lst s
      obtain ⟨v, e1, e2⟩ := atI_dq a1 h3
      exact .inl ⟨la, us, k, v, rfl, rfl, .inl r1, e1, h4 F H v (.refl s) e2⟩
    | _ => cases h3
  | tuple a =>
    cases e with
    | int k =>
      obtain rfl := h2.int
      obtain ⟨la, us, rfl, r1, a1⟩ := h1.tup s
      obtain ⟨v, e1, e2⟩ := atI_dq a1 h3
      exact .inr ⟨la, us, k, v, rfl, rfl, r1, e1, h4 F H v (.refl s) e2⟩
    | _ => cases h3
  | _ => cases h3
theorem de_ix (ha : DE X T W e1 f) (hb : DE X T W e2 g) (hs : PlainIx e2 := by exact fun _ _ => rfl) : DE X T W (.Subscript e1 e2 pos) (o2 f g ixD) := de_ixR (ix_list.or ix_tup) od_ix ha hb hs
theorem de_ixL (hN : X.N[i]? = some y) (hv : Vis X.env.scope y) (hb : DE X T W e2 g) (hs : PlainIx e2 := by exact fun _ _ => rfl) (hdd : (y == ("__debug__" : Str)) = false := by decide) (hcd : (y == ("__classdict__" : Str)) = false := by decide) :
    DE X T W (.Subscript (.Name y py) e2 pos) (oL i g ixD) := de_ixRL (ix_list.or ix_tup) od_ix hN hv hb hs hdd hcd

/-! ### slices -/
/-- a part of a slice -/
def tPt (K : PySem.W.Frag) (T : Tx) (mg : Str → Option Value) (W : WX) (f : Cm (Option Int)) : TO := fun σ H Q => ∃ G ρ F, Rp K T G ρ F σ H ∧ Rs K T mg W G F σ (f ρ) fun d _ _ H' => Q d H'
abbrev DO (X : Cx) (T : Tx) (W : WX) (e : Option Expr) (f : Cm (Option Int)) : Prop := PO X e (tPt X.K T X.mg W f)
def ptN : Cm (Option Int) := ret none
def ptS (f : Cm D) : Cm (Option Int) := bnd f fun
  | .int i => ret (some i)
  | _ => fun _ => .no
theorem PO_imp {e : Option Expr} {t t' : TO} (h : PO X e t) (i : ∀ σ H Q, t' σ H Q → t σ H Q) : PO X e t' := ⟨fun pins s σ H Q I q => h.run pins s σ H Q I (i σ H Q q)⟩
theorem do_none : DO X T W none ptN := PO_imp po_none fun σ H Q ⟨G, ρ, F, rp, h⟩ => h.ret rp (.refl _)
theorem do_some (ha : DE X T W e f) : DO X T W (some e) (ptS f) := PO_imp (po_some ha) fun σ H Q ⟨G, ρ, F, rp, h⟩ => ⟨G, ρ, F, rp, h.bind.imp fun a ρ1 F1 H1 s1 rp1 h1 v hv => by
  cases a with
  | int i => cases hv; exact ⟨i, rfl, h1.ret rp1 (.refl _)⟩
  | _ => exact (show False from h1).elim⟩
def cutD (xs : List D) (lo hi : Option Int) : List D := (xs.drop (HT.sIx xs.length 0 lo)).take (HT.sIx xs.length xs.length hi - HT.sIx xs.length 0 lo)
def slD (lo hi : Option Int) : D → Option D
  | .list xs => some (.list (cutD xs lo hi))
  | .tuple xs => some (.tuple (cutD xs lo hi))
  | _ => none
def slM (f : Cm D) (lo hi : Cm (Option Int)) : Cm D := bnd f fun a => bnd lo fun l => bnd hi fun h => lift (slD l h a)
theorem cutD_dq {K : PySem.W.Frag} {F : Hp} {vs : List V} {ds : List D} {lo hi : Option Int} (a : DqAll K F vs ds) : DqAll K F (cutV vs lo hi) (cutD ds lo hi) := by
  unfold cutV cutD
  rw [DqAll_len a]
  exact DqAll_take _ (DqAll_drop _ a)
theorem de_slice {p2 : Pos} {lo hi : Option Expr} {fl fh : Cm (Option Int)} (ha : DE X T W e f) (hl : DO X T W lo fl) (hh : DO X T W hi fh) : DE X T W (.Subscript e (.Slice lo hi none p2) pos) (slM f fl fh) :=
  PE_imp (pe_slice (sl_list.or sl_tupA) ha hl hh) fun σ H Q ⟨G, ρ, F, rp, h⟩ => ⟨G, ρ, F, rp, h.bind.imp fun a ρ1 F1 H1 s1 rp1 h1 x hx => ⟨G, ρ1, F1, rp1, h1.bind.imp fun l ρ2 F2 H2 s2 rp2 h2 => ⟨G, ρ2, F2, rp2, h2.bind.imp fun hh ρ3 F3 H3 s3 rp3 h3 => by
    obtain ⟨z, e, h4⟩ := h3.lift
    have hx3 := Dq_ext (s2.trans s3) hx
    cases a with
    | list xs =>
      cases e
      cases hx3 with
      | @lst ad us _ r1 a1 =>
        refine .inl ⟨_, _, rfl, .inl (Rd_ext rp3.same r1), fun p hp => ?_⟩
        have g := rp3.laid (o := .lst (cutV us l hh)) hp
        exact h4.ret (rp3.gr g) g.f _ (.lst (.of upd_same) (DqAll_ext g.f (cutD_dq a1)))
    | tuple xs =>
      cases e
      cases hx3 with
      | @tup ad us _ r1 a1 =>
        refine .inr ⟨_, _, rfl, SqT_ext rp3.same r1, fun hw => ?_, fun _ p hp => ?_⟩
        · have ec : cutD xs l hh = xs := by
            unfold cutD
            rw [← DqAll_len a1, hw.1, hw.2]
            simp [DqAll_len a1]
          rw [ec] at h4
          exact h4.ret rp3 (.refl _) _ (.tup r1 a1)
        · have g := rp3.laid (o := .tup (cutV us l hh)) hp
          exact h4.ret (rp3.gr g) g.f _ (.tup (.of upd_same) (DqAll_ext g.f (cutD_dq a1)))
    | _ => cases e⟩⟩⟩

/-! ### calls of built-in functions and types -/
def caM (fa : Cm (List D)) (o : List D → Option D) : Cm D := bnd fa fun ds => lift (o ds)
def caO (i : Nat) (o : List D → Option D) : Cm D := bnd (rdO i) fun d => lift (o [d])
variable {id x : String} {px : Pos} {nm : Str} {r : List V → Hp → VK → Prop} {o : List D → Option D}
theorem ca_read {K : PySem.W.Frag} {mg : Str → Option Value} {σ : L2.St} {H : Hp} {Q : VK} (hd : CaD K r o) (h : tE K T mg W (caM fa o) σ H Q) : tCB r (tA K T mg W fa) σ H Q := by
  obtain ⟨G, ρ, F, rp, h⟩ := h
  exact ⟨G, ρ, F, rp, h.bind.imp fun ds ρ1 F1 H1 s1 rp1 h1 vs hv => by
    obtain ⟨z, e, h4⟩ := h1.lift
    exact hd F1 H1 vs ds z Q rp1.same (DvAll_of hv) e fun F' H' v g hv => h4.ret (rp1.gr g) g.f v hv⟩
theorem de_caB (hc : CallR X (.builtin id) r) (hd : CaD X.K r o) (hg : Gl X nm) (hm : X.mg nm = none) (hv : bootBuiltins nm = some (.builtin id)) (ha : DA X T W (e :: es) fa) (hn : nm ≠ "__name__" := by decide) (hdb : (nm == ("__debug__" : Str)) = false := by decide)
    (he : starEach (e :: es) X.env = (false, eval e X.env) :: starEach es X.env := by rfl) (hpl : (backTo pos (starEach es X.env)).any (·.1) = false := by rfl) : DE X T W (.Call (.Name nm px) (e :: es) [] pos) (caM fa o) :=
  PE_imp (pe_callB hc hg hm hv ha hn hdb he hpl) fun σ H Q h => ca_read hd h
theorem de_caT {Ty : String} (hc : CallR X (.type Ty) r) (hd : CaD X.K r o) (hg : Gl X nm) (hm : X.mg nm = none) (hv : bootBuiltins nm = some (.type Ty)) (ha : DA X T W (e :: es) fa) (hn : nm ≠ "__name__" := by decide) (hdb : (nm == ("__debug__" : Str)) = false := by decide)
    (he : starEach (e :: es) X.env = (false, eval e X.env) :: starEach es X.env := by rfl) (hpl : (backTo pos (starEach es X.env)).any (·.1) = false := by rfl) : DE X T W (.Call (.Name nm px) (e :: es) [] pos) (caM fa o) :=
  PE_imp (pe_callTy hc hg hm hv ha hn hdb he hpl) fun σ H Q h => ca_read hd h
theorem de_caBO (hc : CallR X (.builtin id) r) (hd : CaD X.K r o) (hg : Gl X nm) (hm : X.mg nm = none) (hv : bootBuiltins nm = some (.builtin id)) (hN : X.N[i]? = some y) (hvi : Vis X.env.scope y) (hn : nm ≠ "__name__" := by decide) (hdb : (nm == ("__debug__" : Str)) = false := by decide)
    (hdd : (y == ("__debug__" : Str)) = false := by decide) (hcd : (y == ("__classdict__" : Str)) = false := by decide)
    (he : starEach (.Name y py :: []) X.env = (false, eval (.Name y py) X.env) :: starEach [] X.env := by rfl) (hpl : (backTo pos (starEach [] X.env)).any (·.1) = false := by rfl) : DE X T W (.Call (.Name nm px) [.Name y py] [] pos) (caO i o) :=
  PE_imp (pe_callB hc hg hm hv (pa_cons (pe_var (pos := py) hN hvi hdd hcd) pa_nil he) hn hdb he hpl) fun σ H Q ⟨G, ρ, F, rp, h⟩ => by
    obtain ⟨v, d, hσ, hd2, h3⟩ := own_at rp h
    obtain ⟨z, e, h4⟩ := h3.lift
    exact ⟨v, hσ, hd F H [v] [d] z Q rp.same (.cons hd2 .nil) e fun F' H' v g hv => h4.ret (rp.gr g) g.f v hv⟩
end

/-! ### what built-ins give on data -/
def lenD : List D → Option D
  | [.list xs] => some (.int xs.length)
  | [.tuple xs] => some (.int xs.length)
  | [.str x] => if sizeOkL x.length then some (.int x.length) else none
  | _ => none
def absD : List D → Option D
  | [.int i] => some (.int (if i < 0 then -i else i))
  | _ => none
def intD : List D → Option D
  | [.int i] => some (.int i)
  | [.bool b] => some (.int (if b then 1 else 0))
  | _ => none
def max2D : List D → Option D
  | [.int i, .int j] => some (.int (if j > i then j else i))
  | _ => none
def min2D : List D → Option D
  | [.int i, .int j] => some (.int (if j < i then j else i))
  | _ => none
def divmodD : List D → Option D
  | [.int i, .int j] => if decide (0 < j) && !Builtin.divisionGoesByPylong i j then some (.tuple [.int (i / j), .int (i % j)]) else none
  | _ => none
def gcdD : List D → Option D
  | [.int i, .int j] => some (.int ((Nat.gcd i.natAbs j.natAbs : Nat) : Int))
  | _ => none
def toInts : List D → Option (List Int)
  | [] => some []
  | .int i :: ds => (toInts ds).map (i :: ·)
  | _ => none
def toBools : List D → Option (List Bool)
  | [] => some []
  | .bool i :: ds => (toBools ds).map (i :: ·)
  | _ => none
def sumD : List D → Option D
  | [.list xs] => (toInts xs).map fun ns => .int ns.sum
  | [.tuple xs] => (toInts xs).map fun ns => .int ns.sum
  | _ => none
def allD : List D → Option D
  | [.list xs] => (toBools xs).map fun ns => .bool (ns.all id)
  | _ => none
def anyD : List D → Option D
  | [.list xs] => (toBools xs).map fun ns => .bool (ns.any id)
  | _ => none
def tupleD : List D → Option D
  | [.list xs] => some (.tuple xs)
  | [.tuple xs] => some (.tuple xs)
  | _ => none
def listD : List D → Option D
  | [.list xs] => some (.list xs)
  | [.tuple xs] => some (.list xs)
  | _ => none
section
variable {K : PySem.W.Frag} {F H : Hp}
theorem DvAll.one {xs : List V} {d : D} (h : DvAll K F H xs [d]) : ∃ v, xs = [v] ∧ Dv K F H v d := by
  cases h with
  | cons h t => cases t; exact ⟨_, rfl, h⟩
theorem DvAll.two {xs : List V} {d e : D} (h : DvAll K F H xs [d, e]) : ∃ v w, xs = [v, w] ∧ Dv K F H v d ∧ Dv K F H w e := by
  cases h with
  | cons h t => cases t with
    | cons h2 t2 => cases t2; exact ⟨_, _, rfl, h, h2⟩
theorem cd_len : CaD K (fun xs H Q => ∃ x n, xs = [x] ∧ LenV K x H n ∧ Q (.int n) H) lenD := fun F H xs ds z Q s h1 h3 h4 => by
  match ds, h1, h3 with
  | [.list ds], h1, h3 =>
    obtain ⟨v, rfl, h⟩ := h1.one
    obtain ⟨p, vs, rfl, r, a⟩ := h.lst s
    cases h3
    exact ⟨_, _, rfl, .inl ⟨vs, .inl r, (DqAll_len a).symm⟩, h4 F H _ (.refl s) (.int _)⟩
  | [.tuple ds], h1, h3 =>
    obtain ⟨v, rfl, h⟩ := h1.one
    obtain ⟨p, vs, rfl, r, a⟩ := h.tup s
    cases h3
    exact ⟨_, _, rfl, .inr ⟨vs, r, (DqAll_len a).symm⟩, h4 F H _ (.refl s) (.int _)⟩
  | [.str x], h1, h3 =>
    obtain ⟨v, rfl, h⟩ := h1.one
    obtain rfl := h.str
    simp only [lenD] at h3
    split at h3
    · rename_i hz
      cases h3
      exact ⟨_, _, rfl, ⟨sizeOkL_le hz, rfl⟩, h4 F H _ (.refl s) (.int _)⟩
    · cases h3
theorem cd_abs : CaD K (fun xs H Q => ∃ i, xs = [.int i] ∧ Q (.int (if i < 0 then -i else i)) H) absD := fun F H xs ds z Q s h1 h3 h4 => by
  match ds, h1, h3 with
  | [.int i], h1, h3 =>
    obtain ⟨v, rfl, h⟩ := h1.one
    obtain rfl := h.int
    cases h3
    exact ⟨i, rfl, h4 F H _ (.refl s) (.int _)⟩
theorem cd_int : CaD K (fun xs H Q => (∃ i, xs = [.int i] ∧ Q (.int i) H) ∨ ∃ k, xs = [.bl k] ∧ Q (.int (if k then 1 else 0)) H) intD := fun F H xs ds z Q s h1 h3 h4 => by
  match ds, h1, h3 with
  | [.int i], h1, h3 =>
    obtain ⟨v, rfl, h⟩ := h1.one
    obtain rfl := h.int
    cases h3
    exact .inl ⟨i, rfl, h4 F H _ (.refl s) (.int _)⟩
  | [.bool i], h1, h3 =>
    obtain ⟨v, rfl, h⟩ := h1.one
    obtain rfl := h.bl
    cases h3
    exact .inr ⟨i, rfl, h4 F H _ (.refl s) (.int _)⟩
theorem cd_max2 : CaD K (fun xs H Q => ∃ i j, xs = [.int i, .int j] ∧ Q (.int (if j > i then j else i)) H) max2D := fun F H xs ds z Q s h1 h3 h4 => by
  match ds, h1, h3 with
  | [.int i, .int j], h1, h3 =>
    obtain ⟨v, w, rfl, h, h'⟩ := h1.two
    obtain rfl := h.int
    obtain rfl := h'.int
    cases h3
    exact ⟨i, j, rfl, h4 F H _ (.refl s) (.int _)⟩
theorem cd_min2 : CaD K (fun xs H Q => ∃ i j, xs = [.int i, .int j] ∧ Q (.int (if j < i then j else i)) H) min2D := fun F H xs ds z Q s h1 h3 h4 => by
  match ds, h1, h3 with
  | [.int i, .int j], h1, h3 =>
    obtain ⟨v, w, rfl, h, h'⟩ := h1.two
    obtain rfl := h.int
    obtain rfl := h'.int
    cases h3
    exact ⟨i, j, rfl, h4 F H _ (.refl s) (.int _)⟩
theorem cd_gcd : CaD K rGcd gcdD := fun F H xs ds z Q s h1 h3 h4 => by
  match ds, h1, h3 with
  | [.int i, .int j], h1, h3 =>
    obtain ⟨v, w, rfl, h, h'⟩ := h1.two
    obtain rfl := h.int
    obtain rfl := h'.int
    cases h3
    exact ⟨i, j, rfl, h4 F H _ (.refl s) (.int _)⟩
theorem cd_divmod : CaD K (fun xs H Q => ∃ i j, xs = [.int i, .int j] ∧ CDivP i j ∧ ∀ p, H p = none → Q (.ref p) (upd H p (.tup [.int (i / j), .int (i % j)]))) divmodD := fun F H xs ds z Q s h1 h3 h4 => by
  match ds, h1, h3 with
  | [.int i, .int j], h1, h3 =>
    obtain ⟨v, w, rfl, h, h'⟩ := h1.two
    obtain rfl := h.int
    obtain rfl := h'.int
    simp only [divmodD] at h3
    split at h3
    · rename_i hz
      cases h3
      rw [Bool.and_eq_true, Bool.not_eq_true'] at hz
      refine ⟨i, j, rfl, ⟨of_decide_eq_true hz.1, hz.2⟩, fun p hp => ?_⟩
      have g := gr_laid s (o := .tup [V.int (i / j), V.int (i % j)]) hp
      exact h4 _ _ _ g (.tup (.inl (.of upd_same)) (.cons (.int _) (.cons (.int _) .nil)))
    · cases h3
theorem toInts_eq : ∀ {ds : List D} {ns : List Int} {vs : List V}, toInts ds = some ns → DqAll K F vs ds → vs = ns.map V.int
  | [], ns, _, h, .nil => by cases h; rfl
  | .int i :: ds, ns, _, h, .cons (.int _) t => by
    unfold toInts at h
    cases q : toInts ds with
    | none => rw [q] at h; cases h
    | some ms =>
      rw [q] at h
      cases h
      rw [toInts_eq q t]
      rfl
theorem toBools_eq : ∀ {ds : List D} {ns : List Bool} {vs : List V}, toBools ds = some ns → DqAll K F vs ds → vs = ns.map V.bl
  | [], ns, _, h, .nil => by cases h; rfl
  | .bool i :: ds, ns, _, h, .cons (.bl _) t => by
    unfold toBools at h
    cases q : toBools ds with
    | none => rw [q] at h; cases h
    | some ms =>
      rw [q] at h
      cases h
      rw [toBools_eq q t]
      rfl
theorem cd_sum : CaD K (fun xs H Q => rSum K xs H Q ∨ rSumT K xs H Q) sumD := fun F H xs ds z Q s h1 h3 h4 => by
  match ds, h1, h3 with
  | [.list ds], h1, h3 =>
    obtain ⟨v, rfl, h⟩ := h1.one
    obtain ⟨p, vs, rfl, r, a⟩ := h.lst s
    simp only [sumD] at h3
    cases q : toInts ds with
    | none => rw [q] at h3; cases h3
    | some ns =>
      rw [q] at h3
      cases h3
      obtain rfl := toInts_eq q a
      exact .inl ⟨p, ns, rfl, .inl r, h4 F H _ (.refl s) (.int _)⟩
  | [.tuple ds], h1, h3 =>
    obtain ⟨v, rfl, h⟩ := h1.one
    obtain ⟨p, vs, rfl, r, a⟩ := h.tup s
    simp only [sumD] at h3
    cases q : toInts ds with
    | none => rw [q] at h3; cases h3
    | some ns =>
      rw [q] at h3
      cases h3
      obtain rfl := toInts_eq q a
      exact .inr ⟨p, ns, rfl, r, h4 F H _ (.refl s) (.int _)⟩
theorem cd_all : CaD K (rAll K) allD := fun F H xs ds z Q s h1 h3 h4 => by
  match ds, h1, h3 with
  | [.list ds], h1, h3 =>
    obtain ⟨v, rfl, h⟩ := h1.one
    obtain ⟨p, vs, rfl, r, a⟩ := h.lst s
    simp only [allD] at h3
    cases q : toBools ds with
    | none => rw [q] at h3; cases h3
    | some ns =>
      rw [q] at h3
      cases h3
      obtain rfl := toBools_eq q a
      exact ⟨p, ns, rfl, .inl r, h4 F H _ (.refl s) (.bl _)⟩
theorem cd_any : CaD K (rAny K) anyD := fun F H xs ds z Q s h1 h3 h4 => by
  match ds, h1, h3 with
  | [.list ds], h1, h3 =>
    obtain ⟨v, rfl, h⟩ := h1.one
    obtain ⟨p, vs, rfl, r, a⟩ := h.lst s
    simp only [anyD] at h3
    cases q : toBools ds with
    | none => rw [q] at h3; cases h3
    | some ns =>
      rw [q] at h3
      cases h3
      obtain rfl := toBools_eq q a
      exact ⟨p, ns, rfl, .inl r, h4 F H _ (.refl s) (.bl _)⟩
theorem cd_tuple : CaD K (fun xs H Q => ∃ p ys, xs = [.ref p] ∧ ((SqL K H p ys ∧ ∀ l, H l = none → Q (.ref l) (upd H l (.tup ys))) ∨ (SqT K H p ys ∧ Q (.ref p) H))) tupleD := fun F H xs ds z Q s h1 h3 h4 => by
  match ds, h1, h3 with
  | [.list ds], h1, h3 =>
    obtain ⟨v, rfl, h⟩ := h1.one
    obtain ⟨p, vs, rfl, r, a⟩ := h.lst s
    cases h3
    refine ⟨p, vs, rfl, .inl ⟨.inl r, fun l hl => ?_⟩⟩
    have g := gr_laid s (o := .tup vs) hl
    exact h4 _ _ _ g (.tup (.inl (.of upd_same)) (DqAll_ext g.f a))
  | [.tuple ds], h1, h3 =>
    obtain ⟨v, rfl, h⟩ := h1.one
    obtain ⟨p, vs, rfl, r, a⟩ := h.tup s
    cases h3
    exact ⟨p, vs, rfl, .inr ⟨r, h4 F H _ (.refl s) (h.dq (fun _ z => by cases z))⟩⟩
theorem cd_list : CaD K (fun xs H Q => ∃ p ys, xs = [.ref p] ∧ (SqL K H p ys ∨ SqT K H p ys) ∧ ∀ l, H l = none → Q (.ref l) (upd H l (.lst ys))) listD := fun F H xs ds z Q s h1 h3 h4 => by
  match ds, h1, h3 with
  | [.list ds], h1, h3 =>
    obtain ⟨v, rfl, h⟩ := h1.one
    obtain ⟨p, vs, rfl, r, a⟩ := h.lst s
    cases h3
    refine ⟨p, vs, rfl, .inl (.inl r), fun l hl => ?_⟩
    have g := gr_laid s (o := .lst vs) hl
    exact h4 _ _ _ g (.lst (.of upd_same) (DqAll_ext g.f a))
  | [.tuple ds], h1, h3 =>
    obtain ⟨v, rfl, h⟩ := h1.one
    obtain ⟨p, vs, rfl, r, a⟩ := h.tup s
    cases h3
    refine ⟨p, vs, rfl, .inr r, fun l hl => ?_⟩
    have g := gr_laid s (o := .lst vs) hl
    exact h4 _ _ _ g (.lst (.of upd_same) (DqAll_ext g.f a))
end
end PL
end S_PLB

section S_PLI
namespace PL
open PySem PySem.Spec PyProof.Rows L2

/-! ### an owned slot becomes data when it is read -/
def frzS (i : Nat) : Cm D := fun ρ => match ρ[i]? with
  | some (.dat d) => .ok d ρ
  | some (.own xs false) => .ok (.list xs) (ρ.set i (.dat (.list xs)))
  | _ => .no
section
variable {X : Cx} {T : Tx} {W : WX} {e e1 e2 tg : Expr} {es : List Expr} {pos py p : Pos} {f g : Cm D} {fa : Cm (List D)} {i : Nat} {x y : Str}
theorem de_frzS (hN : X.N[i]? = some x) (hv : Vis X.env.scope x) (hd : (x == ("__debug__" : Str)) = false := by decide) (hcd : (x == ("__classdict__" : Str)) = false := by decide) : DE X T W (.Name x pos) (frzS i) :=
  PE_imp (pe_var hN hv hd hcd) fun σ H Q ⟨G, ρ, F, rp, h⟩ => by
    unfold frzS at h
    cases q : ρ[i]? with
    | none => rw [q] at h; exact h.elim
    | some s =>
      rw [q] at h
      cases s with
      | no => exact h.elim
      | fn => exact h.elim
      | dat d =>
        obtain ⟨v, e1, e2⟩ := rp.sl i _ q
        exact ⟨v, e1, h F H (.refl _) rp v e2⟩
      | own xs b =>
        cases b with
        | true => exact h.elim
        | false =>
          obtain ⟨p, e1, e2⟩ := rp.sl i _ q
          have il : i < ρ.length := (List.getElem?_eq_some_iff.mp q).1
          have il2 : i < σ.length := by rw [← rp.len]; exact il
          have es : ∀ z, σ[i]? = some z → σ.set i z = σ := fun z hz => by
            obtain ⟨_, hz⟩ := List.getElem?_eq_some_iff.mp hz
            rw [← hz]
            exact List.set_getElem_self il2
          have rp1 := rp.setN i (some (.ref p))
          rw [es _ e1] at rp1
          have n1 : New X.K G (ρ.set i .no) F σ H p xs := ⟨e2, fun j ys b z z1 => by
            by_cases hj : i = j
            · subst hj
              rw [List.getElem?_set_self il] at z
              cases z
            · rw [List.getElem?_set_ne hj] at z
              exact hj (rp.sep i j xs ys false b q z (e1.trans z1.symm))⟩
          obtain ⟨F', s', rp2, hd⟩ := n1.freeze rp1
          have rp3 := rp2.setD i hd
          rw [es _ e1, List.set_set] at rp3
          exact ⟨.ref p, e1, h F' H s' rp3 _ hd⟩

/-! ### what loops walk -/
theorem PI_imp {t t' : TI} (h : PI X tg e t) (k : ∀ σ H R, t' σ H R → t σ H R) : PI X tg e t' := ⟨fun pins s σ H R I q => h.run pins s σ H R I (k σ H R q)⟩
def iAny (K : PySem.W.Frag) (tl : TE) : TI := fun σ H R => tl σ H fun x H1 => ∃ a, x = .ref a ∧ (((∃ xs, SqL K H1 a xs) ∧ R (Itl K a) H1) ∨ ((∃ xs, SqT K H1 a xs) ∧ R (Itt K a) H1))
theorem pi_any {l : Expr} {tl : TE} (hl : PE X l tl) : PI X tg l (iAny X.K tl) := by
  refine ⟨fun pins s σ H R I h => ?_⟩
  refine thn (hl.run pins s σ H _ I h) fun v s1 ⟨x, H1, I1, r1, q1⟩ => ?_
  obtain ⟨a, e, ⟨⟨xs, hq⟩, q⟩ | ⟨⟨xs, hq⟩, q⟩⟩ := q1
  · subst e
    cases r1
    obtain ⟨its, rv, p, hz⟩ := I1.list hq
    refine wpAny_pyIter_list p.isList ?_
    refine ⟨s1.heap.objs.size, [s1.heap.objs.size], _, _, H1, rfl, I1.kept (t' := s1.toks) fun b o e => Heap.get?_push_of_some _ e, turn_list a _, ⟨_, Heap.get?_push_size _ rfl, rfl, rfl⟩, fun b hb => ?_, q⟩
    have e : b = s1.heap.objs.size := by simpa using hb
    subst e
    exact I1.fpOk (Nat.le_refl _) (I1.hok.fresh (Nat.le_refl _))
  · subst e
    cases r1
    obtain ⟨its, rv, p, hz⟩ := I1.tuple hq
    refine wpAny_pyIter_tuple (show s1.heap.IsTuple a its.toArray from p) ?_
    refine ⟨s1.heap.objs.size, [s1.heap.objs.size], _, _, H1, rfl, I1.kept (t' := s1.toks) fun b o e => Heap.get?_push_of_some _ e, turn_tuple a _, ⟨_, Heap.get?_push_size _ rfl, rfl, rfl⟩, fun b hb => ?_, q⟩
    have e : b = s1.heap.objs.size := by simpa using hb
    subst e
    exact I1.fpOk (Nat.le_refl _) (I1.hok.fresh (Nat.le_refl _))
theorem wk_list {K : PySem.W.Frag} {F : Hp} {a : Addr} {vs : List V} {ds : List D} (r : Rd F a (.lst vs)) (h : DqAll K F vs ds) : Wk K (Itl K a) ds F where
  go := fun i F1 H1 s s1 hi => by
    have hl : i < vs.length := by rw [DqAll_len h]; exact hi
    exact ⟨vs, vs[i], .inl (Rd_ext (s.trans s1) r), List.getElem?_eq_getElem hl⟩
  yld := fun i F1 H1 x H2 s s1 hi ⟨e, q⟩ => by
    subst e
    obtain ⟨d, e1, e2⟩ := DqAll_at h (q vs (.inl (Rd_ext (s.trans s1) r)))
    exact ⟨F1, .refl s1, d, e1, Dq_ext s e2⟩
  stop := fun i F1 H1 s s1 hi => ⟨vs, .inl (Rd_ext (s.trans s1) r), by rw [DqAll_len h]; omega⟩
theorem wk_tup {K : PySem.W.Frag} {F : Hp} {a : Addr} {vs : List V} {ds : List D} (r : SqT K F a vs) (h : DqAll K F vs ds) : Wk K (Itt K a) ds F where
  go := fun i F1 H1 s s1 hi => by
    have hl : i < vs.length := by rw [DqAll_len h]; exact hi
    exact ⟨vs, vs[i], SqT_ext (s.trans s1) r, List.getElem?_eq_getElem hl⟩
  yld := fun i F1 H1 x H2 s s1 hi ⟨e, q⟩ => by
    subst e
    obtain ⟨d, e1, e2⟩ := DqAll_at h (q vs (SqT_ext (s.trans s1) r))
    exact ⟨F1, .refl s1, d, e1, Dq_ext s e2⟩
  stop := fun i F1 H1 s s1 hi => ⟨vs, SqT_ext (s.trans s1) r, by rw [DqAll_len h]; omega⟩
def itM (f : Cm D) : Cm (List D) := bnd f fun
  | .list xs => ret xs
  | .tuple xs => ret xs
  | _ => fun _ => .no
theorem di_any (h : DE X T W e f) : DI X T W tg e (itM f) :=
  PI_imp (pi_any h) fun σ H R ⟨G, ρ, F, rp, h⟩ => ⟨G, ρ, F, rp, h.bind.imp fun a ρ1 F1 H1 s1 rp1 h1 v hv => by
    cases a with
    | list xs =>
      cases hv with
      | @lst ad us _ r1 a1 => exact ⟨ad, rfl, .inl ⟨⟨us, .inl (Rd_ext rp1.same r1)⟩, h1.ret rp1 (.refl _) _ (wk_list r1 a1)⟩⟩
    | tuple xs =>
      cases hv with
      | @tup ad us _ r1 a1 => exact ⟨ad, rfl, .inr ⟨⟨us, SqT_ext rp1.same r1⟩, h1.ret rp1 (.refl _) _ (wk_tup r1 a1)⟩⟩
    | _ => exact (show False from h1).elim⟩
/-! ranges -/
def rngL (lo : Int) (n : Nat) : List D := (List.range n).map fun (i : Nat) => PyData.int (lo + (i : Int))
theorem rngL_at {lo : Int} {n i : Nat} (h : i < n) : (rngL lo n)[i]? = some (.int (lo + (i : Int))) := by
  unfold rngL
  rw [List.getElem?_map, List.getElem?_range h] <;> rfl
theorem rngL_len {lo : Int} {n : Nat} : (rngL lo n).length = n := by
  unfold rngL
  rw [List.length_map, List.length_range]
theorem wk_rng {K : PySem.W.Frag} {F : Hp} (lo : Int) (n : Nat) : Wk K (Itr lo n) (rngL lo n) F where
  go := fun i F1 H1 s s1 hi => by rw [rngL_len] at hi; exact hi
  yld := fun i F1 H1 x H2 s s1 hi ⟨e, q⟩ => by
    subst e
    subst q
    rw [rngL_len] at hi
    exact ⟨F1, .refl s1, _, rngL_at hi, .int _⟩
  stop := fun i F1 H1 s s1 hi => by rw [rngL_len] at hi; exact Nat.le_of_eq hi.symm
def okR (i : Int) : Bool := decide (-(2 ^ 62) ≤ i) && decide (i < 2 ^ 62)
theorem okR_ok {i : Int} (h : okR i = true) : -(2 ^ 62) ≤ i ∧ i < 2 ^ 62 := by
  obtain ⟨h1, h2⟩ := Bool.and_eq_true_iff.mp h
  exact ⟨of_decide_eq_true h1, of_decide_eq_true h2⟩
def rng1D : List D → Option (List D)
  | [.int j] => if okR j then some (rngL 0 j.toNat) else none
  | _ => none
def rng2D : List D → Option (List D)
  | [.int i, .int j] => if okR i && okR j then some (rngL i (j - i).toNat) else none
  | _ => none
def itD (fa : Cm (List D)) (o : List D → Option (List D)) : Cm (List D) := bnd fa fun ds => lift (o ds)
theorem rng1_inv {ds xs : List D} (h : rng1D ds = some xs) : ∃ j, ds = [.int j] ∧ okR j = true ∧ xs = rngL 0 j.toNat := by
  unfold rng1D at h
  split at h
  · split at h
    · rename_i z; cases h; exact ⟨_, rfl, z, rfl⟩
    · cases h
  · cases h
theorem rng2_inv {ds xs : List D} (h : rng2D ds = some xs) : ∃ i j, ds = [.int i, .int j] ∧ okR i = true ∧ okR j = true ∧ xs = rngL i (j - i).toNat := by
  unfold rng2D at h
  split at h
  · split at h
    · rename_i z; cases h; obtain ⟨z1, z2⟩ := Bool.and_eq_true_iff.mp z; exact ⟨_, _, rfl, z1, z2, rfl⟩
    · cases h
  · cases h
theorem di_range1 (hg : Gl X "range") (hm : X.mg "range" = none) (ha : DA X T W [e] fa) (hs : starEach [e] X.env = [(false, eval e X.env)] := by rfl) : DI X T W tg (.Call (.Name "range" p) [e] [] pos) (itD fa rng1D) :=
  PI_imp (pi_range1 hg hm ha hs) fun σ H R ⟨G, ρ, F, rp, h⟩ => ⟨G, ρ, F, rp, h.bind.imp fun ds ρ1 F1 H1 s1 rp1 h1 vs hv => by
    obtain ⟨xs, e, h2⟩ := h1.lift
    obtain ⟨j, rfl, z, rfl⟩ := rng1_inv e
    cases hv with
    | cons hx ht =>
      cases ht
      cases hx
      exact ⟨j, rfl, (okR_ok z).1, (okR_ok z).2, h2.ret rp1 (.refl _) _ (wk_rng 0 _)⟩⟩
theorem di_range2 (hg : Gl X "range") (hm : X.mg "range" = none) (ha : DA X T W [e1, e2] fa) (hs : starEach [e1, e2] X.env = [(false, eval e1 X.env), (false, eval e2 X.env)] := by rfl) (hs2 : starEach [e2] X.env = [(false, eval e2 X.env)] := by rfl) : DI X T W tg (.Call (.Name "range" p) [e1, e2] [] pos) (itD fa rng2D) :=
  PI_imp (pi_range2 hg hm ha hs hs2) fun σ H R ⟨G, ρ, F, rp, h⟩ => ⟨G, ρ, F, rp, h.bind.imp fun ds ρ1 F1 H1 s1 rp1 h1 vs hv => by
    obtain ⟨xs, e, h2⟩ := h1.lift
    obtain ⟨i, j, rfl, z1, z2, rfl⟩ := rng2_inv e
    cases hv with
    | cons hx ht => cases ht with
      | cons hy ht =>
        cases ht
        cases hx
        cases hy
        exact ⟨i, j, rfl, ⟨(okR_ok z1).1, (okR_ok z1).2, (okR_ok z2).1, (okR_ok z2).2⟩, h2.ret rp1 (.refl _) _ (wk_rng i _)⟩⟩
/-! enumerate -/
end
section
variable {prog : Program} {w : World} {A : Around} {E : Value → Shared → Prop} {s : Shared}
open AutoSeq1 (wpAny_loadPart') in
theorem meets_enumerate_newT (l : Addr) (items : Array Value) (n : Nat) (dct : Option Addr) (sl : Array (Option Value)) :
    Meets (Builtin.«enumerate.__new__» ⟨[.type "enumerate", .ref l], []⟩) (fun _ R s => s.heap.get? l = some { cls := .type "tuple", dict := dct, data := .seq items n, slots := sl } ∧
      R (.ok (.ret (.ref (s.heap.push { cls := .type "tuple_iterator", data := .fields #[.ref l, .int 0 0] }).objs.size)))
        { s with heap := (s.heap.push { cls := .type "tuple_iterator", data := .fields #[.ref l, .int 0 0] }).push { cls := .type "enumerate", data := .fields #[.none, .bool false, .ref s.heap.objs.size, rawInt 0, .none, .none] } }) :=
  .of_wp fun prog w A R s h => by
    obtain ⟨hp, g, d, tk, os⟩ := s; obtain ⟨hl, h⟩ := h
    have hsub := sub_enumerate
    have hL : Heap.IsTuple (Shared.heap ⟨hp, g, d, tk, os⟩) l items := ⟨_, hl, rfl, n, rfl⟩
    wp_walk using wpAny_loadPart' hl
    refine wpAny_stack_any fun st => wpAny_pure ?_
    split
    · rename_i c _ _ _ _ _
      cases (c == Value.type "enumerate")
      · wp_walk using wpAny_loadPart' hl, wpAny_pyIter_tuple hL
        exact ⟨_, rfl, h⟩
      · wp_walk using wpAny_loadPart' hl, wpAny_pyIter_tuple hL
        exact ⟨_, rfl, h⟩
    · wp_walk using wpAny_loadPart' hl, wpAny_pyIter_tuple hL
      exact ⟨_, rfl, h⟩
theorem call_enumerate_tuple {l : Addr} {items : Array Value} {Q : Value → Shared → Prop} (hL : s.heap.IsTuple l items)
    (h : ∀ h', IsEnum h' (s.heap.objs.size + 1) s.heap.objs.size 0 .none → h'.IsTupleIter s.heap.objs.size l 0 → h'.objs.size = s.heap.objs.size + 2 →
      (∀ b o, s.heap.get? b = some o → h'.get? b = some o) → Q (.ref (s.heap.objs.size + 1)) { s with heap := h' }) :
    wpAny (model prog w) A (call (.type "enumerate") [.ref l]) Q E s := by
  obtain ⟨⟨c, dct, dt, sl⟩, hl, hc, n, hd⟩ := hL
  replace hc : c = .type "tuple" := hc
  replace hd : dt = .seq items n := hd
  subst hc hd
  refine callType_new F.called_enumerate (by decide) (F.typeCall_enumerate_1 _) (F.newCall_enumerate_1 _) (fun obj => F.args_object_init_2 obj _) F.entry_enumerate_new
    (meets_enumerate_newT l items n dct sl) ⟨hl, ?_⟩
  have hz : (s.heap.push { cls := .type "tuple_iterator", data := .fields #[.ref l, .int 0 0] }).objs.size = s.heap.objs.size + 1 := Heap.size_push ..
  show _ ∧ _
  rw [hz]
  have he : IsEnum ((s.heap.push { cls := .type "tuple_iterator", data := .fields #[.ref l, .int 0 0] }).push
      { cls := .type "enumerate", data := .fields #[.none, .bool false, .ref s.heap.objs.size, rawInt 0, .none, .none] }) (s.heap.objs.size + 1) s.heap.objs.size 0 .none := by
    have := Heap.get?_push_size (s.heap.push { cls := .type "tuple_iterator", data := .fields #[.ref l, .int 0 0] })
      (o := { cls := .type "enumerate", data := .fields #[.none, .bool false, .ref s.heap.objs.size, rawInt 0, .none, .none] }) rfl
    rw [hz] at this; exact this
  refine ⟨⟨_, he, rfl⟩, h _ he ⟨_, Heap.get?_push_of_some _ (Heap.get?_push_size _ rfl), rfl, rfl⟩ (by rw [Heap.size_push, hz]) fun b o x => Heap.get?_push_of_some _ (Heap.get?_push_of_some _ x)⟩
end
/-- the tuple at a, each item in a new pair -/
def IteT (K : PySem.W.Frag) (a : Addr) : It :=
  ⟨fun i H => ∃ (xs : List V) (x : V), SqT K H a xs ∧ xs[i]? = some x, fun i H v H' => ∃ T x, v = .ref T ∧ H T = none ∧ H' = upd H T (.tup [.int (i : Nat), x]) ∧ ∀ xs, SqT K H a xs → xs[i]? = some x, fun i H => ∃ xs : List V, SqT K H a xs ∧ xs.length = i⟩
theorem turn_enumT {P : Program} {w : World} {K : PySem.W.Frag} {elts : List Expr} {kk : Nat} {tpos : Pos} (a e it : Addr) :
    Turn P w K (.Tuple elts kk tpos) (IteT K a) [e, it] e (fun i h => (∃ old, IsEnum h e it ((i : Nat) : Int) old) ∧ h.IsTupleIter it a i ∧ e ≠ it ∧ a ≠ it ∧ a ≠ e) where
  mem := by simp
  obj := fun i h st b hb => by
    obtain ⟨⟨old, he⟩, ⟨o, ho, hc, hd⟩, _⟩ := st
    have e' : b = e ∨ b = it := by simpa using hb
    rcases e' with z | z
    · rw [z]; exact ⟨_, he, fun v q => nomatch q⟩
    · rw [z]; exact ⟨o, ho, fun v q => by rw [hd] at q; cases q⟩
  keep := fun i h h' st k => by
    obtain ⟨⟨old, he⟩, hit, hne⟩ := st
    exact ⟨⟨old, k e (by simp) _ he⟩, hit.at fun o e => k it (by simp) o e, hne⟩
  item := by
    intro X hP hw hK hc i pins s σ H E I hf st hg
    subst hP hw hK
    obtain ⟨⟨old, he⟩, hit, hne, hai, hae⟩ := st
    obtain ⟨xs, x, hq, hx⟩ := hg
    obtain ⟨its, rv, p, hz⟩ := I.tuple hq
    obtain ⟨u, hu, ru⟩ := rv.get hx
    have hel : e < s.heap.objs.size := Heap.lt_size he
    have hil : it < s.heap.objs.size := by obtain ⟨_, q, _⟩ := hit; exact Heap.lt_size q
    have hlt : i < its.toArray.size := by
      have := (List.getElem?_eq_some_iff.mp hu).1
      rw [List.size_toArray]; exact this
    refine wpAny_pyNext_enum_itemD (Draws.tuple (A := X.A.in1) (I.ok.hd hc) it a hai its.toArray) he ⟨hit, show s.heap.IsTuple a its.toArray from p⟩ hlt hne (by simp; exact ⟨hne, Ne.symm hae⟩) fun x' h' tk hx' ho hit' hT hsz hk => ?_
    have ex : x' = u := by
      have : its[i]? = some x' := by simpa using hx'
      rw [hu] at this
      exact (Option.some.inj this).symm
    subst ex
    refine ⟨_, rfl, wpAny_letOwnedTupleGo_enum (s := { s with heap := h', toks := tk + 1 }) ho fun h'' he' sb => ?_⟩
    have hT2 : h''.get? s.heap.objs.size = some { cls := .type "tuple", data := .seq #[.int i tk, x'] } := (sb.2 _ (Nat.ne_of_gt hel)).trans hT
    have new : ObjOk X.prog X.w (upd H s.heap.objs.size (.tup [.int (i : Nat), x])) h'' s.heap.objs.size (.tup [.int (i : Nat), x]) :=
      ⟨by show 2 ≤ sizeLine; decide, [.int i tk, x'], .cons ⟨_, rfl⟩ (.cons ru .nil), ⟨_, hT2, rfl, _, rfl⟩⟩
    have I1 : Inv X pins σ (upd H s.heap.objs.size (.tup [.int (i : Nat), x])) { s with heap := h'', toks := tk + 1 } :=
      I.turnedNew (ch := [e, it]) (fun b ob hb q => (sb.2 b (fun z => hb (by simp [z]))).trans (hk b ob (fun z => hb (by simp [z])) (fun z => hb (by simp [z])) q)) hf (Nat.le_refl _) new
    refine ⟨.ref s.heap.objs.size, _, I1, rfl, ⟨_, x, rfl, I.hok.fresh (Nat.le_refl _), rfl, fun ys hy => by rw [I.tuple_inj hy hq]; exact hx⟩, ⟨⟨x', ?_⟩, hit'.1.at fun o q => (sb.2 it (Ne.symm hne)).trans q, hne, hai, hae⟩, fun b hb => ?_⟩
    · have e1 : ((i + 1 : Nat) : Int) = (i : Int) + 1 := by omega
      rw [e1]; exact he'
    · have hb' : b < s.heap.objs.size := by
        have e' : b = e ∨ b = it := by simpa using hb
        rcases e' with z | z
        · rw [z]; exact hel
        · rw [z]; exact hil
      rw [upd_ne (Nat.ne_of_lt hb')]
      exact (hf b hb).1
  done := by
    intro X hP hw hK hc i pins s σ H E I hf st hg
    subst hP hw hK
    obtain ⟨⟨old, he⟩, hit, hne, hai, hae⟩ := st
    obtain ⟨xs, hq, hx⟩ := hg
    obtain ⟨its, rv, p, hz⟩ := I.tuple hq
    obtain ⟨f0, f1, f2, f3, f4, f5⟩ := hf it (by simp)
    have hl := rv.length
    have ei : i = its.toArray.size := by rw [List.size_toArray]; omega
    subst ei
    exact wpAny_pyNext_enum_endD (Draws.tuple (A := X.A.in1) (I.ok.hd hc) it a hai its.toArray) he ⟨hit, show s.heap.IsTuple a its.toArray from p⟩ fun h' eb => ⟨rfl, I.turned (t' := s.toks) (fun b o hb q => eb b o hb q) f0 f1 f3 f4 f5⟩
  self := fun A i s Q E st h => let ⟨⟨_, he⟩, _⟩ := st; wpAny_pyIter_enum he h
def iEnumA (K : PySem.W.Frag) (ta : TA) : TI := fun σ H R => ta σ H fun vs H1 => ∃ a xs, vs = [.ref a] ∧ ((SqL K H1 a xs ∧ R (Ite K a) H1) ∨ (SqT K H1 a xs ∧ R (IteT K a) H1))
theorem pi_enumA {X : Cx} {e : Expr} {ta : TA} {p pos tpos : Pos} {elts : List Expr} {kk : Nat} (hg : Gl X "enumerate") (hm : X.mg "enumerate" = none) (ha : PA X [e] ta) (hs : starEach [e] X.env = [(false, eval e X.env)] := by rfl) :
    PI X (.Tuple elts kk tpos) (.Call (.Name "enumerate" p) [e] [] pos) (iEnumA X.K ta) := by
  refine ⟨fun pins s σ H R I h => ?_⟩
  refine Call_ (ld_blt I hg hm boot_enumerate (PyProof.Rows.callWith_type1 (thn (ha.run pos pins s σ H _ I h) fun us s1 ⟨vs, H1, I1, r1, q1⟩ => ?_) hs rfl))
  obtain ⟨a, xs, ex, q⟩ := q1
  subst ex
  cases r1 with
  | cons r rr =>
    cases rr
    cases r
    rcases q with ⟨hq, q⟩ | ⟨hq, q⟩
    · obtain ⟨its, rv, p', hz⟩ := I1.list hq
      refine call_enumerate_list p'.isList fun h' he hit hsz hk => wpAny_pyIter_enum he ?_
      have I2 : Inv X pins σ H1 { s1 with heap := h' } := I1.kept (t' := s1.toks) hk
      refine ⟨s1.heap.objs.size + 1, [s1.heap.objs.size + 1, s1.heap.objs.size], _, _, H1, rfl, I2, turn_enum a (s1.heap.objs.size + 1) s1.heap.objs.size, ⟨⟨.none, he⟩, hit, Nat.succ_ne_self _⟩, fun b hb => ?_, q⟩
      have e' : b = s1.heap.objs.size + 1 ∨ b = s1.heap.objs.size := by simpa using hb
      have hle : s1.heap.objs.size ≤ b := by
        rcases e' with z | z
        · rw [z]; exact Nat.le_add_right _ _
        · rw [z]; exact Nat.le_refl _
      exact I1.fpOk hle (I1.hok.fresh hle)
    · obtain ⟨its, rv, p', hz⟩ := I1.tuple hq
      have al : a < s1.heap.objs.size := p'.lt
      refine call_enumerate_tuple (show s1.heap.IsTuple a its.toArray from p') fun h' he hit hsz hk => wpAny_pyIter_enum he ?_
      have I2 : Inv X pins σ H1 { s1 with heap := h' } := I1.kept (t' := s1.toks) hk
      refine ⟨s1.heap.objs.size + 1, [s1.heap.objs.size + 1, s1.heap.objs.size], _, _, H1, rfl, I2, turn_enumT a (s1.heap.objs.size + 1) s1.heap.objs.size, ⟨⟨.none, he⟩, hit, Nat.succ_ne_self _, Nat.ne_of_lt al, Nat.ne_of_lt (Nat.lt_succ_of_lt al)⟩, fun b hb => ?_, q⟩
      have e' : b = s1.heap.objs.size + 1 ∨ b = s1.heap.objs.size := by simpa using hb
      have hle : s1.heap.objs.size ≤ b := by
        rcases e' with z | z
        · rw [z]; exact Nat.le_add_right _ _
        · rw [z]; exact Nat.le_refl _
      exact I1.fpOk hle (I1.hok.fresh hle)
/-- the pairs of place and item -/
def enumL (ds : List D) : List D := ds.mapIdx fun (i : Nat) d => .tuple [.int (i : Int), d]
theorem enumL_at {ds : List D} {i : Nat} {d : D} (h : ds[i]? = some d) : (enumL ds)[i]? = some (.tuple [.int (i : Int), d]) := by
  unfold enumL
  rw [List.getElem?_mapIdx, h] <;> rfl
theorem enumL_len {ds : List D} : (enumL ds).length = ds.length := by
  unfold enumL
  rw [List.length_mapIdx]
theorem wk_enumL {K : PySem.W.Frag} {F : Hp} {a : Addr} {vs : List V} {ds : List D} (r : Rd F a (.lst vs)) (h : DqAll K F vs ds) : Wk K (Ite K a) (enumL ds) F where
  go := fun i F1 H1 s s1 hi => by
    rw [enumL_len] at hi
    have hl : i < vs.length := by rw [DqAll_len h]; exact hi
    exact ⟨vs, vs[i], .inl (Rd_ext (s.trans s1) r), List.getElem?_eq_getElem hl⟩
  yld := fun i F1 H1 x H2 s s1 hi ⟨T, y, e, n, e2, q⟩ => by
    subst e
    subst e2
    obtain ⟨d, e1, e2⟩ := DqAll_at h (q vs (.inl (Rd_ext (s.trans s1) r)))
    have g := gr_laid s1 (o := .tup [.int (i : Nat), y]) n
    exact ⟨_, g, _, enumL_at e1, .tup (.inl (.of upd_same)) (.cons (.int _) (.cons (Dq_ext (s.trans g.f) e2) .nil))⟩
  stop := fun i F1 H1 s s1 hi => ⟨vs, .inl (Rd_ext (s.trans s1) r), by rw [DqAll_len h, ← enumL_len]; omega⟩
theorem wk_enumT {K : PySem.W.Frag} {F : Hp} {a : Addr} {vs : List V} {ds : List D} (r : SqT K F a vs) (h : DqAll K F vs ds) : Wk K (IteT K a) (enumL ds) F where
  go := fun i F1 H1 s s1 hi => by
    rw [enumL_len] at hi
    have hl : i < vs.length := by rw [DqAll_len h]; exact hi
    exact ⟨vs, vs[i], SqT_ext (s.trans s1) r, List.getElem?_eq_getElem hl⟩
  yld := fun i F1 H1 x H2 s s1 hi ⟨T, y, e, n, e2, q⟩ => by
    subst e
    subst e2
    obtain ⟨d, e1, e2⟩ := DqAll_at h (q vs (SqT_ext (s.trans s1) r))
    have g := gr_laid s1 (o := .tup [.int (i : Nat), y]) n
    exact ⟨_, g, _, enumL_at e1, .tup (.inl (.of upd_same)) (.cons (.int _) (.cons (Dq_ext (s.trans g.f) e2) .nil))⟩
  stop := fun i F1 H1 s s1 hi => ⟨vs, SqT_ext (s.trans s1) r, by rw [DqAll_len h, ← enumL_len]; exact hi.symm⟩
section
variable {X : Cx} {T : Tx} {W : WX} {e e1 e2 tg : Expr} {es : List Expr} {pos py p tpos : Pos} {fa : Cm (List D)} {kk : Nat}
def enumD : List D → Option (List D)
  | [.list xs] => some (enumL xs)
  | [.tuple xs] => some (enumL xs)
  | _ => none
theorem di_enum {elts : List Expr} (hg : Gl X "enumerate") (hm : X.mg "enumerate" = none) (ha : DA X T W [e] fa) (hs : starEach [e] X.env = [(false, eval e X.env)] := by rfl) : DI X T W (.Tuple elts kk tpos) (.Call (.Name "enumerate" p) [e] [] pos) (itD fa enumD) :=
  PI_imp (pi_enumA hg hm ha hs) fun σ H R ⟨G, ρ, F, rp, h⟩ => ⟨G, ρ, F, rp, h.bind.imp fun ds ρ1 F1 H1 s1 rp1 h1 vs hv => by
    obtain ⟨xs, e, h2⟩ := h1.lift
    unfold enumD at e
    split at e
    · cases e
      cases hv with
      | cons hx ht =>
        cases ht
        cases hx with
        | lst r a => exact ⟨_, _, rfl, .inl ⟨.inl (Rd_ext rp1.same r), h2.ret rp1 (.refl _) _ (wk_enumL r a)⟩⟩
    · cases e
      cases hv with
      | cons hx ht =>
        cases ht
        cases hx with
        | tup r a => exact ⟨_, _, rfl, .inr ⟨SqT_ext rp1.same r, h2.ret rp1 (.refl _) _ (wk_enumT r a)⟩⟩
    · cases e⟩
/-! zip of two lists, of two tuples -/
def zipL (xs ys : List D) : List D := List.zipWith (fun a b => .tuple [a, b]) xs ys
def zipD : List D → Option (List D)
  | [.list xs, .list ys] => some (zipL xs ys)
  | [.tuple xs, .tuple ys] => some (zipL xs ys)
  | _ => none
theorem zipL_at {xs ys : List D} {i : Nat} {a b : D} (h1 : xs[i]? = some a) (h2 : ys[i]? = some b) : (zipL xs ys)[i]? = some (.tuple [a, b]) := by
  unfold zipL
  rw [List.getElem?_zipWith, h1, h2]
theorem zipL_len {xs ys : List D} : (zipL xs ys).length = min xs.length ys.length := by
  unfold zipL
  rw [List.length_zipWith]
theorem wk_zipL {K : PySem.W.Frag} {F : Hp} {a b : Addr} {vs ws : List V} {ds es : List D} (r : Rd F a (.lst vs)) (h : DqAll K F vs ds) (r2 : Rd F b (.lst ws)) (h2 : DqAll K F ws es) : Wk K (Itz K a b) (zipL ds es) F where
  go := fun i F1 H1 s s1 hi => by
    rw [zipL_len] at hi
    have hl : i < vs.length := by rw [DqAll_len h]; omega
    have hl2 : i < ws.length := by rw [DqAll_len h2]; omega
    exact ⟨vs, ws, vs[i], ws[i], .inl (Rd_ext (s.trans s1) r), .inl (Rd_ext (s.trans s1) r2), List.getElem?_eq_getElem hl, List.getElem?_eq_getElem hl2⟩
  yld := fun i F1 H1 x H2 s s1 hi ⟨T, y, z, e, n, e2, q, q2⟩ => by
    subst e
    subst e2
    obtain ⟨d, e1, e2⟩ := DqAll_at h (q vs (.inl (Rd_ext (s.trans s1) r)))
    obtain ⟨d2, e3, e4⟩ := DqAll_at h2 (q2 ws (.inl (Rd_ext (s.trans s1) r2)))
    have g := gr_laid s1 (o := .tup [y, z]) n
    exact ⟨_, g, _, zipL_at e1 e3, .tup (.inl (.of upd_same)) (.cons (Dq_ext (s.trans g.f) e2) (.cons (Dq_ext (s.trans g.f) e4) .nil))⟩
  stop := fun i F1 H1 s s1 hi => ⟨vs, ws, .inl (Rd_ext (s.trans s1) r), .inl (Rd_ext (s.trans s1) r2), by rw [zipL_len] at hi; rw [DqAll_len h, DqAll_len h2]; omega⟩
theorem wk_zipT {K : PySem.W.Frag} {F : Hp} {a b : Addr} {vs ws : List V} {ds es : List D} (r : SqT K F a vs) (h : DqAll K F vs ds) (r2 : SqT K F b ws) (h2 : DqAll K F ws es) : Wk K (RZ.ItzT K a b) (zipL ds es) F where
  go := fun i F1 H1 s s1 hi => by
    rw [zipL_len] at hi
    have hl : i < vs.length := by rw [DqAll_len h]; omega
    have hl2 : i < ws.length := by rw [DqAll_len h2]; omega
    exact ⟨vs, ws, vs[i], ws[i], SqT_ext (s.trans s1) r, SqT_ext (s.trans s1) r2, List.getElem?_eq_getElem hl, List.getElem?_eq_getElem hl2⟩
  yld := fun i F1 H1 x H2 s s1 hi ⟨T, y, z, e, n, e2, q, q2⟩ => by
    subst e
    subst e2
    obtain ⟨d, e1, e2⟩ := DqAll_at h (q vs (SqT_ext (s.trans s1) r))
    obtain ⟨d2, e3, e4⟩ := DqAll_at h2 (q2 ws (SqT_ext (s.trans s1) r2))
    have g := gr_laid s1 (o := .tup [y, z]) n
    exact ⟨_, g, _, zipL_at e1 e3, .tup (.inl (.of upd_same)) (.cons (Dq_ext (s.trans g.f) e2) (.cons (Dq_ext (s.trans g.f) e4) .nil))⟩
  stop := fun i F1 H1 s s1 hi => ⟨vs, ws, SqT_ext (s.trans s1) r, SqT_ext (s.trans s1) r2, by rw [zipL_len] at hi; rw [DqAll_len h, DqAll_len h2]; omega⟩
theorem di_zip {elts : List Expr} (hg : Gl X "zip") (hm : X.mg "zip" = none) (ha : DA X T W [e1, e2] fa) (hs : starEach [e1, e2] X.env = (false, eval e1 X.env) :: starEach [e2] X.env := by rfl) (hpl : (backTo pos (starEach [e2] X.env)).any (·.1) = false := by rfl) : DI X T W (.Tuple elts kk tpos) (.Call (.Name "zip" p) [e1, e2] [] pos) (itD fa zipD) :=
  PI_imp (RZ.pi_zipA hg hm ha hs hpl) fun σ H R ⟨G, ρ, F, rp, h⟩ => ⟨G, ρ, F, rp, h.bind.imp fun ds ρ1 F1 H1 s1 rp1 h1 vs hv => by
    obtain ⟨xs, e, h2⟩ := h1.lift
    unfold zipD at e
    split at e
    · cases e
      cases hv with
      | cons hx ht => cases ht with
        | cons hy ht =>
          cases ht
          cases hx with
          | lst r a => cases hy with
            | lst r2 a2 => exact ⟨_, _, _, _, rfl, .inl ⟨.inl (Rd_ext rp1.same r), .inl (Rd_ext rp1.same r2), h2.ret rp1 (.refl _) _ (wk_zipL r a r2 a2)⟩⟩
    · cases e
      cases hv with
      | cons hx ht => cases ht with
        | cons hy ht =>
          cases ht
          cases hx with
          | tup r a => cases hy with
            | tup r2 a2 => exact ⟨_, _, _, _, rfl, .inr ⟨SqT_ext rp1.same r, SqT_ext rp1.same r2, h2.ret rp1 (.refl _) _ (wk_zipT r a r2 a2)⟩⟩
    · cases e⟩
end
end PL
end S_PLI

section S_PLR
namespace PL
open PySem PySem.Spec PyProof.Rows L2

/-! ### equal data -/
mutual
def deq : D → D → Bool
  | .none, .none => true
  | .bool a, .bool b => a == b
  | .int a, .int b => a == b
  | .str a, .str b => a == b
  | .list a, .list b => deqs a b
  | .tuple a, .tuple b => deqs a b
  | _, _ => false
def deqs : List D → List D → Bool
  | [], [] => true
  | a :: as, b :: bs => deq a b && deqs as bs
  | _, _ => false
end
mutual
theorem deq_eq : ∀ {a b : D}, deq a b = true → a = b
  | .none, .none, _ => rfl
  | .bool a, .bool b, h => by unfold deq at h; rw [eq_of_beq h]
  | .int a, .int b, h => by unfold deq at h; rw [eq_of_beq h]
  | .str a, .str b, h => by unfold deq at h; rw [eq_of_beq h]
  | .list a, .list b, h => by unfold deq at h; rw [deqs_eq h]
  | .tuple a, .tuple b, h => by unfold deq at h; rw [deqs_eq h]
theorem deqs_eq : ∀ {a b : List D}, deqs a b = true → a = b
  | [], [], _ => rfl
  | a :: as, b :: bs, h => by
    unfold deqs at h
    obtain ⟨h1, h2⟩ := Bool.and_eq_true_iff.mp h
    rw [deq_eq h1, deqs_eq h2]
end
mutual
def noDict : D → Bool
  | .list a => noDicts a
  | .tuple a => noDicts a
  | .dict _ => false
  | _ => true
def noDicts : List D → Bool
  | [] => true
  | a :: as => noDict a && noDicts as
end
mutual
theorem deq_refl : ∀ {a : D}, noDict a = true → deq a a = true
  | .none, _ => rfl
  | .bool a, _ => by unfold deq; exact beq_self_eq_true a
  | .int a, _ => by unfold deq; exact beq_self_eq_true a
  | .str a, _ => by unfold deq; exact beq_self_eq_true a
  | .list a, h => by unfold deq; unfold noDict at h; exact deqs_refl h
  | .tuple a, h => by unfold deq; unfold noDict at h; exact deqs_refl h
  | .dict _, h => by unfold noDict at h; cases h
theorem deqs_refl : ∀ {a : List D}, noDicts a = true → deqs a a = true
  | [], _ => rfl
  | a :: as, h => by
    unfold noDicts at h
    obtain ⟨h1, h2⟩ := Bool.and_eq_true_iff.mp h
    unfold deqs
    rw [deq_refl h1, deqs_refl h2] <;> rfl
end

/-! ### repr: how long it may be -/
mutual
def wt : D → Nat
  | .none => 4
  | .bool _ => 5
  | .int _ => 2000
  | .str x => (reprText x).length
  | .list xs => 4 + wts xs
  | .tuple xs => 4 + wts xs
  | .dict _ => 0
def wts : List D → Nat
  | [] => 0
  | x :: xs => wt x + 2 + wts xs
end
theorem textFrom_le : ∀ (ts : List Str) (k : Nat) (acc : Str), (textFrom k acc ts).length ≤ acc.length + piled ts
  | [], k, acc => by show acc.length ≤ _; omega
  | t :: r, k, acc => by
    have h := textFrom_le r (k + 1) (acc ++ (if k > 0 then ", " else "" : String) ++ t)
    have e : (acc ++ (if k > 0 then ", " else "" : String) ++ t).length = acc.length + (if k > 0 then 2 else 0) + t.length := by
      rw [strLen_append, strLen_append]
      split <;> rfl
    show (textFrom (k + 1) (acc ++ (if k > 0 then ", " else "" : String) ++ t) r).length ≤ _
    rw [piled_cons]
    rw [e] at h
    have hh : (if k > 0 then 2 else 0) ≤ 2 := by split <;> omega
    omega
theorem listText_le (ts : List Str) : (listText ts).length ≤ 4 + piled ts := by
  have h := textFrom_le ts 0 "["
  have e : ("[" : Str).length = 1 := rfl
  have e2 : ("]" : Str).length = 1 := rfl
  unfold listText
  rw [strLen_append, e2]
  omega
theorem tupleText_le (ts : List Str) : (tupleText ts).length ≤ 4 + piled ts := by
  unfold tupleText
  rw [strLen_append, strLen_append]
  have e : ("(" : Str).length = 1 := rfl
  have e2 : ((if ts.length == 1 then ",)" else ")" : String) : Str).length ≤ 2 := by split <;> decide
  have e3 : (Str.join ", " ts).length ≤ piled ts := by
    cases ts with
    | nil => decide
    | cons t r =>
      have := join_length_add (t :: r) (by simp)
      omega
  omega
mutual
theorem shown_le : ∀ (d : D), d.showable = true → d.hasDict = false → d.shown.length ≤ wt d
  | .none, _, _ => by unfold PyData.shown wt; decide
  | .bool b, _, _ => by unfold PyData.shown wt; cases b <;> decide
  | .int i, h, _ => by
    unfold PyData.showable at h
    have h1 := int_text_length_le (a := i) (k := 1920) (by decide) (of_decide_eq_true h)
    unfold PyData.shown wt
    show (Str.ofString (toString i)).length ≤ 2000
    rw [PySem.ofString_length]
    omega
  | .str x, _, _ => by unfold PyData.shown wt; exact Nat.le_refl _
  | .list xs, h, hd => by
    unfold PyData.shown wt
    have h1 := shownAll_le xs (by unfold PyData.showable at h; exact h) (by unfold PyData.hasDict at hd; exact hd)
    have h2 := listText_le (PyData.shownAll xs)
    omega
  | .tuple xs, h, hd => by
    unfold PyData.shown wt
    have h1 := shownAll_le xs (by unfold PyData.showable at h; exact h) (by unfold PyData.hasDict at hd; exact hd)
    have h2 := tupleText_le (PyData.shownAll xs)
    omega
  | .dict _, _, hd => by unfold PyData.hasDict at hd; cases hd
theorem shownAll_le : ∀ (ds : List D), PyData.showableAll ds = true → PyData.hasDictAll ds = false → piled (PyData.shownAll ds) ≤ wts ds
  | [], _, _ => by unfold PyData.shownAll; rw [piled_nil]; exact Nat.zero_le _
  | d :: ds, h, hd => by
    unfold PyData.showableAll at h
    unfold PyData.hasDictAll at hd
    obtain ⟨h1, h2⟩ := Bool.and_eq_true_iff.mp h
    obtain ⟨d1, d2⟩ := Bool.or_eq_false_iff.mp hd
    have q1 := shown_le d h1 d1
    have q2 := shownAll_le ds h2 d2
    unfold PyData.shownAll wts
    rw [piled_cons]
    omega
end
def okRep (d : D) : Bool := (match d with | .list _ => true | .tuple _ => true | _ => false) && d.showable && !d.hasDict && decide (d.depth ≤ 64) && decide (wt d ≤ 16777216)
structure OkRep (d : D) : Prop where
  top : (∃ xs, d = .list xs) ∨ ∃ xs, d = .tuple xs
  sh : d.showable = true
  hd : d.hasDict = false
  dp : d.depth ≤ 64
  wt : d.shown.length ≤ sizeLine
theorem okRep_ok {d : D} (h : okRep d = true) : OkRep d := by
  unfold okRep at h
  simp only [Bool.and_eq_true, Bool.not_eq_true', decide_eq_true_eq] at h
  obtain ⟨⟨⟨⟨h1, h2⟩, h3⟩, h4⟩, h5⟩ := h
  refine ⟨?_, h2, h3, h4, ?_⟩
  · cases d <;> first | exact .inl ⟨_, rfl⟩ | exact .inr ⟨_, rfl⟩ | cases h1
  · rw [sizeLine_eq]
    exact Nat.le_trans (shown_le d h2 h3) h5
section
variable {X : Cx}
def rReprD (K : PySem.W.Frag) : List V → Hp → VK → Prop := fun xs H Q => ∃ v d, xs = [v] ∧ Dp K H v d ∧ OkRep d ∧ Q (.str d.shown) H
theorem cr_repr {k : Nat} (hr : Room k X.A) (hg : X.A.guards = some []) : CallR X (.builtin "repr") (rReprD X.K) := by
  intro pins s σ H xs us Q I r h
  obtain ⟨v, d, rfl, hd, ok, q⟩ := h
  obtain ⟨u, rfl, ru⟩ := vals1 r
  obtain ⟨as, rd⟩ := Dp.reads I d v u hd ru
  have hu := hr.un
  have : ∃ a, u = .ref a := by
    rcases ok.top with ⟨xs, rfl⟩ | ⟨xs, rfl⟩
    · cases hd <;> exact ⟨_, ru⟩
    · cases hd <;> exact ⟨_, ru⟩
  obtain ⟨a, rfl⟩ := this
  refine repr_of_reads' rd ok.sh (fun z => by rw [ok.hd] at z; cases z) hg ?_ (fun b o e => e) (fun h' u tk k => ⟨.str _, H, I.kept k, ⟨u, rfl⟩, q⟩) ok.wt
  have := ok.dp
  omega
def reprD : List D → Option D
  | [d] => if okRep d then some (.str d.shown) else none
  | _ => none
theorem cd_repr {K : PySem.W.Frag} : CaD K (rReprD K) reprD := fun F H xs ds z Q s h1 h3 h4 => by
  match ds, h1, h3 with
  | [d], h1, h3 =>
    obtain ⟨v, rfl, h⟩ := h1.one
    simp only [reprD] at h3
    split at h3
    · rename_i hz
      cases h3
      exact ⟨v, d, rfl, h.dp s, okRep_ok hz, h4 F H _ (.refl s) (.str _)⟩
    · cases h3
/-- repr(a) against repr(b): told where a is b -/
def repM (f g : Cm D) (r : Bool) : Cm Bool := bnd f fun a => if okRep a then bnd g fun b => if deq a b then ret r else fun _ => .no else fun _ => .no
end
section
variable {X : Cx} {T : Tx} {W : WX} {e e1 e2 tg : Expr} {es : List Expr} {pos py p p1 p2 q1 q2 : Pos} {f g : Cm D} {fa : Cm (List D)} {i k : Nat} {x y : Str} {ft : Cm Bool}
theorem dt_repr {op : CmpOp} {r : Bool} (ho : (op = .Eq ∧ r = true) ∨ (op = .NotEq ∧ r = false)) (hr : Room k X.A) (hgd : X.A.guards = some []) (hg : Gl X "repr") (hm : X.mg "repr" = none) (ha : DE X T W e1 f) (hb : DE X T W e2 g)
    (h1 : starEach (e1 :: []) X.env = (false, eval e1 X.env) :: starEach [] X.env := by rfl) (h2 : starEach (e2 :: []) X.env = (false, eval e2 X.env) :: starEach [] X.env := by rfl) :
    DT X T W (.Compare (.Call (.Name "repr" p1) [e1] [] q1) [op] [.Call (.Name "repr" p2) [e2] [] q2] pos) (repM f g r) := by
  have c1 := de_caB (W := W) (pos := q1) (px := p1) (T := T) (cr_repr hr hgd) cd_repr hg hm (by rfl) (da_cons ha da_nil h1) (he := h1)
  have c2 := de_caB (W := W) (pos := q2) (px := p2) (T := T) (cr_repr hr hgd) cd_repr hg hm (by rfl) (da_cons hb da_nil h2) (he := h2)
  have key : DT X T W (.Compare (.Call (.Name "repr" p1) [e1] [] q1) [op] [.Call (.Name "repr" p2) [e2] [] q2] pos) (tru (o2 (caM (argC f argN) reprD) (caM (argC g argN) reprD) (if r then eqD else neD))) := by
    rcases ho with ⟨rfl, rfl⟩ | ⟨rfl, rfl⟩
    · exact dt_cmp (op_eq.or (op_eqD hr.units)) od_eq (nomark _) c1 c2
    · exact dt_cmp (op_ne.or (op_neD hr.units)) od_ne (nomark _) c1 c2
  refine PT_imp key fun σ H Q ⟨G, ρ, F, rp, h⟩ => ⟨G, ρ, F, rp, ?_⟩
  unfold repM bnd at h
  cases q1 : f ρ with
  | no => rw [q1] at h; exact (show False from h).elim
  | ex x ρ1 =>
    rw [q1] at h
    have e : tru (o2 (caM (argC f argN) reprD) (caM (argC g argN) reprD) (if r then eqD else neD)) ρ = .ex x ρ1 := by
      unfold tru o2 caM argC bnd
      rw [q1] <;> rfl
    rw [e]
    exact h
  | ok a ρ1 =>
    rw [q1] at h
    change Rs X.K T X.mg W G F σ ((if okRep a then bnd g fun b => if deq a b then ret r else fun _ => .no else fun _ => .no : Cm Bool) ρ1) _ at h
    by_cases ho : okRep a = true
    · rw [if_pos ho] at h
      unfold bnd at h
      cases q2 : g ρ1 with
      | no => rw [q2] at h; exact (show False from h).elim
      | ex x ρ2 =>
        rw [q2] at h
        have e : tru (o2 (caM (argC f argN) reprD) (caM (argC g argN) reprD) (if r then eqD else neD)) ρ = .ex x ρ2 := by
          unfold tru o2 caM argC bnd
          rw [q1]
          simp only [R.bind, argN, ret, reprD, ho, if_true, lift, q2]
        rw [e]
        exact h
      | ok b ρ2 =>
        rw [q2] at h
        change Rs X.K T X.mg W G F σ ((if deq a b then ret r else fun _ => .no : Cm Bool) ρ2) _ at h
        by_cases hd : deq a b = true
        · have eab := deq_eq hd
          subst eab
          rw [if_pos hd] at h
          have e : tru (o2 (caM (argC f argN) reprD) (caM (argC g argN) reprD) (if r then eqD else neD)) ρ = .ok r ρ2 := by
            unfold tru o2 caM argC bnd
            rw [q1]
            simp only [R.bind, argN, ret, reprD, ho, if_true, lift, q2]
            cases r
            · simp only [Bool.false_eq_true, if_false, neD, beq_self_eq_true, lift, ret, Bool.not_true]
            · simp only [if_true, eqD, beq_self_eq_true, lift, ret]
          rw [e]
          exact h
        · rw [if_neg hd] at h
          exact (show False from h).elim
    · rw [if_neg ho] at h
      exact (show False from h).elim
end
end PL
end S_PLR

section S_PLU
namespace PL
open PySem PySem.Spec PyProof.Rows L2

/-! ### isinstance -/
inductive Ty5 where
  | int | bool | str | list | tuple
def Ty5.nm : Ty5 → String
  | .int => "int"
  | .bool => "bool"
  | .str => "str"
  | .list => "list"
  | .tuple => "tuple"
def isaT : Ty5 → D → Bool
  | .int, .int _ => true
  | .int, .bool _ => true
  | .bool, .bool _ => true
  | .str, .str _ => true
  | .list, .list _ => true
  | .tuple, .tuple _ => true
  | _, _ => false
def tyN : D → String
  | .none => "NoneType"
  | .bool _ => "bool"
  | .int _ => "int"
  | .str _ => "str"
  | .list _ => "list"
  | .tuple _ => "tuple"
  | .dict _ => "dict"
def isiD (t : Ty5) : D → Option D
  | .dict _ => none
  | d => some (.bool (isaT t d))
def isiM (f : Cm D) (t : Ty5) : Cm D := o1 f (isiD t)
theorem kit_nn (t : Ty5) : kitB "NoneType" t.nm = some false := by cases t <;> decide +kernel
theorem kit_bl (t : Ty5) : kitB "bool" t.nm = some (isaT t (.bool true)) := by cases t <;> decide +kernel
theorem kit_in (t : Ty5) : kitB "int" t.nm = some (isaT t (.int 0)) := by cases t <;> decide +kernel
theorem kit_st (t : Ty5) : kitB "str" t.nm = some (isaT t (.str "")) := by cases t <;> decide +kernel
theorem kit_ls (t : Ty5) : kitB "list" t.nm = some (isaT t (.list [])) := by cases t <;> decide +kernel
theorem kit_tp (t : Ty5) : kitB "tuple" t.nm = some (isaT t (.tuple [])) := by cases t <;> decide +kernel
theorem kit_of_d (t : Ty5) (d : D) (n : ∀ kvs, d ≠ .dict kvs) : kitB (tyN d) t.nm = some (isaT t d) := by
  cases d with
  | none => exact (kit_nn t).trans (by cases t <;> rfl)
  | bool b => exact (kit_bl t).trans (by cases t <;> rfl)
  | int i => exact (kit_in t).trans (by cases t <;> rfl)
  | str x => exact (kit_st t).trans (by cases t <;> rfl)
  | list x => exact (kit_ls t).trans (by cases t <;> rfl)
  | tuple x => exact (kit_tp t).trans (by cases t <;> rfl)
  | dict kvs => exact absurd rfl (n kvs)
theorem ty_of {K : PySem.W.Frag} {F H : Hp} {v : V} {d : D} (h : Dq K F v d) (s : Same F H) : TyX K H v (.type (tyN d)) := by
  cases h with
  | non => exact .base .non
  | bl b => exact .base (.bl b)
  | int i => exact .base (.int i)
  | str x => exact .base (.str x)
  | lst r a =>
    rcases Rd_ext s r with e | ⟨o, e⟩
    · exact .base (.lst e)
    · exact .base (.frz e)
  | tup r a =>
    rcases SqT_ext s r with (e | ⟨o, e⟩) | ⟨o, its, n, e, c, _⟩
    · exact .base (.tup e)
    · exact .fTuple e
    · exact .kTuple e c
section
variable {X : Cx} {T : Tx} {W : WX} {e e1 e2 tg : Expr} {es : List Expr} {pos py p px p1 p2 : Pos} {f g : Cm D} {fa fk : Cm (List D)} {i k : Nat} {x y nm : Str}
theorem de_isi (t : Ty5) (hg : Gl X "isinstance") (hm : X.mg "isinstance" = none) (hg2 : Gl X nm) (hm2 : X.mg nm = none) (hv2 : bootBuiltins nm = some (.type t.nm)) (ha : DE X T W e f) (hn : nm ≠ "__name__" := by decide) (hdb : (nm == ("__debug__" : Str)) = false := by decide)
    (he : starEach (e :: [.Name nm p2]) X.env = (false, eval e X.env) :: starEach [.Name nm p2] X.env := by rfl) (he2 : starEach (.Name nm p2 :: []) X.env = (false, eval (.Name nm p2) X.env) :: starEach [] X.env := by rfl) (hpl : (backTo pos (starEach [.Name nm p2] X.env)).any (·.1) = false := by rfl) :
    DE X T W (.Call (.Name "isinstance" p1) [e, .Name nm p2] [] pos) (isiM f t) :=
  PE_imp (pe_callB call_isi hg hm (by rfl) (pa_cons ha (pa_cons (pe_bltn (v := .ty t.nm) (pos := p2) hg2 hm2 hv2 rfl hn hdb) pa_nil he2) he) (he := he) (hpl := hpl)) fun σ H Q ⟨G, ρ, F, rp, h⟩ => ⟨G, ρ, F, rp, h.bind.imp fun a ρ1 F1 H1 s1 rp1 h1 v hv => by
    obtain ⟨z, e, h4⟩ := h1.lift
    have n : ∀ kvs, a ≠ .dict kvs := fun kvs z => by subst z; cases hv
    have e' : z = .bool (isaT t a) := by cases a <;> first | exact (Option.some.inj e).symm | exact absurd rfl (n _)
    subst e'
    exact ⟨v, .ty t.nm, _, _, _, rfl, .ty _, ty_of hv rp1.same, kit_ty (kit_of_d t a n), h4.ret rp1 (.refl _) _ (.bl _)⟩⟩

/-! ### calls with keywords: every parameter is given -/
def pickL {α : Type} (idx : List Nat) (l : List α) : List α := idx.filterMap (l[·]?)
theorem pick_vals {xs : List V} {us : List Value} (h : Vals xs us) : ∀ idx : List Nat, Vals (pickL idx xs) (pickL idx us)
  | [] => .nil
  | i :: idx => by
    have ih := pick_vals h idx
    unfold pickL at ih ⊢
    cases e : xs[i]? with
    | none =>
      have e2 : us[i]? = none := by
        rw [List.getElem?_eq_none_iff] at e ⊢
        rw [← h.length]; exact e
      rw [List.filterMap_cons_none e, List.filterMap_cons_none e2]
      exact ih
    | some v =>
      obtain ⟨u, hu, ru⟩ := h.get e
      rw [List.filterMap_cons_some e, List.filterMap_cons_some hu]
      exact .cons ru ih
theorem pick_dq {K : PySem.W.Frag} {F : Hp} {xs : List V} {ds : List D} (h : DqAll K F xs ds) : ∀ idx : List Nat, DqAll K F (pickL idx xs) (pickL idx ds)
  | [] => .nil
  | i :: idx => by
    have ih := pick_dq h idx
    unfold pickL at ih ⊢
    cases e : xs[i]? with
    | none =>
      have e2 : ds[i]? = none := by
        rw [List.getElem?_eq_none_iff] at e ⊢
        rw [← DqAll_len h]; exact e
      rw [List.filterMap_cons_none e, List.filterMap_cons_none e2]
      exact ih
    | some v =>
      obtain ⟨u, hu, ru⟩ := DqAll_at h e
      rw [List.filterMap_cons_some e, List.filterMap_cons_some hu]
      exact .cons ru ih
structure KwB (K : PySem.W.Frag) (fd : FuncData) (ps ks : List Str) (na nb : Nat) (idx : List Nat) : Prop where
  to : ∀ (s : Shared) (us ws : List Value), K.In s.heap → us.length = na → ws.length = nb → BindsTo s fd ⟨us, ks.zip ws⟩ (ps.zip (pickL idx (us ++ ws)))
theorem fun_kws {K : PySem.W.Frag} {x qual : Str} {st : Stmt} {f : Addr} {fd : FuncData} {ps ks : List Str} {na nb : Nat} {idx : List Nat} (F : Fun K x qual st f fd)
    (h : ∀ (kV doc pm : Value) (an : Option Addr) (cdv ct : Value) (us ws : List Value), us.length = na → ws.length = nb → bindArgs (PySem.W.fnOf x qual (defArgs st) (defBody st) (defScope st) .none kV doc pm an cdv ct) ⟨us, ks.zip ws⟩ = pure (ps.zip (pickL idx (us ++ ws)))) : KwB K fd ps ks na nb idx := by
  obtain ⟨oc, od, kV, doc, pm, an, cdv, ct, osl, rfl, lk, hcd⟩ := F.ex
  exact ⟨fun s us ws _ h1 h2 => BindsTo.of_eq (h kV doc pm an cdv ct us ws h1 h2)⟩
abbrev DK (X : Cx) (T : Tx) (W : WX) (kws : List Keyword) (f : Cm (List D)) : Prop := PK X kws (tA X.K T X.mg W f)
theorem PK_imp {kws : List Keyword} {a a' : TA} (h : PK X kws a) (i : ∀ σ H Q, a' σ H Q → a σ H Q) : PK X kws a' := ⟨fun pos pins s σ H Q I q => h.run pos pins s σ H Q I (i σ H Q q)⟩
theorem dk_nil : DK X T W [] argN := PK_imp pk_nil fun σ H Q ⟨G, ρ, F, rp, h⟩ => h.ret rp (.refl _) _ .nil
theorem dk_cons {kws : List Keyword} {n : Option Str} {kp : Pos} (ha : DE X T W e f) (hr : DK X T W kws fk) : DK X T W (⟨n, e, kp⟩ :: kws) (argC f fk) :=
  PK_imp (pk_cons ha hr) fun σ H Q ⟨G, ρ, F, rp, h⟩ => ⟨G, ρ, F, rp, h.bind.imp fun a ρ1 F1 H1 s1 rp1 h1 v hv => ⟨G, ρ1, F1, rp1, h1.bind.imp fun as ρ2 F2 H2 s2 rp2 h2 vs hvs => h2.ret rp2 (.refl _) _ (.cons (Dq_ext s2 hv) hvs)⟩⟩
def kwA (na nb : Nat) (idx : List Nat) (as ks : List D) : Option (List D) := if as.length = na ∧ ks.length = nb then some (pickL idx (as ++ ks)) else none
def callK (n : Nat) (fm : Fm) (na nb : Nat) (idx : List Nat) (fa fk : Cm (List D)) : Cm Vl := callP n fm (bnd fa fun as => bnd fk fun ks => lift (kwA na nb idx as ks))
variable {f0 : Addr} {fd : FuncData} {ps ks : List Str} {fm : Fm} {kws : List Keyword} {na nb : Nat} {idx : List Nat}
theorem kwA_inv {as ks ds : List D} (h : kwA na nb idx as ks = some ds) : as.length = na ∧ ks.length = nb ∧ ds = pickL idx (as ++ ks) := by
  unfold kwA at h
  split at h
  · rename_i z; cases h; exact ⟨z.1, z.2, rfl⟩
  · cases h
theorem ve_callK (C : CallAt X T W x k f0 fd ps fm) (hg : Gl X x) (hb : KwB X.K fd ps ks na nb idx) (ha : DA X T W (e :: es) fa) (hkw : DK X T W kws fk) (hall : (backToKw pos (keywordEach kws X.env)).all (·.1.isSome) = true := by rfl) (hks : (backToKw pos (keywordEach kws X.env)).filterMap (·.1) = ks := by rfl)
    (hdb : (x == ("__debug__" : Str)) = false := by decide) (he : starEach (e :: es) X.env = (false, eval e X.env) :: starEach es X.env := by rfl)
    (hpl : ((backTo pos (starEach (e :: es) X.env)).any (·.1) || (backToKw pos (keywordEach kws X.env)).any (·.1.isNone)) = false := by rfl) :
    VE X T W (.Call (.Name x p) (e :: es) kws pos) (callK ps.length fm na nb idx fa fk) := by
  refine ⟨fun pins s σ H Q I ⟨G, ρ, F, rp, h⟩ => ?_⟩
  refine wpAny_Call_Name_kw (ld_glob I hg C.hm ?_ hdb)
  refine PySem.W.callWith_KW (h₀ := X.base) I.ok.mod.kin C.hk hall (thn (ha.run pos pins s σ H (fun vs H1 => tA X.K T X.mg W fk σ H1 fun zs H2 => (vs.length = na ∧ zs.length = nb) ∧ spM X.K X.mg T.tabs ps.length fm (pickL idx (vs ++ zs)) H2 Q (WE W σ)) I ⟨G, ρ, F, rp, h.bind.bind.imp fun as ρ1 F1 H1 s1 rp1 h1 vs hv => ⟨G, ρ1, F1, rp1, h1.bind.imp fun zs ρ2 F2 H2 s2 rp2 h2 ws hw => by
    obtain ⟨ds, e, h3⟩ := h2.lift
    obtain ⟨e1, e2, rfl⟩ := kwA_inv e
    exact ⟨⟨(DqAll_len hv).trans e1, (DqAll_len hw).trans e2⟩, sp_P rp2 (pick_dq (DqAll_append (DqAll_ext s2 hv) hw) idx) (h3.ret rp2 (.refl _))⟩⟩⟩) fun us s1 ⟨vs, H1, I1, r, q⟩ => ?_) hpl he
  refine thn (hkw.run pos pins s1 σ H1 _ I1 q) fun ws s2 ⟨zs, H2, I2, rz, q2⟩ => ⟨I2.kIn, ?_⟩
  rw [hks]
  exact run_fnG C.fn C.hr C.hgd (hb.to s2 us ws I2.kIn (by rw [← r.length]; exact q2.1.1) (by rw [← rz.length]; exact q2.1.2)) C.tk I2 (pick_vals (r.append rz) idx) q2.2
theorem ve_callK0 (C : CallAt X T W x k f0 fd ps fm) (hg : Gl X x) (hb : KwB X.K fd ps ks 0 nb idx) (hkw : DK X T W kws fk) (hall : (backToKw pos (keywordEach kws X.env)).all (·.1.isSome) = true := by rfl) (hks : (backToKw pos (keywordEach kws X.env)).filterMap (·.1) = ks := by rfl)
    (hdb : (x == ("__debug__" : Str)) = false := by decide)
    (hpl : ((backTo pos (starEach [] X.env)).any (·.1) || (backToKw pos (keywordEach kws X.env)).any (·.1.isNone)) = false := by rfl) :
    VE X T W (.Call (.Name x p) [] kws pos) (callK ps.length fm 0 nb idx argN fk) := by
  refine ⟨fun pins s σ H Q I ⟨G, ρ, F, rp, h⟩ => ?_⟩
  refine wpAny_Call_Name_kw (ld_glob I hg C.hm ?_ hdb)
  refine PySem.W.callWith_KW0 (h₀ := X.base) I.ok.mod.kin C.hk hall (thn (hkw.run pos pins s σ H (fun zs H2 => zs.length = nb ∧ spM X.K X.mg T.tabs ps.length fm (pickL idx zs) H2 Q (WE W σ)) I ⟨G, ρ, F, rp, (show Rs X.K T X.mg W G F σ (bnd fk (fun ks => lift (kwA 0 nb idx [] ks)) ρ) _ from h.bind.bind.ret rp (.refl _)).bind.imp fun zs ρ2 F2 H2 s2 rp2 h2 ws hw => by
    obtain ⟨ds, e, h3⟩ := h2.lift
    obtain ⟨e1, e2, rfl⟩ := kwA_inv e
    exact ⟨(DqAll_len hw).trans e2, sp_P rp2 (pick_dq hw idx) (h3.ret rp2 (.refl _))⟩⟩) fun ws s2 ⟨zs, H2, I2, rz, q2⟩ => ⟨I2.kIn, ?_⟩) hpl
  rw [hks]
  exact run_fnG (us := []) C.fn C.hr C.hgd (hb.to s2 [] ws I2.kIn rfl (by rw [← rz.length]; exact q2.1)) C.tk I2 (pick_vals rz idx) q2.2

/-! ### stores into an owned list, its methods -/
/-- the list of slot i is given another content -/
def wrO (i : Nat) (o : List D → Option (List D)) : Cm Unit := fun ρ => match ρ[i]? with
  | some (.own xs b) => match o xs with
    | some ys => .ok () (ρ.set i (.own ys b))
    | none => .no
  | _ => .no
def putD (xs : List D) (d : D) : D → Option (List D)
  | .int j => (ixN xs.length j).map fun n => xs.set n d
  | _ => none
def gSubM (i : Nat) (f : Cm D) (d : D) : Cm Unit := bnd (isOs i) fun _ => bnd f fun k => wrO i fun xs => putD xs d k
theorem wrO_at {K : PySem.W.Frag} {G : Gh} {F H : Hp} {ρ ρ' : En} {σ : L2.St} {v : V} {o : List D → Option (List D)} (rp : Rp K T G ρ F σ H) (hv : σ[i]? = some (some v)) (h : wrO i o ρ = .ok () ρ') :
    ∃ q xs ys us b, v = .ref q ∧ H q = some (.lst us) ∧ DqAll K F us xs ∧ o xs = some ys ∧ ρ' = ρ.set i (.own ys b) ∧ ∀ ws, DqAll K F ws ys → Rp K T G ρ' F σ (upd H q (.lst ws)) := by
  unfold wrO at h
  cases q : ρ[i]? with
  | none => rw [q] at h; cases h
  | some s =>
    rw [q] at h
    cases s with
    | no => cases h
    | fn => cases h
    | dat d => cases h
    | own xs b =>
      obtain ⟨p, e1, e2, e3, us, e4, e5⟩ := rp.sl i _ q
      rw [hv] at e1
      cases e1
      cases eo : o xs with
      | none => simp only [eo] at h; cases h
      | some ys =>
        simp only [eo] at h
        cases h
        exact ⟨p, xs, ys, us, b, rfl, e4, e5, eo, rfl, fun ws a => rp.write q hv a⟩
theorem wrO_res {ρ : En} {o : List D → Option (List D)} : (∃ ρ', wrO i o ρ = .ok () ρ') ∨ wrO i o ρ = .no := by
  unfold wrO
  split
  · split
    · exact .inl ⟨_, rfl⟩
    · exact .inr rfl
  · exact .inr rfl
theorem dg_sub {vs : List Nat} (hN : X.N[i]? = some y) (hv : Vis X.env.scope y) (hi : DE X T W e f) (hd : (y == ("__debug__" : Str)) = false := by decide) (hcd : (y == ("__classdict__" : Str)) = false := by decide)
    (ha : ∀ v, assign (.Subscript (.Name y py) e pos) X.env v = (do
      let ov ← holding [v] (eval (.Name y py) X.env)
      let iv ← holding [v, ov] (eval e X.env)
      standAt pos
      holding [v, ov, iv] (setItem ov iv v)
      release [v, ov, iv] []) := by intro _; rfl) : DG X T W vs (.Subscript (.Name y py) e pos) (gSubM i f) :=
  ⟨fun pins s σ H v u Q I r h => by
    obtain ⟨G, ρ, F, d, rp, hd2, h⟩ := h
    refine (pg_sub (pe_var (pos := py) hN hv hd hcd) hi set_list ha).run pins s σ H v u Q I r ?_
    have h1 : ∃ w, σ[i]? = some (some w) ∧ GRs X.K T X.mg W vs G F σ (bnd f (fun k => wrO i fun xs => putD xs d k) ρ) Q := by
      have h' : GRs X.K T X.mg W vs G F σ (bnd (isOs i) (fun _ => bnd f fun k => wrO i fun xs => putD xs d k) ρ) Q := h
      unfold bnd isOs at h'
      cases q : ρ[i]? with
      | none => rw [q] at h'; exact (show False from h').elim
      | some s =>
        rw [q] at h'
        cases s with
        | no => exact (show False from h').elim
        | fn => exact (show False from h').elim
        | dat d => exact (show False from h').elim
        | own xs b =>
          obtain ⟨p, e1, _⟩ := rp.sl i _ q
          exact ⟨.ref p, e1, h'⟩
    obtain ⟨w, hw, h1⟩ := h1
    refine ⟨w, hw, G, ρ, F, rp, ?_⟩
    unfold bnd at h1
    cases q : f ρ with
    | no => rw [q] at h1; exact h1
    | ex x ρ1 => rw [q] at h1; exact fun F' H' cls d s rp xr => h1 σ F' H' cls d s rp xr
    | ok k ρ1 =>
      rw [q] at h1
      refine fun F1 H1 s1 rp1 kv hk => ?_
      have h2 : GRs X.K T X.mg W vs G F σ (wrO i (fun xs => putD xs d k) ρ1) Q := h1
      rcases wrO_res (i := i) (ρ := ρ1) (o := fun xs => putD xs d k) with ⟨ρ2, e⟩ | e
      · rw [e] at h2
        obtain ⟨p, xs, ys, us, b, rfl, e1, e2, e3, e4, e5⟩ := wrO_at rp1 hw e
        cases k with
        | int j =>
          cases hk
          have e3 : (ixN xs.length j).map (fun n => xs.set n d) = some ys := e3
          cases en : ixN xs.length j with
          | none => rw [en] at e3; cases e3
          | some n =>
            rw [en] at e3
            cases e3
            refine ⟨p, us, j, n, rfl, rfl, e1, by rw [DqAll_len e2]; exact en, ?_⟩
            exact h2 σ F1 _ s1 (e5 _ (DqAll_set (Dq_ext s1 hd2) n e2)) rfl
        | _ => cases e3
      · rw [e] at h2
        exact (show False from h2).elim⟩
/-- e1 is a method of slot i's list: what it gives, what the list is then -/
def MtD (K : PySem.W.Frag) (r : V → List V → Hp → VK → Prop) (o : List D → List D → Option (D × List D)) : Prop := ∀ (F H : Hp) (p : Addr) (vs us : List V) (ds xs : List D) (z : D) (ys : List D) (Q : VK), Same F H → F p = none → H p = some (.lst us) → DqAll K F us xs → DqAll K F vs ds → o ds xs = some (z, ys) →
  (∀ v ws, Dq K F v z → DqAll K F ws ys → Q v (upd H p (.lst ws))) → r (.ref p) vs H Q
def mtM (i : Nat) (fa : Cm (List D)) (o : List D → List D → Option (D × List D)) : Cm D := bnd (isOs i) fun _ => bnd fa fun ds => fun ρ => match ρ[i]? with
  | some (.own xs b) => match o ds xs with
    | some (z, ys) => .ok z (ρ.set i (.own ys b))
    | none => .no
  | _ => .no
theorem mt_read {K : PySem.W.Frag} {mg : Str → Option Value} {r : V → List V → Hp → VK → Prop} {o : List D → List D → Option (D × List D)} (hd : MtD K r o) {σ : L2.St} {H : Hp} {Q : VK} (h : tE K T mg W (mtM i fa o) σ H Q) : tBM K "list" r (tVar i) (tA K T mg W fa) σ H Q := by
  obtain ⟨G, ρ, F, rp, h⟩ := h
  have h0 := h
  unfold mtM bnd isOs at h0
  cases q : ρ[i]? with
  | none => rw [q] at h0; exact (show False from h0).elim
  | some s =>
    rw [q] at h0
    cases s with
    | no => exact (show False from h0).elim
    | fn => exact (show False from h0).elim
    | dat d => exact (show False from h0).elim
    | own xs0 b0 =>
      obtain ⟨p, e1, e2, e3, us, e4, e5⟩ := rp.sl i _ q
      obtain ⟨w, hw, h1⟩ := isOs_at rp h
      rw [hw] at e1
      cases e1
      refine ⟨.ref p, hw, .inl ⟨rfl, us, .inl (.of e4)⟩, G, ρ, F, rp, h1.bind.imp fun ds ρ1 F1 H1 s1 rp1 h2 vs hv => ?_⟩
      cases q1 : ρ1[i]? with
      | none => simp only [q1] at h2; exact (show False from h2).elim
      | some s =>
        simp only [q1] at h2
        cases s with
        | no => exact (show False from h2).elim
        | fn => exact (show False from h2).elim
        | dat d => exact (show False from h2).elim
        | own xs b =>
          obtain ⟨p', e1, f2, f3, us', f4, f5⟩ := rp1.sl i _ q1
          rw [hw] at e1
          cases e1
          cases eo : o ds xs with
          | none => simp only [eo] at h2; exact (show False from h2).elim
          | some zy =>
            obtain ⟨z, ys⟩ := zy
            simp only [eo] at h2
            exact hd F1 H1 p vs us' ds xs z ys Q rp1.same f2 f4 f5 hv eo fun v ws hz hws => h2 F1 _ (.refl _) (rp1.write q1 hw hws) v hz
variable {name : Str} {apos cpos : Pos} {id : String} {r : V → List V → Hp → VK → Prop} {o : List D → List D → Option (D × List D)}
theorem de_mt (slot : Slot "list" name id) (hty : typeOf (.builtin id) = pure (.type "method_descriptor")) (hm : MtR X id r) (hd : MtD X.K r o) (hN : X.N[i]? = some y) (hv : Vis X.env.scope y) (ha : DA X T W (e :: es) fa) (hdd : (y == ("__debug__" : Str)) = false := by decide) (hcd : (y == ("__classdict__" : Str)) = false := by decide)
    (hbase : attributeBase (.Name y py) name X.env (eval (.Name y py) X.env) = eval (.Name y py) X.env := by rfl)
    (hfew : ((backTo cpos (starEach (e :: es) X.env)).all (fun x => !x.1) && (backToKw cpos (keywordEach [] X.env)).all (fun x => x.1.isSome)
      && decide ((e :: es).length + ([] : List Keyword).length + (if ([] : List Keyword).isEmpty then 0 else 1) < 30)) = true := by rfl)
    (hline : (apos.endLine == cpos.line) = true := by rfl) (hs : starEach (e :: es) X.env = (false, eval e X.env) :: starEach es X.env := by rfl) (hplain : (backTo cpos (starEach es X.env)).any (·.1) = false := by rfl) :
    DE X T W (.Call (.Attribute (.Name y py) name apos) (e :: es) [] cpos) (mtM i fa o) :=
  PE_imp (pe_bm F.plainAttrs_list slot hty hm (pe_var hN hv hdd hcd) ha hbase hfew hline hs hplain) fun σ H Q h => mt_read hd h
def appD : List D → List D → Option (D × List D)
  | [d], xs => if sizeOkL (xs.length + 1) then some (.none, xs ++ [d]) else none
  | _, _ => none
theorem md_append {K : PySem.W.Frag} : MtD K rAppend appD := fun F H p vs us ds xs z ys Q s hf hp hx hv e q => by
  unfold appD at e
  split at e
  · split at e
    · rename_i hz
      cases e
      cases hv with
      | cons h t =>
        cases t
        have := sizeOkL_le hz
        exact ⟨p, us, _, rfl, rfl, hp, by rw [DqAll_len hx]; omega, q _ _ .non (DqAll_append hx (.cons h .nil))⟩
    · cases e
  · cases e
theorem de_append (hN : X.N[i]? = some y) (hv : Vis X.env.scope y) (ha : DE X T W e f) (hdd : (y == ("__debug__" : Str)) = false := by decide) (hcd : (y == ("__classdict__" : Str)) = false := by decide)
    (hbase : attributeBase (.Name y py) "append" X.env (eval (.Name y py) X.env) = eval (.Name y py) X.env := by rfl)
    (hfew : ((backTo cpos (starEach (e :: []) X.env)).all (fun x => !x.1) && (backToKw cpos (keywordEach [] X.env)).all (fun x => x.1.isSome)
      && decide ((e :: []).length + ([] : List Keyword).length + (if ([] : List Keyword).isEmpty then 0 else 1) < 30)) = true := by rfl)
    (hline : (apos.endLine == cpos.line) = true := by rfl) (hs : starEach (e :: []) X.env = (false, eval e X.env) :: starEach [] X.env := by rfl) (hplain : (backTo cpos (starEach [] X.env)).any (·.1) = false := by rfl) :
    DE X T W (.Call (.Attribute (.Name y py) "append" apos) [e] [] cpos) (mtM i (argC f argN) appD) :=
  de_mt F.slot_list_append F.type_list_append mt_append md_append hN hv (da_cons ha da_nil hs) hdd hcd hbase hfew hline hs hplain
/-- pop(k) -/
def popD : List D → List D → Option (D × List D)
  | [.int k], xs => if okR k then match seqIndex? k xs.length with
    | some j => (xs[j]?).map fun z => (z, xs.eraseIdx j)
    | none => none else none
  | _, _ => none
theorem DqAll_erase {K : PySem.W.Frag} {F : Hp} : ∀ {vs : List V} {ds : List D} (i : Nat), DqAll K F vs ds → DqAll K F (vs.eraseIdx i) (ds.eraseIdx i)
  | _, _, _, .nil => .nil
  | _, _, 0, .cons _ t => t
  | _, _, i + 1, .cons h t => .cons h (DqAll_erase i t)
theorem md_pop {K : PySem.W.Frag} : MtD K rPopAt popD := fun F H p vs us ds xs z ys Q s hf hp hx hv e q => by
  unfold popD at e
  split at e
  · split at e
    · rename_i k hk
      cases hv with
      | cons h t =>
        cases t
        cases h
        cases ej : seqIndex? k xs.length with
        | none => rw [ej] at e; cases e
        | some j =>
          rw [ej] at e
          cases ex : xs[j]? with
          | none => simp only [ex] at e; cases e
          | some z' =>
            simp only [ex] at e
            cases e
            obtain ⟨v, ev, hv⟩ := DqAll_at' hx ex
            obtain ⟨k1, k2⟩ := okR_ok hk
            exact ⟨p, us, k, j, v, rfl, rfl, hp, by omega, by omega, by rw [DqAll_len hx]; exact ej, ev, q _ _ hv (DqAll_erase j hx)⟩
    · cases e
  · cases e
theorem de_pop (hN : X.N[i]? = some y) (hv : Vis X.env.scope y) (ha : DE X T W e f) (hdd : (y == ("__debug__" : Str)) = false := by decide) (hcd : (y == ("__classdict__" : Str)) = false := by decide)
    (hbase : attributeBase (.Name y py) "pop" X.env (eval (.Name y py) X.env) = eval (.Name y py) X.env := by rfl)
    (hfew : ((backTo cpos (starEach (e :: []) X.env)).all (fun x => !x.1) && (backToKw cpos (keywordEach [] X.env)).all (fun x => x.1.isSome)
      && decide ((e :: []).length + ([] : List Keyword).length + (if ([] : List Keyword).isEmpty then 0 else 1) < 30)) = true := by rfl)
    (hline : (apos.endLine == cpos.line) = true := by rfl) (hs : starEach (e :: []) X.env = (false, eval e X.env) :: starEach [] X.env := by rfl) (hplain : (backTo cpos (starEach [] X.env)).any (·.1) = false := by rfl) :
    DE X T W (.Call (.Attribute (.Name y py) "pop" apos) [e] [] cpos) (mtM i (argC f argN) popD) :=
  de_mt F.slot_list_pop F.type_list_pop mt_popAt md_pop hN hv (da_cons ha da_nil hs) hdd hcd hbase hfew hline hs hplain

/-! ### displays with stars -/
def argS (m : Cm D) (n : Cm (List D)) : Cm (List D) := bnd (itM m) fun xs => bnd n fun ys => ret (xs ++ ys)
theorem da_star (ha : DE X T W e f) (hr : DA X T W es fa) (hs : starEach (.Starred e p :: es) X.env = (true, eval e X.env) :: starEach es X.env := by rfl) : DA X T W (.Starred e p :: es) (argS f fa) :=
  PA_imp (StX.pa_star ha hr hs) fun σ H Q ⟨G, ρ, F, rp, h⟩ => ⟨G, ρ, F, rp, h.bind.bind.imp fun a ρ1 F1 H1 s1 rp1 h1 v hv => by
    cases a with
    | list xs =>
      cases hv with
      | @lst ad us _ r1 a1 =>
        exact ⟨ad, us, rfl, .inr (.inl (Rd_ext rp1.same r1)), G, ρ1, F1, rp1, (h1.ret rp1 (.refl _)).bind.imp fun as ρ2 F2 H2 s2 rp2 h2 vs hvs => h2.ret rp2 (.refl _) _ (DqAll_append (DqAll_ext s2 a1) hvs)⟩
    | tuple xs =>
      cases hv with
      | @tup ad us _ r1 a1 =>
        exact ⟨ad, us, rfl, .inl (SqT_ext rp1.same r1), G, ρ1, F1, rp1, (h1.ret rp1 (.refl _)).bind.imp fun as ρ2 F2 H2 s2 rp2 h2 vs hvs => h2.ret rp2 (.refl _) _ (DqAll_append (DqAll_ext s2 a1) hvs)⟩
    | _ => exact (show False from h1).elim⟩
end
end PL
end S_PLU

section S_PLL
set_option maxHeartbeats 1000000
namespace PL
open PySem PySem.Spec PyProof.Rows L2

/-! ### a lambda of two parameters -/
structure LamP (sc scope : Scope) (pa pb : Str) (capN : List Str) : Prop where
  kind : scope.kind = .function
  co : scope.isCoroutine = false
  gen : scope.isGenerator = false
  nocell : ∀ y ∈ scope.names, y.2 ≠ .cell
  par : scope.names.lookup pa = some .local ∧ scope.names.lookup pb = some .local ∧ pa ≠ pb
  free : ∀ y ∈ scope.names, y.2 = .free → sc.names.lookup y.1 = some .cell ∨ sc.names.lookup y.1 = some .free
  cap : ∀ y ∈ capN, scope.names.lookup y = some .free
def lamPB (sc scope : Scope) (pa pb : Str) (capN : List Str) : Bool :=
  decide (scope.kind = .function) && !scope.isCoroutine && !scope.isGenerator && (scope.names.all fun y => !decide (y.2 = .cell) && (!decide (y.2 = .free) || decide (sc.names.lookup y.1 = some .cell) || decide (sc.names.lookup y.1 = some .free)))
    && decide (scope.names.lookup pa = some .local) && decide (scope.names.lookup pb = some .local) && !decide (pa = pb) && capN.all fun y => decide (scope.names.lookup y = some .free)
theorem lamP_by {sc scope : Scope} {pa pb : Str} {capN : List Str} (h : lamPB sc scope pa pb capN = true) : LamP sc scope pa pb capN := by
  unfold lamPB at h
  simp only [Bool.and_eq_true, Bool.or_eq_true, Bool.not_eq_true', decide_eq_true_eq, decide_eq_false_iff_not, List.all_eq_true] at h
  obtain ⟨⟨⟨⟨⟨⟨⟨h1, h2⟩, h3⟩, h4⟩, h5⟩, h6⟩, h7⟩, h8⟩ := h
  refine ⟨h1, h2, h3, fun y hy => (h4 y hy).1, ⟨h5, h6, h7⟩, fun y hy e => ?_, h8⟩
  rcases (h4 y hy).2 with (z | z) | z
  · exact absurd e z
  · exact .inl z
  · exact .inr z
theorem LamP.has {X : Cx} {scope : Scope} {pa pb : Str} {capN : List Str} (L : LamP X.env.scope scope pa pb capN) (ok : X.Ok) : ∀ y ∈ scope.names, y.2 = .free → ∃ c, X.env.cells.lookup y.1 = some c := fun y hy e => by
  rcases L.free y hy e with k | k
  · exact ok.has _ (.inl k)
  · exact ok.has _ (.inr k)
/-- the context of such a lambda's body -/
abbrev lamCxP (X : Cx) (A : Around) (outer : List Env) (s : Shared) (H : Hp) (E : XK) (scope : Scope) (f c' : Addr) (N : List Str) : Cx := { LamX.lamCx X A outer s H E scope f c' with N := N }
section
variable {X : Cx} {pins : List (Addr × Obj)} {σ : L2.St} {H HZ : Hp} {s s1 : Shared} {scope : Scope} {pa pb : Str} {capN : List Str}
theorem look2 {pa pb : Str} {u1 u2 : Value} (h : pa ≠ pb) : [(pa, u1), (pb, u2)].reverse.lookup pa = some u1 ∧ [(pa, u1), (pb, u2)].reverse.lookup pb = some u2 := by
  have e : (pa == pb) = false := by simpa using h
  have e2 : (pb == pa) = false := by simpa using Ne.symm h
  refine ⟨?_, ?_⟩
  · simp [List.lookup, e]
  · simp [List.lookup]
theorem lam_startP {A : Around} {outer : List Env} {E : XK} {f c' : Addr} {h₁ : Heap} {tk : Nat} {zvs : List V} {w1 w2 : V} {u1 u2 : Value} (I : Inv X pins σ H s) (L : LamP X.env.scope scope pa pb capN) (e0 : Env0 X.prog X.w X.K X.mg X.base A outer s1 HZ) (hd : A.handled = none)
    (un : Un (frs X.stack) [] H HZ s.heap s1.heap) (hns : h₁.Ns s1.heap.objs.size fun y => [(pa, u1), (pb, u2)].reverse.lookup y) (kp : ∀ b o, s1.heap.get? b = some o → h₁.get? b = some o)
    (hcap : ∀ (i : Nat) (y : Str) (v : V), capN[i]? = some y → zvs[i]? = some v → ∃ j : Nat, X.N[j]? = some y ∧ σ[j]? = some (some v)) (hl : zvs.length = capN.length) (r1 : L2.RelV w1 u1) (r2 : L2.RelV w2 u2) :
    Inv (lamCxP X A outer s1 HZ E scope f c' (capN ++ [pa, pb])) [] (L2.start (capN ++ [pa, pb]) (zvs ++ [w1, w2])) HZ { s1 with heap := h₁, toks := tk } := by
  have hfree := L.has I.ok
  have cm : ∀ {y c}, (cloFrom X.env.cells scope.names []).lookup y = some c → X.env.cells.lookup y = some c := fun {y c} e => by
    rcases cloFrom_mem (PySem.mem_of_lookup e) with hm | ⟨h1, h2⟩
    · cases hm
    · obtain ⟨c1, hc⟩ := hfree _ h1 rfl
      have hc : X.env.cells.lookup y = some c1 := hc
      have e2 : c = c1 := by
        rw [h2, hc] <;> rfl
      rw [e2]
      exact hc
  have look : ∀ {y}, scope.names.lookup y = some .free → ∃ c, (cloFrom X.env.cells scope.names []).lookup y = some c := fun {y} hl => by
    have hy : (y, NameKind.free) ∈ scope.names := PySem.mem_of_lookup hl
    exact mem_lookup (cloFrom_has (cells := X.env.cells) (acc := []) hy)
  have cellK : ∀ {c : Addr} {v : Option Value}, H c = none → s.heap.IsCell c v → h₁.IsCell c v := fun {c v} n ⟨o, ho, hd⟩ => by
    obtain ⟨sl, q⟩ := un.any ho n (by simp)
    exact ⟨_, kp _ _ q, hd⟩
  have noA : ∀ b : Addr, b ∉ (lamCxP X A outer s1 HZ E scope f c' (capN ++ [pa, pb])).ex := fun b z => absurd (show b ∈ ([] : List Addr) from z) (by simp)
  refine ⟨⟨e0.mod, L.kind, rfl, rfl, Nat.le_refl _, fun y z c e1 e2 => I.ok.inj y z c (cm e1) (cm e2), fun y hy => ?_, fun y c z _ => ?_, fun _ => hd, Around.frames_deeper e0.frames, .inr ⟨rfl, rfl⟩, fun b z => absurd z (noA b), e0.bs, e0.bsz, fun b _ _ => noA b,
      fun b z => absurd z (noA b), e0.funs, e0.frf⟩,
    rfl, e0.bare, Un.kept kp, ⟨_, hns, fun i y v e1 e2 e3 => ?_⟩, fun y c e => ?_, e0.hok.fresh (Nat.le_refl _), fun y c e => ?_, fun q hq => absurd (show q ∈ ([] : List (Addr × Obj)) ++ [] from hq) (by simp), e0.hok.kept kp, ?_⟩
  · have hy : scope.names.lookup y = some .cell ∨ scope.names.lookup y = some .free := hy
    rcases hy with hy | hy
    · exact absurd rfl (L.nocell _ (PySem.mem_of_lookup hy))
    · exact look hy
  · have z : false = true := z
    cases z
  · have e1 : (capN ++ [pa, pb])[i]? = some y := e1
    have e2 : (L2.start (capN ++ [pa, pb]) (zvs ++ [w1, w2]))[i]? = some (some v) := e2
    have es : L2.start (capN ++ [pa, pb]) (zvs ++ [w1, w2]) = (zvs ++ [w1, w2]).map some := by
      unfold L2.start
      have z : (capN ++ [pa, pb]).length - (zvs ++ [w1, w2]).length = 0 := by simp [hl]
      rw [z]
      simp
    rw [es, List.getElem?_map] at e2
    have e2' : (zvs ++ [w1, w2])[i]? = some v := by
      cases q : (zvs ++ [w1, w2])[i]? with
      | none => rw [q] at e2; cases e2
      | some a => rw [q] at e2; cases e2; rfl
    by_cases hi : i < capN.length
    · rw [List.getElem?_append_left hi] at e1
      rw [List.getElem?_append_left (by omega)] at e2'
      have k := L.cap y (List.mem_of_getElem? e1)
      obtain ⟨j, hj1, hj2⟩ := hcap i y v e1 e2'
      obtain ⟨m, hn, hl⟩ := I.loc
      have hvis : Vis X.env.scope y := (L.free _ (PySem.mem_of_lookup k) rfl).elim (fun k => .inr (.inl k)) (fun k => .inr (.inr k))
      obtain ⟨w', r, q⟩ := hl j y v hj1 hj2 hvis
      obtain ⟨c2, h2⟩ := look k
      refine ⟨w', r, .inr ⟨.inr k, c2, h2, ?_⟩⟩
      have c1 := cm h2
      rcases q with ⟨k', _⟩ | ⟨_, c3, e', z⟩
      · have k' : X.env.scope.names.lookup y = some .local := k'
        rcases L.free _ (PySem.mem_of_lookup k) rfl with k2 | k2 <;> rw [show X.env.scope.names.lookup y = _ from k2] at k' <;> cases k'
      · rw [c1] at e'
        cases e'
        exact cellK (I.freeC y _ c1) z
    · rw [List.getElem?_append_right (by omega)] at e1
      rw [List.getElem?_append_right (by omega)] at e2'
      rw [hl] at e2'
      obtain ⟨la, lb⟩ := look2 (u1 := u1) (u2 := u2) L.par.2.2
      match i - capN.length, e1, e2' with
      | 0, e1, e2' =>
        cases e1
        cases e2'
        exact ⟨u1, r1, .inl ⟨L.par.1, la⟩⟩
      | 1, e1, e2' =>
        cases e1
        cases e2'
        exact ⟨u2, r2, .inl ⟨L.par.2.1, lb⟩⟩
      | n + 2, e1, _ => simp at e1
  · obtain ⟨w', z⟩ := I.cell y c (cm e)
    exact ⟨w', cellK (I.freeC y c (cm e)) z⟩
  · obtain ⟨v, o, ho, hd⟩ := I.cell y c (cm e)
    exact un.free c o ho (I.freeC y c (cm e)) (by simp)
  · show (L2.start (capN ++ [pa, pb]) (zvs ++ [w1, w2])).length = (capN ++ [pa, pb]).length
    unfold L2.start
    simp [hl]
end
/-- the lambda's meaning -/
def lamL (np : Nat) (fl : Cm D) (caps : List D) : List D → Option D := fun args => if args.length = np then match fl ((caps ++ args).map Sl.dat) with
  | .ok d _ => some d
  | _ => none else none
def isF (i : Nat) : Cm Unit := fun ρ => match ρ[i]? with
  | some .fn => .ok () ρ
  | _ => .no
def lamCall (i : Nat) (L : List D → Option D) (fa : Cm (List D)) : Cm D := bnd (isF i) fun _ => bnd fa fun ds ρ => match ρ[i]? with
  | some .fn => match L ds with
    | some d => .ok d ρ
    | none => .no
  | _ => .no
section
variable {X : Cx} {pins : List (Addr × Obj)} {σ : L2.St} {H HZ : Hp} {s s1 : Shared} {scope sg : Scope} {pa pb a : Str} {capN Ng : List Str} {T : Tx} {f c' g : Addr} {cdg pm ctv : Value} {qg : Str} {params : Arguments} {body e : Expr} {es : List Expr} {k i : Nat} {W : WX} {Eg : XK} {fl : Cm D} {zds : List D} {zvs : List V} {fa : Cm (List D)} {p1 p2 : Pos}
/-- the def that was handed the lambda calls it -/
theorem de_act (I : Inv X pins σ H s) (L : LamP X.env.scope scope pa pb capN) (hf : s.heap.get? f = some (PySem.W.kla_obj "<lambda>" (X.env.qual ++ "<lambda>") params body scope (cloFrom X.env.cells scope.names []) pm c' ctv)) (hfn : H f = none) (hfr : f ∉ frs X.stack)
    (hbind : ∀ (q : Str) (cl : List (Str × Addr)) (pm cv ctv u1 u2 : Value), bindArgs (PySem.W.kla_fn "<lambda>" q params body scope cl pm cv ctv) ⟨[u1, u2], []⟩ = pure [(pa, u1), (pb, u2)])
    (hcap : ∀ (i : Nat) (y : Str) (v : V), capN[i]? = some y → zvs[i]? = some v → ∃ j : Nat, X.N[j]? = some y ∧ σ[j]? = some (some v)) (hzl : zvs.length = capN.length)
    (hr : Room (k + 1) (X.A.deeper (envOfC qg sg s.heap.objs.size g cdg))) (hgd : X.A.guards = some [])
    (hbody : ∀ (A : Around) (outer : List Env) (s : Shared) (H : Hp) (E : XK), Room k (A.deeper (LamX.lamEnv X scope s.heap.objs.size f c')) → (A.deeper (LamX.lamEnv X scope s.heap.objs.size f c')).guards = some [] → DE (lamCxP X A outer s H E scope f c' (capN ++ [pa, pb])) ⟨T.tabs, none⟩ W0 body fl)
    (hN : Ng[i]? = some a) (hv : Vis sg a)
    (ha : DA (cxOf (CX X.prog X.w) X.prog X.w X.K X.mg X.base Ng qg sg g cdg X.A X.stack s H Eg) ⟨T.tabs, some ⟨f, c', X.env.qual ++ "<lambda>", zvs, zds⟩⟩ W (e :: es) fa)
    (he : starEach (e :: es) (cxOf (CX X.prog X.w) X.prog X.w X.K X.mg X.base Ng qg sg g cdg X.A X.stack s H Eg).env = (false, eval e (cxOf (CX X.prog X.w) X.prog X.w X.K X.mg X.base Ng qg sg g cdg X.A X.stack s H Eg).env) :: starEach es (cxOf (CX X.prog X.w) X.prog X.w X.K X.mg X.base Ng qg sg g cdg X.A X.stack s H Eg).env)
    (hpl : (backTo p2 (starEach es (cxOf (CX X.prog X.w) X.prog X.w X.K X.mg X.base Ng qg sg g cdg X.A X.stack s H Eg).env)).any (·.1) = false)
    (hd : (a == ("__debug__" : Str)) = false := by decide) (hcd : (a == ("__classdict__" : Str)) = false := by decide) :
    DE (cxOf (CX X.prog X.w) X.prog X.w X.K X.mg X.base Ng qg sg g cdg X.A X.stack s H Eg) ⟨T.tabs, some ⟨f, c', X.env.qual ++ "<lambda>", zvs, zds⟩⟩ W (.Call (.Name a p1) (e :: es) [] p2) (lamCall i (lamL 2 fl zds) fa) := by
  refine ⟨fun pinsZ sZ σZ HZ Q IZ ⟨G, ρ, F, rp, h⟩ => ?_⟩
  have hfn0 : ρ[i]? = some .fn := by
    have h0 := h
    unfold lamCall bnd isF at h0
    cases q : ρ[i]? with
    | none => rw [q] at h0; exact (show False from h0).elim
    | some sl =>
      rw [q] at h0
      cases sl with
      | fn => rfl
      | _ => exact (show False from h0).elim
  have hfn1 : σZ[i]? = some (some (.ref f)) := by
    obtain ⟨z, ez, ez1, _⟩ := rp.sl i _ hfn0
    cases ez
    exact ez1
  have h' := (show Rs X.K ⟨T.tabs, some ⟨f, c', X.env.qual ++ "<lambda>", zvs, zds⟩⟩ X.mg W G F σZ ((bnd fa fun ds ρ => match ρ[i]? with
    | some .fn => match lamL 2 fl zds ds with
      | some d => .ok d ρ
      | none => .no
    | _ => .no : Cm D) ρ) (fun d _ F' H' => ∀ v, Dq X.K F' v d → Q v H') from by
      unfold lamCall at h
      have e : bnd (isF i) (fun _ => bnd fa fun ds ρ => match ρ[i]? with
        | some .fn => match lamL 2 fl zds ds with
          | some d => .ok d ρ
          | none => .no
        | _ => .no) ρ = (bnd fa fun ds ρ => match ρ[i]? with
        | some .fn => match lamL 2 fl zds ds with
          | some d => R.ok d ρ
          | none => .no
        | _ => .no) ρ := by
          show R.bind (isF i ρ) _ = _
          unfold isF
          rw [hfn0]
          rfl
      rw [e] at h
      exact h).bind
  · refine wpAny_Call_Name_kw (thn ((pe_var (X := cxOf (CX X.prog X.w) X.prog X.w X.K X.mg X.base Ng qg sg g cdg X.A X.stack s H Eg) (pos := p1) (i := i) hN hv hd hcd).run pinsZ sZ σZ HZ (fun v H1 => v = .ref f ∧ H1 = HZ) IZ ⟨.ref f, hfn1, rfl, rfl⟩) fun u s1 ⟨v, H1, I1, r1, q1⟩ => ?_)
    obtain ⟨ev, eH⟩ := q1
    subst ev
    rw [eH] at I1
    obtain rfl : u = Value.ref f := r1
    have at_ : ∀ {σ' : L2.St} {H' : Hp} {pn : List (Addr × Obj)} {s' : Shared}, Inv (cxOf (CX X.prog X.w) X.prog X.w X.K X.mg X.base Ng qg sg g cdg X.A X.stack s H Eg) pn σ' H' s' → s'.heap.get? f = some (PySem.W.kla_obj "<lambda>" (X.env.qual ++ "<lambda>") params body scope (cloFrom X.env.cells scope.names []) pm c' ctv) := fun {σ' H' pn s'} J =>
      J.base.keep f _ hf hfn hfr (fun z => nomatch (show f ∈ ([] : List Addr) from z))
    refine PySem.W.callWith_F ⟨_, _, _, _, at_ I1⟩ (thn (ha.run p2 pinsZ s1 σZ HZ (fun vs H2 => ∃ w1 w2 ds F2 ρ2, vs = [w1, w2] ∧ DqAll X.K F2 [w1, w2] ds ∧ Rp X.K ⟨T.tabs, some ⟨f, c', X.env.qual ++ "<lambda>", zvs, zds⟩⟩ G ρ2 F2 σZ H2 ∧ ρ2[i]? = some .fn ∧ ∃ d, lamL 2 fl zds ds = some d ∧ Rs X.K ⟨T.tabs, some ⟨f, c', X.env.qual ++ "<lambda>", zvs, zds⟩⟩ X.mg W G F2 σZ (ret d ρ2) fun d _ F' H' => ∀ v, Dq X.K F' v d → Q v H') I1 ⟨G, ρ, F, rp, h'.imp fun ds ρ1 F1 H1 s1 rp1 h1 vs hvs => ?_⟩) fun us s2 ⟨vs, H2, I2, rv, w1, w2, ds, F2, ρ2, ev, hds, rp2, hfn2, d, hL, hq⟩ => ⟨⟨_, _, _, _, at_ I2⟩, ?_⟩) he hpl
    · cases q : ρ1[i]? with
      | none => simp only [q] at h1; exact (show False from h1).elim
      | some sl =>
        simp only [q] at h1
        cases sl with
        | no => exact (show False from h1).elim
        | dat _ => exact (show False from h1).elim
        | own _ _ => exact (show False from h1).elim
        | fn =>
          cases eL : lamL 2 fl zds ds with
          | none => simp only [eL] at h1; exact (show False from h1).elim
          | some d =>
            simp only [eL] at h1
            have hl2 : ds.length = 2 := by
              unfold lamL at eL
              by_cases z : ds.length = 2
              · exact z
              · rw [if_neg z] at eL; cases eL
            obtain ⟨d1, d2, rfl⟩ : ∃ d1 d2, ds = [d1, d2] := by
              match ds, hl2 with
              | [d1, d2], _ => exact ⟨d1, d2, rfl⟩
            cases hvs with
            | cons x1 t1 => cases t1 with
              | cons x2 t2 => cases t2; exact ⟨_, _, [d1, d2], F1, ρ1, rfl, .cons x1 (.cons x2 .nil), rp1, q, d, eL, h1⟩
    · subst ev
      obtain ⟨u1, u2, rfl, ru1, ru2⟩ := vals2 rv
      obtain ⟨z, ez, ez1, ez2, ez3⟩ := rp2.sl i _ hfn2
      cases ez
      have ez2 : DqAll X.K F2 zvs zds := ez2
      have ez3 : H2 c' = some (LamX.CodeO c' (X.env.qual ++ "<lambda>")) := ez3
      obtain ⟨⟨oc, vs, t, hoc, hdc, hvc⟩, _, _⟩ := I2.hok c' _ ez3
      have un : Un (frs X.stack) [] H H2 s.heap s2.heap := I2.base
      have rc : codeAny (model X.prog X.w) (X.A.deeper (envOfC qg sg s.heap.objs.size g cdg)) (.call (.ref f) ⟨[u1, u2], []⟩) (CR (L2.CX X.prog X.w) (envOfC qg sg s.heap.objs.size g cdg :: X.stack) X.prog X.w H2 s2 Q (fun _ _ _ => False)) s2 := by
        refine PySem.W.kla_callFunE hr.depth (at_ I2) rfl L.co L.gen rfl ⟨c', oc, vs, t, rfl, hoc, hdc, hvc⟩ ?_
        rw [hbind]
        refine wpAny_pure (wpAny_newFunctionEnv (fun y hy => L.nocell y hy) (fun y hy => ?_) (fun h₁ hns hsb => ⟨I2.nolimit.fresh _ hsb, ?_⟩) L.kind)
        · have : y = (pa, u1) ∨ y = (pb, u2) := by simpa using hy
          rcases this with rfl | rfl
          · exact L.par.1
          · exact L.par.2.1
        show codeAny _ _ (.expr body (LamX.lamEnv X scope s2.heap.objs.size f c')) _ _
        have kp : ∀ b o, s2.heap.get? b = some o → h₁.get? b = some o := fun b o e => hsb.extBut b o (Nat.ne_of_lt (Heap.lt_size e)) (Heap.get?_push_of_some _ e)
        have J : Inv (lamCxP X (X.A.deeper (envOfC qg sg s.heap.objs.size g cdg)) (envOfC qg sg s.heap.objs.size g cdg :: X.stack) s2 H2 (fun _ _ _ => False) scope f c' (capN ++ [pa, pb])) [] (L2.start (capN ++ [pa, pb]) (zvs ++ [w1, w2])) H2 { s2 with heap := h₁, toks := s2.toks + [(pa, u1), (pb, u2)].length } :=
          lam_startP I L I2.env0 hr.hd un hns kp hcap hzl ru1 ru2
        have hb := hbody (X.A.deeper (envOfC qg sg s.heap.objs.size g cdg)) (envOfC qg sg s.heap.objs.size g cdg :: X.stack) s2 H2 (fun _ _ _ => False) (hr.deeper _) hgd
        refine PySem.W.kla_codeExpr (wpAny_mono (hb.run [] _ _ H2 Q J ?_) (fun v s' hq => ?_) fun e s' hq => hq)
        · -- its reading
          have lens : (zds ++ ds).length = (capN ++ [pa, pb]).length := by
            rw [List.length_append, ← DqAll_len ez2, hzl, ← DqAll_len hds]
            simp
          have r0 := rp_start (T := ⟨T.tabs, none⟩) (N := capN ++ [pa, pb]) (bag := none) (vb := []) (show BagR X.K F2 H2 [] none from rfl) (DqAll_append ez2 hds) rp2.same rp2.tab rp2.tabF (by simp [hzl])
          have ea : argsS none (zds ++ ds) ++ List.replicate ((capN ++ [pa, pb]).length - (argsS none (zds ++ ds)).length) Sl.no = (zds ++ ds).map Sl.dat := by
            have : (capN ++ [pa, pb]).length - (argsS none (zds ++ ds)).length = 0 := by
              show (capN ++ [pa, pb]).length - ((zds ++ ds).map Sl.dat).length = 0
              rw [List.length_map, lens]
              omega
            rw [this]
            simp [argsS]
          rw [ea] at r0
          refine ⟨_, _, F2, r0, ?_⟩
          unfold lamL at hL
          split at hL
          · cases qb : fl ((zds ++ ds).map Sl.dat) with
            | no => rw [qb] at hL; cases hL
            | ex x ρ => rw [qb] at hL; cases hL
            | ok d' ρ' =>
              rw [qb] at hL
              cases hL
              intro F' H' sf rp' v hv
              have rr := retR_of rp'
              exact hq F' H' sf (rp2.retP rr) v hv
          · cases hL
        · obtain ⟨w', H', J', rv, q⟩ := hq
          exact ⟨w', H', J'.os, J'.bare, J'.base, J'.hok, rv, q⟩
      have hx : Passes (L2.CX X.prog X.w) (cxOf (CX X.prog X.w) X.prog X.w X.K X.mg X.base Ng qg sg g cdg X.A X.stack s H Eg) (fun _ _ _ => False) := passes_call (W := W0) LamX.takes0 fun _ _ _ _ z => z
      refine wpAny_call (codeAny_mono rc fun r s' hq => ?_)
      cases r with
      | error e => exact hx pinsZ σZ H2 s2 e s' I2 hq
      | ok fl =>
        cases fl with
        | ret u => exact I2.after hq
        | next => exact False.elim hq
        | brk => exact False.elim hq
        | cont => exact False.elim hq
end
/-! ### the lambda is made -/
/-- but for the table at P nothing has changed -/
structure TabG (T : Tx) (P : Addr) (H H1 : Hp) : Prop where
  k : ∀ b o, b ≠ P → H b = some o → H1 b = some o
  p : ∃ ps, H P = some (.tbl ps)
  p1 : ∃ ps, H1 P = some (.tbl ps)
  t : LamX.Tabs T.tabs H1
section
variable {X : Cx} {pins : List (Addr × Obj)} {σ : L2.St} {H H1 : Hp} {s : Shared} {T : Tx} {K : PySem.W.Frag} {G : Gh} {ρ : En} {F : Hp} {P : Addr}
theorem Rp.tabG (r : Rp K T G ρ F σ H) (g : TabG T P H H1) (hP : F P = none) : Rp K T G ρ F σ H1 := by
  obtain ⟨ps, hp⟩ := g.p
  obtain ⟨ps1, hp1⟩ := g.p1
  have nP : ∀ q o, H q = some o → (∀ qs, o ≠ .tbl qs) → q ≠ P := fun q o e n z => by
    subst z
    rw [hp] at e
    exact n ps (Option.some.inj e).symm
  refine ⟨r.len, r.f0, fun q u e => g.k q u (ne_of_none e hP) (r.same q u e), fun q o h1 h2 h3 => ?_, fun q h1 h2 => ?_, r.nw, g.t, r.tabF, fun i sl e => ?_, r.sep⟩
  · have e := r.fr q o h1 h2 h3
    exact g.k q o (nP q o e h3) e
  · have e := r.th q h1
    by_cases z : q = P
    · subst z; rw [hp1] at h2; cases h2
    · cases e2 : H q with
      | none => exact e e2
      | some o => rw [g.k q o z e2] at h2; cases h2
  · have q := r.sl i sl e
    cases sl with
    | no => trivial
    | fn => exact FnR.mv q rfl (.refl _) fun c q e => g.k c _ (nP c _ e LamX.codeO_ne) e
    | dat d => exact q
    | own xs b =>
      obtain ⟨p, e1, e2, e3, us, e4, e5⟩ := q
      exact ⟨p, e1, e2, e3, us, g.k p _ (nP p _ e4 (by simp)) e4, e5⟩
/-- what the making of a lambda asks of its place -/
structure LamAt (X : Cx) (T : Tx) (c P : Addr) : Prop where
  tb : LamX.TabB X.base X.mg c P
  code : X.env.code = .ref c
  mem : (P, X.env.qual ++ "<lambda>") ∈ T.tabs
  uniq : ∀ p ∈ T.tabs, p.1 = P → p.2 = X.env.qual ++ "<lambda>"
theorem lam_make3 {c : Addr} {params : Arguments} {body : Expr} {scope : Scope} {pos : Pos} {E : Value → Shared → Prop} {Q : Value → Shared → Prop} (I : Inv X pins σ H s) (LA : LamAt X T c P) (hT : LamX.Tabs T.tabs H) (hdef : defaultsOf params X.env = ([], [])) (hfree : ∀ y ∈ scope.names, y.2 = .free → ∃ c, X.env.cells.lookup y.1 = some c)
    (h : ∀ (f c' : Addr) (pm ctv : Value) (H1 : Hp) (s' : Shared), Inv X pins σ H1 s' → TabG T P H H1 →
      s'.heap.get? f = some (PySem.W.kla_obj "<lambda>" (X.env.qual ++ "<lambda>") params body scope (cloFrom X.env.cells scope.names []) pm c' ctv) → H1 f = none → f ∉ frs X.stack → H1 c' = some (LamX.CodeO c' (X.env.qual ++ "<lambda>")) → Q (.ref f) s') :
    wpAny (model X.prog X.w) X.A (eval (.Lambda params body scope pos) X.env) Q E s := by
  obtain ⟨ps, hP, ht, ha⟩ := hT _ LA.mem
  refine PySem.W.kla_eval hdef ?_
  have bP : s.heap.BuiltinsAt X.mg P := LA.tb.bm.keeps I.bk
  have hP' : s.heap.get? P = some { cls := .none, data := .fields ps } := I.hok P _ hP
  have nofr : ∀ f, s.heap.objs.size ≤ f → f ∉ frs X.stack := fun f hf z => by
    rcases List.mem_cons.mp (I.stkSub _ z) with e | e
    · have h1 := I.lt
      rw [← e] at h1
      exact Nat.lt_irrefl _ (Nat.lt_of_lt_of_le h1 hf)
    · exact I.nofs hf e
  cases hc : codeAmong pos ps.toList with
  | none =>
    refine PySem.W.kla_makeFunction (mg := X.mg) (c := c) (P := P) (ps := ps) (closure_ok hfree) I.ok.glob (I.mod.glob.keeps I.bk) LA.code (LA.tb.code.keeps I.bk) hP' ht hc LA.tb.gP bP fun c' ctv h' tk hx hge hlt hrec htb => ?_
    obtain ⟨c2, oc, vs, t, e2, hoc, hd, hv⟩ := hrec
    cases e2
    have hsz : s.heap.objs.size ≤ h'.objs.size := Nat.le_trans hge (Nat.le_of_lt hlt)
    have nC : H c' = none := I.hok.fresh hge
    have nPc : P ≠ c' := ne_of_none hP nC
    have I1 := LamX.inv_table (t' := tk) (more := #[rawInt pos.line, rawInt pos.col, .ref c']) (h' := h'.push (PySem.W.kla_obj "<lambda>" (X.env.qual ++ "<lambda>") params body scope (cloFrom X.env.cells scope.names []) ((X.mg "__name__").getD .none) c' ctv)) I hP
      (fun b o hb e => Heap.get?_push_of_some _ (hx b o hb e)) (Heap.get?_push_of_some _ htb) hge ⟨oc, vs, t, Heap.get?_push_of_some _ hoc, hd, hv⟩
    have kk : ∀ b o, b ≠ P → H b = some o → upd (upd H P (.tbl (ps ++ #[rawInt pos.line, rawInt pos.col, .ref c']))) c' (LamX.CodeO c' (X.env.qual ++ "<lambda>")) b = some o := fun b o hb e => by
      rw [upd_ne (ne_of_none e nC), upd_ne hb]
      exact e
    have hE : LamX.ExtN H (upd (upd H P (.tbl (ps ++ #[rawInt pos.line, rawInt pos.col, .ref c']))) c' (LamX.CodeO c' (X.env.qual ++ "<lambda>"))) := fun b o e n =>
      kk b o (fun z => n ps (Option.some.inj (e.symm.trans (by rw [z]; exact hP)))) e
    have eL : (ps ++ #[rawInt pos.line, rawInt pos.col, .ref c']).toList = ps.toList ++ [rawInt pos.line, rawInt pos.col, .ref c'] := by simp
    refine h h'.objs.size c' ((X.mg "__name__").getD .none) ctv _ _ I1 ⟨kk, ⟨ps, hP⟩, ⟨_, by rw [upd_ne nPc, upd_same]⟩, fun p hp => ?_⟩ (Heap.get?_push_size _ rfl) ?_ (nofr _ hsz) upd_same
    · by_cases hb : p.1 = P
      · rw [LA.uniq p hp hb, hb]
        refine ⟨_, by rw [upd_ne nPc, upd_same], by rw [eL]; exact PySem.TriplesOk_snoc _ _ _ _ ht, fun p' cv hcv => ?_⟩
        rw [eL] at hcv
        rcases LamX.among_app _ ht hcv with z | z
        · obtain ⟨c0, e1, e2⟩ := ha p' cv z
          exact ⟨c0, e1, hE _ _ e2 LamX.codeO_ne⟩
        · exact ⟨c', z, upd_same⟩
      · obtain ⟨ps', a1, a2, a3⟩ := hT p hp
        refine ⟨ps', kk _ _ hb a1, a2, fun p' cv hcv => ?_⟩
        obtain ⟨c0, e1, e2⟩ := a3 p' cv hcv
        exact ⟨c0, e1, hE _ _ e2 LamX.codeO_ne⟩
    · have n1 : h'.objs.size ≠ c' := Nat.ne_of_gt hlt
      have n2 : h'.objs.size ≠ P := Nat.ne_of_gt (Nat.lt_of_lt_of_le (Heap.lt_size hP') hsz)
      rw [upd_ne n1, upd_ne n2]
      exact I.hok.fresh hsz
  | some cv =>
    obtain ⟨c', e, hco⟩ := ha pos cv hc
    subst e
    refine PySem.W.kla_makeFunctionHit (mg := X.mg) (c := c) (P := P) (ps := ps) (closure_ok hfree) I.ok.glob (I.mod.glob.keeps I.bk) LA.code (LA.tb.code.keeps I.bk) hP' ht hc bP fun ctv h' tk hx hsz => ?_
    have I1 : Inv X pins σ H { s with heap := h'.push (PySem.W.kla_obj "<lambda>" (X.env.qual ++ "<lambda>") params body scope (cloFrom X.env.cells scope.names []) ((X.mg "__name__").getD .none) c' ctv), toks := tk } := I.kept fun b o e => Heap.get?_push_of_some _ (hx b o e)
    exact h h'.objs.size c' ((X.mg "__name__").getD .none) ctv H _ I1 ⟨fun b o _ e => e, ⟨ps, hP⟩, ⟨ps, hP⟩, hT⟩ (Heap.get?_push_size _ rfl) (I.hok.fresh hsz) (nofr _ hsz) hco
end

/-! ### a def that is handed a lambda behind its data -/
def capL : List Nat → En → Option (List D)
  | [], _ => some []
  | i :: is, ρ => match ρ[i]? with
    | some (.dat d) => (capL is ρ).map (d :: ·)
    | _ => none
theorem cap_read {K : PySem.W.Frag} {T : Tx} {G : Gh} {ρ : En} {F H : Hp} {σ : L2.St} (r : Rp K T G ρ F σ H) : ∀ {idx : List Nat} {caps : List D}, capL idx ρ = some caps → ∃ zvs, DqAll K F zvs caps ∧ zvs.length = idx.length ∧ ∀ (i : Nat) (v : V), zvs[i]? = some v → ∃ j : Nat, idx[i]? = some j ∧ σ[j]? = some (some v)
  | [], _, h => by
    cases h
    exact ⟨[], .nil, rfl, fun i v e => by simp at e⟩
  | j :: idx, caps, h => by
    unfold capL at h
    cases q : ρ[j]? with
    | none => rw [q] at h; cases h
    | some sl =>
      rw [q] at h
      cases sl with
      | dat d =>
        cases q2 : capL idx ρ with
        | none => simp only [q2] at h; cases h
        | some cs =>
          simp only [q2] at h
          cases h
          obtain ⟨zvs, h1, h2, h3⟩ := cap_read r q2
          obtain ⟨v, e1, e2⟩ := r.sl j _ q
          refine ⟨v :: zvs, .cons e2 h1, congrArg Nat.succ h2, fun i w e => ?_⟩
          cases i with
          | zero => cases e; exact ⟨j, rfl, e1⟩
          | succ i => exact h3 i w (by simpa using e)
      | _ => cases h
/-- what such a def means: L the lambda -/
abbrev Fh := (List D → Option D) → List D → Out
def fnH (n : Nat) (bm : (List D → Option D) → Cm Fl) : Fh := fun L ds => finR none (bm L (ds.map .dat ++ .fn :: List.replicate (n - ds.length - 1) .no))
def hofM (n : Nat) (idx : List Nat) (fl : Cm D) (fm : Fh) (fa : Cm (List D)) : Cm Vl := bnd fa fun ds ρ => match capL idx ρ with
  | some caps => if ds.length + 1 = n then outP ρ (fm (lamL 2 fl caps) ds) else .no
  | none => .no
/-- the rule for the def's calls of what it got -/
def CallsL (Z : Cx) (T : Tx) (a : Str) (i : Nat) (L : List D → Option D) : Prop := ∀ (W : WX) (e : Expr) (es : List Expr) (fa : Cm (List D)) (p1 p2 : Pos), DA Z T W (e :: es) fa → starEach (e :: es) Z.env = (false, eval e Z.env) :: starEach es Z.env → (backTo p2 (starEach es Z.env)).any (·.1) = false →
  DE Z T W (.Call (.Name a p1) (e :: es) [] p2) (lamCall i L fa)
section
variable {X : Cx} {T : Tx} {W : WX} {e : Expr} {fa : Cm D} {x a pa pb : Str} {p pos lpos : Pos} {k : Nat} {g c P : Addr} {params : Arguments} {lbody : Expr} {scope : Scope} {capN ps N : List Str} {idx : List Nat} {fl : Cm D} {bm : (List D → Option D) → Cm Fl} {qual : Str} {st : Stmt} {fd : FuncData}
theorem ve_hof (F : Fun X.K x qual st g fd) (S : FnScope N ps (defScope st)) (hp2 : ps.length = 2) (hN1 : N[1]? = some a) (hva : Vis (defScope st) a)
    (hgb : ∀ (cdv : Value) (A : Around) (outer : List Env) (s : Shared) (H : Hp) (E : XK) (T' : Tx) (L : List D → Option D), T'.tabs = T.tabs → Room k (A.deeper (envOfC qual (defScope st) s.heap.objs.size g cdv)) → (A.deeper (envOfC qual (defScope st) s.heap.objs.size g cdv)).guards = some [] →
      CallsL (cxOf (CX X.prog X.w) X.prog X.w X.K X.mg X.base N qual (defScope st) g cdv A outer s H E) T' a 1 L →
      DSs (cxOf (CX X.prog X.w) X.prog X.w X.K X.mg X.base N qual (defScope st) g cdv A outer s H E) T' (fun cls d _ H => E cls d H) (defBody st) (bm L))
    (hr : Room (k + 1) X.A) (hk0 : ∃ j, k = j + 1) (hgd : X.A.guards = some []) (tk : Takes X W) (hg : Gl X x) (hm : X.mg x = some (.ref g)) (hb : Binds X.K fd ps [])
    (LA : LamAt X T c P) (L : LamP X.env.scope scope pa pb capN) (hdef : defaultsOf params X.env = ([], []))
    (hbind : ∀ (q : Str) (cl : List (Str × Addr)) (pm cv ctv u1 u2 : Value), bindArgs (PySem.W.kla_fn "<lambda>" q params lbody scope cl pm cv ctv) ⟨[u1, u2], []⟩ = pure [(pa, u1), (pb, u2)])
    (hcn : idx.map (X.N[·]?) = capN.map some)
    (hlb : ∀ (A : Around) (outer : List Env) (s : Shared) (H : Hp) (E : XK) (f c' : Addr), Room (k - 1) (A.deeper (LamX.lamEnv X scope s.heap.objs.size f c')) → (A.deeper (LamX.lamEnv X scope s.heap.objs.size f c')).guards = some [] → DE (lamCxP X A outer s H E scope f c' (capN ++ [pa, pb])) ⟨T.tabs, none⟩ W0 lbody fl)
    (ha : DE X T W e fa) (hdb : (x == ("__debug__" : Str)) = false := by decide) (hdba : (a == ("__debug__" : Str)) = false := by decide) (hcda : (a == ("__classdict__" : Str)) = false := by decide)
    (he : starEach [e, .Lambda params lbody scope lpos] X.env = (false, eval e X.env) :: starEach [.Lambda params lbody scope lpos] X.env := by rfl) (hpl : (backTo pos (starEach [.Lambda params lbody scope lpos] X.env)).any (·.1) = false := by rfl) :
    VE X T W (.Call (.Name x p) [e, .Lambda params lbody scope lpos] [] pos) (hofM 2 idx fl (fnH N.length bm) (argC fa argN)) := by
  obtain ⟨j0, rfl⟩ := hk0
  refine ⟨fun pins s σ H Q I ⟨G, ρ, F0, rp, h⟩ => ?_⟩
  refine wpAny_Call_Name_kw (ld_glob I hg hm ?_ hdb)
  refine PySem.W.callWith_K (h₀ := X.base) I.ok.mod.kin F.kp ?_ he hpl
  rw [he]
  show wpAny _ _ (spliced ((false, eval e X.env) :: backTo pos (starEach [.Lambda params lbody scope lpos] X.env))) _ _ s
  refine Calls.spliced_cons (thn (ha.run pins s σ H (fun v H1 => ∃ d ρ1 F1, Dq X.K F1 v d ∧ Rp X.K T G ρ1 F1 σ H1 ∧ Rs X.K T X.mg W G F1 σ ((match capL idx ρ1 with
    | some caps => outP ρ1 (fnH N.length bm (lamL 2 fl caps) [d])
    | none => .no)) fun a ρ' F' H' => ∀ v, ValR X.K G ρ' F' σ H' v a → Q v H') I ⟨G, ρ, F0, rp, h.bind.bind.imp fun d ρ1 F1 H1 s1 rp1 h1 v hv => ⟨d, ρ1, F1, hv, rp1, by
      have h2 := (h1.bind.ret rp1 (.refl _)).ret rp1 (.refl _)
      cases q : capL idx ρ1 with
      | none => simp only [q] at h2; exact (show False from h2).elim
      | some caps =>
        simp only [q] at h2
        exact h2⟩⟩) fun u s1 ⟨v, H1, I1, rv, d, ρ1, F1, hv, rp1, h1⟩ => ?_)
  show wpAny _ _ (spliced ((false, eval (.Lambda params lbody scope lpos) X.env) :: backTo pos (starEach [] X.env))) _ _ s1
  refine Calls.spliced_cons (lam_make3 I1 LA rp1.tab hdef (L.has I1.ok) fun f c' pm' ctv H2 s2 I2 tg hf hfn hfr hco => ?_)
  refine Calls.spliced_nil ⟨I2.kIn, ?_⟩
  have rp2 := rp1.tabG tg (rp1.tabF _ LA.mem)
  cases qc : capL idx ρ1 with
  | none => rw [qc] at h1; exact (show False from h1).elim
  | some caps =>
    rw [qc] at h1
    obtain ⟨zvs, z1, z2, z3⟩ := cap_read rp1 qc
    have hlen : capN.length = idx.length := by
      have := congrArg List.length hcn
      rw [List.length_map, List.length_map] at this
      exact this.symm
    have hcap : ∀ (i : Nat) (y : Str) (v : V), capN[i]? = some y → zvs[i]? = some v → ∃ j : Nat, X.N[j]? = some y ∧ σ[j]? = some (some v) := fun i y v e1 e2 => by
      obtain ⟨j, e3, e4⟩ := z3 i v e2
      refine ⟨j, ?_, e4⟩
      have := congrArg (fun l => l[i]?) hcn
      simp only [List.getElem?_map, e3, e1, Option.map_some, Option.some.injEq] at this
      exact this
    obtain ⟨oc, od, kV, doc, pm, an, cdv, ct, osl, rfl, lk, hcd⟩ := F.ex
    have bd := hb s2 [u, .ref f] I2.kIn (by simp [hp2])
    have e0 := I2.env0
    have rvs : Vals [v, .ref f] [u, .ref f] := .cons rv (.cons rfl .nil)
    have rc : codeAny (model X.prog X.w) X.A (.call (.ref g) ⟨[u, .ref f], []⟩) (CR (CX X.prog X.w) X.stack X.prog X.w H2 s2 Q (WE W σ)) s2 := by
      have KX : X.K.In s2.heap := e0.mod.kin.keeps fun b o e => (e0.bs b o e).1
      have lim : s2.heap.NoLimit := e0.mod.nolimit.keeps fun b o e => (e0.bs b o e).1
      have hkind : ∀ y ∈ ps.zip [u, .ref f], (defScope st).names.lookup y.1 = some .local ∨ ((defScope st).names.lookup y.1 = some .cell ∧ ((cellsFrom (s2.heap.objs.size + 1) (defScope st).names []).lookup y.1).isSome = true) := fun ⟨n, v⟩ hy => by
        rcases S.par n (List.of_mem_zip hy).1 with q | q
        · exact .inl q
        · exact .inr ⟨q, PySem.W.cellsFrom_some _ _ _ (.inl q)⟩
      rw [List.append_nil] at bd
      refine codeAny_call_function hr.depth (KX _ _ lk) rfl S.co S.gen rfl (PySem.W.codeRec_of KX hcd) (bd _ _ _ _ ?_)
      refine wpAny_newFunctionEnv_cells S.kind hkind fun env he s3 xx => ?_
      subst he
      refine ⟨lim.keeps xx.toInCall.keep, codeAny_func ?_⟩
      have hrd : Room (j0 + 1) (X.A.deeper (envOfC qual (defScope st) s2.heap.objs.size g cdv)) := hr.deeper _
      have ht := hgb cdv X.A X.stack s2 H2 (WE W σ) ⟨T.tabs, some ⟨f, c', X.env.qual ++ "<lambda>", zvs, caps⟩⟩ (lamL 2 fl caps) rfl hrd hgd
        (fun W' e' es' fa' q1 q2 hda hse hpl' => de_act (T := T) (k := j0) I2 L hf hfn hfr hbind hcap (by rw [z2, hlen]) hrd hgd (fun A outer s H E h1 h2 => hlb A outer s H E f c' h1 h2) hN1 hva hda hse hpl' hdba hcda)
      have I3 : Inv (cxOf (CX X.prog X.w) X.prog X.w X.K X.mg X.base N qual (defScope st) g cdv X.A X.stack s2 H2 (WE W σ)) [] (L2.start N [v, .ref f]) H2 s3 := inv_start S hr.hd e0 (by simp [hp2]) rvs xx
      refine wpAny_mono (ht.run [] s3 (L2.start N [v, .ref f]) H2 { nx := fun _ H' => Q .non H', rt := Q } I3 ?_) (fun fl s' hs => ?_) fun e s' hs => hs
      · -- the body's reading
        have hNl : 2 ≤ N.length := by have := congrArg List.length S.pre; rw [List.length_take, hp2] at this; omega
        have r0 : Rp X.K ⟨T.tabs, some ⟨f, c', X.env.qual ++ "<lambda>", zvs, caps⟩⟩ (bodyG [] F1 H2) ([d].map .dat ++ .fn :: List.replicate (N.length - 1 - 1) .no) F1 (L2.start N [v, .ref f]) H2 := by
          refine ⟨?_, .refl _, rp2.same, fun _ _ h _ _ => h, fun _ h => h, fun _ _ h _ => h, rp2.tab, rp2.tabF, fun i sl e => ?_, fun i j xs ys b c e1 e2 e3 => ?_⟩
          · unfold L2.start
            simp only [List.length_append, List.length_map, List.length_cons, List.length_nil, List.length_replicate]
            omega
          · match i, e with
            | 0, e => cases e; exact ⟨v, start_get rfl, hv⟩
            | 1, e => cases e; exact ⟨_, rfl, start_get rfl, z1, hco⟩
            | n + 2, e =>
              have e : (List.replicate (N.length - 1 - 1) Sl.no)[n]? = some sl := e
              rw [List.getElem?_replicate] at e
              split at e
              · cases e; trivial
              · cases e
          · match i, e1 with
            | 0, e1 => cases e1
            | 1, e1 => cases e1
            | n + 2, e1 =>
              have e1 : (List.replicate (N.length - 1 - 1) Sl.no)[n]? = some (Sl.own xs b) := e1
              rw [List.getElem?_replicate] at e1
              split at e1 <;> cases e1
        refine ⟨_, _, F1, r0, ?_⟩
        have h3 : Rs X.K T X.mg W G F1 σ (outP ρ1 (finR none (bm (lamL 2 fl caps) ([d].map .dat ++ .fn :: List.replicate (N.length - 1 - 1) .no)))) fun a ρ' F' H' => ∀ v, ValR X.K G ρ' F' σ H' v a → Q v H' := h1
        have fin : ∀ (a : Vl) (ρb : En), Rs X.K T X.mg W G F1 σ (outP ρ1 (.ok a none)) (fun a ρ' F' H' => ∀ v, ValR X.K G ρ' F' σ H' v a → Q v H') → ∀ σ' F' H' w, Same F1 F' → Rp X.K ⟨T.tabs, some ⟨f, c', X.env.qual ++ "<lambda>", zvs, caps⟩⟩ (bodyG [] F1 H2) ρb F' σ' H' → ValR X.K (bodyG [] F1 H2) ρb F' σ' H' w a → Q w H' := fun a ρb h σ' F' H' w sf rp hw => by
          have rr := retR_of rp
          exact h F' H' sf (rp2.retP rr) w (valR_of rp2 (valN_of hw) fun i ys b e => ⟨_, _, e⟩)
        cases q : bm (lamL 2 fl caps) ([d].map .dat ++ .fn :: List.replicate (N.length - 1 - 1) .no) with
        | no => rw [q] at h3; exact (show False from h3).elim
        | ex x ρb =>
          rw [q] at h3
          exact fun σ' F' H' cls dd sf rp xr => by
            have rr := retR_of rp
            exact h3 F' H' cls dd sf (rp2.retP rr) xr
        | ok fl' ρb =>
          rw [q] at h3
          cases fl' with
          | ret a => exact fin a ρb h3
          | nx => exact fun σ' F' H' sf rp => fin (.dat .none) ρb h3 σ' F' H' .non sf rp .non
          | bk => exact (show False from h3).elim
          | ct => exact (show False from h3).elim
      · have finc : ∀ {σ' : L2.St} {H' : Hp} {w : V} {u : Value}, Inv (cxOf (CX X.prog X.w) X.prog X.w X.K X.mg X.base N qual (defScope st) g cdv X.A X.stack s2 H2 (WE W σ)) [] σ' H' s' → L2.RelV w u → Q w H' → CE X.stack X.prog X.w H2 s2 Q u s' :=
          fun {σ' H' w u} J rv q => ⟨w, H', J.os, J.bare, J.base, J.hok, rv, q⟩
        cases fl with
        | ret u =>
          obtain ⟨v, σ', H', J, rv, q⟩ := hs
          exact finc J rv q
        | next =>
          obtain ⟨σ', H', J, q⟩ := hs
          exact finc (w := V.non) (u := Value.none) J rfl q
        | brk =>
          obtain ⟨_, _, _, q⟩ := hs
          exact False.elim q
        | cont =>
          obtain ⟨_, _, _, q⟩ := hs
          exact False.elim q
    refine wpAny_call (codeAny_mono rc fun r s' hq => ?_)
    cases r with
    | error e => exact passAt tk σ pins H2 s2 e s' I2 hq
    | ok fl =>
      cases fl with
      | ret u => exact I2.after hq
      | next => exact False.elim hq
      | brk => exact False.elim hq
      | cont => exact False.elim hq
end
end PL
end S_PLL

section S_PLE
set_option maxHeartbeats 1000000
namespace PL
open PySem PySem.Spec PyProof.Rows L2

/-! ### the end of a law: its call on the script -/
/-- what is tracked at the law's call: the script, the empty tables -/
def lawH (a : Addr) (o : Obj) (xs : List V) (ts : List Addr) : Hp := fun b => if b = a then some (.frz o (.lst xs)) else if b ∈ ts then some (.tbl #[]) else none
section
variable {P : Program} {w : World} {K : PySem.W.Frag} {mg mb : Str → Option Value} {k : Nat} {fa a : Addr} {cs : List (Addr × Addr)} {tabs : List (Addr × Str)} {fd : FuncData} {x : Str} {fm : Fm} {s₁ : Shared} {vs : List Value} {ns : List Int}
theorem law_callG (KX : K.In s₁.heap) (hns : s₁.heap.Ns mainGlobals mg) (hb : s₁.heap.Ns builtinsNs mb) (hbb : ∀ x : Str, x ≠ "__name__" → mb x = bootBuiltins x) (hlim : s₁.heap.NoLimit) (hg : s₁.gens = #[])
    (hT : ∀ p ∈ cs, s₁.heap.get? p.2 = some { cls := .none, data := .fields #[] }) (nT : ∀ p ∈ cs, K.lookup p.2 = none) (C : ∀ p ∈ cs, PySem.W.CodeHd s₁.heap p.1 p.2) (htab : ∀ t ∈ tabs, t.1 ∈ cs.map (·.2))
    (hbm : ∃ (bm : Addr) (ob : Obj), mg "__builtins__" = some (.ref bm) ∧ bm ≠ builtinsNs ∧ s₁.heap.get? bm = some ob ∧ ob.cls = .type "module" ∧ ob.dict = some builtinsNs ∧ ob.data = .plain)
    (ha : s₁.heap.get? a = some { cls := .type "list", data := .seq vs.toArray }) (ka : K.lookup a = none) (hi : IntsAre vs ns) (hl : ns.length ≤ sizeLine) (hr : Room k callerA)
    (F : ∀ base : Heap, K.In base → base.Ns mainGlobals mg → (∀ p ∈ cs, LamX.TabB base mg p.1 p.2) → FnG P w K mg base tabs k fa fd [x] fm) (hbind : ∀ (s : Shared) (u : Value), BindsTo s fd ⟨[u], []⟩ [(x, u)])
    (hm : fm none [.list (ns.map .int)] = .ok (.dat (.bool true)) none) :
    codeAny (model P w) callerA (.call (.ref fa) ⟨[.ref a], []⟩) (fun r s' => r = .ok (.ret (.bool true)) ∧ OldK s₁.heap s'.heap ∧ s'.os = s₁.os ∧ AllBare s'.gens) s₁ := by
  have rv := vals_ints hi
  have isT : ∀ b : Addr, b ∈ cs.map (·.2) → s₁.heap.get? b = some { cls := .none, data := .fields #[] } := fun b hb => by
    obtain ⟨p, hp, e⟩ := List.mem_map.mp hb
    rw [← e]
    exact hT p hp
  have aT : a ∉ cs.map (·.2) := fun z => by
    have q := isT a z
    rw [ha] at q
    have z' : Data.seq vs.toArray _ = Data.fields #[] := congrArg Obj.data (Option.some.inj q)
    cases z'
  have memT : ∀ p ∈ cs, p.2 ∈ cs.map (·.2) := fun p hp => List.mem_map.mpr ⟨p, hp, rfl⟩
  let oa : Obj := { cls := .type "list", data := .seq vs.toArray }
  let H : Hp := lawH a oa (ns.map V.int) (cs.map (·.2))
  have atA : H a = some (.frz oa (.lst (ns.map V.int))) := if_pos rfl
  have atT : ∀ b, b ∈ cs.map (·.2) → H b = some (.tbl #[]) := fun b hb => (if_neg (show ¬ b = a from fun z => aT (z ▸ hb))).trans (if_pos hb)
  have at0 : ∀ b, b ≠ a → b ∉ cs.map (·.2) → H b = none := fun b h1 h2 => (if_neg h1).trans (if_neg h2)
  have hA : ∀ b, H b ≠ none → b = a ∨ b ∈ cs.map (·.2) := fun b z => by
    by_cases h1 : b = a
    · exact .inl h1
    · by_cases h2 : b ∈ cs.map (·.2)
      · exact .inr h2
      · exact absurd (at0 b h1 h2) z
  have hok : HOk P w H s₁.heap := fun b u z => by
    by_cases h1 : b = a
    · rw [h1] at z ⊢
      rw [atA] at z
      cases z
      exact ⟨ha, by rw [List.length_map]; exact hl, vs, _, rv, ha⟩
    · by_cases h2 : b ∈ cs.map (·.2)
      · rw [atT b h2] at z
        cases z
        exact isT b h2
      · rw [at0 b h1 h2] at z
        cases z
  have noD : ∀ {b : Addr} {o : Obj}, s₁.heap.get? b = some o → (∀ vs n, o.data ≠ .seq vs n) → o.data ≠ .fields #[] → H b = none := fun {b o} e h1 h2 => by
    cases q : H b with
    | none => rfl
    | some u =>
      rcases hA b (by rw [q]; simp) with e' | e'
      · rw [e', ha] at e
        cases e
        exact (h1 _ _ rfl).elim
      · rw [isT b e'] at e
        cases e
        exact (h2 rfl).elim
  have noA : ∀ {b : Addr} {o : Obj} {es : Array DictEntry} {ep : Nat}, s₁.heap.get? b = some o → o.data = .dict es ep → H b = none := fun {b o es ep} e d =>
    noD e (fun vs n z => by rw [d] at z; cases z) fun z => by rw [d] at z; cases z
  have nsK : ∀ {b : Addr} {m : Str → Option Value}, s₁.heap.Ns b m → (hidT s₁.heap H).Ns b m := fun {b m} ⟨o, es, ep, e, d, r⟩ => ⟨o, es, ep, hidT_get e (noA e d), d, r⟩
  have hKb : K.In (hidT s₁.heap H) := fun b o e => hidT_get (KX b o e) (by
    cases q : H b with
    | none => rfl
    | some u =>
      rcases hA b (by rw [q]; simp) with e' | e'
      · rw [e', ka] at e
        cases e
      · obtain ⟨p, hp, ep⟩ := List.mem_map.mp e'
        rw [← ep, nT p hp] at e
        cases e)
  have hM : L2.Mod K mg (hidT s₁.heap H) := ⟨hKb, nsK hns, ⟨mb, nsK hb, hbb⟩, let ⟨mc, h1, h2⟩ := hlim; ⟨mc, nsK h1, h2⟩⟩
  have TB : ∀ p ∈ cs, LamX.TabB (hidT s₁.heap H) mg p.1 p.2 := fun p hp => by
    have hTp := hT p hp
    refine ⟨?_, ?_, fun z => ?_⟩
    · obtain ⟨o, us, file, tf, flags, tg, inF, text, tt, e1, r1, r2, r3, r4, r5, r6, r7, r8, hne⟩ := C p hp
      refine ⟨o, us, file, tf, flags, tg, inF, text, tt, hidT_get e1 (noD e1 (fun vs n z => by rw [r2] at z; cases z) fun z => ?_), r1, r2, r3, r4, r5, r6, r7, r8, hne⟩
      rw [r2] at z
      cases z
      simp at r3
    · obtain ⟨bm, ob, b1, b2, b3, b4, b5, b6⟩ := hbm
      have nG : bm ≠ mainGlobals := fun q => by
        obtain ⟨o, es, ep, e, hd, _⟩ := hns
        rw [q, e] at b3
        cases b3
        rw [hd] at b6
        cases b6
      have nP : bm ≠ p.2 := fun q => by
        rw [q, hTp] at b3
        cases b3
        cases b6
      exact ⟨bm, ob, b1, b2, nG, nP, hidT_get b3 (noD b3 (fun vs n z => by rw [b6] at z; cases z) fun z => by rw [b6] at z; cases z), b4, b5, b6⟩
    · obtain ⟨o, es, ep, e, hd, _⟩ := hns
      rw [z, hTp] at e
      cases e
      cases hd
  have e0 : Env0 P w K mg (hidT s₁.heap H) callerA [] s₁ H := ⟨rfl, hM, fun b o e => of_hidT e, Nat.le_of_eq (hidT_size _ _), trivial, fun b hb => absurd (show b ∈ ([] : List Addr) from hb) (by simp), hok, .of_eq hg⟩
  -- the data's part: the script alone
  let Fd : Hp := fun b => if b = a then some (.frz oa (.lst (ns.map V.int))) else none
  have sm : Same Fd H := fun b u e => by
    by_cases h1 : b = a
    · subst h1
      rw [show Fd b = some (.frz oa (.lst (ns.map V.int))) from if_pos rfl] at e
      rw [atA]
      exact e
    · rw [show Fd b = none from if_neg h1] at e
      cases e
  have dq : DqAll K Fd [.ref a] [.list (ns.map .int)] := .cons (.lst (.inr ⟨oa, if_pos rfl⟩) (DqAll_ints ns)) .nil
  have tb : LamX.Tabs tabs H := fun t ht => LamX.TabS.nil (atT _ (htab t ht))
  have tf : ∀ t ∈ tabs, Fd t.1 = none := fun t ht => if_neg (show ¬ t.1 = a from fun z => aT (by rw [← z]; exact htab t ht))
  refine codeAny_mono ((F _ hKb (nsK hns) TB).run callerA [] s₁ H ⟨[.ref a], []⟩ [.ref a] [.ref a] (fun v H' => v = .bl true ∧ ∃ F', RetR tabs [] Fd H F' H') (fun _ _ _ => False) hr rfl e0 (hbind s₁ (.ref a)) (.cons rfl .nil)
    ⟨rfl, Fd, none, [.list (ns.map .int)], [], [.ref a], rfl, rfl, dq, sm, tb, tf, by
      rw [hm]
      exact fun v F' H' rr _ hv => ⟨by cases hv; rfl, F', rr⟩⟩) fun r s' h => ?_
  cases r with
  | error e =>
    exact (show False by
      obtain ⟨_, _, _, _, _, _, _, _, _, _, _, _, _, z⟩ := h).elim
  | ok fl =>
    cases fl with
    | next => exact False.elim h
    | brk => exact False.elim h
    | cont => exact False.elim h
    | ret u =>
      obtain ⟨v, H', os, bare, un, hok', r', rfl, F', rr⟩ := h
      obtain rfl : u = Value.bool true := r'
      have key : ∀ b o, b ∉ cs.map (·.2) → s₁.heap.get? b = some o → s'.heap.get? b = some o := fun b o nb e => by
        by_cases h1 : b = a
        · subst h1
          have z2 := rr.fr b _ atA (by simp) (by simp)
          obtain ⟨e2, _⟩ := hok' b _ z2
          rw [ha] at e
          cases e
          exact e2
        · exact un.keep b o e (at0 b h1 nb) (by intro z; exact absurd (show b ∈ ([] : List Addr) from z) (by simp)) (by simp)
      have grown : ∀ p ∈ cs, ∃ more : Array Value, s'.heap.get? p.2 = some { cls := .none, data := .fields more } := fun p hp => by
        obtain ⟨more, z⟩ := un.tbls p.2 #[] (atT _ (memT p hp))
        exact ⟨_, hok' p.2 _ z⟩
      refine ⟨rfl, ⟨fun b o e => ?_, fun b o e => ?_⟩, os, bare⟩
      · by_cases hb : b ∈ cs.map (·.2)
        · obtain ⟨p, hp, ep⟩ := List.mem_map.mp hb
          obtain ⟨more, hm⟩ := grown p hp
          rw [← ep] at e ⊢
          rw [hT p hp] at e
          cases e
          exact .inr (.inl ⟨((C p hp).tab (hT p hp)).isCodeTable, rfl, #[], more, rfl, by rw [Array.empty_append]; exact hm⟩)
        · exact .inl (key b o hb e)
      · by_cases hb : b ∈ cs.map (·.2)
        · obtain ⟨p, hp, ep⟩ := List.mem_map.mp hb
          obtain ⟨more, hm⟩ := grown p hp
          rw [← ep]
          exact ⟨_, hm⟩
        · exact ⟨o, key b o hb e⟩
end
/-- no list stands in K -/
def noList (K : PySem.W.Frag) : Bool := K.all fun q => match q.2.cls with
  | .type c => !(c == "list")
  | _ => true
theorem noList_ok {K : PySem.W.Frag} (h : noList K = true) {a : Addr} {o : Obj} (e : K.lookup a = some o) : o.cls ≠ .type "list" := fun z => by
  have := List.all_eq_true.mp h (a, o) (He.lookup_mem e)
  rw [show (a, o).2.cls = .type "list" from z] at this
  exact absurd this (by decide)
/-- what is told of the head's heap: the law's promise -/
def LawG (l : PySem.W.OpenLaw) (w : World) (k n : Nat) (mg : Str → Option Value) (fa : Addr) (h : Heap) : Prop :=
  ∃ (K : PySem.W.Frag) (fd : FuncData) (cs : List (Addr × Addr)) (tabs : List (Addr × Str)) (x : Str) (fm : Fm), K.In h ∧ noList K = true ∧ (∀ p ∈ cs, h.get? p.2 = some { cls := .none, data := .fields #[] }) ∧ (∀ p ∈ cs, K.lookup p.2 = none) ∧ (∀ p ∈ cs, PySem.W.CodeHd h p.1 p.2) ∧ (∀ t ∈ tabs, t.1 ∈ cs.map (·.2)) ∧
    (∀ (s : Shared) (u : Value), BindsTo s fd ⟨[u], []⟩ [(x, u)]) ∧ (∀ ns : List Int, ns.length ≤ n → (∀ z ∈ ns, Builtin.Int.intBits z ≤ 1048576) → fm none [.list (ns.map .int)] = .ok (.dat (.bool true)) none) ∧
    ∀ base : Heap, K.In base → base.Ns mainGlobals mg → (∀ p ∈ cs, LamX.TabB base mg p.1 p.2) → FnG l.prog w K mg base tabs k fa fd [x] fm
theorem walk_ofG {l : PySem.W.OpenLaw} {n k : Nat} {q : Program} {loose : List Str} {XP : (Str → Option Value) → Heap → Prop} {YP : World → Heap → Prop} {d : DefRec}
    (hn : l.most = some n) (hn2 : n ≤ sizeLine) (hdf : d.params.defaults = []) (hr : Room k callerA)
    (F : ∀ (w : World) (mg : Str → Option Value) (fa : Addr) (h : Heap), YP w h → h.Ns mainGlobals mg → mg d.name = some (.ref fa) → LawG l w k n mg fa h) :
    PySem.W.WalkO q loose XP YP l.row.toRowW d [] (fun f vs => PySem.call f vs) := by
  refine Att.attach_callB hn hdf fun w s₀ s₁ mg mb fa o pm cd doc a vs ns G Y ho hd hcd hmg hobj hints hlen hbits hg => ?_
  obtain ⟨K, fd, cs, tabs, x, fm, KX, nl, hT, nT, C, ht, hb, hm, hF⟩ := F w mg fa _ Y G.T.g hmg
  have ka : K.lookup a = none := by
    cases e : K.lookup a with
    | none => rfl
    | some o' =>
      have e2 := KX _ _ e
      rw [hobj] at e2
      cases e2
      exact absurd rfl (noList_ok nl e)
  exact law_callG KX G.T.g G.T.b G.T.builtins G.T.nolimit hg hT nT C ht G.T.bmain hobj ka hints (Nat.le_trans hlen hn2) hr hF hb (hm ns hlen hbits)
end PL
end S_PLE

section S_PLG
namespace PL
open PySem PySem.Spec PyProof.Rows L2

/-! ### short forms for what a generator writes -/
section
variable {X : Cx} {T : Tx} {W : WX} {e e1 e2 e3 tg : Expr} {es : List Expr} {pos py p px p1 p2 : Pos} {f g h : Cm D} {fo fa fk : Cm (List D)} {fv : Cm Vl} {ft gt : Cm Bool} {i k j : Nat} {x y nm : Str} {kws : List Keyword}
theorem dv (i : Nat) {x : Str} {pos : Pos} (hN : X.N[i]? = some x := by rfl) (hv : Vis X.env.scope x := by first | exact Or.inl rfl | exact Or.inr (Or.inl rfl) | exact Or.inr (Or.inr rfl)) (hd : (x == ("__debug__" : Str)) = false := by decide) (hcd : (x == ("__classdict__" : Str)) = false := by decide) :
    DE X T W (.Name x pos) (rdV i) := de_var hN hv hd hcd
theorem dvO (i : Nat) {x : Str} {pos : Pos} (hN : X.N[i]? = some x := by rfl) (hv : Vis X.env.scope x := by first | exact Or.inl rfl | exact Or.inr (Or.inl rfl) | exact Or.inr (Or.inr rfl)) (hd : (x == ("__debug__" : Str)) = false := by decide) (hcd : (x == ("__classdict__" : Str)) = false := by decide) :
    DE X T W (.Name x pos) (frzS i) := de_frzS hN hv hd hcd
/-- a module's whole number -/
theorem dgI {x : Str} {n : Int} {pos : Pos} (hm : ∃ t, X.mg x = some (.int n t)) (hg : Gl X x := by rfl) (hb : (x == ("__debug__" : Str)) = false := by decide) : DE X T W (.Name x pos) (ret (.int n)) := by
  obtain ⟨t, hm⟩ := hm
  exact de_glob (v := .int n) hg hm ⟨t, rfl⟩ (fun H => .int n) hb
theorem dgS {x z : Str} {pos : Pos} (hm : ∃ t, X.mg x = some (.str z t)) (hg : Gl X x := by rfl) (hb : (x == ("__debug__" : Str)) = false := by decide) : DE X T W (.Name x pos) (ret (.str z)) := by
  obtain ⟨t, hm⟩ := hm
  exact de_glob (v := .str z) hg hm ⟨t, rfl⟩ (fun H => .str z) hb
/-! comparisons as tests -/
theorem dt_eq (hr : Room k X.A) (ha : DE X T W e1 f) (hb : DE X T W e2 g) : DT X T W (.Compare e1 [.Eq] [e2] pos) (tru (o2 f g eqD)) := dt_cmp (op_eq.or (op_eqD hr.units)) od_eq (nomark _) ha hb
theorem dt_ne (hr : Room k X.A) (ha : DE X T W e1 f) (hb : DE X T W e2 g) : DT X T W (.Compare e1 [.NotEq] [e2] pos) (tru (o2 f g neD)) := dt_cmp (op_ne.or (op_neD hr.units)) od_ne (nomark _) ha hb
theorem dt_lt (hr : Room k X.A) (ha : DE X T W e1 f) (hb : DE X T W e2 g) : DT X T W (.Compare e1 [.Lt] [e2] pos) (tru (o2 f g ltD)) := dt_cmp (op_lt.or (op_ltDt hr.units)) od_lt (nomark _) ha hb
theorem dt_le (hr : Room k X.A) (ha : DE X T W e1 f) (hb : DE X T W e2 g) : DT X T W (.Compare e1 [.LtE] [e2] pos) (tru (o2 f g leD)) := dt_cmp (op_le.or (op_leDt hr.units)) od_le (nomark _) ha hb
theorem dt_gt (hr : Room k X.A) (ha : DE X T W e1 f) (hb : DE X T W e2 g) : DT X T W (.Compare e1 [.Gt] [e2] pos) (tru (o2 f g gtD)) := dt_cmp (op_gt.or (op_gtDt hr.units)) od_gt (nomark _) ha hb
theorem dt_ge (hr : Room k X.A) (ha : DE X T W e1 f) (hb : DE X T W e2 g) : DT X T W (.Compare e1 [.GtE] [e2] pos) (tru (o2 f g geD)) := dt_cmp (op_ge.or (op_geDt hr.units)) od_ge (nomark _) ha hb
theorem dt_in (hr : Room k X.A) (ha : DE X T W e1 f) (hb : DE X T W e2 g) (hm : behindInMarks .In e2 = false := by rfl) : DT X T W (.Compare e1 [.In] [e2] pos) (tru (o2 f g inD)) := dt_cmp ((op_inD (room65 hr)).or ((op_inTD (room65 hr)).or op_in_str)) od_in hm ha hb
theorem dt_nin (hr : Room k X.A) (ha : DE X T W e1 f) (hb : DE X T W e2 g) (hm : behindInMarks .NotIn e2 = false := by rfl) : DT X T W (.Compare e1 [.NotIn] [e2] pos) (tru (o2 f g ninD)) := dt_cmp ((op_notInD (room65 hr)).or ((op_ninTD (room65 hr)).or op_notin_str)) od_nin hm ha hb
theorem dt_isN (ha : DE X T W e1 f) (hb : DE X T W e2 g) : DT X T W (.Compare e1 [.Is] [e2] pos) (tru (o2 f g isND)) := dt_cmp op_isN od_isN (nomark _) ha hb
theorem dt_nisN (ha : DE X T W e1 f) (hb : DE X T W e2 g) : DT X T W (.Compare e1 [.IsNot] [e2] pos) (tru (o2 f g nisND)) := dt_cmp op_notN od_nisN (nomark _) ha hb
theorem de_in' (hr : Room k X.A) (ha : DE X T W e1 f) (hb : DE X T W e2 g) (hm : behindInMarks .In e2 = false := by rfl) : DE X T W (.Compare e1 [.In] [e2] pos) (o2 f g inD) := de_in hr hm ha hb
theorem de_nin' (hr : Room k X.A) (ha : DE X T W e1 f) (hb : DE X T W e2 g) (hm : behindInMarks .NotIn e2 = false := by rfl) : DE X T W (.Compare e1 [.NotIn] [e2] pos) (o2 f g ninD) := de_nin hr hm ha hb
/-! an owned list on one side -/
abbrev VisA (X : Cx) (x : Str) : Prop := Vis X.env.scope x
theorem dt_neL (hr : Room k X.A) (i : Nat) (hb : DE X T W e2 g) (hN : X.N[i]? = some y := by rfl) (hv : Vis X.env.scope y := by first | exact Or.inl rfl | exact Or.inr (Or.inl rfl) | exact Or.inr (Or.inr rfl)) (hdd : (y == ("__debug__" : Str)) = false := by decide) (hcd : (y == ("__classdict__" : Str)) = false := by decide) : DT X T W (.Compare (.Name y py) [.NotEq] [e2] pos) (tru (oL i g neD)) := dt_cmpL (op_ne.or (op_neD hr.units)) od_ne (nomark _) hN hv hb hdd hcd
theorem dt_eqL (hr : Room k X.A) (i : Nat) (hb : DE X T W e2 g) (hN : X.N[i]? = some y := by rfl) (hv : Vis X.env.scope y := by first | exact Or.inl rfl | exact Or.inr (Or.inl rfl) | exact Or.inr (Or.inr rfl)) (hdd : (y == ("__debug__" : Str)) = false := by decide) (hcd : (y == ("__classdict__" : Str)) = false := by decide) : DT X T W (.Compare (.Name y py) [.Eq] [e2] pos) (tru (oL i g eqD)) := dt_cmpL (op_eq.or (op_eqD hr.units)) od_eq (nomark _) hN hv hb hdd hcd
theorem de_neL (hr : Room k X.A) (i : Nat) (hb : DE X T W e2 g) (hN : X.N[i]? = some y := by rfl) (hv : Vis X.env.scope y := by first | exact Or.inl rfl | exact Or.inr (Or.inl rfl) | exact Or.inr (Or.inr rfl)) (hdd : (y == ("__debug__" : Str)) = false := by decide) (hcd : (y == ("__classdict__" : Str)) = false := by decide) : DE X T W (.Compare (.Name y py) [.NotEq] [e2] pos) (oL i g neD) := de_cmpL (op_ne.or (op_neD hr.units)) od_ne (nomark _) hN hv hb hdd hcd
theorem de_eqL (hr : Room k X.A) (i : Nat) (hb : DE X T W e2 g) (hN : X.N[i]? = some y := by rfl) (hv : Vis X.env.scope y := by first | exact Or.inl rfl | exact Or.inr (Or.inl rfl) | exact Or.inr (Or.inr rfl)) (hdd : (y == ("__debug__" : Str)) = false := by decide) (hcd : (y == ("__classdict__" : Str)) = false := by decide) : DE X T W (.Compare (.Name y py) [.Eq] [e2] pos) (oL i g eqD) := de_cmpL (op_eq.or (op_eqD hr.units)) od_eq (nomark _) hN hv hb hdd hcd
theorem dt_inO (hr : Room k X.A) (ha : DE X T W e1 f) (i : Nat) (hm : behindInMarks .In (.Name y py) = false := by rfl) (hN : X.N[i]? = some y := by rfl) (hv : Vis X.env.scope y := by first | exact Or.inl rfl | exact Or.inr (Or.inl rfl) | exact Or.inr (Or.inr rfl)) (hdd : (y == ("__debug__" : Str)) = false := by decide) (hcd : (y == ("__classdict__" : Str)) = false := by decide) : DT X T W (.Compare e1 [.In] [.Name y py] pos) (tru (o2R f i inD)) := dt_cmpRo ((op_inD (room65 hr)).or ((op_inTD (room65 hr)).or op_in_str)) od_in ha hm hN hv hdd hcd
theorem dt_ninO (hr : Room k X.A) (ha : DE X T W e1 f) (i : Nat) (hm : behindInMarks .NotIn (.Name y py) = false := by rfl) (hN : X.N[i]? = some y := by rfl) (hv : Vis X.env.scope y := by first | exact Or.inl rfl | exact Or.inr (Or.inl rfl) | exact Or.inr (Or.inr rfl)) (hdd : (y == ("__debug__" : Str)) = false := by decide) (hcd : (y == ("__classdict__" : Str)) = false := by decide) : DT X T W (.Compare e1 [.NotIn] [.Name y py] pos) (tru (o2R f i ninD)) := dt_cmpRo ((op_notInD (room65 hr)).or ((op_ninTD (room65 hr)).or op_notin_str)) od_nin ha hm hN hv hdd hcd
theorem dixL (i : Nat) (hb : DE X T W e2 g) (hN : X.N[i]? = some y := by rfl) (hv : Vis X.env.scope y := by first | exact Or.inl rfl | exact Or.inr (Or.inl rfl) | exact Or.inr (Or.inr rfl)) (hs : PlainIx e2 := by exact fun _ _ => rfl) (hdd : (y == ("__debug__" : Str)) = false := by decide) (hcd : (y == ("__classdict__" : Str)) = false := by decide) :
    DE X T W (.Subscript (.Name y py) e2 pos) (oL i g ixD) := de_ixL hN hv hb hs hdd hcd
/-! chains -/
abbrev opLt (hr : Room k X.A) := (op_lt (X := X)).or (op_ltDt hr.units)
abbrev opLe (hr : Room k X.A) := (op_le (X := X)).or (op_leDt hr.units)
theorem dt_lele (hr : Room k X.A) (ha : DE X T W e1 f) (hb : DE X T W e2 g) (hc : DE X T W e3 h) (hm : lastMarks [.LtE, .LtE] [e2, e3] = false := by with_unfolding_all rfl) : DT X T W (.Compare e1 [.LtE, .LtE] [e2, e3] pos) (tru (chM f g h leD leD)) := dt_chain (opLe hr) (opLe hr) od_le od_le ha hb hc hm
theorem de_lele (hr : Room k X.A) (ha : DE X T W e1 f) (hb : DE X T W e2 g) (hc : DE X T W e3 h) (hm : lastMarks [.LtE, .LtE] [e2, e3] = false := by with_unfolding_all rfl) : DE X T W (.Compare e1 [.LtE, .LtE] [e2, e3] pos) (chM f g h leD leD) := de_chain (opLe hr) (opLe hr) od_le od_le ha hb hc hm
theorem dt_ltlt (hr : Room k X.A) (ha : DE X T W e1 f) (hb : DE X T W e2 g) (hc : DE X T W e3 h) (hm : lastMarks [.Lt, .Lt] [e2, e3] = false := by with_unfolding_all rfl) : DT X T W (.Compare e1 [.Lt, .Lt] [e2, e3] pos) (tru (chM f g h ltD ltD)) := dt_chain (opLt hr) (opLt hr) od_lt od_lt ha hb hc hm
theorem de_ltlt (hr : Room k X.A) (ha : DE X T W e1 f) (hb : DE X T W e2 g) (hc : DE X T W e3 h) (hm : lastMarks [.Lt, .Lt] [e2, e3] = false := by with_unfolding_all rfl) : DE X T W (.Compare e1 [.Lt, .Lt] [e2, e3] pos) (chM f g h ltD ltD) := de_chain (opLt hr) (opLt hr) od_lt od_lt ha hb hc hm
theorem dt_lelt (hr : Room k X.A) (ha : DE X T W e1 f) (hb : DE X T W e2 g) (hc : DE X T W e3 h) (hm : lastMarks [.LtE, .Lt] [e2, e3] = false := by with_unfolding_all rfl) : DT X T W (.Compare e1 [.LtE, .Lt] [e2, e3] pos) (tru (chM f g h leD ltD)) := dt_chain (opLe hr) (opLt hr) od_le od_lt ha hb hc hm
theorem de_lelt (hr : Room k X.A) (ha : DE X T W e1 f) (hb : DE X T W e2 g) (hc : DE X T W e3 h) (hm : lastMarks [.LtE, .Lt] [e2, e3] = false := by with_unfolding_all rfl) : DE X T W (.Compare e1 [.LtE, .Lt] [e2, e3] pos) (chM f g h leD ltD) := de_chain (opLe hr) (opLt hr) od_le od_lt ha hb hc hm
/-! built-ins by name -/
theorem b_len (hm : X.mg "len" = none) (ha : DE X T W e f) (hg : Gl X "len" := by rfl) (he : starEach (e :: []) X.env = (false, eval e X.env) :: starEach [] X.env := by rfl) (hpl : (backTo pos (starEach [] X.env)).any (·.1) = false := by rfl) : DE X T W (.Call (.Name "len" px) [e] [] pos) (caM (argC f argN) lenD) := de_caB call_len cd_len hg hm (by rfl) (da_cons ha da_nil he) (he := he) (hpl := hpl)
theorem b_lenO (hm : X.mg "len" = none) (i : Nat) (hg : Gl X "len" := by rfl) (hN : X.N[i]? = some y := by rfl) (hv : Vis X.env.scope y := by first | exact Or.inl rfl | exact Or.inr (Or.inl rfl) | exact Or.inr (Or.inr rfl)) (hdd : (y == ("__debug__" : Str)) = false := by decide) (hcd : (y == ("__classdict__" : Str)) = false := by decide)
    (he : starEach (.Name y py :: []) X.env = (false, eval (.Name y py) X.env) :: starEach [] X.env := by rfl) (hpl : (backTo pos (starEach [] X.env)).any (·.1) = false := by rfl) : DE X T W (.Call (.Name "len" px) [.Name y py] [] pos) (caO i lenD) := de_caBO call_len cd_len hg hm (by rfl) hN hv (hdd := hdd) (hcd := hcd) (he := he) (hpl := hpl)
theorem b_abs (hm : X.mg "abs" = none) (ha : DE X T W e f) (hg : Gl X "abs" := by rfl) (he : starEach (e :: []) X.env = (false, eval e X.env) :: starEach [] X.env := by rfl) (hpl : (backTo pos (starEach [] X.env)).any (·.1) = false := by rfl) : DE X T W (.Call (.Name "abs" px) [e] [] pos) (caM (argC f argN) absD) := de_caB call_abs cd_abs hg hm (by rfl) (da_cons ha da_nil he) (he := he) (hpl := hpl)
theorem b_int (hm : X.mg "int" = none) (ha : DE X T W e f) (hg : Gl X "int" := by rfl) (he : starEach (e :: []) X.env = (false, eval e X.env) :: starEach [] X.env := by rfl) (hpl : (backTo pos (starEach [] X.env)).any (·.1) = false := by rfl) : DE X T W (.Call (.Name "int" px) [e] [] pos) (caM (argC f argN) intD) := de_caT call_int1 cd_int hg hm (by rfl) (da_cons ha da_nil he) (he := he) (hpl := hpl)
theorem b_sum (hm : X.mg "sum" = none) (hc : X.calm = true) (ha : DE X T W e f) (hg : Gl X "sum" := by rfl) (he : starEach (e :: []) X.env = (false, eval e X.env) :: starEach [] X.env := by rfl) (hpl : (backTo pos (starEach [] X.env)).any (·.1) = false := by rfl) : DE X T W (.Call (.Name "sum" px) [e] [] pos) (caM (argC f argN) sumD) := de_caB ((cr_sum hc).or (cr_sumT hc)) cd_sum hg hm (by rfl) (da_cons ha da_nil he) (he := he) (hpl := hpl)
theorem b_all (hm : X.mg "all" = none) (hc : X.calm = true) (ha : DE X T W e f) (hg : Gl X "all" := by rfl) (he : starEach (e :: []) X.env = (false, eval e X.env) :: starEach [] X.env := by rfl) (hpl : (backTo pos (starEach [] X.env)).any (·.1) = false := by rfl) : DE X T W (.Call (.Name "all" px) [e] [] pos) (caM (argC f argN) allD) := de_caB (cr_all hc) cd_all hg hm (by rfl) (da_cons ha da_nil he) (he := he) (hpl := hpl)
theorem b_any (hm : X.mg "any" = none) (hc : X.calm = true) (ha : DE X T W e f) (hg : Gl X "any" := by rfl) (he : starEach (e :: []) X.env = (false, eval e X.env) :: starEach [] X.env := by rfl) (hpl : (backTo pos (starEach [] X.env)).any (·.1) = false := by rfl) : DE X T W (.Call (.Name "any" px) [e] [] pos) (caM (argC f argN) anyD) := de_caB (cr_any hc) cd_any hg hm (by rfl) (da_cons ha da_nil he) (he := he) (hpl := hpl)
theorem b_tuple (hm : X.mg "tuple" = none) (ha : DE X T W e f) (hg : Gl X "tuple" := by rfl) (he : starEach (e :: []) X.env = (false, eval e X.env) :: starEach [] X.env := by rfl) (hpl : (backTo pos (starEach [] X.env)).any (·.1) = false := by rfl) : DE X T W (.Call (.Name "tuple" px) [e] [] pos) (caM (argC f argN) tupleD) := de_caT call_tuple_of cd_tuple hg hm (by rfl) (da_cons ha da_nil he) (he := he) (hpl := hpl)
theorem b_list (hm : X.mg "list" = none) (ha : DE X T W e f) (hg : Gl X "list" := by rfl) (he : starEach (e :: []) X.env = (false, eval e X.env) :: starEach [] X.env := by rfl) (hpl : (backTo pos (starEach [] X.env)).any (·.1) = false := by rfl) : DE X T W (.Call (.Name "list" px) [e] [] pos) (caM (argC f argN) listD) := de_caT call_list_of cd_list hg hm (by rfl) (da_cons ha da_nil he) (he := he) (hpl := hpl)
theorem b_max2 (hm : X.mg "max" = none) (hc : X.calm = true) (ha : DE X T W e1 f) (hb : DE X T W e2 g) (hg : Gl X "max" := by rfl) (he : starEach (e1 :: [e2]) X.env = (false, eval e1 X.env) :: starEach [e2] X.env := by rfl) (he2 : starEach (e2 :: []) X.env = (false, eval e2 X.env) :: starEach [] X.env := by rfl) (hpl : (backTo pos (starEach [e2] X.env)).any (·.1) = false := by rfl) :
    DE X T W (.Call (.Name "max" px) [e1, e2] [] pos) (caM (argC f (argC g argN)) max2D) := de_caB (call_max2 hc) cd_max2 hg hm (by rfl) (da_cons ha (da_cons hb da_nil he2) he) (he := he) (hpl := hpl)
theorem b_min2 (hm : X.mg "min" = none) (hc : X.calm = true) (ha : DE X T W e1 f) (hb : DE X T W e2 g) (hg : Gl X "min" := by rfl) (he : starEach (e1 :: [e2]) X.env = (false, eval e1 X.env) :: starEach [e2] X.env := by rfl) (he2 : starEach (e2 :: []) X.env = (false, eval e2 X.env) :: starEach [] X.env := by rfl) (hpl : (backTo pos (starEach [e2] X.env)).any (·.1) = false := by rfl) :
    DE X T W (.Call (.Name "min" px) [e1, e2] [] pos) (caM (argC f (argC g argN)) min2D) := de_caB (call_min2 hc) cd_min2 hg hm (by rfl) (da_cons ha (da_cons hb da_nil he2) he) (he := he) (hpl := hpl)
theorem b_divmod (hm : X.mg "divmod" = none) (ha : DE X T W e1 f) (hb : DE X T W e2 g) (hg : Gl X "divmod" := by rfl) (he : starEach (e1 :: [e2]) X.env = (false, eval e1 X.env) :: starEach [e2] X.env := by rfl) (he2 : starEach (e2 :: []) X.env = (false, eval e2 X.env) :: starEach [] X.env := by rfl) (hpl : (backTo pos (starEach [e2] X.env)).any (·.1) = false := by rfl) :
    DE X T W (.Call (.Name "divmod" px) [e1, e2] [] pos) (caM (argC f (argC g argN)) divmodD) := de_caB call_divmodW cd_divmod hg hm (by rfl) (da_cons ha (da_cons hb da_nil he2) he) (he := he) (hpl := hpl)
theorem b_gcd (hm : X.mg "gcd" = some (.builtin "math.gcd")) (ha : DE X T W e1 f) (hb : DE X T W e2 g) (hg : Gl X "gcd" := by rfl) (he : starEach (e1 :: [e2]) X.env = (false, eval e1 X.env) :: starEach [e2] X.env := by rfl) (he2 : starEach (e2 :: []) X.env = (false, eval e2 X.env) :: starEach [] X.env := by rfl) (hpl : (backTo pos (starEach [e2] X.env)).any (·.1) = false := by rfl) :
    DE X T W (.Call (.Name "gcd" px) [e1, e2] [] pos) (caM (argC f (argC g argN)) gcdD) := PE_imp (pe_callBfun cr_gcd hg hm (da_cons ha (da_cons hb da_nil he2) he) (he := he) (hpl := hpl)) fun σ H Q h => ca_read cd_gcd h
theorem b_isi (t : Ty5) (hm : X.mg "isinstance" = none) (hm2 : X.mg nm = none) (ha : DE X T W e f) (hg : Gl X "isinstance" := by rfl) (hg2 : Gl X nm := by rfl) (hv2 : bootBuiltins nm = some (.type t.nm) := by rfl) (hn : nm ≠ "__name__" := by decide) (hdb : (nm == ("__debug__" : Str)) = false := by decide)
    (he : starEach (e :: [.Name nm p2]) X.env = (false, eval e X.env) :: starEach [.Name nm p2] X.env := by rfl) (he2 : starEach (.Name nm p2 :: []) X.env = (false, eval (.Name nm p2) X.env) :: starEach [] X.env := by rfl) (hpl : (backTo pos (starEach [.Name nm p2] X.env)).any (·.1) = false := by rfl) :
    DE X T W (.Call (.Name "isinstance" p1) [e, .Name nm p2] [] pos) (isiM f t) := de_isi t hg hm hg2 hm2 hv2 ha hn hdb he he2 hpl

/-! calls of defs -/
/-- a def of the module that may be called -/
structure Df (P : Program) (w : World) (K : PySem.W.Frag) (mg : Str → Option Value) (base : Heap) (tabs : List (Addr × Str)) (k : Nat) (x : Str) (st : Stmt) (ps : List Str) (fm : Fm) : Prop where
  ex : ∃ f fd, Fun K x x st f fd ∧ FnG P w K mg base tabs k f fd ps fm ∧ mg x = some (.ref f) ∧ Binds K fd ps []
variable {st : Stmt} {ps ks : List Str} {fm : Fm} {na nb : Nat} {idx : List Nat}
theorem vc (D : Df X.prog X.w X.K X.mg X.base T.tabs j x st ps fm) (hr : Room j X.A) (hgd : X.A.guards = some []) (ha : DA X T W (e :: es) fa) (tk : Takes X W := by first | exact LamX.takes0 | exact takes_of rfl rfl rfl rfl) (hg : Gl X x := by rfl) (hdb : (x == ("__debug__" : Str)) = false := by decide)
    (he : starEach (e :: es) X.env = (false, eval e X.env) :: starEach es X.env := by rfl) (hpl : (backTo pos (starEach es X.env)).any (·.1) = false := by rfl) : VE X T W (.Call (.Name x p) (e :: es) [] pos) (callP ps.length fm fa) := by
  obtain ⟨f, fd, F, G, m, b⟩ := D.ex
  exact ve_call ⟨G, hr, hgd, tk, m, F.kp⟩ hg b ha hdb he hpl
theorem vc0 (D : Df X.prog X.w X.K X.mg X.base T.tabs j x st ps fm) (hr : Room j X.A) (hgd : X.A.guards = some []) (tk : Takes X W := by first | exact LamX.takes0 | exact takes_of rfl rfl rfl rfl) (hg : Gl X x := by rfl) (hdb : (x == ("__debug__" : Str)) = false := by decide) :
    VE X T W (.Call (.Name x p) [] [] pos) (callP ps.length fm argN) := by
  obtain ⟨f, fd, F, G, m, b⟩ := D.ex
  exact ve_call0 ⟨G, hr, hgd, tk, m, F.kp⟩ hg b hdb
theorem vcB (i : Nat) (D : Df X.prog X.w X.K X.mg X.base T.tabs j x st ps fm) (hr : Room j X.A) (hgd : X.A.guards = some []) (ha : DA X T W es fa) (tk : Takes X W := by first | exact LamX.takes0 | exact takes_of rfl rfl rfl rfl) (hg : Gl X x := by rfl)
    (hN : X.N[i]? = some y := by rfl) (hv : Vis X.env.scope y := by first | exact Or.inl rfl | exact Or.inr (Or.inl rfl) | exact Or.inr (Or.inr rfl)) (hd : (y == ("__debug__" : Str)) = false := by decide) (hcd : (y == ("__classdict__" : Str)) = false := by decide) (hdb : (x == ("__debug__" : Str)) = false := by decide)
    (he : starEach (.Name y py :: es) X.env = (false, eval (.Name y py) X.env) :: starEach es X.env := by rfl) (hpl : (backTo pos (starEach es X.env)).any (·.1) = false := by rfl) : VE X T W (.Call (.Name x p) (.Name y py :: es) [] pos) (callB ps.length fm i fa) := by
  obtain ⟨f, fd, F, G, m, b⟩ := D.ex
  exact ve_callB ⟨G, hr, hgd, tk, m, F.kp⟩ hg b hN hv ha hd hcd hdb he hpl
theorem vcK (D : Df X.prog X.w X.K X.mg X.base T.tabs j x st ps fm) (hr : Room j X.A) (hgd : X.A.guards = some []) (hb : ∀ {f : Addr} {fd : FuncData}, Fun X.K x x st f fd → KwB X.K fd ps ks na nb idx) (ha : DA X T W (e :: es) fa) (hkw : DK X T W kws fk) (tk : Takes X W := by first | exact LamX.takes0 | exact takes_of rfl rfl rfl rfl) (hg : Gl X x := by rfl) (hall : (backToKw pos (keywordEach kws X.env)).all (·.1.isSome) = true := by rfl) (hks : (backToKw pos (keywordEach kws X.env)).filterMap (·.1) = ks := by rfl)
    (hdb : (x == ("__debug__" : Str)) = false := by decide) (he : starEach (e :: es) X.env = (false, eval e X.env) :: starEach es X.env := by rfl)
    (hpl : ((backTo pos (starEach (e :: es) X.env)).any (·.1) || (backToKw pos (keywordEach kws X.env)).any (·.1.isNone)) = false := by rfl) : VE X T W (.Call (.Name x p) (e :: es) kws pos) (callK ps.length fm na nb idx fa fk) := by
  obtain ⟨f, fd, F, G, m, b⟩ := D.ex
  exact ve_callK ⟨G, hr, hgd, tk, m, F.kp⟩ hg (hb F) ha hkw hall hks hdb he hpl
theorem vcK0 (D : Df X.prog X.w X.K X.mg X.base T.tabs j x st ps fm) (hr : Room j X.A) (hgd : X.A.guards = some []) (hb : ∀ {f : Addr} {fd : FuncData}, Fun X.K x x st f fd → KwB X.K fd ps ks 0 nb idx) (hkw : DK X T W kws fk) (tk : Takes X W := by first | exact LamX.takes0 | exact takes_of rfl rfl rfl rfl) (hg : Gl X x := by rfl) (hall : (backToKw pos (keywordEach kws X.env)).all (·.1.isSome) = true := by rfl) (hks : (backToKw pos (keywordEach kws X.env)).filterMap (·.1) = ks := by rfl)
    (hdb : (x == ("__debug__" : Str)) = false := by decide)
    (hpl : ((backTo pos (starEach [] X.env)).any (·.1) || (backToKw pos (keywordEach kws X.env)).any (·.1.isNone)) = false := by rfl) : VE X T W (.Call (.Name x p) [] kws pos) (callK ps.length fm 0 nb idx argN fk) := by
  obtain ⟨f, fd, F, G, m, b⟩ := D.ex
  exact ve_callK0 ⟨G, hr, hgd, tk, m, F.kp⟩ hg (hb F) hkw hall hks hdb hpl

/-! statements -/
theorem ds_no {st : Stmt} : DS X T W st (fun _ => .no) := ⟨fun pins s σ H D I ⟨G, ρ, F, rp, h⟩ => (show False from h).elim⟩
variable {vs : List Nat} {gd : D → Cm Unit} {gs : List D → Cm Unit}
theorem sT (i : Nat) (hN : X.N.Nodup) (he : DE X T W e f) (hi : X.N[i]? = some x := by rfl) (hx : Loc X.env.scope x := by first | exact Or.inl rfl | exact Or.inr rfl) (hs : swapsWith e (some (.Name x p1)) pos.line X.env = pure false := by rfl) (hf : X.fn x = true ∨ X.env.scope.names.lookup x = some .local := by first | exact .inl rfl | exact .inr rfl) :
    DS X T W (.Assign [.Name x p1] e pos) (setM i f) := ds_set hN hi hx he hs hf
theorem sTO (i : Nat) (hN : X.N.Nodup) (he : OE X T W e fo) (hi : X.N[i]? = some x := by rfl) (hx : Loc X.env.scope x := by first | exact Or.inl rfl | exact Or.inr rfl) (hs : swapsWith e (some (.Name x p1)) pos.line X.env = pure false := by rfl) (hf : X.fn x = true ∨ X.env.scope.names.lookup x = some .local := by first | exact .inl rfl | exact .inr rfl) :
    DS X T W (.Assign [.Name x p1] e pos) (setO i fo) := ds_setO hN hi hx he hs hf
theorem tgN (i : Nat) (hN : X.N.Nodup) (hm : i ∈ vs := by simp) (hi : X.N[i]? = some x := by rfl) (hx : Loc X.env.scope x := by first | exact Or.inl rfl | exact Or.inr rfl) (hf : X.fn x = true ∨ X.env.scope.names.lookup x = some .local := by first | exact .inl rfl | exact .inr rfl) : DG X T W vs (.Name x pos) (stD i) := dg_name hm hN hi hx hf
theorem tgS (i : Nat) (hi : DE X T W e f) (hN : X.N[i]? = some y := by rfl) (hv : Vis X.env.scope y := by first | exact Or.inl rfl | exact Or.inr (Or.inl rfl) | exact Or.inr (Or.inr rfl)) (hd : (y == ("__debug__" : Str)) = false := by decide) (hcd : (y == ("__classdict__" : Str)) = false := by decide)
    (ha : ∀ v, assign (.Subscript (.Name y py) e pos) X.env v = (do
      let ov ← holding [v] (eval (.Name y py) X.env)
      let iv ← holding [v, ov] (eval e X.env)
      standAt pos
      holding [v, ov, iv] (setItem ov iv v)
      release [v, ov, iv] []) := by intro _; rfl) : DG X T W vs (.Subscript (.Name y py) e pos) (gSubM i f) := dg_sub hN hv hi hd hcd ha
theorem par (i j : Nat) {x y : Str} {a b : Expr} {px py pt : Pos} {kt k2 pt2} (hN : X.N.Nodup) (ha : DA X T W [a, b] fo) (hc : X.calm = true := by rfl) (hi : X.N[i]? = some x := by rfl) (hj : X.N[j]? = some y := by rfl) (hij : i ≠ j := by decide)
    (hx : X.env.scope.names.lookup x = some .local := by rfl) (hy : X.env.scope.names.lookup y = some .local := by rfl)
    (hw : swappedStores [.Tuple [.Name x px, .Name y py] kt pt] (.Tuple [a, b] k2 pt2) X.env = pure (some [x, y]) := by rfl)
    (hs : swapsWithSole [.Tuple [.Name x px, .Name y py] kt pt] (.Tuple [a, b] k2 pt2) pos.line X.env = pure false := by rfl) :
    DS X T W (.Assign [.Tuple [.Name x px, .Name y py] kt pt] (.Tuple [a, b] k2 pt2) pos) (parM i j fo) := ds_par hc hN hi hj hij hx hy ha hw hs
/-- a list of one's own, or data, is handed back -/
def retW (i : Nat) : Cm Fl := fun ρ => match ρ[i]? with
  | some (.own xs false) => .ok (.ret (.own xs)) (ρ.set i .no)
  | some (.dat d) => .ok (.ret (.dat d)) ρ
  | _ => .no
theorem rtW (i : Nat) {x : Str} {pos' : Pos} (hN : X.N[i]? = some x := by rfl) (hv : Vis X.env.scope x := by first | exact Or.inl rfl | exact Or.inr (Or.inl rfl) | exact Or.inr (Or.inr rfl)) (hd : (x == ("__debug__" : Str)) = false := by decide) (hcd : (x == ("__classdict__" : Str)) = false := by decide) : DS X T W (.Return (some (.Name x pos')) pos) (retW i) :=
  ⟨fun pins s σ H Dn I ⟨G, ρ, F, rp, h⟩ => by
    have h0 := h
    unfold retW at h0
    cases q : ρ[i]? with
    | none => rw [q] at h0; exact (show False from h0).elim
    | some sl =>
      cases sl with
      | no => rw [q] at h0; exact (show False from h0).elim
      | fn => rw [q] at h0; exact (show False from h0).elim
      | dat d =>
        refine (ds_ret (W := W) (T := T) (pos := pos) (de_var (pos := pos') hN hv hd hcd)).run pins s σ H Dn I ⟨G, ρ, F, rp, ?_⟩
        have e : retM (rdV i) ρ = .ok (.ret (.dat d)) ρ := by
          unfold retM bnd rdV
          rw [q] <;> rfl
        have e2 : retW i ρ = .ok (.ret (.dat d)) ρ := by
          unfold retW
          rw [q]
        rw [e2] at h
        rw [e]
        exact h
      | own xs b =>
        cases b with
        | true => rw [q] at h0; exact (show False from h0).elim
        | false =>
          refine (ds_retX (W := W) (T := T) (pos := pos) (pos' := pos') hN hv hd hcd).run pins s σ H Dn I ⟨G, ρ, F, rp, ?_⟩
          have e : retX i ρ = retW i ρ := by
            unfold retX retW
            rw [q]
          rw [e]
          exact h⟩
end
/-! ### a def's lambda: where its code object stands -/
structure LamF (base : Heap) (mg : Str → Option Value) (tabs : List (Addr × Str)) (fd : FuncData) (q : Str) : Prop where
  ex : ∃ c P, fd.code = .ref c ∧ LamX.TabB base mg c P ∧ (P, q) ∈ tabs ∧ ∀ p ∈ tabs, p.1 = P → p.2 = q
theorem LamF.at_ {X : Cx} {T : Tx} {fd : FuncData} {q : Str} (L : LamF X.base X.mg T.tabs fd q) (hc : X.env.code = fd.code) (hq : X.env.qual ++ "<lambda>" = q) : ∃ c P, LamAt X T c P := by
  obtain ⟨c, P, h1, h2, h3, h4⟩ := L.ex
  subst hq
  exact ⟨c, P, h2, hc.trans h1, h3, h4⟩
theorem fun_okL {P : Program} {w : World} {K : PySem.W.Frag} {mg : Str → Option Value} {base : Heap} {tabs : List (Addr × Str)} {k : Nat} {x qual : Str} {st : Stmt} {f : Addr} {fd : FuncData} {N ps : List Str} {bm : Cm Fl} (F : Fun K x qual st f fd) (S : FnScope N ps (defScope st))
    (hbody : ∀ (cdv : Value), cdv = fd.code → ∀ (A : Around) (outer : List Env) (s : Shared) (H : Hp) (E : XK), Room k (A.deeper (envOfC qual (defScope st) s.heap.objs.size f cdv)) → (A.deeper (envOfC qual (defScope st) s.heap.objs.size f cdv)).guards = some [] →
      DSs (cxOf (CX P w) P w K mg base N qual (defScope st) f cdv A outer s H E) ⟨tabs, none⟩ (fun cls d _ H => E cls d H) (defBody st) bm) : FnG P w K mg base tabs (k + 1) f fd ps (fnM N.length bm) := by
  obtain ⟨oc, od, kV, doc, pm, an, cdv, ct, osl, rfl, lk, hcd⟩ := F.ex
  exact fn_okG lk hcd S fun A outer s H E hr hg => hbody cdv rfl A outer s H E hr hg
/-! ### from the head's facts -/
theorem fun_of {K : PySem.W.Frag} {x : Str} {st : Stmt} {f : Addr} {fd : FuncData} (E : FunD K x x (defArgs st) (defBody st) (defScope st) [] [] f fd) : Fun K x x st f fd := by
  obtain ⟨oc, od, dV, kV, doc, pm, an, cdv, ct, osl, h1, h2, h3, h4, h5⟩ := E.ex
  rcases h4 with ⟨_, e⟩ | ⟨e, _⟩
  · subst e
    exact ⟨⟨oc, od, kV, doc, pm, an, cdv, ct, osl, h1, h2, h3⟩, E.kp⟩
  · exact absurd rfl e
theorem fun_inj {K : PySem.W.Frag} {x q : Str} {st : Stmt} {f : Addr} {fd fd' : FuncData} (F : Fun K x q st f fd) (F' : Fun K x q st f fd') : fd = fd' := by
  obtain ⟨oc, od, kV, doc, pm, an, cdv, ct, osl, h1, h2, h3⟩ := F.ex
  obtain ⟨oc', od', kV', doc', pm', an', cdv', ct', osl', h1', h2', h3'⟩ := F'.ex
  rw [h2] at h2'
  cases h2'
  rfl
theorem fun_bind1 {K : PySem.W.Frag} {x q y : Str} {st : Stmt} {f : Addr} {fd : FuncData} (F : Fun K x q st f fd) (h : ∀ (kV doc pm : Value) (an : Option Addr) (cdv ct : Value) (u : Value), bindArgs (PySem.W.fnOf x q (defArgs st) (defBody st) (defScope st) .none kV doc pm an cdv ct) ⟨[u], []⟩ = pure [(y, u)]) (s : Shared) (v : Value) : BindsTo s fd ⟨[v], []⟩ [(y, v)] := by
  obtain ⟨oc, od, kV, doc, pm, an, cdv, ct, osl, rfl, h2, h3⟩ := F.ex
  exact BindsTo.of_eq (h kV doc pm an cdv ct v)
theorem lamF_of {K : PySem.W.Frag} {base : Heap} {mg : Str → Option Value} {tabs : List (Addr × Str)} {x q nm : Str} {st : Stmt} {fd : FuncData} (F : Fun K x q st (He.ga K x) fd) (hT : LamX.TabB base mg (He.cT K (x, none)).1 (He.cT K (x, none)).2) (hm : ((He.cT K (x, none)).2, nm) ∈ tabs) (hu : ∀ p ∈ tabs, p.1 = (He.cT K (x, none)).2 → p.2 = nm) : LamF base mg tabs fd nm := by
  obtain ⟨oc, od, kV, doc, pm, an, cdv, ct, osl, rfl, h2, h3⟩ := F.ex
  obtain ⟨c, e⟩ := He.codeIn_ref h3
  subst e
  have ec : He.codeOf K (x, none) = c := He.codeOf_eq (p := (x, none)) h2 rfl
  refine ⟨c, _, rfl, ?_, hm, hu⟩
  have z := hT
  rw [show (He.cT K (x, none)).1 = c from ec] at z
  exact z
end PL
end S_PLG

section S_PLM
namespace PL
open PySem PySem.Spec PyProof.Rows L2

/-! ### evaluation of meanings -/
section
variable {α β : Type} {m n : Cm α} {ρ ρ' : En} {a : α}
@[simp] theorem ret_ap : ret a ρ = .ok a ρ := rfl
@[simp] theorem bnd_ap {k : α → Cm β} : bnd m k ρ = (m ρ).bind k := rfl
@[simp] theorem bind_ok {k : α → Cm β} : (R.ok a ρ).bind k = k a ρ := rfl
@[simp] theorem bind_no {k : α → Cm β} : (R.no : R α).bind k = .no := rfl
@[simp] theorem bind_ex {k : α → Cm β} {x : Xn} : (R.ex x ρ : R α).bind k = .ex x ρ := rfl
@[simp] theorem lift_some : lift (some a) = ret a := rfl
@[simp] theorem lift_none : lift (none : Option α) = fun _ => .no := rfl
variable {f g : Cm D} {ft gt : Cm Bool} {fa fb : Cm (List D)} {s t : Cm Fl} {fv : Cm Vl} {i j : Nat} {o : D → D → Option D} {o1' : D → Option D} {oc : List D → Option D}
@[simp] theorem seqM_ap : seqM s t ρ = (s ρ).bind fun | .nx => t | r => ret r := rfl
@[simp] theorem nextM_ap : nextM ρ = .ok .nx ρ := rfl
@[simp] theorem dropM_ap : dropM f ρ = (f ρ).bind fun _ => ret .nx := rfl
@[simp] theorem retM_ap : retM f ρ = (f ρ).bind fun d => ret (.ret (.dat d)) := rfl
@[simp] theorem retO_ap : retO fa ρ = (fa ρ).bind fun d => ret (.ret (.own d)) := rfl
@[simp] theorem retV_ap : retV fv ρ = (fv ρ).bind fun d => ret (.ret d) := rfl
@[simp] theorem stD_ap {d : D} : stD i d ρ = .ok () (ρ.set i (.dat d)) := rfl
@[simp] theorem setM_ap : setM i f ρ = (f ρ).bind fun d ρ => .ok .nx (ρ.set i (.dat d)) := rfl
@[simp] theorem setO_ap : setO i fa ρ = (fa ρ).bind fun d ρ => .ok .nx (ρ.set i (.own d false)) := rfl
@[simp] theorem asgM_ap {gd : D → Cm Unit} : asgM f gd ρ = (f ρ).bind fun d ρ => (gd d ρ).bind fun _ => ret .nx := rfl
@[simp] theorem o1_ap : o1 f o1' ρ = (f ρ).bind fun a => lift (o1' a) := rfl
@[simp] theorem o2_ap : o2 f g o ρ = (f ρ).bind fun a ρ => (g ρ).bind fun b => lift (o a b) := rfl
@[simp] theorem tru_ap : tru f ρ = (f ρ).bind fun | .bool b => ret b | _ => fun _ => .no := rfl
@[simp] theorem ands_ap : ands ft gt ρ = (ft ρ).bind fun b => if b then gt else ret false := rfl
@[simp] theorem ors_ap : ors ft gt ρ = (ft ρ).bind fun b => if b then ret true else gt := rfl
@[simp] theorem nots_ap : nots ft ρ = (ft ρ).bind fun b => ret (!b) := rfl
@[simp] theorem andV_ap : andV f g ρ = (f ρ).bind fun | .bool b => if b then g else ret (.bool false) | _ => fun _ => .no := rfl
@[simp] theorem orV_ap : orV f g ρ = (f ρ).bind fun | .bool b => if b then ret (.bool true) else g | _ => fun _ => .no := rfl
@[simp] theorem notV_ap : notV f ρ = (f ρ).bind fun | .bool b => ret (.bool (!b)) | _ => fun _ => .no := rfl
@[simp] theorem ite3_ap : ite3 ft m n ρ = (ft ρ).bind fun b => if b then m else n := rfl
@[simp] theorem argN_ap : argN ρ = .ok [] ρ := rfl
@[simp] theorem argC_ap : argC f fa ρ = (f ρ).bind fun a ρ => (fa ρ).bind fun as => ret (a :: as) := rfl
@[simp] theorem argS_ap : argS f fa ρ = (itM f ρ).bind fun a ρ => (fa ρ).bind fun as => ret (a ++ as) := rfl
@[simp] theorem tupM_ap : tupM fa ρ = (fa ρ).bind fun as => if sizeOkL as.length then ret (.tuple as) else fun _ => .no := rfl
@[simp] theorem lstM_ap : lstM fa ρ = (fa ρ).bind fun as => if sizeOkL as.length then ret as else fun _ => .no := rfl
@[simp] theorem caM_ap : caM fa oc ρ = (fa ρ).bind fun ds => lift (oc ds) := rfl
@[simp] theorem frz_ap : frz fa ρ = (fa ρ).bind fun xs => ret (.list xs) := rfl
@[simp] theorem asD_ap : asD fv ρ = (fv ρ).bind fun | .dat d => ret d | .own xs => ret (.list xs) := rfl
@[simp] theorem asO_ap : asO fv ρ = (fv ρ).bind fun | .dat _ => fun _ => .no | .own xs => ret xs := rfl
@[simp] theorem itM_ap : itM f ρ = (f ρ).bind fun | .list xs => ret xs | .tuple xs => ret xs | _ => fun _ => .no := rfl
@[simp] theorem itD_ap {o : List D → Option (List D)} : itD fa o ρ = (fa ρ).bind fun ds => lift (o ds) := rfl
@[simp] theorem callP_ap {n : Nat} {fm : Fm} : callP n fm fa ρ = (fa ρ).bind fun ds => if ds.length = n then fun ρ => outP ρ (fm none ds) else fun _ => .no := rfl
@[simp] theorem callK_ap {n na nb : Nat} {idx : List Nat} {fm : Fm} : callK n fm na nb idx fa fb ρ = ((fa ρ).bind fun as ρ => (fb ρ).bind fun ks => lift (kwA na nb idx as ks)).bind fun ds => if ds.length = n then fun ρ => outP ρ (fm none ds) else fun _ => .no := rfl
@[simp] theorem outP_ok {a : Vl} {b : Option (List D)} : outP ρ (.ok a b) = .ok a ρ := rfl
@[simp] theorem isiM_ap {t : Ty5} : isiM f t ρ = (f ρ).bind fun a => lift (isiD t a) := rfl
@[simp] theorem chM_ap {h : Cm D} {o o' : D → D → Option D} : chM f g h o o' ρ = (f ρ).bind fun a ρ => (g ρ).bind fun b ρ => (lift (o a b) ρ).bind fun | .bool true => bnd h fun c => lift (o' b c) | .bool false => ret (.bool false) | _ => fun _ => .no := rfl
@[simp] theorem slM_ap {l h : Cm (Option Int)} : slM f l h ρ = (f ρ).bind fun a ρ => (l ρ).bind fun l ρ => (h ρ).bind fun h => lift (slD l h a) := rfl
@[simp] theorem ptN_ap : ptN ρ = .ok none ρ := rfl
@[simp] theorem ptS_ap : ptS f ρ = (f ρ).bind fun | .int i => ret (some i) | _ => fun _ => .no := rfl
@[simp] theorem forM_ap {it : Cm (List D)} {gd : D → Cm Unit} : PL.forM it gd s ρ = (it ρ).bind fun ds => forL gd s ds := rfl
@[simp] theorem parM_ap : parM i j fa ρ = (fa ρ).bind fun | [a, b] => fun ρ => .ok .nx ((ρ.set i (.dat a)).set j (.dat b)) | _ => fun _ => .no := rfl
end
/-! ### loops -/
/-- a loop all of whose turns go on, an invariant of what is done -/
theorem forL_inv {g : D → Cm Unit} {b : Cm Fl} (Inv : List D → En → Prop) : ∀ (ds pre : List D) (ρ : En), Inv pre ρ →
    (∀ (pre' : List D) (d : D) (post : List D) (ρ : En), pre ++ ds = pre' ++ d :: post → Inv pre' ρ → ∃ ρ1 ρ2, g d ρ = .ok () ρ1 ∧ (b ρ1 = .ok .nx ρ2 ∨ b ρ1 = .ok .ct ρ2) ∧ Inv (pre' ++ [d]) ρ2) →
    ∃ ρ', forL g b ds ρ = .ok .nx ρ' ∧ Inv (pre ++ ds) ρ'
  | [], pre, ρ, h0, _ => ⟨ρ, rfl, by rw [List.append_nil]; exact h0⟩
  | d :: ds, pre, ρ, h0, h => by
    obtain ⟨ρ1, ρ2, h1, h2, h3⟩ := h pre d ds ρ rfl h0
    obtain ⟨ρ', e1, e2⟩ := forL_inv Inv ds (pre ++ [d]) ρ2 h3 (fun pre' d' post ρ e q => h pre' d' post ρ (by rw [← e]; simp) q)
    refine ⟨ρ', ?_, by rw [show pre ++ d :: ds = pre ++ [d] ++ ds by simp]; exact e2⟩
    show (g d ρ).bind (fun _ => fun ρ => turnM (forL g b ds) (b ρ)) = _
    rw [h1]
    show turnM (forL g b ds) (b ρ1) = _
    rcases h2 with h2 | h2 <;> rw [h2] <;> exact e1
/-- .. an invariant of the state alone -/
theorem forL_all {g : D → Cm Unit} {b : Cm Fl} (Inv : En → Prop) {ds : List D} {ρ : En} (h0 : Inv ρ) (h : ∀ d ∈ ds, ∀ ρ, Inv ρ → ∃ ρ1 ρ2, g d ρ = .ok () ρ1 ∧ (b ρ1 = .ok .nx ρ2 ∨ b ρ1 = .ok .ct ρ2) ∧ Inv ρ2) : ∃ ρ', forL g b ds ρ = .ok .nx ρ' ∧ Inv ρ' := by
  obtain ⟨ρ', e1, e2⟩ := forL_inv (g := g) (b := b) (fun _ ρ => Inv ρ) ds [] ρ h0 fun pre' d post ρ e q => by
    have hd : d ∈ ds := by
      rw [List.nil_append] at e
      rw [e]
      simp
    exact h d hd ρ q
  exact ⟨ρ', e1, e2⟩
/-- .. over a list of known things -/
theorem forL_map {γ : Type} {g : D → Cm Unit} {b : Cm Fl} (h : γ → D) (Inv : List γ → En → Prop) : ∀ (xs pre : List γ) (ρ : En), Inv pre ρ →
    (∀ (pre' : List γ) (x : γ) (post : List γ) (ρ : En), pre ++ xs = pre' ++ x :: post → Inv pre' ρ → ∃ ρ1 ρ2, g (h x) ρ = .ok () ρ1 ∧ (b ρ1 = .ok .nx ρ2 ∨ b ρ1 = .ok .ct ρ2) ∧ Inv (pre' ++ [x]) ρ2) →
    ∃ ρ', forL g b (xs.map h) ρ = .ok .nx ρ' ∧ Inv (pre ++ xs) ρ'
  | [], pre, ρ, h0, _ => ⟨ρ, rfl, by rw [List.append_nil]; exact h0⟩
  | x :: xs, pre, ρ, h0, hh => by
    obtain ⟨ρ1, ρ2, h1, h2, h3⟩ := hh pre x xs ρ rfl h0
    obtain ⟨ρ', e1, e2⟩ := forL_map h Inv xs (pre ++ [x]) ρ2 h3 (fun pre' d' post ρ e q => hh pre' d' post ρ (by rw [← e]; simp) q)
    refine ⟨ρ', ?_, by rw [show pre ++ x :: xs = pre ++ [x] ++ xs by simp]; exact e2⟩
    show (g (h x) ρ).bind (fun _ => fun ρ => turnM (forL g b (xs.map h)) (b ρ)) = _
    rw [h1]
    show turnM (forL g b (xs.map h)) (b ρ1) = _
    rcases h2 with h2 | h2 <;> rw [h2] <;> exact e1
/-! ### comprehensions -/
/-- one that leaves the state as it is; h: what is walked -/
theorem lcL_pure {γ : Type} {vs : List Nat} {g : D → Cm Unit} {t : Cm Bool} {e : Cm D} {ρ : En} (h : γ → D) (p : γ → Bool) (f : γ → D) : ∀ (xs : List γ),
    (∀ x ∈ xs, ∃ ρ1 ρ2, g (h x) ρ = .ok () ρ1 ∧ t ρ1 = .ok (p x) ρ2 ∧ (p x = true → ∃ ρ3, e ρ2 = .ok (f x) ρ3 ∧ wipeE ρ3 vs = ρ) ∧ (p x = false → wipeE ρ2 vs = ρ)) →
    lcL vs g t e (xs.map h) ρ = .ok ((xs.filter p).map f) ρ
  | [], _ => rfl
  | x :: xs, hh => by
    obtain ⟨ρ1, ρ2, h1, h2, h3, h4⟩ := hh x List.mem_cons_self
    have ih := lcL_pure (vs := vs) (g := g) (t := t) (e := e) (ρ := ρ) h p f xs fun d' hd => hh d' (List.mem_cons_of_mem _ hd)
    rw [List.map_cons]
    unfold lcL
    simp only [bnd_ap, h1, bind_ok, h2]
    cases hp : p x with
    | true =>
      obtain ⟨ρ3, h5, h6⟩ := h3 hp
      simp only [if_true, bnd_ap, h5, bind_ok, wipeC, h6, ih, ret_ap, List.filter_cons_of_pos hp, List.map_cons]
    | false =>
      have h7 := h4 hp
      simp only [Bool.false_eq_true, if_false, bnd_ap, wipeC, bind_ok, h7, ih, List.filter_cons_of_neg (show ¬ p x = true by rw [hp]; exact Bool.false_ne_true)]
/-- one that changes the state under an invariant: which ones are taken is not told -/
theorem lcL_inv {γ : Type} {vs : List Nat} {g : D → Cm Unit} {t : Cm Bool} {e : Cm D} (Inv : Nat → En → Prop) (h : γ → D) (f : γ → D) (N : Nat) : ∀ (xs : List γ) (i : Nat) (ρ : En), i + xs.length ≤ N → Inv i ρ →
    (∀ x ∈ xs, ∀ i ρ, i < N → Inv i ρ → ∃ ρ1 ρ2 b, g (h x) ρ = .ok () ρ1 ∧ t ρ1 = .ok b ρ2 ∧ (b = true → ∃ ρ3, e ρ2 = .ok (f x) ρ3 ∧ Inv (i + 1) (wipeE ρ3 vs)) ∧ (b = false → Inv (i + 1) (wipeE ρ2 vs))) →
    ∃ (ys : List γ) (ρ' : En), ys.Sublist xs ∧ lcL vs g t e (xs.map h) ρ = .ok (ys.map f) ρ' ∧ Inv (i + xs.length) ρ'
  | [], i, ρ, _, h0, _ => ⟨[], ρ, .slnil, rfl, h0⟩
  | x :: xs, i, ρ, hN, h0, hh => by
    rw [List.length_cons] at hN
    obtain ⟨ρ1, ρ2, b, h1, h2, h3, h4⟩ := hh x List.mem_cons_self i ρ (by omega) h0
    have el : i + (x :: xs).length = (i + 1) + xs.length := by rw [List.length_cons]; omega
    rw [List.map_cons, el]
    cases b with
    | true =>
      obtain ⟨ρ3, h5, h6⟩ := h3 rfl
      obtain ⟨ys, ρ', i1, i2, i3⟩ := lcL_inv (vs := vs) (g := g) (t := t) (e := e) Inv h f N xs _ _ (by omega) h6 fun d' hd => hh d' (List.mem_cons_of_mem _ hd)
      refine ⟨x :: ys, ρ', i1.cons₂ x, ?_, i3⟩
      unfold lcL
      simp only [bnd_ap, h1, bind_ok, h2, if_true, h5, wipeC, i2, ret_ap, List.map_cons]
    | false =>
      obtain ⟨ys, ρ', i1, i2, i3⟩ := lcL_inv (vs := vs) (g := g) (t := t) (e := e) Inv h f N xs _ _ (by omega) (h4 rfl) fun d' hd => hh d' (List.mem_cons_of_mem _ hd)
      refine ⟨ys, ρ', i1.cons x, ?_, i3⟩
      unfold lcL
      simp only [bnd_ap, h1, bind_ok, h2, Bool.false_eq_true, if_false, wipeC, i2]
theorem lcM_of {vs : List Nat} {fi : Cm (List D)} {g : D → Cm Unit} {t : Cm Bool} {e : Cm D} {ρ ρ1 ρ2 : En} {ds ys : List D} (h1 : fi ρ = .ok ds ρ1) (h2 : (noOwn ρ1 vs && sizeOkL ds.length) = true) (h3 : lcL vs g t e ds (wipeE ρ1 vs) = .ok ys ρ2) : lcM vs fi g t e ρ = .ok ys (backE ρ1 ρ2 vs) := by
  show (fi ρ).bind _ = _
  rw [h1]
  show (if noOwn ρ1 vs && sizeOkL ds.length then lcR vs ρ1 (lcL vs g t e ds (wipeE ρ1 vs)) else .no) = _
  rw [if_pos h2, h3] <;> rfl
end PL
end S_PLM

section S_PLW
namespace PL
open PySem PySem.Spec PyProof.Rows L2

/-! ### pairs of whole numbers, webs as data -/
abbrev Pr := Int × Int
def pD (p : Pr) : D := .tuple [.int p.1, .int p.2]
def webD (n : Int) (ts : List Pr) : D := .tuple [.int n, .tuple (ts.map pD)]
theorem pD_canLay (p : Pr) : (pD p).canLay0 = true := by
  unfold pD
  simp [PyData.canLay0, PyData.canLayAll0]
theorem pD_depth (p : Pr) : (pD p).depth = 1 := by
  unfold pD
  simp [PyData.depth, PyData.depthAll]
theorem shp_int (i : Int) : shp (.int i) = true := by
  unfold shp SeqAt.shaped
  simp [PyData.canLay0, PyData.depth]
theorem shp_none : shp .none = true := by
  unfold shp SeqAt.shaped
  simp [PyData.canLay0, PyData.depth]
theorem shp_bool (b : Bool) : shp (.bool b) = true := by
  unfold shp SeqAt.shaped
  simp [PyData.canLay0, PyData.depth]
theorem shp_pr (p : Pr) : shp (pD p) = true := by
  unfold shp SeqAt.shaped
  rw [pD_canLay, pD_depth]
  rfl
theorem prs_canLay : ∀ ts : List Pr, PyData.canLayAll0 (ts.map pD) = true
  | [] => by simp [PyData.canLayAll0]
  | t :: ts => by
    rw [List.map_cons]
    unfold PyData.canLayAll0
    rw [pD_canLay, prs_canLay ts] <;> rfl
theorem prs_depth : ∀ ts : List Pr, PyData.depthAll (ts.map pD) ≤ 1
  | [] => by simp [PyData.depthAll]
  | t :: ts => by
    rw [List.map_cons]
    unfold PyData.depthAll
    rw [pD_depth]
    exact Nat.max_le.mpr ⟨Nat.le_refl _, prs_depth ts⟩
theorem shp_prs (ts : List Pr) : shp (.tuple (ts.map pD)) = true := by
  unfold shp SeqAt.shaped
  unfold PyData.canLay0 PyData.depth
  rw [prs_canLay]
  have := prs_depth ts
  simp
  omega
theorem shp_prsL (ts : List Pr) : shp (.list (ts.map pD)) = true := by
  unfold shp SeqAt.shaped
  unfold PyData.canLay0 PyData.depth
  rw [prs_canLay]
  have := prs_depth ts
  simp
  omega
theorem ints_canLay : ∀ ts : List Int, PyData.canLayAll0 (ts.map .int) = true
  | [] => by simp [PyData.canLayAll0]
  | t :: ts => by
    rw [List.map_cons]
    unfold PyData.canLayAll0
    rw [ints_canLay ts]
    simp [PyData.canLay0]
theorem ints_depth : ∀ ts : List Int, PyData.depthAll (ts.map .int) = 0
  | [] => by simp [PyData.depthAll]
  | t :: ts => by
    rw [List.map_cons]
    unfold PyData.depthAll
    rw [ints_depth ts]
    simp [PyData.depth]
theorem shp_ints (ts : List Int) : shp (.list (ts.map .int)) = true := by
  unfold shp SeqAt.shaped
  unfold PyData.canLay0 PyData.depth
  rw [ints_canLay, ints_depth]
  rfl
theorem shp_intsT (ts : List Int) : shp (.tuple (ts.map .int)) = true := by
  unfold shp SeqAt.shaped
  unfold PyData.canLay0 PyData.depth
  rw [ints_canLay, ints_depth]
  rfl
theorem eqv_int (i j : Int) : PyData.eqv (.int i) (.int j) = (i == j) := by unfold PyData.eqv; rfl
theorem eqv_pr (p r : Pr) : PyData.eqv (pD p) (pD r) = decide (p = r) := by
  unfold pD
  simp only [PyData.eqv, PyData.eqvAll]
  rw [Bool.eq_iff_iff]
  obtain ⟨a, b⟩ := p
  obtain ⟨c, d⟩ := r
  simp
theorem mem_prs (p : Pr) : ∀ ts : List Pr, memD (pD p) (ts.map pD) = decide (p ∈ ts)
  | [] => by simp [memD]
  | t :: ts => by
    have ih := mem_prs p ts
    unfold memD at ih ⊢
    rw [List.map_cons, List.any_cons, ih, eqv_pr, Bool.eq_iff_iff]
    simp only [Bool.or_eq_true, decide_eq_true_eq, List.mem_cons]
    constructor
    · rintro (e | e)
      · exact .inl e.symm
      · exact .inr e
    · rintro (e | e)
      · exact .inl e.symm
      · exact .inr e
theorem mem_ints (i : Int) : ∀ ts : List Int, memD (.int i) (ts.map .int) = decide (i ∈ ts)
  | [] => by simp [memD]
  | t :: ts => by
    have ih := mem_ints i ts
    unfold memD at ih ⊢
    rw [List.map_cons, List.any_cons, ih, eqv_int, Bool.eq_iff_iff]
    simp only [Bool.or_eq_true, decide_eq_true_eq, List.mem_cons, beq_iff_eq]
    constructor
    · rintro (e | e)
      · exact .inl e.symm
      · exact .inr e
    · rintro (e | e)
      · exact .inl e.symm
      · exact .inr e
theorem in_prs (p : Pr) (ts : List Pr) : inD (pD p) (.tuple (ts.map pD)) = some (.bool (decide (p ∈ ts))) := by
  show (if shp (pD p) && shp (.tuple (ts.map pD)) then some (PyData.bool (memD (pD p) (ts.map pD))) else none) = _
  rw [shp_pr, shp_prs, mem_prs] <;> rfl
theorem in_prsL (p : Pr) (ts : List Pr) : inD (pD p) (.list (ts.map pD)) = some (.bool (decide (p ∈ ts))) := by
  show (if shp (pD p) && shp (.list (ts.map pD)) then some (PyData.bool (memD (pD p) (ts.map pD))) else none) = _
  rw [shp_pr, shp_prsL, mem_prs] <;> rfl
theorem nin_prs (p : Pr) (ts : List Pr) : ninD (pD p) (.tuple (ts.map pD)) = some (.bool (!decide (p ∈ ts))) := by
  show (if shp (pD p) && shp (.tuple (ts.map pD)) then some (PyData.bool (!memD (pD p) (ts.map pD))) else none) = _
  rw [shp_pr, shp_prs, mem_prs] <;> rfl
theorem in_ints (i : Int) (ts : List Int) : inD (.int i) (.list (ts.map .int)) = some (.bool (decide (i ∈ ts))) := by
  show (if shp (.int i) && shp (.list (ts.map .int)) then some (PyData.bool (memD (.int i) (ts.map .int))) else none) = _
  rw [shp_int, shp_ints, mem_ints] <;> rfl
theorem nin_ints (i : Int) (ts : List Int) : ninD (.int i) (.list (ts.map .int)) = some (.bool (!decide (i ∈ ts))) := by
  show (if shp (.int i) && shp (.list (ts.map .int)) then some (PyData.bool (!memD (.int i) (ts.map .int))) else none) = _
  rw [shp_int, shp_ints, mem_ints] <;> rfl
theorem eq_ints2 (i j : Int) : eqD (.int i) (.int j) = some (.bool (i == j)) := by
  show (if shp (.int i) && shp (.int j) then some (PyData.bool (PyData.eqv (.int i) (.int j))) else none) = _
  rw [shp_int, shp_int, eqv_int] <;> rfl
theorem ne_ints2 (i j : Int) : neD (.int i) (.int j) = some (.bool (!(i == j))) := by
  show (if shp (.int i) && shp (.int j) then some (PyData.bool (!PyData.eqv (.int i) (.int j))) else none) = _
  rw [shp_int, shp_int, eqv_int] <;> rfl
/-! order of pairs -/
def prLt (p r : Pr) : Bool := decide (p.1 < r.1) || (decide (p.1 = r.1) && decide (p.2 < r.2))
theorem lt_prs (p r : Pr) : ltD (pD p) (pD r) = some (.bool (prLt p r)) := by
  obtain ⟨a, b⟩ := p
  obtain ⟨c, d⟩ := r
  have h1 : cmpOk (pD (a, b)) (pD (c, d)) = true := by
    unfold cmpOk
    rw [pD_depth]
    simp [pD, PySem.W.alike, PySem.W.alikeAll]
  have h2 : PySem.W.dataLt (pD (a, b)) (pD (c, d)) = prLt (a, b) (c, d) := by
    unfold pD prLt PySem.W.dataLt
    simp only [PySem.W.keyToks, PySem.W.keyToksAll]
    simp only [List.cons_append, List.nil_append]
    rw [Bool.eq_iff_iff]
    simp [PyProof.Rows.lexLt, PyProof.Rows.itemOrd, PyProof.Rows.itemLt]

    omega
  show (if cmpOk (pD (a, b)) (pD (c, d)) then some (PyData.bool (PySem.W.dataLt (pD (a, b)) (pD (c, d)))) else none) = _
  rw [h1, h2] <;> rfl
/-! whole numbers from 0 -/
def zTo (n : Int) : List Int := (List.range n.toNat).map fun (i : Nat) => (i : Int)
theorem rng_zTo (n : Int) : rngL 0 n.toNat = (zTo n).map .int := by
  unfold rngL zTo
  rw [List.map_map]
  congr 1
  funext i
  simp
theorem mem_zTo {n i : Int} (hn : 0 ≤ n) : i ∈ zTo n ↔ 0 ≤ i ∧ i < n := by
  unfold zTo
  rw [List.mem_map]
  constructor
  · rintro ⟨j, h, rfl⟩
    have := List.mem_range.mp h
    omega
  · rintro ⟨h1, h2⟩
    exact ⟨i.toNat, List.mem_range.mpr (by omega), by omega⟩
theorem zTo_len (n : Int) : (zTo n).length = n.toNat := by
  unfold zTo
  rw [List.length_map, List.length_range]
theorem toInts_map : ∀ ns : List Int, toInts (ns.map .int) = some ns
  | [] => rfl
  | n :: ns => by
    rw [List.map_cons]
    unfold toInts
    rw [toInts_map ns] <;> rfl
theorem toBools_map : ∀ ns : List Bool, toBools (ns.map .bool) = some ns
  | [] => rfl
  | n :: ns => by
    rw [List.map_cons]
    unfold toBools
    rw [toBools_map ns] <;> rfl
theorem mulOk_small {i j : Int} (h1 : i.natAbs < 2 ^ 400) (h2 : j.natAbs < 2 ^ 400) : mulOk i j = true := by
  have aux : ∀ n : Nat, n < 2 ^ 400 → n.log2 < 401 := fun n h => by
    by_cases h0 : n = 0
    · subst h0; decide
    · have := (Nat.log2_lt h0).mpr h
      omega
  have a1 := aux _ h1
  have a2 := aux _ h2
  unfold mulOk
  exact decide_eq_true (by omega)
theorem min_if (i j : Int) : (if j < i then j else i) = min i j := by split <;> omega
theorem max_if (i j : Int) : (if j > i then j else i) = max i j := by split <;> omega
/-! what may be shown -/
theorem ints_showable : ∀ ns : List Int, (∀ n ∈ ns, n.natAbs < 2 ^ 64) → PyData.showableAll (ns.map .int) = true
  | [], _ => by simp [PyData.showableAll]
  | n :: ns, h => by
    rw [List.map_cons]
    unfold PyData.showableAll
    rw [ints_showable ns fun m hm => h m (List.mem_cons_of_mem _ hm)]
    have h1 := h n List.mem_cons_self
    have : n.natAbs.log2 < 1920 := by
      by_cases h0 : n.natAbs = 0
      · rw [h0]; decide
      · have := (Nat.log2_lt h0).mpr h1
        omega
    simp [PyData.showable, this]
theorem ints_hasDict : ∀ ns : List Int, PyData.hasDictAll (ns.map .int) = false
  | [] => by simp [PyData.hasDictAll]
  | n :: ns => by
    rw [List.map_cons]
    unfold PyData.hasDictAll
    rw [ints_hasDict ns]
    simp [PyData.hasDict]
theorem ints_wts : ∀ ns : List Int, wts (ns.map .int) = 2002 * ns.length
  | [] => by simp [wts]
  | n :: ns => by
    rw [List.map_cons]
    unfold wts
    rw [ints_wts ns, List.length_cons]
    simp [wt]
    omega
theorem ints_noDicts : ∀ ns : List Int, noDicts (ns.map .int) = true
  | [] => by simp [noDicts]
  | n :: ns => by
    rw [List.map_cons]
    unfold noDicts
    rw [ints_noDicts ns]
    simp [noDict]
end PL
end S_PLW

section S_PLP
set_option maxHeartbeats 1000000
namespace PL
open PySem PySem.Spec PyProof.Rows L2

/-! ### a new list is held back while the next is read -/
section
variable {K : PySem.W.Frag} {T : Tx} {G : Gh} {ρ ρ' : En} {F F' H H' : Hp} {σ : L2.St} {p : Addr} {xs : List D} {mg : Str → Option Value} {W : WX}
def Gh.pend (G : Gh) (F H : Hp) (p : Addr) (h : ∀ q, G.H0 q ≠ none → H q ≠ none) (hp : H p ≠ none) : Gh where
  H0 := H
  F0 := F
  M := fun q b => G.M q b ∧ q ≠ p
  fresh := fun q hq => ⟨G.fresh q (Classical.byContradiction fun z => h q z hq), fun z => hp (z ▸ hq)⟩
theorem New.ne (n : New K G ρ F σ H p xs) : H p ≠ none := by
  obtain ⟨_, _, vs, h, _⟩ := n.at_
  rw [h]; simp
theorem Rp.pend (r : Rp K T G ρ F σ H) (n : New K G ρ F σ H p xs) : Rp K T (G.pend F H p r.th n.ne) ρ F σ H where
  len := r.len
  f0 := .refl _
  same := r.same
  fr := fun q o h _ _ => h
  th := fun q h => h
  nw := fun q _ h _ => h
  tab := r.tab
  tabF := r.tabF
  sl := fun i s e => by
    have q := r.sl i s e
    cases s with
    | no => trivial
    | fn => exact q
    | dat d => exact q
    | own ys b =>
      obtain ⟨p', e1, e2, e3, e4⟩ := q
      exact ⟨p', e1, e2, ⟨e3, fun z => n.sep i ys b e (by rw [e1, z])⟩, e4⟩
  sep := r.sep
theorem Rp.unpend (r : Rp K T G ρ F σ H) (n : New K G ρ F σ H p xs) (r' : Rp K T (G.pend F H p r.th n.ne) ρ' F' σ H') : Rp K T G ρ' F' σ H' ∧ New K G ρ' F' σ H' p xs := by
  obtain ⟨h1, h2, vs, h3, h4⟩ := n.at_
  refine ⟨⟨r'.len, r.f0.trans r'.f0, r'.same, fun q o e1 e2 e3 => r'.fr q o (r.fr q o e1 e2 e3) (fun b z => e2 b z.1) e3, fun q e => r'.th q (r.th q e), fun q e1 e2 e3 => r'.nw q (r.th q e1) (r.nw q e1 e2 e3) (fun z => e3 z.1), r'.tab, r'.tabF, fun i s e => ?_, r'.sep⟩, ⟨⟨r'.nw p n.ne h1 (fun z => z.2 rfl), h2, vs, r'.fr p _ h3 (fun b z => z.2 rfl) (by intro ps z; cases z), DqAll_ext r'.f0 h4⟩, fun i ys b e z => ?_⟩⟩
  · have q := r'.sl i s e
    cases s with
    | no => trivial
    | fn => exact q
    | dat d => exact q
    | own ys b =>
      obtain ⟨p', e1, e2, e3, e4⟩ := q
      exact ⟨p', e1, e2, e3.1, e4⟩
  · obtain ⟨p', e1, e2, e3, e4⟩ := r'.sl i _ e
    rw [z] at e1
    cases e1
    exact e3.2 rfl
theorem Rs.pend {α : Type} {r : R α} {post : α → En → Hp → Hp → Prop} (rp : Rp K T G ρ F σ H) (n : New K G ρ F σ H p xs) (h : Rs K T mg W G F σ r post) : Rs K T mg W (G.pend F H p rp.th n.ne) F σ r fun a ρ' F' H' => New K G ρ' F' σ H' p xs ∧ post a ρ' F' H' := by
  cases r with
  | ok a ρ' => exact fun F' H' s rp' => ⟨(rp.unpend n rp').2, h F' H' s (rp.unpend n rp').1⟩
  | ex x ρ' => exact fun F' H' c d s rp' q => h F' H' c d s (rp.unpend n rp').1 q
  | no => exact h
theorem Rs.unpend {α : Type} {r : R α} {post : α → En → Hp → Hp → Prop} (rp : Rp K T G ρ F σ H) (n : New K G ρ F σ H p xs) (h : Rs K T mg W G F σ r post) : Rs K T mg W (G.pend F H p rp.th n.ne) F σ r fun a ρ' F' H' => Rp K T G ρ' F' σ H' ∧ New K G ρ' F' σ H' p xs ∧ post a ρ' F' H' := by
  cases r with
  | ok a ρ' => exact fun F' H' s rp' => ⟨(rp.unpend n rp').1, (rp.unpend n rp').2, h F' H' s (rp.unpend n rp').1⟩
  | ex x ρ' => exact fun F' H' c d s rp' q => h F' H' c d s (rp.unpend n rp').1 q
  | no => exact h

/-- values, the new lists among them at different places, none at a place of ex -/
def ValsR (K : PySem.W.Frag) (G : Gh) (ρ : En) (F : Hp) (σ : L2.St) (H : Hp) : List Addr → List V → List Vl → Prop
  | _, [], [] => True
  | ex, v :: vs, .dat d :: as => Dq K F v d ∧ ValsR K G ρ F σ H ex vs as
  | ex, v :: vs, .own xs :: as => ∃ p, v = .ref p ∧ p ∉ ex ∧ New K G ρ F σ H p xs ∧ ValsR K G ρ F σ H (p :: ex) vs as
  | _, _, _ => False
theorem ValsR_perm : ∀ (as : List Vl) (vs : List V) {ex ex' : List Addr}, (∀ z ∈ ex', z ∈ ex) → ValsR K G ρ' F' σ H' ex vs as → ValsR K G ρ' F' σ H' ex' vs as
  | [], [], _, _, _, _ => trivial
  | .dat d :: as, v :: vs, _, _, hs, h => ⟨h.1, ValsR_perm as vs hs h.2⟩
  | .own xs :: as, v :: vs, _, _, hs, ⟨q, e, h1, h2, h3⟩ => ⟨q, e, fun z => h1 (hs _ z), h2, ValsR_perm as vs (fun z hz => by
      rcases List.mem_cons.mp hz with rfl | hz
      · simp
      · exact List.mem_cons_of_mem _ (hs z hz)) h3⟩
  | [], _ :: _, _, _, _, h => h.elim
  | .dat _ :: _, [], _, _, _, h => h.elim
  | .own _ :: _, [], _, _, _, h => h.elim
theorem ValsR.out (hth : ∀ q, G.H0 q ≠ none → H q ≠ none) (hp : H p ≠ none) : ∀ (as : List Vl) (vs : List V) (ex : List Addr), ValsR K (G.pend F H p hth hp) ρ' F' σ H' ex vs as → (hn : ∀ q ∈ ex, q ≠ p) → ValsR K G ρ' F' σ H' (p :: ex) vs as ∧ True
  | [], [], _, _, _ => ⟨trivial, trivial⟩
  | .dat d :: as, v :: vs, ex, h, hn => ⟨⟨h.1, (ValsR.out hth hp as vs ex h.2 hn).1⟩, trivial⟩
  | .own xs :: as, v :: vs, ex, h, hn => by
    obtain ⟨q, e, h1, h2, h3⟩ := h
    have hq : q ≠ p := h2.at_.2.1.2
    obtain ⟨h4, -⟩ := ValsR.out hth hp as vs (q :: ex) h3 (fun z hz => by
      rcases List.mem_cons.mp hz with rfl | hz
      · exact hq
      · exact hn z hz)
    refine ⟨⟨q, e, ?_, ⟨⟨h2.at_.1, h2.at_.2.1.1, h2.at_.2.2⟩, h2.sep⟩, ?_⟩, trivial⟩
    · intro z
      rcases List.mem_cons.mp z with z | z
      · exact hq z
      · exact h1 z
    · exact ValsR_perm as vs (fun z hz => by
      simp only [List.mem_cons] at hz ⊢
      rcases hz with hz | hz | hz
      · exact .inr (.inl hz)
      · exact .inl hz
      · exact .inr (.inr hz)) h4
  | [], _ :: _, _, h, _ => h.elim
  | .dat _ :: _, [], _, h, _ => h.elim
  | .own _ :: _, [], _, h, _ => h.elim
/-- arguments, new lists among them -/
def tVA (K : PySem.W.Frag) (T : Tx) (mg : Str → Option Value) (W : WX) (f : Cm (List Vl)) : TA := fun σ H Q => ∃ G ρ F, Rp K T G ρ F σ H ∧ Rs K T mg W G F σ (f ρ) fun as ρ' F' H' => ∀ vs, ValsR K G ρ' F' σ H' [] vs as → Q vs H'
abbrev VA (X : Cx) (T : Tx) (W : WX) (es : List Expr) (f : Cm (List Vl)) : Prop := PA X es (tVA X.K T X.mg W f)
end
def vaN : Cm (List Vl) := ret []
def vaD (m : Cm D) (n : Cm (List Vl)) : Cm (List Vl) := bnd m fun a => bnd n fun as => ret (.dat a :: as)
def vaO (m : Cm (List D)) (n : Cm (List Vl)) : Cm (List Vl) := bnd m fun a => bnd n fun as => ret (.own a :: as)
section
variable {X : Cx} {T : Tx} {W : WX} {e : Expr} {es : List Expr} {pos : Pos} {f : Cm D} {fo : Cm (List D)} {fa : Cm (List Vl)}
theorem va_nil : VA X T W [] vaN := PA_imp pa_nil fun σ H Q ⟨G, ρ, F, rp, h⟩ => h.ret rp (.refl _) [] trivial
theorem va_dat (ha : DE X T W e f) (hr : VA X T W es fa) (hs : starEach (e :: es) X.env = (false, eval e X.env) :: starEach es X.env := by rfl) : VA X T W (e :: es) (vaD f fa) :=
  PA_imp (pa_cons ha hr hs) fun σ H Q ⟨G, ρ, F, rp, h⟩ => ⟨G, ρ, F, rp, h.bind.imp fun a ρ1 F1 H1 s1 rp1 h1 v hv => ⟨G, ρ1, F1, rp1, h1.bind.imp fun as ρ2 F2 H2 s2 rp2 h2 vs hvs => h2.ret rp2 (.refl _) _ ⟨Dq_ext s2 hv, hvs⟩⟩⟩
theorem va_own (ha : OE X T W e fo) (hr : VA X T W es fa) (hs : starEach (e :: es) X.env = (false, eval e X.env) :: starEach es X.env := by rfl) : VA X T W (e :: es) (vaO fo fa) :=
  PA_imp (pa_cons ha hr hs) fun σ H Q ⟨G, ρ, F, rp, h⟩ => ⟨G, ρ, F, rp, h.bind.imp fun a ρ1 F1 H1 s1 rp1 h1 p n => ⟨_, ρ1, F1, rp1.pend n, (Rs.unpend rp1 n h1.bind).imp fun as ρ2 F2 H2 s2 rp2 h2 vs hvs => by
    obtain ⟨rp3, n3, h2⟩ := h2
    exact h2.ret rp3 (.refl _) (.ref p :: vs) ⟨p, rfl, by simp, n3, (ValsR.out rp1.th n.ne _ _ _ hvs (by simp)).1⟩⟩⟩
end
def Vl.sl : Vl → Sl
  | .dat d => .dat d
  | .own xs => .own xs false
section
variable {K : PySem.W.Frag} {T : Tx} {G : Gh} {ρ : En} {F H : Hp} {σ : L2.St}
theorem New.setS {p : Addr} {xs : List D} (n : New K G ρ F σ H p xs) (i : Nat) (s : Sl) (v : V) (hl : ρ.length = σ.length) (h : ∀ ys b, s = .own ys b → v ≠ .ref p) : New K G (ρ.set i s) F (σ.set i (some v)) H p xs := by
  refine ⟨n.at_, fun j ys b e z => ?_⟩
  by_cases hj : i = j
  · subst hj
    have hl' : i < ρ.length := by
      have := (List.getElem?_eq_some_iff.mp e).1
      simpa using this
    rw [List.getElem?_set_self hl'] at e
    rw [List.getElem?_set_self (hl ▸ hl')] at z
    cases e
    cases z
    exact h _ _ rfl rfl
  · rw [List.getElem?_set_ne hj] at e z
    exact n.sep j ys b e z
theorem ValsR.setS {v : V} {s : Sl} (i : Nat) (hl : ρ.length = σ.length) : ∀ (as : List Vl) (vs : List V) (ex : List Addr), (∀ ys b, s = .own ys b → ∃ p ∈ ex, v = .ref p) → ValsR K G ρ F σ H ex vs as → ValsR K G (ρ.set i s) F (σ.set i (some v)) H ex vs as
  | [], [], _, _, _ => trivial
  | .dat d :: as, w :: vs, ex, hs, h => ⟨h.1, ValsR.setS i hl as vs ex hs h.2⟩
  | .own xs :: as, w :: vs, ex, hs, ⟨q, e, h1, h2, h3⟩ => ⟨q, e, h1, h2.setS i s v hl fun ys b z => by
      obtain ⟨p, hp, e⟩ := hs ys b z
      rw [e]
      rintro ⟨⟩
      exact h1 hp, ValsR.setS i hl as vs (q :: ex) (fun ys b z => by
      obtain ⟨p, hp, e⟩ := hs ys b z
      exact ⟨p, List.mem_cons_of_mem _ hp, e⟩) h3⟩
  | [], _ :: _, _, _, h => h.elim
  | .dat _ :: _, [], _, _, h => h.elim
  | .own _ :: _, [], _, _, h => h.elim
theorem Rp.setVs (rp : Rp K T G ρ F σ H) (i : Nat) {v : V} {a : Vl} {as : List Vl} {vs : List V} {ex : List Addr} (h : ValsR K G ρ F σ H ex (v :: vs) (a :: as)) : Rp K T G (ρ.set i a.sl) F (σ.set i (some v)) H ∧ ∃ ex', ValsR K G (ρ.set i a.sl) F (σ.set i (some v)) H ex' vs as := by
  cases a with
  | dat d => exact ⟨rp.setD i h.1, ex, ValsR.setS i rp.len as vs ex (fun ys b z => by cases z) h.2⟩
  | own xs =>
    obtain ⟨p, rfl, h1, h2, h3⟩ := h
    exact ⟨rp.setO i h2, p :: ex, ValsR.setS i rp.len as vs (p :: ex) (fun ys b z => ⟨p, by simp, rfl⟩) h3⟩
end
/-- a, b = e1, e2, new lists among them -/
def parV2 (i j : Nat) (f : Cm (List Vl)) : Cm Fl := bnd f fun
  | [a, b] => fun ρ => .ok .nx ((ρ.set i a.sl).set j b.sl)
  | _ => fun _ => .no
def parV3 (i j l : Nat) (f : Cm (List Vl)) : Cm Fl := bnd f fun
  | [a, b, c] => fun ρ => .ok .nx (((ρ.set i a.sl).set j b.sl).set l c.sl)
  | _ => fun _ => .no
section
variable {X : Cx} {T : Tx} {W : WX} {pos : Pos} {fa : Cm (List Vl)}
theorem ds_parV2 {i j : Nat} {x y : Str} {a b : Expr} {px py pt : Pos} {kt k2 pt2} (hc : X.calm = true) (hN : X.N.Nodup) (hi : X.N[i]? = some x) (hj : X.N[j]? = some y) (hij : i ≠ j)
    (hx : X.env.scope.names.lookup x = some .local) (hy : X.env.scope.names.lookup y = some .local) (ha : VA X T W [a, b] fa)
    (hw : swappedStores [.Tuple [.Name x px, .Name y py] kt pt] (.Tuple [a, b] k2 pt2) X.env = pure (some [x, y]))
    (hs : swapsWithSole [.Tuple [.Name x px, .Name y py] kt pt] (.Tuple [a, b] k2 pt2) pos.line X.env = pure false := by rfl) :
    DS X T W (.Assign [.Tuple [.Name x px, .Name y py] kt pt] (.Tuple [a, b] k2 pt2) pos) (parV2 i j fa) :=
  PS_imp (ps_par hc hN hi hj hij hx hy ha hw hs) fun σ H Dn ⟨G, ρ, F, rp, h⟩ => ⟨G, ρ, F, rp, (SRs.bind h).imp fun ds ρ1 F1 H1 s1 rp1 h2 vs hv => by
    match ds, vs, hv, h2 with
    | [d1, d2], [v, w], hv, h2 =>
      obtain ⟨rp2, ex, hv2⟩ := rp1.setVs i hv
      exact ⟨_, _, rfl, h2 _ F1 H1 (.refl _) (rp2.setVs j hv2).1⟩
    | [.dat _, .dat _], [], hv, _ => exact hv.elim
    | [.dat _, .dat _], [_], hv, _ => exact hv.2.elim
    | [.dat _, .dat _], _ :: _ :: _ :: _, hv, _ => exact hv.2.2.elim
    | [.own _, .dat _], [], hv, _ => exact hv.elim
    | [.own _, .dat _], [_], hv, _ => obtain ⟨_, _, _, _, z⟩ := hv; exact z.elim
    | [.own _, .dat _], _ :: _ :: _ :: _, hv, _ => obtain ⟨_, _, _, _, z⟩ := hv; exact z.2.elim
    | [.dat _, .own _], [], hv, _ => exact hv.elim
    | [.dat _, .own _], [_], hv, _ => exact hv.2.elim
    | [.dat _, .own _], _ :: _ :: _ :: _, hv, _ => obtain ⟨_, _, _, _, _, z⟩ := hv; exact z.elim
    | [.own _, .own _], [], hv, _ => exact hv.elim
    | [.own _, .own _], [_], hv, _ => obtain ⟨_, _, _, _, z⟩ := hv; exact z.elim
    | [.own _, .own _], _ :: _ :: _ :: _, hv, _ => obtain ⟨_, _, _, _, _, _, _, _, z⟩ := hv; exact z.elim
    | [], _, _, h2 => exact h2.elim
    | [_], _, _, h2 => exact h2.elim
    | _ :: _ :: _ :: _, _, _, h2 => exact h2.elim⟩
theorem ValsR.len {K : PySem.W.Frag} {G : Gh} {ρ : En} {F H : Hp} {σ : L2.St} : ∀ (as : List Vl) (vs : List V) (ex : List Addr), ValsR K G ρ F σ H ex vs as → vs.length = as.length
  | [], [], _, _ => rfl
  | .dat d :: as, v :: vs, ex, h => congrArg Nat.succ (ValsR.len as vs ex h.2)
  | .own xs :: as, v :: vs, ex, ⟨q, _, _, _, h⟩ => congrArg Nat.succ (ValsR.len as vs _ h)
  | [], _ :: _, _, h => h.elim
  | .dat _ :: _, [], _, h => h.elim
  | .own _ :: _, [], _, h => h.elim
theorem ds_parV3 {i j l : Nat} {x y z : Str} {a b c : Expr} {px py pz pt : Pos} {kt k2 pt2} (hc : X.calm = true) (hN : X.N.Nodup) (hi : X.N[i]? = some x) (hj : X.N[j]? = some y) (hl : X.N[l]? = some z) (hij : i ≠ j) (hil : i ≠ l) (hjl : j ≠ l)
    (hx : X.env.scope.names.lookup x = some .local) (hy : X.env.scope.names.lookup y = some .local) (hz : X.env.scope.names.lookup z = some .local) (ha : VA X T W [a, b, c] fa)
    (hw : swappedStores [.Tuple [.Name x px, .Name y py, .Name z pz] kt pt] (.Tuple [a, b, c] k2 pt2) X.env = pure (some [x, y, z]))
    (hs : swapsWithSole [.Tuple [.Name x px, .Name y py, .Name z pz] kt pt] (.Tuple [a, b, c] k2 pt2) pos.line X.env = pure false := by rfl) :
    DS X T W (.Assign [.Tuple [.Name x px, .Name y py, .Name z pz] kt pt] (.Tuple [a, b, c] k2 pt2) pos) (parV3 i j l fa) :=
  PS_imp (ps_par3 hc hN hi hj hl hij hil hjl hx hy hz ha hw hs) fun σ H Dn ⟨G, ρ, F, rp, h⟩ => ⟨G, ρ, F, rp, (SRs.bind h).imp fun ds ρ1 F1 H1 s1 rp1 h2 vs hv => by
    have hlen := ValsR.len _ _ _ hv
    match ds, h2 with
    | [d1, d2, d3], h2 =>
      match vs, hlen, hv with
      | [u, v, w], _, hv =>
        obtain ⟨rp2, ex, hv2⟩ := rp1.setVs i hv
        obtain ⟨rp3, ex, hv3⟩ := rp2.setVs j hv2
        exact ⟨_, _, _, rfl, h2 _ F1 H1 (.refl _) (rp3.setVs l hv3).1⟩
    | [], h2 => exact h2.elim
    | [_], h2 => exact h2.elim
    | [_, _], h2 => exact h2.elim
    | _ :: _ :: _ :: _ :: _, h2 => exact h2.elim⟩
end
/-! ### a + b, a * n: the new list itself -/
def catL (d e : D) : Option (List D) := match d, e with
  | .list a, .list b => if sizeOkL (a.length + b.length) then some (a ++ b) else none
  | _, _ => none
def repL (d e : D) : Option (List D) := match d, e with
  | .list xs, .int k => if decide (-(2 ^ 63) ≤ k) && decide (k < 2 ^ 63) && sizeOkL (xs.length * k.toNat) then some (List.replicate k.toNat xs).flatten else none
  | _, _ => none
def o2O (f g : Cm D) (o : D → D → Option (List D)) : Cm (List D) := bnd f fun a => bnd g fun b => lift (o a b)
def oLO (i : Nat) (g : Cm D) (o : D → D → Option (List D)) : Cm (List D) := bnd (isVs i) fun _ => bnd g fun b => bnd (rdO i) fun a => lift (o a b)
/-- an operation whose list is new -/
def OpN (K : PySem.W.Frag) (r : R2) (o : D → D → Option (List D)) : Prop := ∀ (F H : Hp) (x y : V) (d e : D) (z : List D) (Q : VK), Same F H → Dv K F H x d → Dv K F H y e → o d e = some z → (∀ p vs, H p = none → DqAll K F vs z → Q (.ref p) (upd H p (.lst vs))) → r x y H Q
theorem on_cat {K : PySem.W.Frag} : OpN K rCatR catL := fun F H x y d e z Q s h1 h2 h3 h4 => by
  unfold catL at h3
  split at h3
  · rename_i a b
    obtain ⟨la, us, rfl, r1, a1⟩ := h1.lst s
    obtain ⟨lb, ws, rfl, r2, a2⟩ := h2.lst s
    split at h3
    · rename_i hz
      cases h3
      exact ⟨_, _, _, _, rfl, rfl, r1, r2, by rw [DqAll_len a1, DqAll_len a2]; exact sizeOkL_le hz, fun p hp => h4 p _ hp (DqAll_append a1 a2)⟩
    · cases h3
  · cases h3
theorem DqAll_flat {K : PySem.W.Frag} {F : Hp} {vs : List V} {ds : List D} (a : DqAll K F vs ds) : ∀ n : Nat, DqAll K F (List.replicate n vs).flatten (List.replicate n ds).flatten
  | 0 => .nil
  | n + 1 => by
    rw [List.replicate_succ, List.replicate_succ, List.flatten_cons, List.flatten_cons]
    exact DqAll_append a (DqAll_flat a n)
theorem on_rep {K : PySem.W.Frag} : OpN K rRepR repL := fun F H x y d e z Q s h1 h2 h3 h4 => by
  unfold repL at h3
  split at h3
  · rename_i a k
    obtain ⟨la, us, rfl, r1, a1⟩ := h1.lst s
    obtain rfl := h2.int
    split at h3
    · rename_i hz
      cases h3
      simp only [Bool.and_eq_true, decide_eq_true_eq] at hz
      exact ⟨_, _, _, rfl, rfl, r1, hz.1.1, hz.1.2, by rw [DqAll_len a1]; exact sizeOkL_le hz.2, fun p hp => h4 p _ hp (DqAll_flat a1 _)⟩
    · cases h3
  · cases h3
section
variable {X : Cx} {T : Tx} {W : WX} {pos : Pos} {e1 e2 : Expr} {f g : Cm D} {i : Nat} {y : Str}
theorem oe_op {op : Operator} {r : R2} {o : D → D → Option (List D)} (ho : OpR X (binaryOp op) r) (hd : OpN X.K r o) (ha : DE X T W e1 f) (hb : DE X T W e2 g) : OE X T W (.BinOp e1 op e2 pos) (o2O f g o) :=
  PE_imp (pe_op ho ha hb) fun σ H Q ⟨G, ρ, F, rp, h⟩ => ⟨G, ρ, F, rp, h.bind.imp fun a ρ1 F1 H1 s1 rp1 h1 x hx => ⟨G, ρ1, F1, rp1, h1.bind.imp fun b ρ2 F2 H2 s2 rp2 h2 y hy => by
    obtain ⟨z, e, h3⟩ := h2.lift
    exact hd F2 H2 x y a b z Q rp2.same (.dat (Dq_ext s2 hx)) (.dat hy) e fun p vs hp a => h3.ret (rp2.gr (rp2.grown hp)) (.refl _) _ (rp2.new hp a)⟩⟩
theorem oe_opL {op : Operator} {r : R2} {o : D → D → Option (List D)} (ho : OpR X (binaryOp op) r) (hd : OpN X.K r o) (hN : X.N[i]? = some y) (hv : Vis X.env.scope y) (hb : DE X T W e2 g) (hdd : (y == ("__debug__" : Str)) = false := by decide) (hcd : (y == ("__classdict__" : Str)) = false := by decide) :
    OE X T W (.BinOp (.Name y py) op e2 pos) (oLO i g o) :=
  PE_imp (pe_op ho (pe_var hN hv hdd hcd) hb) fun σ H Q ⟨G, ρ, F, rp, h⟩ => by
    obtain ⟨v, hv, h⟩ := isVs_at rp h
    exact ⟨v, hv, G, ρ, F, rp, h.bind.imp fun b ρ2 F2 H2 s2 rp2 h2 y hy => by
      obtain ⟨d, hd2, h3⟩ := rdO_ok rp2 hv h2
      obtain ⟨z, e, h4⟩ := h3.lift
      exact hd F2 H2 v y d b z Q rp2.same hd2 (.dat hy) e fun p vs hp a => h4.ret (rp2.gr (rp2.grown hp)) (.refl _) _ (rp2.new hp a)⟩
theorem oe_add (ha : DE X T W e1 f) (hb : DE X T W e2 g) : OE X T W (.BinOp e1 .Add e2 pos) (o2O f g catL) := oe_op op_catR on_cat ha hb
theorem oe_mul (ha : DE X T W e1 f) (hb : DE X T W e2 g) : OE X T W (.BinOp e1 .Mult e2 pos) (o2O f g repL) := oe_op op_repR on_rep ha hb
theorem oe_addL (i : Nat) (hb : DE X T W e2 g) (hN : X.N[i]? = some y := by rfl) (hv : Vis X.env.scope y := by first | exact .inl rfl | exact .inr (.inl rfl) | exact .inr (.inr rfl)) (hdd : (y == ("__debug__" : Str)) = false := by decide) (hcd : (y == ("__classdict__" : Str)) = false := by decide) : OE X T W (.BinOp (.Name y py) .Add e2 pos) (oLO i g catL) := oe_opL op_catR on_cat hN hv hb hdd hcd
end
/-! ### short forms -/
section
variable {X : Cx} {T : Tx} {W : WX} {pos : Pos} {fa : Cm (List Vl)}
theorem parV (i j : Nat) {x y : Str} {a b : Expr} {px py pt : Pos} {kt k2 pt2} (hN : X.N.Nodup) (ha : VA X T W [a, b] fa) (hc : X.calm = true := by rfl) (hi : X.N[i]? = some x := by rfl) (hj : X.N[j]? = some y := by rfl) (hij : i ≠ j := by decide)
    (hx : X.env.scope.names.lookup x = some .local := by rfl) (hy : X.env.scope.names.lookup y = some .local := by rfl)
    (hw : swappedStores [.Tuple [.Name x px, .Name y py] kt pt] (.Tuple [a, b] k2 pt2) X.env = pure (some [x, y]) := by rfl)
    (hs : swapsWithSole [.Tuple [.Name x px, .Name y py] kt pt] (.Tuple [a, b] k2 pt2) pos.line X.env = pure false := by rfl) :
    DS X T W (.Assign [.Tuple [.Name x px, .Name y py] kt pt] (.Tuple [a, b] k2 pt2) pos) (parV2 i j fa) := ds_parV2 hc hN hi hj hij hx hy ha hw hs
theorem parT (i j l : Nat) {x y z : Str} {a b c : Expr} {px py pz pt : Pos} {kt k2 pt2} (hN : X.N.Nodup) (ha : VA X T W [a, b, c] fa) (hc : X.calm = true := by rfl) (hi : X.N[i]? = some x := by rfl) (hj : X.N[j]? = some y := by rfl) (hl : X.N[l]? = some z := by rfl) (hij : i ≠ j := by decide) (hil : i ≠ l := by decide) (hjl : j ≠ l := by decide)
    (hx : X.env.scope.names.lookup x = some .local := by rfl) (hy : X.env.scope.names.lookup y = some .local := by rfl) (hz : X.env.scope.names.lookup z = some .local := by rfl)
    (hw : swappedStores [.Tuple [.Name x px, .Name y py, .Name z pz] kt pt] (.Tuple [a, b, c] k2 pt2) X.env = pure (some [x, y, z]) := by rfl)
    (hs : swapsWithSole [.Tuple [.Name x px, .Name y py, .Name z pz] kt pt] (.Tuple [a, b, c] k2 pt2) pos.line X.env = pure false := by rfl) :
    DS X T W (.Assign [.Tuple [.Name x px, .Name y py, .Name z pz] kt pt] (.Tuple [a, b, c] k2 pt2) pos) (parV3 i j l fa) := ds_parV3 hc hN hi hj hl hij hil hjl hx hy hz ha hw hs
end
/-! ### a, b, .. = e1, e2, .. where a tuple is made and taken apart -/
def stVs : List Nat → List Vl → Cm Unit
  | [], [] => ret ()
  | i :: is, a :: as => fun ρ => stVs is as (ρ.set i a.sl)
  | _, _ => fun _ => .no
def endV (T : Tx) (K : PySem.W.Frag) (G : Gh) (F H : Hp) (Q : L2.St → Hp → Prop) : R Unit → Prop
  | .ok _ ρ' => ∀ σ', Rp K T G ρ' F σ' H → Q σ' H
  | _ => False
def tGV (K : PySem.W.Frag) (T : Tx) (is : List Nat) : TGs := fun us σ H Q => ∃ G ρ F as ex, Rp K T G ρ F σ H ∧ ValsR K G ρ F σ H ex us as ∧ endV T K G F H Q (stVs is as ρ)
theorem stVs_ex : ∀ (is : List Nat) (as : List Vl) (ρ : En) {x : Xn} {ρ' : En}, stVs is as ρ ≠ .ex x ρ'
  | [], [], ρ, _, _, h => by cases h
  | i :: is, a :: as, ρ, _, _, h => stVs_ex is as _ h
  | [], _ :: _, _, _, _, h => by cases h
  | _ :: _, [], _, _, _, h => by cases h
abbrev GV (X : Cx) (T : Tx) (tg : List Expr) (is : List Nat) : Prop := PGs X tg (tGV X.K T is)
def unpM (is : List Nat) (f : Cm (List Vl)) : Cm Fl := bnd f fun as => if sizeOkL as.length && decide (as.length = is.length) then done (stVs is as) else fun _ => .no
section
variable {X : Cx} {T : Tx} {W : WX} {pos px : Pos} {es tg : List Expr} {fa : Cm (List Vl)} {is : List Nat} {x : Str}
theorem gv_nil : GV X T [] [] := ⟨fun pins s σ H us ws Q I r ⟨G, ρ, F, as, ex, rp, hv, h⟩ => by
  cases as with
  | cons a as => exact (show False from h).elim
  | nil =>
    cases us with
    | cons u us => exact (show False from hv).elim
    | nil => exact pgs_nil.run pins s σ H [] ws Q I r ⟨rfl, h σ rp⟩⟩
theorem gv_cons (i : Nat) (hN : X.N.Nodup) (h2 : GV X T es is) (hi : X.N[i]? = some x := by rfl) (hx : Loc X.env.scope x := by first | exact Or.inl rfl | exact Or.inr rfl) (hf : X.fn x = true ∨ X.env.scope.names.lookup x = some .local := by first | exact .inl rfl | exact .inr rfl)
    (hs : (assignEach (.Name x px :: es) X.env).map (·.2) = assign (.Name x px) X.env :: (assignEach es X.env).map (·.2) := by rfl) : GV X T (.Name x px :: es) (i :: is) := ⟨fun pins s σ H us ws Q I r ⟨G, ρ, F, as, ex, rp, hv, h⟩ => by
  cases as with
  | nil => exact (show False from h).elim
  | cons a as =>
    cases us with
    | nil => cases a <;> exact (show False from hv).elim
    | cons u us =>
      obtain ⟨rp2, ex2, hv2⟩ := rp.setVs i hv
      exact (pgs_cons (pg_name hN hi hx hf) h2 hs).run pins s σ H _ ws Q I r ⟨u, us, rfl, G, _, F, as, ex2, rp2, hv2, h⟩⟩
theorem New.gr' {K : PySem.W.Frag} {G : Gh} {ρ : En} {F H F' H' : Hp} {σ : L2.St} (g : Gr F H F' H') : ∀ (as : List Vl) (vs : List V) (ex : List Addr), ValsR K G ρ F σ H ex vs as → ValsR K G ρ F' σ H' ex vs as
  | [], [], _, _ => trivial
  | .dat d :: as, v :: vs, ex, h => ⟨Dq_ext g.f h.1, New.gr' g as vs ex h.2⟩
  | .own xs :: as, v :: vs, ex, ⟨q, e, h1, h2, h3⟩ => ⟨q, e, h1, h2.gr g, New.gr' g as vs _ h3⟩
  | [], _ :: _, _, h => h.elim
  | .dat _ :: _, [], _, h => h.elim
  | .own _ :: _, [], _, h => h.elim
theorem ds_unp {k k2 n : Nat} {p1 p2 : Pos} (hc : X.calm = true) (ha : VA X T W es fa) (hg : GV X T tg is) (hn : (assignEach tg X.env).length = n := by rfl) (hl : is.length = n := by rfl) (hst : (assignEach tg X.env).findIdx? (·.1) = none := by rfl)
    (hs : swapsWithSole [.Tuple tg k p1] (.Tuple es k2 p2) pos.line X.env = pure false := by rfl) (hw : swappedStores [.Tuple tg k p1] (.Tuple es k2 p2) X.env = pure none := by rfl)
    (h1 : (assignEach [.Tuple tg k p1] X.env).map (·.2) = [assign (.Tuple tg k p1) X.env] := by rfl) : DS X T W (.Assign [.Tuple tg k p1] (.Tuple es k2 p2) pos) (unpM is fa) :=
  PS_imp (ps_asg (pe_tup ha) (pg_tup hc hg hn hst) hs hw h1) fun σ H Dn ⟨G, ρ, F, rp, h⟩ => ⟨G, ρ, F, rp, (SRs.bind h).imp fun as ρ1 F1 H1 s1 rp1 h2 vs hv => by
    by_cases z : (sizeOkL as.length && decide (as.length = is.length)) = true
    · rw [if_pos z] at h2
      simp only [Bool.and_eq_true, decide_eq_true_eq] at z
      refine ⟨by rw [ValsR.len _ _ _ hv]; exact sizeOkL_le z.1, fun p hp => ?_⟩
      have g := rp1.grown (o := .tup vs) hp
      refine ⟨p, vs, rfl, .inl (.of upd_same), by rw [ValsR.len _ _ _ hv, z.2, hl], G, ρ1, F1, as, [], rp1.gr g, New.gr' g _ _ _ hv, ?_⟩
      unfold done bnd at h2
      cases q : stVs is as ρ1 with
      | no => rw [q] at h2; exact h2
      | ex x ρ2 =>
        exfalso
        exact stVs_ex is as ρ1 q
      | ok a ρ2 => rw [q] at h2; exact fun σ' rp' => h2 σ' F1 _ (.refl _) rp'
    · rw [if_neg z] at h2; exact h2.elim⟩
end
/-! ### repr(a) == repr(b) as a value -/
theorem rep_eq {f g : Cm D} {r : Bool} {ρ : En} (h : repM f g r ρ ≠ .no) : o2 (caM (argC f argN) reprD) (caM (argC g argN) reprD) (if r then eqD else neD) ρ = ofB (repM f g r) ρ := by
  unfold repM bnd at h
  unfold ofB repM bnd
  cases q1 : f ρ with
  | no => rw [q1] at h; exact absurd rfl h
  | ex x ρ1 =>
    unfold o2 caM argC bnd
    rw [q1]
    rfl
  | ok a ρ1 =>
    rw [q1] at h
    simp only [R.bind] at h ⊢
    by_cases ho : okRep a = true
    · rw [if_pos ho] at h ⊢
      cases q2 : g ρ1 with
      | no => rw [q2] at h; exact absurd rfl h
      | ex x ρ2 =>
        simp only [R.bind]
        unfold o2 caM argC bnd
        rw [q1]
        simp only [R.bind, argN, ret, reprD, ho, if_true, lift, q2]
      | ok b ρ2 =>
        rw [q2] at h
        simp only [R.bind] at h ⊢
        by_cases hd : deq a b = true
        · have eab := deq_eq hd
          subst eab
          rw [if_pos hd] at h ⊢
          unfold o2 caM argC bnd
          rw [q1]
          simp only [R.bind, argN, ret, reprD, ho, if_true, lift, q2]
          cases r
          · simp only [Bool.false_eq_true, if_false, neD, beq_self_eq_true, lift, ret, Bool.not_true]
          · simp only [if_true, eqD, beq_self_eq_true, lift, ret]
        · rw [if_neg hd] at h
          exact absurd rfl h
    · rw [if_neg ho] at h
      exact absurd rfl h
section
variable {X : Cx} {T : Tx} {W : WX} {e1 e2 : Expr} {pos p1 p2 q1 q2 : Pos} {f g : Cm D} {k : Nat}
theorem de_repr {op : CmpOp} {r : Bool} (ho : (op = .Eq ∧ r = true) ∨ (op = .NotEq ∧ r = false)) (hr : Room k X.A) (hgd : X.A.guards = some []) (hg : Gl X "repr") (hm : X.mg "repr" = none) (ha : DE X T W e1 f) (hb : DE X T W e2 g)
    (h1 : starEach (e1 :: []) X.env = (false, eval e1 X.env) :: starEach [] X.env := by rfl) (h2 : starEach (e2 :: []) X.env = (false, eval e2 X.env) :: starEach [] X.env := by rfl) :
    DE X T W (.Compare (.Call (.Name "repr" p1) [e1] [] q1) [op] [.Call (.Name "repr" p2) [e2] [] q2] pos) (ofB (repM f g r)) := by
  have c1 := de_caB (W := W) (pos := q1) (px := p1) (T := T) (cr_repr hr hgd) cd_repr hg hm (by rfl) (da_cons ha da_nil h1) (he := h1)
  have c2 := de_caB (W := W) (pos := q2) (px := p2) (T := T) (cr_repr hr hgd) cd_repr hg hm (by rfl) (da_cons hb da_nil h2) (he := h2)
  have key : DE X T W (.Compare (.Call (.Name "repr" p1) [e1] [] q1) [op] [.Call (.Name "repr" p2) [e2] [] q2] pos) (o2 (caM (argC f argN) reprD) (caM (argC g argN) reprD) (if r then eqD else neD)) := by
    rcases ho with ⟨rfl, rfl⟩ | ⟨rfl, rfl⟩
    · exact de_cmp (op_eq.or (op_eqD hr.units)) od_eq (nomark _) c1 c2
    · exact de_cmp (op_ne.or (op_neD hr.units)) od_ne (nomark _) c1 c2
  refine PE_imp key fun σ H Q ⟨G, ρ, F, rp, h⟩ => ⟨G, ρ, F, rp, ?_⟩
  rw [rep_eq]
  · exact h
  · intro z
    unfold ofB bnd at h
    rw [z] at h
    exact h
end
end PL
end S_PLP

section S_PLX
namespace PL
open PySem PySem.Spec PyProof.Rows L2
/-! ### plain facts -/
theorem sorted_ext : ∀ (l1 l2 : List Int), l1.Pairwise (· < ·) → l2.Pairwise (· < ·) → (∀ x, x ∈ l1 ↔ x ∈ l2) → l1 = l2
  | [], [], _, _, _ => rfl
  | [], b :: l2, _, _, h => by have := (h b).mpr (by simp); simp at this
  | a :: l1, [], _, _, h => by have := (h a).mp (by simp); simp at this
  | a :: l1, b :: l2, h1, h2, h => by
    obtain ⟨a1, a2⟩ := List.pairwise_cons.mp h1
    obtain ⟨b1, b2⟩ := List.pairwise_cons.mp h2
    have e : a = b := by
      have x1 := (h a).mp (by simp)
      have x2 := (h b).mpr (by simp)
      rcases List.mem_cons.mp x1 with z | z
      · exact z
      · rcases List.mem_cons.mp x2 with y | y
        · exact y.symm
        · have := a1 b y
          have := b1 a z
          omega
    subst e
    rw [sorted_ext l1 l2 a2 b2 fun x => ⟨fun hx => by
      rcases List.mem_cons.mp ((h x).mp (List.mem_cons_of_mem _ hx)) with z | z
      · have := a1 x hx; omega
      · exact z, fun hx => by
      rcases List.mem_cons.mp ((h x).mpr (List.mem_cons_of_mem _ hx)) with z | z
      · have := b1 x hx; omega
      · exact z⟩]
theorem zTo_pw (n : Int) : (zTo n).Pairwise (· < ·) := by
  unfold zTo
  rw [List.pairwise_map]
  exact List.pairwise_lt_range.imp fun h => by omega
/-- the whole sum -/
def isum (xs : List Int) : Int := xs.foldl (· + ·) 0
theorem isum_cons (x : Int) (xs : List Int) : isum (x :: xs) = x + isum xs := by
  unfold isum
  have : ∀ (ys : List Int) (a b : Int), ys.foldl (· + ·) (a + b) = a + ys.foldl (· + ·) b := by
    intro ys
    induction ys with
    | nil => intro a b; rfl
    | cons y ys ih => intro a b; simp only [List.foldl_cons]; rw [Int.add_assoc, ih]
  simp only [List.foldl_cons]
  rw [Int.zero_add]
  have := this xs x 0
  rw [Int.add_zero] at this
  exact this
theorem isum_bd (B : Int) (hB : 0 ≤ B) : ∀ xs : List Int, (∀ x ∈ xs, 0 ≤ x ∧ x ≤ B) → 0 ≤ isum xs ∧ isum xs ≤ B * xs.length
  | [], _ => by simp [isum]
  | x :: xs, h => by
    obtain ⟨h1, h2⟩ := isum_bd B hB xs fun y hy => h y (List.mem_cons_of_mem _ hy)
    obtain ⟨h3, h4⟩ := h x (by simp)
    rw [isum_cons]
    rw [List.length_cons]
    have : B * ((xs.length + 1 : Nat) : Int) = B * xs.length + B := by
      rw [Int.natCast_add]
      rw [Int.mul_add]
      simp
    omega
theorem sum_bd (B : Int) (hB : 0 ≤ B) : ∀ xs : List Int, (∀ x ∈ xs, 0 ≤ x ∧ x ≤ B) → 0 ≤ xs.sum ∧ xs.sum ≤ B * xs.length
  | [], _ => by simp
  | x :: xs, h => by
    obtain ⟨h1, h2⟩ := sum_bd B hB xs fun y hy => h y (List.mem_cons_of_mem _ hy)
    obtain ⟨h3, h4⟩ := h x (by simp)
    rw [List.sum_cons, List.length_cons]
    have : B * ((xs.length + 1 : Nat) : Int) = B * xs.length + B := by
      rw [Int.natCast_add]
      rw [Int.mul_add]
      simp
    omega
/-! ### comprehensions that keep the state -/
theorem lcM_st {γ : Type} {k : Nat} {fi : Cm (List D)} {t : Cm Bool} {e : Cm D} {ρ : En} (h : γ → D) (p : γ → Bool) (f : γ → D) (xs : List γ) (hfi : fi ρ = .ok (xs.map h) ρ) (hl : xs.length ≤ 16777216)
    (hn : noOwn ρ [k] = true) (hw : wipeE ρ [k] = ρ) (hb : backE ρ ρ [k] = ρ) (hs : ∀ d, wipeE (ρ.set k (.dat d)) [k] = ρ)
    (ht : ∀ x ∈ xs, t (ρ.set k (.dat (h x))) = .ok (p x) (ρ.set k (.dat (h x)))) (he : ∀ x ∈ xs, p x = true → e (ρ.set k (.dat (h x))) = .ok (f x) (ρ.set k (.dat (h x)))) :
    lcM [k] fi (stD k) t e ρ = .ok ((xs.filter p).map f) ρ := by
  have key := lcM_of (vs := [k]) (fi := fi) (g := stD k) (t := t) (e := e) (ρ := ρ) (ρ1 := ρ) (ρ2 := ρ) (ys := (xs.filter p).map f) hfi (by
    rw [hn, List.length_map]
    unfold sizeOkL
    simpa using hl) (by
    rw [hw]
    exact lcL_pure h p f xs fun x hx => ⟨_, _, rfl, ht x hx, fun q => ⟨_, he x hx q, hs _⟩, fun _ => hs _⟩)
  rw [key, hb]
theorem lcM_all {γ : Type} {k : Nat} {fi : Cm (List D)} {e : Cm D} {ρ : En} (h : γ → D) (f : γ → D) (xs : List γ) (hfi : fi ρ = .ok (xs.map h) ρ) (hl : xs.length ≤ 16777216)
    (hn : noOwn ρ [k] = true) (hw : wipeE ρ [k] = ρ) (hb : backE ρ ρ [k] = ρ) (hs : ∀ d, wipeE (ρ.set k (.dat d)) [k] = ρ)
    (he : ∀ x ∈ xs, e (ρ.set k (.dat (h x))) = .ok (f x) (ρ.set k (.dat (h x)))) :
    lcM [k] fi (stD k) (ret true) e ρ = .ok (xs.map f) ρ := by
  have := lcM_st (k := k) (fi := fi) (t := ret true) (e := e) (ρ := ρ) h (fun _ => true) f xs hfi hl hn hw hb hs (fun _ _ => rfl) (fun x hx _ => he x hx)
  rw [List.filter_eq_self.mpr (fun _ _ => rfl)] at this
  exact this
/-- range(n) is walked -/
theorem rng_ap {n : Int} {fa : Cm (List D)} {ρ ρ' : En} (h : fa ρ = .ok [.int n] ρ') (h0 : 0 ≤ n) (h1 : n ≤ 16777216) : itD fa rng1D ρ = .ok ((zTo n).map .int) ρ' := by
  have hr : okR n = true := by
    unfold okR
    simp
    omega
  rw [itD_ap, h]
  simp [rng1D, hr, rng_zTo]
theorem back_id (ρ : En) (vs : List Nat) : backE ρ ρ vs = ρ := by
  unfold backE
  refine List.ext_getElem? fun j => ?_
  rw [List.getElem?_mapIdx]
  cases q : ρ[j]? with
  | none => rfl
  | some s => simp
theorem wipe_at (ρ : En) (k : Nat) (s : Sl) (h : ρ[k]? = some .no) : wipeE (ρ.set k s) [k] = ρ := by
  unfold wipeE
  refine List.ext_getElem? fun j => ?_
  rw [List.getElem?_mapIdx]
  by_cases e : k = j
  · subst e
    have hl := (List.getElem?_eq_some_iff.mp h).1
    rw [List.getElem?_set_self hl, h]
    simp
  · rw [List.getElem?_set_ne e]
    cases q : ρ[j]? with
    | none => rfl
    | some s =>
      have : ¬ j = k := fun z => e z.symm
      simp [this]
theorem wipe_id (ρ : En) (k : Nat) (h : ρ[k]? = some .no) : wipeE ρ [k] = ρ := by
  have e := wipe_at ρ k .no h
  have e2 : ρ.set k .no = ρ := by
    refine List.ext_getElem? fun j => ?_
    by_cases e : k = j
    · subst e
      have hl := (List.getElem?_eq_some_iff.mp h).1
      rw [List.getElem?_set_self hl, h]
    · rw [List.getElem?_set_ne e]
  rw [e2] at e
  exact e
theorem noOwn_at (ρ : En) (k : Nat) (h : ρ[k]? = some .no) : noOwn ρ [k] = true := by
  unfold noOwn
  simp [h]
/-- by the slot alone -/
theorem lcM_all' {γ : Type} {k : Nat} {fi : Cm (List D)} {e : Cm D} {ρ : En} (hk : ρ[k]? = some .no) (h : γ → D) (f : γ → D) (xs : List γ) (hfi : fi ρ = .ok (xs.map h) ρ) (hl : xs.length ≤ 16777216)
    (he : ∀ x ∈ xs, e (ρ.set k (.dat (h x))) = .ok (f x) (ρ.set k (.dat (h x)))) : lcM [k] fi (stD k) (ret true) e ρ = .ok (xs.map f) ρ :=
  lcM_all h f xs hfi hl (noOwn_at ρ k hk) (wipe_id ρ k hk) (back_id ρ _) (fun d => wipe_at ρ k _ hk) he
theorem lcM_st' {γ : Type} {k : Nat} {fi : Cm (List D)} {t : Cm Bool} {e : Cm D} {ρ : En} (hk : ρ[k]? = some .no) (h : γ → D) (p : γ → Bool) (f : γ → D) (xs : List γ) (hfi : fi ρ = .ok (xs.map h) ρ) (hl : xs.length ≤ 16777216)
    (ht : ∀ x ∈ xs, t (ρ.set k (.dat (h x))) = .ok (p x) (ρ.set k (.dat (h x)))) (he : ∀ x ∈ xs, p x = true → e (ρ.set k (.dat (h x))) = .ok (f x) (ρ.set k (.dat (h x)))) :
    lcM [k] fi (stD k) t e ρ = .ok ((xs.filter p).map f) ρ :=
  lcM_st h p f xs hfi hl (noOwn_at ρ k hk) (wipe_id ρ k hk) (back_id ρ _) (fun d => wipe_at ρ k _ hk) ht he
theorem mtM_app {i : Nat} {f : Cm D} {ρ : En} {xs : List D} {b : Bool} {d : D} (h1 : ρ[i]? = some (.own xs b)) (h2 : f ρ = .ok d ρ) (hz : sizeOkL (xs.length + 1) = true) : mtM i (argC f argN) appD ρ = .ok .none (ρ.set i (.own (xs ++ [d]) b)) := by
  unfold mtM isOs
  simp [h1, h2, appD, hz]
end PL
end S_PLX

section S_PLY
namespace PL
open PySem PySem.Spec PyProof.Rows L2
/-! ### data that may be shown: k its depth, m its length -/
structure Fit (k m : Nat) (d : D) : Prop where
  sh : d.showable = true
  hd : d.hasDict = false
  dp : d.depth ≤ k
  wt : wt d ≤ m
  nd : noDict d = true
theorem fits_all {k m : Nat} : ∀ {ds : List D}, (∀ d ∈ ds, Fit k m d) → PyData.showableAll ds = true ∧ PyData.hasDictAll ds = false ∧ PyData.depthAll ds ≤ k ∧ wts ds ≤ (m + 2) * ds.length ∧ noDicts ds = true
  | [], _ => by simp [PyData.showableAll, PyData.hasDictAll, PyData.depthAll, wts, noDicts]
  | d :: ds, h => by
    obtain ⟨h1, h2, h3, h4, h5⟩ := fits_all (ds := ds) fun x hx => h x (List.mem_cons_of_mem _ hx)
    obtain ⟨g1, g2, g3, g4, g5⟩ := h d (by simp)
    refine ⟨by simp [PyData.showableAll, h1, g1], by simp [PyData.hasDictAll, h2, g2], by simp only [PyData.depthAll]; omega, ?_, by simp [noDicts, h5, g5]⟩
    simp only [wts, List.length_cons, Nat.mul_succ]
    omega
theorem fit_tup {k m : Nat} {ds : List D} (h : ∀ d ∈ ds, Fit k m d) : Fit (k + 1) (4 + (m + 2) * ds.length) (.tuple ds) := by
  obtain ⟨h1, h2, h3, h4, h5⟩ := fits_all h
  refine ⟨by simp [PyData.showable, h1], by simp [PyData.hasDict, h2], by simp only [PyData.depth]; omega, by simp only [PL.wt]; omega, by unfold noDict; exact h5⟩
theorem fit_lst {k m : Nat} {ds : List D} (h : ∀ d ∈ ds, Fit k m d) : Fit (k + 1) (4 + (m + 2) * ds.length) (.list ds) := by
  obtain ⟨h1, h2, h3, h4, h5⟩ := fits_all h
  refine ⟨by simp [PyData.showable, h1], by simp [PyData.hasDict, h2], by simp only [PyData.depth]; omega, by simp only [PL.wt]; omega, by unfold noDict; exact h5⟩
theorem fit_int {n : Int} (h : n.natAbs < 2 ^ 64) : Fit 0 2000 (.int n) := by
  have e := ints_showable [n] (by simpa using h)
  have e2 := ints_hasDict [n]
  have e3 := ints_depth [n]
  have e5 := ints_noDicts [n]
  simp [PyData.showableAll] at e
  simp [PyData.hasDictAll] at e2
  refine ⟨e, e2, by simp [PyData.depth], by simp [PL.wt], by unfold noDict; rfl⟩
theorem fit_none : Fit 0 2000 (.none : D) := ⟨by simp [PyData.showable], by simp [PyData.hasDict], by simp [PyData.depth], by simp [PL.wt], by unfold noDict; rfl⟩
theorem Fit.mono {k m k' m' : Nat} {d : D} (h : Fit k m d) (a : k ≤ k') (b : m ≤ m') : Fit k' m' d := ⟨h.sh, h.hd, Nat.le_trans h.dp a, Nat.le_trans h.wt b, h.nd⟩
theorem Fit.okL {k m : Nat} {ds : List D} (h : Fit k m (.list ds)) (a : k ≤ 64) (b : m ≤ 16777216) : okRep (.list ds) = true := by
  unfold okRep
  have h3 := Nat.le_trans h.dp a
  have h4 := Nat.le_trans h.wt b
  simp [h.sh, h.hd, h3, h4]
theorem Fit.deq {k m : Nat} {d : D} (h : Fit k m d) : deq d d = true := deq_refl h.nd
end PL
end S_PLY

section S_PLN
namespace PL
open PySem PySem.Spec PyProof.Rows L2
/-! ### lots of k, in order -/
def lots {α : Type} : Nat → List α → List (List α)
  | 0, _ => [[]]
  | _ + 1, [] => []
  | k + 1, x :: xs => (lots k xs).map (x :: ·) ++ lots (k + 1) xs
theorem lots_map {α β : Type} (f : α → β) : ∀ (k : Nat) (xs : List α), lots k (xs.map f) = (lots k xs).map (List.map f)
  | 0, xs => by unfold lots; rfl
  | k + 1, [] => rfl
  | k + 1, x :: xs => by
    have h1 := lots_map f k xs
    have h2 := lots_map f (k + 1) xs
    rw [List.map_cons]
    show (lots k (xs.map f)).map (f x :: ·) ++ lots (k + 1) (xs.map f) = ((lots k xs).map (x :: ·) ++ lots (k + 1) xs).map (List.map f)
    rw [h1, h2, List.map_append, List.map_map, List.map_map]
    rfl
theorem lots_short {α : Type} : ∀ (k : Nat) (xs : List α), xs.length < k → lots k xs = []
  | 0, xs, h => absurd h (Nat.not_lt_zero _)
  | k + 1, [], _ => rfl
  | k + 1, x :: xs, h => by
    have h1 : xs.length < k := Nat.lt_of_succ_lt_succ h
    show (lots k xs).map (x :: ·) ++ lots (k + 1) xs = []
    rw [lots_short k xs h1, lots_short (k + 1) xs (Nat.lt_succ_of_lt h1)]
    rfl
theorem lots_len {α : Type} : ∀ (k : Nat) (xs : List α), ∀ l ∈ lots k xs, l.length = k
  | 0, xs, l, h => by
    have e : lots 0 xs = [[]] := by cases xs <;> rfl
    rw [e] at h
    rw [List.mem_singleton.mp h]
    rfl
  | k + 1, [], l, h => absurd h (by simp [lots])
  | k + 1, x :: xs, l, h => by
    rcases List.mem_append.mp h with h | h
    · obtain ⟨t, ht, rfl⟩ := List.mem_map.mp h
      rw [List.length_cons, lots_len k xs t ht]
    · exact lots_len (k + 1) xs l h
theorem lots_sub {α : Type} : ∀ (k : Nat) (xs : List α), ∀ l ∈ lots k xs, l.Sublist xs
  | 0, xs, l, h => by
    have e : lots 0 xs = [[]] := by cases xs <;> rfl
    rw [e] at h
    rw [List.mem_singleton.mp h]
    exact List.nil_sublist _
  | k + 1, [], l, h => absurd h (by simp [lots])
  | k + 1, x :: xs, l, h => by
    rcases List.mem_append.mp h with h | h
    · obtain ⟨t, ht, rfl⟩ := List.mem_map.mp h
      exact (lots_sub k xs t ht).cons₂ x
    · exact (lots_sub (k + 1) xs l h).cons x
theorem lots_mem {α : Type} : ∀ (k : Nat) (xs l : List α), l ∈ lots k xs ↔ l.Sublist xs ∧ l.length = k := fun k xs l => by
  refine ⟨fun h => ⟨lots_sub k xs l h, lots_len k xs l h⟩, ?_⟩
  rintro ⟨h, rfl⟩
  induction h with
  | slnil => exact List.mem_singleton.mpr rfl
  | cons x h ih =>
    rename_i l₁ l₂
    cases l₁ with
    | nil => exact List.mem_singleton.mpr rfl
    | cons y t => exact List.mem_append_right _ ih
  | cons_cons x h ih => exact List.mem_append_left _ (List.mem_map.mpr ⟨_, ih, rfl⟩)
/-! ### the step from one lot of places to the next -/
/-- f leads from each to the one behind it, from the last to o -/
def Lk {β : Type} (f : β → Option β) : List β → Option β → Prop
  | [], _ => True
  | l :: r, o => f l = r.head?.or o ∧ Lk f r o
theorem Lk.app {β : Type} {f : β → Option β} : ∀ {A B : List β} {o : Option β}, Lk f A (B.head?.or o) → Lk f B o → Lk f (A ++ B) o
  | [], _, _, _, h => h
  | a :: A, B, o, ⟨h1, h2⟩, h => by
    refine ⟨?_, Lk.app h2 h⟩
    rw [h1]
    cases A <;> simp
theorem Lk.at {β : Type} {f : β → Option β} : ∀ {L : List β} {i : Nat} {l : β}, Lk f L none → L[i]? = some l → f l = L[i + 1]?
  | [], i, l, _, h => by simp at h
  | a :: L, 0, l, ⟨h1, _⟩, h => by
    simp at h
    subst h
    rw [h1]
    cases L <;> rfl
  | a :: L, i + 1, l, ⟨_, h2⟩, h => by
    simp at h
    simpa using Lk.at h2 h
/-- the places one step on -/
def cNext (n : Nat) (l : List Nat) : Option (List Nat) :=
  ((List.range l.length).reverse.find? fun i => l.getD i 0 != i + n - l.length).elim none fun i => some (l.take i ++ (List.range (l.length - i)).map (l.getD i 0 + 1 + ·))
theorem cNext_cons (n x : Nat) (t : List Nat) : cNext n (x :: t) = ((cNext n t).map (x :: ·)).or (if x ≠ n - (t.length + 1) then some ((List.range (t.length + 1)).map (x + 1 + ·)) else none) := by
  unfold cNext
  have e1 : (List.range (x :: t).length).reverse = ((List.range t.length).reverse.map (· + 1)) ++ [0] := by
    rw [List.length_cons, List.range_succ_eq_map, List.reverse_cons, List.map_reverse]
  rw [e1, List.find?_append, List.find?_map]
  have e2 : ((fun i => (x :: t).getD i 0 != i + n - (x :: t).length) ∘ (· + 1)) = fun i => t.getD i 0 != i + n - t.length := by
    funext i
    show ((x :: t).getD (i + 1) 0 != i + 1 + n - (x :: t).length) = _
    rw [List.getD_cons_succ, List.length_cons, show i + 1 + n - (t.length + 1) = i + n - t.length by omega]
  rw [e2]
  cases h : List.find? (fun i => t.getD i 0 != i + n - t.length) (List.range t.length).reverse with
  | some i =>
    have hi : i < t.length := by
      have := List.mem_of_find?_eq_some h
      simpa using this
    simp
  | none =>
    by_cases hx : x = n - (t.length + 1)
    · have e3 : ((x :: t).getD 0 0 != 0 + n - (x :: t).length) = false := by simp [hx]
      simp [hx]
    · simp [hx]
theorem combs_run : ∀ (m a k : Nat), k ≤ m → Lk (cNext (a + m)) (lots k (List.range' a m)) none ∧ (lots k (List.range' a m)).head? = some (List.range' a k)
  | m, a, 0, _ => by
    have e : lots 0 (List.range' a m) = [[]] := by cases m <;> rfl
    rw [e]
    exact ⟨⟨by unfold cNext; rfl, trivial⟩, rfl⟩
  | 0, a, k + 1, h => absurd h (by omega)
  | m + 1, a, k + 1, h => by
    obtain ⟨h1, h2⟩ := combs_run m (a + 1) k (by omega)
    have e : lots (k + 1) (List.range' a (m + 1)) = (lots k (List.range' (a + 1) m)).map (a :: ·) ++ lots (k + 1) (List.range' (a + 1) m) := by
      rw [List.range'_succ]
      rfl
    rw [e]
    have hn : a + (m + 1) = a + 1 + m := by omega
    rw [hn]
    have hl := lots_len k (List.range' (a + 1) m)
    have key : ∀ (L : List (List Nat)) (o : Option (List Nat)), (∀ l ∈ L, l.length = k) → Lk (cNext (a + 1 + m)) L none → (o = if a ≠ a + 1 + m - (k + 1) then some ((List.range (k + 1)).map (a + 1 + ·)) else none) → Lk (cNext (a + 1 + m)) (L.map (a :: ·)) o := by
      intro L o hL hk ho
      induction L with
      | nil => trivial
      | cons l L ih =>
        obtain ⟨k1, k2⟩ := hk
        refine ⟨?_, ih (fun l hl => hL l (List.mem_cons_of_mem _ hl)) k2⟩
        rw [cNext_cons, k1, hL l (List.mem_cons_self ..), ho]
        cases L with
        | nil => simp
        | cons l' L => simp
    have hd : ((lots k (List.range' (a + 1) m)).map (a :: ·) ++ lots (k + 1) (List.range' (a + 1) m)).head? = some (List.range' a (k + 1)) := by
      have : ((lots k (List.range' (a + 1) m)).map (a :: ·)).head? = some (List.range' a (k + 1)) := by
        rw [List.head?_map, h2]
        show some (a :: List.range' (a + 1) k) = _
        rw [List.range'_succ]
      rw [List.head?_append, this]
      rfl
    refine ⟨?_, hd⟩
    by_cases hk : k + 1 ≤ m
    · obtain ⟨g1, g2⟩ := combs_run m (a + 1) (k + 1) hk
      refine Lk.app (key _ _ hl h1 ?_) g1
      rw [g2, if_pos (by omega)]
      rw [List.range_eq_range', List.map_add_range']
      rfl
    · have e0 : lots (k + 1) (List.range' (a + 1) m) = [] := lots_short _ _ (by rw [List.length_range']; omega)
      rw [e0, List.append_nil]
      refine key _ _ hl h1 ?_
      rw [if_neg (by omega)]
end PL
end S_PLN

section S_PLN2
namespace CMB
open PySem PySem.Spec PyProof.Rows L2
/-! ### combinations: what stands in the tables -/
abbrev cT : String := "itertools.combinations"
theorem c_slot_next : Slot cT "__next__" "itertools.combinations.__next__" :=
  .of (owner := cT) (n := "__next__") (by rw [typeLookup_type, builtinLookup_eq_fast]; kernel_rfl) (by decide +kernel) (by decide +kernel) (by decide +kernel)
    (by first | exact .inl (by decide +kernel) | exact .inr (by decide +kernel)) (by rw [isSubtype_type]; kernel_rfl)
theorem c_entry_next : entryFor table "itertools.combinations.__next__" = some Builtin.«itertools.combinations.__next__» := entryFor_of_fast (by kernel_rfl)
theorem c_args_next (a : Value) : argsOk "itertools.combinations.__next__" ⟨[a], []⟩ := by unfold argsOk; kernel_rfl
theorem c_slot_iter : Slot cT "__iter__" "itertools.combinations.__iter__" :=
  .of (owner := cT) (n := "__iter__") (by rw [typeLookup_type, builtinLookup_eq_fast]; kernel_rfl) (by decide +kernel) (by decide +kernel) (by decide +kernel)
    (by first | exact .inl (by decide +kernel) | exact .inr (by decide +kernel)) (by rw [isSubtype_type]; kernel_rfl)
theorem c_entry_iter : entryFor table "itertools.combinations.__iter__" = some Builtin.«dict_keyiterator.__iter__» :=
  entryFor_alias (id' := "dict_keyiterator.__iter__") (by kernel_rfl) (by first | rfl | decide +kernel | (unfold String.splitOn; simp +decide [String.splitOnAux])) (by decide +kernel) (by kernel_rfl)
theorem c_args_iter (a : Value) : argsOk "itertools.combinations.__iter__" ⟨[a], []⟩ := by unfold argsOk; kernel_rfl
theorem c_mro : mroOf (.type cT) = pure [.type cT, .type "object"] := by rw [mroOf_type]; kernel_rfl
theorem c_lookup_new : typeLookup (.type cT) "__new__" = pure (some (.builtin "itertools.combinations.__new__")) := by rw [typeLookup_type, builtinLookup_eq_fast]; kernel_rfl
theorem c_slot_init : Slot cT "__init__" "object.__init__" :=
  .of (owner := "object") (n := "__init__") (by rw [typeLookup_type, builtinLookup_eq_fast]; kernel_rfl) (by decide +kernel) (by decide +kernel) (by decide +kernel)
    (by first | exact .inl (by decide +kernel) | exact .inr (by decide +kernel)) (by rw [isSubtype_type]; kernel_rfl)
theorem c_called : TypeCalled cT "itertools.combinations.__new__" "object.__init__" :=
  ⟨by decide +kernel, by decide +kernel, ⟨_, _, c_mro⟩, madeBy_type c_mro c_lookup_new (by decide +kernel), by decide +kernel, by rw [isSubtype_type]; kernel_rfl, c_slot_init⟩
theorem c_typeCall (a b : Value) : checkTypeCall cT ⟨[a, b], []⟩ = pure () := by kernel_rfl
theorem c_newCall (a b : Value) : checkBuiltinCall "itertools.combinations.__new__" ⟨[.type cT, a, b], []⟩ = pure () := by kernel_rfl
theorem c_entry_new : entryFor table "itertools.combinations.__new__" = some Builtin.«itertools.combinations.__new__» := entryFor_of_tree (by kernel_rfl)
theorem c_sub : isSubtype (.type cT) (.type cT) = pure true := by rw [isSubtype_type]; kernel_rfl
end CMB
end S_PLN2

section S_PLN3
namespace CMB
open PySem PySem.Spec PyProof.Rows L2
/-! ### the object -/
abbrev nums (l : List Nat) : Array Value := (l.map fun (n : Nat) => rawInt n).toArray
abbrev IsC (h : Heap) (z p : Addr) (st : Int) (last : Value) (l : List Nat) : Prop :=
  h.get? z = some { cls := .type cT, dict := none, data := .fields (#[.ref p, rawInt st, last] ++ nums l), slots := #[] }
section
variable {prog : Program} {w : World} {A : Around} {E : Value → Shared → Prop} {s : Shared}
theorem nums_get {p : Addr} {st : Int} {last : Value} {l : List Nat} : (#[.ref p, rawInt st, last] ++ nums l)[0]? = some (.ref p) ∧ (#[.ref p, rawInt st, last] ++ nums l)[1]? = some (rawInt st) ∧ (#[.ref p, rawInt st, last] ++ nums l)[2]? = some last := by
  refine ⟨?_, ?_, ?_⟩ <;> simp [Array.getElem?_append]
theorem nums_of {g : Value → Nat} (hg : ∀ n : Nat, g (rawInt n) = n) {l : List Nat} {a b c : Value} : ((#[a, b, c] ++ nums l).toList.drop 3).map g = l := by
  simp
  induction l with
  | nil => rfl
  | cons x l ih => simp [hg] at ih ⊢; exact ih
theorem rawInt_nat (n : Nat) : (match rawInt (n : Int) with | .int k _ => k.toNat | _ => 0) = n := Int.toNat_natCast n
theorem wp_nums {z p : Addr} {st : Int} {last : Value} {l : List Nat} {Q : List Nat → Shared → Prop} (hz : IsC s.heap z p st last l) (h : Q l s) : wpAny (model prog w) A (Builtin.Itertools.itNumbersFrom (.ref z) 3) Q E s := by
  unfold Builtin.Itertools.itNumbersFrom
  refine wpAny_bind (wpAny_load hz ?_)
  refine wpAny_pure ?_
  rw [nums_of fun n => Int.toNat_natCast n]
  exact h
theorem wp_int {z p : Addr} {st : Int} {last : Value} {l : List Nat} {Q : Int → Shared → Prop} (hz : IsC s.heap z p st last l) (h : Q st s) : wpAny (model prog w) A (Builtin.Itertools.itIntField (.ref z) 1) Q E s := by
  unfold Builtin.Itertools.itIntField
  refine wpAny_bind (wpAny_field hz rfl nums_get.2.1 ?_)
  exact wpAny_pure h
theorem wp_pool {p : Addr} {its : Array Value} {Q : Array Value → Shared → Prop} (hp : s.heap.IsTuple p its) (h : Q its s) : wpAny (model prog w) A (Builtin.Itertools.itPoolItems (.ref p)) Q E s := by
  obtain ⟨o, ho, _, n, hd⟩ := hp
  unfold Builtin.Itertools.itPoolItems
  refine wpAny_bind (wpAny_seqItems ho hd ?_)
  exact wpAny_pure h
theorem fields_set1 {a b c x : Value} {l : List Nat} : (#[a, b, c] ++ nums l).setIfInBounds 1 x = #[a, x, c] ++ nums l := by
  apply Array.toList_inj.mp
  simp
theorem fields_set2 {a b c x : Value} {l : List Nat} : (#[a, b, c] ++ nums l).setIfInBounds 2 x = #[a, b, x] ++ nums l := by
  apply Array.toList_inj.mp
  simp
/-- the tuple that is handed out -/
abbrev lotV (its : Array Value) (l : List Nat) : List Value := l.map fun i => its.getD i .none
theorem next_first {z p : Addr} {l : List Nat} {its : Array Value} {Q : Value → Shared → Prop} {last : Value} (hz : IsC s.heap z p 0 last l) (hp : s.heap.IsTuple p its) (hl : l.length ≤ sizeLine)
    (hQ : ∀ h', IsC h' z p 1 (.ref s.heap.objs.size) l → h'.get? s.heap.objs.size = some { cls := .type "tuple", data := .seq (lotV its l).toArray } → (∀ c o, c ≠ z → s.heap.get? c = some o → h'.get? c = some o) → Q (.ref s.heap.objs.size) { s with heap := h' }) :
    wpAny (model prog w) A (Builtin.«itertools.combinations.__next__» ⟨[.ref z], []⟩) (fun fin s' => ∃ v, fin = .done (.ret v) ∧ Q v s') E s := by
  show wpAny _ _ (field (.ref z) 0 >>= _) _ _ _
  refine wpAny_bind (wpAny_field hz rfl nums_get.1 ?_)
  show wpAny _ _ (Builtin.Itertools.itNumbersFrom (.ref z) 3 >>= _) _ _ _
  refine wpAny_bind (wp_nums hz ?_)
  show wpAny _ _ (Builtin.Itertools.itIntField (.ref z) 1 >>= _) _ _ _
  refine wpAny_bind (wp_int hz ?_)
  show wpAny _ _ (setField (.ref z) 1 (rawInt 1) >>= _) _ _ _
  refine wpAny_bind (wpAny_setField_rec hz (by simp) fun h₁ hz₁ hs₁ => ?_)
  rw [fields_set1] at hz₁
  have hp₁ : h₁.IsTuple p its := hp.extBut hs₁.extBut (by
    rintro rfl
    obtain ⟨o, ho, hc, _⟩ := hp
    rw [hz] at ho
    cases ho
    exact absurd (Value.type.inj hc) (by decide))
  show wpAny _ _ (_ >>= _) _ _ _
  refine wpAny_bind ?_
  show wpAny _ _ (Builtin.Itertools.itPoolItems (.ref p) >>= _) _ _ _
  refine wpAny_bind (wp_pool hp₁ ?_)
  show wpAny _ _ (newTuple (lotV its l)) _ _ _
  refine wpAny_newTuple ?_ (by rw [List.length_map]; exact hl)
  have hzl : z < h₁.objs.size := Heap.lt_size hz₁
  have hsz : h₁.objs.size = s.heap.objs.size := hs₁.1
  have hz₂ : IsC (h₁.push { cls := .type "tuple", data := .seq (lotV its l).toArray }) z p 1 last l := Heap.get?_push_of_some _ hz₁
  show wpAny _ _ (field (.ref z) 2 >>= _) _ _ _
  refine wpAny_bind (wpAny_field hz₂ rfl nums_get.2.2 ?_)
  show wpAny _ _ (setField (.ref z) 2 (.ref h₁.objs.size) >>= _) _ _ _
  refine wpAny_bind (wpAny_setField_rec hz₂ (by simp) fun h₃ hz₃ hs₃ => ?_)
  rw [fields_set2] at hz₃
  refine wpAny_bind (wpAny_letGo ?_)
  refine wpAny_pure ⟨_, rfl, ?_⟩
  rw [hsz] at hz₃ ⊢
  refine hQ _ hz₃ ?_ fun c o hc e => ?_
  · rw [← hsz]
    exact hs₃.extBut _ _ (Nat.ne_of_gt hzl) (Heap.get?_push_size _ rfl)
  · exact hs₃.extBut _ _ hc (Heap.get?_push_of_some _ (hs₁.extBut _ _ hc e))
theorem fields_from {a b c : Value} {l l' : List Nat} : (#[a, b, c] ++ nums l).extract 0 3 ++ nums l' = #[a, b, c] ++ nums l' := by
  apply Array.toList_inj.mp
  simp
theorem next_item {z p : Addr} {l l' : List Nat} {its : Array Value} {Q : Value → Shared → Prop} {last : Value} (hz : IsC s.heap z p 1 last l) (hp : s.heap.IsTuple p its) (hn : PL.cNext its.size l = some l') (hl : l'.length ≤ 1048576)
    (hQ : ∀ h', IsC h' z p 1 (.ref s.heap.objs.size) l' → h'.get? s.heap.objs.size = some { cls := .type "tuple", data := .seq (lotV its l').toArray } → (∀ c o, c ≠ z → s.heap.get? c = some o → h'.get? c = some o) → Q (.ref s.heap.objs.size) { s with heap := h' }) :
    wpAny (model prog w) A (Builtin.«itertools.combinations.__next__» ⟨[.ref z], []⟩) (fun fin s' => ∃ v, fin = .done (.ret v) ∧ Q v s') E s := by
  show wpAny _ _ (field (.ref z) 0 >>= _) _ _ _
  refine wpAny_bind (wpAny_field hz rfl nums_get.1 ?_)
  show wpAny _ _ (Builtin.Itertools.itNumbersFrom (.ref z) 3 >>= _) _ _ _
  refine wpAny_bind (wp_nums hz ?_)
  show wpAny _ _ (Builtin.Itertools.itIntField (.ref z) 1 >>= _) _ _ _
  refine wpAny_bind (wp_int hz ?_)
  show wpAny _ _ (Builtin.Itertools.itPoolItems (.ref p) >>= _) _ _ _
  refine wpAny_bind (wp_pool hp ?_)
  split
  · rename_i nx h
    have h2 : PL.cNext its.size l = some nx := by
      refine Eq.trans ?_ h
      kernel_rfl
    rw [hn] at h2
    cases h2
    show wpAny _ _ (Builtin.Itertools.itSetNumbersFrom (.ref z) 3 l' >>= _) _ _ _
    refine wpAny_bind ?_
    unfold Builtin.Itertools.itSetNumbersFrom
    refine wpAny_updateFields hz rfl ?_ (by simp [sizeLine_eq]; omega)
    have hz₁ : IsC (s.heap.update z (Obj.mapFields fun fs => fs.extract 0 3 ++ (List.map (fun (n : Nat) => rawInt n) l').toArray)) z p 1 last l' := by
      refine (Heap.get?_update_self _ hz rfl).trans ?_
      show some ({ cls := .type cT, dict := none, data := Data.fields ((#[.ref p, rawInt 1, last] ++ nums l).extract 0 3 ++ nums l'), slots := #[] } : Obj) = _
      rw [fields_from]
    have hs₁ : Heap.SameBut z s.heap (s.heap.update z (Obj.mapFields fun fs => fs.extract 0 3 ++ (List.map (fun (n : Nat) => rawInt n) l').toArray)) := Heap.SameBut.update ..
    generalize s.heap.update z (Obj.mapFields fun fs => fs.extract 0 3 ++ (List.map (fun (n : Nat) => rawInt n) l').toArray) = h₁ at hz₁ hs₁ ⊢
    have hp₁ : h₁.IsTuple p its := hp.extBut hs₁.extBut (by
      rintro rfl
      obtain ⟨o, ho, hc, _⟩ := hp
      rw [hz] at ho
      cases ho
      exact absurd (Value.type.inj hc) (by decide))
    show wpAny _ _ (_ >>= _) _ _ _
    refine wpAny_bind ?_
    show wpAny _ _ (Builtin.Itertools.itPoolItems (.ref p) >>= _) _ _ _
    refine wpAny_bind (wp_pool hp₁ ?_)
    show wpAny _ _ (newTuple (lotV its l')) _ _ _
    refine wpAny_newTuple ?_ (by rw [List.length_map, sizeLine_eq]; omega)
    have hzl : z < h₁.objs.size := Heap.lt_size hz₁
    have hsz : h₁.objs.size = s.heap.objs.size := hs₁.1
    have hz₂ : IsC (h₁.push { cls := .type "tuple", data := .seq (lotV its l').toArray }) z p 1 last l' := Heap.get?_push_of_some _ hz₁
    show wpAny _ _ (field (.ref z) 2 >>= _) _ _ _
    refine wpAny_bind (wpAny_field hz₂ rfl nums_get.2.2 ?_)
    show wpAny _ _ (setField (.ref z) 2 (.ref h₁.objs.size) >>= _) _ _ _
    refine wpAny_bind (wpAny_setField_rec hz₂ (by simp) fun h₃ hz₃ hs₃ => ?_)
    rw [fields_set2] at hz₃
    refine wpAny_bind (wpAny_letGo ?_)
    refine wpAny_pure ⟨_, rfl, ?_⟩
    rw [hsz] at hz₃ ⊢
    refine hQ _ hz₃ ?_ fun c o hc e => ?_
    · rw [← hsz]
      exact hs₃.extBut _ _ (Nat.ne_of_gt hzl) (Heap.get?_push_size _ rfl)
    · exact hs₃.extBut _ _ hc (Heap.get?_push_of_some _ (hs₁.extBut _ _ hc e))
  · rename_i h
    have h2 : PL.cNext its.size l = none := by
      refine Eq.trans ?_ h
      kernel_rfl
    rw [hn] at h2
    cases h2
/-- no more of them: either none is left, or there never was one -/
theorem next_end {z p : Addr} {l : List Nat} {st : Int} {its : Array Value} {Q : Fin → Shared → Prop} {last : Value} (hh : A.handled = none) (hz : IsC s.heap z p st last l) (hp : s.heap.IsTuple p its) (hn : (st = 1 ∧ PL.cNext its.size l = none) ∨ st = 2)
    (hE : ∀ h' e, (∀ c o, c ≠ z → s.heap.get? c = some o → h'.get? c = some o) → (∃ o, h'.get? e = some o ∧ o.cls = .type "StopIteration") → E (.ref e) { s with heap := h' }) :
    wpAny (model prog w) A (Builtin.«itertools.combinations.__next__» ⟨[.ref z], []⟩) Q E s := by
  have stop : ∀ {β : Type} {s : Shared} {Q : β → Shared → Prop}, (∀ h' e, (∀ c o, s.heap.get? c = some o → h'.get? c = some o) → (∃ o, h'.get? e = some o ∧ o.cls = .type "StopIteration") → E (.ref e) { s with heap := h' }) →
      wpAny (model prog w) A (Builtin.Itertools.itStop (α := β)) Q E s := by
    intro β s Q hE
    unfold Builtin.Itertools.itStop
    refine wpAny_bind ?_
    simp only [newExc, newTuple]
    refine wpAny_bind (wpAny_newObj_type ?_ (by size_fits))
    refine wpAny_bind (m := firstArgMember _ _) (wpAny_of_eq (a := Value.none) (by first | rfl | (simp only [firstArgMember]; rfl)) ?_)
    refine wpAny_newObj_type ?_ (by size_fits)
    simp only [raiseNew]
    refine wpAny_bind (wpAny_handled ?_)
    rw [hh]
    refine wpAny_bind (wpAny_pure (wpAny_throw ?_))
    exact hE _ _ (fun c o e => Heap.get?_push_of_some _ (Heap.get?_push_of_some _ e)) ⟨_, Heap.get?_push_size _ rfl, rfl⟩
  show wpAny _ _ (field (.ref z) 0 >>= _) _ _ _
  refine wpAny_bind (wpAny_field hz rfl nums_get.1 ?_)
  show wpAny _ _ (Builtin.Itertools.itNumbersFrom (.ref z) 3 >>= _) _ _ _
  refine wpAny_bind (wp_nums hz ?_)
  show wpAny _ _ (Builtin.Itertools.itIntField (.ref z) 1 >>= _) _ _ _
  refine wpAny_bind (wp_int hz ?_)
  rcases hn with ⟨rfl, hn⟩ | rfl
  · show wpAny _ _ (Builtin.Itertools.itPoolItems (.ref p) >>= _) _ _ _
    refine wpAny_bind (wp_pool hp ?_)
    split
    · rename_i nx h
      have h2 : PL.cNext its.size l = some nx := by
        refine Eq.trans ?_ h
        kernel_rfl
      rw [hn] at h2
      cases h2
    · refine wpAny_bind (wpAny_setField_rec hz (by simp) fun h₁ hz₁ hs₁ => ?_)
      exact stop fun h' e k he => hE h' e (fun c o hc q => k c o (hs₁.extBut _ _ hc q)) he
  · show wpAny _ _ (_ >>= _) _ _ _
    refine wpAny_bind (wpAny_rule ?_)
    exact stop fun h' e k he => hE h' e (fun c o _ q => k c o q) he
end
end CMB
end S_PLN3

section S_PLN4
namespace CMB
open PySem PySem.Spec PyProof.Rows L2
section
variable {prog : Program} {w : World} {A : Around} {E : Value → Shared → Prop} {s : Shared}
theorem pyNext_first {z p : Addr} {l : List Nat} {its : Array Value} {Q : Option Value → Shared → Prop} {last : Value} (hz : IsC s.heap z p 0 last l) (hp : s.heap.IsTuple p its) (hl : l.length ≤ sizeLine)
    (hQ : ∀ h', IsC h' z p 1 (.ref s.heap.objs.size) l → h'.get? s.heap.objs.size = some { cls := .type "tuple", data := .seq (lotV its l).toArray } → (∀ c o, c ≠ z → s.heap.get? c = some o → h'.get? c = some o) → Q (some (.ref s.heap.objs.size)) { s with heap := h' }) :
    wpAny (model prog w) A (pyNext (.ref z)) Q E s := by
  have hT : s.TypeIs (.ref z) cT := ⟨_, hz, rfl⟩
  unfold pyNext
  exact wpAny_bind (wpAny_attempt (wpAny_callSpecial?_slot (name := Str.ofString "__next__") hT c_slot_next
    (wpAny_call_entry c_slot_next hT c_entry_next (next_first hz hp hl fun h' a1 a2 a3 => wpAny_pure (hQ h' a1 a2 a3)) (c_args_next _))))
theorem pyNext_item {z p : Addr} {l l' : List Nat} {its : Array Value} {Q : Option Value → Shared → Prop} {last : Value} (hz : IsC s.heap z p 1 last l) (hp : s.heap.IsTuple p its) (hn : PL.cNext its.size l = some l') (hl : l'.length ≤ 1048576)
    (hQ : ∀ h', IsC h' z p 1 (.ref s.heap.objs.size) l' → h'.get? s.heap.objs.size = some { cls := .type "tuple", data := .seq (lotV its l').toArray } → (∀ c o, c ≠ z → s.heap.get? c = some o → h'.get? c = some o) → Q (some (.ref s.heap.objs.size)) { s with heap := h' }) :
    wpAny (model prog w) A (pyNext (.ref z)) Q E s := by
  have hT : s.TypeIs (.ref z) cT := ⟨_, hz, rfl⟩
  unfold pyNext
  exact wpAny_bind (wpAny_attempt (wpAny_callSpecial?_slot (name := Str.ofString "__next__") hT c_slot_next
    (wpAny_call_entry c_slot_next hT c_entry_next (next_item hz hp hn hl fun h' a1 a2 a3 => wpAny_pure (hQ h' a1 a2 a3)) (c_args_next _))))
theorem pyNext_end {z p : Addr} {l : List Nat} {st : Int} {its : Array Value} {Q : Option Value → Shared → Prop} {last : Value} (hh : A.handled = none) (hz : IsC s.heap z p st last l) (hp : s.heap.IsTuple p its) (hn : (st = 1 ∧ PL.cNext its.size l = none) ∨ st = 2)
    (hQ : ∀ h', (∀ c o, c ≠ z → s.heap.get? c = some o → h'.get? c = some o) → Q none { s with heap := h' }) : wpAny (model prog w) A (pyNext (.ref z)) Q E s := by
  have hT : s.TypeIs (.ref z) cT := ⟨_, hz, rfl⟩
  unfold pyNext
  refine wpAny_bind (wpAny_attempt (wpAny_callSpecial?_slot (name := Str.ofString "__next__") hT c_slot_next
    (wpAny_call_entry c_slot_next hT c_entry_next (next_end hh hz hp hn fun h' e hk he => ?_) (c_args_next _))))
  obtain ⟨o, ho, hc⟩ := he
  refine wpAny_bind (wpAny_isInstance (T := "StopIteration") (b := true) ⟨o, ho, hc⟩ isSubtype_stop ?_)
  exact wpAny_pure (hQ _ hk)
theorem pyIter_comb {z p : Addr} {l : List Nat} {st : Int} {last : Value} {Q : Value → Shared → Prop} (hz : IsC s.heap z p st last l) (h : Q (.ref z) s) : wpAny (model prog w) A (pyIter (.ref z)) Q E s := by
  have hT : s.TypeIs (.ref z) cT := ⟨_, hz, rfl⟩
  refine wpAny_pyIter_slot hT c_slot_iter (wpAny_call_entry c_slot_iter hT c_entry_iter ?_ (c_args_iter _))
  show wpAny _ _ (ret (.ref z)) _ _ s
  exact wpAny_pure ⟨_, rfl, cT, _, hT, c_slot_next.lookup, h⟩
/-- the heap with the items taken, the pool, the object -/
abbrev cH1 (h : Heap) (vs : List Value) : Heap := (h.push (seqObj "list" #[] 0)).update h.objs.size (Obj.mapSeq (· ++ vs.toArray))
abbrev cH2 (h : Heap) (vs : List Value) : Heap := (cH1 h vs).push { cls := .type "tuple", data := .seq vs.toArray }
abbrev cH3 (h : Heap) (vs : List Value) (r : Nat) : Heap := (cH2 h vs).push { cls := .type cT, dict := none, data := .fields (#[.ref (cH1 h vs).objs.size, rawInt (if r > vs.length then 2 else 0), .none] ++ nums (List.range r)), slots := #[] }
theorem wp_class (a b : Value) {Q : Value × List Value → Shared → Prop} (h : Q (.type cT, [a, b]) s) : wpAny (model prog w) A (Builtin.Itertools.itClassAndRest "combinations" ⟨[.type cT, a, b], []⟩) Q E s := by
  have hsub := c_sub
  have e : "itertools." ++ "combinations" = cT := by decide
  unfold Builtin.Itertools.itClassAndRest
  obtain ⟨hp, g, d, tk, os⟩ := s
  dsimp only
  rw [e]
  wp_walk
  exact h
theorem bind_named (a b : Value) : Builtin.Itertools.itBindNamed "combinations" ["iterable", "r"] 2 2 [a, b] [] = pure [some a, some b] := by rfl
theorem wp_size {r : Nat} {t : Tok} {Q : Int → Shared → Prop} (hr : r ≤ 1048576) (h : Q (r : Int) s) : wpAny (model prog w) A (Builtin.Itertools.itSsizeArg (.int r t)) Q E s := by
  unfold Builtin.Itertools.itSsizeArg
  obtain ⟨hp, g, d, tk, os⟩ := s
  have e : (decide ((r : Int) < -(2 ^ 63 : Int)) || decide ((r : Int) ≥ 2 ^ 63)) = false := by simp; omega
  wp_walk
  rw [if_neg (by rw [e]; exact Bool.false_ne_true)]
  exact wpAny_pure h
def IsSeq (h : Heap) (l : Addr) (vs : List Value) : Prop := h.IsList l vs.toArray ∨ h.IsTuple l vs.toArray
theorem collect_tup {l : Addr} {vs : List Value} {Q : List Value → Shared → Prop} (hl : s.heap.IsTuple l vs.toArray) (hz : vs.length ≤ sizeLine) (h : Q vs { s with heap := cH1 s.heap vs }) : wpAny (model prog w) A (collect (.ref l)) Q E s := by
  obtain ⟨o, ho, hc, n, hd⟩ := hl
  have h1 : (s.heap.push (seqObj "list" #[] 0)).get? l = some o := Heap.get?_push_of_some _ ho
  have h2 : (s.heap.push (seqObj "list" #[] 0)).get? s.heap.objs.size = some (seqObj "list" #[] 0) := Heap.get?_push_size _ rfl
  have e0 : ((#[] : Array Value) ++ vs.toArray).toList = vs := by simp
  unfold collect
  refine wpAny_bind (wpAny_runValue (codeAny_builtin entry_proto_collect' ?_))
  show wpAny _ _ (newList [] >>= fun z => again (.builtin "list.__iadd__" ⟨[z, .ref l], []⟩)) _ _ s
  refine wpAny_bind (wpAny_newList (wpAny_pure ⟨Code.quiet_builtin _ (by decide +kernel), codeAny_builtin entry_list_iadd' ?_⟩))
  show wpAny _ _ (Builtin.List.listExtendWith (.ref s.heap.objs.size) (.ref l) (.ref s.heap.objs.size)) _ _ { s with heap := s.heap.push (seqObj "list" #[] 0) }
  unfold Builtin.List.listExtendWith
  refine wpAny_bind (wpAny_typeOf (T := "tuple") ⟨o, h1, hc⟩ ?_)
  rw [if_pos (by rw [show (Value.type "tuple" == Value.type "tuple") = true from rfl]; simp)]
  refine wpAny_bind (listItems_at h1 hd (wpAny_bind (listItems_at h2 rfl ?_)))
  rw [if_neg (by simp)]
  refine wpAny_bind (listUpdate_at h2 rfl ?_ (Nat.zero_le _) (by show (#[] ++ vs.toArray).size ≤ sizeLine + 1; simp only [Array.size_append, List.size_toArray, List.length_nil]; omega))
  refine wpAny_pure ?_
  show wpAny _ _ (load s.heap.objs.size >>= _) _ _ _
  refine wpAny_bind (wpAny_load (get?_update_seq h2 _) ?_)
  show wpAny _ _ (pure ((#[] : Array Value) ++ vs.toArray).toList) Q E _
  rw [e0]
  exact wpAny_pure h
theorem collect_seq {l : Addr} {vs : List Value} {Q : List Value → Shared → Prop} (hl : IsSeq s.heap l vs) (hz : vs.length ≤ sizeLine) (h : Q vs { s with heap := cH1 s.heap vs }) : wpAny (model prog w) A (collect (.ref l)) Q E s := by
  rcases hl with hl | hl
  · exact collect_list hl h hz
  · exact collect_tup hl hz h
theorem meets_new (l : Addr) (vs : List Value) (r : Nat) (t : Tok) :
    Meets (Builtin.«itertools.combinations.__new__» ⟨[.type cT, .ref l, .int r t], []⟩) (fun _ R s => IsSeq s.heap l vs ∧ vs.length ≤ sizeLine ∧ r ≤ 1048576 ∧
      R (.ok (.ret (.ref (cH2 s.heap vs).objs.size))) { s with heap := cH3 s.heap vs r }) :=
  .of_wp fun prog w A R s h => by
    obtain ⟨hl, hz, hr, h⟩ := h
    show wpAny _ _ (_ >>= _) _ _ _
    refine wpAny_bind ?_
    show wpAny _ _ (Builtin.Itertools.itClassAndRest "combinations" _ >>= _) _ _ _
    refine wpAny_bind (wp_class _ _ ?_)
    dsimp only
    rw [bind_named]
    refine wpAny_bind (wpAny_pure ?_)
    dsimp only
    refine wpAny_bind (wp_size hr ?_)
    refine wpAny_bind (collect_seq hl hz ?_)
    have e1 : Builtin.Itertools.itTooMany (r : Int) = false := by
      unfold Builtin.Itertools.itTooMany
      simp
      omega
    have e2 : ¬ ((r : Int) < 0) := by omega
    rw [if_neg e2, e1]
    simp only [Bool.false_eq_true, if_false]
    refine wpAny_bind (wpAny_newTuple ?_ hz)
    refine wpAny_pure ?_
    dsimp only
    refine wpAny_bind ?_
    show wpAny _ _ (newObj (.type cT) (.fields _)) _ _ _
    refine wpAny_newObj_type ?_ ?_
    · refine wpAny_pure ⟨_, rfl, ?_⟩
      rw [Int.toNat_natCast]
      have e3 : ([Value.ref (cH1 s.heap vs).objs.size, rawInt (if r > vs.length then 2 else 0), Value.none] ++ (List.range r).map fun (i : Nat) => rawInt i).toArray = #[.ref (cH1 s.heap vs).objs.size, rawInt (if r > vs.length then 2 else 0), .none] ++ nums (List.range r) := by
        apply Array.toList_inj.mp
        simp
      show R _ { s with heap := (cH2 s.heap vs).push { cls := Value.type cT, data := Data.fields ([Value.ref (cH1 s.heap vs).objs.size, rawInt (if r > vs.length then 2 else 0), Value.none] ++ (List.range r).map fun (i : Nat) => rawInt i).toArray } }
      rw [e3]
      exact h
    · show _ ≤ sizeLine + 2
      rw [Int.toNat_natCast, List.size_toArray, List.length_append, List.length_map, List.length_range, sizeLine_eq]
      simp
      omega
/-- combinations(l, r): the object, its pool, new -/
theorem call_comb {l : Addr} {vs : List Value} {r : Nat} {t : Tok} {Q : Value → Shared → Prop} (hl : IsSeq s.heap l vs) (hz : vs.length ≤ sizeLine) (hr : r ≤ 1048576)
    (h : ∀ h' p z, IsC h' z p (if r > vs.length then 2 else 0) .none (List.range r) → h'.IsTuple p vs.toArray → s.heap.objs.size ≤ p → s.heap.objs.size ≤ z → (∀ c o, s.heap.get? c = some o → h'.get? c = some o) → Q (.ref z) { s with heap := h' }) :
    wpAny (model prog w) A (call (.type cT) [.ref l, .int r t]) Q E s := by
  refine callType_new c_called (by decide) (c_typeCall _ _) (c_newCall _ _) (fun obj => F.args_object_init_3 obj _ _) c_entry_new (meets_new l vs r t) ⟨hl, hz, hr, ?_⟩
  have z1 : (cH1 s.heap vs).objs.size = s.heap.objs.size + 1 := by rw [Heap.size_update, size_push']
  have z2 : (cH2 s.heap vs).objs.size = s.heap.objs.size + 2 := by rw [size_push', z1]
  have g3 : (cH3 s.heap vs r).get? (cH2 s.heap vs).objs.size = some _ := Heap.get?_push_size _ rfl
  have g2 : (cH3 s.heap vs r).get? (cH1 s.heap vs).objs.size = some _ := Heap.get?_push_of_some _ (Heap.get?_push_size _ rfl)
  have keep : ∀ c o, s.heap.get? c = some o → (cH3 s.heap vs r).get? c = some o := fun c o e => by
    have hlt : c < s.heap.objs.size := Heap.lt_size e
    refine Heap.get?_push_of_some _ (Heap.get?_push_of_some _ ?_)
    rw [Heap.get?_update_ne _ _ _ _ (Nat.ne_of_lt hlt)]
    exact Heap.get?_push_of_some _ e
  show _ ∧ _
  exact ⟨⟨_, g3, rfl⟩, h _ _ _ g3 ⟨_, g2, rfl, _, rfl⟩ (by rw [z1]; omega) (by rw [z2]; omega) keep⟩
end
end CMB
end S_PLN4

section S_PLN5
namespace CMB
open PySem PySem.Spec PyProof.Rows L2
/-! ### combinations as a thing to walk -/
def Itn (xs : List V) (r : Nat) : It :=
  ⟨fun i _ => i < (PL.lots r xs).length, fun i H v H' => ∃ T c, v = .ref T ∧ H T = none ∧ H' = upd H T (.tup c) ∧ (PL.lots r xs)[i]? = some c, fun i _ => (PL.lots r xs).length ≤ i⟩
def Stt (its : Array Value) (r : Nat) (z p : Addr) (i : Nat) (h : Heap) : Prop :=
  h.IsTuple p its ∧ ∃ st last l, IsC h z p st last l ∧ ((r ≤ its.size ∧ ((i = 0 ∧ st = 0 ∧ l = List.range' 0 r) ∨ ∃ j, i = j + 1 ∧ st = 1 ∧ (PL.lots r (List.range' 0 its.size))[j]? = some l)) ∨ (its.size < r ∧ st = 2))
abbrev at_ (xs : List V) (k : Nat) : V := xs.getD k .non
theorem map_at : ∀ (xs : List V) (n : Nat), n = xs.length → (List.range' 0 n).map (at_ xs) = xs := fun xs n e => by
  subst e
  refine List.ext_getElem? fun i => ?_
  rw [List.getElem?_map]
  by_cases hi : i < xs.length
  · rw [List.getElem?_range' hi]
    simp [at_, hi]
  · rw [List.getElem?_eq_none (by rw [List.length_range']; omega), List.getElem?_eq_none (by omega)]
    rfl
theorem lots_at {xs : List V} {r i : Nat} : (PL.lots r xs)[i]? = ((PL.lots r (List.range' 0 xs.length))[i]?).map (List.map (at_ xs)) := by
  have e := PL.lots_map (at_ xs) r (List.range' 0 xs.length)
  rw [map_at xs _ rfl] at e
  rw [e, List.getElem?_map]
theorem lots_size {xs : List V} {r : Nat} : (PL.lots r xs).length = (PL.lots r (List.range' 0 xs.length)).length := by
  have e := PL.lots_map (at_ xs) r (List.range' 0 xs.length)
  rw [map_at xs _ rfl] at e
  rw [e, List.length_map]
theorem vals_at {xs : List V} {its : Array Value} (rv : Vals xs its.toList) : ∀ {l : List Nat}, (∀ k ∈ l, k < its.size) → Vals (l.map (at_ xs)) (lotV its l)
  | [], _ => .nil
  | k :: l, h => by
    have hk : k < its.size := h k (List.mem_cons_self ..)
    have hl : xs.length = its.size := by rw [rv.length, Array.length_toList]
    have hk2 : k < xs.length := by omega
    obtain ⟨u, hu, ru⟩ := rv.get (i := k) (x := xs[k]) (List.getElem?_eq_getElem hk2)
    refine .cons ?_ (vals_at rv fun j hj => h j (List.mem_cons_of_mem _ hj))
    have e1 : at_ xs k = xs[k] := by
      show xs.getD k .non = _
      rw [List.getD_eq_getElem?_getD, List.getElem?_eq_getElem hk2]
      rfl
    have e2 : its.getD k .none = u := by
      have : its[k]? = some u := by simpa using hu
      simp [Array.getD_eq_getD_getElem?, this]
    show RelV (at_ xs k) (its.getD k .none)
    rw [e1, e2]
    exact ru
theorem turn_comb {P : Program} {w : World} {K : PySem.W.Frag} {tg : Expr} {xs : List V} {r : Nat} {z p : Addr} {its : Array Value} (rv : Vals xs its.toList) (hr : r ≤ 1048576) :
    Turn P w K tg (Itn xs r) [z, p] z (Stt its r z p) where
  mem := by simp
  obj := fun i h st c hc => by
    obtain ⟨⟨o, ho, _, n, hd⟩, s, last, l, hz, _⟩ := st
    have e' : c = z ∨ c = p := by simpa using hc
    rcases e' with q | q
    · rw [q]; exact ⟨_, hz, fun v q => nomatch q⟩
    · rw [q]; exact ⟨o, ho, fun v q => by rw [hd] at q; cases q⟩
  keep := fun i h h' st k => by
    obtain ⟨⟨o, ho, r'⟩, s, last, l, hz, q⟩ := st
    exact ⟨⟨o, k p (by simp) _ ho, r'⟩, s, last, l, k z (by simp) _ hz, q⟩
  item := by
    intro X hP hw hK hc i pins s σ H E I hf st hg
    subst hP hw hK
    have hn : xs.length = its.size := by rw [rv.length, Array.length_toList]
    obtain ⟨hp, s0, last, l, hz, q⟩ := st
    have hg' : i < (PL.lots r (List.range' 0 its.size)).length := by
      have := lots_size (xs := xs) (r := r)
      rw [hn] at this
      rw [← this]
      exact hg
    have hzl : z < s.heap.objs.size := Heap.lt_size hz
    have hpl : p < s.heap.objs.size := by obtain ⟨o, ho, _⟩ := hp; exact Heap.lt_size ho
    have hzp : p ≠ z := by
      rintro rfl
      obtain ⟨o, ho, hc, _⟩ := hp
      rw [hz] at ho
      cases ho
      exact absurd (Value.type.inj hc) (by decide)
    -- what is common to both
    have fin : ∀ (l' : List Nat), (PL.lots r (List.range' 0 its.size))[i]? = some l' → r ≤ its.size → ∀ h', IsC h' z p 1 (.ref s.heap.objs.size) l' → h'.get? s.heap.objs.size = some { cls := .type "tuple", data := .seq (lotV its l').toArray } → (∀ c o, c ≠ z → s.heap.get? c = some o → h'.get? c = some o) →
        wpAny (model X.prog X.w) X.A (letOwnedTupleGo tg (.ref z) (.ref s.heap.objs.size)) (fun _ s2 => ∃ x H', Inv X pins σ H' s2 ∧ RelV x (.ref s.heap.objs.size) ∧ (Itn xs r).yld i H x H' ∧ Stt its r z p (i + 1) s2.heap ∧ ∀ b ∈ [z, p], H' b = none) E { s with heap := h' } := by
      intro l' hl' hrn h' a1 a2 a3
      refine go_of (s := { s with heap := h' }) a1 rfl rfl (by decide +kernel) ?_
      have hm : l' ∈ PL.lots r (List.range' 0 its.size) := List.mem_of_getElem? hl'
      have hlt : ∀ k ∈ l', k < its.size := fun k hk => by
        have := (PL.lots_sub _ _ _ hm).subset hk
        simp at this
        omega
      have hv := vals_at rv hlt
      have hlen := PL.lots_len _ _ _ hm
      have new : ObjOk X.prog X.w (upd H s.heap.objs.size (.tup (l'.map (at_ xs)))) h' s.heap.objs.size (.tup (l'.map (at_ xs))) :=
        ⟨by rw [List.length_map, hlen, sizeLine_eq]; omega, lotV its l', hv, ⟨_, a2, rfl, _, rfl⟩⟩
      have I1 : Inv X pins σ (upd H s.heap.objs.size (.tup (l'.map (at_ xs)))) { s with heap := h' } :=
        I.turnedNew (t' := s.toks) (ch := [z, p]) (fun c o hb q => a3 c o (fun q' => hb (by simp [q'])) q) hf (Nat.le_refl _) new
      refine ⟨.ref s.heap.objs.size, _, I1, rfl, ⟨_, _, rfl, I.hok.fresh (Nat.le_refl _), rfl, ?_⟩, ⟨?_, 1, _, l', a1, .inl ⟨hrn, .inr ⟨i, rfl, rfl, hl'⟩⟩⟩, fun c hcm => ?_⟩
      · rw [lots_at, hn, hl']
        rfl
      · obtain ⟨o, ho, r'⟩ := hp
        exact ⟨o, a3 p o hzp ho, r'⟩
      · have hlt : c < s.heap.objs.size := by
          have e' : c = z ∨ c = p := by simpa using hcm
          rcases e' with q | q
          · rw [q]; exact hzl
          · rw [q]; exact hpl
        rw [upd_ne (Nat.ne_of_lt hlt)]
        exact (hf c hcm).1
    rcases q with ⟨hrn, ⟨rfl, rfl, rfl⟩ | ⟨j, rfl, rfl, hj⟩⟩ | ⟨hrn, rfl⟩
    · have h0 : (PL.lots r (List.range' 0 its.size))[0]? = some (List.range' 0 r) := by
        rw [← List.head?_eq_getElem?]
        exact (PL.combs_run its.size 0 r hrn).2
      exact pyNext_first hz hp (by rw [List.length_range', sizeLine_eq]; omega) fun h' a1 a2 a3 => ⟨_, rfl, fin _ h0 hrn h' a1 a2 a3⟩
    · have hk := (PL.combs_run its.size 0 r hrn).1.at hj
      rw [Nat.zero_add, List.getElem?_eq_getElem hg'] at hk
      have hm : (PL.lots r (List.range' 0 its.size))[j + 1] ∈ PL.lots r (List.range' 0 its.size) := List.getElem_mem hg'
      exact pyNext_item hz hp hk (by rw [PL.lots_len _ _ _ hm]; exact hr) fun h' a1 a2 a3 => ⟨_, rfl, fin _ (List.getElem?_eq_getElem hg') hrn h' a1 a2 a3⟩
    · rw [PL.lots_short _ _ (by rw [List.length_range']; exact hrn)] at hg'
      exact absurd hg' (Nat.not_lt_zero _)
  done := by
    intro X hP hw hK hc i pins s σ H E I hf st hg
    subst hP hw hK
    have hn : xs.length = its.size := by rw [rv.length, Array.length_toList]
    obtain ⟨hp, s0, last, l, hz, q⟩ := st
    have hg' : (PL.lots r (List.range' 0 its.size)).length ≤ i := by
      have := lots_size (xs := xs) (r := r)
      rw [hn] at this
      rw [← this]
      exact hg
    have hend : (s0 = 1 ∧ PL.cNext its.size l = none) ∨ s0 = 2 := by
      rcases q with ⟨hrn, ⟨rfl, rfl, rfl⟩ | ⟨j, rfl, rfl, hj⟩⟩ | ⟨hrn, rfl⟩
      · have h0 := (PL.combs_run its.size 0 r hrn).2
        rw [List.eq_nil_of_length_eq_zero (Nat.le_zero.mp hg')] at h0
        cases h0
      · have hk := (PL.combs_run its.size 0 r hrn).1.at hj
        rw [Nat.zero_add, List.getElem?_eq_none hg'] at hk
        exact .inl ⟨rfl, hk⟩
      · exact .inr rfl
    exact pyNext_end (I.ok.hd hc) hz hp hend fun h' hk => ⟨rfl, I.turnedL (t' := s.toks) (ch := [z, p]) (fun c o hb q => hk c o (fun q' => hb (by simp [q'])) q) hf⟩
  self := fun A i s Q E st h => by
    obtain ⟨hp, s0, last, l, hz, q⟩ := st
    exact pyIter_comb hz h
end CMB
end S_PLN5

section S_PLN6
namespace CMB
open PySem PySem.Spec PyProof.Rows L2
section
variable {X : Cx} {tg e e2 : Expr} {ta : TA} {p pos : Pos} {x : PySem.Str}
def iComb (K : PySem.W.Frag) (ta : TA) : TI := fun σ H R => ta σ H fun vs H1 => ∃ (a : Addr) (xs : List V) (k : Int), vs = [.ref a, .int k] ∧ (SqL K H1 a xs ∨ SqT K H1 a xs) ∧ 0 ≤ k ∧ k ≤ 1048576 ∧ R (Itn xs k.toNat) H1
theorem pi_comb (hg : Gl X x) (hm : X.mg x = some (.type cT)) (ha : PA X [e, e2] ta) (hdb : (x == ("__debug__" : Str)) = false := by decide)
    (hs : starEach [e, e2] X.env = (false, eval e X.env) :: starEach [e2] X.env := by rfl) (hpl : (backTo pos (starEach [e2] X.env)).any (·.1) = false := by rfl) :
    PI X tg (.Call (.Name x p) [e, e2] [] pos) (iComb X.K ta) := by
  refine ⟨fun pins s σ H R I h => ?_⟩
  refine wpAny_Call_Name_kw (ld_glob I hg hm ?_ hdb)
  refine PyProof.Rows.callWith_type1 (thn (ha.run pos pins s σ H _ I h) fun us s1 ⟨vs, H1, I1, r1, q1⟩ => ?_) hs hpl
  obtain ⟨a, xs, k, ex, hq, k0, k1, q⟩ := q1
  subst ex
  cases r1 with
  | cons r rr =>
    cases rr with
    | cons r' rr =>
      cases rr
      cases r
      obtain ⟨t, rfl⟩ := r'
      obtain ⟨n, rfl⟩ := Int.eq_ofNat_of_zero_le k0
      obtain ⟨its, rv, p1, hz⟩ : ∃ its, Vals xs its ∧ IsSeq s1.heap a its ∧ xs.length ≤ sizeLine := by
        rcases hq with hq | hq
        · obtain ⟨its, rv, p1, hz⟩ := I1.list hq
          exact ⟨its, rv, .inl p1.isList, hz⟩
        · obtain ⟨its, rv, p1, hz⟩ := I1.tuple hq
          exact ⟨its, rv, .inr p1, hz⟩
      have hl := rv.length
      refine call_comb p1 (by rw [← hl]; exact hz) (by omega) fun h' p z hz' hp h1 h2 hk => ?_
      refine pyIter_comb (s := { s1 with heap := h' }) hz' ?_
      have I2 : Inv X pins σ H1 { s1 with heap := h' } := I1.kept (t' := s1.toks) hk
      refine ⟨z, [z, p], _, _, H1, rfl, I2, turn_comb (xs := xs) (r := n) (its := its.toArray) (p := p) rv (by omega), ⟨hp, _, _, _, hz', ?_⟩, fun c hc => ?_, q⟩
      · by_cases hn : n > its.length
        · rw [if_pos hn]
          exact .inr ⟨by simpa using hn, rfl⟩
        · rw [if_neg hn]
          exact .inl ⟨by simp; omega, .inl ⟨rfl, rfl, List.range_eq_range' ..⟩⟩
      · have e' : c = z ∨ c = p := by simpa using hc
        rcases e' with q | q
        · rw [q]; exact I1.fpOk h2 (I1.hok.fresh h2)
        · rw [q]; exact I1.fpOk h1 (I1.hok.fresh h1)
end
end CMB
namespace PL
open PySem PySem.Spec PyProof.Rows L2
section
variable {X : Cx} {T : Tx} {W : WX} {tg e e1 e2 : Expr} {p pos : Pos} {f g : Cm D} {fa : Cm (List D)} {x : PySem.Str}
theorem DqAll_pick {K : PySem.W.Frag} {F : Hp} : ∀ {vs : List V} {ds : List D}, DqAll K F vs ds → ∀ l : List Nat, (∀ k ∈ l, k < vs.length) → DqAll K F (l.map fun k => vs.getD k .non) (l.map fun k => ds.getD k .none)
  | vs, ds, h, [], _ => .nil
  | vs, ds, h, k :: l, hl => by
    have hk : k < vs.length := hl k (List.mem_cons_self ..)
    obtain ⟨d, e1, e2⟩ := DqAll_at h (List.getElem?_eq_getElem hk)
    refine .cons ?_ (DqAll_pick h l fun j hj => hl j (List.mem_cons_of_mem _ hj))
    have a1 : vs.getD k .non = vs[k] := by rw [List.getD_eq_getElem?_getD, List.getElem?_eq_getElem hk]; rfl
    have a2 : ds.getD k .none = d := by rw [List.getD_eq_getElem?_getD, e1]; rfl
    show Dq K F (vs.getD k .non) (ds.getD k .none)
    rw [a1, a2]
    exact e2
theorem lots_pick {α : Type} (a : α) (r : Nat) (xs : List α) : lots r xs = (lots r (List.range' 0 xs.length)).map fun l => l.map fun k => xs.getD k a := by
  have e : (List.range' 0 xs.length).map (fun k => xs.getD k a) = xs := by
    refine List.ext_getElem? fun i => ?_
    rw [List.getElem?_map]
    by_cases hi : i < xs.length
    · rw [List.getElem?_range' hi]
      simp [hi]
    · rw [List.getElem?_eq_none (by rw [List.length_range']; omega), List.getElem?_eq_none (by omega)]
      rfl
  have e2 := lots_map (fun k => xs.getD k a) r (List.range' 0 xs.length)
  rw [e] at e2
  exact e2
/-- combinations(xs, k) as data -/
def combL (k : Nat) (xs : List D) : List D := (lots k xs).map .tuple
def combD : List D → Option (List D)
  | [.list xs, .int k] => if decide (0 ≤ k) && decide (k ≤ 1048576) then some (combL k.toNat xs) else none
  | [.tuple xs, .int k] => if decide (0 ≤ k) && decide (k ≤ 1048576) then some (combL k.toNat xs) else none
  | _ => none
theorem wk_comb {K : PySem.W.Frag} {F : Hp} {r : Nat} {vs : List V} {ds : List D} (h : DqAll K F vs ds) : Wk K (CMB.Itn vs r) (combL r ds) F := by
  have hl := DqAll_len h
  have len : (lots r vs).length = (combL r ds).length := by
    unfold combL
    rw [List.length_map, lots_pick .non r vs, lots_pick .none r ds, List.length_map, List.length_map, hl]
  refine ⟨fun i F1 H1 s s1 hi => ?_, fun i F1 H1 x H2 s s1 hi ⟨T, c, e, n, e2, q⟩ => ?_, fun i F1 H1 s s1 hi => ?_⟩
  · show i < (lots r vs).length
    rw [len]
    exact hi
  · subst e
    subst e2
    have g := gr_laid s1 (o := .tup c) n
    rw [lots_pick .non r vs, List.getElem?_map] at q
    cases hx : (lots r (List.range' 0 vs.length))[i]? with
    | none =>
      rw [hx] at q
      cases q
    | some l =>
      rw [hx] at q
      cases q
      have hm := List.mem_of_getElem? hx
      have hlt : ∀ k ∈ l, k < vs.length := fun k hk => by
        have := (lots_sub _ _ _ hm).subset hk
        simp at this
        omega
      refine ⟨_, g, .tuple (l.map fun k => ds.getD k .none), ?_, .tup (.inl (.of upd_same)) ?_⟩
      · unfold combL
        rw [lots_pick .none r ds, ← hl, List.getElem?_map, List.getElem?_map, hx]
        rfl
      · exact DqAll_ext (s.trans g.f) (DqAll_pick h l hlt)
  · show (lots r vs).length ≤ i
    rw [len]
    exact Nat.le_of_eq hi.symm
theorem di_comb (hg : Gl X x) (hm : X.mg x = some (.type CMB.cT)) (ha : DA X T W [e1, e2] fa) (hdb : (x == ("__debug__" : Str)) = false := by decide)
    (hs : starEach [e1, e2] X.env = (false, eval e1 X.env) :: starEach [e2] X.env := by rfl) (hpl : (backTo pos (starEach [e2] X.env)).any (·.1) = false := by rfl) :
    DI X T W tg (.Call (.Name x p) [e1, e2] [] pos) (itD fa combD) :=
  PI_imp (CMB.pi_comb hg hm ha hdb hs hpl) fun σ H R ⟨G, ρ, F, rp, h⟩ => ⟨G, ρ, F, rp, h.bind.imp fun ds ρ1 F1 H1 s1 rp1 h1 vs hv => by
    obtain ⟨xs, e, h2⟩ := h1.lift
    unfold combD at e
    split at e
    · rename_i ys k
      split at e
      · rename_i z
        cases e
        simp only [Bool.and_eq_true, decide_eq_true_eq] at z
        cases hv with
        | cons hx ht => cases ht with
          | cons hy ht =>
            cases ht
            cases hx with
            | lst r a =>
              cases hy
              exact ⟨_, _, _, rfl, .inl (.inl (Rd_ext rp1.same r)), z.1, z.2, h2.ret rp1 (.refl _) _ (wk_comb a)⟩
      · cases e
    · rename_i ys k
      split at e
      · rename_i z
        cases e
        simp only [Bool.and_eq_true, decide_eq_true_eq] at z
        cases hv with
        | cons hx ht => cases ht with
          | cons hy ht =>
            cases ht
            cases hx with
            | tup r a =>
              cases hy
              exact ⟨_, _, _, rfl, .inr (SqT_ext rp1.same r), z.1, z.2, h2.ret rp1 (.refl _) _ (wk_comb a)⟩
      · cases e
    · cases e⟩
end
end PL
end S_PLN6

section S_PLN7
namespace PL
open PySem PySem.Spec PyProof.Rows L2
/-! ### list(range(..)) -/
theorem vals_rng {lo : Int} {n : Nat} {acc : Array Value} (h : ItemsOf (fun i v => ∃ t, v = .int (lo + i * 1) t) acc n) : Vals ((List.range n).map fun (i : Nat) => V.int (lo + (i : Int))) acc.toList := by
  have e1 := h.1
  suffices key : ∀ (l : List Value) (k : Nat), (∀ j v, l[j]? = some v → ∃ t, v = Value.int (lo + ((k + j : Nat) : Int)) t) → Vals ((List.range' k l.length).map fun (i : Nat) => V.int (lo + (i : Int))) l by
    have := key acc.toList 0 fun j v hj => by
      obtain ⟨t, ht⟩ := h.2 j v (by simpa using hj)
      exact ⟨t, by rw [ht]; simp⟩
    rw [Array.length_toList, e1] at this
    rw [List.range_eq_range']
    exact this
  intro l
  induction l with
  | nil => intro k _; exact .nil
  | cons x l ih =>
    intro k hk
    rw [List.length_cons, List.range'_succ]
    refine .cons ?_ (ih (k + 1) fun j v hj => ?_)
    · obtain ⟨t, ht⟩ := hk 0 x rfl
      exact ⟨t, by simpa using ht⟩
    · obtain ⟨t, ht⟩ := hk (j + 1) v (by simpa using hj)
      exact ⟨t, by rw [ht, show k + (j + 1) = k + 1 + j by omega]⟩
section
variable {X : Cx} {T : Tx} {W : WX} {tg e e1 e2 : Expr} {p p2 pos pos2 : Pos} {f g : Cm D} {fa : Cm (List D)} {x : PySem.Str} {ta : TA}
def tListR (ta : TA) : TE := fun σ H Q => ta σ H fun vs H1 => ∃ lo hi : Int, (vs = [.int hi] ∧ lo = 0 ∨ vs = [.int lo, .int hi]) ∧ -(2 ^ 62) ≤ lo ∧ lo < 2 ^ 62 ∧ -(2 ^ 62) ≤ hi ∧ hi < 2 ^ 62 ∧ hi - lo ≤ 16777216 ∧
  ∀ a, H1 a = none → Q (.ref a) (upd H1 a (.lst ((List.range (hi - lo).toNat).map fun (i : Nat) => V.int (lo + (i : Int)))))
theorem list_rng {pins : List (Addr × Obj)} {σ : L2.St} {H : Hp} {s : Shared} {lo hi : Int} {t u v : Tok} {tk : Nat} {Q : VK} (hc : X.calm = true) (I : Inv X pins σ H s) (b1 : -(2 ^ 62) ≤ lo) (b2 : lo < 2 ^ 62) (b3 : -(2 ^ 62) ≤ hi) (b4 : hi < 2 ^ 62) (b5 : hi - lo ≤ 16777216)
    (q : ∀ a, H a = none → Q (.ref a) (upd H a (.lst ((List.range (hi - lo).toNat).map fun (i : Nat) => V.int (lo + (i : Int)))))) :
    wpAny (model X.prog X.w) X.A (call (.type "list") [.ref s.heap.objs.size]) (EP X pins σ Q) X.xe { s with heap := s.heap.push { cls := .type "range", data := .fields #[.int lo t, .int hi u, .int 1 v] }, toks := tk } := by
  have I1 : Inv X pins σ H { s with heap := s.heap.push { cls := .type "range", data := .fields #[.int lo t, .int hi u, .int 1 v] }, toks := tk } := I.kept fun b o e => Heap.get?_push_of_some _ e
  refine call_list_range (n := (hi - lo).toNat) (I.ok.hd hc) (IsRange.new ..) (small_one b1 b2 b3 b4) ?_ ?_ fun h' tk' acc c' hk ho hi' => ?_
  · rw [rangeSize_one]
    split <;> omega
  · omega
  · have hv := vals_rng hi'
    have hn : H (s.heap.push { cls := .type "range", data := .fields #[.int lo t, .int hi u, .int 1 v] }).objs.size = none := I1.hok.fresh (Nat.le_refl _)
    refine ⟨.ref _, upd H (s.heap.push { cls := .type "range", data := .fields #[.int lo t, .int hi u, .int 1 v] }).objs.size (.lst ((List.range (hi - lo).toNat).map fun (i : Nat) => V.int (lo + (i : Int)))), ?_, rfl, q _ hn⟩
    exact I1.laid (t' := tk') hk (Nat.le_refl _) ⟨by rw [List.length_map, List.length_range, sizeLine_eq]; omega, acc.toList, c', hv, by simpa using ho⟩
theorem pe_listR1 (hc : X.calm = true) (hg : Gl X "list") (hm : X.mg "list" = none) (hg2 : Gl X "range") (hm2 : X.mg "range" = none) (ha : PA X [e] ta) (hs : starEach [e] X.env = [(false, eval e X.env)] := by rfl)
    (na : starEach [.Call (.Name "range" p2) [e] [] pos2] X.env = (false, eval (.Call (.Name "range" p2) [e] [] pos2) X.env) :: starEach [] X.env := by rfl) :
    PE X (.Call (.Name "list" p) [.Call (.Name "range" p2) [e] [] pos2] [] pos) (tListR ta) := by
  refine ⟨fun pins s σ H Q I h => ?_⟩
  refine Call_ (ld_blt I hg hm PyProof.Rows.boot_list ?_)
  refine PyProof.Rows.callWith_type1 (PyProof.Rows.args_cons ?_ na) na rfl
  refine Call_ (ld_blt I hg2 hm2 boot_range ?_)
  refine PyProof.Rows.callWith_type1 (thn (ha.run pos2 pins s σ H _ I h) fun us s1 ⟨vs, H1, I1, r1, q1⟩ => ?_) hs rfl
  obtain ⟨lo, hi, e, b1, b2, b3, b4, b5, q⟩ := q1
  rcases e with ⟨rfl, rfl⟩ | rfl
  · obtain ⟨u, rfl, t, rfl⟩ := vals1 r1
    exact call_range_1 (PyProof.Rows.args_nil (list_rng hc I1 b1 b2 b3 b4 b5 q))
  · cases r1 with
    | cons r r1 => cases r1 with
      | cons r' r1 =>
        cases r1
        obtain ⟨t, rfl⟩ := r
        obtain ⟨t', rfl⟩ := r'
        exact call_range_2 (PyProof.Rows.args_nil (list_rng hc I1 b1 b2 b3 b4 b5 q))
theorem pe_listR2 (hc : X.calm = true) (hg : Gl X "list") (hm : X.mg "list" = none) (hg2 : Gl X "range") (hm2 : X.mg "range" = none) (ha : PA X [e1, e2] ta) (hs : starEach [e1, e2] X.env = [(false, eval e1 X.env), (false, eval e2 X.env)] := by rfl) (hs2 : starEach [e2] X.env = [(false, eval e2 X.env)] := by rfl)
    (na : starEach [.Call (.Name "range" p2) [e1, e2] [] pos2] X.env = (false, eval (.Call (.Name "range" p2) [e1, e2] [] pos2) X.env) :: starEach [] X.env := by rfl) :
    PE X (.Call (.Name "list" p) [.Call (.Name "range" p2) [e1, e2] [] pos2] [] pos) (tListR ta) := by
  refine ⟨fun pins s σ H Q I h => ?_⟩
  refine Call_ (ld_blt I hg hm PyProof.Rows.boot_list ?_)
  refine PyProof.Rows.callWith_type1 (PyProof.Rows.args_cons ?_ na) na rfl
  refine Call_ (ld_blt I hg2 hm2 boot_range ?_)
  refine PyProof.Rows.callWith_type1 (thn (ha.run pos2 pins s σ H _ I h) fun us s1 ⟨vs, H1, I1, r1, q1⟩ => ?_) (by rw [hs, hs2]) (by rw [hs2]; rfl)
  obtain ⟨lo, hi, e, b1, b2, b3, b4, b5, q⟩ := q1
  rcases e with ⟨rfl, rfl⟩ | rfl
  · obtain ⟨u, rfl, t, rfl⟩ := vals1 r1
    exact call_range_1 (PyProof.Rows.args_nil (list_rng hc I1 b1 b2 b3 b4 b5 q))
  · cases r1 with
    | cons r r1 => cases r1 with
      | cons r' r1 =>
        cases r1
        obtain ⟨t, rfl⟩ := r
        obtain ⟨t', rfl⟩ := r'
        exact call_range_2 (PyProof.Rows.args_nil (list_rng hc I1 b1 b2 b3 b4 b5 q))
/-! as new lists -/
def listR : List D → Option (List D)
  | [.int j] => if okR j && decide (j ≤ 16777216) then some (rngL 0 j.toNat) else none
  | [.int i, .int j] => if okR i && okR j && decide (j - i ≤ 16777216) then some (rngL i (j - i).toNat) else none
  | _ => none
def caL (fa : Cm (List D)) (o : List D → Option (List D)) : Cm (List D) := bnd fa fun ds => lift (o ds)
theorem DqAll_rng {K : PySem.W.Frag} {F : Hp} (lo : Int) : ∀ l : List Nat, DqAll K F (l.map fun (i : Nat) => V.int (lo + (i : Int))) (l.map fun (i : Nat) => PyData.int (lo + (i : Int)))
  | [] => .nil
  | i :: l => .cons (.int _) (DqAll_rng lo l)
theorem oe_listR1 (hm : X.mg "list" = none) (hm2 : X.mg "range" = none) (hc : X.calm = true) (ha : DA X T W [e] fa) (hg : Gl X "list" := by rfl) (hg2 : Gl X "range" := by rfl) (hs : starEach [e] X.env = [(false, eval e X.env)] := by rfl)
    (na : starEach [.Call (.Name "range" p2) [e] [] pos2] X.env = (false, eval (.Call (.Name "range" p2) [e] [] pos2) X.env) :: starEach [] X.env := by rfl) :
    OE X T W (.Call (.Name "list" p) [.Call (.Name "range" p2) [e] [] pos2] [] pos) (caL fa listR) :=
  PE_imp (pe_listR1 hc hg hm hg2 hm2 ha hs na) fun σ H Q ⟨G, ρ, F, rp, h⟩ => ⟨G, ρ, F, rp, h.bind.imp fun ds ρ1 F1 H1 s1 rp1 h1 vs hv => by
    obtain ⟨xs, e, h2⟩ := h1.lift
    unfold listR at e
    split at e
    · split at e
      · rename_i z
        cases e
        simp only [Bool.and_eq_true, decide_eq_true_eq] at z
        cases hv with
        | cons hx ht =>
          cases ht
          cases hx
          have z1 := okR_ok z.1
          exact ⟨0, _, .inl ⟨rfl, rfl⟩, by omega, by omega, z1.1, z1.2, by omega, fun a hn => by
            have e0 : ∀ j : Int, j - 0 = j := fun j => by omega
            rw [e0]
            exact h2.ret (rp1.gr (rp1.grown hn)) (.refl _) _ (rp1.new hn (DqAll_rng 0 _))⟩
      · cases e
    · split at e
      · rename_i z
        cases e
        simp only [Bool.and_eq_true, decide_eq_true_eq] at z
        cases hv with
        | cons hx ht => cases ht with
          | cons hy ht =>
            cases ht
            cases hx
            cases hy
            have z1 := okR_ok z.1.1
            have z2 := okR_ok z.1.2
            exact ⟨_, _, .inr rfl, z1.1, z1.2, z2.1, z2.2, z.2, fun a hn => h2.ret (rp1.gr (rp1.grown hn)) (.refl _) _ (rp1.new hn (DqAll_rng _ _))⟩
      · cases e
    · cases e⟩
theorem oe_listR2 (hm : X.mg "list" = none) (hm2 : X.mg "range" = none) (hc : X.calm = true) (ha : DA X T W [e1, e2] fa) (hg : Gl X "list" := by rfl) (hg2 : Gl X "range" := by rfl) (hs : starEach [e1, e2] X.env = [(false, eval e1 X.env), (false, eval e2 X.env)] := by rfl) (hs2 : starEach [e2] X.env = [(false, eval e2 X.env)] := by rfl)
    (na : starEach [.Call (.Name "range" p2) [e1, e2] [] pos2] X.env = (false, eval (.Call (.Name "range" p2) [e1, e2] [] pos2) X.env) :: starEach [] X.env := by rfl) :
    OE X T W (.Call (.Name "list" p) [.Call (.Name "range" p2) [e1, e2] [] pos2] [] pos) (caL fa listR) :=
  PE_imp (pe_listR2 hc hg hm hg2 hm2 ha hs hs2 na) fun σ H Q ⟨G, ρ, F, rp, h⟩ => ⟨G, ρ, F, rp, h.bind.imp fun ds ρ1 F1 H1 s1 rp1 h1 vs hv => by
    obtain ⟨xs, e, h2⟩ := h1.lift
    unfold listR at e
    split at e
    · split at e
      · rename_i z
        cases e
        simp only [Bool.and_eq_true, decide_eq_true_eq] at z
        cases hv with
        | cons hx ht =>
          cases ht
          cases hx
          have z1 := okR_ok z.1
          exact ⟨0, _, .inl ⟨rfl, rfl⟩, by omega, by omega, z1.1, z1.2, by omega, fun a hn => by
            have e0 : ∀ j : Int, j - 0 = j := fun j => by omega
            rw [e0]
            exact h2.ret (rp1.gr (rp1.grown hn)) (.refl _) _ (rp1.new hn (DqAll_rng 0 _))⟩
      · cases e
    · split at e
      · rename_i z
        cases e
        simp only [Bool.and_eq_true, decide_eq_true_eq] at z
        cases hv with
        | cons hx ht => cases ht with
          | cons hy ht =>
            cases ht
            cases hx
            cases hy
            have z1 := okR_ok z.1.1
            have z2 := okR_ok z.1.2
            exact ⟨_, _, .inr rfl, z1.1, z1.2, z2.1, z2.2, z.2, fun a hn => h2.ret (rp1.gr (rp1.grown hn)) (.refl _) _ (rp1.new hn (DqAll_rng _ _))⟩
      · cases e
    · cases e⟩
end
end PL
end S_PLN7

section S_PLQ
namespace SRT
open PySem PySem.Calls PyProof.Rows PySem.W PySem.SeqAt
/-! ### sorted, tuples without an item among them too -/
section
variable {prog : Program} {w : World} {A : Around} {E : Value → Shared → Prop} {s : Shared}
/-- the tuples and what stands first in each -/
def TupF (h : Heap) (v : Value) (f : Option Value) : Prop := ∃ a o xs n, v = .ref a ∧ h.get? a = some o ∧ o.cls = .type "tuple" ∧ o.data = .seq xs n ∧ xs[0]? = f
theorem firsts_of : ∀ {vs : List Value} {fs : List (Option Value)} {Q : List (Option Value) → Shared → Prop}, EachIs (TupF s.heap) vs fs → Q fs s → wpAny (model prog w) A (vs.mapM firstOfTuple') Q E s
  | _, _, _, .nil, h => by rw [List.mapM_nil]; exact wpAny_pure h
  | v :: vs, f :: fs, Q, .cons t ts, h => by
    obtain ⟨a, o, xs, n, rfl, ho, hc, hd, hf⟩ := t
    rw [List.mapM_cons]
    refine wpAny_bind ?_
    rw [kas_first_eq]
    refine wpAny_bind (Looks.here (show Looks (model prog w) s.heap (typeOf (.ref a)) o.cls from (Looks.ld ho).andThen .now) ?_)
    rw [hc, if_neg (by first | decide | simp)]
    refine wpAny_bind (listItems_at ho hd (wpAny_pure ?_))
    rw [hf]
    exact wpAny_bind (firsts_of (Q := fun bs s' => wpAny (model prog w) A (pure (f :: bs)) Q E s') ts (wpAny_pure h))
def kindF (fs : List (Option Value)) : SortKind := if (fs.head?.bind id).isSome then general' else oneType'
theorem kind_of {vs : List Value} {fs : List (Option Value)} {Q : SortKind → Shared → Prop} (h2 : 2 ≤ vs.length) (t : EachIs (TupF s.heap) vs fs) (he : none ∈ fs) (h : Q (kindF fs) s) : wpAny (model prog w) A (keyKind' vs.toArray) Q E s := by
  have hl := t.length
  rw [keyKind'_eq, List.mapM_toArray, map_eq_pure_bind]
  refine wpAny_bind (wpAny_bind (firsts_of t (wpAny_pure ?_)))
  have hall : ¬ (fs.toArray.all fun x => x.isSome) = true := by
    simp only [List.all_toArray, List.all_eq_true]
    intro q
    exact absurd (q _ he) (by simp)
  rw [if_neg hall]
  have h0 : (fs.toArray[0]?.bind id) = fs.head?.bind id := by cases fs <;> simp
  rw [h0]
  unfold kindF at h
  by_cases q : (fs.head?.bind id).isSome = true
  · rw [if_pos q] at h ⊢
    exact wpAny_pure h
  · rw [if_neg q] at h ⊢
    rw [oneTypeOnly'_eq, List.mapM_toArray, map_eq_pure_bind]
    have hT : ∀ v ∈ vs, Looks (model prog w) s.heap (typeOf v) (.type "tuple") := fun v hv => by
      obtain ⟨f, _, a, o, xs, n, rfl, ho, hc, hd, hf⟩ := t.left v hv
      exact hc ▸ (Looks.ld ho).andThen .now
    refine wpAny_bind (wpAny_bind (wpAny_bind (kas_mapM (r := .type "tuple") _ (fun v hv Q' hq => (hT v hv).here hq) (wpAny_pure ?_))))
    have hall2 : ((List.map (fun _ => Value.type "tuple") vs).toArray.all fun x => x == Value.type "tuple") = true := by
      simp only [List.all_toArray, List.all_map, List.all_eq_true]
      intro _ _
      exact beq_self_eq_true _
    have h1 : (List.map (fun _ => Value.type "tuple") vs).toArray[0]? = some (Value.type "tuple") := by
      match vs, h2 with
      | v :: vs, _ => simp
    rw [h1]
    simp only [hall2, if_true]
    exact wpAny_pure (wpAny_pure h)
/-- a tuple's own __lt__, as sorting calls it -/
theorem call_tup_lt {Q : Value → Shared → Prop} {l b : Addr} {items items2 : Array Value} {e r : Nat → Bool} (hl : s.heap.IsTuple l items) (hb : s.heap.IsTuple b items2)
    (he : ∀ j (h1 : j < items.size) (h2 : j < items2.size), EqAt A.in1 s items[j] items2[j] (e j)) (hr : ∀ j (h1 : j < items.size) (h2 : j < items2.size), e j = false → RcLt A.in1 s items[j] items2[j] (r j))
    (h : Q (.bool (firstLt e r (decide (items.size < items2.size)) (List.range (min items.size items2.size)))) s) : wpAny (model prog w) A (call (.builtin "tuple.__lt__") [.ref l, .ref b]) Q E s := by
  obtain ⟨⟨c1, d1, t1, s1⟩, ho, hc, n, hd⟩ := hl
  obtain ⟨⟨c2, d2, t2, s2⟩, ho2, hc2, n2, hd2⟩ := hb
  cases hc
  cases hc2
  cases hd
  cases hd2
  exact call_meets PySem.F.slot_tuple_lt ⟨_, ho, rfl⟩ PySem.F.entry_tuple_lt (PySem.F.args_tuple_lt_2 _ _) (tuple_ltAt l b _ _ n n2 d1 d2 s1 s2 e r) ⟨ho, ho2, he, hr, h⟩
theorem one_lt {f : Bool} {da db : PyData} {a b : Value} {as bs : List Addr} {Q : Bool → Shared → Prop} (ra : Reads s.heap a da as) (rb : Reads s.heap b db bs) (h : alike da db = true) (hn : da ≠ .none)
    (hu : A.units + min da.depth db.depth < cLine) (hq : Q (dataLt da db) s) : wpAny (model prog w) A (oneLt' f a b) Q E s := by
  by_cases ht : ∃ xs, da = .tuple xs
  · obtain ⟨xs, rfl⟩ := ht
    cases f with
    | false => exact oneLt_alike (fun z => absurd z (by decide)) ra rb h hn hu hq
    | true =>
      cases db with
      | tuple ys =>
        have hal : alikeAll xs ys = true := by simpa [alike] using h
        cases ra with
        | @tuple l o vs n _ as₁ h1 h2 h3 h4 =>
          cases rb with
          | @tuple l' o' vs' n' _ bs₁ k1 k2 k3 k4 =>
            have n1 : vs.size = xs.length := by simpa using ReadsAll.length _ _ _ h4
            have n2 : vs'.size = ys.length := by simpa using ReadsAll.length _ _ _ k4
            rw [dataLt_tuple, ← firstLt_toks xs ys hal, ← n1, ← n2] at hq
            rw [oneLt'_eq]
            simp only [if_true]
            refine wpAny_bind (wpAny_cRoomFor (room_here hu) ?_)
            refine wpAny_bind (wpAny_callSpecialIfBound?_slot (T := "tuple") ⟨_, h1, h2⟩ PySem.F.slot_tuple_lt (call_tup_lt (e := pairEq xs ys) (r := fun j => dataLt (xs.getD j .none) (ys.getD j .none)) ⟨_, h1, h2, _, h3⟩ ⟨_, k1, k2, _, k3⟩ (fun j j1 j2 => ?_) (fun j j1 j2 hj => ?_) (wpAny_truthy_bool hq)))
            · have q := eqAt_alikeAll xs ys A.in1 s vs.toList vs'.toList _ _ h4 k4 hal (room_in hu) j (by simpa using j1) (by simpa using j2)
              simpa using q
            · have q := rcLt_alikeAll xs ys A.in1 s vs.toList vs'.toList _ _ h4 k4 hal (room_in hu) j (by simpa using j1) (by simpa using j2) hj
              simpa using q
      | _ => exact absurd h (by simp [alike])
  · exact oneLt_alike (fun _ xs e => ht ⟨xs, e⟩) ra rb h hn hu hq
theorem each_firsts {h : Heap} : ∀ {vs : List Value} {ds : List PyData}, EachIs (fun v d => ∃ as, Reads h v d as) vs ds → (∀ d, d ∈ ds → ∃ xs, d = .tuple xs) → ∃ fs, EachIs (TupF h) vs fs ∧ ((.tuple [] : PyData) ∈ ds → none ∈ fs)
  | _, _, .nil, _ => ⟨[], .nil, fun h => absurd h (by simp)⟩
  | _, _, .cons (b := d) ⟨as, r⟩ t, ht => by
    obtain ⟨fs, h1, h2⟩ := each_firsts t fun d hd => ht d (List.mem_cons_of_mem _ hd)
    obtain ⟨ys, rfl⟩ := ht d (List.mem_cons_self ..)
    cases r with
    | @tuple a o xs n _ _ ho hc hd hr =>
      refine ⟨xs[0]? :: fs, .cons ⟨a, o, xs, n, rfl, ho, hc, hd, rfl⟩ h1, fun hm => ?_⟩
      rcases List.mem_cons.mp hm with e | hm
      · cases e
        have : xs.toList = [] := by cases q : xs.toList with
          | nil => rfl
          | cons => rw [q] at hr; cases hr
        have e0 : xs = #[] := by apply Array.toList_inj.mp; simpa using this
        subst e0
        exact List.mem_cons_self ..
      · exact List.mem_cons_of_mem _ (h2 hm)
/-- all are tuples, or none is a tuple or None -/
def SortT (ds : List PyData) : Prop := (∀ d, d ∈ ds → ∃ xs, d = .tuple xs) ∨ ∀ d, d ∈ ds → d ≠ .none ∧ ∀ xs, d ≠ .tuple xs
theorem sorts {vs : List Value} {ds : List PyData} (e : EachIs (fun v d => ∃ as, Reads s.heap v d as) vs ds) (hal : AllAlike ds) (hk : SortT ds) (hu : ∀ d, d ∈ ds → A.units + d.depth < cLine) : SortsAt prog w A s (dataKind s.heap ds) vs := by
  rcases hk with ht | hn
  · by_cases he : (.tuple [] : PyData) ∈ ds
    · have room : ∀ {d d' : PyData}, d ∈ ds → A.units + min d.depth d'.depth < cLine := fun {d d'} hd => Nat.lt_of_le_of_lt (Nat.add_le_add_left (Nat.min_le_left _ _) _) (hu d hd)
      obtain ⟨fs, t1, t2⟩ := each_firsts e ht
      refine ⟨fun v hv => ?_, kindF fs, ?_, fun h2 E Q hq => kind_of h2 t1 (t2 he) hq⟩
      · obtain ⟨d, hd, as, r⟩ := e.left v hv
        exact ⟨_, dataKind_some hal hd r⟩
      · intro E x y a b Q ha hb hq
        obtain ⟨d, as, hd, ra, rfl⟩ := dataKind_inv ha
        obtain ⟨d', as', hd', rb, rfl⟩ := dataKind_inv hb
        have hnn : d ≠ .none := by
          obtain ⟨xs, rfl⟩ := ht d hd
          exact fun z => nomatch z
        have fin : ∀ f, wpAny (model prog w) A (oneLt' f x y) Q E s := fun f => one_lt ra rb (hal d hd d' hd') hnn (room hd) hq
        unfold kindF
        split
        · exact fin false
        · rw [keyLt'_oneType]
          exact fin true
    · refine SortsAt.data e hal (.inl fun d hd => ?_) hu
      obtain ⟨xs, rfl⟩ := ht d hd
      cases xs with
      | nil => exact absurd hd he
      | cons x r => exact ⟨x, r, rfl⟩
  · exact SortsAt.data e hal (.inr hn) hu
end
end SRT
end S_PLQ

section S_PLQ2
namespace SRT
open PySem PySem.Calls PyProof.Rows PySem.W PySem.SeqAt
section
variable {prog : Program} {w : World} {A : Around} {E : Value → Shared → Prop} {s : Shared} {κ : PyProof.Rows.KeyKind}
/-- sorted of a list or of a tuple -/
theorem sorted_seq {l : Addr} {vs : List Value} {Q : Value → Shared → Prop} (hl : CMB.IsSeq s.heap l vs) (S : SortsAt prog w A.in1.in1 { s with heap := sortingHeap (copyHeap s.heap vs) (s.heap.objs.size + 1) vs } κ vs) (hL : vs.length ≤ sizeLine)
    (h : Q (.ref (s.heap.objs.size + 1)) { s with heap := sortedAll s.heap vs (sortVals κ false vs vs).toArray }) : wpAny (model prog w) A (call (.builtin "sorted") [.ref l]) Q E s := by
  rcases hl with hl | hl
  · exact sorted_vals hl S hL h
  · refine call_function_entry_kw kind_sorted plain_sorted entry_sorted (args_sorted1 _) ?_
    unfold Builtin.«sorted»
    refine wpAny_bind (m := checkCount "sorted" 1 1 _) (wpAny_pure ?_)
    refine wpAny_bind (CMB.collect_tup hl hL ?_)
    refine wpAny_bind (wpAny_newList ?_ hL)
    have hsz : ((s.heap.push (seqObj "list" #[] 0)).update s.heap.objs.size (Obj.mapSeq (· ++ vs.toArray))).objs.size = s.heap.objs.size + 1 := by
      rw [Heap.size_update, size_push']
    show wpAny _ _ _ _ _ { s with heap := copyHeap s.heap vs }
    have hsz2 : (CMB.cH1 s.heap vs).objs.size = s.heap.objs.size + 1 := hsz
    rw [hsz2]
    refine wpAny_bind (wpAny_holding (wpAny_call_entry_kw slot_list_sort ⟨_, copyHeap_at s.heap vs, rfl⟩ entry_list_sort ?body (args_list_sort _)))
    case body =>
      show wpAny (model prog w) A.in1.in1 (Builtin.«list.sort» ⟨[.ref (s.heap.objs.size + 1)], []⟩) _ _ _
      refine wpAny_mono (list_sort_vals (s := { s with heap := copyHeap s.heap vs }) (P := fun f s' => f = .done (.ret .none) ∧ Q (.ref (s.heap.objs.size + 1)) s') (copyHeap_at s.heap vs) S hL ⟨rfl, h⟩) (fun f s' hf => ?_) fun _ _ e => e
      obtain ⟨rfl, hq⟩ := hf
      exact ⟨_, rfl, wpAny_pure ⟨_, rfl, hq⟩⟩
end
end SRT
namespace PL
open PySem PySem.Spec PyProof.Rows L2
open PySem.W (EachIs AllAlike alike dataLe dataLt)
/-! ### sorted(xs), xs data -/
def isTupB : D → Bool | .tuple _ => true | _ => false
def isNonB : D → Bool | .none => true | _ => false
def okSrt (ds : List D) : Bool := (ds.all fun d => ds.all fun e => alike d e) && ((ds.all fun d => isTupB d) || (ds.all fun d => !isNonB d && !isTupB d)) && (ds.all fun d => decide (d.depth ≤ 64)) && sizeOkL ds.length
def insD (x : D) : List D → List D
  | [] => [x]
  | y :: l => if dataLe false (fun d => d) x y then x :: y :: l else y :: insD x l
def srtL (ds : List D) : List D := ds.foldr insD []
theorem insD_pw {x : D} : ∀ {l : List D}, l.Pairwise (fun a b => dataLe false (fun d => d) a b = true) → (insD x l).Pairwise (fun a b => dataLe false (fun d => d) a b = true) ∧ ∀ z ∈ insD x l, z = x ∨ z ∈ l
  | [], _ => ⟨List.pairwise_singleton _ _, fun z hz => .inl (List.mem_singleton.mp hz)⟩
  | y :: l, h => by
    have tl : PySem.W.TotalLe (dataLe false fun d : D => d) := PySem.W.sortLe_total _ false _
    obtain ⟨h1, h2⟩ := List.pairwise_cons.mp h
    unfold insD
    by_cases q : dataLe false (fun d => d) x y = true
    · rw [if_pos q]
      refine ⟨List.pairwise_cons.mpr ⟨fun z hz => ?_, h⟩, fun z hz => by simpa using hz⟩
      rcases List.mem_cons.mp hz with rfl | hz
      · exact q
      · exact tl.trans x y z q (h1 z hz)
    · rw [if_neg q]
      obtain ⟨i1, i2⟩ := insD_pw (x := x) h2
      have hyx : dataLe false (fun d => d) y x = true := (tl.total x y).resolve_left q
      refine ⟨List.pairwise_cons.mpr ⟨fun z hz => ?_, i1⟩, fun z hz => ?_⟩
      · rcases i2 z hz with rfl | hz
        · exact hyx
        · exact h1 z hz
      · rcases List.mem_cons.mp hz with rfl | hz
        · exact .inr (List.mem_cons_self ..)
        · exact (i2 z hz).imp id (List.mem_cons_of_mem _)
theorem insD_rank {x c : D} : ∀ l : List D, (insD x l).filter (PySem.W.sameRank (dataLe false fun d => d) c) = (x :: l).filter (PySem.W.sameRank (dataLe false fun d => d) c)
  | [] => rfl
  | y :: l => by
    have tl : PySem.W.TotalLe (dataLe false fun d : D => d) := PySem.W.sortLe_total _ false _
    unfold insD
    by_cases q : dataLe false (fun d => d) x y = true
    · rw [if_pos q]
    · rw [if_neg q]
      have ih := insD_rank (x := x) (c := c) l
      by_cases hx : PySem.W.sameRank (dataLe false fun d => d) c x = true
      · by_cases hy : PySem.W.sameRank (dataLe false fun d => d) c y = true
        · exfalso
          unfold PySem.W.sameRank at hx hy
          rw [Bool.and_eq_true] at hx hy
          exact q (tl.trans x c y hx.2 hy.1)
        · rw [List.filter_cons_of_neg hy, ih, List.filter_cons_of_pos hx, List.filter_cons_of_pos hx, List.filter_cons_of_neg hy]
      · by_cases hy : PySem.W.sameRank (dataLe false fun d => d) c y = true
        · rw [List.filter_cons_of_pos hy, ih, List.filter_cons_of_neg hx, List.filter_cons_of_neg hx, List.filter_cons_of_pos hy]
        · rw [List.filter_cons_of_neg hy, ih, List.filter_cons_of_neg hx, List.filter_cons_of_neg hx, List.filter_cons_of_neg hy]
theorem srtL_pw : ∀ ds : List D, (srtL ds).Pairwise fun a b => dataLe false (fun d => d) a b = true
  | [] => List.Pairwise.nil
  | d :: ds => (insD_pw (srtL_pw ds)).1
theorem srtL_rank (c : D) : ∀ ds : List D, (srtL ds).filter (PySem.W.sameRank (dataLe false fun d => d) c) = ds.filter (PySem.W.sameRank (dataLe false fun d => d) c)
  | [] => rfl
  | d :: ds => by
    show (insD d (srtL ds)).filter _ = _
    rw [insD_rank]
    have ih := srtL_rank c ds
    by_cases hd : PySem.W.sameRank (dataLe false fun d => d) c d = true
    · rw [List.filter_cons_of_pos hd, List.filter_cons_of_pos hd, ih]
    · rw [List.filter_cons_of_neg hd, List.filter_cons_of_neg hd, ih]
theorem srtL_merge (ds : List D) : srtL ds = ds.mergeSort (dataLe false fun d => d) := PySem.W.sort_unique (PySem.W.sortLe_total _ false _) (srtL_pw ds) fun c => srtL_rank c ds
theorem srtL_perm (ds : List D) : (srtL ds).Perm ds := by
  rw [srtL_merge]
  exact List.mergeSort_perm _ _
def sortD : List D → Option (List D)
  | [.list ds] => if okSrt ds then some (srtL ds) else none
  | [.tuple ds] => if okSrt ds then some (srtL ds) else none
  | _ => none
theorem okSrt_ok {ds : List D} (h : okSrt ds = true) : AllAlike ds ∧ SRT.SortT ds ∧ (∀ d ∈ ds, d.depth ≤ 64) ∧ ds.length ≤ sizeLine := by
  unfold okSrt at h
  simp only [Bool.and_eq_true, Bool.or_eq_true, List.all_eq_true, decide_eq_true_eq] at h
  obtain ⟨⟨⟨h1, h2⟩, h3⟩, h4⟩ := h
  refine ⟨fun d hd d' hd' => h1 d hd d' hd', ?_, h3, sizeOkL_le h4⟩
  rcases h2 with h2 | h2
  · refine .inl fun d hd => ?_
    have := h2 d hd
    cases d <;> first | exact ⟨_, rfl⟩ | cases this
  · refine .inr fun d hd => ?_
    have := h2 d hd
    cases d <;> first | (simp [isNonB, isTupB] at this; done) | exact ⟨by simp, fun xs => by simp⟩
theorem DqAll_each {K : PySem.W.Frag} {F : Hp} : ∀ {vs : List V} {ds : List D}, DqAll K F vs ds → EachIs (Dq K F) vs ds
  | _, _, .nil => .nil
  | _, _, .cons h t => .cons h (DqAll_each t)
theorem each_DqAll {K : PySem.W.Frag} {F : Hp} : ∀ {vs : List V} {ds : List D}, EachIs (Dq K F) vs ds → DqAll K F vs ds
  | _, _, .nil => .nil
  | _, _, .cons h t => .cons h (each_DqAll t)
theorem each_in {S : V → D → Prop} : ∀ {xs : List V} {us : List Value} {ds : List D}, Vals xs us → EachIs S xs ds → EachIs (fun v d => ∃ x, RelV x v ∧ S x d) us ds
  | _, _, _, .nil, .nil => .nil
  | _, _, _, .cons r rs, .cons h t => .cons ⟨_, r, h⟩ (each_in rs t)
theorem each_out {S : V → D → Prop} : ∀ {us : List Value} {ds : List D}, EachIs (fun v d => ∃ x, RelV x v ∧ S x d) us ds → ∃ ys, Vals ys us ∧ EachIs S ys ds
  | _, _, .nil => ⟨[], .nil, .nil⟩
  | _, _, .cons ⟨x, r, h⟩ t => by
    obtain ⟨ys, a, b⟩ := each_out t
    exact ⟨x :: ys, .cons r a, .cons h b⟩
section
variable {X : Cx}
def rSrt (K : PySem.W.Frag) : List V → Hp → VK → Prop := fun vs H Q => ∃ (a : Addr) (xs : List V) (ds : List D) (S : V → D → Prop), vs = [.ref a] ∧ (SqL K H a xs ∨ SqT K H a xs) ∧ DpAll K H xs ds ∧ okSrt ds = true ∧ EachIs S xs ds ∧
  ∀ p ys, EachIs S ys (srtL ds) → H p = none → Q (.ref p) (upd H p (.lst ys))
theorem cr_srt {k : Nat} (hr : Room k X.A) : CallR X (.builtin "sorted") (rSrt X.K) := by
  intro pins s σ H vs us Q I r h
  obtain ⟨a, xs, ds, S, rfl, hs, hd, ok, e, q⟩ := h
  simp only [srtL_merge] at q
  obtain ⟨its, rv, hl, hz⟩ : ∃ its, Vals xs its ∧ CMB.IsSeq s.heap a its ∧ xs.length ≤ sizeLine := by
    rcases hs with hs | hs
    · obtain ⟨its, rv, hl, hz⟩ := I.list hs
      exact ⟨its, rv, .inl hl.isList, hz⟩
    · obtain ⟨its, rv, hl, hz⟩ := I.tuple hs
      exact ⟨its, rv, .inr hl, hz⟩
  rw [Vals.ref1 r]
  obtain ⟨o1, o2, o3, o4⟩ := okSrt_ok ok
  obtain ⟨as, rd⟩ := Dp.readsAll I ds xs its hd rv
  have eR := each_in rv e
  have each : ∀ {us : List Value} {ds : List D} {as : List Addr}, ReadsAll s.heap us ds as → EachIs (fun v d => ∃ as, Reads s.heap v d as) us ds := by
    intro us ds as rd
    induction rd using ReadsAll.rec (motive_1 := fun _ _ _ _ => True) with
    | nil => exact .nil
    | cons r _ _ ih => exact .cons ⟨_, r⟩ ih
    | _ => trivial
  have er := each rd
  have er' : EachIs (fun v d => ∃ as, Reads (PySem.W.sortingHeap (PySem.W.copyHeap s.heap its) (s.heap.objs.size + 1) its) v d as) its ds := er.mono fun _ _ ⟨as, r⟩ => ⟨as, PyProof.Rows.Reads.keeps (fun _ _ => PySem.W.sorting_copy_old) r⟩
  have hu := hr.un
  refine SRT.sorted_seq hl (SRT.sorts (s := { s with heap := PySem.W.sortingHeap (PySem.W.copyHeap s.heap its) (s.heap.objs.size + 1) its }) er' o1 o2 fun d hd => ?_) (by rw [er.length]; exact o4) ?_
  · have := o3 d hd
    show X.A.units + 1 + 1 + d.depth < cLine
    omega
  · have hm : ds.map (fun d => d) = ds := List.map_id ds
    have out := PySem.W.sortVals_data (h' := PySem.W.sortingHeap (PySem.W.copyHeap s.heap its) (s.heap.objs.size + 1) its) (enc := fun d => d) false eR er' (by rw [hm]; exact o1)
    rw [hm] at out
    obtain ⟨ys, y1, y2⟩ := each_out out
    have hlen : ys.length ≤ sizeLine := by
      rw [y2.length]
      rw [List.length_mergeSort]
      exact o4
    obtain ⟨ep, he⟩ := PyProof.Rows.sortedAll_at s.heap its (PySem.W.sortVals (PySem.W.dataKind (PySem.W.sortingHeap (PySem.W.copyHeap s.heap its) (s.heap.objs.size + 1) its) ds) false its its).toArray
    exact ⟨.ref _, upd H (s.heap.objs.size + 1) (.lst ys), I.laid (t' := s.toks) (fun _ _ => PyProof.Rows.sortedAll_old) (Nat.le_succ _) ⟨hlen, _, ep, y1, he⟩, rfl, q _ _ y2 (I.hok.fresh (Nat.le_succ _))⟩
end
/-! as a new list -/
section
variable {X : Cx} {T : Tx} {W : WX} {e : Expr} {p pos : Pos} {f : Cm D} {fa : Cm (List D)} {k : Nat}
theorem oe_sorted (hm : X.mg "sorted" = none) (hr : Room k X.A) (ha : DE X T W e f) (hg : Gl X "sorted" := by rfl) (he : starEach (e :: []) X.env = (false, eval e X.env) :: starEach [] X.env := by rfl) (hpl : (backTo pos (starEach [] X.env)).any (·.1) = false := by rfl) :
    OE X T W (.Call (.Name "sorted" p) [e] [] pos) (caL (argC f argN) sortD) :=
  PE_imp (pe_callB (cr_srt hr) hg hm (by rfl) (da_cons ha da_nil he) (he := he) (hpl := hpl)) fun σ H Q ⟨G, ρ, F, rp, h⟩ => ⟨G, ρ, F, rp, h.bind.imp fun ds ρ1 F1 H1 s1 rp1 h1 vs hv => by
    obtain ⟨xs, e, h2⟩ := h1.lift
    unfold sortD at e
    split at e
    · split at e
      · rename_i z
        cases e
        cases hv with
        | cons hx ht =>
          cases ht
          cases hx with
          | @lst a us _ r1 a1 =>
            exact ⟨a, us, _, Dq X.K F1, rfl, .inl (.inl (Rd_ext rp1.same r1)), DqAll_dp (DqAll_ext rp1.same a1), z, DqAll_each a1, fun p ys hy hn => h2.ret (rp1.gr (rp1.grown hn)) (.refl _) _ (rp1.new hn (each_DqAll hy))⟩
      · cases e
    · split at e
      · rename_i z
        cases e
        cases hv with
        | cons hx ht =>
          cases ht
          cases hx with
          | @tup a us _ r1 a1 =>
              exact ⟨a, us, _, Dq X.K F1, rfl, .inr (SqT_ext rp1.same r1), DqAll_dp (DqAll_ext rp1.same a1), z, DqAll_each a1, fun p ys hy hn => h2.ret (rp1.gr (rp1.grown hn)) (.refl _) _ (rp1.new hn (each_DqAll hy))⟩
      · cases e
    · cases e⟩
end
end PL
end S_PLQ2

section S_PLT
namespace SLI
open PySem PySem.Spec PyProof.Rows L2
/-! ### set(xs) of a list of ints, as sorting wants it -/
section
variable {P : Program} {w : World} {A : Around} {E : Value → Shared → Prop} {s : Shared}
abbrev emptyS (w : World) : Obj := { cls := .type "set", dict := none, data := .set #[] 0 (.fresh 0 0 (!w.params.followText "set-order")) }
/-- what set's own __init__ does with a list of ints -/
theorem init_ints {l S : Addr} {items : Array Value} {ns : List Int} {R : Result → Shared → Prop} (hh : A.handled = none) (hl : s.heap.IsList l items) (it : IntsAre items.toList ns) (hb : ns.length + 1 < scanBound) (hS : s.heap.get? S = some (emptyS w)) (hS2 : S < s.heap.objs.size) (hlS : l ≠ S)
    (h : ∀ h' tk c, SetR w h' S (fun j => decide (j ∈ ns)) c → c ≤ ns.length → (∀ b o, b ≠ S → s.heap.get? b = some o → h'.get? b = some o) → R (.ok (.ret .none)) { s with heap := h', toks := tk }) :
    wpAny (model P w) A.in1 (Builtin.«set.__init__» ⟨[.ref S, .ref l], []⟩) (fun fin s' => match fin with | .done f => R (.ok f) s' | .again c' => c'.quiet = true ∧ codeAny (model P w) A c' R s') (fun e s' => R (.error e) s') s := by
  have hisz : items.size = ns.length := (Array.length_toList).symm.trans (IntsAre.length it)
  have hT : s.TypeIs (.ref S) "set" := ⟨_, hS, rfl⟩
  obtain ⟨ol, hol, hcl, nl, hdl⟩ := id hl
  obtain ⟨oc, od, odt, osl⟩ := ol
  cases hcl; cases hdl
  have a1 := PySem.F.sub_list_set; have a2 := PySem.F.sub_list_frozenset
  have a3 : (Value.type "list" == Value.type "dict") = false := by decide
  have a4 : A.in1.in1.handled = none := hh
  have lS : l < s.heap.objs.size := Heap.lt_size hol
  unfold Builtin.«set.__init__» noKeywords Builtin.Frozenset.updateFrom
  generalize hPI : pyIter = PI
  wp_walk
  subst hPI
  refine wpAny_pyIter_list hl ?_
  refine wpAny_bind (wpAny_runValue ?_)
  have n1 : (s.heap.push { cls := .type "list_iterator", data := .fields #[.ref l, .int 0 0] }).objs.size = s.heap.objs.size + 1 := size_push' ..
  have d1 : l ≠ s.heap.objs.size := Nat.ne_of_lt lS
  have d2 : S ∉ [s.heap.objs.size, l] := fun q => by
    rcases List.mem_cons.mp q with q | q
    · exact absurd q (Nat.ne_of_lt hS2)
    · exact hlS (List.mem_singleton.mp q).symm
  have val : ∀ (i : Nat) (v : Value), items[i]? = some v → ∃ k t, ns[i]? = some k ∧ v = .int k t := fun i v hv => by
    have hi : i < ns.length := hisz ▸ (Array.getElem?_eq_some_iff.mp hv).1
    obtain ⟨t, e⟩ := IntsAre.int_at it i v (by rw [Array.getElem?_toList]; exact hv)
    have e2 : ns.getD i 0 = ns[i] := by rw [List.getD_eq_getElem?_getD, List.getElem?_eq_getElem hi]; rfl
    exact ⟨ns[i], t, List.getElem?_eq_getElem hi, e.trans (by rw [e2])⟩
  refine set_update_ints (A := A.in1) ((Walks.list a4 _ l d1 items).toS) S d2 ns hisz hb val (items.size - 0) 0 _ (Nat.sub_zero _) (Nat.zero_le _) ⟨⟨_, Heap.get?_push_size _ rfl, rfl, rfl⟩, hl.push _⟩ ⟨0, Nat.le_refl 0, setR_new_at (Heap.get?_push_of_some _ hS)⟩ ?_
  intro s' c m hc q
  obtain ⟨h', g', d', tk', os'⟩ := s'
  cases (show g' = s.gens from m.gens); cases (show d' = s.drawn from m.drawn); cases (show os' = s.os from m.os)
  show wpAny _ _ _ _ _ _
  refine wpAny_pure ?_
  show wpAny _ _ (ret Value.none) _ _ _
  refine wpAny_pure (h h' tk' c q (by rw [← hisz]; exact hc) fun b o hb e => m.heap b o (fun z => ?_) (Heap.get?_push_of_some _ e))
  rcases List.mem_cons.mp z with z | z
  · exact hb z
  · exact absurd (List.mem_singleton.mp z) (Nat.ne_of_lt (Heap.lt_size e))
set_option maxHeartbeats 3200000 in
/-- set(xs) -/
theorem call_set_ints {l : Addr} {items : Array Value} {ns : List Int} {Q : Value → Shared → Prop} (hh : A.handled = none) (hl : s.heap.IsList l items) (it : IntsAre items.toList ns) (hb : ns.length + 1 < scanBound)
    (h : ∀ h' tk c, SetR w h' s.heap.objs.size (fun j => decide (j ∈ ns)) c → c ≤ ns.length → (∀ b o, s.heap.get? b = some o → h'.get? b = some o) → Q (.ref s.heap.objs.size) { s with heap := h', toks := tk }) :
    wpAny (model P w) A (call (.type "set") [.ref l]) Q E s := by
  have T := PySem.F.called_set
  obtain ⟨t1, t2, ⟨c, tl, t3⟩, t4, t5, t6, t7⟩ := id T
  have t8 := PySem.F.typeCall_set_1 (.ref l)
  have lS : l < s.heap.objs.size := by obtain ⟨o, ho, _⟩ := hl; exact Heap.lt_size ho
  refine wpAny_call (codeAny_of_tree ?_)
  show wpAny _ _ (callAny (.type "set") _) _ _ _
  refine wpAny_pure ⟨Code.quiet_builtin _ (by decide +kernel), codeAny_builtin PySem.F.entry_type_call ?_⟩
  rw [Around.under_plain (weight_type_call_type "set" [.ref l] []) rfl]
  repeat (any_goals (first | assumption | wp_step))
  refine codeAny_mono (code_set_led1 (.ref l) (E := E) (Q₁ := fun o s₁ => o = .ref s.heap.objs.size ∧ s₁ = { s with heap := s.heap.push (emptyS w) }) ⟨rfl, rfl⟩) fun r s₁ hr => ?_
  cases r with
  | error e => exact hr
  | ok fl => cases fl with
    | ret obj =>
      obtain ⟨rfl, rfl⟩ := hr
      have g1 : (s.heap.push (emptyS w)).get? s.heap.objs.size = some (emptyS w) := Heap.get?_push_size _ rfl
      have g2 : Shared.TypeIs { s with heap := s.heap.push (emptyS w) } (.ref s.heap.objs.size) "set" := ⟨_, g1, rfl⟩
      have g3 := t7.lookup
      have g4 := t7.bind (.ref s.heap.objs.size)
      have g5 : (s.heap.push (emptyS w)).objs.size = s.heap.objs.size + 1 := size_push' ..
      repeat (any_goals (first | assumption | wp_step))
      refine codeAny_mono (codeAny_call_builtin (R := wants (fun r s₂ => r = .none ∧ ∃ h' tk c, s₂ = { s with heap := h', toks := tk } ∧ SetR w h' s.heap.objs.size (fun j => decide (j ∈ ns)) c ∧ c ≤ ns.length ∧ ∀ b o, s.heap.get? b = some o → h'.get? b = some o) E) t7.plain PySem.F.entry_set_init (check_set_init_1 g2 ?_)) fun r₂ s₂ hr₂ => ?_
      · refine init_ints (A := A.in1) (s := { s with heap := s.heap.push (emptyS w) }) hh (hl.push _) it hb g1 (by rw [g5]; exact Nat.lt_succ_self _) (Nat.ne_of_lt lS) fun h' tk c q1 q2 q3 => ?_
        exact ⟨rfl, h', tk, c, rfl, q1, q2, fun b o e => q3 b o (Nat.ne_of_lt (Heap.lt_size e)) (Heap.get?_push_of_some _ e)⟩
      · cases r₂ with
        | error e => exact hr₂
        | ok fl₂ => cases fl₂ with
          | ret r =>
            obtain ⟨rfl, h', tk, c, rfl, q1, q2, q3⟩ := hr₂
            repeat (any_goals (first | assumption | wp_step))
            exact h _ _ _ q1 q2 q3
          | _ => exact hr₂.elim
    | _ => exact hr.elim
end
end SLI
end S_PLT

section S_PLT2
namespace PL
open PySem PySem.Spec PyProof.Rows L2
/-! ### ints, each once, ascending -/
def insS (x : Int) : List Int → List Int
  | [] => [x]
  | y :: r => if x < y then x :: y :: r else if x = y then y :: r else y :: insS x r
def sset (ns : List Int) : List Int := ns.foldr insS []
theorem mem_insS {x z : Int} : ∀ {l : List Int}, z ∈ insS x l ↔ z = x ∨ z ∈ l
  | [] => by simp [insS]
  | y :: r => by
    unfold insS
    split
    · simp
    · split
      · rename_i h
        subst h
        simp
      · simp [mem_insS (l := r)]
        constructor
        · rintro (h | h | h) <;> simp [h]
        · rintro (h | h | h) <;> simp [h]
theorem insS_pw {x : Int} : ∀ {l : List Int}, l.Pairwise (· < ·) → (insS x l).Pairwise (· < ·)
  | [], _ => List.pairwise_singleton _ _
  | y :: r, h => by
    obtain ⟨h1, h2⟩ := List.pairwise_cons.mp h
    unfold insS
    split
    · rename_i hx
      refine List.pairwise_cons.mpr ⟨fun z hz => ?_, h⟩
      rcases List.mem_cons.mp hz with rfl | hz
      · exact hx
      · have := h1 z hz
        omega
    · split
      · exact h
      · refine List.pairwise_cons.mpr ⟨fun z hz => ?_, insS_pw h2⟩
        rcases mem_insS.mp hz with rfl | hz
        · omega
        · exact h1 z hz
theorem sset_mem {z : Int} : ∀ {ns : List Int}, z ∈ sset ns ↔ z ∈ ns
  | [] => by simp [sset]
  | x :: ns => by
    show z ∈ insS x (sset ns) ↔ _
    rw [mem_insS, sset_mem, List.mem_cons]
theorem sset_pw : ∀ {ns : List Int}, (sset ns).Pairwise (· < ·)
  | [] => List.Pairwise.nil
  | x :: ns => insS_pw (sset_pw (ns := ns))
theorem sset_is {ns l : List Int} (h1 : l.Pairwise (· < ·)) (h2 : ∀ x, x ∈ l ↔ x ∈ ns) : l = sset ns :=
  sorted_ext _ _ h1 sset_pw fun x => by rw [h2, sset_mem]
theorem nodup_le : ∀ {l m : List Int}, l.Nodup → (∀ x ∈ l, x ∈ m) → l.length ≤ m.length
  | [], m, _, _ => Nat.zero_le _
  | x :: l, m, h, hm => by
    obtain ⟨h1, h2⟩ := List.nodup_cons.mp h
    have hx := hm x (List.mem_cons_self ..)
    have ih := nodup_le (m := m.erase x) h2 fun y hy => by
      have hne : y ≠ x := fun z => h1 (z ▸ hy)
      exact (List.mem_erase_of_ne hne).mpr (hm y (List.mem_cons_of_mem _ hy))
    have e := List.length_erase_of_mem hx
    have hp : 0 < m.length := List.length_pos_of_mem hx
    rw [List.length_cons]
    omega
theorem lt_nodup {l : List Int} (h : l.Pairwise (· < ·)) : l.Nodup := h.imp fun h z => by omega
theorem sset_len {ns l : List Int} (h1 : l.Nodup) (h2 : ∀ x, x ∈ l ↔ x ∈ ns) : l.length = (sset ns).length :=
  Nat.le_antisymm (nodup_le h1 fun x hx => sset_mem.mpr ((h2 x).mp hx)) (nodup_le (lt_nodup sset_pw) fun x hx => (h2 x).mpr (sset_mem.mp hx))
section
variable {X : Cx}
theorem intsA {ns : List Int} {us : List Value} (h : Vals (ns.map V.int) us) : IntsAre us ns := RZ.intsAre_vals h
/-- set(xs), ints -/
def rSetL (K : PySem.W.Frag) (w : World) : List V → Hp → VK → Prop := fun vs H Q => ∃ (a : Addr) (ns : List Int), vs = [.ref a] ∧ (SqL K H a (ns.map V.int) ∨ SqT K H a (ns.map V.int)) ∧ ns.length < 4000 ∧
  ∀ p, H p = none → Q (.ref p) (upd H p (SetO w p (fun j => decide (j ∈ ns)) (sset ns).length))
theorem setR_n {w : World} {h : Heap} {a : Addr} {ns : List Int} {c : Nat} (R : SetR w h a (fun j => decide (j ∈ ns)) c) : c = (sset ns).length := by
  obtain ⟨o, es, ep, t, _, _, _, _, nd, hm, _, _, hn, _⟩ := R
  rw [← hn, ← Array.length_toList, ← List.length_map (f := keyOf)]
  exact sset_len nd fun x => by rw [← hm x, decide_eq_true_eq]
theorem cr_setL (hc : X.calm = true) : CallR X (.type "set") (rSetL X.K X.w) := by
  intro pins s σ H vs us Q I r h
  obtain ⟨a, ns, rfl, hs, hn, q⟩ := h
  rw [Vals.ref1 r]
  have fin : ∀ (h' : Heap) (tk c : Nat), SetR X.w h' s.heap.objs.size (fun j => decide (j ∈ ns)) c → c ≤ ns.length → (∀ b o, s.heap.get? b = some o → h'.get? b = some o) → EP X pins σ Q (.ref s.heap.objs.size) { s with heap := h', toks := tk } := by
    intro h' tk c R _ k
    have e := setR_n R
    subst e
    exact ⟨.ref _, _, I.laid (t' := tk) k (Nat.le_refl _) (setO_new R), rfl, q _ (I.hok.fresh (Nat.le_refl _))⟩
  rcases hs with hs | hs
  · obtain ⟨its, rv, hl, hz⟩ := I.list hs
    exact SLI.call_set_ints (P := X.prog) (w := X.w) (ns := ns) (I.ok.hd hc) hl.isList (by simpa using intsA rv) (by unfold scanBound; omega) fin
  · obtain ⟨its, rv, hl, hz⟩ := I.tuple hs
    exact call_set_tupI (P := X.prog) (w := X.w) ns (I.ok.hd hc) hl (by simpa using intsA rv) (by unfold scanBound; omega) fin
/-- len(s), s a set of ints -/
def rLenS (w : World) : List V → Hp → VK → Prop := fun vs H Q => ∃ (a : Addr) (S : Int → Bool) (n : Nat), vs = [.ref a] ∧ H a = some (SetO w a S n) ∧ Q (.int (n : Int)) H
theorem cr_lenS : CallR X (.builtin "len") (rLenS X.w) := by
  intro pins s σ H vs us Q I r h
  obtain ⟨a, S, n, rfl, ha, q⟩ := h
  obtain ⟨o, es, ep, t, ho, hex, hd, _, _, _, hb, hf, hn, _⟩ := setO_get I ha
  rw [Vals.ref1 r]
  unfold scanBound at hb
  exact call_len_set ho hex hd hf (by omega) ⟨.int (n : Int), H, I.tok _, ⟨_, by rw [hn]⟩, q⟩
end
/-! as data -/
def setI : List D → Option (List Int)
  | [.list ds] => toInts ds
  | [.tuple ds] => toInts ds
  | _ => none
/-- len(set(xs)) -/
def lenSD (ds : List D) : Option D := (setI ds).bind fun ns => if decide (ns.length < 4000) then some (.int ((sset ns).length : Int)) else none
/-- sorted(set(xs)) -/
def srtSD (ds : List D) : Option (List D) := (setI ds).bind fun ns => if decide (ns.length < 4000) && decide ((sset ns).length < 64) then some ((sset ns).map .int) else none
theorem DqAll_of_ints {K : PySem.W.Frag} {F : Hp} : ∀ (ns : List Int), DqAll K F (ns.map V.int) (ns.map .int)
  | [] => .nil
  | n :: ns => .cons (.int _) (DqAll_of_ints ns)
section
variable {X : Cx} {T : Tx} {W : WX} {e : Expr} {p p2 pos pos2 : Pos} {f : Cm D}
theorem setI_arg {K : PySem.W.Frag} {F H : Hp} {ds : List D} {vs : List V} {ns : List Int} (s : Same F H) (hv : DqAll K F vs ds) (h : setI ds = some ns) : ∃ a, vs = [.ref a] ∧ (SqL K H a (ns.map V.int) ∨ SqT K H a (ns.map V.int)) := by
  unfold setI at h
  split at h
  · cases hv with
    | cons hx ht =>
      cases ht
      cases hx with
      | @lst a us _ r1 a1 =>
        rw [toInts_eq h a1] at r1
        exact ⟨a, rfl, .inl (.inl (Rd_ext s r1))⟩
  · cases hv with
    | cons hx ht =>
      cases ht
      cases hx with
      | @tup a us _ r1 a1 =>
        rw [toInts_eq h a1] at r1
        exact ⟨a, rfl, .inr (SqT_ext s r1)⟩
  · cases h
theorem de_lenSet (hm : X.mg "len" = none) (hm2 : X.mg "set" = none) (hc : X.calm = true) (ha : DE X T W e f) (hg : Gl X "len" := by rfl) (hg2 : Gl X "set" := by rfl)
    (he : starEach (e :: []) X.env = (false, eval e X.env) :: starEach [] X.env := by rfl) (hpl : (backTo pos2 (starEach [] X.env)).any (·.1) = false := by rfl)
    (he2 : starEach (.Call (.Name "set" p2) [e] [] pos2 :: []) X.env = (false, eval (.Call (.Name "set" p2) [e] [] pos2) X.env) :: starEach [] X.env := by rfl) (hpl2 : (backTo pos (starEach [] X.env)).any (·.1) = false := by rfl) :
    DE X T W (.Call (.Name "len" p) [.Call (.Name "set" p2) [e] [] pos2] [] pos) (caM (argC f argN) lenSD) :=
  PE_imp (pe_callB cr_lenS hg hm (by rfl) (pa_cons (pe_callTy (cr_setL hc) hg2 hm2 (by rfl) (da_cons ha da_nil he) (he := he) (hpl := hpl)) pa_nil he2) (he := he2) (hpl := hpl2)) fun σ H Q ⟨G, ρ, F, rp, h⟩ => ⟨G, ρ, F, rp, h.bind.imp fun ds ρ1 F1 H1 s1 rp1 h1 vs hv => by
    obtain ⟨d, e, h2⟩ := h1.lift
    unfold lenSD at e
    cases q : setI ds with
    | none => rw [q] at e; cases e
    | some ns =>
      rw [q] at e
      change (if decide (ns.length < 4000) then some (PyData.int ((sset ns).length : Int)) else none) = some d at e
      split at e
      · rename_i z
        cases e
        obtain ⟨a, rfl, hs⟩ := setI_arg rp1.same hv q
        refine ⟨a, ns, rfl, hs, of_decide_eq_true z, fun p hn => ⟨p, _, _, rfl, upd_same, ?_⟩⟩
        exact h2.ret (rp1.gr (rp1.grown hn)) (.refl _) _ (.int _)
      · cases e⟩
theorem oe_srtSet (hm : X.mg "sorted" = none) (hm2 : X.mg "set" = none) (hc : X.calm = true) (ha : DE X T W e f) (hg : Gl X "sorted" := by rfl) (hg2 : Gl X "set" := by rfl)
    (he : starEach (e :: []) X.env = (false, eval e X.env) :: starEach [] X.env := by rfl) (hpl : (backTo pos2 (starEach [] X.env)).any (·.1) = false := by rfl)
    (he2 : starEach (.Call (.Name "set" p2) [e] [] pos2 :: []) X.env = (false, eval (.Call (.Name "set" p2) [e] [] pos2) X.env) :: starEach [] X.env := by rfl) (hpl2 : (backTo pos (starEach [] X.env)).any (·.1) = false := by rfl) :
    OE X T W (.Call (.Name "sorted" p) [.Call (.Name "set" p2) [e] [] pos2] [] pos) (caL (argC f argN) srtSD) :=
  PE_imp (pe_callB (cr_sortedSet hc) hg hm (by rfl) (pa_cons (pe_callTy (cr_setL hc) hg2 hm2 (by rfl) (da_cons ha da_nil he) (he := he) (hpl := hpl)) pa_nil he2) (he := he2) (hpl := hpl2)) fun σ H Q ⟨G, ρ, F, rp, h⟩ => ⟨G, ρ, F, rp, h.bind.imp fun ds ρ1 F1 H1 s1 rp1 h1 vs hv => by
    obtain ⟨d, e, h2⟩ := h1.lift
    unfold srtSD at e
    cases q : setI ds with
    | none => rw [q] at e; cases e
    | some ns =>
      rw [q] at e
      change (if (decide (ns.length < 4000) && decide ((sset ns).length < 64)) = true then some ((sset ns).map PyData.int) else none) = some d at e
      split at e
      · rename_i z
        cases e
        rw [Bool.and_eq_true, decide_eq_true_eq, decide_eq_true_eq] at z
        obtain ⟨z', hle⟩ := z
        obtain ⟨a, rfl, hs⟩ := setI_arg rp1.same hv q
        refine ⟨a, ns, rfl, hs, by omega, fun p hn => ⟨p, _, _, rfl, upd_same, by omega, fun ms p2 m1 m2 m3 hn2 => ?_⟩⟩
        have em : ms = sset ns := sset_is m1 fun x => by rw [m2, decide_eq_true_eq]
        subst em
        have rp2 := rp1.gr (rp1.grown (o := SetO X.w p (fun j => decide (j ∈ ns)) (sset ns).length) hn)
        exact h2.ret (rp2.gr (rp2.grown hn2)) (.refl _) _ (rp2.new hn2 (DqAll_of_ints _))
      · cases e⟩
end
end PL
end S_PLT2

section S_PLV
namespace PL
open PySem PySem.Spec PyProof.Rows L2
open PySem.W (EachIs AllAlike alike dataLe dataLt minD maxD AlikeAll)
/-! ### max(xs), min(xs) -/
def okMx (ds : List D) : Bool := (ds.all fun d => ds.all fun e => alike d e) && (ds.all fun d => !isNonB d) && (ds.all fun d => decide (d.depth ≤ 64))
theorem okMx_ok {ds : List D} (h : okMx ds = true) : AlikeAll ds ∧ ∀ d ∈ ds, d.depth ≤ 64 := by
  unfold okMx at h
  simp only [Bool.and_eq_true, List.all_eq_true, decide_eq_true_eq] at h
  obtain ⟨⟨h1, h2⟩, h3⟩ := h
  refine ⟨⟨fun d hd e he => h1 d hd e he, fun d hd z => ?_⟩, h3⟩
  subst z
  have := h2 _ hd
  simp [isNonB] at this
theorem depthAll_le {k : Nat} : ∀ {ds : List D}, (∀ d ∈ ds, d.depth ≤ k) → PyData.depthAll ds ≤ k
  | [], _ => by simp [PyData.depthAll]
  | d :: ds, h => by
    have h1 := depthAll_le fun x hx => h x (List.mem_cons_of_mem _ hx)
    have h2 := h d (List.mem_cons_self ..)
    simp only [PyData.depthAll]
    omega
theorem maxD_mem : ∀ (d : D) (ds : List D), maxD d ds ∈ d :: ds
  | d, [] => List.mem_singleton.mpr rfl
  | d, e :: ds => by
    have h := maxD_mem (if dataLt d e then e else d) ds
    show List.foldl _ (if dataLt d e then e else d) ds ∈ _
    rcases List.mem_cons.mp h with q | q
    · have q' : List.foldl (fun a y => if dataLt a y then y else a) (if dataLt d e then e else d) ds = if dataLt d e then e else d := q
      rw [q']
      split <;> simp
    · exact List.mem_cons_of_mem _ (List.mem_cons_of_mem _ q)
theorem minD_mem : ∀ (d : D) (ds : List D), minD d ds ∈ d :: ds
  | d, [] => List.mem_singleton.mpr rfl
  | d, e :: ds => by
    have h := minD_mem (if dataLt e d then e else d) ds
    show List.foldl _ (if dataLt e d then e else d) ds ∈ _
    rcases List.mem_cons.mp h with q | q
    · have q' : List.foldl (fun a y => if dataLt y a then y else a) (if dataLt e d then e else d) ds = if dataLt e d then e else d := q
      rw [q']
      split <;> simp
    · exact List.mem_cons_of_mem _ (List.mem_cons_of_mem _ q)
def mxD (mx : Bool) (d : D) (ds : List D) : D := if mx then maxD d ds else minD d ds
theorem mxD_mem {mx : Bool} {d : D} {ds : List D} : mxD mx d ds ∈ d :: ds := by
  cases mx
  · exact minD_mem d ds
  · exact maxD_mem d ds
theorem dpAll_at {K : PySem.W.Frag} {H : Hp} : ∀ {vs : List V} {ds : List D}, DpAll K H vs ds → ∀ {i : Nat} {v : V}, vs[i]? = some v → ∃ d, ds[i]? = some d ∧ Dp K H v d
  | _, _, .nil, _, _, h => by simp at h
  | _, _, .cons h t, 0, _, e => by simp at e; subst e; exact ⟨_, rfl, h⟩
  | _, _, .cons h t, i + 1, _, e => by
    obtain ⟨d, h1, h2⟩ := dpAll_at t (i := i) (by simpa using e)
    exact ⟨d, by simpa using h1, h2⟩
section
variable {X : Cx}
def rMx (mx : Bool) (K : PySem.W.Frag) : List V → Hp → VK → Prop := fun vs H Q => ∃ (a : Addr) (xs : List V) (d : D) (ds : List D), vs = [.ref a] ∧ (SqL K H a xs ∨ SqT K H a xs) ∧ DpAll K H xs (d :: ds) ∧ okMx (d :: ds) = true ∧
  ∀ (i : Nat) x, xs[i]? = some x → (d :: ds)[i]? = some (mxD mx d ds) → Q x H
abbrev mxN (mx : Bool) : String := if mx then "max" else "min"
theorem cr_mx {k : Nat} (mx : Bool) (hc : X.calm = true) (hr : Room k X.A) : CallR X (.builtin (mxN mx)) (rMx mx X.K) := by
  intro pins s σ H vs us Q I r h
  obtain ⟨a, xs, d, ds, rfl, hs, hd, ok, q⟩ := h
  rw [Vals.ref1 r]
  obtain ⟨o1, o2⟩ := okMx_ok ok
  have hu := hr.un
  have hdp := depthAll_le o2
  have fin : ∀ (its : List Value), Vals xs its → ∀ (i : Nat) v h' tk bs, its.toArray[i]? = some v → Reads h' v (mxD mx d ds) bs → (∀ b o, s.heap.get? b = some o → h'.get? b = some o) → EP X pins σ Q v { s with heap := h', toks := tk } := by
    intro its rv i v h' tk bs hi hR hk
    have hi' : its[i]? = some v := by simpa using hi
    have hl := rv.length
    have hlt : i < xs.length := by rw [hl]; exact (List.getElem?_eq_some_iff.mp hi').1
    obtain ⟨u, e1, ru⟩ := rv.get (List.getElem?_eq_getElem hlt)
    rw [hi'] at e1
    cases e1
    obtain ⟨d1, g1, g2⟩ := dpAll_at hd (List.getElem?_eq_getElem hlt)
    obtain ⟨as1, R1⟩ := Dp.reads I d1 xs[i] v g2 ru
    have R2 := PySem.W.reads_keeps hk R1
    have hm1 : d1 ∈ d :: ds := List.mem_of_getElem? g1
    have e := PySem.W.alike_unique _ _ _ _ _ (o1.1 d1 hm1 _ mxD_mem) R2 hR
    exact ⟨xs[i], H, I.kept (t' := tk) hk, ru, q i _ (List.getElem?_eq_getElem hlt) (by rw [g1, e])⟩
  rcases hs with hs | hs
  · obtain ⟨its, rv, hl, hz⟩ := I.list hs
    obtain ⟨as, rd⟩ := Dp.readsAll I (d :: ds) xs its hd rv
    cases mx
    · exact PySem.W.min_list_data (vs := its.toArray) (I.ok.hd hc) hl.isList (by simpa using rd) o1 (by omega) (fin its rv)
    · exact PySem.W.max_list_data (vs := its.toArray) (I.ok.hd hc) hl.isList (by simpa using rd) o1 (by omega) (fin its rv)
  · obtain ⟨its, rv, hl, hz⟩ := I.tuple hs
    obtain ⟨as, rd⟩ := Dp.readsAll I (d :: ds) xs its hd rv
    cases mx
    · exact PySem.W.min_tuple_data (vs := its.toArray) (I.ok.hd hc) hl (by simpa using rd) o1 (by omega) (fin its rv)
    · exact PySem.W.max_tuple_data (vs := its.toArray) (I.ok.hd hc) hl (by simpa using rd) o1 (by omega) (fin its rv)
end
def mxLD (mx : Bool) : List D → Option D
  | [.list (d :: ds)] => if okMx (d :: ds) then some (mxD mx d ds) else none
  | [.tuple (d :: ds)] => if okMx (d :: ds) then some (mxD mx d ds) else none
  | _ => none
theorem DqAll_at2 {K : PySem.W.Frag} {F : Hp} {vs : List V} {ds : List D} (h : DqAll K F vs ds) {i : Nat} {v : V} {d : D} (e : vs[i]? = some v) (e2 : ds[i]? = some d) : Dq K F v d := by
  obtain ⟨d', e1, e3⟩ := DqAll_at h e
  rw [e2] at e1
  cases e1
  exact e3
theorem cd_mx {K : PySem.W.Frag} (mx : Bool) : CaD K (rMx mx K) (mxLD mx) := fun F H xs ds z Q s h1 h3 h4 => by
  unfold mxLD at h3
  split at h3
  · rename_i d ds'
    split at h3
    · rename_i hz
      cases h3
      obtain ⟨v, rfl, h⟩ := h1.one
      obtain ⟨a, us, rfl, r1, a1⟩ := h.lst s
      exact ⟨a, us, d, ds', rfl, .inl (.inl r1), DqAll_dp (DqAll_ext s a1), hz, fun i x hx hd => h4 F H x (.refl s) (DqAll_at2 a1 hx hd)⟩
    · cases h3
  · rename_i d ds'
    split at h3
    · rename_i hz
      cases h3
      obtain ⟨v, rfl, h⟩ := h1.one
      obtain ⟨a, us, rfl, r1, a1⟩ := h.tup s
      exact ⟨a, us, d, ds', rfl, .inr r1, DqAll_dp (DqAll_ext s a1), hz, fun i x hx hd => h4 F H x (.refl s) (DqAll_at2 a1 hx hd)⟩
    · cases h3
  · cases h3
/-! ### comb(a, b) -/
section
variable {X : Cx}
def rCmb : List V → Hp → VK → Prop := fun vs H Q => ∃ a b : Int, vs = [.int a, .int b] ∧ 0 ≤ a ∧ 0 ≤ b ∧ a ≤ 18000 ∧ Q (.int (PySem.W.mcComb a b)) H
theorem cr_cmb : CallR X (.builtin "math.comb") rCmb := by
  intro pins s σ H vs us Q I r h
  obtain ⟨a, b, rfl, h1, h2, h3, q⟩ := h
  cases r with
  | cons r r1 => cases r1 with
    | cons r' r1 =>
      cases r1
      obtain ⟨t, rfl⟩ := r
      obtain ⟨t', rfl⟩ := r'
      exact PySem.W.mc_comb h1 h2 (by omega) (.inr h3) fun _ => ⟨.int _, H, I.tok _, ⟨_, rfl⟩, q⟩
end
def cmbD : List D → Option D
  | [.int a, .int b] => if decide (0 ≤ a) && decide (0 ≤ b) && decide (a ≤ 18000) then some (.int (PySem.W.mcComb a b)) else none
  | _ => none
theorem cd_cmb {K : PySem.W.Frag} : CaD K rCmb cmbD := fun F H xs ds z Q s h1 h3 h4 => by
  unfold cmbD at h3
  split at h3
  · split at h3
    · rename_i hz
      cases h3
      simp only [Bool.and_eq_true, decide_eq_true_eq] at hz
      obtain ⟨v, w, rfl, hx, hy⟩ := h1.two
      obtain rfl := hx.int
      obtain rfl := hy.int
      exact ⟨_, _, rfl, hz.1.1, hz.1.2, hz.2, h4 F H _ (.refl s) (.int _)⟩
    · cases h3
  · cases h3
section
variable {X : Cx} {T : Tx} {W : WX} {e e1 e2 : Expr} {px pos : Pos} {f g : Cm D} {k : Nat}
theorem b_maxL (hm : X.mg "max" = none) (hc : X.calm = true) (hr : Room k X.A) (ha : DE X T W e f) (hg : Gl X "max" := by rfl) (he : starEach (e :: []) X.env = (false, eval e X.env) :: starEach [] X.env := by rfl) (hpl : (backTo pos (starEach [] X.env)).any (·.1) = false := by rfl) :
    DE X T W (.Call (.Name "max" px) [e] [] pos) (caM (argC f argN) (mxLD true)) := de_caB (cr_mx true hc hr) (cd_mx true) hg hm (by rfl) (da_cons ha da_nil he) (he := he) (hpl := hpl)
theorem b_minL (hm : X.mg "min" = none) (hc : X.calm = true) (hr : Room k X.A) (ha : DE X T W e f) (hg : Gl X "min" := by rfl) (he : starEach (e :: []) X.env = (false, eval e X.env) :: starEach [] X.env := by rfl) (hpl : (backTo pos (starEach [] X.env)).any (·.1) = false := by rfl) :
    DE X T W (.Call (.Name "min" px) [e] [] pos) (caM (argC f argN) (mxLD false)) := de_caB (cr_mx false hc hr) (cd_mx false) hg hm (by rfl) (da_cons ha da_nil he) (he := he) (hpl := hpl)
theorem b_comb (hm : X.mg "comb" = some (.builtin "math.comb")) (ha : DE X T W e1 f) (hb : DE X T W e2 g) (hg : Gl X "comb" := by rfl) (he : starEach (e1 :: [e2]) X.env = (false, eval e1 X.env) :: starEach [e2] X.env := by rfl) (he2 : starEach (e2 :: []) X.env = (false, eval e2 X.env) :: starEach [] X.env := by rfl) (hpl : (backTo pos (starEach [e2] X.env)).any (·.1) = false := by rfl) :
    DE X T W (.Call (.Name "comb" px) [e1, e2] [] pos) (caM (argC f (argC g argN)) cmbD) := PE_imp (pe_callBfun cr_cmb hg hm (da_cons ha (da_cons hb da_nil he2) he) (he := he) (hpl := hpl)) fun σ H Q h => ca_read cd_cmb h
theorem b_maxLO (hm : X.mg "max" = none) (hc : X.calm = true) (hr : Room k X.A) (i : Nat) {y : Str} {py : Pos} (hg : Gl X "max" := by rfl) (hN : X.N[i]? = some y := by rfl) (hv : Vis X.env.scope y := by first | exact Or.inl rfl | exact Or.inr (Or.inl rfl) | exact Or.inr (Or.inr rfl)) (hdd : (y == ("__debug__" : Str)) = false := by decide) (hcd : (y == ("__classdict__" : Str)) = false := by decide)
    (he : starEach (.Name y py :: []) X.env = (false, eval (.Name y py) X.env) :: starEach [] X.env := by rfl) (hpl : (backTo pos (starEach [] X.env)).any (·.1) = false := by rfl) :
    DE X T W (.Call (.Name "max" px) [.Name y py] [] pos) (caO i (mxLD true)) := de_caBO (cr_mx true hc hr) (cd_mx true) hg hm (by rfl) hN hv (hdd := hdd) (hcd := hcd) (he := he) (hpl := hpl)
theorem b_minLO (hm : X.mg "min" = none) (hc : X.calm = true) (hr : Room k X.A) (i : Nat) {y : Str} {py : Pos} (hg : Gl X "min" := by rfl) (hN : X.N[i]? = some y := by rfl) (hv : Vis X.env.scope y := by first | exact Or.inl rfl | exact Or.inr (Or.inl rfl) | exact Or.inr (Or.inr rfl)) (hdd : (y == ("__debug__" : Str)) = false := by decide) (hcd : (y == ("__classdict__" : Str)) = false := by decide)
    (he : starEach (.Name y py :: []) X.env = (false, eval (.Name y py) X.env) :: starEach [] X.env := by rfl) (hpl : (backTo pos (starEach [] X.env)).any (·.1) = false := by rfl) :
    DE X T W (.Call (.Name "min" px) [.Name y py] [] pos) (caO i (mxLD false)) := de_caBO (cr_mx false hc hr) (cd_mx false) hg hm (by rfl) hN hv (hdd := hdd) (hcd := hcd) (he := he) (hpl := hpl)
end
end PL
end S_PLV

section S_PLZ
namespace PL
open PySem PySem.Spec PyProof.Rows L2
/-! ### comprehensions whose slots hold no list of their own -/
theorem wipeE_get (ρ : En) (vs : List Nat) (j : Nat) : (wipeE ρ vs)[j]? = (ρ[j]?).map fun s => if vs.contains j then Sl.no else s := by
  unfold wipeE
  rw [List.getElem?_mapIdx]
theorem back_wipe (ρ : En) (vs : List Nat) : backE ρ (wipeE ρ vs) vs = ρ := by
  unfold backE
  refine List.ext_getElem? fun j => ?_
  rw [List.getElem?_mapIdx, wipeE_get]
  cases q : ρ[j]? with
  | none => rfl
  | some s =>
    simp only [Option.map_some]
    by_cases hv : vs.contains j = true
    · rw [if_pos hv]
      rfl
    · rw [if_neg hv, if_neg hv]
theorem wipeE_set (ρ : En) (vs : List Nat) {k : Nat} {s : Sl} (h : vs.contains k = true) : wipeE (ρ.set k s) vs = wipeE ρ vs := by
  refine List.ext_getElem? fun j => ?_
  rw [wipeE_get, wipeE_get]
  by_cases e : k = j
  · subst e
    by_cases hl : k < ρ.length
    · rw [List.getElem?_set_self hl, List.getElem?_eq_getElem hl]
      simp only [Option.map_some, h, if_true]
    · rw [List.getElem?_eq_none (by rw [List.length_set]; omega), List.getElem?_eq_none (by omega)]
  · rw [List.getElem?_set_ne e]
theorem wipeE_wipe (ρ : En) (vs : List Nat) : wipeE (wipeE ρ vs) vs = wipeE ρ vs := by
  refine List.ext_getElem? fun j => ?_
  rw [wipeE_get, wipeE_get]
  cases ρ[j]? with
  | none => rfl
  | some s =>
    simp only [Option.map_some]
    split <;> simp_all
/-- the slot as it is set over what was wiped -/
theorem wipe_over (ρ : En) (k : Nat) (s : Sl) : (wipeE ρ [k]).set k s = ρ.set k s := by
  refine List.ext_getElem? fun j => ?_
  by_cases e : k = j
  · subst e
    by_cases hl : k < ρ.length
    · rw [List.getElem?_set_self (by unfold wipeE; simpa using hl), List.getElem?_set_self hl]
    · rw [List.getElem?_eq_none (by unfold wipeE; simp; omega), List.getElem?_eq_none (by simp; omega)]
  · rw [List.getElem?_set_ne e, List.getElem?_set_ne e, wipeE_get]
    have : ¬ j = k := fun z => e z.symm
    cases ρ[j]? with
    | none => rfl
    | some x => simp [this]
theorem wipe_over2 (ρ : En) (a b : Nat) (s u : Sl) : ((wipeE ρ [a, b]).set a s).set b u = (ρ.set a s).set b u := by
  refine List.ext_getElem? fun j => ?_
  have hlen : (wipeE ρ [a, b]).length = ρ.length := by unfold wipeE; simp
  by_cases e : b = j
  · subst e
    by_cases hl : b < ρ.length
    · rw [List.getElem?_set_self (by simpa [hlen] using hl), List.getElem?_set_self (by simpa using hl)]
    · rw [List.getElem?_eq_none (by simp [hlen]; omega), List.getElem?_eq_none (by simp; omega)]
  · rw [List.getElem?_set_ne e, List.getElem?_set_ne e]
    by_cases e2 : a = j
    · subst e2
      by_cases hl : a < ρ.length
      · rw [List.getElem?_set_self (by simpa [hlen] using hl), List.getElem?_set_self hl]
      · rw [List.getElem?_eq_none (by simp [hlen]; omega), List.getElem?_eq_none (by simp; omega)]
    · rw [List.getElem?_set_ne e2, List.getElem?_set_ne e2, wipeE_get]
      have h1 : ¬ j = a := fun z => e2 z.symm
      have h2 : ¬ j = b := fun z => e z.symm
      cases ρ[j]? with
      | none => rfl
      | some x => simp [h1, h2]
theorem size16 {n : Nat} (h : n ≤ 16777216) : sizeOkL n = true := by
  unfold sizeOkL
  simp
  omega
/-- one name; what is walked and looked at leaves the state as it is -/
theorem lcM_one {γ : Type} {k : Nat} {fi : Cm (List D)} {t : Cm Bool} {e : Cm D} {ρ ρ1 : En} (hn : noOwn ρ1 [k] = true) (h : γ → D) (p : γ → Bool) (f : γ → D) (xs : List γ) (hfi : fi ρ = .ok (xs.map h) ρ1) (hl : xs.length ≤ 16777216)
    (ht : ∀ x ∈ xs, t (ρ1.set k (.dat (h x))) = .ok (p x) (ρ1.set k (.dat (h x)))) (he : ∀ x ∈ xs, p x = true → e (ρ1.set k (.dat (h x))) = .ok (f x) (ρ1.set k (.dat (h x)))) :
    lcM [k] fi (stD k) t e ρ = .ok ((xs.filter p).map f) ρ1 := by
  have key := lcM_of (vs := [k]) (fi := fi) (g := stD k) (t := t) (e := e) (ρ := ρ) (ρ1 := ρ1) (ρ2 := wipeE ρ1 [k]) (ys := (xs.filter p).map f) hfi (by
    rw [hn, List.length_map, size16 hl]
    rfl) (by
    refine lcL_pure h p f xs fun x hx => ?_
    refine ⟨ρ1.set k (.dat (h x)), ρ1.set k (.dat (h x)), by rw [stD_ap, wipe_over], ht x hx, fun q => ⟨_, he x hx q, wipeE_set _ _ (by simp)⟩, fun _ => wipeE_set _ _ (by simp)⟩)
  rw [key, back_wipe]
/-- two names that a pair is taken apart into -/
theorem lcM_two {a b : Nat} {fi : Cm (List D)} {t : Cm Bool} {e : Cm D} {ρ ρ1 : En} (hn : noOwn ρ1 [a, b] = true) (p : Pr → Bool) (f : Pr → D) (xs : List Pr) (hfi : fi ρ = .ok (xs.map pD) ρ1) (hl : xs.length ≤ 16777216)
    (ht : ∀ x ∈ xs, t ((ρ1.set a (.dat (.int x.1))).set b (.dat (.int x.2))) = .ok (p x) ((ρ1.set a (.dat (.int x.1))).set b (.dat (.int x.2))))
    (he : ∀ x ∈ xs, p x = true → e ((ρ1.set a (.dat (.int x.1))).set b (.dat (.int x.2))) = .ok (f x) ((ρ1.set a (.dat (.int x.1))).set b (.dat (.int x.2)))) :
    lcM [a, b] fi (gTupM 2 (gConsM (stD a) (gConsM (stD b) gNilM))) t e ρ = .ok ((xs.filter p).map f) ρ1 := by
  have key := lcM_of (vs := [a, b]) (fi := fi) (g := gTupM 2 (gConsM (stD a) (gConsM (stD b) gNilM))) (t := t) (e := e) (ρ := ρ) (ρ1 := ρ1) (ρ2 := wipeE ρ1 [a, b]) (ys := (xs.filter p).map f) hfi (by
    rw [hn, List.length_map, size16 hl]
    rfl) (by
    refine lcL_pure pD p f xs fun x hx => ?_
    refine ⟨(ρ1.set a (.dat (.int x.1))).set b (.dat (.int x.2)), (ρ1.set a (.dat (.int x.1))).set b (.dat (.int x.2)), ?_, ht x hx, fun q => ⟨_, he x hx q, ?_⟩, fun _ => ?_⟩
    · rw [← wipe_over2]
      rfl
    · rw [wipeE_set _ _ (by simp), wipeE_set _ _ (by simp)]
    · rw [wipeE_set _ _ (by simp), wipeE_set _ _ (by simp)])
  rw [key, back_wipe]
theorem filter_true {γ : Type} (xs : List γ) : xs.filter (fun _ => true) = xs := List.filter_eq_self.mpr fun _ _ => rfl
/-! ### pairs of a few -/
theorem sublist_filter {γ : Type} [DecidableEq γ] : ∀ {l m : List γ}, m.Nodup → l.Sublist m → m.filter (fun x => decide (x ∈ l)) = l
  | _, _, _, .slnil => rfl
  | l, y :: m, hn, .cons _ h => by
    obtain ⟨h1, h2⟩ := List.nodup_cons.mp hn
    have hy : y ∉ l := fun z => h1 (h.subset z)
    rw [List.filter_cons_of_neg (by simpa using hy)]
    exact sublist_filter h2 h
  | x :: l, _ :: m, hn, .cons_cons _ h => by
    obtain ⟨h1, h2⟩ := List.nodup_cons.mp hn
    rw [List.filter_cons_of_pos (by simp)]
    have e : m.filter (fun z => decide (z ∈ x :: l)) = m.filter (fun z => decide (z ∈ l)) := List.filter_congr fun z hz => by
      have : z ≠ x := fun q => h1 (q ▸ hz)
      simp [this]
    rw [e, sublist_filter h2 h]
theorem head_sset {ns : List Int} (h : (sset ns).length < 2) (h0 : ns ≠ []) : sset ns = [ns.headD 0] := by
  cases ns with
  | nil => exact absurd rfl h0
  | cons x ns =>
    have hx : x ∈ sset (x :: ns) := sset_mem.mpr (by simp)
    match hs : sset (x :: ns), h, hx with
    | [], _, hx => cases hx
    | [y], _, hx => rw [List.mem_singleton.mp hx]; rfl
    | _ :: _ :: _, h, _ => exact absurd h (by simp)
theorem sset_nil {ns : List Int} : sset ns = [] ↔ ns = [] := by
  refine ⟨fun h => List.eq_nil_iff_forall_not_mem.mpr fun x hx => ?_, fun h => by rw [h]; rfl⟩
  have := sset_mem.mpr hx
  rw [h] at this
  cases this
theorem setI_L (ns : List Int) : setI [.list (ns.map .int)] = some ns := toInts_map ns
theorem setI_T (ns : List Int) : setI [.tuple (ns.map .int)] = some ns := toInts_map ns
theorem srtSD_big {ns : List Int} (h : ns.length < 4000) (h2 : (sset ns).length < 64) : srtSD [.list (ns.map .int)] = some ((sset ns).map .int) := by
  unfold srtSD
  rw [setI_L]
  show (if (decide (ns.length < 4000) && decide ((sset ns).length < 64)) = true then some ((sset ns).map PyData.int) else none) = _
  rw [if_pos (by rw [decide_eq_true h, decide_eq_true h2]; rfl)]
theorem srtSD_ap {ns : List Int} (h : ns.length < 64) : srtSD [.list (ns.map .int)] = some ((sset ns).map .int) :=
  srtSD_big (by omega) (Nat.lt_of_le_of_lt (nodup_le (lt_nodup sset_pw) fun x hx => sset_mem.mp hx) h)
theorem lenSD_L {ns : List Int} (h : ns.length < 4000) : lenSD [.list (ns.map .int)] = some (.int ((sset ns).length : Int)) := by
  unfold lenSD
  rw [setI_L]
  show (if decide (ns.length < 4000) then _ else _) = _
  rw [if_pos (decide_eq_true h)]
theorem lenSD_T {ns : List Int} (h : ns.length < 4000) : lenSD [.tuple (ns.map .int)] = some (.int ((sset ns).length : Int)) := by
  unfold lenSD
  rw [setI_T]
  show (if decide (ns.length < 4000) then _ else _) = _
  rw [if_pos (decide_eq_true h)]
end PL
end S_PLZ

section S_PMA
namespace PMT
open PySem PySem.Spec PyProof.Rows L2
/-! ### permutations: what stands in the tables -/
abbrev cT : String := "itertools.permutations"
theorem c_slot_next : Slot cT "__next__" "itertools.permutations.__next__" :=
  .of (owner := cT) (n := "__next__") (by rw [typeLookup_type, builtinLookup_eq_fast]; kernel_rfl) (by decide +kernel) (by decide +kernel) (by decide +kernel)
    (by first | exact .inl (by decide +kernel) | exact .inr (by decide +kernel)) (by rw [isSubtype_type]; kernel_rfl)
theorem c_entry_next : entryFor table "itertools.permutations.__next__" = some Builtin.«itertools.permutations.__next__» := entryFor_of_fast (by kernel_rfl)
theorem c_args_next (a : Value) : argsOk "itertools.permutations.__next__" ⟨[a], []⟩ := by unfold argsOk; kernel_rfl
theorem c_slot_iter : Slot cT "__iter__" "itertools.permutations.__iter__" :=
  .of (owner := cT) (n := "__iter__") (by rw [typeLookup_type, builtinLookup_eq_fast]; kernel_rfl) (by decide +kernel) (by decide +kernel) (by decide +kernel)
    (by first | exact .inl (by decide +kernel) | exact .inr (by decide +kernel)) (by rw [isSubtype_type]; kernel_rfl)
theorem c_entry_iter : entryFor table "itertools.permutations.__iter__" = some Builtin.«dict_keyiterator.__iter__» :=
  entryFor_alias (id' := "dict_keyiterator.__iter__") (by kernel_rfl) (by first | rfl | decide +kernel | (unfold String.splitOn; simp +decide [String.splitOnAux])) (by decide +kernel) (by kernel_rfl)
theorem c_args_iter (a : Value) : argsOk "itertools.permutations.__iter__" ⟨[a], []⟩ := by unfold argsOk; kernel_rfl
theorem c_mro : mroOf (.type cT) = pure [.type cT, .type "object"] := by rw [mroOf_type]; kernel_rfl
theorem c_lookup_new : typeLookup (.type cT) "__new__" = pure (some (.builtin "itertools.permutations.__new__")) := by rw [typeLookup_type, builtinLookup_eq_fast]; kernel_rfl
theorem c_slot_init : Slot cT "__init__" "object.__init__" :=
  .of (owner := "object") (n := "__init__") (by rw [typeLookup_type, builtinLookup_eq_fast]; kernel_rfl) (by decide +kernel) (by decide +kernel) (by decide +kernel)
    (by first | exact .inl (by decide +kernel) | exact .inr (by decide +kernel)) (by rw [isSubtype_type]; kernel_rfl)
theorem c_called : TypeCalled cT "itertools.permutations.__new__" "object.__init__" :=
  ⟨by decide +kernel, by decide +kernel, ⟨_, _, c_mro⟩, madeBy_type c_mro c_lookup_new (by decide +kernel), by decide +kernel, by rw [isSubtype_type]; kernel_rfl, c_slot_init⟩
theorem c_typeCall (a : Value) : checkTypeCall cT ⟨[a], []⟩ = pure () := by kernel_rfl
theorem c_newCall (a : Value) : checkBuiltinCall "itertools.permutations.__new__" ⟨[.type cT, a], []⟩ = pure () := by kernel_rfl
theorem c_typeCall2 (a b : Value) : checkTypeCall cT ⟨[a, b], []⟩ = pure () := by kernel_rfl
theorem c_newCall2 (a b : Value) : checkBuiltinCall "itertools.permutations.__new__" ⟨[.type cT, a, b], []⟩ = pure () := by kernel_rfl
theorem c_entry_new : entryFor table "itertools.permutations.__new__" = some Builtin.«itertools.permutations.__new__» := entryFor_of_tree (by kernel_rfl)
theorem c_sub : isSubtype (.type cT) (.type cT) = pure true := by rw [isSubtype_type]; kernel_rfl
end PMT
end S_PMA

section S_PMB
namespace PMT
open PySem PySem.Spec PyProof.Rows L2
/-! ### the object -/
abbrev nums (l : List Nat) : Array Value := (l.map fun (n : Nat) => rawInt n).toArray
abbrev IsP (h : Heap) (z p : Addr) (r : Nat) (st : Int) (last : Value) (l : List Nat) : Prop :=
  h.get? z = some { cls := .type cT, dict := none, data := .fields (#[.ref p, rawInt st, rawInt r, last] ++ nums l), slots := #[] }
/-- the places, how far each is turned, one step on -/
def nx (m : Nat) : Nat → List Nat → List Nat → Option (List Nat × List Nat)
  | 0, _, _ => none
  | k + 1, xs, ts =>
    let t := ts.getD k 0 - 1
    if t == 0 then nx m k (xs.take k ++ xs.drop (k + 1) ++ [xs.getD k 0]) (ts.set k (m - k))
    else some ((xs.set k (xs.getD (m - t) 0)).set (m - t) (xs.getD k 0), ts.set k t)
def pNext (n r : Nat) (l : List Nat) : Option (List Nat) := (nx n r (l.take n) (l.drop n)).map fun q => q.1 ++ q.2
section
variable {prog : Program} {w : World} {A : Around} {E : Value → Shared → Prop} {s : Shared}
theorem nums_get {a b c d : Value} {l : List Nat} : (#[a, b, c, d] ++ nums l)[0]? = some a ∧ (#[a, b, c, d] ++ nums l)[1]? = some b ∧ (#[a, b, c, d] ++ nums l)[2]? = some c ∧ (#[a, b, c, d] ++ nums l)[3]? = some d := by
  refine ⟨?_, ?_, ?_, ?_⟩ <;> simp [Array.getElem?_append]
theorem nums_of {g : Value → Nat} (hg : ∀ n : Nat, g (rawInt n) = n) {l : List Nat} {a b c d : Value} : ((#[a, b, c, d] ++ nums l).toList.drop 4).map g = l := by
  simp
  induction l with
  | nil => rfl
  | cons x l ih => simp [hg] at ih ⊢; exact ih
theorem wp_nums {z p : Addr} {r : Nat} {st : Int} {last : Value} {l : List Nat} {Q : List Nat → Shared → Prop} (hz : IsP s.heap z p r st last l) (h : Q l s) : wpAny (model prog w) A (Builtin.Itertools.itNumbersFrom (.ref z) 4) Q E s := by
  unfold Builtin.Itertools.itNumbersFrom
  refine wpAny_bind (wpAny_load hz ?_)
  refine wpAny_pure ?_
  rw [nums_of fun n => Int.toNat_natCast n]
  exact h
theorem wp_int1 {z p : Addr} {r : Nat} {st : Int} {last : Value} {l : List Nat} {Q : Int → Shared → Prop} (hz : IsP s.heap z p r st last l) (h : Q st s) : wpAny (model prog w) A (Builtin.Itertools.itIntField (.ref z) 1) Q E s := by
  unfold Builtin.Itertools.itIntField
  refine wpAny_bind (wpAny_field hz rfl nums_get.2.1 ?_)
  exact wpAny_pure h
theorem wp_int2 {z p : Addr} {r : Nat} {st : Int} {last : Value} {l : List Nat} {Q : Int → Shared → Prop} (hz : IsP s.heap z p r st last l) (h : Q (r : Int) s) : wpAny (model prog w) A (Builtin.Itertools.itIntField (.ref z) 2) Q E s := by
  unfold Builtin.Itertools.itIntField
  refine wpAny_bind (wpAny_field hz rfl nums_get.2.2.1 ?_)
  exact wpAny_pure h
theorem fields_set1 {a b c d x : Value} {l : List Nat} : (#[a, b, c, d] ++ nums l).setIfInBounds 1 x = #[a, x, c, d] ++ nums l := by
  apply Array.toList_inj.mp
  simp
theorem fields_set3 {a b c d x : Value} {l : List Nat} : (#[a, b, c, d] ++ nums l).setIfInBounds 3 x = #[a, b, c, x] ++ nums l := by
  apply Array.toList_inj.mp
  simp
theorem fields_from {a b c d : Value} {l l' : List Nat} : (#[a, b, c, d] ++ nums l).extract 0 4 ++ nums l' = #[a, b, c, d] ++ nums l' := by
  apply Array.toList_inj.mp
  simp
/-- the tuple that is handed out -/
abbrev rowV (its : Array Value) (r : Nat) (l : List Nat) : List Value := (l.take r).map fun i => its.getD i .none
/-- what both ways end with -/
theorem result_ok {z p : Addr} {r : Nat} {l l' : List Nat} {its : Array Value} {Q : Value → Shared → Prop} {last : Value} (hz : IsP s.heap z p r 1 last l) (hr : r ≤ 1048576)
    (hQ : ∀ h', IsP h' z p r 1 (.ref s.heap.objs.size) l → h'.get? s.heap.objs.size = some { cls := .type "tuple", data := .seq (rowV its r l').toArray } → (∀ c o, c ≠ z → s.heap.get? c = some o → h'.get? c = some o) → Q (.ref s.heap.objs.size) { s with heap := h' }) :
    wpAny (model prog w) A (newTuple (rowV its r l') >>= fun t => field (.ref z) 3 >>= fun before => setField (.ref z) 3 t >>= fun _ => letGo [before] [t] >>= fun _ => ret t) (fun fin s' => ∃ v, fin = .done (.ret v) ∧ Q v s') E s := by
  refine wpAny_bind (wpAny_newTuple ?_ (by
    rw [List.length_map, List.length_take, sizeLine_eq]
    omega))
  have hzl : z < s.heap.objs.size := Heap.lt_size hz
  have hz₂ : IsP (s.heap.push { cls := .type "tuple", data := .seq (rowV its r l').toArray }) z p r 1 last l := Heap.get?_push_of_some _ hz
  refine wpAny_bind (wpAny_field hz₂ rfl nums_get.2.2.2 ?_)
  refine wpAny_bind (wpAny_setField_rec hz₂ (by simp) fun h₃ hz₃ hs₃ => ?_)
  rw [fields_set3] at hz₃
  refine wpAny_bind (wpAny_letGo ?_)
  refine wpAny_pure ⟨_, rfl, ?_⟩
  refine hQ _ hz₃ ?_ fun c o hc e => ?_
  · exact hs₃.extBut _ _ (Nat.ne_of_gt hzl) (Heap.get?_push_size _ rfl)
  · exact hs₃.extBut _ _ hc (Heap.get?_push_of_some _ e)
theorem next_first {z p : Addr} {r : Nat} {l : List Nat} {its : Array Value} {Q : Value → Shared → Prop} {last : Value} (hz : IsP s.heap z p r 0 last l) (hp : s.heap.IsTuple p its) (hr : r ≤ 1048576)
    (hQ : ∀ h', IsP h' z p r 1 (.ref s.heap.objs.size) l → h'.get? s.heap.objs.size = some { cls := .type "tuple", data := .seq (rowV its r l).toArray } → (∀ c o, c ≠ z → s.heap.get? c = some o → h'.get? c = some o) → Q (.ref s.heap.objs.size) { s with heap := h' }) :
    wpAny (model prog w) A (Builtin.«itertools.permutations.__next__» ⟨[.ref z], []⟩) (fun fin s' => ∃ v, fin = .done (.ret v) ∧ Q v s') E s := by
  show wpAny _ _ (field (.ref z) 0 >>= _) _ _ _
  refine wpAny_bind (wpAny_field hz rfl nums_get.1 ?_)
  show wpAny _ _ (Builtin.Itertools.itPoolItems (.ref p) >>= _) _ _ _
  refine wpAny_bind (CMB.wp_pool hp ?_)
  show wpAny _ _ (Builtin.Itertools.itIntField (.ref z) 2 >>= _) _ _ _
  refine wpAny_bind (wp_int2 hz ?_)
  show wpAny _ _ (Builtin.Itertools.itNumbersFrom (.ref z) 4 >>= _) _ _ _
  refine wpAny_bind (wp_nums hz ?_)
  show wpAny _ _ (Builtin.Itertools.itIntField (.ref z) 1 >>= _) _ _ _
  refine wpAny_bind (wp_int1 hz ?_)
  show wpAny _ _ (setField (.ref z) 1 (rawInt 1) >>= _) _ _ _
  refine wpAny_bind (wpAny_setField_rec hz (by simp) fun h₁ hz₁ hs₁ => ?_)
  rw [fields_set1] at hz₁
  have hsz : h₁.objs.size = s.heap.objs.size := hs₁.1
  refine result_ok (s := { s with heap := h₁ }) hz₁ hr fun h' a1 a2 a3 => ?_
  have a1' := a1
  dsimp only at a1 a2 a3 ⊢
  rw [hsz] at a1 a2 ⊢
  exact hQ h' a1 a2 fun c o hc e => a3 c o hc (hs₁.extBut _ _ hc e)
theorem next_item {z p : Addr} {r : Nat} {l l' : List Nat} {its : Array Value} {Q : Value → Shared → Prop} {last : Value} (hz : IsP s.heap z p r 1 last l) (hp : s.heap.IsTuple p its) (hn : pNext its.size r l = some l') (hr : r ≤ 1048576) (hl : l'.length ≤ 1048576) (hrl : ∀ x y, nx its.size r (l.take its.size) (l.drop its.size) = some (x, y) → r ≤ x.length)
    (hQ : ∀ h', IsP h' z p r 1 (.ref s.heap.objs.size) l' → h'.get? s.heap.objs.size = some { cls := .type "tuple", data := .seq (rowV its r l').toArray } → (∀ c o, c ≠ z → s.heap.get? c = some o → h'.get? c = some o) → Q (.ref s.heap.objs.size) { s with heap := h' }) :
    wpAny (model prog w) A (Builtin.«itertools.permutations.__next__» ⟨[.ref z], []⟩) (fun fin s' => ∃ v, fin = .done (.ret v) ∧ Q v s') E s := by
  show wpAny _ _ (field (.ref z) 0 >>= _) _ _ _
  refine wpAny_bind (wpAny_field hz rfl nums_get.1 ?_)
  show wpAny _ _ (Builtin.Itertools.itPoolItems (.ref p) >>= _) _ _ _
  refine wpAny_bind (CMB.wp_pool hp ?_)
  show wpAny _ _ (Builtin.Itertools.itIntField (.ref z) 2 >>= _) _ _ _
  refine wpAny_bind (wp_int2 hz ?_)
  show wpAny _ _ (Builtin.Itertools.itNumbersFrom (.ref z) 4 >>= _) _ _ _
  refine wpAny_bind (wp_nums hz ?_)
  show wpAny _ _ (Builtin.Itertools.itIntField (.ref z) 1 >>= _) _ _ _
  refine wpAny_bind (wp_int1 hz ?_)
  unfold pNext at hn
  dsimp only
  rw [Int.toNat_natCast]
  split
  · rename_i h
    exact absurd h (by decide)
  rotate_left
  · rename_i h1 h2
    exact absurd rfl h2
  split
  · rename_i is cs h
    have h2 : nx its.size r (l.take its.size) (l.drop its.size) = some (is, cs) := by
      refine Eq.trans ?_ h
      kernel_rfl
    rw [h2] at hn
    cases hn
    have hri := hrl is cs h2
    show wpAny _ _ (Builtin.Itertools.itSetNumbersFrom (.ref z) 4 (is ++ cs) >>= _) _ _ _
    refine wpAny_bind ?_
    unfold Builtin.Itertools.itSetNumbersFrom
    refine wpAny_updateFields hz rfl ?_ (by simp [sizeLine_eq] at hl ⊢; omega)
    have hz₁ : IsP (s.heap.update z (Obj.mapFields fun fs => fs.extract 0 4 ++ (List.map (fun (n : Nat) => rawInt n) (is ++ cs)).toArray)) z p r 1 last (is ++ cs) := by
      refine (Heap.get?_update_self _ hz rfl).trans ?_
      show some ({ cls := .type cT, dict := none, data := Data.fields ((#[.ref p, rawInt 1, rawInt r, last] ++ nums l).extract 0 4 ++ nums (is ++ cs)), slots := #[] } : Obj) = _
      rw [fields_from]
    have hs₁ : Heap.SameBut z s.heap (s.heap.update z (Obj.mapFields fun fs => fs.extract 0 4 ++ (List.map (fun (n : Nat) => rawInt n) (is ++ cs)).toArray)) := Heap.SameBut.update ..
    generalize s.heap.update z (Obj.mapFields fun fs => fs.extract 0 4 ++ (List.map (fun (n : Nat) => rawInt n) (is ++ cs)).toArray) = h₁ at hz₁ hs₁ ⊢
    have hsz : h₁.objs.size = s.heap.objs.size := hs₁.1
    have et : (is ++ cs).take r = is.take r := List.take_append_of_le_length hri
    have key := result_ok (prog := prog) (w := w) (A := A) (E := E) (s := { s with heap := h₁ }) (l' := is ++ cs) (its := its) (Q := Q) hz₁ hr fun h' a1 a2 a3 => by
      dsimp only at a1 a2 a3 ⊢
      rw [hsz] at a1 a2 ⊢
      exact hQ h' a1 a2 fun c o hc e => a3 c o hc (hs₁.extBut _ _ hc e)
    unfold rowV at key
    rw [et] at key
    exact key
  · rename_i h
    have h2 : nx its.size r (l.take its.size) (l.drop its.size) = none := by
      refine Eq.trans ?_ h
      kernel_rfl
    rw [h2] at hn
    cases hn
/-- no more of them: either none is left, or there never was one -/
theorem next_end {z p : Addr} {r : Nat} {l : List Nat} {st : Int} {its : Array Value} {Q : Fin → Shared → Prop} {last : Value} (hh : A.handled = none) (hz : IsP s.heap z p r st last l) (hp : s.heap.IsTuple p its) (hn : (st = 1 ∧ pNext its.size r l = none) ∨ st = 2)
    (hE : ∀ h' e, (∀ c o, c ≠ z → s.heap.get? c = some o → h'.get? c = some o) → (∃ o, h'.get? e = some o ∧ o.cls = .type "StopIteration") → E (.ref e) { s with heap := h' }) :
    wpAny (model prog w) A (Builtin.«itertools.permutations.__next__» ⟨[.ref z], []⟩) Q E s := by
  have stop : ∀ {β : Type} {s : Shared} {Q : β → Shared → Prop}, (∀ h' e, (∀ c o, s.heap.get? c = some o → h'.get? c = some o) → (∃ o, h'.get? e = some o ∧ o.cls = .type "StopIteration") → E (.ref e) { s with heap := h' }) →
      wpAny (model prog w) A (Builtin.Itertools.itStop (α := β)) Q E s := by
    intro β s Q hE
    unfold Builtin.Itertools.itStop
    refine wpAny_bind ?_
    simp only [newExc, newTuple]
    refine wpAny_bind (wpAny_newObj_type ?_ (by size_fits))
    refine wpAny_bind (m := firstArgMember _ _) (wpAny_of_eq (a := Value.none) (by first | rfl | (simp only [firstArgMember]; rfl)) ?_)
    refine wpAny_newObj_type ?_ (by size_fits)
    simp only [raiseNew]
    refine wpAny_bind (wpAny_handled ?_)
    rw [hh]
    refine wpAny_bind (wpAny_pure (wpAny_throw ?_))
    exact hE _ _ (fun c o e => Heap.get?_push_of_some _ (Heap.get?_push_of_some _ e)) ⟨_, Heap.get?_push_size _ rfl, rfl⟩
  show wpAny _ _ (field (.ref z) 0 >>= _) _ _ _
  refine wpAny_bind (wpAny_field hz rfl nums_get.1 ?_)
  show wpAny _ _ (Builtin.Itertools.itPoolItems (.ref p) >>= _) _ _ _
  refine wpAny_bind (CMB.wp_pool hp ?_)
  show wpAny _ _ (Builtin.Itertools.itIntField (.ref z) 2 >>= _) _ _ _
  refine wpAny_bind (wp_int2 hz ?_)
  show wpAny _ _ (Builtin.Itertools.itNumbersFrom (.ref z) 4 >>= _) _ _ _
  refine wpAny_bind (wp_nums hz ?_)
  show wpAny _ _ (Builtin.Itertools.itIntField (.ref z) 1 >>= _) _ _ _
  refine wpAny_bind (wp_int1 hz ?_)
  unfold pNext at hn
  rcases hn with ⟨rfl, hn⟩ | rfl
  · dsimp only
    rw [Int.toNat_natCast]
    split
    · rename_i h
      exact absurd h (by decide)
    rotate_left
    · rename_i h1 h2
      exact absurd rfl h2
    split
    · rename_i is cs h
      have h2 : nx its.size r (l.take its.size) (l.drop its.size) = some (is, cs) := by
        refine Eq.trans ?_ h
        kernel_rfl
      rw [h2] at hn
      cases hn
    · refine wpAny_bind (wpAny_setField_rec hz (by simp) fun h₁ hz₁ hs₁ => ?_)
      exact stop fun h' e k he => hE h' e (fun c o hc q => k c o (hs₁.extBut _ _ hc q)) he
  · show wpAny _ _ (_ >>= _) _ _ _
    refine wpAny_bind (wpAny_rule ?_)
    exact stop fun h' e k he => hE h' e (fun c o _ q => k c o q) he
end
end PMT
end S_PMB

section S_PMC
namespace PMT
open PySem PySem.Spec PyProof.Rows L2
section
variable {prog : Program} {w : World} {A : Around} {E : Value → Shared → Prop} {s : Shared}
theorem pyNext_first {z p : Addr} {r : Nat} {l : List Nat} {its : Array Value} {Q : Option Value → Shared → Prop} {last : Value} (hz : IsP s.heap z p r 0 last l) (hp : s.heap.IsTuple p its) (hr : r ≤ 1048576)
    (hQ : ∀ h', IsP h' z p r 1 (.ref s.heap.objs.size) l → h'.get? s.heap.objs.size = some { cls := .type "tuple", data := .seq (rowV its r l).toArray } → (∀ c o, c ≠ z → s.heap.get? c = some o → h'.get? c = some o) → Q (some (.ref s.heap.objs.size)) { s with heap := h' }) :
    wpAny (model prog w) A (pyNext (.ref z)) Q E s := by
  have hT : s.TypeIs (.ref z) cT := ⟨_, hz, rfl⟩
  unfold pyNext
  exact wpAny_bind (wpAny_attempt (wpAny_callSpecial?_slot (name := Str.ofString "__next__") hT c_slot_next
    (wpAny_call_entry c_slot_next hT c_entry_next (next_first hz hp hr fun h' a1 a2 a3 => wpAny_pure (hQ h' a1 a2 a3)) (c_args_next _))))
theorem pyNext_item {z p : Addr} {r : Nat} {l l' : List Nat} {its : Array Value} {Q : Option Value → Shared → Prop} {last : Value} (hz : IsP s.heap z p r 1 last l) (hp : s.heap.IsTuple p its) (hn : pNext its.size r l = some l') (hr : r ≤ 1048576) (hl : l'.length ≤ 1048576) (hrl : ∀ x y, nx its.size r (l.take its.size) (l.drop its.size) = some (x, y) → r ≤ x.length)
    (hQ : ∀ h', IsP h' z p r 1 (.ref s.heap.objs.size) l' → h'.get? s.heap.objs.size = some { cls := .type "tuple", data := .seq (rowV its r l').toArray } → (∀ c o, c ≠ z → s.heap.get? c = some o → h'.get? c = some o) → Q (some (.ref s.heap.objs.size)) { s with heap := h' }) :
    wpAny (model prog w) A (pyNext (.ref z)) Q E s := by
  have hT : s.TypeIs (.ref z) cT := ⟨_, hz, rfl⟩
  unfold pyNext
  exact wpAny_bind (wpAny_attempt (wpAny_callSpecial?_slot (name := Str.ofString "__next__") hT c_slot_next
    (wpAny_call_entry c_slot_next hT c_entry_next (next_item hz hp hn hr hl hrl fun h' a1 a2 a3 => wpAny_pure (hQ h' a1 a2 a3)) (c_args_next _))))
theorem pyNext_end {z p : Addr} {r : Nat} {l : List Nat} {st : Int} {its : Array Value} {Q : Option Value → Shared → Prop} {last : Value} (hh : A.handled = none) (hz : IsP s.heap z p r st last l) (hp : s.heap.IsTuple p its) (hn : (st = 1 ∧ pNext its.size r l = none) ∨ st = 2)
    (hQ : ∀ h', (∀ c o, c ≠ z → s.heap.get? c = some o → h'.get? c = some o) → Q none { s with heap := h' }) : wpAny (model prog w) A (pyNext (.ref z)) Q E s := by
  have hT : s.TypeIs (.ref z) cT := ⟨_, hz, rfl⟩
  unfold pyNext
  refine wpAny_bind (wpAny_attempt (wpAny_callSpecial?_slot (name := Str.ofString "__next__") hT c_slot_next
    (wpAny_call_entry c_slot_next hT c_entry_next (next_end hh hz hp hn fun h' e hk he => ?_) (c_args_next _))))
  obtain ⟨o, ho, hc⟩ := he
  refine wpAny_bind (wpAny_isInstance (T := "StopIteration") (b := true) ⟨o, ho, hc⟩ isSubtype_stop ?_)
  exact wpAny_pure (hQ _ hk)
theorem pyIter_perm {z p : Addr} {r : Nat} {l : List Nat} {st : Int} {last : Value} {Q : Value → Shared → Prop} (hz : IsP s.heap z p r st last l) (h : Q (.ref z) s) : wpAny (model prog w) A (pyIter (.ref z)) Q E s := by
  have hT : s.TypeIs (.ref z) cT := ⟨_, hz, rfl⟩
  refine wpAny_pyIter_slot hT c_slot_iter (wpAny_call_entry c_slot_iter hT c_entry_iter ?_ (c_args_iter _))
  show wpAny _ _ (ret (.ref z)) _ _ s
  exact wpAny_pure ⟨_, rfl, cT, _, hT, c_slot_next.lookup, h⟩
/-- where it begins: places, how far each may be turned -/
abbrev begin_ (n r : Nat) : List Nat := List.range n ++ (List.range r).map fun i => n - i
abbrev pH2 (h : Heap) (vs : List Value) : Heap := h.push { cls := .type "tuple", data := .seq vs.toArray }
abbrev pH3 (h : Heap) (vs : List Value) (r : Nat) : Heap := (pH2 h vs).push { cls := .type cT, dict := none, data := .fields (#[.ref h.objs.size, rawInt (if r > vs.length then 2 else 0), rawInt r, .none] ++ nums (begin_ vs.length r)), slots := #[] }
theorem wp_class (xs : List Value) {Q : Value × List Value → Shared → Prop} (h : Q (.type cT, xs) s) : wpAny (model prog w) A (Builtin.Itertools.itClassAndRest "permutations" ⟨.type cT :: xs, []⟩) Q E s := by
  have hsub := c_sub
  have e : "itertools." ++ "permutations" = cT := by decide
  unfold Builtin.Itertools.itClassAndRest
  obtain ⟨hp, g, d, tk, os⟩ := s
  dsimp only
  rw [e]
  wp_walk
  exact h
theorem bind_named (a : Value) : Builtin.Itertools.itBindNamed "permutations" ["iterable", "r"] 1 2 [a] [] = pure [some a, none] := by rfl
theorem bind_named2 (a b : Value) : Builtin.Itertools.itBindNamed "permutations" ["iterable", "r"] 1 2 [a, b] [] = pure [some a, some b] := by rfl
theorem cast_begin (n r : Nat) (hr : r ≤ n) (a b c : Value) : ([a, b, c, Value.none] ++ (List.range n).map (fun (i : Nat) => rawInt i) ++ (List.range r).map fun (i : Nat) => rawInt ((n : Int) - i)).toArray = #[a, b, c, .none] ++ nums (begin_ n r) := by
  apply Array.toList_inj.mp
  have e : (List.range r).map (fun (i : Nat) => rawInt ((n : Int) - i)) = ((List.range r).map fun i => n - i).map fun (i : Nat) => rawInt (i : Int) := by
    rw [List.map_map]
    refine List.map_congr_left fun i hi => ?_
    have := List.mem_range.mp hi
    show rawInt ((n : Int) - i) = rawInt ((n - i : Nat) : Int)
    congr 1
    omega
  rw [e]
  simp
/-- behind the items: the pool, the object -/
theorem tail_ok {vs : List Value} {R : Result → Shared → Prop} (hz : vs.length ≤ 1000) (h : R (.ok (.ret (.ref (pH2 s.heap vs).objs.size))) { s with heap := pH3 s.heap vs vs.length }) :
    wpAny (model prog w) A (newTuple vs >>= fun t => Builtin.Itertools.itNewRecord (.type cT) ([t, rawInt (if ((vs.length : Int).toNat) > vs.length then 2 else 0), rawInt ((vs.length : Int).toNat : Nat), .none] ++ (List.range vs.length).map (fun (i : Nat) => rawInt i) ++ (List.range ((vs.length : Int).toNat)).map fun (i : Nat) => rawInt ((vs.length : Int) - i)) >>= fun z => ret z)
      (fun fin s' => ∃ v, fin = .done (.ret v) ∧ R (.ok (.ret v)) s') E s := by
  refine wpAny_bind (wpAny_newTuple ?_ (by rw [sizeLine_eq]; omega))
  refine wpAny_bind ?_
  show wpAny _ _ (newObj (.type cT) (.fields _)) _ _ _
  rw [Int.toNat_natCast, cast_begin _ _ (Nat.le_refl _)]
  refine wpAny_newObj_type ?_ ?_
  · exact wpAny_pure ⟨_, rfl, h⟩
  · show _ ≤ sizeLine + 2
    rw [sizeLine_eq]
    simp
    omega
theorem meets_new (l : Addr) (vs : List Value) :
    Meets (Builtin.«itertools.permutations.__new__» ⟨[.type cT, .ref l], []⟩) (fun _ R s => CMB.IsSeq s.heap l vs ∧ vs.length ≤ 1000 ∧
      R (.ok (.ret (.ref (pH2 (CMB.cH1 s.heap vs) vs).objs.size))) { s with heap := pH3 (CMB.cH1 s.heap vs) vs vs.length }) :=
  .of_wp fun prog w A R s h => by
    obtain ⟨hl, hz, h⟩ := h
    show wpAny _ _ (Builtin.Itertools.itClassAndRest "permutations" _ >>= _) _ _ _
    refine wpAny_bind (wp_class _ ?_)
    dsimp only
    rw [bind_named]
    refine wpAny_bind (wpAny_pure ?_)
    dsimp only
    refine wpAny_bind (CMB.collect_seq hl (by rw [sizeLine_eq]; omega) ?_)
    refine wpAny_bind (wpAny_pure ?_)
    have e1 : Builtin.Itertools.itTooMany (vs.length : Int) = false := by
      unfold Builtin.Itertools.itTooMany
      simp
      omega
    have e2 : ¬ ((vs.length : Int) < 0) := by omega
    rw [if_neg e2, e1]
    simp only [Bool.false_eq_true, if_false]
    exact tail_ok hz h
theorem meets_newR (l : Addr) (lo hi : Int) (t u v : Tok) :
    Meets (Builtin.«itertools.permutations.__new__» ⟨[.type cT, .ref l], []⟩) (fun A R s => A.handled = none ∧ IsRange s.heap l lo hi 1 t u v ∧ Builtin.Range.small lo hi 1 = true ∧ (hi - lo).toNat ≤ 1000 ∧ Builtin.Range.rangeSize lo hi 1 = (hi - lo).toNat ∧
      ∀ (h' : Heap) (tk : Nat) (acc : Array Value), (∀ b o, s.heap.get? b = some o → h'.get? b = some o) → ItemsOf (fun i v => ∃ t, v = .int (lo + i * 1) t) acc (hi - lo).toNat →
      R (.ok (.ret (.ref (pH2 h' acc.toList).objs.size))) { s with heap := pH3 h' acc.toList acc.toList.length, toks := tk }) :=
  .of_wp fun prog w A R s h => by
    obtain ⟨hh, hr, hs, hn, hz, h⟩ := h
    show wpAny _ _ (Builtin.Itertools.itClassAndRest "permutations" _ >>= _) _ _ _
    refine wpAny_bind (wp_class _ ?_)
    dsimp only
    rw [bind_named]
    refine wpAny_bind (wpAny_pure ?_)
    dsimp only
    refine wpAny_bind (collect_range (A := A.in1) (by exact hh) hr hs hz (by omega) fun h' tk acc hk hi' => ?_)
    have hlen : acc.toList.length ≤ 1000 := by rw [Array.length_toList, hi'.1]; exact hn
    refine wpAny_bind (wpAny_pure ?_)
    have e1 : Builtin.Itertools.itTooMany (acc.toList.length : Int) = false := by
      unfold Builtin.Itertools.itTooMany
      simp at hlen ⊢
      omega
    have e2 : ¬ ((acc.toList.length : Int) < 0) := by omega
    rw [if_neg e2, e1]
    simp only [Bool.false_eq_true, if_false]
    exact tail_ok hlen (h h' tk acc hk hi')
/-- permutations(l): the object, its pool, new -/
theorem call_perm {l : Addr} {vs : List Value} {Q : Value → Shared → Prop} (hl : CMB.IsSeq s.heap l vs) (hz : vs.length ≤ 1000)
    (h : ∀ h' p z, IsP h' z p vs.length 0 .none (begin_ vs.length vs.length) → h'.IsTuple p vs.toArray → s.heap.objs.size ≤ p → s.heap.objs.size ≤ z → (∀ c o, s.heap.get? c = some o → h'.get? c = some o) → Q (.ref z) { s with heap := h' }) :
    wpAny (model prog w) A (call (.type cT) [.ref l]) Q E s := by
  refine callType_new c_called (by decide) (c_typeCall _) (c_newCall _) (fun obj => F.args_object_init_2 obj _) c_entry_new (meets_new l vs) ⟨hl, hz, ?_⟩
  have z1 : (CMB.cH1 s.heap vs).objs.size = s.heap.objs.size + 1 := by rw [Heap.size_update, size_push']
  have z2 : (pH2 (CMB.cH1 s.heap vs) vs).objs.size = s.heap.objs.size + 2 := by rw [size_push', z1]
  have g3 : (pH3 (CMB.cH1 s.heap vs) vs vs.length).get? (pH2 (CMB.cH1 s.heap vs) vs).objs.size = some _ := Heap.get?_push_size _ rfl
  have g2 : (pH3 (CMB.cH1 s.heap vs) vs vs.length).get? (CMB.cH1 s.heap vs).objs.size = some _ := Heap.get?_push_of_some _ (Heap.get?_push_size _ rfl)
  have keep : ∀ c o, s.heap.get? c = some o → (pH3 (CMB.cH1 s.heap vs) vs vs.length).get? c = some o := fun c o e => by
    have hlt : c < s.heap.objs.size := Heap.lt_size e
    refine Heap.get?_push_of_some _ (Heap.get?_push_of_some _ ?_)
    rw [Heap.get?_update_ne _ _ _ _ (Nat.ne_of_lt hlt)]
    exact Heap.get?_push_of_some _ e
  have e0 : (if vs.length > vs.length then (2 : Int) else 0) = 0 := if_neg (Nat.lt_irrefl _)
  rw [e0] at g3
  show _ ∧ _
  exact ⟨⟨_, g3, rfl⟩, h _ _ _ g3 ⟨_, g2, rfl, _, rfl⟩ (by rw [z1]; omega) (by rw [z2]; omega) keep⟩
theorem call_permR {l : Addr} {lo hi : Int} {t u v : Tok} {Q : Value → Shared → Prop} (hh : A.handled = none) (hr : IsRange s.heap l lo hi 1 t u v) (hs : Builtin.Range.small lo hi 1 = true) (hn : (hi - lo).toNat ≤ 1000) (hz : Builtin.Range.rangeSize lo hi 1 = (hi - lo).toNat)
    (h : ∀ h' tk p z (acc : Array Value), ItemsOf (fun i v => ∃ t, v = .int (lo + i * 1) t) acc (hi - lo).toNat → IsP h' z p acc.toList.length 0 .none (begin_ acc.toList.length acc.toList.length) → h'.IsTuple p acc → l < p → l < z → (∀ c o, s.heap.get? c = some o → h'.get? c = some o) → Q (.ref z) { s with heap := h', toks := tk }) :
    wpAny (model prog w) A (call (.type cT) [.ref l]) Q E s := by
  refine callType_new c_called (by decide) (c_typeCall _) (c_newCall _) (fun obj => F.args_object_init_2 obj _) c_entry_new (meets_newR l lo hi t u v) ⟨by exact hh, hr, hs, hn, hz, fun h' tk acc hk hi' => ?_⟩
  have hl : l < h'.objs.size := Heap.lt_size (hk _ _ hr)
  have z2 : (pH2 h' acc.toList).objs.size = h'.objs.size + 1 := by rw [size_push']
  have g3 : (pH3 h' acc.toList acc.toList.length).get? (pH2 h' acc.toList).objs.size = some _ := Heap.get?_push_size _ rfl
  have g2 : (pH3 h' acc.toList acc.toList.length).get? h'.objs.size = some _ := Heap.get?_push_of_some _ (Heap.get?_push_size _ rfl)
  have e0 : (if acc.toList.length > acc.toList.length then (2 : Int) else 0) = 0 := if_neg (Nat.lt_irrefl _)
  rw [e0] at g3
  rw [show acc.toList.toArray = acc by simp] at g2
  show _ ∧ _
  exact ⟨⟨_, g3, rfl⟩, h _ tk _ _ acc hi' g3 ⟨_, g2, rfl, _, rfl⟩ hl (Nat.lt_of_lt_of_le hl (by rw [z2]; exact Nat.le_succ _)) fun c o e => Heap.get?_push_of_some _ (Heap.get?_push_of_some _ (hk c o e))⟩
end
end PMT
end S_PMC

section S_PMD
namespace PMT
open PySem PySem.Spec PyProof.Rows L2
/-! ### all orders, as they are come to -/
def chain {β : Type} (f : β → Option β) : Nat → β → List β
  | 0, _ => []
  | k + 1, x => x :: (match f x with | some y => chain f k y | none => [])
def ended {β : Type} (f : β → Option β) : Nat → β → Bool
  | 0, _ => false
  | k + 1, x => match f x with | some y => ended f k y | none => true
theorem chain_lk {β : Type} {f : β → Option β} : ∀ {k : Nat} {x : β}, ended f k x = true → PL.Lk f (chain f k x) none ∧ (chain f k x).head? = some x
  | 0, x, h => by cases h
  | k + 1, x, h => by
    unfold ended at h
    unfold chain
    cases q : f x with
    | none => exact ⟨⟨by simpa using q, trivial⟩, rfl⟩
    | some y =>
      rw [q] at h
      obtain ⟨h1, h2⟩ := chain_lk (k := k) (x := y) h
      refine ⟨⟨?_, h1⟩, rfl⟩
      dsimp only
      rw [q, h2]
      rfl
def perms (n r : Nat) : List (List Nat) := chain (pNext n r) 800 (begin_ n r)
def rows (n r : Nat) : List (List Nat) := (perms n r).map fun l => l.take r
def permOk (n r : Nat) : Bool := decide (r ≤ n) && decide (n ≤ 1000) && ended (pNext n r) 800 (begin_ n r) && (perms n r).all fun l =>
  decide (l.length ≤ 1000) && decide ((l.take r).length = r) && (l.take r).all (fun k => decide (k < n)) && (match nx n r (l.take n) (l.drop n) with | some (x, _) => decide (r ≤ x.length) | none => true)
theorem permOk_le : ∀ n ∈ List.range 7, permOk n n = true := by decide +kernel
theorem permOk_6 {n : Nat} (h : n ≤ 6) : permOk n n = true := permOk_le n (by simp; omega)
section
variable {n r : Nat}
theorem ok_run (h : permOk n r = true) : PL.Lk (pNext n r) (perms n r) none ∧ (perms n r).head? = some (begin_ n r) := by
  unfold permOk at h
  simp only [Bool.and_eq_true] at h
  exact chain_lk h.1.2
theorem ok_le (h : permOk n r = true) : r ≤ n ∧ n ≤ 1000 := by
  unfold permOk at h
  simp only [Bool.and_eq_true, decide_eq_true_eq] at h
  exact h.1.1
theorem ok_each (h : permOk n r = true) {l : List Nat} (hl : l ∈ perms n r) : l.length ≤ 1000 ∧ (l.take r).length = r ∧ (∀ k ∈ l.take r, k < n) ∧ ∀ x y, nx n r (l.take n) (l.drop n) = some (x, y) → r ≤ x.length := by
  unfold permOk at h
  simp only [Bool.and_eq_true, List.all_eq_true, decide_eq_true_eq] at h
  have := h.2 l hl
  refine ⟨this.1.1.1, this.1.1.2, this.1.2, fun x y q => ?_⟩
  have h2 := this.2
  rw [q] at h2
  simpa using h2
end
/-! ### as a thing to walk -/
def Itp (xs : List V) : It :=
  ⟨fun i _ => i < (rows xs.length xs.length).length, fun i H v H' => ∃ T c, v = .ref T ∧ H T = none ∧ H' = upd H T (.tup c) ∧ ((rows xs.length xs.length).map (List.map (CMB.at_ xs)))[i]? = some c, fun i _ => (rows xs.length xs.length).length ≤ i⟩
def Stt (its : Array Value) (z p : Addr) (i : Nat) (h : Heap) : Prop :=
  h.IsTuple p its ∧ ∃ st last l, IsP h z p its.size st last l ∧ ((i = 0 ∧ st = 0 ∧ l = begin_ its.size its.size) ∨ ∃ j, i = j + 1 ∧ st = 1 ∧ (perms its.size its.size)[j]? = some l)
theorem turn_perm {P : Program} {w : World} {K : PySem.W.Frag} {tg : Expr} {xs : List V} {z p : Addr} {its : Array Value} (rv : Vals xs its.toList) (ok : permOk its.size its.size = true) :
    Turn P w K tg (Itp xs) [z, p] z (Stt its z p) where
  mem := by simp
  obj := fun i h st c hc => by
    obtain ⟨⟨o, ho, _, n, hd⟩, s, last, l, hz, _⟩ := st
    have e' : c = z ∨ c = p := by simpa using hc
    rcases e' with q | q
    · rw [q]; exact ⟨_, hz, fun v q => nomatch q⟩
    · rw [q]; exact ⟨o, ho, fun v q => by rw [hd] at q; cases q⟩
  keep := fun i h h' st k => by
    obtain ⟨⟨o, ho, r'⟩, s, last, l, hz, q⟩ := st
    exact ⟨⟨o, k p (by simp) _ ho, r'⟩, s, last, l, k z (by simp) _ hz, q⟩
  item := by
    intro X hP hw hK hc i pins s σ H E I hf st hg
    subst hP hw hK
    have hn : xs.length = its.size := by rw [rv.length, Array.length_toList]
    obtain ⟨hp, s0, last, l, hz, q⟩ := st
    have hg' : i < (perms its.size its.size).length := by
      have : i < (rows xs.length xs.length).length := hg
      unfold rows at this
      rw [List.length_map, hn] at this
      exact this
    have hzl : z < s.heap.objs.size := Heap.lt_size hz
    have hpl : p < s.heap.objs.size := by obtain ⟨o, ho, _⟩ := hp; exact Heap.lt_size ho
    have hzp : p ≠ z := by
      rintro rfl
      obtain ⟨o, ho, hc, _⟩ := hp
      rw [hz] at ho
      cases ho
      exact absurd (Value.type.inj hc) (by decide)
    have h1000 := ok_le ok
    have fin : ∀ (l' : List Nat), (perms its.size its.size)[i]? = some l' → ∀ h', IsP h' z p its.size 1 (.ref s.heap.objs.size) l' → h'.get? s.heap.objs.size = some { cls := .type "tuple", data := .seq (rowV its its.size l').toArray } → (∀ c o, c ≠ z → s.heap.get? c = some o → h'.get? c = some o) →
        wpAny (model X.prog X.w) X.A (letOwnedTupleGo tg (.ref z) (.ref s.heap.objs.size)) (fun _ s2 => ∃ x H', Inv X pins σ H' s2 ∧ RelV x (.ref s.heap.objs.size) ∧ (Itp xs).yld i H x H' ∧ Stt its z p (i + 1) s2.heap ∧ ∀ b ∈ [z, p], H' b = none) E { s with heap := h' } := by
      intro l' hl' h' a1 a2 a3
      refine go_of (s := { s with heap := h' }) a1 rfl rfl (by decide +kernel) ?_
      obtain ⟨m1, m2, hlt, _⟩ := ok_each ok (List.mem_of_getElem? hl')
      have hv := CMB.vals_at rv hlt
      have new : ObjOk X.prog X.w (upd H s.heap.objs.size (.tup ((l'.take its.size).map (CMB.at_ xs)))) h' s.heap.objs.size (.tup ((l'.take its.size).map (CMB.at_ xs))) :=
        ⟨by rw [List.length_map, m2, sizeLine_eq]; omega, rowV its its.size l', hv, ⟨_, a2, rfl, _, rfl⟩⟩
      have I1 : Inv X pins σ (upd H s.heap.objs.size (.tup ((l'.take its.size).map (CMB.at_ xs)))) { s with heap := h' } :=
        I.turnedNew (t' := s.toks) (ch := [z, p]) (fun c o hb q => a3 c o (fun q' => hb (by simp [q'])) q) hf (Nat.le_refl _) new
      refine ⟨.ref s.heap.objs.size, _, I1, rfl, ⟨_, _, rfl, I.hok.fresh (Nat.le_refl _), rfl, ?_⟩, ⟨?_, 1, _, l', a1, .inr ⟨i, rfl, rfl, hl'⟩⟩, fun c hcm => ?_⟩
      · unfold rows
        rw [hn, List.getElem?_map, List.getElem?_map, hl']
        rfl
      · obtain ⟨o, ho, r'⟩ := hp
        exact ⟨o, a3 p o hzp ho, r'⟩
      · have hlt : c < s.heap.objs.size := by
          have e' : c = z ∨ c = p := by simpa using hcm
          rcases e' with q | q
          · rw [q]; exact hzl
          · rw [q]; exact hpl
        rw [upd_ne (Nat.ne_of_lt hlt)]
        exact (hf c hcm).1
    rcases q with ⟨rfl, rfl, rfl⟩ | ⟨j, rfl, rfl, hj⟩
    · have h0 : (perms its.size its.size)[0]? = some (begin_ its.size its.size) := by
        rw [← List.head?_eq_getElem?]
        exact (ok_run ok).2
      exact pyNext_first hz hp (by omega) fun h' a1 a2 a3 => ⟨_, rfl, fin _ h0 h' a1 a2 a3⟩
    · have hk := (ok_run ok).1.at hj
      rw [List.getElem?_eq_getElem hg'] at hk
      obtain ⟨m1, _⟩ := ok_each ok (List.getElem_mem hg')
      obtain ⟨_, _, _, m4⟩ := ok_each ok (List.mem_of_getElem? hj)
      exact pyNext_item hz hp hk (by omega) (by omega) m4 fun h' a1 a2 a3 => ⟨_, rfl, fin _ (List.getElem?_eq_getElem hg') h' a1 a2 a3⟩
  done := by
    intro X hP hw hK hc i pins s σ H E I hf st hg
    subst hP hw hK
    have hn : xs.length = its.size := by rw [rv.length, Array.length_toList]
    obtain ⟨hp, s0, last, l, hz, q⟩ := st
    have hg' : (perms its.size its.size).length ≤ i := by
      have : (rows xs.length xs.length).length ≤ i := hg
      unfold rows at this
      rw [List.length_map, hn] at this
      exact this
    have hend : (s0 = 1 ∧ pNext its.size its.size l = none) ∨ s0 = 2 := by
      rcases q with ⟨rfl, rfl, rfl⟩ | ⟨j, rfl, rfl, hj⟩
      · have h0 := (ok_run ok).2
        rw [List.eq_nil_of_length_eq_zero (Nat.le_zero.mp hg')] at h0
        cases h0
      · have hk := (ok_run ok).1.at hj
        rw [List.getElem?_eq_none hg'] at hk
        exact .inl ⟨rfl, hk⟩
    exact pyNext_end (I.ok.hd hc) hz hp hend fun h' hk => ⟨rfl, I.turnedL (t' := s.toks) (ch := [z, p]) (fun c o hb q => hk c o (fun q' => hb (by simp [q'])) q) hf⟩
  self := fun A i s Q E st h => by
    obtain ⟨hp, s0, last, l, hz, q⟩ := st
    exact pyIter_perm hz h
section
variable {X : Cx} {tg e e2 : Expr} {ta : TA} {p pos p2 pos2 : Pos} {x : PySem.Str}
def iPerm (K : PySem.W.Frag) (ta : TA) : TI := fun σ H R => ta σ H fun vs H1 => ∃ (a : Addr) (xs : List V), vs = [.ref a] ∧ (SqL K H1 a xs ∨ SqT K H1 a xs) ∧ xs.length ≤ 6 ∧ R (Itp xs) H1
theorem pi_perm (hg : Gl X x) (hm : X.mg x = some (.type cT)) (ha : PA X [e] ta) (hdb : (x == ("__debug__" : Str)) = false := by decide)
    (hs : starEach [e] X.env = (false, eval e X.env) :: starEach [] X.env := by rfl) (hpl : (backTo pos (starEach [] X.env)).any (·.1) = false := by rfl) :
    PI X tg (.Call (.Name x p) [e] [] pos) (iPerm X.K ta) := by
  refine ⟨fun pins s σ H R I h => ?_⟩
  refine wpAny_Call_Name_kw (ld_glob I hg hm ?_ hdb)
  refine PyProof.Rows.callWith_type1 (thn (ha.run pos pins s σ H _ I h) fun us s1 ⟨vs, H1, I1, r1, q1⟩ => ?_) hs hpl
  obtain ⟨a, xs, ex, hq, k6, q⟩ := q1
  subst ex
  obtain ⟨u, rfl, rfl⟩ := vals1 r1
  obtain ⟨its, rv, p1, hz⟩ : ∃ its, Vals xs its ∧ CMB.IsSeq s1.heap a its ∧ xs.length ≤ sizeLine := by
    rcases hq with hq | hq
    · obtain ⟨its, rv, p1, hz⟩ := I1.list hq
      exact ⟨its, rv, .inl p1.isList, hz⟩
    · obtain ⟨its, rv, p1, hz⟩ := I1.tuple hq
      exact ⟨its, rv, .inr p1, hz⟩
  have hl := rv.length
  refine call_perm p1 (by omega) fun h' p z hz' hp h1 h2 hk => ?_
  refine pyIter_perm (s := { s1 with heap := h' }) hz' ?_
  have I2 : Inv X pins σ H1 { s1 with heap := h' } := I1.kept (t' := s1.toks) hk
  have ok : permOk its.toArray.size its.toArray.size = true := permOk_6 (by rw [List.size_toArray]; omega)
  refine ⟨z, [z, p], _, _, H1, rfl, I2, turn_perm (xs := xs) (its := its.toArray) (p := p) rv ok, ⟨hp, _, _, _, by rw [List.size_toArray]; exact hz', .inl ⟨rfl, rfl, by rw [List.size_toArray]⟩⟩, fun c hc => ?_, q⟩
  have e' : c = z ∨ c = p := by simpa using hc
  rcases e' with q | q
  · rw [q]; exact I1.fpOk h2 (I1.hok.fresh h2)
  · rw [q]; exact I1.fpOk h1 (I1.hok.fresh h1)
end
end PMT
end S_PMD

section S_PME
namespace PL
open PySem PySem.Spec PyProof.Rows L2
/-- permutations(xs) as data -/
def permL (xs : List D) : List D := (PMT.rows xs.length xs.length).map fun l => .tuple (l.map fun k => xs.getD k .none)
def permD : List D → Option (List D)
  | [.list xs] => if decide (xs.length ≤ 6) then some (permL xs) else none
  | [.tuple xs] => if decide (xs.length ≤ 6) then some (permL xs) else none
  | _ => none
theorem wk_perm {K : PySem.W.Frag} {F : Hp} {vs : List V} {ds : List D} (h : DqAll K F vs ds) (h6 : vs.length ≤ 6) : Wk K (PMT.Itp vs) (permL ds) F := by
  have hl := DqAll_len h
  have len : (PMT.rows vs.length vs.length).length = (permL ds).length := by
    unfold permL
    rw [List.length_map, hl]
  refine ⟨fun i F1 H1 s s1 hi => ?_, fun i F1 H1 x H2 s s1 hi ⟨T, c, e, n, e2, q⟩ => ?_, fun i F1 H1 s s1 hi => ?_⟩
  · show i < (PMT.rows vs.length vs.length).length
    rw [len]
    exact hi
  · subst e
    subst e2
    have g := gr_laid s1 (o := .tup c) n
    rw [List.getElem?_map] at q
    cases hx : (PMT.rows vs.length vs.length)[i]? with
    | none =>
      rw [hx] at q
      cases q
    | some l =>
      rw [hx] at q
      cases q
      have hm := List.mem_of_getElem? hx
      have hlt : ∀ k ∈ l, k < vs.length := fun k hk => by
        obtain ⟨l', h1, rfl⟩ := List.mem_map.mp hm
        exact (PMT.ok_each (PMT.permOk_6 h6) h1).2.2.1 k hk
      refine ⟨_, g, .tuple (l.map fun k => ds.getD k .none), ?_, .tup (.inl (.of upd_same)) ?_⟩
      · unfold permL
        rw [← hl, List.getElem?_map, hx]
        rfl
      · exact DqAll_ext (s.trans g.f) (DqAll_pick h l hlt)
  · show (PMT.rows vs.length vs.length).length ≤ i
    rw [len]
    exact Nat.le_of_eq hi.symm
section
variable {X : Cx} {T : Tx} {W : WX} {tg e e1 e2 : Expr} {p p2 pos pos2 : Pos} {f g : Cm D} {fa : Cm (List D)} {x : PySem.Str} {ta : TA}
theorem di_perm (hg : Gl X x) (hm : X.mg x = some (.type PMT.cT)) (ha : DA X T W [e] fa) (hdb : (x == ("__debug__" : Str)) = false := by decide)
    (hs : starEach [e] X.env = (false, eval e X.env) :: starEach [] X.env := by rfl) (hpl : (backTo pos (starEach [] X.env)).any (·.1) = false := by rfl) :
    DI X T W tg (.Call (.Name x p) [e] [] pos) (itD fa permD) :=
  PI_imp (PMT.pi_perm hg hm ha hdb hs hpl) fun σ H R ⟨G, ρ, F, rp, h⟩ => ⟨G, ρ, F, rp, h.bind.imp fun ds ρ1 F1 H1 s1 rp1 h1 vs hv => by
    obtain ⟨xs, e, h2⟩ := h1.lift
    unfold permD at e
    split at e
    · split at e
      · rename_i z
        cases e
        simp only [decide_eq_true_eq] at z
        cases hv with
        | cons hx ht =>
          cases ht
          cases hx with
          | lst r a =>
            have hl := DqAll_len a
            exact ⟨_, _, rfl, .inl (.inl (Rd_ext rp1.same r)), by omega, h2.ret rp1 (.refl _) _ (wk_perm a (by omega))⟩
      · cases e
    · split at e
      · rename_i z
        cases e
        simp only [decide_eq_true_eq] at z
        cases hv with
        | cons hx ht =>
          cases ht
          cases hx with
          | tup r a =>
            have hl := DqAll_len a
            exact ⟨_, _, rfl, .inr (SqT_ext rp1.same r), by omega, h2.ret rp1 (.refl _) _ (wk_perm a (by omega))⟩
      · cases e
    · cases e⟩
/-! over a range -/
def iPermR (ta : TA) : TI := fun σ H R => ta σ H fun vs H1 => ∃ lo hi : Int, (vs = [.int hi] ∧ lo = 0 ∨ vs = [.int lo, .int hi]) ∧ -(2 ^ 62) ≤ lo ∧ lo < 2 ^ 62 ∧ -(2 ^ 62) ≤ hi ∧ hi < 2 ^ 62 ∧ hi - lo ≤ 6 ∧
  R (PMT.Itp ((List.range (hi - lo).toNat).map fun (i : Nat) => V.int (lo + (i : Int)))) H1
theorem perm_rng {pins : List (Addr × Obj)} {σ : L2.St} {H : Hp} {s : Shared} {lo hi : Int} {t u v : Tok} {tk : Nat} {R : It → Hp → Prop} (hc : X.calm = true) (I : Inv X pins σ H s) (b1 : -(2 ^ 62) ≤ lo) (b2 : lo < 2 ^ 62) (b3 : -(2 ^ 62) ≤ hi) (b4 : hi < 2 ^ 62) (b5 : hi - lo ≤ 6)
    (q : R (PMT.Itp ((List.range (hi - lo).toNat).map fun (i : Nat) => V.int (lo + (i : Int)))) H) :
    wpAny (model X.prog X.w) X.A (call (.type PMT.cT) [.ref s.heap.objs.size]) (fun v s1 => wpAny (model X.prog X.w) X.A (pyIter v) (PIE X pins σ tg R) X.xe s1) X.xe { s with heap := s.heap.push { cls := .type "range", data := .fields #[.int lo t, .int hi u, .int 1 v] }, toks := tk } := by
  have I1 : Inv X pins σ H { s with heap := s.heap.push { cls := .type "range", data := .fields #[.int lo t, .int hi u, .int 1 v] }, toks := tk } := I.kept fun b o e => Heap.get?_push_of_some _ e
  refine PMT.call_permR (I.ok.hd hc) (IsRange.new ..) (small_one b1 b2 b3 b4) ?_ ?_ fun h' tk' p z acc hi' hz hp hl1 hl2 hk => ?_
  · omega
  · rw [rangeSize_one]
    split <;> omega
  · have hv := vals_rng hi'
    have hlen : acc.size = (hi - lo).toNat := hi'.1
    have I2 : Inv X pins σ H { s with heap := h', toks := tk' } := I1.kept (t' := tk') hk
    rw [Array.length_toList] at hz
    refine PMT.pyIter_perm (s := { s with heap := h', toks := tk' }) hz ?_
    refine ⟨z, [z, p], _, _, H, rfl, I2, PMT.turn_perm (p := p) hv (PMT.permOk_6 (by omega)), ⟨hp, _, _, _, hz, .inl ⟨rfl, rfl, rfl⟩⟩, fun c hc => ?_, q⟩
    have e' : c = z ∨ c = p := by simpa using hc
    rcases e' with q | q
    · rw [q]; exact I.fpOk (Nat.le_of_lt hl2) (I.hok.fresh (Nat.le_of_lt hl2))
    · rw [q]; exact I.fpOk (Nat.le_of_lt hl1) (I.hok.fresh (Nat.le_of_lt hl1))
theorem pi_permR1 (hc : X.calm = true) (hg : Gl X x) (hm : X.mg x = some (.type PMT.cT)) (hg2 : Gl X "range") (hm2 : X.mg "range" = none) (ha : PA X [e] ta) (hdb : (x == ("__debug__" : Str)) = false := by decide) (hs : starEach [e] X.env = [(false, eval e X.env)] := by rfl)
    (na : starEach [.Call (.Name "range" p2) [e] [] pos2] X.env = (false, eval (.Call (.Name "range" p2) [e] [] pos2) X.env) :: starEach [] X.env := by rfl) :
    PI X tg (.Call (.Name x p) [.Call (.Name "range" p2) [e] [] pos2] [] pos) (iPermR ta) := by
  refine ⟨fun pins s σ H R I h => ?_⟩
  refine wpAny_Call_Name_kw (ld_glob I hg hm ?_ hdb)
  refine PyProof.Rows.callWith_type1 (PyProof.Rows.args_cons ?_ na) na rfl
  refine Call_ (ld_blt I hg2 hm2 boot_range ?_)
  refine PyProof.Rows.callWith_type1 (thn (ha.run pos2 pins s σ H _ I h) fun us s1 ⟨vs, H1, I1, r1, q1⟩ => ?_) hs rfl
  obtain ⟨lo, hi, e, b1, b2, b3, b4, b5, q⟩ := q1
  rcases e with ⟨rfl, rfl⟩ | rfl
  · obtain ⟨u, rfl, t, rfl⟩ := vals1 r1
    exact call_range_1 (PyProof.Rows.args_nil (perm_rng hc I1 b1 b2 b3 b4 b5 q))
  · cases r1 with
    | cons r r1 => cases r1 with
      | cons r' r1 =>
        cases r1
        obtain ⟨t, rfl⟩ := r
        obtain ⟨t', rfl⟩ := r'
        exact call_range_2 (PyProof.Rows.args_nil (perm_rng hc I1 b1 b2 b3 b4 b5 q))
theorem pi_permR2 (hc : X.calm = true) (hg : Gl X x) (hm : X.mg x = some (.type PMT.cT)) (hg2 : Gl X "range") (hm2 : X.mg "range" = none) (ha : PA X [e1, e2] ta) (hdb : (x == ("__debug__" : Str)) = false := by decide) (hs : starEach [e1, e2] X.env = [(false, eval e1 X.env), (false, eval e2 X.env)] := by rfl) (hs2 : starEach [e2] X.env = [(false, eval e2 X.env)] := by rfl)
    (na : starEach [.Call (.Name "range" p2) [e1, e2] [] pos2] X.env = (false, eval (.Call (.Name "range" p2) [e1, e2] [] pos2) X.env) :: starEach [] X.env := by rfl) :
    PI X tg (.Call (.Name x p) [.Call (.Name "range" p2) [e1, e2] [] pos2] [] pos) (iPermR ta) := by
  refine ⟨fun pins s σ H R I h => ?_⟩
  refine wpAny_Call_Name_kw (ld_glob I hg hm ?_ hdb)
  refine PyProof.Rows.callWith_type1 (PyProof.Rows.args_cons ?_ na) na rfl
  refine Call_ (ld_blt I hg2 hm2 boot_range ?_)
  refine PyProof.Rows.callWith_type1 (thn (ha.run pos2 pins s σ H _ I h) fun us s1 ⟨vs, H1, I1, r1, q1⟩ => ?_) (by rw [hs, hs2]) (by rw [hs2]; rfl)
  obtain ⟨lo, hi, e, b1, b2, b3, b4, b5, q⟩ := q1
  rcases e with ⟨rfl, rfl⟩ | rfl
  · obtain ⟨u, rfl, t, rfl⟩ := vals1 r1
    exact call_range_1 (PyProof.Rows.args_nil (perm_rng hc I1 b1 b2 b3 b4 b5 q))
  · cases r1 with
    | cons r r1 => cases r1 with
      | cons r' r1 =>
        cases r1
        obtain ⟨t, rfl⟩ := r
        obtain ⟨t', rfl⟩ := r'
        exact call_range_2 (PyProof.Rows.args_nil (perm_rng hc I1 b1 b2 b3 b4 b5 q))
def permR : List D → Option (List D)
  | [.int j] => if okR j && decide (j ≤ 6) then some (permL (rngL 0 j.toNat)) else none
  | [.int i, .int j] => if okR i && okR j && decide (j - i ≤ 6) then some (permL (rngL i (j - i).toNat)) else none
  | _ => none
theorem di_permR1 (hg : Gl X x) (hm : X.mg x = some (.type PMT.cT)) (hm2 : X.mg "range" = none) (hc : X.calm = true) (ha : DA X T W [e] fa) (hg2 : Gl X "range" := by rfl) (hdb : (x == ("__debug__" : Str)) = false := by decide) (hs : starEach [e] X.env = [(false, eval e X.env)] := by rfl)
    (na : starEach [.Call (.Name "range" p2) [e] [] pos2] X.env = (false, eval (.Call (.Name "range" p2) [e] [] pos2) X.env) :: starEach [] X.env := by rfl) :
    DI X T W tg (.Call (.Name x p) [.Call (.Name "range" p2) [e] [] pos2] [] pos) (itD fa permR) :=
  PI_imp (pi_permR1 hc hg hm hg2 hm2 ha hdb hs na) fun σ H R ⟨G, ρ, F, rp, h⟩ => ⟨G, ρ, F, rp, h.bind.imp fun ds ρ1 F1 H1 s1 rp1 h1 vs hv => by
    obtain ⟨xs, e, h2⟩ := h1.lift
    unfold permR at e
    split at e
    · split at e
      · rename_i z
        cases e
        simp only [Bool.and_eq_true, decide_eq_true_eq] at z
        cases hv with
        | cons hx ht =>
          cases ht
          cases hx
          have z1 := okR_ok z.1
          have e0 : ∀ j : Int, j - 0 = j := fun j => by omega
          refine ⟨0, _, .inl ⟨rfl, rfl⟩, by omega, by omega, z1.1, z1.2, by omega, ?_⟩
          rw [e0]
          exact h2.ret rp1 (.refl _) _ (wk_perm (DqAll_rng 0 _) (by rw [List.length_map, List.length_range]; omega))
      · cases e
    · split at e
      · rename_i z
        cases e
        simp only [Bool.and_eq_true, decide_eq_true_eq] at z
        cases hv with
        | cons hx ht => cases ht with
          | cons hy ht =>
            cases ht
            cases hx
            cases hy
            have z1 := okR_ok z.1.1
            have z2 := okR_ok z.1.2
            exact ⟨_, _, .inr rfl, z1.1, z1.2, z2.1, z2.2, z.2, h2.ret rp1 (.refl _) _ (wk_perm (DqAll_rng _ _) (by rw [List.length_map, List.length_range]; omega))⟩
      · cases e
    · cases e⟩
theorem di_permR2 (hg : Gl X x) (hm : X.mg x = some (.type PMT.cT)) (hm2 : X.mg "range" = none) (hc : X.calm = true) (ha : DA X T W [e1, e2] fa) (hg2 : Gl X "range" := by rfl) (hdb : (x == ("__debug__" : Str)) = false := by decide) (hs : starEach [e1, e2] X.env = [(false, eval e1 X.env), (false, eval e2 X.env)] := by rfl) (hs2 : starEach [e2] X.env = [(false, eval e2 X.env)] := by rfl)
    (na : starEach [.Call (.Name "range" p2) [e1, e2] [] pos2] X.env = (false, eval (.Call (.Name "range" p2) [e1, e2] [] pos2) X.env) :: starEach [] X.env := by rfl) :
    DI X T W tg (.Call (.Name x p) [.Call (.Name "range" p2) [e1, e2] [] pos2] [] pos) (itD fa permR) :=
  PI_imp (pi_permR2 hc hg hm hg2 hm2 ha hdb hs hs2 na) fun σ H R ⟨G, ρ, F, rp, h⟩ => ⟨G, ρ, F, rp, h.bind.imp fun ds ρ1 F1 H1 s1 rp1 h1 vs hv => by
    obtain ⟨xs, e, h2⟩ := h1.lift
    unfold permR at e
    split at e
    · split at e
      · rename_i z
        cases e
        simp only [Bool.and_eq_true, decide_eq_true_eq] at z
        cases hv with
        | cons hx ht =>
          cases ht
          cases hx
          have z1 := okR_ok z.1
          have e0 : ∀ j : Int, j - 0 = j := fun j => by omega
          refine ⟨0, _, .inl ⟨rfl, rfl⟩, by omega, by omega, z1.1, z1.2, by omega, ?_⟩
          rw [e0]
          exact h2.ret rp1 (.refl _) _ (wk_perm (DqAll_rng 0 _) (by rw [List.length_map, List.length_range]; omega))
      · cases e
    · split at e
      · rename_i z
        cases e
        simp only [Bool.and_eq_true, decide_eq_true_eq] at z
        cases hv with
        | cons hx ht => cases ht with
          | cons hy ht =>
            cases ht
            cases hx
            cases hy
            have z1 := okR_ok z.1.1
            have z2 := okR_ok z.1.2
            exact ⟨_, _, .inr rfl, z1.1, z1.2, z2.1, z2.2, z.2, h2.ret rp1 (.refl _) _ (wk_perm (DqAll_rng _ _) (by rw [List.length_map, List.length_range]; omega))⟩
      · cases e
    · cases e⟩
end
end PL
end S_PME

section S_PMF
namespace PL
open PySem PySem.Spec PyProof.Rows L2
/-! ### list comprehensions of two clauses -/
def lcL2 (vs vs1 : List Nat) (g : D → Cm Unit) (t : Cm Bool) (fi1 : Cm (List D)) (g1 : D → Cm Unit) (t1 : Cm Bool) (e : Cm D) : List D → Cm (List D)
  | [] => ret []
  | d :: ds => bnd (g d) fun _ => bnd t fun b => if b then bnd fi1 fun ds1 => bnd (wipeC vs1) fun _ => bnd (lcL vs1 g1 t1 e ds1) fun ys => bnd (wipeC vs) fun _ => bnd (lcL2 vs vs1 g t fi1 g1 t1 e ds) fun zs => ret (ys ++ zs)
    else bnd (wipeC vs) fun _ => lcL2 vs vs1 g t fi1 g1 t1 e ds
def lcR2 (vs : List Nat) (ρ : En) : R (List D) → R (List D)
  | .ok ys ρ' => if sizeOkL ys.length then .ok ys (backE ρ ρ' vs) else .no
  | _ => .no
def lcM2 (vs vs1 : List Nat) (fi : Cm (List D)) (g : D → Cm Unit) (t : Cm Bool) (fi1 : Cm (List D)) (g1 : D → Cm Unit) (t1 : Cm Bool) (e : Cm D) : Cm (List D) :=
  bnd fi fun ds => fun ρ => if noOwn ρ vs then lcR2 vs ρ (lcL2 vs vs1 g t fi1 g1 t1 e ds (wipeE ρ vs)) else .no
theorem wipe_in (σ : L2.St) {vs : List Nat} : ∀ {us : List Nat}, (∀ u ∈ us, u ∈ vs) → L2.wipe (L2.wipe σ us) vs = L2.wipe σ vs
  | [], _ => rfl
  | u :: us, h => by
    have ih := wipe_in σ (vs := vs) (us := us) fun x hx => h x (List.mem_cons_of_mem _ hx)
    show L2.wipe ((L2.wipe σ us).set u none) vs = _
    rw [← ih]
    have key : ∀ (τ : L2.St) (ws : List Nat), u ∈ ws → L2.wipe (τ.set u none) ws = L2.wipe τ ws := by
      intro τ ws
      induction ws with
      | nil => intro h; cases h
      | cons w ws ihw =>
        intro hm
        show (L2.wipe (τ.set u none) ws).set w none = (L2.wipe τ ws).set w none
        by_cases hu : u ∈ ws
        · rw [ihw hu]
        · have e : u = w := (List.mem_cons.mp hm).resolve_right hu
          subst e
          have comm : ∀ (τ : L2.St) (ws : List Nat), (L2.wipe (τ.set u none) ws).set u none = (L2.wipe τ ws).set u none := by
            intro τ ws
            induction ws with
            | nil => show (τ.set u none).set u none = τ.set u none; rw [List.set_set]
            | cons w ws ih2 =>
              show ((L2.wipe (τ.set u none) ws).set w none).set u none = ((L2.wipe τ ws).set w none).set u none
              by_cases hw : w = u
              · subst hw
                rw [List.set_set, List.set_set]
                exact ih2
              · rw [List.set_comm _ _ hw, ih2, ← List.set_comm _ _ hw]
          exact comm τ ws
    exact key _ _ (h u (List.mem_cons_self ..))
section
variable {K : PySem.W.Frag} {T : Tx} {mg : Str → Option Value} {W : WX} {vs vs1 : List Nat} {fi fi1 : Cm (List D)} {g g1 : D → Cm Unit} {t t1 : Cm Bool} {e : Cm D}
theorem lc2_read (hv : ∀ i ∈ vs1, i ∈ vs) {σ : L2.St} {H : Hp} {Q : VK} (h : tO K T mg W (lcM2 vs vs1 fi g t fi1 g1 t1 e) σ H Q) :
    tLc2 (tId K T mg W fi) (tGd K T mg W0 vs g) (tT K T mg W0 t) (tId K T mg W0 fi1) (tGd K T mg W0 vs1 g1) (tT K T mg W0 t1) (tE K T mg W0 e) vs vs1 σ H Q := by
  obtain ⟨G, ρ, F, rp, h⟩ := h
  refine ⟨G, ρ, F, rp, h.bind.imp fun ds ρ1 F1 H1 s1 rp1 h1 J wk D hD => ?_⟩
  by_cases hn : noOwn ρ1 vs = true
  · rw [if_pos hn] at h1
    cases hq : lcL2 vs vs1 g t fi1 g1 t1 e ds (wipeE ρ1 vs) with
    | no => rw [hq] at h1; exact (show False from h1).elim
    | ex x ρ2 => rw [hq] at h1; exact (show False from h1).elim
    | ok ys ρe =>
      rw [hq] at h1
      by_cases hsz : sizeOkL ys.length = true
      · have e0 : lcR2 vs ρ1 (R.ok ys ρe) = R.ok ys (backE ρ1 ρe vs) := if_pos hsz
        rw [e0] at h1
        have hz : ys.length ≤ 16777216 := of_decide_eq_true hsz
        refine ⟨fun i m H => m = ds.length - i ∧ i ≤ ds.length ∧ ∃ ρ2 F2 acc ys', Same F1 F2 ∧ Rp K T G ρ2 F2 (L2.wipe σ vs) H ∧ New K G ρ2 F2 (L2.wipe σ vs) H D acc ∧ lcL2 vs vs1 g t fi1 g1 t1 e (ds.drop i) ρ2 = .ok ys' ρe ∧ acc ++ ys' = ys,
          ⟨_, rfl, Nat.zero_le _, wipeE ρ1 vs, F1, [], ys, .refl _, (rp1.gr (rp1.grown hD)).wipe vs, (rp1.new hD .nil).wipe vs, hq, rfl⟩, ?_⟩
        rintro i m H2 ⟨rfl, hi, ρ2, F2, acc, ys', s2, rp2, n2, e2, ey⟩
        by_cases hlt : i < ds.length
        · have ed : ds.drop i = ds[i] :: ds.drop (i + 1) := List.drop_eq_getElem_cons hlt
          rw [ed] at e2
          refine .inr ⟨wk.go i F2 H2 s2 rp2.same hlt, fun H' => ∃ ρ2 F2 acc ys', Same F1 F2 ∧ Rp K T G ρ2 F2 (L2.wipe σ vs) H' ∧ New K G ρ2 F2 (L2.wipe σ vs) H' D acc ∧ lcL2 vs vs1 g t fi1 g1 t1 e (ds.drop (i + 1)) ρ2 = .ok ys' ρe ∧ acc ++ ys' = ys,
            fun H' z => ⟨_, by omega, rfl, hlt, z⟩, fun x H3 hy => ?_⟩
          obtain ⟨F3, g3, d, ed2, hd⟩ := wk.yld i F2 H2 x H3 s2 rp2.same hlt hy
          have : d = ds[i] := by rw [List.getElem?_eq_getElem hlt] at ed2; exact (Option.some.inj ed2).symm
          subst this
          have rp3 := rp2.gr g3
          have n3 := n2.gr g3
          obtain ⟨_, ρ4, e4, e5⟩ := bnd_ok e2
          obtain ⟨b, ρ5, e6, e7⟩ := bnd_ok e5
          refine ⟨inner G ρ2 F3 (L2.wipe σ vs) H3, ρ2, F3, _, rp3.enter, hd, ?_⟩
          rw [e4]
          refine fun σ4 F4 H4 s4 rp4 w4 => ⟨w4.trans (wipe_idem σ vs), ?_⟩
          rw [wipe_idem] at w4
          refine ⟨_, ρ4, F4, rp4, ?_⟩
          rw [e6]
          refine fun F5 H5 s5 rp5 => ?_
          cases b with
          | false =>
            rw [if_neg Bool.false_ne_true] at e7 ⊢
            have rpo := (rp3.leave rp5).wipe vs
            have no := (n3.inner rp3 rp5).wipe vs
            rw [w4] at rpo no
            obtain ⟨_, ρ7, e8, e9⟩ := bnd_ok e7
            cases e8
            exact ⟨_, F5, acc, ys', s2.trans (g3.f.trans (s4.trans s5)), rpo, no, e9, ey⟩
          | true =>
            rw [if_pos rfl] at e7 ⊢
            obtain ⟨ds1, ρ6, e8, e9⟩ := bnd_ok e7
            refine ⟨_, ρ5, F5, rp5, ?_⟩
            rw [e8]
            refine fun F6 H6 s6 rp6 J1 wk1 => ?_
            have rpo := rp3.leave rp6
            have no := n3.inner rp3 rp6
            obtain ⟨_, ρ7, e10, e11⟩ := bnd_ok e9
            cases e10
            obtain ⟨ys1, ρ8, e12, e13⟩ := bnd_ok e11
            obtain ⟨_, ρ9, e14, e15⟩ := bnd_ok e13
            cases e14
            obtain ⟨zs, ρ10, e16, e17⟩ := bnd_ok e15
            cases e17
            refine ⟨fun j k H => k = ds1.length - j ∧ j ≤ ds1.length ∧ ∃ ρ2 F2 acc1 ys', Same F6 F2 ∧ Rp K T G ρ2 F2 (L2.wipe σ4 vs1) H ∧ New K G ρ2 F2 (L2.wipe σ4 vs1) H D acc1 ∧ lcL vs1 g1 t1 e (ds1.drop j) ρ2 = .ok ys' ρ8 ∧ acc1 ++ ys' = acc ++ ys1,
              ⟨_, rfl, Nat.zero_le _, wipeE ρ6 vs1, F6, acc, ys1, .refl _, rpo.wipe vs1, no.wipe vs1, e12, rfl⟩, ?_⟩
            rintro j k H7 ⟨rfl, hj, ρ12, F12, acc1, ys1', s12, rp12, n12, e18, ey1⟩
            by_cases hlt1 : j < ds1.length
            · have ed1 : ds1.drop j = ds1[j] :: ds1.drop (j + 1) := List.drop_eq_getElem_cons hlt1
              rw [ed1] at e18
              refine .inr ⟨wk1.go j F12 H7 s12 rp12.same hlt1, fun H' => ∃ ρ2 F2 acc1 ys', Same F6 F2 ∧ Rp K T G ρ2 F2 (L2.wipe σ4 vs1) H' ∧ New K G ρ2 F2 (L2.wipe σ4 vs1) H' D acc1 ∧ lcL vs1 g1 t1 e (ds1.drop (j + 1)) ρ2 = .ok ys' ρ8 ∧ acc1 ++ ys' = acc ++ ys1,
                fun H' z => ⟨_, by omega, rfl, hlt1, z⟩, fun x1 H8 hy1 => ?_⟩
              obtain ⟨F13, g13, d1, ed3, hd1⟩ := wk1.yld j F12 H7 x1 H8 s12 rp12.same hlt1 hy1
              have : d1 = ds1[j] := by rw [List.getElem?_eq_getElem hlt1] at ed3; exact (Option.some.inj ed3).symm
              subst this
              have rp13 := rp12.gr g13
              have n13 := n12.gr g13
              obtain ⟨_, ρ14, e19, e20⟩ := bnd_ok e18
              obtain ⟨b1, ρ15, e21, e22⟩ := bnd_ok e20
              refine ⟨inner G ρ12 F13 (L2.wipe σ4 vs1) H8, ρ12, F13, _, rp13.enter, hd1, ?_⟩
              rw [e19]
              refine fun σ5 F14 H9 s14 rp14 w5 => ⟨w5.trans (wipe_idem σ4 vs1), ?_⟩
              rw [wipe_idem] at w5
              refine ⟨_, ρ14, F14, rp14, ?_⟩
              rw [e21]
              refine fun F15 H10 s15 rp15 => ?_
              cases b1 with
              | false =>
                rw [if_neg Bool.false_ne_true] at e22 ⊢
                have rpo1 := (rp13.leave rp15).wipe vs1
                have no1 := (n13.inner rp13 rp15).wipe vs1
                rw [w5] at rpo1 no1
                obtain ⟨_, ρ16, e23, e24⟩ := bnd_ok e22
                cases e23
                exact ⟨_, F15, acc1, ys1', s12.trans (g13.f.trans (s14.trans s15)), rpo1, no1, e24, ey1⟩
              | true =>
                rw [if_pos rfl] at e22 ⊢
                obtain ⟨y, ρ16, e23, e24⟩ := bnd_ok e22
                refine ⟨_, ρ15, F15, rp15, ?_⟩
                rw [e23]
                refine fun F16 H11 s16 rp16 v hv' => ?_
                have rpo1 := rp13.leave rp16
                have no1 := n13.inner rp13 rp16
                obtain ⟨_, _, us, hu, ha⟩ := no1.at_
                obtain ⟨rpw, nw⟩ := no1.write (us := us ++ [v]) (ys := acc1 ++ [y]) rpo1 (DqAll_append ha (.cons hv' .nil))
                have hl := DqAll_len ha
                obtain ⟨_, ρ17, e25, e26⟩ := bnd_ok e24
                cases e25
                obtain ⟨ys2, ρ18, e27, e28⟩ := bnd_ok e26
                cases e28
                have rpo2 := rpw.wipe vs1
                have no2 := nw.wipe vs1
                rw [w5] at rpo2 no2
                have l1 := congrArg List.length ey1
                have l2 := congrArg List.length ey
                simp only [List.length_append, List.length_cons] at l1 l2
                refine ⟨us, hu, by rw [sizeLine_eq]; omega, _, F16, acc1 ++ [y], ys2, s12.trans (g13.f.trans (s14.trans (s15.trans s16))), rpo2, no2, e27, ?_⟩
                rw [List.append_assoc]
                exact ey1
            · refine .inl ⟨wk1.stop j F12 H7 s12 rp12.same (by omega), ?_⟩
              rw [List.drop_of_length_le (by omega)] at e18
              cases e18
              rw [List.append_nil] at ey1
              subst ey1
              have rpw := rp12.wipe vs
              have now := n12.wipe vs
              rw [wipe_in σ4 hv, w4] at rpw now
              exact ⟨_, F12, _, zs, s2.trans (g3.f.trans (s4.trans (s5.trans (s6.trans s12)))), rpw, now, e16, by rw [List.append_assoc]; exact ey⟩
        · refine .inl ⟨wk.stop i F2 H2 s2 rp2.same (by omega), ?_⟩
          rw [List.drop_of_length_le (by omega)] at e2
          cases e2
          rw [List.append_nil] at ey
          subst ey
          exact h1 F2 H2 s2 (rp1.back rp2 s2 hn) D (n2.back rfl hn)
      · have e0 : lcR2 vs ρ1 (R.ok ys ρe) = .no := if_neg hsz
        rw [e0] at h1
        exact (show False from h1).elim
  · rw [if_neg hn] at h1
    exact (show False from h1).elim
end
section
variable {X : Cx} {T : Tx} {W : WX} {elt tg iter tg1 iter1 : Expr} {ifs ifs1 : List Expr} {scope : Scope} {own : List (Str × Nat)} {vs1 : List Nat} {pos spos py : Pos} {fi fi1 : Cm (List D)} {g g1 : D → Cm Unit} {t t1 : Cm Bool} {e : Cm D}
theorem oe_lc2 (hc : X.calm = true) (hN : X.N.Nodup) (hi : DI X T W tg iter fi) (ok : BlkOk X.N X.env.scope scope own) (hv : ∀ i ∈ vs1, i ∈ own.map (·.2))
    (hg : ∀ (s : Shared) (H : Hp) (C : Addr) (cl : List (Str × Addr)) (fp : List Addr), DG (X.blk s H scope (compEnvC scope cl C X.env) fp) T W0 (own.map (·.2)) tg g) (ht : ∀ (s : Shared) (H : Hp) (C : Addr) (cl : List (Str × Addr)) (fp : List Addr), PTs (X.blk s H scope (compEnvC scope cl C X.env) fp) ifs (tT X.K T X.mg W0 t))
    (hi1 : ∀ (s : Shared) (H : Hp) (C : Addr) (cl : List (Str × Addr)) (fp : List Addr), DI (X.blk s H scope (compEnvC scope cl C X.env) fp) T W0 tg1 iter1 fi1)
    (hg1 : ∀ (s : Shared) (H : Hp) (C : Addr) (cl : List (Str × Addr)) (fp : List Addr), DG (X.blk s H scope (compEnvC scope cl C X.env) fp) T W0 vs1 tg1 g1) (ht1 : ∀ (s : Shared) (H : Hp) (C : Addr) (cl : List (Str × Addr)) (fp : List Addr), PTs (X.blk s H scope (compEnvC scope cl C X.env) fp) ifs1 (tT X.K T X.mg W0 t1))
    (he : ∀ (s : Shared) (H : Hp) (C : Addr) (cl : List (Str × Addr)) (fp : List Addr), DE (X.blk s H scope (compEnvC scope cl C X.env) fp) T W0 elt e) (hs : ∀ x, foldedSetIterable iter X.env x = pure x := by intro _; rfl) (hs1 : ∀ env x, foldedSetIterable iter1 env x = pure x := by intro _ _; rfl) :
    OE X T W (.ListComp elt [⟨tg, iter, ifs, 0⟩, ⟨tg1, iter1, ifs1, 0⟩] scope pos) (lcM2 (own.map (·.2)) vs1 fi g t fi1 g1 t1 e) :=
  PE_imp (pe_lc2 hc hN hi ok hv hg ht hi1 hg1 ht1 he hs hs1) fun σ H Q h => lc2_read hv h
theorem ds_setLc2 {i : Nat} {y : Str} (hc : X.calm = true) (hN : X.N.Nodup) (hy : X.N[i]? = some y) (hyl : X.env.scope.names.lookup y = some .local)
    (hsw : swapsWith (.ListComp elt [⟨tg, iter, ifs, 0⟩, ⟨tg1, iter1, ifs1, 0⟩] scope pos) (some (.Name y py)) spos.line X.env = pure true) (hi : DI X T W tg iter fi) (ok : BlkOk X.N X.env.scope scope own) (hv : ∀ i ∈ vs1, i ∈ own.map (·.2))
    (hg : ∀ (s : Shared) (H : Hp) (C : Addr) (cl : List (Str × Addr)) (fp : List Addr), DG (X.blk s H scope (compEnvC scope cl C X.env) fp) T W0 (own.map (·.2)) tg g) (ht : ∀ (s : Shared) (H : Hp) (C : Addr) (cl : List (Str × Addr)) (fp : List Addr), PTs (X.blk s H scope (compEnvC scope cl C X.env) fp) ifs (tT X.K T X.mg W0 t))
    (hi1 : ∀ (s : Shared) (H : Hp) (C : Addr) (cl : List (Str × Addr)) (fp : List Addr), DI (X.blk s H scope (compEnvC scope cl C X.env) fp) T W0 tg1 iter1 fi1)
    (hg1 : ∀ (s : Shared) (H : Hp) (C : Addr) (cl : List (Str × Addr)) (fp : List Addr), DG (X.blk s H scope (compEnvC scope cl C X.env) fp) T W0 vs1 tg1 g1) (ht1 : ∀ (s : Shared) (H : Hp) (C : Addr) (cl : List (Str × Addr)) (fp : List Addr), PTs (X.blk s H scope (compEnvC scope cl C X.env) fp) ifs1 (tT X.K T X.mg W0 t1))
    (he : ∀ (s : Shared) (H : Hp) (C : Addr) (cl : List (Str × Addr)) (fp : List Addr), DE (X.blk s H scope (compEnvC scope cl C X.env) fp) T W0 elt e) (hs : ∀ x, foldedSetIterable iter X.env x = pure x := by intro _; rfl) (hs1 : ∀ env x, foldedSetIterable iter1 env x = pure x := by intro _ _; rfl) :
    DS X T W (.Assign [.Name y py] (.ListComp elt [⟨tg, iter, ifs, 0⟩, ⟨tg1, iter1, ifs1, 0⟩] scope pos) spos) (setM i (frz (lcM2 (own.map (·.2)) vs1 fi g t fi1 g1 t1 e))) :=
  PS_imp (ps_setLc2 hc hN hy hyl hsw hi ok hv hg ht hi1 hg1 ht1 he hs hs1) fun σ H Dn ⟨G, ρ, F, rp, h⟩ => lc2_read hv ⟨G, ρ, F, rp, (SRs.bind h).bind.imp fun xs ρ1 F1 H1 s1 rp1 h1 p n => by
    obtain ⟨F2, s2, rp2, hd⟩ := n.freeze rp1
    have h2 := h1.ret rp2 s2
    exact h2 _ F2 H1 (.refl _) (rp2.setD i hd)⟩
theorem ds_setLc2O {i : Nat} {y : Str} (hc : X.calm = true) (hN : X.N.Nodup) (hy : X.N[i]? = some y) (hyl : X.env.scope.names.lookup y = some .local)
    (hsw : swapsWith (.ListComp elt [⟨tg, iter, ifs, 0⟩, ⟨tg1, iter1, ifs1, 0⟩] scope pos) (some (.Name y py)) spos.line X.env = pure true) (hi : DI X T W tg iter fi) (ok : BlkOk X.N X.env.scope scope own) (hv : ∀ i ∈ vs1, i ∈ own.map (·.2))
    (hg : ∀ (s : Shared) (H : Hp) (C : Addr) (cl : List (Str × Addr)) (fp : List Addr), DG (X.blk s H scope (compEnvC scope cl C X.env) fp) T W0 (own.map (·.2)) tg g) (ht : ∀ (s : Shared) (H : Hp) (C : Addr) (cl : List (Str × Addr)) (fp : List Addr), PTs (X.blk s H scope (compEnvC scope cl C X.env) fp) ifs (tT X.K T X.mg W0 t))
    (hi1 : ∀ (s : Shared) (H : Hp) (C : Addr) (cl : List (Str × Addr)) (fp : List Addr), DI (X.blk s H scope (compEnvC scope cl C X.env) fp) T W0 tg1 iter1 fi1)
    (hg1 : ∀ (s : Shared) (H : Hp) (C : Addr) (cl : List (Str × Addr)) (fp : List Addr), DG (X.blk s H scope (compEnvC scope cl C X.env) fp) T W0 vs1 tg1 g1) (ht1 : ∀ (s : Shared) (H : Hp) (C : Addr) (cl : List (Str × Addr)) (fp : List Addr), PTs (X.blk s H scope (compEnvC scope cl C X.env) fp) ifs1 (tT X.K T X.mg W0 t1))
    (he : ∀ (s : Shared) (H : Hp) (C : Addr) (cl : List (Str × Addr)) (fp : List Addr), DE (X.blk s H scope (compEnvC scope cl C X.env) fp) T W0 elt e) (hs : ∀ x, foldedSetIterable iter X.env x = pure x := by intro _; rfl) (hs1 : ∀ env x, foldedSetIterable iter1 env x = pure x := by intro _ _; rfl) :
    DS X T W (.Assign [.Name y py] (.ListComp elt [⟨tg, iter, ifs, 0⟩, ⟨tg1, iter1, ifs1, 0⟩] scope pos) spos) (setO i (lcM2 (own.map (·.2)) vs1 fi g t fi1 g1 t1 e)) :=
  PS_imp (ps_setLc2 hc hN hy hyl hsw hi ok hv hg ht hi1 hg1 ht1 he hs hs1) fun σ H Dn ⟨G, ρ, F, rp, h⟩ => lc2_read hv ⟨G, ρ, F, rp, (SRs.bind h).imp fun xs ρ1 F1 H1 s1 rp1 h1 p n => h1 _ F1 H1 (.refl _) (rp1.setO i n)⟩
end
end PL
end S_PMF

section S_PMG
namespace PL
open PySem PySem.Spec PyProof.Rows L2
section
variable {X : Cx} {T : Tx} {W : WX} {tg e e1 e2 e3 : Expr} {p p2 pos pos2 : Pos} {f g : Cm D} {fa : Cm (List D)} {x : PySem.Str} {ta : TA} {k : Nat}
/-! ### range, downward -/
def rngDn (a : Int) (n : Nat) : List D := (List.range n).map fun (i : Nat) => PyData.int (a - (i : Int))
def rng3D : List D → Option (List D)
  | [.int i, .int j, .int c] => if okR i && okR j && decide (c = -1) then some (rngDn i (i - j).toNat) else none
  | _ => none
theorem wk_rngC {K : PySem.W.Frag} {F : Hp} (a : Int) (n : Nat) : Wk K (Itc a (-1) n) (rngDn a n) F := by
  have len : (rngDn a n).length = n := by unfold rngDn; rw [List.length_map, List.length_range]
  refine ⟨fun i F1 H1 s s1 hi => by rw [len] at hi; exact hi, fun i F1 H1 x H2 s s1 hi ⟨e, q⟩ => ?_, fun i F1 H1 s s1 hi => by rw [len] at hi; exact Nat.le_of_eq hi.symm⟩
  subst e
  subst q
  rw [len] at hi
  refine ⟨F1, .refl s1, _, ?_, .int _⟩
  unfold rngDn
  rw [List.getElem?_map, List.getElem?_range hi]
  show some (PyData.int (a - (i : Int))) = _
  rw [show a - (i : Int) = a + (i : Nat) * -1 by omega]
theorem di_range3 (hg : Gl X "range") (hm : X.mg "range" = none) (ha : DA X T W [e1, e2, e3] fa) (hs : starEach [e1, e2, e3] X.env = (false, eval e1 X.env) :: starEach [e2, e3] X.env := by rfl) (hpl : (backTo pos (starEach [e2, e3] X.env)).any (·.1) = false := by rfl) :
    DI X T W tg (.Call (.Name "range" p) [e1, e2, e3] [] pos) (itD fa rng3D) :=
  PI_imp (pi_range3 hg hm ha hs hpl) fun σ H R ⟨G, ρ, F, rp, h⟩ => ⟨G, ρ, F, rp, h.bind.imp fun ds ρ1 F1 H1 s1 rp1 h1 vs hv => by
    obtain ⟨xs, e, h2⟩ := h1.lift
    unfold rng3D at e
    split at e
    · split at e
      · rename_i z
        cases e
        simp only [Bool.and_eq_true, decide_eq_true_eq] at z
        obtain ⟨⟨z1, z2⟩, rfl⟩ := z
        cases hv with
        | cons hx ht => cases ht with
          | cons hy ht => cases ht with
            | cons hz ht =>
              cases ht
              cases hx
              cases hy
              cases hz
              have y1 := okR_ok z1
              have y2 := okR_ok z2
              exact ⟨_, _, _, _, rfl, RgC.neg y1.1 y1.2 y2.1 y2.2, h2.ret rp1 (.refl _) _ (wk_rngC _ _)⟩
      · cases e
    · cases e⟩
/-! ### tuple(range(..)) -/
def tTupR (ta : TA) : TE := fun σ H Q => ta σ H fun vs H1 => ∃ lo hi : Int, (vs = [.int hi] ∧ lo = 0 ∨ vs = [.int lo, .int hi]) ∧ -(2 ^ 62) ≤ lo ∧ lo < 2 ^ 62 ∧ -(2 ^ 62) ≤ hi ∧ hi < 2 ^ 62 ∧ hi - lo ≤ 16777216 ∧
  ∀ a, H1 a = none → Q (.ref a) (upd H1 a (.tup ((List.range (hi - lo).toNat).map fun (i : Nat) => V.int (lo + (i : Int)))))
theorem tup_rng {pins : List (Addr × Obj)} {σ : L2.St} {H : Hp} {s : Shared} {lo hi : Int} {t u v : Tok} {tk : Nat} {Q : VK} (hc : X.calm = true) (I : Inv X pins σ H s) (b1 : -(2 ^ 62) ≤ lo) (b2 : lo < 2 ^ 62) (b3 : -(2 ^ 62) ≤ hi) (b4 : hi < 2 ^ 62) (b5 : hi - lo ≤ 16777216)
    (q : ∀ a, H a = none → Q (.ref a) (upd H a (.tup ((List.range (hi - lo).toNat).map fun (i : Nat) => V.int (lo + (i : Int)))))) :
    wpAny (model X.prog X.w) X.A (call (.type "tuple") [.ref s.heap.objs.size]) (EP X pins σ Q) X.xe { s with heap := s.heap.push { cls := .type "range", data := .fields #[.int lo t, .int hi u, .int 1 v] }, toks := tk } := by
  have I1 : Inv X pins σ H { s with heap := s.heap.push { cls := .type "range", data := .fields #[.int lo t, .int hi u, .int 1 v] }, toks := tk } := I.kept fun b o e => Heap.get?_push_of_some _ e
  refine call_tuple_range (n := (hi - lo).toNat) (I.ok.hd hc) (IsRange.new ..) (small_one b1 b2 b3 b4) (rangeSize_nat lo hi) (by omega) fun h' tk' acc hk hi' => ?_
  have hv := vals_rng hi'
  have I2 : Inv X pins σ H { s with heap := h', toks := tk' } := I1.kept (t' := tk') hk
  refine ⟨.ref h'.objs.size, upd H h'.objs.size (.tup ((List.range (hi - lo).toNat).map fun (i : Nat) => V.int (lo + (i : Int)))), I2.laid (t' := tk') (fun c o e => Heap.get?_push_of_some _ e) (Nat.le_refl _) (show ObjOk X.prog X.w _ _ _ (.tup _) from ⟨?_, acc.toList, hv, ?_⟩), rfl, q _ (I2.hok.fresh (Nat.le_refl _))⟩
  · rw [List.length_map, List.length_range, sizeLine_eq]; omega
  · rw [Array.toArray_toList]; exact IsTup.new _ _
theorem pe_tupR1 (hc : X.calm = true) (hg : Gl X "tuple") (hm : X.mg "tuple" = none) (hg2 : Gl X "range") (hm2 : X.mg "range" = none) (ha : PA X [e] ta) (hs : starEach [e] X.env = [(false, eval e X.env)] := by rfl)
    (na : starEach [.Call (.Name "range" p2) [e] [] pos2] X.env = (false, eval (.Call (.Name "range" p2) [e] [] pos2) X.env) :: starEach [] X.env := by rfl) :
    PE X (.Call (.Name "tuple" p) [.Call (.Name "range" p2) [e] [] pos2] [] pos) (tTupR ta) := by
  refine ⟨fun pins s σ H Q I h => ?_⟩
  refine Call_ (ld_blt I hg hm boot_tuple ?_)
  refine PyProof.Rows.callWith_type1 (PyProof.Rows.args_cons ?_ na) na rfl
  refine Call_ (ld_blt I hg2 hm2 boot_range ?_)
  refine PyProof.Rows.callWith_type1 (thn (ha.run pos2 pins s σ H _ I h) fun us s1 ⟨vs, H1, I1, r1, q1⟩ => ?_) hs rfl
  obtain ⟨lo, hi, e, b1, b2, b3, b4, b5, q⟩ := q1
  rcases e with ⟨rfl, rfl⟩ | rfl
  · obtain ⟨u, rfl, t, rfl⟩ := vals1 r1
    exact call_range_1 (PyProof.Rows.args_nil (tup_rng hc I1 b1 b2 b3 b4 b5 q))
  · cases r1 with
    | cons r r1 => cases r1 with
      | cons r' r1 =>
        cases r1
        obtain ⟨t, rfl⟩ := r
        obtain ⟨t', rfl⟩ := r'
        exact call_range_2 (PyProof.Rows.args_nil (tup_rng hc I1 b1 b2 b3 b4 b5 q))
theorem pe_tupR2 (hc : X.calm = true) (hg : Gl X "tuple") (hm : X.mg "tuple" = none) (hg2 : Gl X "range") (hm2 : X.mg "range" = none) (ha : PA X [e1, e2] ta) (hs : starEach [e1, e2] X.env = [(false, eval e1 X.env), (false, eval e2 X.env)] := by rfl) (hs2 : starEach [e2] X.env = [(false, eval e2 X.env)] := by rfl)
    (na : starEach [.Call (.Name "range" p2) [e1, e2] [] pos2] X.env = (false, eval (.Call (.Name "range" p2) [e1, e2] [] pos2) X.env) :: starEach [] X.env := by rfl) :
    PE X (.Call (.Name "tuple" p) [.Call (.Name "range" p2) [e1, e2] [] pos2] [] pos) (tTupR ta) := by
  refine ⟨fun pins s σ H Q I h => ?_⟩
  refine Call_ (ld_blt I hg hm boot_tuple ?_)
  refine PyProof.Rows.callWith_type1 (PyProof.Rows.args_cons ?_ na) na rfl
  refine Call_ (ld_blt I hg2 hm2 boot_range ?_)
  refine PyProof.Rows.callWith_type1 (thn (ha.run pos2 pins s σ H _ I h) fun us s1 ⟨vs, H1, I1, r1, q1⟩ => ?_) (by rw [hs, hs2]) (by rw [hs2]; rfl)
  obtain ⟨lo, hi, e, b1, b2, b3, b4, b5, q⟩ := q1
  rcases e with ⟨rfl, rfl⟩ | rfl
  · obtain ⟨u, rfl, t, rfl⟩ := vals1 r1
    exact call_range_1 (PyProof.Rows.args_nil (tup_rng hc I1 b1 b2 b3 b4 b5 q))
  · cases r1 with
    | cons r r1 => cases r1 with
      | cons r' r1 =>
        cases r1
        obtain ⟨t, rfl⟩ := r
        obtain ⟨t', rfl⟩ := r'
        exact call_range_2 (PyProof.Rows.args_nil (tup_rng hc I1 b1 b2 b3 b4 b5 q))
def tupR : List D → Option D := fun ds => (listR ds).map .tuple
theorem tupR_read {ds : List D} {d : D} (h : tupR ds = some d) {K : PySem.W.Frag} {F : Hp} {vs : List V} (hv : DqAll K F vs ds) : ∃ lo hi : Int, (vs = [.int hi] ∧ lo = 0 ∨ vs = [.int lo, .int hi]) ∧ -(2 ^ 62) ≤ lo ∧ lo < 2 ^ 62 ∧ -(2 ^ 62) ≤ hi ∧ hi < 2 ^ 62 ∧ hi - lo ≤ 16777216 ∧ d = .tuple (rngL lo (hi - lo).toNat) := by
  unfold tupR at h
  cases e : listR ds with
  | none => rw [e] at h; cases h
  | some xs =>
    rw [e] at h
    cases h
    unfold listR at e
    split at e
    · split at e
      · rename_i z
        cases e
        simp only [Bool.and_eq_true, decide_eq_true_eq] at z
        cases hv with
        | cons hx ht =>
          cases ht
          cases hx
          have z1 := okR_ok z.1
          have e0 : ∀ j : Int, j - 0 = j := fun j => by omega
          exact ⟨0, _, .inl ⟨rfl, rfl⟩, by omega, by omega, z1.1, z1.2, by omega, by rw [e0]⟩
      · cases e
    · split at e
      · rename_i z
        cases e
        simp only [Bool.and_eq_true, decide_eq_true_eq] at z
        cases hv with
        | cons hx ht => cases ht with
          | cons hy ht =>
            cases ht
            cases hx
            cases hy
            have z1 := okR_ok z.1.1
            have z2 := okR_ok z.1.2
            exact ⟨_, _, .inr rfl, z1.1, z1.2, z2.1, z2.2, z.2, rfl⟩
      · cases e
    · cases e
theorem de_tupR1 (hm : X.mg "tuple" = none) (hm2 : X.mg "range" = none) (hc : X.calm = true) (ha : DA X T W [e] fa) (hg : Gl X "tuple" := by rfl) (hg2 : Gl X "range" := by rfl) (hs : starEach [e] X.env = [(false, eval e X.env)] := by rfl)
    (na : starEach [.Call (.Name "range" p2) [e] [] pos2] X.env = (false, eval (.Call (.Name "range" p2) [e] [] pos2) X.env) :: starEach [] X.env := by rfl) :
    DE X T W (.Call (.Name "tuple" p) [.Call (.Name "range" p2) [e] [] pos2] [] pos) (caM fa tupR) :=
  PE_imp (pe_tupR1 hc hg hm hg2 hm2 ha hs na) fun σ H Q ⟨G, ρ, F, rp, h⟩ => ⟨G, ρ, F, rp, h.bind.imp fun ds ρ1 F1 H1 s1 rp1 h1 vs hv => by
    obtain ⟨xs, e, h2⟩ := h1.lift
    obtain ⟨lo, hi, ev, b1, b2, b3, b4, b5, rfl⟩ := tupR_read e hv
    exact ⟨lo, hi, ev, b1, b2, b3, b4, b5, fun a hn => by
      have g := gr_laid rp1.same (o := .tup ((List.range (hi - lo).toNat).map fun (i : Nat) => V.int (lo + (i : Int)))) hn
      exact h2.ret (rp1.gr g) g.f _ (.tup (.inl (.of upd_same)) (DqAll_rng lo _))⟩⟩
theorem de_tupR2 (hm : X.mg "tuple" = none) (hm2 : X.mg "range" = none) (hc : X.calm = true) (ha : DA X T W [e1, e2] fa) (hg : Gl X "tuple" := by rfl) (hg2 : Gl X "range" := by rfl) (hs : starEach [e1, e2] X.env = [(false, eval e1 X.env), (false, eval e2 X.env)] := by rfl) (hs2 : starEach [e2] X.env = [(false, eval e2 X.env)] := by rfl)
    (na : starEach [.Call (.Name "range" p2) [e1, e2] [] pos2] X.env = (false, eval (.Call (.Name "range" p2) [e1, e2] [] pos2) X.env) :: starEach [] X.env := by rfl) :
    DE X T W (.Call (.Name "tuple" p) [.Call (.Name "range" p2) [e1, e2] [] pos2] [] pos) (caM fa tupR) :=
  PE_imp (pe_tupR2 hc hg hm hg2 hm2 ha hs hs2 na) fun σ H Q ⟨G, ρ, F, rp, h⟩ => ⟨G, ρ, F, rp, h.bind.imp fun ds ρ1 F1 H1 s1 rp1 h1 vs hv => by
    obtain ⟨xs, e, h2⟩ := h1.lift
    obtain ⟨lo, hi, ev, b1, b2, b3, b4, b5, rfl⟩ := tupR_read e hv
    exact ⟨lo, hi, ev, b1, b2, b3, b4, b5, fun a hn => by
      have g := gr_laid rp1.same (o := .tup ((List.range (hi - lo).toNat).map fun (i : Nat) => V.int (lo + (i : Int)))) hn
      exact h2.ret (rp1.gr g) g.f _ (.tup (.inl (.of upd_same)) (DqAll_rng lo _))⟩⟩
end
end PL
end S_PMG

section S_PMH
namespace PL
open PySem PySem.Spec PyProof.Rows L2
section
variable {X : Cx} {T : Tx} {W : WX} {tg e e1 e2 e3 : Expr} {p p2 pos pos2 : Pos} {f g : Cm D} {fa : Cm (List D)} {x y : PySem.Str} {ta : TA} {k i : Nat} {apos cpos py : Pos}
/-! ### xs.extend(ys) -/
def rExtR : V → List V → Hp → VK → Prop := fun x vs H Q => ∃ l b xs zs, x = .ref l ∧ vs = [.ref b] ∧ H l = some (.lst xs) ∧ Rd H b (.lst zs) ∧ xs.length + zs.length ≤ sizeLine ∧ Q .non (upd H l (.lst (xs ++ zs)))
theorem mt_extR : MtM X "list.extend" rExtR := by
  intro pins s σ H x vs v us Q I rx rv h
  obtain ⟨l, b, xs, zs, rfl, rfl, hH, hB, hz, q⟩ := h
  cases rx
  obtain ⟨u, rfl, ru⟩ := rv.one
  cases ru
  obtain ⟨z, its, n, r, hl, e⟩ := I.lstM hH
  obtain ⟨z2, its2, n2, r2, e2⟩ := hB.ok I.hok
  have hl2 := r2.length
  have hsz : its.toArray.size + its2.toArray.size ≤ sizeLine := by rw [List.size_toArray, List.size_toArray]; omega
  have hlong : ¬ (!its.toArray.isEmpty && Builtin.List.listTooLong (its.toArray.size + its2.toArray.size)) = true := by
    rw [notLongL hsz, Bool.and_false]
    exact Bool.false_ne_true
  refine call_meets F.slot_list_extend ⟨_, e, rfl⟩ F.entry_list_extend (F.args_list_extend_2 _ _)
    (AutoSeq1.list_extend_list_list_0 l its.toArray n b its2.toArray n2 hlong (by rw [List.size_toArray]; omega) (by omega)) ⟨e, e2, ?_⟩
  refine ⟨.non, _, I.lset (its' := its ++ its2) hH e (by simp) (r.append r2) ?_, rfl, q⟩
  rw [List.length_append]
  omega
def extD : List D → List D → Option (D × List D)
  | [.list zs], xs => if sizeOkL (xs.length + zs.length) then some (.none, xs ++ zs) else none
  | _, _ => none
theorem DqAll_app {K : PySem.W.Frag} {F : Hp} : ∀ {vs us : List V} {ds es : List D}, DqAll K F vs ds → DqAll K F us es → DqAll K F (vs ++ us) (ds ++ es)
  | _, _, _, _, .nil, h => h
  | _, _, _, _, .cons a t, h => .cons a (DqAll_app t h)
theorem md_ext {K : PySem.W.Frag} : MtD K rExtR extD := fun F H p vs us ds xs z ys Q s hf hp hx hv e q => by
  unfold extD at e
  split at e
  · split at e
    · rename_i hz
      cases e
      cases hv with
      | cons h t =>
        cases t
        cases h with
        | lst r a =>
          have := sizeOkL_le hz
          exact ⟨p, _, us, _, rfl, rfl, hp, Rd_ext s r, by rw [DqAll_len hx, DqAll_len a]; omega, q _ _ .non (DqAll_app hx a)⟩
    · cases e
  · cases e
theorem de_extend (hN : X.N[i]? = some y) (hv : Vis X.env.scope y) (ha : DE X T W e f) (hdd : (y == ("__debug__" : Str)) = false := by decide) (hcd : (y == ("__classdict__" : Str)) = false := by decide)
    (hbase : attributeBase (.Name y py) "extend" X.env (eval (.Name y py) X.env) = eval (.Name y py) X.env := by rfl)
    (hfew : ((backTo cpos (starEach (e :: []) X.env)).all (fun x => !x.1) && (backToKw cpos (keywordEach [] X.env)).all (fun x => x.1.isSome)
      && decide ((e :: []).length + ([] : List Keyword).length + (if ([] : List Keyword).isEmpty then 0 else 1) < 30)) = true := by rfl)
    (hline : (apos.endLine == cpos.line) = true := by rfl) (hs : starEach (e :: []) X.env = (false, eval e X.env) :: starEach [] X.env := by rfl) (hplain : (backTo cpos (starEach [] X.env)).any (·.1) = false := by rfl) :
    DE X T W (.Call (.Attribute (.Name y py) "extend" apos) [e] [] cpos) (mtM i (argC f argN) extD) :=
  de_mt F.slot_list_extend F.type_list_extend mt_extR md_ext hN hv (da_cons ha da_nil hs) hdd hcd hbase hfew hline hs hplain
/-! ### xs.remove(x) -/
def rRemD (K : PySem.W.Frag) : V → List V → Hp → VK → Prop := fun x vs H Q => ∃ (l : Addr) (us : List V) (y : V) (ds : List D) (d : D) (j : Nat), x = .ref l ∧ vs = [y] ∧ H l = some (.lst us) ∧ DpAll K H us ds ∧ Dp K H y d ∧ PyData.plainAll ds = true ∧ d.plain = true ∧ d.depth ≤ 50 ∧
  SeqAt.dataPlace ds d = some j ∧ Q .non (upd H l (.lst (us.eraseIdx j)))
theorem mt_remD (hr : Room k X.A) : MtM X "list.remove" (rRemD X.K) := by
  intro pins s σ H x vs v us Q I rx rxs h
  obtain ⟨l, ws, y, ds, d, j, rfl, rfl, hH, hD, hd, pl, pd, dp, hj, q⟩ := h
  cases rx
  obtain ⟨u, rfl, ru⟩ := rxs.one
  obtain ⟨z, its, n, r, hl, e⟩ := I.lstM hH
  obtain ⟨bs, r1⟩ := Dp.reads I d y u hd ru
  obtain ⟨as, r2⟩ := Dp.readsAll I ds ws its hD r
  have hu := hr.un
  refine SeqAt.remove_list_data (l := l) (vs := its.toArray) (s := s) ⟨_, e, rfl, n, rfl⟩ r2 r1 pl pd (by
    have : min (PyData.depthAll ds) d.depth ≤ d.depth := Nat.min_le_right ..
    omega) hj (by rw [List.size_toArray]; omega) ?_
  refine ⟨.non, _, I.lset (its' := its.eraseIdx j) (t' := s.toks) hH e ?_ (r.eraseIdx j) ?_, rfl, q⟩
  · show its.toArray.eraseIdxIfInBounds j = (its.eraseIdx j).toArray
    rw [List.eraseIdxIfInBounds_toArray]
  · have := List.length_eraseIdx_le ws j
    omega
def remD : List D → List D → Option (D × List D)
  | [d], xs => if PyData.plainAll xs && d.plain && decide (d.depth ≤ 50) then (SeqAt.dataPlace xs d).map fun j => (.none, xs.eraseIdx j) else none
  | _, _ => none
theorem md_rem {K : PySem.W.Frag} : MtD K (rRemD K) remD := fun F H p vs us ds xs z ys Q s hf hp hx hv e q => by
  unfold remD at e
  split at e
  · split at e
    · rename_i d hz
      simp only [Bool.and_eq_true, decide_eq_true_eq] at hz
      cases ej : SeqAt.dataPlace xs d with
      | none => rw [ej] at e; cases e
      | some j =>
        rw [ej] at e
        cases e
        cases hv with
        | cons h t =>
          cases t
          exact ⟨p, us, _, xs, d, j, rfl, rfl, hp, DqAll_dp (DqAll_ext s hx), Dq_dp (Dq_ext s h), hz.1.1, hz.1.2, hz.2, ej, q _ _ .non (DqAll_erase j hx)⟩
    · cases e
  · cases e
theorem de_remove (hr : Room k X.A) (hN : X.N[i]? = some y) (hv : Vis X.env.scope y) (ha : DE X T W e f) (hdd : (y == ("__debug__" : Str)) = false := by decide) (hcd : (y == ("__classdict__" : Str)) = false := by decide)
    (hbase : attributeBase (.Name y py) "remove" X.env (eval (.Name y py) X.env) = eval (.Name y py) X.env := by rfl)
    (hfew : ((backTo cpos (starEach (e :: []) X.env)).all (fun x => !x.1) && (backToKw cpos (keywordEach [] X.env)).all (fun x => x.1.isSome)
      && decide ((e :: []).length + ([] : List Keyword).length + (if ([] : List Keyword).isEmpty then 0 else 1) < 30)) = true := by rfl)
    (hline : (apos.endLine == cpos.line) = true := by rfl) (hs : starEach (e :: []) X.env = (false, eval e X.env) :: starEach [] X.env := by rfl) (hplain : (backTo cpos (starEach [] X.env)).any (·.1) = false := by rfl) :
    DE X T W (.Call (.Attribute (.Name y py) "remove" apos) [e] [] cpos) (mtM i (argC f argN) remD) :=
  de_mt F.slot_list_remove F.type_list_remove (mt_remD hr) md_rem hN hv (da_cons ha da_nil hs) hdd hcd hbase hfew hline hs hplain
/-! ### a is True -/
def isBD : D → D → Option D
  | .bool a, .bool b => some (.bool (decide (a = b)))
  | _, _ => none
def nisBD : D → D → Option D
  | .bool a, .bool b => some (.bool (!decide (a = b)))
  | _, _ => none
theorem od_isB {K : PySem.W.Frag} : OpD K (fun x y H Q => ∃ a b, x = .bl a ∧ y = .bl b ∧ Q (.bl (decide (a = b))) H) isBD := fun F H x y d e z Q s h1 h2 h3 h4 => by
  unfold isBD at h3
  split at h3
  · cases h3
    have e1 := h1.dq fun _ q => nomatch q
    have e2 := h2.dq fun _ q => nomatch q
    cases e1
    cases e2
    exact ⟨_, _, rfl, rfl, h4 F H _ (.refl s) (.bl _)⟩
  · cases h3
theorem od_nisB {K : PySem.W.Frag} : OpD K (fun x y H Q => ∃ a b, x = .bl a ∧ y = .bl b ∧ Q (.bl (!decide (a = b))) H) nisBD := fun F H x y d e z Q s h1 h2 h3 h4 => by
  unfold nisBD at h3
  split at h3
  · cases h3
    have e1 := h1.dq fun _ q => nomatch q
    have e2 := h2.dq fun _ q => nomatch q
    cases e1
    cases e2
    exact ⟨_, _, rfl, rfl, h4 F H _ (.refl s) (.bl _)⟩
  · cases h3
theorem de_isB (ha : DE X T W e1 f) (hb : DE X T W e2 g) : DE X T W (.Compare e1 [.Is] [e2] pos) (o2 f g isBD) := de_cmp op_is_bl od_isB (nomark _) ha hb
theorem de_nisB (ha : DE X T W e1 f) (hb : DE X T W e2 g) : DE X T W (.Compare e1 [.IsNot] [e2] pos) (o2 f g nisBD) := de_cmp op_isnot_bl od_nisB (nomark _) ha hb
end
end PL
end S_PMH

section S_PMI
namespace SLT
open PySem PySem.Spec PyProof.Rows L2 HT
section
variable {prog : Program} {w : World} {A : Around} {E : Value → Shared → Prop} {s : Shared}
theorem adj_rev (n : Nat) : Builtin.Slice.sliceAdjust none none (-1) (n : Int) = ((n : Int) - 1, -1) := by
  unfold Builtin.Slice.sliceAdjust
  have h1 : (-1 : Int) < 0 := by omega
  simp only [h1, if_true]
theorem places_rev (n : Nat) : Builtin.Slice.slicePlaces ((n : Int) - 1) (-1) (-1) = n := by
  unfold Builtin.Slice.slicePlaces
  have h1 : ¬ (-1 : Int) > 0 := by omega
  simp only [h1, if_false]
  by_cases h : ((n : Int) - 1) > -1
  · rw [if_pos h]
    have : ((n : Int) - 1 - -1 - 1) / (- -1) + 1 = n := by
      rw [show (- -1 : Int) = 1 by decide, Int.ediv_one]
      omega
    rw [this]
    exact Int.toNat_natCast n
  · rw [if_neg h]
    omega
theorem applied_rev {sl : Addr} {vl vu : Value} {t : Tok} {n : Nat} {Q : Int × Int × Nat → Shared → Prop} (hs : s.heap.IsSliceOf sl vl vu (.int (-1) t)) (pl : IsPart vl none) (pu : IsPart vu none)
    (h : Q ((n : Int) - 1, -1, n) s) : wpAny (model prog w) A (Builtin.Slice.sliceApplied (.ref sl) (pure (n : Int))) Q E s := by
  obtain ⟨os, hos, hcs, hds⟩ := id hs
  unfold Builtin.Slice.sliceApplied Builtin.Slice.sliceFields
  refine wpAny_bind (wpAny_bind (wpAny_field hos hds (x := vl) rfl (wpAny_bind (wpAny_field hos hds (x := vu) rfl (wpAny_bind (wpAny_field hos hds (x := .int (-1) t) rfl (wpAny_pure ?_)))))))
  refine wpAny_bind (slicePart_ (.int (-1) t) ?_)
  show wpAny _ _ (if ((-1 : Int) == 0) = true then _ else _) _ _ s
  rw [if_neg (by decide)]
  refine wpAny_bind (slicePart_ pl (wpAny_bind (slicePart_ pu (wpAny_bind (wpAny_pure ?_)))))
  show wpAny _ _ (match Builtin.Slice.sliceAdjust none none (-1) (n : Int) with | (lo, hi) => pure (lo, (-1 : Int), Builtin.Slice.slicePlaces lo hi (-1))) _ _ s
  rw [adj_rev]
  show wpAny _ _ (pure ((n : Int) - 1, (-1 : Int), Builtin.Slice.slicePlaces ((n : Int) - 1) (-1) (-1))) _ _ s
  rw [places_rev]
  exact wpAny_pure h
theorem pick_rev (xs : Array Value) : ((List.range xs.size).filterMap fun (m : Nat) => xs[(((xs.size : Int) - 1) + (m : Int) * -1).toNat]?).toArray = xs.toList.reverse.toArray := by
  have h := PySem.W.krv_pick xs
  unfold slicePick at h
  rw [PySem.W.krv_bounds] at h
  have h : ((sliceRange ((xs.size : Int) - 1) (-1) (-1)).filterMap (xs[·]?)).toArray = xs.toList.reverse.toArray := h
  rw [PySem.W.krv_sliceRange, List.filterMap_map] at h
  rw [← h]
  congr 2
  funext m
  show _ = xs[xs.size - 1 - m]?
  congr 1
  omega
theorem getItem_rev {t sl : Addr} {items : Array Value} {vl vu : Value} {tk : Tok} {Q : Value → Shared → Prop} (ht : IsTup s.heap t items) (hs : s.heap.IsSliceOf sl vl vu (.int (-1) tk)) (pl : IsPart vl none) (pu : IsPart vu none)
    (h : Q (.ref s.heap.objs.size) { s with heap := s.heap.push { cls := .type "tuple", data := .seq items.toList.reverse.toArray } })
    (hsz : items.size ≤ sizeLine) : wpAny (model prog w) A (getItem (.ref t) (.ref sl)) Q E s := by
  have htake : sizeOk (.seq items.toList.reverse.toArray) := by
    show items.toList.reverse.toArray.size ≤ sizeLine
    rw [List.size_toArray, List.length_reverse, Array.length_toList]
    exact hsz
  obtain ⟨os, hos, hcs, hds⟩ := id hs
  have hTs : s.TypeIs (.ref sl) "slice" := ⟨os, hos, hcs⟩
  unfold getItem
  try with_reducible refine wpAny_holding ?_
  first | refine wpAny_bind (wpAny_pure ?_) | skip
  refine wpAny_bind (wpAny_sequenceKey ht.typeIs (by decide) ?_)
  refine wpAny_bind (wpAny_callSpecial?_slot (name := Str.ofString "__getitem__") ht.typeIs PyProof.Rows.slot_tuple_getitem
    (wpAny_call_entry PyProof.Rows.slot_tuple_getitem ht.typeIs entry_tuple_getitem ?_ (args_tuple_getitem _ _)))
  show wpAny _ _ (Builtin.Tuple.tupleItemsOf (.ref t) >>= _) _ _ s
  refine wpAny_bind (tupleItemsOf_ ht ?_)
  refine wpAny_bind (wpAny_typeOf hTs ?_)
  rw [if_pos (by decide)]
  refine wpAny_bind (applied_rev hs pl pu ?_)
  have hno : ¬ ((((items.size : Int) - 1) == 0 && (-1 : Int) == 1 && items.size == items.size) = true) := by
    intro q
    rw [Bool.and_eq_true, Bool.and_eq_true] at q
    exact absurd q.1.2 (by decide)
  show wpAny _ _ (if (((items.size : Int) - 1) == 0 && (-1 : Int) == 1 && items.size == items.size) = true then _ else _) _ _ s
  rw [if_neg hno, pick_rev]
  first
    | exact wpAny_bind (m := Builtin.Tuple.tupleExact _) (wpAny_newObj_type (wpAny_pure ⟨_, rfl, wpAny_pure h⟩) htake)
    | exact wpAny_bind (m := Builtin.Tuple.tupleExact _) (wpAny_newObj_type (wpAny_bind (wpAny_pure (wpAny_pure ⟨_, rfl, wpAny_pure h⟩))) htake)
    | exact wpAny_bind (wpAny_bind (m := Builtin.Tuple.tupleExact _) (wpAny_newObj_type (wpAny_pure (wpAny_pure ⟨_, rfl, wpAny_pure h⟩)) htake))
    | exact wpAny_bind (wpAny_bind (m := Builtin.Tuple.tupleExact _) (wpAny_newObj_type (wpAny_pure ⟨_, rfl, wpAny_pure h⟩) htake))
end
end SLT
namespace PL
open PySem PySem.Spec PyProof.Rows L2
section
variable {X : Cx} {T : Tx} {W : WX} {e : Expr} {te : TE} {p1 p2 p3 pos : Pos} {f : Cm D} {k : Nat}
/-! ### xs[::-1], of a list or of a tuple -/
def tRevA (K : PySem.W.Frag) (te : TE) : TE := fun σ H Q => te σ H fun x H1 => ∃ a xs, x = .ref a ∧ ((SqL K H1 a xs ∧ ∀ p, H1 p = none → Q (.ref p) (upd H1 p (.lst xs.reverse))) ∨ (SqT K H1 a xs ∧ ∀ p, H1 p = none → Q (.ref p) (upd H1 p (.tup xs.reverse))))
theorem pe_revA (he : PE X e te) : PE X (.Subscript e (.Slice none none (some (.UnaryOp .USub (.Constant (.int 1) k p1) p2)) p3) pos) (tRevA X.K te) := by
  refine ⟨fun pins s σ H Q I h => ?_⟩
  refine Subscript_ (thn (he.run pins s σ H _ I h) fun v s1 ⟨x, H1, I1, r1, q1⟩ => ?_)
  obtain ⟨a, xs, ex, hq⟩ := q1
  subst ex
  cases r1
  have hst : PO X (some (.UnaryOp .USub (.Constant (.int 1) k p1) p2)) (tPart (tUn (rU fun i => .int (-i)) (tC (.int 1)))) := po_some (pe_un un_neg pe_int)
  refine wpAny_Slice (thn (po_none.run pins s1 σ H1 (fun o H2 => o = none ∧ H2 = H1) I1 ⟨rfl, rfl⟩) fun vl s2 ⟨l, H2, I2, pl, el, e2⟩ => ?_)
  subst el e2
  refine thn (po_none.run pins s2 σ H2 (fun o H3 => o = none ∧ H3 = H2) I2 ⟨rfl, rfl⟩) fun vu s3 ⟨u, H3, I3, pu, eu, e3⟩ => ?_
  subst eu e3
  refine thn (hst.run pins s3 σ H3 (fun o H4 => o = some (-1) ∧ H4 = H3) I3 ⟨1, rfl, -1, rfl, rfl, rfl⟩) fun vs s4 ⟨o, H4, I4, ps, eo, e4⟩ => ?_
  subst eo e4
  have I5 : Inv X pins σ H4 { s4 with heap := s4.heap.push { cls := .type "slice", data := .fields #[vl, vu, vs] } } := I4.kept (t' := s4.toks) fun b ob q => Heap.get?_push_of_some _ q
  show wpAny (model X.prog X.w) X.A (subscriptTail e (.Slice none none (some (.UnaryOp .USub (.Constant (.int 1) k p1) p2)) p3) (.ref a) (.ref s4.heap.objs.size)) (EP X pins σ Q) X.xe { s4 with heap := s4.heap.push { cls := .type "slice", data := .fields #[vl, vu, vs] } }
  rcases hq with ⟨hx, q⟩ | ⟨hx, q⟩
  · obtain ⟨its, r, ht, hz⟩ := I5.list hx
    have hlen := r.length
    refine tail_any (ops := [.ref a, .ref s4.heap.objs.size]) ht.isList.typeIs (PySem.slot_list_getitem.lookup) ?_ (by with_unfolding_all rfl)
    refine wpAny_getItem_list_slice ht.isList (Heap.IsSliceOf.new _ vl vu vs) pl pu ps (by decide) ?_ (by rw [List.size_toArray]; omega)
    rw [PySem.W.krv_pick]
    refine ⟨.ref _, _, I5.laid (t' := s4.toks) (o := .lst xs.reverse) (fun b ob q => Heap.get?_push_of_some _ q) (Nat.le_refl _) ?_, rfl, q _ (I5.hok.fresh (Nat.le_refl _))⟩
    exact ⟨by rw [List.length_reverse]; exact hz, _, 0, r.reverse, Heap.get?_push_size _ rfl⟩
  · obtain ⟨its, r, ht, hz⟩ := I5.tuple hx
    have hlen := r.length
    cases ps with
    | int _ tk =>
      refine tail_any (ops := [.ref a, .ref s4.heap.objs.size]) ht.typeIs (PyProof.Rows.slot_tuple_getitem.lookup) ?_ (by with_unfolding_all rfl)
      refine SLT.getItem_rev ht (Heap.IsSliceOf.new _ vl vu _) pl pu ?_ (by rw [List.size_toArray]; omega)
      refine ⟨.ref _, _, I5.laid (t' := s4.toks) (o := .tup xs.reverse) (fun b ob q => Heap.get?_push_of_some _ q) (Nat.le_refl _) ?_, rfl, q _ (I5.hok.fresh (Nat.le_refl _))⟩
      exact ⟨by rw [List.length_reverse]; exact hz, _, r.reverse, IsTup.new _ _⟩
def revD : D → Option D
  | .list xs => some (.list xs.reverse)
  | .tuple xs => some (.tuple xs.reverse)
  | _ => none
theorem DqAll_rev {K : PySem.W.Frag} {F : Hp} : ∀ {vs : List V} {ds : List D}, DqAll K F vs ds → DqAll K F vs.reverse ds.reverse
  | _, _, .nil => .nil
  | _, _, .cons h t => by
    rw [List.reverse_cons, List.reverse_cons]
    exact DqAll_append (DqAll_rev t) (.cons h .nil)
theorem de_rev (ha : DE X T W e f) : DE X T W (.Subscript e (.Slice none none (some (.UnaryOp .USub (.Constant (.int 1) k p1) p2)) p3) pos) (o1 f revD) :=
  PE_imp (pe_revA ha) fun σ H Q ⟨G, ρ, F, rp, h⟩ => ⟨G, ρ, F, rp, h.bind.imp fun a ρ1 F1 H1 s1 rp1 h1 x hx => by
    obtain ⟨z, e, h2⟩ := h1.lift
    cases a with
    | list xs =>
      cases e
      cases hx with
      | @lst ad us _ r1 a1 =>
        exact ⟨ad, us, rfl, .inl ⟨.inl (Rd_ext rp1.same r1), fun p hn => by
          have g := gr_laid rp1.same (o := .lst us.reverse) hn
          exact h2.ret (rp1.gr g) g.f _ (.lst (.of upd_same) (DqAll_ext g.f (DqAll_rev a1)))⟩⟩
    | tuple xs =>
      cases e
      cases hx with
      | @tup ad us _ r1 a1 =>
        exact ⟨ad, us, rfl, .inr ⟨SqT_ext rp1.same r1, fun p hn => by
          have g := gr_laid rp1.same (o := .tup us.reverse) hn
          exact h2.ret (rp1.gr g) g.f _ (.tup (.inl (.of upd_same)) (DqAll_ext g.f (DqAll_rev a1)))⟩⟩
    | _ => cases e⟩
variable {e1 e2 : Expr} {g : Cm D}
theorem dt_isB (ha : DE X T W e1 f) (hb : DE X T W e2 g) : DT X T W (.Compare e1 [.Is] [e2] pos) (tru (o2 f g isBD)) := dt_cmp op_is_bl od_isB (nomark _) ha hb
theorem dt_nisB (ha : DE X T W e1 f) (hb : DE X T W e2 g) : DT X T W (.Compare e1 [.IsNot] [e2] pos) (tru (o2 f g nisBD)) := dt_cmp op_isnot_bl od_nisB (nomark _) ha hb
end
end PL
end S_PMI

section S_PMJ
namespace PL
open PySem PySem.Spec PyProof.Rows L2
section
variable {X : Cx} {T : Tx} {W : WX} {tg o e e1 e2 e3 : Expr} {es : List Expr} {p p2 pos pos2 : Pos} {f g : Cm D} {fa : Cm (List D)} {x y name : PySem.Str} {ta : TA} {k i : Nat} {apos cpos py : Pos} {id : String}
/-! ### a method that only reads, of a list that is data -/
def MlD (K : PySem.W.Frag) (r : V → List V → Hp → VK → Prop) (op : List D → List D → Option D) : Prop := ∀ (F H : Hp) (v : V) (vs : List V) (xs ds : List D) (z : D) (Q : VK), Dq K H v (.list xs) → DqAll K H vs ds → op xs ds = some z → (∀ w, Dq K F w z → Q w H) → r v vs H Q
def asL : D → Option (List D)
  | .list xs => some xs
  | _ => none
def mlM (f : Cm D) (fa : Cm (List D)) (op : List D → List D → Option D) : Cm D := bnd f fun d => bnd (lift (asL d)) fun xs => bnd fa fun ds => lift (op xs ds)
theorem de_ml {r : V → List V → Hp → VK → Prop} {op : List D → List D → Option D} (slot : Slot "list" name id) (hty : typeOf (.builtin id) = pure (.type "method_descriptor")) (hm : MtR X id r) (hd : MlD X.K r op) (ho : DE X T W o f) (ha : DA X T W (e :: es) fa)
    (hbase : attributeBase o name X.env (eval o X.env) = eval o X.env := by rfl)
    (hfew : ((backTo cpos (starEach (e :: es) X.env)).all (fun x => !x.1) && (backToKw cpos (keywordEach [] X.env)).all (fun x => x.1.isSome)
      && decide ((e :: es).length + ([] : List Keyword).length + (if ([] : List Keyword).isEmpty then 0 else 1) < 30)) = true := by rfl)
    (hline : (apos.endLine == cpos.line) = true := by rfl) (hs : starEach (e :: es) X.env = (false, eval e X.env) :: starEach es X.env := by rfl) (hplain : (backTo cpos (starEach es X.env)).any (·.1) = false := by rfl) :
    DE X T W (.Call (.Attribute o name apos) (e :: es) [] cpos) (mlM f fa op) :=
  PE_imp (pe_bm F.plainAttrs_list slot hty hm ho ha hbase hfew hline hs hplain) fun σ H Q ⟨G, ρ, F, rp, h⟩ => ⟨G, ρ, F, rp, h.bind.imp fun d ρ1 F1 H1 s1 rp1 h1 v hv => by
    obtain ⟨xs, e, h2⟩ := h1.bind.lift
    cases d with
    | list ys =>
      cases e
      cases hv with
      | lst rd al =>
        exact ⟨.inl ⟨rfl, _, .inl (Rd_ext rp1.same rd)⟩, _, ρ1, F1, rp1, (h2.ret rp1 (.refl _)).bind.imp fun ds ρ2 F2 H2 s2 rp2 h3 vs hvs => by
          obtain ⟨z, ez, h4⟩ := h3.lift
          exact hd F2 H2 _ vs _ ds z Q (Dq_ext rp2.same (Dq_ext s2 (.lst rd al))) (DqAll_ext rp2.same hvs) ez fun w hw => h4.ret rp2 (.refl _) w hw⟩
    | _ => cases e⟩
def idxD : List D → List D → Option D
  | xs, [d] => if SeqAt.shaped (.list xs) && SeqAt.shaped d then (SeqAt.dataPlace xs d).map fun j => .int (j : Nat) else none
  | _, _ => none
theorem ml_index {K : PySem.W.Frag} : MlD K (rIndexD K) idxD := fun F H v vs xs ds z Q hx hv e q => by
  unfold idxD at e
  split at e
  · rename_i d
    split at e
    · rename_i hz
      rw [Bool.and_eq_true] at hz
      cases ej : SeqAt.dataPlace xs d with
      | none => rw [ej] at e; cases e
      | some j =>
        rw [ej] at e
        cases e
        cases hv with
        | cons h t =>
          cases t
          cases hx with
          | lst rd al =>
            obtain ⟨h1, h2, h3⟩ := List.findIdx?_eq_some_iff_getElem.mp ej
            exact ⟨_, _, d, xs, j, xs[j], rfl, rfl, Dq_dp (.lst rd al), Dq_dp h, hz.1, hz.2, List.getElem?_eq_getElem h1, h2, fun m z' hm hz' => by
              obtain ⟨hl, rfl⟩ := List.getElem?_eq_some_iff.mp hz'
              have := h3 m hm
              simpa using this, q _ (.int _)⟩
    · cases e
  · cases e
theorem de_index (hu : Room k X.A) (ho : DE X T W o f) (ha : DE X T W e g)
    (hbase : attributeBase o "index" X.env (eval o X.env) = eval o X.env := by rfl)
    (hfew : ((backTo cpos (starEach (e :: []) X.env)).all (fun x => !x.1) && (backToKw cpos (keywordEach [] X.env)).all (fun x => x.1.isSome)
      && decide ((e :: []).length + ([] : List Keyword).length + (if ([] : List Keyword).isEmpty then 0 else 1) < 30)) = true := by rfl)
    (hline : (apos.endLine == cpos.line) = true := by rfl) (hs : starEach (e :: []) X.env = (false, eval e X.env) :: starEach [] X.env := by rfl) (hplain : (backTo cpos (starEach [] X.env)).any (·.1) = false := by rfl) :
    DE X T W (.Call (.Attribute o "index" apos) [e] [] cpos) (mlM f (argC g argN) idxD) :=
  de_ml F.slot_list_index F.type_list_index (mt_indexD (by have := hu.un; omega)) ml_index ho (da_cons ha da_nil hs) hbase hfew hline hs hplain
def rCntD (K : PySem.W.Frag) : V → List V → Hp → VK → Prop := fun x vs H Q => ∃ (l : Addr) (us : List V) (y : V) (ds : List D) (d : D), x = .ref l ∧ vs = [y] ∧ Rd H l (.lst us) ∧ DpAll K H us ds ∧ Dp K H y d ∧ PyData.plainAll ds = true ∧ d.plain = true ∧ d.depth ≤ 50 ∧
  Q (.int ((ds.countP fun y => PyData.eqv y d : Nat) : Int)) H
theorem mt_cntD (hr : Room k X.A) : MtR X "list.count" (rCntD X.K) := by
  intro pins s σ H x vs v us Q I rx rxs h
  obtain ⟨l, ws, y, ds, d, rfl, rfl, hH, hD, hd, pl, pd, dp, q⟩ := h
  cases rx
  obtain ⟨u, rfl, ru⟩ := rxs.one
  obtain ⟨z, its, n, r, e⟩ := hH.ok I.hok
  obtain ⟨bs, r1⟩ := Dp.reads I d y u hd ru
  obtain ⟨as, r2⟩ := Dp.readsAll I ds ws its hD r
  have hu := hr.un
  exact SeqAt.count_list_data (l := l) (vs := its.toArray) (s := s) ⟨_, e, rfl, n, rfl⟩ r2 r1 pl pd (by
    have : min (PyData.depthAll ds) d.depth ≤ d.depth := Nat.min_le_right ..
    omega) ⟨.int _, _, I.tok _, ⟨_, rfl⟩, q⟩
def cntD : List D → List D → Option D
  | xs, [d] => if PyData.plainAll xs && d.plain && decide (d.depth ≤ 50) then some (.int ((xs.countP fun y => PyData.eqv y d : Nat) : Int)) else none
  | _, _ => none
theorem ml_count {K : PySem.W.Frag} : MlD K (rCntD K) cntD := fun F H v vs xs ds z Q hx hv e q => by
  unfold cntD at e
  split at e
  · rename_i d
    split at e
    · rename_i hz
      simp only [Bool.and_eq_true, decide_eq_true_eq] at hz
      cases e
      cases hv with
      | cons h t =>
        cases t
        cases hx with
        | lst rd al => exact ⟨_, _, _, xs, d, rfl, rfl, rd, DqAll_dp al, Dq_dp h, hz.1.1, hz.1.2, hz.2, q _ (.int _)⟩
    · cases e
  · cases e
theorem de_count (hr : Room k X.A) (ho : DE X T W o f) (ha : DE X T W e g)
    (hbase : attributeBase o "count" X.env (eval o X.env) = eval o X.env := by rfl)
    (hfew : ((backTo cpos (starEach (e :: []) X.env)).all (fun x => !x.1) && (backToKw cpos (keywordEach [] X.env)).all (fun x => x.1.isSome)
      && decide ((e :: []).length + ([] : List Keyword).length + (if ([] : List Keyword).isEmpty then 0 else 1) < 30)) = true := by rfl)
    (hline : (apos.endLine == cpos.line) = true := by rfl) (hs : starEach (e :: []) X.env = (false, eval e X.env) :: starEach [] X.env := by rfl) (hplain : (backTo cpos (starEach [] X.env)).any (·.1) = false := by rfl) :
    DE X T W (.Call (.Attribute o "count" apos) [e] [] cpos) (mlM f (argC g argN) cntD) :=
  de_ml F.slot_list_count F.type_list_count (mt_cntD hr) ml_count ho (da_cons ha da_nil hs) hbase hfew hline hs hplain
/-- a def called on a new list alone -/
theorem vcT {st : Stmt} {ps : List PySem.Str} {fm : Fm} {j : Nat} (D : Df X.prog X.w X.K X.mg X.base T.tabs j x st ps fm) (hr : Room j X.A) (hgd : X.A.guards = some []) (ha : OE X T W e fa) (hn : ps.length = 1 := by rfl) (tk : Takes X W := by first | exact LamX.takes0 | exact takes_of rfl rfl rfl rfl) (hg : Gl X x := by rfl)
    (hdb : (x == ("__debug__" : Str)) = false := by decide)
    (he : starEach (e :: []) X.env = (false, eval e X.env) :: starEach [] X.env := by rfl) (hpl : (backTo pos (starEach [] X.env)).any (·.1) = false := by rfl) : VE X T W (.Call (.Name x p) [e] [] pos) (callT fm fa) := by
  obtain ⟨f, fd, F, G, m, b⟩ := D.ex
  exact ve_callT ⟨G, hr, hgd, tk, m, F.kp⟩ hg hn b ha hdb he hpl
end
end PL
end S_PMJ

section S_PMK
/-! ## sets of tuples of ints -/
namespace L2
open PySem PySem.Spec PyProof.Rows
open PySem.W (EachIs AllAlike alike dataLe dataLt)
section
variable {P : Program} {w : World} {A : Around} {E : Value → Shared → Prop} {s : Shared}
abbrev tupJ (l : List Int) : PyData := .tuple (l.map .int)
theorem toksJ_inj : ∀ a b : List Int, PySem.W.keyToksAll (a.map .int) = PySem.W.keyToksAll (b.map .int) → a = b
  | [], [], _ => rfl
  | [], y :: b, h => by
    rw [List.map_nil, List.map_cons, PySem.W.toks_all_cons, PySem.W.keyToksAll] at h
    injection h with h1 h2
    cases h1
  | x :: a, [], h => by
    rw [List.map_nil, List.map_cons, PySem.W.toks_all_cons, PySem.W.keyToksAll] at h
    injection h with h1 h2
    cases h1
  | x :: a, y :: b, h => by
    rw [List.map_cons, List.map_cons, PySem.W.toks_all_cons, PySem.W.toks_all_cons, PySem.W.keyToks, PySem.W.keyToks] at h
    injection h with h1 h2
    rw [List.cons_append, List.cons_append] at h2
    injection h2 with h3 h4
    injection h3 with h3
    rw [h3, toksJ_inj a b h4]
theorem le_anti {a b : List Int} (h1 : dataLe false (fun d => d) (tupJ a) (tupJ b) = true) (h2 : dataLe false (fun d => d) (tupJ b) (tupJ a) = true) : a = b := by
  have e1 : dataLt (tupJ b) (tupJ a) = false := by
    have : (!dataLt (tupJ b) (tupJ a)) = true := h1
    simpa using this
  have e2 : dataLt (tupJ a) (tupJ b) = false := by
    have : (!dataLt (tupJ a) (tupJ b)) = true := h2
    simpa using this
  unfold dataLt at e1 e2
  have := PyProof.Rows.lex_total _ _ e2 e1
  rw [PySem.W.keyToks, PySem.W.keyToks] at this
  exact toksJ_inj a b this
theorem alikeJ : ∀ a b : List Int, PySem.W.alikeAll (a.map .int) (b.map .int) = true
  | [], _ => by simp [PySem.W.alikeAll]
  | _ :: _, [] => by simp [PySem.W.alikeAll]
  | x :: a, y :: b => by simp [PySem.W.alikeAll, PySem.W.alike, alikeJ a b]
theorem depthJ (l : List Int) : (tupJ l).depth ≤ 1 := by
  have : PyData.depthAll (l.map PyData.int) = 0 := by
    induction l with
    | nil => simp [PyData.depthAll]
    | cons x l ih => simp [PyData.depthAll, PyData.depth, ih]
  show PyData.depth (.tuple _) ≤ 1
  simp [PyData.depth, this]
def backJ : PyData → List Int
  | .tuple xs => xs.map fun d => match d with
    | .int i => i
    | _ => 0
  | _ => []
theorem backJ_J (l : List Int) : backJ (tupJ l) = l := by
  show (l.map PyData.int).map _ = l
  rw [List.map_map]
  exact List.map_id l
theorem each_rel {α β : Type} {R : α → β → Prop} : ∀ {xs : List α} {ys : List β}, EachIs R xs ys → xs.length = ys.length
  | _, _, .nil => rfl
  | _, _, .cons _ t => by simp [each_rel t]
theorem sorted_setG {a : Addr} {L : List (Addr × List Int)} {es : Array (Int × Value)} {ep : Nat} {t : SetTable} {Q : Value → Shared → Prop} (R : SetTR P w s.heap a L es ep t) (hh : A.handled = none) (hu : A.units + 8 < cLine)
    (rd : ∀ q ∈ L, ∃ as, PySem.Reads s.heap (.ref q.1) (tupJ q.2) as)
    (hQ : ∀ s' p (out : Array Value) (c : Nat) (L' : List (Addr × List Int)), (∀ b o, s.heap.get? b = some o → s'.heap.get? b = some o) → s'.gens = s.gens → s'.os = s.os → s.heap.objs.size ≤ p →
      s'.heap.get? p = some (seqObj "list" out c) → out.toList = L'.map (fun q => Value.ref q.1) → L'.Perm L → L'.Pairwise (fun q r => dataLe false (fun d => d) (tupJ q.2) (tupJ r.2) = true) → Q (.ref p) s') :
    wpAny (model P w) A (call (.builtin "sorted") [.ref a]) Q E s := by
  obtain ⟨o, ho, hex, hd⟩ := R.ob
  have hsz := R.size
  have hfew := R.few
  refine Calls.call_function_entry kind_sorted plain_sorted entry_sorted (args_sorted1 _) ?_
  unfold Builtin.«sorted»
  refine wpAny_bind (m := checkCount "sorted" 1 1 _) (wpAny_pure ?_)
  refine wpAny_bind (collect_set (A := A.in1) hh ⟨o, ho, hex.1, hd⟩ R.fits (by unfold scanBound; omega) R.tab.ris R.led fun s1 vs k1 hz g1 o1 pm => ?_)
  have hes : es.toList.map (·.2) = L.map fun q => Value.ref q.1 := by
    rw [R.rows]
    unfold rowsOf
    rw [List.map_map] <;> rfl
  rw [hes] at pm
  have ord : ∀ vs : List Value, (∀ v ∈ vs, ∃ q ∈ L, v = Value.ref q.1) → ∃ L1 : List (Addr × List Int), vs = L1.map (fun q => Value.ref q.1) ∧ ∀ q ∈ L1, q ∈ L := by
    intro vs
    induction vs with
    | nil => intro _; exact ⟨[], rfl, fun q hq => (by cases hq)⟩
    | cons v vs ih =>
      intro hv
      obtain ⟨q, hq, e⟩ := hv v List.mem_cons_self
      obtain ⟨L1, e1, hs⟩ := ih fun u hu => hv u (List.mem_cons_of_mem _ hu)
      refine ⟨q :: L1, by rw [List.map_cons, e, e1], fun r hr => ?_⟩
      rcases List.mem_cons.mp hr with z | z
      · rw [z]; exact hq
      · exact hs r z
  have one : ∀ q ∈ L, ∀ r ∈ L, q.1 = r.1 → q = r := fun q hq r hr e => by
    have a1 := R.tup q hq
    have a2 := R.tup r hr
    rw [e] at a1
    have e2 : q.2 = r.2 := a1.inj a2
    exact Prod.ext e e2
  have perm_of : ∀ L1 : List (Addr × List Int), (∀ q ∈ L1, q ∈ L) → (L1.map (fun q => Value.ref q.1)).Perm (L.map fun q => Value.ref q.1) → L1.Perm L := by
    intro L1 hs pm1
    have nL : L.Nodup := nodup_of_map R.nd
    have nref : (L.map fun q => Value.ref q.1).Nodup := by
      refine List.pairwise_map.mpr (List.Pairwise.imp_of_mem (fun {q r} hq hr hne e => ?_) nL)
      injection e with e
      exact hne (one q hq r hr e)
    have n1 : L1.Nodup := nodup_of_map (pm1.nodup_iff.mpr nref)
    refine (List.perm_ext_iff_of_nodup n1 nL).mpr fun q => ⟨hs q, fun hq => ?_⟩
    have hm : Value.ref q.1 ∈ L1.map (fun q => Value.ref q.1) := pm1.mem_iff.mpr (List.mem_map.mpr ⟨q, hq, rfl⟩)
    obtain ⟨r, hr, e⟩ := List.mem_map.mp hm
    injection e with e
    rw [← one r (hs r hr) q hq e]
    exact hr
  have hvl : vs.length < 64 := by rw [pm.length_eq, List.length_map]; exact hfew
  obtain ⟨L1, e1, hs1⟩ := ord vs fun v hv => by
    obtain ⟨q, hq, e⟩ := List.mem_map.mp (pm.mem_iff.mp hv)
    exact ⟨q, hq, e.symm⟩
  have pL1 : L1.Perm L := perm_of L1 hs1 (by rw [← e1]; exact pm)
  refine wpAny_bind (wpAny_newList ?_ (by rw [sizeLine_eq]; omega))
  have hoL : (s1.heap.push (seqObj "list" vs.toArray 0)).get? s1.heap.objs.size = some (seqObj "list" vs.toArray 0) := Heap.get?_push_size _ rfl
  let ds : List PyData := L1.map fun q => tupJ q.2
  have keep : ∀ b u, s.heap.get? b = some u → (PySem.W.sortingHeap (s1.heap.push (seqObj "list" vs.toArray 0)) s1.heap.objs.size vs).get? b = some u := fun b u e => by
    have q := k1 b u e
    have hlt := Heap.lt_size q
    exact PySem.W.sortingHeap_old (Nat.ne_of_lt hlt) (Heap.get?_push_of_some _ q)
  have er : ∀ L1 : List (Addr × List Int), (∀ q ∈ L1, q ∈ L) → EachIs (fun v d => ∃ as, PySem.Reads (PySem.W.sortingHeap (s1.heap.push (seqObj "list" vs.toArray 0)) s1.heap.objs.size vs) v d as) (L1.map fun q => Value.ref q.1) (L1.map fun q => tupJ q.2) := by
    intro L1
    induction L1 with
    | nil => intro _; exact .nil
    | cons q L1 ih =>
      intro hs
      obtain ⟨as, r⟩ := rd q (hs q List.mem_cons_self)
      exact .cons ⟨as, PyProof.Rows.Reads.keeps keep r⟩ (ih fun x hx => hs x (List.mem_cons_of_mem _ hx))
  have eR : ∀ L1 : List (Addr × List Int), (∀ q ∈ L1, q ∈ L) → EachIs (fun v d => ∃ q ∈ L, v = Value.ref q.1 ∧ d = tupJ q.2) (L1.map fun q => Value.ref q.1) (L1.map fun q => tupJ q.2) := by
    intro L1
    induction L1 with
    | nil => intro _; exact .nil
    | cons q L1 ih =>
      intro hs
      exact .cons ⟨q, hs q List.mem_cons_self, rfl, rfl⟩ (ih fun x hx => hs x (List.mem_cons_of_mem _ hx))
  have er1 := er L1 hs1
  have eR1 := eR L1 hs1
  rw [← e1] at er1 eR1
  have al : AllAlike (L1.map fun q => tupJ q.2) := by
    intro d hd e he
    obtain ⟨q, _, rfl⟩ := List.mem_map.mp hd
    obtain ⟨r, _, rfl⟩ := List.mem_map.mp he
    show alike (.tuple _) (.tuple _) = true
    simp [alike, alikeJ]
  have S := SRT.sorts (prog := P) (w := w) (A := A.in1.in1) (s := { s1 with heap := PySem.W.sortingHeap (s1.heap.push (seqObj "list" vs.toArray 0)) s1.heap.objs.size vs }) er1 al (.inl fun d hd => by
    obtain ⟨q, _, rfl⟩ := List.mem_map.mp hd
    exact ⟨_, rfl⟩) fun d hd => by
    obtain ⟨q, _, rfl⟩ := List.mem_map.mp hd
    have := depthJ q.2
    show A.units + 1 + 1 + (tupJ q.2).depth < cLine
    omega
  have out := PySem.W.sortVals_data (h' := PySem.W.sortingHeap (s1.heap.push (seqObj "list" vs.toArray 0)) s1.heap.objs.size vs) (enc := fun d => d) false eR1 er1 (by rw [show (L1.map fun q => tupJ q.2).map (fun d => d) = L1.map fun q => tupJ q.2 from List.map_id _]; exact al)
  rw [show (L1.map fun q => tupJ q.2).map (fun d => d) = L1.map fun q => tupJ q.2 from List.map_id _] at out
  refine wpAny_bind (wpAny_holding (PyProof.Rows.wpAny_call_entry_kw slot_list_sort ⟨_, hoL, rfl⟩ entry_list_sort ?body (args_list_sort _)))
  case body =>
    show wpAny (model P w) A.in1.in1 (Builtin.«list.sort» ⟨[.ref s1.heap.objs.size], []⟩) _ _ _
    refine wpAny_mono (PySem.W.list_sort_vals (s := { s1 with heap := s1.heap.push (seqObj "list" vs.toArray 0) }) (P := fun f s' => f = .done (.ret .none) ∧ Q (.ref s1.heap.objs.size) s') hoL S (by rw [sizeLine_eq]; omega) ⟨rfl, ?_⟩) (fun f s' hf => ?_) fun _ _ e => e
    · obtain ⟨c, hc⟩ := sortedHeap_at (vs := vs) (out := (PySem.W.sortVals (PySem.W.dataKind (PySem.W.sortingHeap (s1.heap.push (seqObj "list" vs.toArray 0)) s1.heap.objs.size vs) (L1.map fun q => tupJ q.2)) false vs vs).toArray) hoL
      have res : ∀ (us : List Value) (ds : List PyData), EachIs (fun v d => ∃ q ∈ L, v = Value.ref q.1 ∧ d = tupJ q.2) us ds → ∃ L2 : List (Addr × List Int), us = L2.map (fun q => Value.ref q.1) ∧ ds = L2.map (fun q => tupJ q.2) ∧ ∀ q ∈ L2, q ∈ L := by
        intro us ds e
        induction e with
        | nil => exact ⟨[], rfl, rfl, fun q hq => nomatch hq⟩
        | cons h _ ih =>
          obtain ⟨q, hq, rfl, rfl⟩ := h
          obtain ⟨L2, rfl, rfl, h3⟩ := ih
          exact ⟨q :: L2, rfl, rfl, fun r hr => by
            rcases List.mem_cons.mp hr with z | z
            · rw [z]; exact hq
            · exact h3 r z⟩
      obtain ⟨L2, u1, u2, u3⟩ := res _ _ out
      have pd : (L2.map fun q => tupJ q.2).Perm (L1.map fun q => tupJ q.2) := by
        rw [← u2]
        exact List.mergeSort_perm _ _
      have pk : (L2.map (·.2)).Perm (L1.map (·.2)) := by
        have cnt := pd.map backJ
        have un : ∀ l : List (Addr × List Int), (l.map fun q => tupJ q.2).map backJ = l.map (·.2) := fun l => by
          rw [List.map_map]
          exact List.map_congr_left fun q _ => backJ_J q.2
        rwa [un, un] at cnt
      have n2 : (L2.map (·.2)).Nodup := pk.nodup_iff.mpr ((pL1.map (·.2)).nodup_iff.mpr R.nd)
      have keyof : ∀ q ∈ L, ∀ r ∈ L, q.2 = r.2 → q = r := by
        have nd := R.nd
        intro q hq r hr e
        obtain ⟨i, hi, rfl⟩ := List.getElem_of_mem hq
        obtain ⟨j, hj, rfl⟩ := List.getElem_of_mem hr
        have : i = j := by
          have h1 : (L.map (·.2))[i]'(by simpa using hi) = (L.map (·.2))[j]'(by simpa using hj) := by simpa using e
          have pw := List.pairwise_iff_getElem.mp nd
          rcases Nat.lt_trichotomy i j with z | z | z
          · exact absurd h1 (pw i j _ _ z)
          · exact z
          · exact absurd h1.symm (pw j i _ _ z)
        subst this
        rfl
      have pL : L2.Perm L := by
        refine (List.perm_ext_iff_of_nodup (nodup_of_map n2) (nodup_of_map R.nd)).mpr fun q => ⟨u3 q, fun hq => ?_⟩
        have : q.2 ∈ L2.map (·.2) := (pk.trans (pL1.map (·.2))).mem_iff.mpr (List.mem_map.mpr ⟨q, hq, rfl⟩)
        obtain ⟨r, hr, e⟩ := List.mem_map.mp this
        rw [← keyof r (u3 r hr) q hq e]
        exact hr
      have pw : L2.Pairwise (fun q r => dataLe false (fun d => d) (tupJ q.2) (tupJ r.2) = true) := by
        have : (L2.map fun q => tupJ q.2).Pairwise (fun a b => dataLe false (fun d => d) a b = true) := by
          rw [← u2, ← PL.srtL_merge]
          exact PL.srtL_pw _
        exact List.pairwise_map.mp this
      refine hQ _ s1.heap.objs.size _ c L2 (fun b u e => ?_) g1 o1 hz hc (by rw [List.toList_toArray]; exact u1) pL pw
      have q := k1 b u e
      have hlt := Heap.lt_size q
      show (sortedHeap (s1.heap.push (seqObj "list" vs.toArray 0)) s1.heap.objs.size vs _).get? b = some u
      rw [sortedHeap_old (Nat.ne_of_lt hlt) (by rw [size_push']; exact Nat.lt_succ_of_lt hlt)]
      exact Heap.get?_push_of_some _ q
    · obtain ⟨rfl, hq⟩ := hf
      exact ⟨_, rfl, wpAny_pure ⟨_, rfl, hq⟩⟩
end
end L2
namespace PL
open PySem PySem.Spec PyProof.Rows L2
open PySem.W (EachIs AllAlike alike dataLe dataLt)
/-! the tuples once each -/
def ddp (ks : List (List Int)) : List (List Int) := ks.foldr (fun x l => if decide (x ∈ l) then l else x :: l) []
theorem ddp_mem {z : List Int} : ∀ {ks : List (List Int)}, z ∈ ddp ks ↔ z ∈ ks
  | [] => Iff.rfl
  | x :: ks => by
    show z ∈ (if decide (x ∈ ddp ks) then ddp ks else x :: ddp ks) ↔ _
    by_cases h : x ∈ ddp ks
    · rw [if_pos (decide_eq_true h), List.mem_cons, ← ddp_mem (ks := ks)]
      constructor
      · exact .inr
      · rintro (rfl | h')
        · exact h
        · exact h'
    · rw [if_neg (by simpa using h), List.mem_cons, List.mem_cons, ddp_mem (ks := ks)]
theorem ddp_nodup : ∀ {ks : List (List Int)}, (ddp ks).Nodup
  | [] => .nil
  | x :: ks => by
    show (if decide (x ∈ ddp ks) then ddp ks else x :: ddp ks).Nodup
    by_cases h : x ∈ ddp ks
    · rw [if_pos (decide_eq_true h)]
      exact ddp_nodup
    · rw [if_neg (by simpa using h)]
      exact List.nodup_cons.mpr ⟨h, ddp_nodup⟩
theorem ddp_len : ∀ {ks : List (List Int)}, (ddp ks).length ≤ ks.length
  | [] => Nat.le_refl _
  | x :: ks => by
    show (if decide (x ∈ ddp ks) then ddp ks else x :: ddp ks).length ≤ _
    have := ddp_len (ks := ks)
    split
    · simp only [List.length_cons]; omega
    · simp only [List.length_cons]; omega
theorem leJ_tot (a b : D) : dataLe false (fun d => d) a b = true ∨ dataLe false (fun d => d) b a = true := (PySem.W.sortLe_total _ false _).total a b
theorem srtJ_is {us ns : List (List Int)} (hp : us.Perm ns) (hs : us.Pairwise fun a b => dataLe false (fun d => d) (tupJ a) (tupJ b) = true) : srtL (ns.map tupJ) = us.map tupJ := by
  refine List.Perm.eq_of_pairwise (le := fun a b => dataLe false (fun d => d) a b = true) (fun a b ha hb h1 h2 => ?_) (srtL_pw _) (List.pairwise_map.mpr hs) ((srtL_perm _).trans (hp.map tupJ).symm)
  have ha' := ((srtL_perm (ns.map tupJ)).mem_iff).mp ha
  obtain ⟨x, _, rfl⟩ := List.mem_map.mp ha'
  obtain ⟨y, _, rfl⟩ := List.mem_map.mp hb
  rw [le_anti h1 h2]
section
variable {X : Cx}
def rSortedG (K : PySem.W.Frag) (P : Program) (w : World) : List V → Hp → VK → Prop := fun vs H Q => ∃ (a : Addr) (L : List (Addr × List Int)), vs = [V.ref a] ∧ H a = some (SetTO P w a L) ∧ (∀ p ∈ L, SqT K H p.1 (p.2.map V.int)) ∧
  ∀ (L' : List (Addr × List Int)) (p : Addr), L'.Perm L → (L'.map (·.2)).Nodup → L'.Pairwise (fun q r => dataLe false (fun d => d) (tupJ q.2) (tupJ r.2) = true) → H p = none → Q (.ref p) (upd H p (.lst (L'.map fun q => V.ref q.1)))
theorem DqAll_ofI {K : PySem.W.Frag} {F : Hp} : ∀ (ns : List Int), DpAll K F (ns.map V.int) (ns.map .int)
  | [] => .nil
  | n :: ns => .cons (.int _) (DqAll_ofI ns)
theorem cr_sortedG {k : Nat} (hr : Room k X.A) (hc : X.calm = true) : CallR X (.builtin "sorted") (rSortedG X.K X.prog X.w) := by
  intro pins s σ H vs us Q I r h
  obtain ⟨a, L, rfl, ha, hk, q⟩ := h
  have R0 : SetT0 X.prog X.w s.heap a L := (I.hok a _ ha).1
  obtain ⟨es, ep, t, R⟩ := R0.full fun p hp => I.isT (hk p hp)
  rw [Vals.ref1 r]
  have hu := hr.un
  refine sorted_setG R (I.ok.hd hc) (by omega) (fun p hp => ?_) fun s' p out c L' k g o hp hg hout pm pw => ?_
  · exact Dp.reads I (tupJ p.2) (.ref p.1) _ (.tup (hk p hp) (DqAll_ofI _)) rfl
  · have hfew : L'.length < 64 := by rw [pm.length_eq]; exact R.few
    have hlen : (L'.map fun q => V.ref q.1).length ≤ sizeLine := by rw [List.length_map, sizeLine_eq]; omega
    have hn : H p = none := I.hok.fresh hp
    have hv : Vals (L'.map fun q => V.ref q.1) out.toList := by rw [hout]; exact vals_of_refs L'
    have J : Inv X pins σ (upd H p (.lst (L'.map fun q => V.ref q.1))) { s with heap := s'.heap, gens := s'.gens, drawn := s'.drawn, toks := s'.toks } :=
      I.call (ch := []) (Un.laid k hp hn) (I.hok.laid k hp ⟨hlen, out.toList, c, hv, hg⟩) (by rw [g]; exact I.bare) (fun _ z => nomatch z)
    have e : s' = { s with heap := s'.heap, gens := s'.gens, drawn := s'.drawn, toks := s'.toks } := by
      cases s'
      cases s
      cases o
      rfl
    rw [e]
    exact ⟨.ref p, _, J, rfl, q L' p pm ((pm.map (·.2)).nodup_iff.mpr R.nd) pw hn⟩
def rLenT (K : PySem.W.Frag) (P : Program) (w : World) : List V → Hp → VK → Prop := fun vs H Q => ∃ (a : Addr) (L : List (Addr × List Int)), vs = [V.ref a] ∧ H a = some (SetTO P w a L) ∧ (∀ p ∈ L, SqT K H p.1 (p.2.map V.int)) ∧ ((L.map (·.2)).Nodup → Q (.int (L.length : Nat)) H)
theorem cr_lenT : CallR X (.builtin "len") (rLenT X.K X.prog X.w) := by
  intro pins s σ H vs us Q I r h
  obtain ⟨a, L, rfl, ha, hk, q⟩ := h
  have R0 : SetT0 X.prog X.w s.heap a L := (I.hok a _ ha).1
  obtain ⟨es, ep, t, R⟩ := R0.full fun p hp => I.isT (hk p hp)
  obtain ⟨o, ho, hex, hd⟩ := R.ob
  have hsz := R.size
  have hfew := R.few
  rw [Vals.ref1 r]
  exact call_len_set ho hex hd R.fits (by omega) ⟨.int (L.length : Nat), H, I.tok _, ⟨_, by rw [hsz]⟩, q R.nd⟩
end
/-! as data -/
def toTups : List D → Option (List (List Int))
  | [] => some []
  | .tuple xs :: r => match toInts xs, toTups r with
    | some k, some ks => some (k :: ks)
    | _, _ => none
  | _ => none
def setT : List D → Option (List (List Int))
  | [.list ds] => toTups ds
  | _ => none
theorem toTups_map : ∀ ks : List (List Int), toTups (ks.map tupJ) = some ks
  | [] => rfl
  | k :: ks => by
    show (match toInts (k.map .int), toTups (ks.map tupJ) with
      | some k, some ks => some (k :: ks)
      | _, _ => none) = _
    rw [toInts_map, toTups_map ks]
theorem setT_L (ks : List (List Int)) : setT [.list (ks.map tupJ)] = some ks := toTups_map ks
/-- sorted(set(xs)), xs tuples of ints -/
def srtSTD (ds : List D) : Option (List D) := (setT ds).bind fun ks => if decide (ks.length < 64) then some (srtL ((ddp ks).map tupJ)) else none
def lenSTD (ds : List D) : Option D := (setT ds).bind fun ks => if decide (ks.length < 64) then some (.int ((ddp ks).length : Nat)) else none
theorem toTups_at {K : PySem.W.Frag} {F : Hp} : ∀ {us : List V} {ds : List D} {ks : List (List Int)}, DqAll K F us ds → toTups ds = some ks →
    ∃ L : List (Addr × List Int), us = L.map (fun p => V.ref p.1) ∧ L.map (·.2) = ks ∧ ∀ p ∈ L, SqT K F p.1 (p.2.map V.int)
  | _, [], ks, .nil, e => by cases e; exact ⟨[], rfl, rfl, fun p h => nomatch h⟩
  | _, d :: ds, ks, .cons h t, e => by
    unfold toTups at e
    split at e
    · rename_i eq
      cases eq
    · rename_i xs r eq
      injection eq with e1 e2
      subst e1 e2
      split at e
      · rename_i k ks' e3 e4
        cases e
        obtain ⟨L, rfl, rfl, hL⟩ := toTups_at t e4
        cases h with
        | @tup a vs _ st al =>
          rw [toInts_eq e3 al] at st
          exact ⟨(a, k) :: L, rfl, rfl, fun p hp => by
            rcases List.mem_cons.mp hp with rfl | z
            · exact st
            · exact hL p z⟩
      · cases e
    · cases e
theorem permT {L : List (Addr × List Int)} {ks : List (Addr × List Int)} (nd : (L.map (·.2)).Nodup) (h1 : ∀ p ∈ L, p ∈ ks) (h2 : ∀ p ∈ ks, p.2 ∈ L.map (·.2)) : (L.map (·.2)).Perm (ddp (ks.map (·.2))) := by
  refine (List.perm_ext_iff_of_nodup nd ddp_nodup).mpr fun z => ?_
  rw [ddp_mem]
  constructor
  · intro h
    obtain ⟨p, hp, rfl⟩ := List.mem_map.mp h
    exact List.mem_map.mpr ⟨p, h1 p hp, rfl⟩
  · intro h
    obtain ⟨p, hp, rfl⟩ := List.mem_map.mp h
    exact h2 p hp
section
variable {X : Cx} {T : Tx} {W : WX} {e : Expr} {p p2 pos pos2 : Pos} {f : Cm D} {k : Nat}
theorem dqTs {K : PySem.W.Frag} {F : Hp} : ∀ {L : List (Addr × List Int)}, (∀ p ∈ L, SqT K F p.1 (p.2.map V.int)) → DqAll K F (L.map fun p => V.ref p.1) ((L.map (·.2)).map tupJ)
  | [], _ => .nil
  | q :: L, h => .cons (.tup (h q List.mem_cons_self) (DqAll_of_ints _)) (dqTs fun p hp => h p (List.mem_cons_of_mem _ hp))
theorem de_lenSetT (hm : X.mg "len" = none) (hm2 : X.mg "set" = none) (hc : X.calm = true) (hr : Room k X.A) (ha : DE X T W e f) (hg : Gl X "len" := by rfl) (hg2 : Gl X "set" := by rfl)
    (he : starEach (e :: []) X.env = (false, eval e X.env) :: starEach [] X.env := by rfl) (hpl : (backTo pos2 (starEach [] X.env)).any (·.1) = false := by rfl)
    (he2 : starEach (.Call (.Name "set" p2) [e] [] pos2 :: []) X.env = (false, eval (.Call (.Name "set" p2) [e] [] pos2) X.env) :: starEach [] X.env := by rfl) (hpl2 : (backTo pos (starEach [] X.env)).any (·.1) = false := by rfl) :
    DE X T W (.Call (.Name "len" p) [.Call (.Name "set" p2) [e] [] pos2] [] pos) (caM (argC f argN) lenSTD) :=
  PE_imp (pe_callB cr_lenT hg hm (by rfl) (pa_cons (pe_callTy (cr_setOfT hc (by have := hr.un; omega)) hg2 hm2 (by rfl) (da_cons ha da_nil he) (he := he) (hpl := hpl)) pa_nil he2) (he := he2) (hpl := hpl2)) fun σ H Q ⟨G, ρ, F, rp, h⟩ => ⟨G, ρ, F, rp, h.bind.imp fun ds ρ1 F1 H1 s1 rp1 h1 vs hv => by
    obtain ⟨d, e, h2⟩ := h1.lift
    unfold lenSTD at e
    cases q : setT ds with
    | none => rw [q] at e; cases e
    | some ks =>
      rw [q] at e
      change (if decide (ks.length < 64) then some (PyData.int ((ddp ks).length : Nat)) else none) = some d at e
      split at e
      · rename_i z
        cases e
        have z' : ks.length < 64 := of_decide_eq_true z
        unfold setT at q
        split at q
        · cases hv with
          | cons hx ht =>
            cases ht
            cases hx with
            | @lst a us _ r1 a1 =>
              obtain ⟨L, rfl, rfl, hL⟩ := toTups_at a1 q
              have st : ∀ p ∈ L, SqT X.K H1 p.1 (p.2.map V.int) := fun p hp => SqT_ext rp1.same (hL p hp)
              rw [List.length_map] at z'
              refine ⟨a, L, rfl, .inl (Rd_ext rp1.same r1), st, z', fun p L' hn m1 m2 => ⟨p, L', rfl, upd_same, fun r hr => SqT_ext (rp1.grown hn).h (st r (m1 r hr)), fun nd => ?_⟩⟩
              have := (permT nd m1 m2).length_eq
              rw [List.length_map] at this
              rw [this]
              exact h2.ret (rp1.gr (rp1.grown hn)) (.refl _) _ (.int _)
        · cases q
      · cases e⟩
theorem oe_srtSetT (hm : X.mg "sorted" = none) (hm2 : X.mg "set" = none) (hc : X.calm = true) (hr : Room k X.A) (ha : DE X T W e f) (hg : Gl X "sorted" := by rfl) (hg2 : Gl X "set" := by rfl)
    (he : starEach (e :: []) X.env = (false, eval e X.env) :: starEach [] X.env := by rfl) (hpl : (backTo pos2 (starEach [] X.env)).any (·.1) = false := by rfl)
    (he2 : starEach (.Call (.Name "set" p2) [e] [] pos2 :: []) X.env = (false, eval (.Call (.Name "set" p2) [e] [] pos2) X.env) :: starEach [] X.env := by rfl) (hpl2 : (backTo pos (starEach [] X.env)).any (·.1) = false := by rfl) :
    OE X T W (.Call (.Name "sorted" p) [.Call (.Name "set" p2) [e] [] pos2] [] pos) (caL (argC f argN) srtSTD) :=
  PE_imp (pe_callB (cr_sortedG hr hc) hg hm (by rfl) (pa_cons (pe_callTy (cr_setOfT hc (by have := hr.un; omega)) hg2 hm2 (by rfl) (da_cons ha da_nil he) (he := he) (hpl := hpl)) pa_nil he2) (he := he2) (hpl := hpl2)) fun σ H Q ⟨G, ρ, F, rp, h⟩ => ⟨G, ρ, F, rp, h.bind.imp fun ds ρ1 F1 H1 s1 rp1 h1 vs hv => by
    obtain ⟨d, e, h2⟩ := h1.lift
    unfold srtSTD at e
    cases q : setT ds with
    | none => rw [q] at e; cases e
    | some ks =>
      rw [q] at e
      change (if decide (ks.length < 64) then some (srtL ((ddp ks).map tupJ)) else none) = some d at e
      split at e
      · rename_i z
        cases e
        have z' : ks.length < 64 := of_decide_eq_true z
        unfold setT at q
        split at q
        · cases hv with
          | cons hx ht =>
            cases ht
            cases hx with
            | @lst a us _ r1 a1 =>
              obtain ⟨L, rfl, rfl, hL⟩ := toTups_at a1 q
              have st : ∀ p ∈ L, SqT X.K H1 p.1 (p.2.map V.int) := fun p hp => SqT_ext rp1.same (hL p hp)
              rw [List.length_map] at z'
              refine ⟨a, L, rfl, .inl (Rd_ext rp1.same r1), st, z', fun p L' hn m1 m2 => ⟨p, L', rfl, upd_same, fun r hr => SqT_ext (rp1.grown hn).h (st r (m1 r hr)), fun L2 p2 pm nd pw hn2 => ?_⟩⟩
              have m1' : ∀ q ∈ L2, q ∈ L := fun q hq => m1 q (pm.mem_iff.mp hq)
              have m2' : ∀ q ∈ L, q.2 ∈ L2.map (·.2) := fun q hq => (pm.map (·.2)).mem_iff.mpr (m2 q hq)
              have pp := permT nd m1' m2'
              have es : srtL ((ddp (L.map (·.2))).map tupJ) = (L2.map (·.2)).map tupJ := srtJ_is pp (List.pairwise_map.mpr pw)
              rw [es] at h2
              have rp2 := rp1.gr (rp1.grown (o := SetTO X.prog X.w p L') hn)
              exact h2.ret (rp2.gr (rp2.grown hn2)) (.refl _) _ (rp2.new hn2 (dqTs fun q hq => hL q (m1' q hq)))
        · cases q
      · cases e⟩
end
end PL
end S_PMK

section S_CRW
namespace PL
open PySem PySem.Spec PyProof.Rows L2
/-! ### crowds: lots of people each two of whom are a pair of a list -/
def pairsOf : List Int → List Pr
  | [] => []
  | x :: xs => xs.map (fun y => (x, y)) ++ pairsOf xs
theorem lots_one {α : Type} : ∀ xs : List α, lots 1 xs = xs.map fun x => [x]
  | [] => rfl
  | x :: xs => by
    show (lots 0 xs).map (x :: ·) ++ lots 1 xs = _
    have e : lots 0 xs = [[]] := by cases xs <;> rfl
    rw [e, lots_one xs]
    rfl
theorem lots_two : ∀ xs : List Int, lots 2 xs = (pairsOf xs).map fun t => [t.1, t.2]
  | [] => rfl
  | x :: xs => by
    show (lots 1 xs).map (x :: ·) ++ lots 2 xs = ((xs.map fun y => (x, y)) ++ pairsOf xs).map fun t => [t.1, t.2]
    rw [lots_one, lots_two xs, List.map_append, List.map_map, List.map_map]
    rfl
def crowdB (ts : List Pr) (l : List Int) : Bool := (pairsOf l).all fun t => decide (t ∈ ts)
theorem crowd_iff {ts : List Pr} {l : List Int} : crowdB ts l = true ↔ ∀ t ∈ pairsOf l, t ∈ ts := by
  unfold crowdB
  simp only [List.all_eq_true, decide_eq_true_eq]
theorem pairsOf_sub {l m : List Int} (h : l.Sublist m) : ∀ t ∈ pairsOf l, t ∈ pairsOf m := by
  induction h with
  | slnil => exact fun t ht => ht
  | cons x h ih => exact fun t ht => List.mem_append_right _ (ih t ht)
  | cons_cons x h ih =>
    intro t ht
    rcases List.mem_append.mp ht with q | q
    · obtain ⟨y, hy, rfl⟩ := List.mem_map.mp q
      exact List.mem_append_left _ (List.mem_map.mpr ⟨y, h.subset hy, rfl⟩)
    · exact List.mem_append_right _ (ih t q)
theorem crowd_sub {ts : List Pr} {l m : List Int} (h : l.Sublist m) (hm : crowdB ts m = true) : crowdB ts l = true :=
  crowd_iff.mpr fun t ht => crowd_iff.mp hm t (pairsOf_sub h t ht)
theorem pairsOf_snoc {l : List Int} {p : Int} {t : Pr} : t ∈ pairsOf (l ++ [p]) ↔ t ∈ pairsOf l ∨ ∃ x ∈ l, t = (x, p) := by
  induction l with
  | nil => simp [pairsOf]
  | cons x l ih =>
    show t ∈ (l ++ [p]).map (fun y => (x, y)) ++ pairsOf (l ++ [p]) ↔ t ∈ l.map (fun y => (x, y)) ++ pairsOf l ∨ _
    simp only [List.mem_append, List.map_append, List.mem_map, List.mem_cons, List.not_mem_nil, or_false, ih]
    constructor
    · rintro ((⟨y, hy, rfl⟩ | ⟨y, rfl, rfl⟩) | h | ⟨y, hy, rfl⟩)
      · exact .inl (.inl ⟨y, hy, rfl⟩)
      · exact .inr ⟨x, .inl rfl, rfl⟩
      · exact .inl (.inr h)
      · exact .inr ⟨y, .inr hy, rfl⟩
    · rintro ((⟨y, hy, rfl⟩ | h) | ⟨y, rfl | hy, rfl⟩)
      · exact .inl (.inl ⟨y, hy, rfl⟩)
      · exact .inr (.inl h)
      · exact .inl (.inr ⟨p, rfl, rfl⟩)
      · exact .inr (.inr ⟨y, hy, rfl⟩)
/-- whether there is a crowd of k among n -/
def hasC (n : Int) (ts : List Pr) (k : Nat) : Bool := (lots k (zTo n)).any (crowdB ts)
theorem hasC_iff {n : Int} {ts : List Pr} {k : Nat} : hasC n ts k = true ↔ ∃ l : List Int, l.Sublist (zTo n) ∧ l.length = k ∧ crowdB ts l = true := by
  unfold hasC
  simp only [List.any_eq_true]
  constructor
  · rintro ⟨l, h1, h2⟩
    obtain ⟨a, b⟩ := (lots_mem k _ l).mp h1
    exact ⟨l, a, b, h2⟩
  · rintro ⟨l, a, b, h⟩
    exact ⟨l, (lots_mem k _ l).mpr ⟨a, b⟩, h⟩
theorem hasC_less {n : Int} {ts : List Pr} {k m : Nat} (h : k ≤ m) (hm : hasC n ts m = true) : hasC n ts k = true := by
  obtain ⟨l, a, b, c⟩ := hasC_iff.mp hm
  exact hasC_iff.mpr ⟨l.take k, (List.take_sublist k l).trans a, by rw [List.length_take]; omega, crowd_sub (List.take_sublist k l) c⟩
theorem crowd_congr {ts us : List Pr} (h : ∀ t, t ∈ ts ↔ t ∈ us) (l : List Int) : crowdB ts l = crowdB us l := by
  rw [Bool.eq_iff_iff, crowd_iff, crowd_iff]
  exact ⟨fun q t ht => (h t).mp (q t ht), fun q t ht => (h t).mpr (q t ht)⟩
theorem hasC_congr {n : Int} {ts us : List Pr} (h : ∀ t, t ∈ ts ↔ t ∈ us) (k : Nat) : hasC n ts k = hasC n us k := by
  unfold hasC
  rw [show crowdB ts = crowdB us from funext fun l => crowd_congr h l]
theorem hasC_big {n : Int} {ts : List Pr} {k : Nat} (h0 : 0 ≤ n) (h : n < k) : hasC n ts k = false := by
  unfold hasC
  rw [lots_short k _ (by rw [zTo_len]; omega)]
  rfl
/-! ### the law's way: lots made longer at their end -/
def startOf (l : List Int) : Int := match l.getLast? with
  | some x => x + 1
  | none => 0
def rngZ (a b : Int) : List Int := (List.range (b - a).toNat).map fun (i : Nat) => a + (i : Int)
theorem mem_rngZ {a b x : Int} : x ∈ rngZ a b ↔ a ≤ x ∧ x < b := by
  unfold rngZ
  simp only [List.mem_map, List.mem_range]
  constructor
  · rintro ⟨i, h, rfl⟩
    omega
  · rintro ⟨h1, h2⟩
    exact ⟨(x - a).toNat, by omega, by omega⟩
def canEnd (ts : List Pr) (l : List Int) (p : Int) : Bool := (l.map fun x => decide ((x, p) ∈ ts)).all id
def extL (n : Int) (ts : List Pr) (l : List Int) : List (List Int) := ((rngZ (startOf l) n).filter (canEnd ts l)).map fun p => l ++ [p]
def edgeL (n : Int) (ts : List Pr) : Nat → List (List Int)
  | 0 => [[]]
  | k + 1 => (edgeL n ts k).flatMap (extL n ts)
theorem pw_sub {n : Int} (h0 : 0 ≤ n) {l : List Int} (h : l.Pairwise (· < ·)) (hm : ∀ x ∈ l, 0 ≤ x ∧ x < n) : l.Sublist (zTo n) := by
  have e : (zTo n).filter (fun x => decide (x ∈ l)) = l := by
    refine sorted_ext _ _ ((zTo_pw n).filter _) h fun x => ?_
    rw [List.mem_filter, decide_eq_true_eq, mem_zTo h0]
    exact ⟨fun q => q.2, fun q => ⟨hm x q, q⟩⟩
  rw [← e]
  exact List.filter_sublist
theorem sub_pw {n : Int} (h0 : 0 ≤ n) {l : List Int} (h : l.Sublist (zTo n)) : l.Pairwise (· < ·) ∧ ∀ x ∈ l, 0 ≤ x ∧ x < n :=
  ⟨(zTo_pw n).sublist h, fun x hx => (mem_zTo h0).mp (h.subset hx)⟩
theorem edge_mem {n : Int} (h0 : 0 ≤ n) {ts : List Pr} : ∀ {k : Nat} {l : List Int}, l ∈ edgeL n ts k ↔ l.length = k ∧ (l.Pairwise (· < ·) ∧ ∀ x ∈ l, 0 ≤ x ∧ x < n) ∧ crowdB ts l = true
  | 0, l => by
    show l ∈ [[]] ↔ _
    rw [List.mem_singleton]
    constructor
    · rintro rfl
      exact ⟨rfl, ⟨List.Pairwise.nil, fun x hx => absurd hx (by simp)⟩, rfl⟩
    · intro h
      exact List.length_eq_zero_iff.mp h.1
  | k + 1, l => by
    show l ∈ (edgeL n ts k).flatMap (extL n ts) ↔ _
    rw [List.mem_flatMap]
    constructor
    · rintro ⟨m, hm, hl⟩
      obtain ⟨p, hp, rfl⟩ := List.mem_map.mp hl
      obtain ⟨p1, p2⟩ := List.mem_filter.mp hp
      obtain ⟨a, ⟨b1, b2⟩, c⟩ := (edge_mem h0).mp hm
      obtain ⟨q1, q2⟩ := mem_rngZ.mp p1
      have hs : 0 ≤ startOf m ∧ ∀ x ∈ m, x < startOf m := by
        unfold startOf
        cases hg : m.getLast? with
        | none =>
          rw [List.getLast?_eq_none_iff] at hg
          subst hg
          exact ⟨by decide, fun x hx => absurd hx (by simp)⟩
        | some y =>
          obtain ⟨m', rfl⟩ := List.getLast?_eq_some_iff.mp hg
          have hy := b2 y (by simp)
          refine ⟨by show 0 ≤ y + 1; omega, fun x hx => ?_⟩
          show x < y + 1
          rcases List.mem_append.mp hx with z | z
          · have := (List.pairwise_append.mp b1).2.2 x z y (by simp)
            omega
          · rw [List.mem_singleton.mp z]
            omega
      refine ⟨by rw [List.length_append, a]; rfl, ⟨?_, fun x hx => ?_⟩, crowd_iff.mpr fun t ht => ?_⟩
      · refine List.pairwise_append.mpr ⟨b1, List.pairwise_singleton _ _, fun x hx y hy => ?_⟩
        rw [List.mem_singleton.mp hy]
        have := hs.2 x hx
        omega
      · rcases List.mem_append.mp hx with z | z
        · exact b2 x z
        · rw [List.mem_singleton.mp z]
          omega
      · rcases pairsOf_snoc.mp ht with z | ⟨x, hx, rfl⟩
        · exact crowd_iff.mp c t z
        · unfold canEnd at p2
          simp only [List.all_map, List.all_eq_true] at p2
          simpa using p2 x hx
    · rintro ⟨a, ⟨b1, b2⟩, c⟩
      have hne : l ≠ [] := fun z => by rw [z] at a; cases a
      obtain ⟨m, p, rfl⟩ : ∃ m p, l = m ++ [p] := ⟨l.dropLast, l.getLast hne, (List.dropLast_concat_getLast hne).symm⟩
      rw [List.length_append] at a
      obtain ⟨d1, _, d3⟩ := List.pairwise_append.mp b1
      refine ⟨m, (edge_mem h0).mpr ⟨by simpa using a, ⟨d1, fun x hx => b2 x (List.mem_append_left _ hx)⟩, crowd_sub (List.sublist_append_left m [p]) c⟩, List.mem_map.mpr ⟨p, List.mem_filter.mpr ⟨mem_rngZ.mpr ⟨?_, (b2 p (by simp)).2⟩, ?_⟩, rfl⟩⟩
      · unfold startOf
        cases hg : m.getLast? with
        | none => exact (b2 p (by simp)).1
        | some y =>
          have hy : y ∈ m := List.mem_of_getLast? hg
          have := d3 y hy p (by simp)
          show y + 1 ≤ p
          omega
      · unfold canEnd
        simp only [List.all_map, List.all_eq_true]
        intro x hx
        have := crowd_iff.mp c (x, p) (pairsOf_snoc.mpr (.inr ⟨x, hx, rfl⟩))
        simpa using this
theorem edge_has {n : Int} (h0 : 0 ≤ n) {ts : List Pr} (k : Nat) : decide (edgeL n ts k ≠ []) = hasC n ts k := by
  rw [Bool.eq_iff_iff, decide_eq_true_eq, hasC_iff]
  constructor
  · intro h
    obtain ⟨l, r, e⟩ := List.exists_cons_of_ne_nil h
    have hl : l ∈ edgeL n ts k := by rw [e]; simp
    obtain ⟨a, b, c⟩ := (edge_mem h0).mp hl
    exact ⟨l, pw_sub h0 b.1 b.2, a, c⟩
  · rintro ⟨l, a, b, c⟩ z
    have : l ∈ edgeL n ts k := (edge_mem h0).mpr ⟨b, sub_pw h0 a, c⟩
    rw [z] at this
    cases this
theorem rngZ_len {a b : Int} : (rngZ a b).length = (b - a).toNat := by
  unfold rngZ
  rw [List.length_map, List.length_range]
theorem start_nn {l : List Int} (h : ∀ x ∈ l, 0 ≤ x) : 0 ≤ startOf l := by
  unfold startOf
  cases hg : l.getLast? with
  | none => exact Int.le_refl 0
  | some y =>
    have := h y (List.mem_of_getLast? hg)
    show 0 ≤ y + 1
    omega
theorem ext_len {n : Int} (h6 : n ≤ 6) {ts : List Pr} {l : List Int} (h : ∀ x ∈ l, 0 ≤ x) : (extL n ts l).length ≤ 6 := by
  unfold extL
  rw [List.length_map]
  refine Nat.le_trans (List.length_filter_le _ _) ?_
  rw [rngZ_len]
  have := start_nn h
  omega
theorem flat_len {γ δ : Type} {f : γ → List δ} {c : Nat} : ∀ {l : List γ}, (∀ x ∈ l, (f x).length ≤ c) → (l.flatMap f).length ≤ l.length * c
  | [], _ => by simp
  | x :: l, h => by
    have h1 := flat_len fun y hy => h y (List.mem_cons_of_mem _ hy)
    have h2 := h x (List.mem_cons_self ..)
    rw [List.flatMap_cons, List.length_append, List.length_cons, Nat.succ_mul]
    omega
theorem edge_len {n : Int} (h0 : 0 ≤ n) (h6 : n ≤ 6) {ts : List Pr} : ∀ k : Nat, (edgeL n ts k).length ≤ 6 ^ k
  | 0 => by simp [edgeL]
  | k + 1 => by
    have ih := edge_len h0 h6 (ts := ts) k
    have := flat_len (f := extL n ts) (c := 6) (l := edgeL n ts k) fun l hl => ext_len h6 fun x hx => (((edge_mem h0).mp hl).2.1.2 x hx).1
    show ((edgeL n ts k).flatMap (extL n ts)).length ≤ 6 ^ (k + 1)
    rw [Nat.pow_succ]
    exact Nat.le_trans this (Nat.mul_le_mul_right _ ih)
/-- full: no crowd of k, each further pair makes one -/
def fullB (n : Int) (ps ts : List Pr) (k : Nat) : Bool := !hasC n ts k && ps.all fun t => decide (t ∈ ts) || hasC n (ts ++ [t]) k
end PL
namespace PL
open PySem PySem.Spec PyProof.Rows L2
/-- a loop that is left at the first that is so -/
theorem forL_find {γ : Type} {g : D → Cm Unit} {b : Cm Fl} (h : γ → D) (bad : γ → Bool) (v : Vl) (Inv : En → Prop) : ∀ (xs : List γ) (ρ : En), Inv ρ →
    (∀ x ∈ xs, ∀ ρ, Inv ρ → ∃ ρ1 ρ2, g (h x) ρ = .ok () ρ1 ∧ b ρ1 = .ok (if bad x then .ret v else .nx) ρ2 ∧ Inv ρ2) →
    ∃ ρ', forL g b (xs.map h) ρ = .ok (if xs.any bad then .ret v else .nx) ρ' ∧ Inv ρ'
  | [], ρ, h0, _ => ⟨ρ, rfl, h0⟩
  | x :: xs, ρ, h0, hh => by
    obtain ⟨ρ1, ρ2, h1, h2, h3⟩ := hh x (List.mem_cons_self ..) ρ h0
    by_cases hb : bad x = true
    · refine ⟨ρ2, ?_, h3⟩
      show (g (h x) ρ).bind (fun _ => fun ρ => turnM (forL g b (xs.map h)) (b ρ)) = _
      rw [h1]
      show turnM (forL g b (xs.map h)) (b ρ1) = _
      rw [h2, if_pos hb, List.any_cons, hb]
      rfl
    · obtain ⟨ρ', e1, e2⟩ := forL_find h bad v Inv xs ρ2 h3 fun y hy => hh y (List.mem_cons_of_mem _ hy)
      refine ⟨ρ', ?_, e2⟩
      show (g (h x) ρ).bind (fun _ => fun ρ => turnM (forL g b (xs.map h)) (b ρ)) = _
      rw [h1]
      show turnM (forL g b (xs.map h)) (b ρ1) = _
      rw [h2, if_neg hb, List.any_cons, Bool.eq_false_iff.mpr hb, Bool.false_or]
      exact e1
end PL
namespace PL
open PySem PySem.Spec PyProof.Rows L2
theorem canLay_all : ∀ {ds : List D}, (∀ d ∈ ds, d.canLay0 = true) → PyData.canLayAll0 ds = true
  | [], _ => by simp [PyData.canLayAll0]
  | d :: ds, h => by
    unfold PyData.canLayAll0
    rw [h d (List.mem_cons_self ..), canLay_all fun x hx => h x (List.mem_cons_of_mem _ hx)] <;> rfl
theorem shp_list {ds : List D} (k : Nat) (h : ∀ d ∈ ds, d.canLay0 = true ∧ d.depth ≤ k) (hk : k ≤ 50) : shp (.list ds) = true := by
  have h1 := canLay_all fun d hd => (h d hd).1
  have h2 := depthAll_le fun d hd => (h d hd).2
  unfold shp SeqAt.shaped
  unfold PyData.canLay0 PyData.depth
  rw [h1]
  simp
  omega
theorem shp_tup {ds : List D} (k : Nat) (h : ∀ d ∈ ds, d.canLay0 = true ∧ d.depth ≤ k) (hk : k ≤ 50) : shp (.tuple ds) = true := by
  have h1 := canLay_all fun d hd => (h d hd).1
  have h2 := depthAll_le fun d hd => (h d hd).2
  unfold shp SeqAt.shaped
  unfold PyData.canLay0 PyData.depth
  rw [h1]
  simp
  omega
theorem lay_lot (l : List Int) : (PyData.tuple (l.map .int)).canLay0 = true ∧ (PyData.tuple (l.map .int)).depth ≤ 1 := by
  unfold PyData.canLay0 PyData.depth
  rw [ints_canLay, ints_depth]
  exact ⟨rfl, Nat.le_refl 1⟩
/-- a list told to be none, and not -/
theorem ne_nilL {ds : List D} (h : shp (.list ds) = true) : neD (.list ds) (.list []) = some (.bool (decide (ds ≠ []))) := by
  show (if shp (.list ds) && shp (.list []) then some (PyData.bool (!PyData.eqv (.list ds) (.list []))) else none) = _
  rw [h, show shp (.list []) = true from shp_ints []]
  cases ds with
  | nil => simp [PyData.eqv, PyData.eqvAll]
  | cons a l => simp [PyData.eqv, PyData.eqvAll]
theorem ne_nilT {ds : List D} (h : shp (.tuple ds) = true) : neD (.tuple ds) (.tuple []) = some (.bool (decide (ds ≠ []))) := by
  show (if shp (.tuple ds) && shp (.tuple []) then some (PyData.bool (!PyData.eqv (.tuple ds) (.tuple []))) else none) = _
  rw [h, show shp (.tuple []) = true from shp_intsT []]
  cases ds with
  | nil => simp [PyData.eqv, PyData.eqvAll]
  | cons a l => simp [PyData.eqv, PyData.eqvAll]
end PL
end S_CRW

section S_CRX
namespace PL
open PySem PySem.Spec PyProof.Rows L2
/-! ### crowds, the program's way -/
theorem comb_lots (k : Nat) (xs : List Int) : combL k (xs.map .int) = (lots k xs).map fun l => PyData.tuple (l.map .int) := by
  unfold combL
  rw [lots_map, List.map_map]
  rfl
theorem comb_L {xs : List Int} {k : Int} (h : 0 ≤ k) (h2 : k ≤ 1048576) : combD [.list (xs.map .int), .int k] = some ((lots k.toNat xs).map fun l => PyData.tuple (l.map .int)) := by
  show (if decide (0 ≤ k) && decide (k ≤ 1048576) then some (combL k.toNat (xs.map .int)) else none) = _
  rw [decide_eq_true h, decide_eq_true h2, comb_lots]
  rfl
theorem comb_T {xs : List Int} {k : Int} (h : 0 ≤ k) (h2 : k ≤ 1048576) : combD [.tuple (xs.map .int), .int k] = some ((lots k.toNat xs).map fun l => PyData.tuple (l.map .int)) := by
  show (if decide (0 ≤ k) && decide (k ≤ 1048576) then some (combL k.toNat (xs.map .int)) else none) = _
  rw [decide_eq_true h, decide_eq_true h2, comb_lots]
  rfl
theorem comb_pairs {xs : List Int} : combD [.tuple (xs.map .int), .int 2] = some ((pairsOf xs).map pD) := by
  rw [comb_T (by decide) (by decide)]
  show some ((lots 2 xs).map _) = _
  rw [lots_two, List.map_map]
  rfl
theorem alike_ints2 (a b : Int) : PySem.W.alike (.int a) (.int b) = true := by simp [PySem.W.alike]
theorem okMx_ints {ns : List Int} : okMx (ns.map .int) = true := by
  unfold okMx
  simp [List.all_map, Function.comp_def, alike_ints2, isNonB, PyData.depth]
theorem mxLD_ints {a : Int} {ns : List Int} : mxLD true [.list ((a :: ns).map .int)] = some (.int (ns.foldl max a)) := by
  show (if okMx ((a :: ns).map .int) then some (mxD true (.int a) (ns.map .int)) else none) = _
  rw [if_pos okMx_ints]
  show some (PySem.W.maxD (.int a) (ns.map .int)) = _
  rw [PySem.W.maxD_ints]
theorem mnLD_ints {a : Int} {ns : List Int} : mxLD false [.list ((a :: ns).map .int)] = some (.int (ns.foldl min a)) := by
  show (if okMx ((a :: ns).map .int) then some (mxD false (.int a) (ns.map .int)) else none) = _
  rw [if_pos okMx_ints]
  show some (PySem.W.minD (.int a) (ns.map .int)) = _
  rw [PySem.W.minD_ints]
theorem max_mem : ∀ (ns : List Int) (a : Int), ns.foldl max a ∈ a :: ns
  | [], a => by simp
  | x :: ns, a => by
    have h := max_mem ns (max a x)
    show ns.foldl max (max a x) ∈ a :: x :: ns
    rcases List.mem_cons.mp h with q | q
    · rw [q]
      by_cases z : a ≤ x
      · rw [Int.max_eq_right z]; simp
      · rw [Int.max_eq_left (by omega)]; simp
    · exact List.mem_cons_of_mem _ (List.mem_cons_of_mem _ q)
theorem max_le : ∀ (ns : List Int) (a : Int), ∀ x ∈ a :: ns, x ≤ ns.foldl max a
  | [], a, x, h => by rw [List.mem_singleton.mp h]; exact Int.le_refl _
  | y :: ns, a, x, h => by
    have ih := max_le ns (max a y)
    show x ≤ ns.foldl max (max a y)
    have hm := ih (max a y) (List.mem_cons_self ..)
    rcases List.mem_cons.mp h with rfl | h
    · exact Int.le_trans (Int.le_max_left x y) hm
    · rcases List.mem_cons.mp h with rfl | h
      · exact Int.le_trans (Int.le_max_right a x) hm
      · exact ih x (List.mem_cons_of_mem _ h)
/-- of what sizes there are crowds -/
def sizesC (n : Int) (ts : List Pr) : List Int := (rngZ 1 (n + 1)).filter fun k => hasC n ts k.toNat
def cnum (n : Int) (ts : List Pr) : Int := (sizesC n ts).tail.foldl max ((sizesC n ts).headD 0)
theorem has_one {n : Int} (h : 1 ≤ n) (ts : List Pr) : hasC n ts 1 = true := by
  refine hasC_iff.mpr ⟨[0], List.singleton_sublist.mpr ((mem_zTo (by omega)).mpr (by omega)), rfl, ?_⟩
  rfl
theorem sizes_ne {n : Int} (h : 1 ≤ n) (ts : List Pr) : sizesC n ts ≠ [] := by
  intro z
  have : (1 : Int) ∈ sizesC n ts := List.mem_filter.mpr ⟨mem_rngZ.mpr (by omega), has_one h ts⟩
  rw [z] at this
  cases this
theorem cnum_lt {n : Int} (h : 1 ≤ n) (ts : List Pr) {m : Int} (hm : 1 ≤ m) : decide (cnum n ts < m) = !hasC n ts m.toNat := by
  obtain ⟨a, l, e⟩ := List.exists_cons_of_ne_nil (sizes_ne h ts)
  have ec : cnum n ts = l.foldl max a := by
    unfold cnum
    rw [e]
    rfl
  have hmem : cnum n ts ∈ sizesC n ts := by
    rw [ec, e]
    exact max_mem l a
  obtain ⟨c1, c2⟩ := List.mem_filter.mp hmem
  obtain ⟨c3, c4⟩ := mem_rngZ.mp c1
  rw [Bool.eq_iff_iff, decide_eq_true_eq, Bool.not_eq_true']
  constructor
  · intro hlt
    cases q : hasC n ts m.toNat with
    | false => rfl
    | true =>
      exfalso
      have hn : m ≤ n := by
        by_cases z : m ≤ n
        · exact z
        · rw [hasC_big (by omega) (by omega)] at q
          cases q
      have : m ∈ sizesC n ts := List.mem_filter.mpr ⟨mem_rngZ.mpr (by omega), q⟩
      rw [e] at this
      have := max_le l a m this
      omega
  · intro hf
    by_cases z : cnum n ts < m
    · exact z
    · rw [hasC_less (m := (cnum n ts).toNat) (by omega) c2] at hf
      cases hf
/-! ### pairs in order -/
theorem alike_pr (a b : Pr) : PySem.W.alike (pD a) (pD b) = true := by
  simp [pD, PySem.W.alike, PySem.W.alikeAll]
theorem okSrt_prs {ts : List Pr} (h : ts.length ≤ 16777216) : okSrt (ts.map pD) = true := by
  unfold okSrt
  have hd : ∀ t : Pr, (pD t).depth = 1 := pD_depth
  simp [List.all_map, Function.comp_def, alike_pr, isTupB, hd, size16 h]
  exact .inl fun a b _ => rfl
def unP : D → Pr
  | .tuple [.int a, .int b] => (a, b)
  | _ => (0, 0)
theorem unP_pD (t : Pr) : unP (pD t) = t := rfl
theorem sort_prs {ts : List Pr} (h : ts.length ≤ 16777216) : ∃ us : List Pr, sortD [.list (ts.map pD)] = some (us.map pD) ∧ us.Perm ts := by
  refine ⟨(srtL (ts.map pD)).map unP, ?_, ?_⟩
  · show (if okSrt (ts.map pD) then some (srtL (ts.map pD)) else none) = _
    rw [if_pos (okSrt_prs h), List.map_map]
    congr 1
    refine (List.map_congr_left (g := pD ∘ unP) (f := id) fun d hd => ?_).symm.trans ?_ |>.symm
    · have hm : d ∈ ts.map pD := (srtL_perm _).mem_iff.mp hd
      obtain ⟨t, _, rfl⟩ := List.mem_map.mp hm
      rfl
    · exact List.map_id _
  · have p := (srtL_perm (ts.map pD)).map unP
    rw [List.map_map] at p
    have e : (ts.map (unP ∘ pD)) = ts := List.map_id ts
    rw [e] at p
    exact p
end PL
namespace PL
theorem snoc_ind {α : Type} {P : List α → Prop} (h0 : P []) (h1 : ∀ l a, P l → P (l ++ [a])) (l : List α) : P l := by
  rw [← List.reverse_reverse l]
  induction l.reverse with
  | nil => exact h0
  | cons a t ih =>
    rw [List.reverse_cons]
    exact h1 _ _ ih
end PL
end S_CRX

section S_CRY
namespace PL
open PySem PySem.Spec PyProof.Rows L2
/-! ### pairs sorted: the one list -/
theorem lt_ext {α : Type} {lt : α → α → Prop} (irr : ∀ a, ¬ lt a a) (asym : ∀ a b, lt a b → ¬ lt b a) : ∀ l1 l2 : List α, l1.Pairwise lt → l2.Pairwise lt → (∀ x, x ∈ l1 ↔ x ∈ l2) → l1 = l2
  | [], [], _, _, _ => rfl
  | [], b :: l2, _, _, h => by have := (h b).mpr (by simp); simp at this
  | a :: l1, [], _, _, h => by have := (h a).mp (by simp); simp at this
  | a :: l1, b :: l2, h1, h2, h => by
    obtain ⟨a1, a2⟩ := List.pairwise_cons.mp h1
    obtain ⟨b1, b2⟩ := List.pairwise_cons.mp h2
    have e : a = b := by
      rcases List.mem_cons.mp ((h a).mp (by simp)) with q | q
      · exact q
      · rcases List.mem_cons.mp ((h b).mpr (by simp)) with z | z
        · exact z.symm
        · exact absurd (b1 a q) (asym _ _ (a1 b z))
    subst e
    rw [lt_ext irr asym l1 l2 a2 b2 fun x => ⟨fun hx => by
      rcases List.mem_cons.mp ((h x).mp (List.mem_cons_of_mem _ hx)) with z | z
      · subst z; exact absurd (a1 x hx) (irr x)
      · exact z, fun hx => by
      rcases List.mem_cons.mp ((h x).mpr (List.mem_cons_of_mem _ hx)) with z | z
      · subst z; exact absurd (b1 x hx) (irr x)
      · exact z⟩]
theorem prLt_irr (a : Pr) : ¬ prLt a a = true := by simp [prLt]
theorem prLt_asym (a b : Pr) (h : prLt a b = true) : ¬ prLt b a = true := by
  simp [prLt] at h ⊢
  omega
theorem prLt_tot {a b : Pr} (h1 : ¬ prLt a b = true) (h2 : ¬ prLt b a = true) : a = b := by
  simp [prLt] at h1 h2
  refine Prod.ext ?_ ?_ <;> omega
theorem prLt_trans {a b c : Pr} (h1 : prLt a b = true) (h2 : prLt b c = true) : prLt a c = true := by
  simp [prLt] at h1 h2 ⊢
  omega
def prLe (a b : Pr) : Bool := !prLt b a
theorem le_prs (a b : Pr) : PySem.W.dataLe false (fun d => d) (pD a) (pD b) = prLe a b := by
  show (!PySem.W.dataLt (pD b) (pD a)) = _
  unfold prLe
  have : PySem.W.dataLt (pD b) (pD a) = prLt b a := by
    have e := PySem.W.dataLt_ii b.1 b.2 a.1 a.2
    rw [show PySem.W.dataLt (pD b) (pD a) = _ from e]
    unfold prLt
    rw [Bool.eq_iff_iff]
    simp
  rw [this]
theorem sort_prs2 {ts : List Pr} (h : ts.length ≤ 16777216) : sortD [.list (ts.map pD)] = some ((ts.mergeSort prLe).map pD) := by
  show (if okSrt (ts.map pD) then some (srtL (ts.map pD)) else none) = _
  rw [srtL_merge, if_pos (okSrt_prs h)]
  congr 1
  exact (PySem.W.sort_maps (r := prLe) (s := PySem.W.dataLe false fun d => d) pD fun a _ b _ => (le_prs a b).symm).symm
theorem sort_pw (ts : List Pr) (hn : ts.Nodup) : (ts.mergeSort prLe).Pairwise fun a b => prLt a b = true := by
  have h1 : (ts.mergeSort prLe).Pairwise fun a b => prLe a b = true := List.pairwise_mergeSort (le := prLe) (fun a b c x y => by
    unfold prLe at x y ⊢
    rw [Bool.not_eq_true'] at x y ⊢
    cases q : prLt c a with
    | false => rfl
    | true =>
      by_cases z : prLt a b = true
      · rw [prLt_trans q z] at y; cases y
      · have := prLt_tot z (by rw [x]; exact Bool.false_ne_true)
        subst this
        rw [q] at y; cases y) (fun a b => by
    unfold prLe
    by_cases z : prLt a b = true
    · rw [Bool.eq_false_iff.mpr (prLt_asym a b z)]
      rfl
    · rw [Bool.eq_false_iff.mpr z]
      cases prLt b a <;> rfl) ts
  have h2 : (ts.mergeSort prLe).Nodup := (List.mergeSort_perm ts prLe).nodup_iff.mpr hn
  refine (h1.and h2).imp fun {a b} ⟨x, y⟩ => ?_
  unfold prLe at x
  rw [Bool.not_eq_true'] at x
  by_cases z : prLt a b = true
  · exact z
  · exact absurd (prLt_tot z (by rw [x]; exact Bool.false_ne_true)) y
theorem sort_is {ts us : List Pr} (h : ts.length ≤ 16777216) (hn : ts.Nodup) (hu : us.Pairwise fun a b => prLt a b = true) (hm : ∀ t, t ∈ us ↔ t ∈ ts) : sortD [.list (ts.map pD)] = some (us.map pD) := by
  rw [sort_prs2 h, lt_ext (lt := fun a b => prLt a b = true) prLt_irr prLt_asym (ts.mergeSort prLe) us (sort_pw ts hn) hu fun x => by rw [hm, (List.mergeSort_perm ts prLe).mem_iff]]
/-! ### who is tied, how many to whom -/
def adjB (ts : List Pr) (x y : Int) : Bool := decide ((min x y, max x y) ∈ ts)
theorem adj_sym (ts : List Pr) (x y : Int) : adjB ts x y = adjB ts y x := by
  unfold adjB
  rw [Int.min_comm, Int.max_comm]
theorem adj_lt {ts : List Pr} {x y : Int} (h : x < y) : adjB ts x y = decide ((x, y) ∈ ts) := by
  unfold adjB
  rw [Int.min_eq_left (by omega), Int.max_eq_right (by omega)]
def degS (ts : List Pr) (S : List Int) (x : Int) : Nat := (S.filter (adjB ts x)).length
def eS (ts : List Pr) : List Int → Nat
  | [] => 0
  | x :: S => degS ts S x + eS ts S
theorem deg_cons (ts : List Pr) (y : Int) (S : List Int) (x : Int) : degS ts (y :: S) x = (if adjB ts x y then 1 else 0) + degS ts S x := by
  unfold degS
  by_cases h : adjB ts x y = true
  · rw [List.filter_cons_of_pos h, if_pos h, List.length_cons]
    omega
  · rw [List.filter_cons_of_neg h, if_neg h]
    omega
theorem deg_app (ts : List Pr) (A B : List Int) (x : Int) : degS ts (A ++ B) x = degS ts A x + degS ts B x := by
  unfold degS
  rw [List.filter_append, List.length_append]
theorem deg_perm {ts : List Pr} {A B : List Int} (h : A.Perm B) (x : Int) : degS ts A x = degS ts B x := (h.filter _).length_eq
theorem deg_le (ts : List Pr) (S : List Int) (x : Int) : degS ts S x ≤ S.length := List.length_filter_le _ _
theorem eS_perm {ts : List Pr} {A B : List Int} (h : A.Perm B) : eS ts A = eS ts B := by
  induction h with
  | nil => rfl
  | cons x h ih =>
    show degS ts _ x + eS ts _ = degS ts _ x + eS ts _
    rw [ih, deg_perm h]
  | swap x y l =>
    show degS ts (x :: l) y + (degS ts l x + eS ts l) = degS ts (y :: l) x + (degS ts l y + eS ts l)
    rw [deg_cons, deg_cons, adj_sym ts x y]
    omega
  | trans _ _ h1 h2 => exact h1.trans h2
theorem eS_app (ts : List Pr) : ∀ A B : List Int, eS ts (A ++ B) = eS ts A + (A.map (degS ts B)).sum + eS ts B
  | [], B => by simp [eS]
  | x :: A, B => by
    show degS ts (A ++ B) x + eS ts (A ++ B) = degS ts A x + eS ts A + ((x :: A).map (degS ts B)).sum + eS ts B
    rw [deg_app, eS_app ts A B, List.map_cons, List.sum_cons]
    omega
theorem sum_add {α : Type} (f g : α → Nat) : ∀ l : List α, (l.map fun x => f x + g x).sum = (l.map f).sum + (l.map g).sum
  | [] => rfl
  | x :: l => by
    simp only [List.map_cons, List.sum_cons]
    rw [sum_add f g l]
    omega
theorem sum_ind {α : Type} (p : α → Bool) : ∀ l : List α, (l.map fun x => if p x then 1 else 0).sum = (l.filter p).length
  | [] => rfl
  | x :: l => by
    rw [List.map_cons, List.sum_cons, sum_ind p l]
    by_cases h : p x = true
    · rw [if_pos h, List.filter_cons_of_pos h, List.length_cons]
      omega
    · rw [if_neg h, List.filter_cons_of_neg h]
      omega
/-- each pair is met twice -/
theorem shake {ts : List Pr} (irr : ∀ x, adjB ts x x = false) : ∀ S : List Int, (S.map (degS ts S)).sum = 2 * eS ts S
  | [] => rfl
  | x :: S => by
    have ih := shake irr S
    have e : (x :: S).map (degS ts (x :: S)) = (x :: S).map fun v => (if adjB ts x v then 1 else 0) + degS ts S v := List.map_congr_left fun v _ => by rw [deg_cons, adj_sym]
    rw [e, List.map_cons, List.sum_cons, irr x, sum_add, sum_ind, ih]
    show _ = 2 * (degS ts S x + eS ts S)
    unfold degS
    simp
    omega
theorem low_one {f : Int → Nat} : ∀ {S : List Int}, S ≠ [] → ∃ v ∈ S, S.length * f v ≤ (S.map f).sum
  | [], h => absurd rfl h
  | [x], _ => ⟨x, by simp, by simp⟩
  | x :: y :: S, _ => by
    obtain ⟨v, hv, h⟩ := low_one (f := f) (S := y :: S) (by simp)
    rw [List.map_cons, List.sum_cons, List.length_cons]
    generalize hL : y :: S = L at *
    by_cases z : f x ≤ f v
    · refine ⟨x, by simp, ?_⟩
      have := Nat.mul_le_mul_left L.length z
      rw [Nat.succ_mul]
      omega
    · refine ⟨v, List.mem_cons_of_mem _ hv, ?_⟩
      rw [Nat.succ_mul]
      omega
theorem low_all {f : Int → Nat} {c : Nat} : ∀ {S : List Int}, (∀ v ∈ S, c ≤ f v) → S.length * c ≤ (S.map f).sum
  | [], _ => by simp
  | x :: S, h => by
    have h1 := low_all (S := S) fun v hv => h v (List.mem_cons_of_mem _ hv)
    have h2 := h x (by simp)
    rw [List.map_cons, List.sum_cons, List.length_cons, Nat.succ_mul]
    omega
def ch2 (s : Nat) : Nat := s * (s - 1) / 2
theorem ch2_succ (s : Nat) : ch2 (s + 1) = s + ch2 s := by
  unfold ch2
  cases s with
  | zero => rfl
  | succ s =>
    show (s + 1 + 1) * (s + 1) / 2 = s + 1 + (s + 1) * s / 2
    have e : (s + 1 + 1) * (s + 1) = (s + 1) * s + (s + 1) * 2 := by
      rw [Nat.mul_comm (s + 1 + 1), ← Nat.mul_add]
    rw [e, Nat.add_mul_div_right _ _ (by decide)]
    omega
theorem eS_le (ts : List Pr) : ∀ S : List Int, eS ts S ≤ ch2 S.length
  | [] => Nat.le_refl _
  | x :: S => by
    have h1 := eS_le ts S
    have h2 := deg_le ts S x
    show degS ts S x + eS ts S ≤ ch2 (S.length + 1)
    rw [ch2_succ]
    omega
/-- of an ascending list: all are tied just where it is a crowd -/
theorem eS_crowd {ts : List Pr} : ∀ {S : List Int}, S.Pairwise (· < ·) → (eS ts S = ch2 S.length ↔ crowdB ts S = true)
  | [], _ => ⟨fun _ => rfl, fun _ => rfl⟩
  | x :: S, h => by
    obtain ⟨h1, h2⟩ := List.pairwise_cons.mp h
    have ih := eS_crowd (ts := ts) h2
    have l1 := eS_le ts S
    have l2 := deg_le ts S x
    show degS ts S x + eS ts S = ch2 (S.length + 1) ↔ _
    rw [ch2_succ, crowd_iff]
    constructor
    · intro e
      have e1 : eS ts S = ch2 S.length := by omega
      have e2 : degS ts S x = S.length := by omega
      have c := crowd_iff.mp (ih.mp e1)
      intro t ht
      rcases List.mem_append.mp ht with q | q
      · obtain ⟨y, hy, rfl⟩ := List.mem_map.mp q
        have := List.length_filter_eq_length_iff.mp e2 y hy
        rw [adj_lt (h1 y hy)] at this
        simpa using this
      · exact c t q
    · intro c
      have e1 : eS ts S = ch2 S.length := ih.mpr (crowd_iff.mpr fun t ht => c t (List.mem_append_right _ ht))
      have e2 : degS ts S x = S.length := List.length_filter_eq_length_iff.mpr fun y hy => by
        rw [adj_lt (h1 y hy)]
        simpa using c (x, y) (List.mem_append_left _ (List.mem_map.mpr ⟨y, hy, rfl⟩))
      omega
theorem eS_count {ts : List Pr} : ∀ {S : List Int}, S.Pairwise (· < ·) → eS ts S = ((pairsOf S).filter fun t => decide (t ∈ ts)).length
  | [], _ => rfl
  | x :: S, h => by
    obtain ⟨h1, h2⟩ := List.pairwise_cons.mp h
    show degS ts S x + eS ts S = ((S.map (fun y => (x, y)) ++ pairsOf S).filter fun t => decide (t ∈ ts)).length
    rw [List.filter_append, List.length_append, ← eS_count h2, List.filter_map, List.length_map]
    congr 1
    unfold degS
    refine congrArg List.length (List.filter_congr fun y hy => ?_)
    exact adj_lt (h1 y hy)
end PL
end S_CRY

section S_CRZ
namespace PL
open PySem PySem.Spec PyProof.Rows L2
/-! ### the most pairs without a crowd, of six at most -/
/-- people parted into r lots as alike as can be -/
def turN (s r : Nat) : Nat := ch2 s - ((List.range r).map fun a => ch2 (s / r + (if a < s % r then 1 else 0))).sum
theorem erase_pw {S : List Int} (h : S.Pairwise (· < ·)) (v : Int) : (S.erase v).Pairwise (· < ·) := h.sublist List.erase_sublist
theorem turan {ts : List Pr} (irr : ∀ x, adjB ts x x = false) {r : Nat} (hr : 2 ≤ r) : ∀ (s : Nat) (S : List Int), S.length = s → s ≤ 6 → S.Pairwise (· < ·) → (∀ l : List Int, l.Sublist S → l.length = r + 1 → crowdB ts l = false) → eS ts S ≤ turN s r := by
  intro s
  induction s with
  | zero =>
    intro S hl _ _ _
    rw [List.length_eq_zero_iff.mp hl]
    exact Nat.zero_le _
  | succ s ih =>
    intro S hl h6 hp hc
    have hle := eS_le ts S
    rw [hl] at hle
    by_cases h1 : s + 1 ≤ r
    · have : ∀ s ∈ [0, 1, 2, 3, 4, 5], ∀ r ∈ [2, 3, 4, 5, 6], s + 1 ≤ r → ch2 (s + 1) ≤ turN (s + 1) r := by decide +kernel
      by_cases h7 : r ≤ 6
      · exact Nat.le_trans hle (this s (by simp; omega) r (by simp; omega) h1)
      · -- each lot is one person or none
        have z : ∀ r : Nat, s + 1 < r → turN (s + 1) r = ch2 (s + 1) := fun r hr => by
          unfold turN
          have e1 : (s + 1) / r = 0 := Nat.div_eq_of_lt hr
          have e2 : ((List.range r).map fun a => ch2 ((s + 1) / r + (if a < (s + 1) % r then 1 else 0))).sum = 0 := by
            rw [e1]
            have e3 : ((List.range r).map fun a => ch2 (0 + (if a < (s + 1) % r then 1 else 0))) = (List.range r).map fun _ => 0 := List.map_congr_left fun a _ => by
              split <;> rfl
            rw [e3]
            induction (List.range r) with
            | nil => rfl
            | cons a l ih => simpa using ih
          rw [e2]
          rfl
        rw [z r (by omega)]
        exact hle
    · by_cases h2 : s + 1 = r + 1
      · have hn : ¬ eS ts S = ch2 (s + 1) := fun e => by
          have := (eS_crowd hp).mp (by rw [hl]; exact e)
          rw [hc S (List.Sublist.refl S) (by omega)] at this
          cases this
        have : ∀ r ∈ [2, 3, 4, 5], ch2 (r + 1) - 1 ≤ turN (r + 1) r := by decide +kernel
        have h3 := this r (by simp; omega)
        rw [h2] at hn hle ⊢
        omega
      · have hne : S ≠ [] := fun z => by rw [z] at hl; cases hl
        obtain ⟨v, hv, hlow⟩ := low_one (f := degS ts S) hne
        rw [shake irr, hl] at hlow
        have pe := List.perm_cons_erase hv
        have e1 := eS_perm (ts := ts) pe
        have e2 := deg_perm (ts := ts) pe v
        rw [deg_cons, irr v] at e2
        simp at e2
        have hle2 : (S.erase v).length = s := by rw [List.length_erase_of_mem hv]; omega
        have i := ih (S.erase v) hle2 (by omega) (erase_pw hp v) fun l hs hll => hc l (hs.trans List.erase_sublist) hll
        have e3 : eS ts S = degS ts S v + eS ts (S.erase v) := by
          rw [e1, e2]
          rfl
        generalize degS ts S v = d at *
        generalize eS ts (S.erase v) = e' at *
        generalize eS ts S = e at *
        have cs : (r = 2 ∧ s = 3) ∨ (r = 2 ∧ s = 4) ∨ (r = 2 ∧ s = 5) ∨ (r = 3 ∧ s = 4) ∨ (r = 3 ∧ s = 5) ∨ (r = 4 ∧ s = 5) := by omega
        rcases cs with ⟨rfl, rfl⟩ | ⟨rfl, rfl⟩ | ⟨rfl, rfl⟩ | ⟨rfl, rfl⟩ | ⟨rfl, rfl⟩ | ⟨rfl, rfl⟩
        · rw [show turN 3 2 = 2 from by decide +kernel] at i
          rw [show turN (3 + 1) 2 = 4 from by decide +kernel]
          omega
        · rw [show turN 4 2 = 4 from by decide +kernel] at i
          rw [show turN (4 + 1) 2 = 6 from by decide +kernel]
          omega
        · rw [show turN 5 2 = 6 from by decide +kernel] at i
          rw [show turN (5 + 1) 2 = 9 from by decide +kernel]
          omega
        · rw [show turN 4 3 = 5 from by decide +kernel] at i
          rw [show turN (4 + 1) 3 = 8 from by decide +kernel]
          omega
        · rw [show turN 5 3 = 8 from by decide +kernel] at i
          rw [show turN (5 + 1) 3 = 12 from by decide +kernel]
          omega
        · rw [show turN 5 4 = 9 from by decide +kernel] at i
          rw [show turN (5 + 1) 4 = 13 from by decide +kernel]
          omega
/-! ### full webs: few pairs are not enough -/
/-- each two that are not tied make a crowd of k with k - 2 others -/
structure Sat (ts : List Pr) (V : List Int) (k : Nat) : Prop where
  no : ∀ l : List Int, l.Sublist V → l.length = k → crowdB ts l = false
  mkc : ∀ x ∈ V, ∀ y ∈ V, x ≠ y → adjB ts x y = false → ∃ q : List Int, q.Sublist V ∧ q.length + 2 = k ∧ crowdB ts q = true ∧ x ∉ q ∧ y ∉ q ∧ ∀ z ∈ q, adjB ts x z = true ∧ adjB ts y z = true
theorem sub_len {l m : List Int} (hn : l.Nodup) (h : ∀ x ∈ l, x ∈ m) : l.length ≤ m.length := nodup_le hn h
theorem crowd_adj {ts : List Pr} {l : List Int} (hp : l.Pairwise (· < ·)) (hc : crowdB ts l = true) : ∀ x ∈ l, ∀ y ∈ l, x ≠ y → adjB ts x y = true := by
  intro x hx y hy hne
  have key : ∀ {l : List Int}, l.Pairwise (· < ·) → crowdB ts l = true → ∀ x ∈ l, ∀ y ∈ l, x < y → adjB ts x y = true := by
    intro l
    induction l with
    | nil => intro _ _ x hx; cases hx
    | cons a l ih =>
      intro hp hc x hx y hy hlt
      obtain ⟨h1, h2⟩ := List.pairwise_cons.mp hp
      rcases List.mem_cons.mp hx with e1 | hx'
      · rcases List.mem_cons.mp hy with e2 | hy'
        · omega
        · subst e1
          rw [adj_lt hlt]
          simpa using crowd_iff.mp hc (x, y) (List.mem_append_left _ (List.mem_map.mpr ⟨y, hy', rfl⟩))
      · rcases List.mem_cons.mp hy with e2 | hy'
        · have := h1 x hx'
          omega
        · exact ih h2 (crowd_sub (List.sublist_cons_self a l) hc) x hx' y hy' hlt
  by_cases z : x < y
  · exact key hp hc x hx y hy z
  · rw [adj_sym]
    exact key hp hc y hy x hx (by omega)
theorem ehm {ts : List Pr} (irr : ∀ x, adjB ts x x = false) {k n : Nat} {V : List Int} (hV : V.Pairwise (· < ·)) (hl : V.length = n) (hk : 3 ≤ k) (hkn : k ≤ n) (h6 : n ≤ 6) (S : Sat ts V k) : (k - 2) * (n - k + 2) + ch2 (k - 2) ≤ eS ts V := by
  have hnd := lt_nodup hV
  have dlow : ∀ v ∈ V, k - 2 ≤ degS ts V v := fun v hv => by
    by_cases all : ∀ y ∈ V, y ≠ v → adjB ts v y = true
    · have : (V.erase v).length ≤ degS ts V v := by
        refine sub_len (hnd.sublist List.erase_sublist) fun y hy => ?_
        have h1 : y ∈ V := List.mem_of_mem_erase hy
        have h2 : y ≠ v := fun z => by
          subst z
          exact hnd.not_mem_erase hy
        exact List.mem_filter.mpr ⟨h1, all y h1 h2⟩
      rw [List.length_erase_of_mem hv, hl] at this
      omega
    · have : ∃ y ∈ V, y ≠ v ∧ adjB ts v y = false := Classical.byContradiction fun z => all fun y hy hne => by
        cases q : adjB ts v y with
        | true => rfl
        | false => exact absurd ⟨y, hy, hne, q⟩ z
      obtain ⟨y, hy, hne, hf⟩ := this
      obtain ⟨q, q1, q2, q3, q4, q5, q6⟩ := S.mkc v hv y hy (fun z => hne z.symm) hf
      have := sub_len (m := V.filter (adjB ts v)) (hnd.sublist q1) fun z hz => List.mem_filter.mpr ⟨q1.subset hz, (q6 z hz).1⟩
      show k - 2 ≤ (V.filter (adjB ts v)).length
      omega
  by_cases hB : ∃ v ∈ V, degS ts V v = k - 2
  · obtain ⟨v, hv, hd⟩ := hB
    -- the friends of v, and the others
    have hperm : V.Perm (V.filter (adjB ts v) ++ V.filter fun x => !adjB ts v x) := (List.filter_append_perm (adjB ts v) V).symm
    have key : ∀ w ∈ V.filter (fun x => !adjB ts v x), w ≠ v → crowdB ts (V.filter (adjB ts v)) = true ∧ ∀ z ∈ V.filter (adjB ts v), adjB ts w z = true := fun w hw hne => by
      obtain ⟨w1, w2⟩ := List.mem_filter.mp hw
      obtain ⟨q, q1, q2, q3, q4, q5, q6⟩ := S.mkc v hv w w1 (fun z => hne z.symm) (by simpa using w2)
      have e : q = V.filter (adjB ts v) := by
        refine List.Sublist.eq_of_length (l₁ := q) (l₂ := V.filter (adjB ts v)) ?_ (by
          show q.length = degS ts V v
          omega)
        have h1 : V.filter (fun x => decide (x ∈ q)) = q := sublist_filter hnd q1
        rw [← h1]
        have : V.filter (fun x => decide (x ∈ q)) = (V.filter (adjB ts v)).filter (fun x => decide (x ∈ q)) := by
          rw [List.filter_filter]
          refine List.filter_congr fun x hx => ?_
          by_cases hq : x ∈ q
          · simp [hq, (q6 x hq).1]
          · simp [hq]
        rw [this]
        exact List.filter_sublist
      rw [← e]
      exact ⟨q3, fun z hz => (q6 z hz).2⟩
    have lenN : (V.filter (adjB ts v)).length = k - 2 := hd
    have lenM : (V.filter fun x => !adjB ts v x).length = n - (k - 2) := by
      have := hperm.length_eq
      rw [List.length_append, hl] at this
      omega
    -- somebody else is no friend
    have hw : ∃ w ∈ V.filter (fun x => !adjB ts v x), w ≠ v := Classical.byContradiction fun z => by
      have h1 : ∀ w ∈ V.filter (fun x => !adjB ts v x), w ∈ [v] := fun w hw => Classical.byContradiction fun hne => z ⟨w, hw, fun e => hne (by rw [e]; simp)⟩
      have := sub_len (hnd.sublist List.filter_sublist) h1
      simp at this
      omega
    obtain ⟨w0, hw0, hne0⟩ := hw
    have hc := (key w0 hw0 hne0).1
    have e1 := eS_perm (ts := ts) hperm
    rw [eS_app] at e1
    have e2 : eS ts (V.filter (adjB ts v)) = ch2 (k - 2) := by
      rw [← lenN]
      exact (eS_crowd (hV.sublist List.filter_sublist)).mpr hc
    have e3 : ∀ x ∈ V.filter (adjB ts v), (n - (k - 2)) ≤ degS ts (V.filter fun x => !adjB ts v x) x := fun x hx => by
      have : (V.filter fun x => !adjB ts v x).filter (adjB ts x) = V.filter fun x => !adjB ts v x := List.filter_eq_self.mpr fun w hw => by
        rw [adj_sym]
        by_cases z : w = v
        · subst z
          exact (List.mem_filter.mp hx).2
        · exact (key w hw z).2 x hx
      unfold degS
      rw [this, lenM]
      exact Nat.le_refl _
    have e4 := low_all e3
    rw [lenN] at e4
    have e5 : n - (k - 2) = n - k + 2 := by omega
    rw [e5] at e4
    omega
  · have d2 : ∀ v ∈ V, k - 1 ≤ degS ts V v := fun v hv => by
      have h1 := dlow v hv
      have h2 : degS ts V v ≠ k - 2 := fun z => hB ⟨v, hv, z⟩
      omega
    have e1 := low_all d2
    rw [shake irr, hl] at e1
    have : ∀ n ∈ [3, 4, 5, 6], ∀ k ∈ [3, 4, 5, 6], k ≤ n → ∀ e ∈ List.range 16, n * (k - 1) ≤ 2 * e → (k - 2) * (n - k + 2) + ch2 (k - 2) ≤ e := by decide +kernel
    by_cases h16 : eS ts V < 16
    · exact this n (by simp; omega) k (by simp; omega) hkn _ (List.mem_range.mpr h16) e1
    · have h := eS_le ts V
      rw [hl] at h
      have : ∀ n ∈ [3, 4, 5, 6], ch2 n ≤ 15 := by decide +kernel
      have := this n (by simp; omega)
      omega
end PL
end S_CRZ

section S_CRV
namespace PL
open PySem PySem.Spec PyProof.Rows L2
/-! ### webs on zTo n and what is full -/
theorem pairs_in {l : List Int} {t : Pr} (h : t ∈ pairsOf l) : t.1 ∈ l ∧ t.2 ∈ l := by
  induction l with
  | nil => cases h
  | cons x l ih =>
    rcases List.mem_append.mp h with q | q
    · obtain ⟨y, hy, rfl⟩ := List.mem_map.mp q
      exact ⟨by simp, List.mem_cons_of_mem _ hy⟩
    · exact ⟨List.mem_cons_of_mem _ (ih q).1, List.mem_cons_of_mem _ (ih q).2⟩
theorem pairs_lt {l : List Int} (hp : l.Pairwise (· < ·)) {t : Pr} (h : t ∈ pairsOf l) : t.1 < t.2 := by
  induction l with
  | nil => cases h
  | cons x l ih =>
    obtain ⟨h1, h2⟩ := List.pairwise_cons.mp hp
    rcases List.mem_append.mp h with q | q
    · obtain ⟨y, hy, rfl⟩ := List.mem_map.mp q
      exact h1 y hy
    · exact ih h2 q
theorem pairs_of_two {l : List Int} (hp : l.Pairwise (· < ·)) {x y : Int} (hx : x ∈ l) (hy : y ∈ l) (h : x < y) : (x, y) ∈ pairsOf l := by
  induction l with
  | nil => cases hx
  | cons a l ih =>
    obtain ⟨h1, h2⟩ := List.pairwise_cons.mp hp
    rcases List.mem_cons.mp hx with e | hx'
    · rcases List.mem_cons.mp hy with e2 | hy'
      · omega
      · subst e
        exact List.mem_append_left _ (List.mem_map.mpr ⟨y, hy', rfl⟩)
    · rcases List.mem_cons.mp hy with e2 | hy'
      · have := h1 x hx'
        omega
      · exact List.mem_append_right _ (ih h2 hx' hy')
theorem pairs_nodup {l : List Int} (hp : l.Pairwise (· < ·)) : (pairsOf l).Nodup := by
  induction l with
  | nil => exact List.nodup_nil
  | cons x l ih =>
    obtain ⟨h1, h2⟩ := List.pairwise_cons.mp hp
    refine List.nodup_append.mpr ⟨?_, ih h2, fun a ha b hb z => ?_⟩
    · exact List.Pairwise.map _ (fun a b h z => h (congrArg Prod.snd z)) (lt_nodup h2)
    · subst z
      obtain ⟨y, hy, rfl⟩ := List.mem_map.mp ha
      have := h1 x (pairs_in hb).1
      omega
theorem pairs_len {l : List Int} : (pairsOf l).length = ch2 l.length := by
  induction l with
  | nil => rfl
  | cons x l ih =>
    show (l.map (fun y => (x, y)) ++ pairsOf l).length = ch2 (l.length + 1)
    rw [List.length_append, List.length_map, ih, ch2_succ]
section
variable {n : Int} {ts : List Pr}
theorem web_irr (hs : ts.Sublist (pairsOf (zTo n))) (x : Int) : adjB ts x x = false := by
  unfold adjB
  rw [decide_eq_false_iff_not]
  intro h
  have := pairs_lt (zTo_pw n) (hs.subset h)
  simp at this
theorem web_fil (hs : ts.Sublist (pairsOf (zTo n))) : (pairsOf (zTo n)).filter (fun t => decide (t ∈ ts)) = ts :=
  Eq.trans (List.filter_congr fun t _ => decide_eq_decide.mpr Iff.rfl) (sublist_filter (pairs_nodup (zTo_pw n)) hs)
theorem web_eS (hs : ts.Sublist (pairsOf (zTo n))) : eS ts (zTo n) = ts.length := by
  rw [eS_count (zTo_pw n), web_fil hs]
theorem has_no {k : Nat} (h : hasC n ts k = false) (l : List Int) (hl : l.Sublist (zTo n)) (hk : l.length = k) : crowdB ts l = false := by
  cases q : crowdB ts l with
  | false => rfl
  | true =>
    have := hasC_iff.mpr ⟨l, hl, hk, q⟩
    rw [h] at this
    cases this
/-- what a further pair makes -/
theorem full_mk {k : Nat} (h0 : hasC n ts k = false) {x y : Int} (hxy : x < y) (h : hasC n (ts ++ [(x, y)]) k = true) : ∃ l : List Int, l.Sublist (zTo n) ∧ l.length = k ∧ x ∈ l ∧ y ∈ l ∧ (∀ t ∈ pairsOf l, t ≠ (x, y) → t ∈ ts) := by
  obtain ⟨l, a, b, c⟩ := hasC_iff.mp h
  have hx : (x, y) ∈ pairsOf l := Classical.byContradiction fun z => by
    have : crowdB ts l = true := crowd_iff.mpr fun t ht => by
      rcases List.mem_append.mp (crowd_iff.mp c t ht) with q | q
      · exact q
      · rw [List.mem_singleton.mp q] at ht
        exact absurd ht z
    rw [has_no h0 l a b] at this
    cases this
  refine ⟨l, a, b, (pairs_in hx).1, (pairs_in hx).2, fun t ht hne => ?_⟩
  rcases List.mem_append.mp (crowd_iff.mp c t ht) with q | q
  · exact q
  · exact absurd (List.mem_singleton.mp q) hne
theorem full_sat (hs : ts.Sublist (pairsOf (zTo n))) {k : Nat} (h : fullB n (pairsOf (zTo n)) ts k = true) : Sat ts (zTo n) k := by
  unfold fullB at h
  simp only [Bool.and_eq_true, Bool.not_eq_true', List.all_eq_true, Bool.or_eq_true, decide_eq_true_eq] at h
  obtain ⟨h1, h2⟩ := h
  refine ⟨fun l hl hk => has_no h1 l hl hk, ?_⟩
  have key : ∀ x ∈ zTo n, ∀ y ∈ zTo n, x < y → adjB ts x y = false → ∃ q : List Int, q.Sublist (zTo n) ∧ q.length + 2 = k ∧ crowdB ts q = true ∧ x ∉ q ∧ y ∉ q ∧ ∀ z ∈ q, adjB ts x z = true ∧ adjB ts y z = true := by
    intro x hx y hy hlt hf
    rw [adj_lt hlt, decide_eq_false_iff_not] at hf
    obtain ⟨l, a, b, lx, ly, c⟩ := full_mk h1 hlt ((h2 _ (pairs_of_two (zTo_pw n) hx hy hlt)).resolve_left hf)
    have hp : l.Pairwise (· < ·) := (zTo_pw n).sublist a
    have hn := lt_nodup hp
    have hy2 : y ∈ l.erase x := (List.mem_erase_of_ne (by omega)).mpr ly
    have qs : ((l.erase x).erase y).Sublist l := List.erase_sublist.trans List.erase_sublist
    have nx : x ∉ (l.erase x).erase y := fun z => hn.not_mem_erase (List.mem_of_mem_erase z)
    have ny : y ∉ (l.erase x).erase y := (hn.sublist List.erase_sublist).not_mem_erase
    have len : ((l.erase x).erase y).length + 2 = k := by
      have l1 := List.length_erase_of_mem hy2
      have l2 := List.length_erase_of_mem lx
      have l3 := List.length_pos_of_mem lx
      have l4 := List.length_pos_of_mem hy2
      omega
    refine ⟨_, qs.trans a, len, crowd_iff.mpr fun t ht => ?_, nx, ny, fun z hz => ?_⟩
    · refine c t (pairsOf_sub qs t ht) fun e => ?_
      subst e
      exact nx (pairs_in ht).1
    · have zl : z ∈ l := qs.subset hz
      have zx : z ≠ x := fun e => nx (e ▸ hz)
      have zy : z ≠ y := fun e => ny (e ▸ hz)
      have adj : ∀ u ∈ l, u ≠ z → ((u = x ∨ u = y)) → adjB ts u z = true := fun u hu hne hw => by
        by_cases z1 : u < z
        · rw [adj_lt z1, decide_eq_true_eq]
          refine c _ (pairs_of_two hp hu zl z1) fun e => ?_
          have e2 := congrArg Prod.snd e
          have e1 := congrArg Prod.fst e
          simp at e1 e2
          omega
        · rw [adj_sym, adj_lt (by omega), decide_eq_true_eq]
          refine c _ (pairs_of_two hp zl hu (by omega)) fun e => ?_
          have e2 := congrArg Prod.snd e
          have e1 := congrArg Prod.fst e
          simp at e1 e2
          omega
      exact ⟨adj x lx (fun e => zx e.symm) (.inl rfl), adj y ly (fun e => zy e.symm) (.inr rfl)⟩
  intro x hx y hy hne hf
  by_cases z : x < y
  · exact key x hx y hy z hf
  · obtain ⟨q, q1, q2, q3, q4, q5, q6⟩ := key y hy x hx (by omega) (by rw [adj_sym]; exact hf)
    exact ⟨q, q1, q2, q3, q5, q4, fun w hw => ⟨(q6 w hw).2, (q6 w hw).1⟩⟩
theorem all_tied (hs : ts.Sublist (pairsOf (zTo n))) : (∀ t ∈ pairsOf (zTo n), t ∈ ts) ↔ ts.length = ch2 n.toNat := by
  constructor
  · intro h
    have h1 : (pairsOf (zTo n)).filter (fun t => decide (t ∈ ts)) = ts := web_fil hs
    have h2 : (pairsOf (zTo n)).filter (fun t => decide (t ∈ ts)) = pairsOf (zTo n) := List.filter_eq_self.mpr fun t ht => decide_eq_true (h t ht)
    rw [h1] at h2
    rw [h2, pairs_len, zTo_len]
  · intro h t ht
    have e : ts = pairsOf (zTo n) := hs.eq_of_length (by rw [h, pairs_len, zTo_len])
    rw [e]
    exact ht
/-- fewer people than a crowd has -/
theorem full_small (hs : ts.Sublist (pairsOf (zTo n))) (h0 : 0 ≤ n) {k : Nat} (h : n < k) : fullB n (pairsOf (zTo n)) ts k = decide (ts.length = ch2 n.toNat) := by
  rw [Bool.eq_iff_iff, decide_eq_true_eq, ← all_tied hs]
  unfold fullB
  rw [hasC_big h0 h]
  simp only [Bool.not_false, Bool.true_and, List.all_eq_true, Bool.or_eq_true, decide_eq_true_eq]
  constructor
  · intro q t ht
    rcases q t ht with z | z
    · exact z
    · rw [hasC_big h0 h] at z
      cases z
  · exact fun q t ht => .inl (q t ht)
theorem full_no {ps : List Pr} {k : Nat} (h : fullB n ps ts k = true) : hasC n ts k = false := by
  unfold fullB at h
  cases q : hasC n ts k with
  | false => rfl
  | true => rw [q] at h; cases h
/-- all tied: all are a crowd -/
theorem all_crowd (h : ∀ t ∈ pairsOf (zTo n), t ∈ ts) : hasC n ts n.toNat = true := hasC_iff.mpr ⟨zTo n, List.Sublist.refl _, zTo_len n, crowd_iff.mpr h⟩
/-- a full web has a crowd of one less -/
theorem full_less (hs : ts.Sublist (pairsOf (zTo n))) {k : Nat} (h : fullB n (pairsOf (zTo n)) ts k = true) (hk : k ≤ n.toNat) : hasC n ts (k - 1) = true := by
  have h1 := full_no h
  have hex : ∃ t ∈ pairsOf (zTo n), t ∉ ts := Classical.byContradiction fun z => by
    have := all_crowd (n := n) (ts := ts) fun t ht => Classical.byContradiction fun q => z ⟨t, ht, q⟩
    rw [hasC_less hk this] at h1
    cases h1
  obtain ⟨t, ht, hn⟩ := hex
  unfold fullB at h
  simp only [Bool.and_eq_true, Bool.not_eq_true', List.all_eq_true, Bool.or_eq_true, decide_eq_true_eq] at h
  obtain ⟨l, a, b, lx, ly, c⟩ := full_mk (x := t.1) (y := t.2) h1 (pairs_lt (zTo_pw n) ht) ((h.2 t ht).resolve_left hn)
  have hnd := lt_nodup ((zTo_pw n).sublist a)
  refine hasC_iff.mpr ⟨l.erase t.1, List.erase_sublist.trans a, by rw [List.length_erase_of_mem lx, b], crowd_iff.mpr fun u hu => c u (pairsOf_sub List.erase_sublist u hu) fun e => ?_⟩
  subst e
  exact hnd.not_mem_erase (pairs_in hu).1
theorem full_one (hs : ts.Sublist (pairsOf (zTo n))) {k m : Nat} (hk : fullB n (pairsOf (zTo n)) ts k = true) (hm : fullB n (pairsOf (zTo n)) ts m = true) (h : k < m) (hn : m ≤ n.toNat) : False := by
  have h1 := full_less hs hm hn
  have h2 := full_no hk
  rw [hasC_less (show k ≤ m - 1 by omega) h1] at h2
  cases h2
theorem full_few (hs : ts.Sublist (pairsOf (zTo n))) (h6 : n ≤ 6) {k : Nat} (hk : 3 ≤ k) (hn : k ≤ n.toNat + 1) (h : fullB n (pairsOf (zTo n)) ts k = true) : (k - 2) * (n.toNat + 2 - k) + ch2 (k - 2) ≤ ts.length := by
  by_cases hz : k ≤ n.toNat
  · have e := ehm (V := zTo n) (n := n.toNat) (web_irr hs) (zTo_pw n) (zTo_len n) hk hz (by omega) (full_sat hs h)
    rw [web_eS hs] at e
    rw [show n.toNat + 2 - k = n.toNat - k + 2 by omega]
    exact e
  · have hk1 : k = n.toNat + 1 := by omega
    have e := full_small hs (by omega) (k := k) (by omega)
    rw [h] at e
    have e2 := of_decide_eq_true e.symm
    rw [e2, hk1]
    have : ∀ n ∈ [2, 3, 4, 5, 6], (n + 1 - 2) * (n + 2 - (n + 1)) + ch2 (n + 1 - 2) ≤ ch2 n := by decide +kernel
    exact this n.toNat (by simp; omega)
theorem no_tur (hs : ts.Sublist (pairsOf (zTo n))) (h6 : n ≤ 6) {r : Nat} (hr : 2 ≤ r) (h : hasC n ts (r + 1) = false) : ts.length ≤ turN n.toNat r := by
  have := turan (web_irr hs) hr n.toNat (zTo n) (zTo_len n) (by omega) (zTo_pw n) fun l hl hk => has_no h l hl hk
  rw [web_eS hs] at this
  exact this
/-- as many as can be: full -/
theorem tur_full (hs : ts.Sublist (pairsOf (zTo n))) (h6 : n ≤ 6) {r : Nat} (hr : 2 ≤ r) (h : hasC n ts (r + 1) = false) (hm : ts.length = turN n.toNat r) : fullB n (pairsOf (zTo n)) ts (r + 1) = true := by
  unfold fullB
  simp only [Bool.and_eq_true, Bool.not_eq_true', List.all_eq_true, Bool.or_eq_true, decide_eq_true_eq]
  refine ⟨h, fun t ht => ?_⟩
  by_cases hz : t ∈ ts
  · exact .inl hz
  · refine .inr ?_
    cases q : hasC n (ts ++ [t]) (r + 1) with
    | true => rfl
    | false =>
      exfalso
      -- the web with it, in order
      have hs2 : ((pairsOf (zTo n)).filter fun u => decide (u ∈ ts ++ [t])).Sublist (pairsOf (zTo n)) := List.filter_sublist
      have hm2 : ∀ u, u ∈ (pairsOf (zTo n)).filter (fun u => decide (u ∈ ts ++ [t])) ↔ u ∈ ts ++ [t] := fun u => by
        rw [List.mem_filter, decide_eq_true_eq]
        refine ⟨fun z => z.2, fun z => ⟨?_, z⟩⟩
        rcases List.mem_append.mp z with y | y
        · exact hs.subset y
        · rw [List.mem_singleton.mp y]
          exact ht
      rw [← hasC_congr hm2] at q
      have l1 := no_tur hs2 h6 hr q
      have nd : (ts ++ [t]).Nodup := List.nodup_append.mpr ⟨(pairs_nodup (zTo_pw n)).sublist hs, List.pairwise_singleton _ _, fun a ha b hb e => by
        rw [List.mem_singleton.mp hb] at e
        exact hz (e ▸ ha)⟩
      have pe : ((pairsOf (zTo n)).filter fun u => decide (u ∈ ts ++ [t])).Perm (ts ++ [t]) := (List.perm_ext_iff_of_nodup ((pairs_nodup (zTo_pw n)).sublist hs2) nd).mpr hm2
      rw [pe.length_eq, List.length_append, hm] at l1
      simp at l1
      omega
end
end PL
end S_CRV

section S_CRF
namespace PL
open PySem PySem.Spec PyProof.Rows L2
/-! ### sorted numbers -/
theorem okSrt_ints {ns : List Int} (h : ns.length ≤ 16777216) : okSrt (ns.map .int) = true := by
  unfold okSrt
  simp [List.all_map, Function.comp_def, alike_ints2, isTupB, isNonB, PyData.depth, size16 h]
def inLe (a b : Int) : Bool := decide (a ≤ b)
theorem le_ints (a b : Int) : PySem.W.dataLe false (fun d => d) (.int a) (.int b) = inLe a b := by
  show (!PySem.W.dataLt (.int b) (.int a)) = _
  rw [PySem.W.dataLt_int]
  unfold inLe
  by_cases h : b < a
  · rw [decide_eq_true h, decide_eq_false (by omega)]
    rfl
  · rw [decide_eq_false h, decide_eq_true (by omega)]
    rfl
theorem srtL_ints (ns : List Int) : srtL (ns.map .int) = (ns.mergeSort inLe).map .int := (srtL_merge _).trans <|
  (PySem.W.sort_maps (r := inLe) (s := PySem.W.dataLe false fun d => d) PyData.int fun a _ b _ => (le_ints a b).symm).symm
theorem sort_ints_eq {ns us : List Int} (hp : us.Perm ns) (hs : us.Pairwise (· ≤ ·)) : ns.mergeSort inLe = us := by
  have h1 : (ns.mergeSort inLe).Pairwise fun a b => inLe a b = true := List.pairwise_mergeSort (le := inLe) (fun a b c x y => by
    unfold inLe at *
    simp at *
    omega) (fun a b => by
    unfold inLe
    simp
    omega) ns
  refine List.Perm.eq_of_pairwise (le := fun a b => a ≤ b) (fun a b _ _ x y => by omega) (h1.imp fun {a b} q => by
    unfold inLe at q
    simpa using q) hs ((List.mergeSort_perm ns inLe).trans hp.symm)
theorem sort_ints_L {ns us : List Int} (h : ns.length ≤ 16777216) (hp : us.Perm ns) (hs : us.Pairwise (· ≤ ·)) : sortD [.list (ns.map .int)] = some (us.map .int) := by
  show (if okSrt (ns.map .int) then some (srtL (ns.map .int)) else none) = _
  rw [if_pos (okSrt_ints h), srtL_ints, sort_ints_eq hp hs]
theorem sort_ints_T {ns us : List Int} (h : ns.length ≤ 16777216) (hp : us.Perm ns) (hs : us.Pairwise (· ≤ ·)) : sortD [.tuple (ns.map .int)] = some (us.map .int) := sort_ints_L h hp hs
/-! ### common friends, counted twice -/
theorem filter_pairs (p : Int → Bool) : ∀ l : List Int, (pairsOf l).filter (fun t => p t.1 && p t.2) = pairsOf (l.filter p)
  | [] => rfl
  | x :: l => by
    show (l.map (fun y => (x, y)) ++ pairsOf l).filter _ = _
    rw [List.filter_append, filter_pairs p l, List.filter_map]
    by_cases h : p x = true
    · rw [List.filter_cons_of_pos h]
      show _ = (l.filter p).map (fun y => (x, y)) ++ _
      congr 2
      refine List.filter_congr fun y _ => ?_
      show (p x && p y) = p y
      rw [h, Bool.true_and]
    · rw [List.filter_cons_of_neg h]
      have : l.filter ((fun t : Pr => p t.1 && p t.2) ∘ fun y => (x, y)) = [] := List.filter_eq_nil_iff.mpr fun y _ => by
        show ¬ (p x && p y) = true
        simp [h]
      rw [this]
      rfl
theorem sum_swap {α β : Type} (P : α → β → Bool) (B : List β) : ∀ A : List α, (A.map fun a => (B.filter (P a)).length).sum = (B.map fun b => (A.filter fun a => P a b).length).sum
  | [] => by
    show 0 = (B.map fun _ => 0).sum
    induction B with
    | nil => rfl
    | cons b B ih => rw [List.map_cons, List.sum_cons, ← ih, Nat.add_zero]
  | a :: A => by
    rw [List.map_cons, List.sum_cons, sum_swap P B A]
    have e : (B.map fun b => ((a :: A).filter fun a => P a b).length) = B.map fun b => (if P a b then 1 else 0) + (A.filter fun a => P a b).length := List.map_congr_left fun b _ => by
      by_cases h : P a b = true
      · rw [List.filter_cons_of_pos (p := fun a => P a b) h, if_pos h, List.length_cons]
        omega
      · rw [List.filter_cons_of_neg (p := fun a => P a b) h, if_neg h]
        omega
    rw [e, sum_add, sum_ind]
def comS (ts : List Pr) (V : List Int) (a b : Int) : Nat := (V.filter fun v => adjB ts a v && adjB ts b v).length
theorem com_sym (ts : List Pr) (V : List Int) (a b : Int) : comS ts V a b = comS ts V b a := by
  unfold comS
  congr 2
  funext v
  rw [Bool.and_comm]
theorem two_count (ts : List Pr) (V S : List Int) : ((pairsOf S).map fun t => comS ts V t.1 t.2).sum = (V.map fun v => ch2 (degS ts S v)).sum := by
  unfold comS
  rw [sum_swap (fun (t : Pr) v => adjB ts t.1 v && adjB ts t.2 v) V (pairsOf S)]
  congr 1
  refine List.map_congr_left fun v _ => ?_
  have : ((pairsOf S).filter fun a => adjB ts a.1 v && adjB ts a.2 v) = (pairsOf S).filter fun a => adjB ts v a.1 && adjB ts v a.2 := List.filter_congr fun a _ => by rw [adj_sym ts a.1, adj_sym ts a.2]
  rw [this, filter_pairs (adjB ts v), pairs_len]
  rfl
section
variable {ts : List Pr} {V : List Int} (irr : ∀ x, adjB ts x x = false)
include irr
theorem deg_self {v : Int} : degS ts [v] v = 0 := by
  unfold degS
  rw [List.filter_cons_of_neg (by rw [irr]; decide)]
  rfl
theorem deg_lt {v : Int} (hv : v ∈ V) : degS ts V v + 1 ≤ V.length := by
  unfold degS
  have := List.length_filter_lt_length_iff_exists (l := V) (p := adjB ts v) |>.mpr ⟨v, hv, by rw [irr]; decide⟩
  omega
theorem com_le {a b : Int} : comS ts V a b ≤ degS ts V a := by
  unfold comS degS
  rw [show (V.filter fun v => adjB ts a v && adjB ts b v) = (V.filter (adjB ts a)).filter fun v => adjB ts b v from by
    rw [List.filter_filter]
    refine List.filter_congr fun v _ => Bool.and_comm ..]
  exact List.length_filter_le _ _
/-- each two have one common friend: friends go in pairs -/
theorem wind_even (one : ∀ a ∈ V, ∀ b ∈ V, a ≠ b → comS ts V a b = 1) {v : Int} (hv : v ∈ V) : ∃ k, degS ts V v = 2 * k := by
  have h1 : ∀ u ∈ V.filter (adjB ts v), degS ts (V.filter (adjB ts v)) u = 1 := fun u hu => by
    obtain ⟨u1, u2⟩ := List.mem_filter.mp hu
    have hne : v ≠ u := fun e => by
      rw [e, irr] at u2
      cases u2
    have := one v hv u u1 hne
    unfold degS
    unfold comS at this
    rw [List.filter_filter]
    rw [← this]
    congr 1
    exact List.filter_congr fun z _ => Bool.and_comm ..
  have h2 := shake irr (V.filter (adjB ts v))
  have h3 : (V.filter (adjB ts v)).map (degS ts (V.filter (adjB ts v))) = (V.filter (adjB ts v)).map fun _ => 1 := List.map_congr_left h1
  rw [h3] at h2
  have h4 : ((V.filter (adjB ts v)).map fun _ => 1).sum = (V.filter (adjB ts v)).length := by
    have := sum_ind (fun _ : Int => true) (V.filter (adjB ts v))
    simpa using this
  exact ⟨_, by unfold degS; rw [← h4, h2]⟩
end
def allOf (xs : List Nat) : Nat → List (List Nat)
  | 0 => [[]]
  | k + 1 => (allOf xs k).flatMap fun l => xs.map (· :: l)
theorem allOf_mem {xs : List Nat} : ∀ {l : List Nat}, (∀ x ∈ l, x ∈ xs) → l ∈ allOf xs l.length
  | [], _ => by simp [allOf]
  | x :: l, h => by
    have ih := allOf_mem (xs := xs) (l := l) fun y hy => h y (List.mem_cons_of_mem _ hy)
    show x :: l ∈ (allOf xs l.length).flatMap fun l => xs.map (· :: l)
    exact List.mem_flatMap.mpr ⟨l, ih, List.mem_map.mpr ⟨x, h x (by simp), rfl⟩⟩
theorem wind_fin : ∀ n ∈ [2, 3, 4, 5, 6], ∀ ds ∈ allOf [2, 4] n, ds.all (fun d => decide (d + 1 ≤ n)) = true → (ds.map ch2).sum = ch2 n → n % 2 = 1 ∧ n - 1 ∈ ds ∧ (List.replicate (n - 1) 2 ++ [n - 1]).isPerm ds = true := by decide +kernel
/-- webs in which each two have one common friend -/
theorem wind_web {n : Nat} (h1 : 2 ≤ n) (h2 : n ≤ 6) {ts : List Pr} {V : List Int} (irr : ∀ x, adjB ts x x = false) (hV : V.Pairwise (· < ·)) (hl : V.length = n) (one : ∀ a ∈ V, ∀ b ∈ V, a ≠ b → comS ts V a b = 1) :
    n % 2 = 1 ∧ n - 1 ∈ V.map (degS ts V) ∧ (List.replicate (n - 1) 2 ++ [n - 1]).Perm (V.map (degS ts V)) := by
  have hin : ∀ d ∈ V.map (degS ts V), d ∈ [2, 4] ∧ d + 1 ≤ n := fun d hd => by
    obtain ⟨v, hv, rfl⟩ := List.mem_map.mp hd
    obtain ⟨k, hk⟩ := wind_even irr one hv
    have lt := deg_lt irr hv
    obtain ⟨u, hu, hne⟩ : ∃ u ∈ V, v ≠ u := Classical.byContradiction fun z => by
      have h3 : ∀ w ∈ V, w ∈ [v] := fun w hw => Classical.byContradiction fun q => z ⟨w, hw, fun e => q (by rw [e]; simp)⟩
      have := sub_len (lt_nodup hV) h3
      simp at this
      omega
    have c := one v hv u hu hne
    have := com_le irr (V := V) (a := v) (b := u)
    simp
    omega
  have hm : V.map (degS ts V) ∈ allOf [2, 4] n := by
    have := allOf_mem (l := V.map (degS ts V)) fun x hx => (hin x hx).1
    rwa [List.length_map, hl] at this
  have hs := two_count ts V V
  have e1 : (pairsOf V).map (fun t => comS ts V t.1 t.2) = (pairsOf V).map fun _ => 1 := List.map_congr_left fun t ht => one _ (pairs_in ht).1 _ (pairs_in ht).2 (by have := pairs_lt hV ht; omega)
  have e2 : ((pairsOf V).map fun _ => 1).sum = (pairsOf V).length := by
    have := sum_ind (fun _ : Pr => true) (pairsOf V)
    rw [filter_true] at this
    simpa using this
  rw [e1, e2, pairs_len, hl] at hs
  have hs2 : ((V.map (degS ts V)).map ch2).sum = ch2 n := by
    rw [List.map_map]
    exact hs.symm
  obtain ⟨a, b, c⟩ := wind_fin n (by simp; omega) _ hm (by
    rw [List.all_eq_true]
    exact fun d hd => decide_eq_true (hin d hd).2) hs2
  exact ⟨a, b, List.isPerm_iff.mp c⟩
end PL
end S_CRF

section S_CRG
namespace PL
open PySem PySem.Spec PyProof.Rows L2
/-! ### the rest of a web: friends, common friends -/
theorem count_at {q : Int → Bool} {a : Int} : ∀ {V : List Int}, V.Nodup → a ∈ V → (V.filter fun v => decide (v = a) && q v).length = if q a then 1 else 0
  | [], _, h => by cases h
  | x :: V, hn, h => by
    obtain ⟨h1, h2⟩ := List.nodup_cons.mp hn
    by_cases e : x = a
    · subst e
      have : V.filter (fun v => decide (v = x) && q v) = [] := List.filter_eq_nil_iff.mpr fun v hv => by
        have : v ≠ x := fun z => h1 (z ▸ hv)
        simp [this]
      by_cases hq : q x = true
      · rw [List.filter_cons_of_pos (by simp [hq]), this, if_pos hq]
        rfl
      · rw [List.filter_cons_of_neg (by simp [hq]), this, if_neg hq]
        rfl
    · rw [List.filter_cons_of_neg (by simp [e])]
      rcases List.mem_cons.mp h with z | z
      · exact absurd z.symm e
      · exact count_at h2 z
theorem count_one {a : Int} {V : List Int} (hn : V.Nodup) (h : a ∈ V) : (V.filter fun v => decide (v = a)).length = 1 := by
  have := count_at (q := fun _ => true) hn h
  simpa using this
theorem count_all {V : List Int} : (V.map fun _ => 1).sum = V.length := by
  have := sum_ind (fun _ : Int => true) V
  rw [filter_true] at this
  simpa using this
section
variable {ts R : List Pr} {V : List Int} (irr : ∀ x, adjB ts x x = false) (irR : ∀ x, adjB R x x = false) (hn : V.Nodup) (comp : ∀ x ∈ V, ∀ y ∈ V, x ≠ y → adjB R x y = !adjB ts x y)
include irr irR hn comp
theorem rest_deg {a : Int} (ha : a ∈ V) : degS R V a + degS ts V a + 1 = V.length := by
  have key : degS R V a + degS ts V a + (V.filter fun v => decide (v = a)).length = (V.map fun _ => 1).sum := by
   unfold degS
   simp only [← sum_ind, ← sum_add]
   congr 1
   refine List.map_congr_left fun v hv => ?_
   by_cases e : v = a
   · subst e
     rw [irr, irR]
     simp
   · rw [comp a ha v hv (fun z => e z.symm)]
     cases adjB ts a v <;> simp [e]
  rw [count_one hn ha, count_all] at key
  exact key
theorem rest_com {a b : Int} (ha : a ∈ V) (hb : b ∈ V) (hne : a ≠ b) : comS R V a b + degS ts V a + degS ts V b + 2 = V.length + comS ts V a b + (if adjB ts a b then 2 else 0) := by
  have e1 := count_at (q := fun v => adjB ts b v) hn ha
  have e2 := count_at (q := fun v => adjB ts a v) hn hb
  have key : comS R V a b + degS ts V a + degS ts V b + (V.filter fun v => decide (v = a)).length + (V.filter fun v => decide (v = b)).length
      = (V.map fun _ => 1).sum + comS ts V a b + (V.filter fun v => decide (v = a) && adjB ts b v).length + (V.filter fun v => decide (v = b) && adjB ts a v).length := by
    unfold comS degS
    simp only [← sum_ind, ← sum_add]
    congr 1
    refine List.map_congr_left fun v hv => ?_
    by_cases z1 : v = a
    · subst z1
      rw [irr, irR]
      cases adjB ts b v <;> simp [hne]
    · by_cases z2 : v = b
      · subst z2
        rw [irr, irR]
        cases adjB ts a v <;> simp [z1]
      · rw [comp a ha v hv (fun z => z1 z.symm), comp b hb v hv (fun z => z2 z.symm)]
        cases adjB ts a v <;> cases adjB ts b v <;> simp [z1, z2]
  rw [count_one hn ha, count_one hn hb, count_all, e1, e2, adj_sym ts b a] at key
  cases h : adjB ts a b with
  | true =>
    rw [h] at key
    simp at key ⊢
    omega
  | false =>
    rw [h] at key
    simp at key ⊢
    omega
end
theorem sset_le {ns : List Int} : (sset ns).length ≤ 1 ↔ ∀ x ∈ ns, ∀ y ∈ ns, x = y := by
  constructor
  · intro h x hx y hy
    have h1 := sset_mem.mpr hx
    have h2 := sset_mem.mpr hy
    match q : sset ns, h, h1, h2 with
    | [], _, h1, _ => cases h1
    | [z], _, h1, h2 => rw [List.mem_singleton.mp h1, List.mem_singleton.mp h2]
    | _ :: _ :: _, h, _, _ => exact absurd h (by simp)
  · intro h
    have hp : (sset ns).Nodup := lt_nodup sset_pw
    match q : sset ns with
    | [] => exact Nat.zero_le _
    | [_] => exact Nat.le_refl _
    | a :: b :: l =>
      exfalso
      rw [q] at hp
      have ha : a ∈ ns := sset_mem.mp (by rw [q]; simp)
      have hb : b ∈ ns := sset_mem.mp (by rw [q]; simp)
      have := h a ha b hb
      subst this
      simp at hp
end PL
end S_CRG

section S_CRH
namespace PL
open PySem PySem.Spec PyProof.Rows L2
/-! ### sorted data, known by what it holds -/
def dle (a b : D) : Bool := PySem.W.dataLe false (fun d => d) a b
theorem dle_tot (a b : D) : dle a b = true ∨ dle b a = true := (PySem.W.sortLe_total _ false _).total a b
theorem srt_pw (ns : List D) : (srtL ns).Pairwise fun a b => dle a b = true := srtL_pw ns
theorem pw_three {α : Type} {R : α → α → Prop} : ∀ {l : List α}, l.Pairwise R → ∀ a ∈ l, ∀ b ∈ l, a = b ∨ R a b ∨ R b a
  | [], _, a, h, _, _ => by cases h
  | x :: l, h, a, ha, b, hb => by
    obtain ⟨h1, h2⟩ := List.pairwise_cons.mp h
    rcases List.mem_cons.mp ha with rfl | ha'
    · rcases List.mem_cons.mp hb with rfl | hb'
      · exact .inl rfl
      · exact .inr (.inl (h1 b hb'))
    · rcases List.mem_cons.mp hb with rfl | hb'
      · exact .inr (.inr (h1 a ha'))
      · exact pw_three h2 a ha' b hb'
theorem srt_is {us ns : List D} (hp : us.Perm ns) (hs : us.Pairwise fun a b => dle b a = false) : srtL ns = us := by
  have hs2 : us.Pairwise fun a b => dle a b = true := hs.imp fun {a b} h => (dle_tot a b).resolve_right (by rw [h]; decide)
  refine List.Perm.eq_of_pairwise (le := fun a b => dle a b = true) (fun a b ha hb h1 h2 => ?_) (srt_pw ns) hs2 ((srtL_perm ns).trans hp.symm)
  have ha' : a ∈ us := (((srtL_perm ns).trans hp.symm).mem_iff).mp ha
  rcases pw_three hs a ha' b hb with e | e | e
  · exact e
  · rw [e] at h2; cases h2
  · rw [e] at h1; cases h1
theorem sort_isD {us ns : List D} (ok : okSrt ns = true) (hp : us.Perm ns) (hs : us.Pairwise fun a b => dle b a = false) : sortD [.list ns] = some us := by
  show (if okSrt ns then some (srtL ns) else none) = _
  rw [if_pos ok, srt_is hp hs]
/-- .. of things that are laid as data -/
theorem sort_isM {α : Type} (f : α → D) {us ns : List α} (ok : okSrt (ns.map f) = true) (hp : us.Perm ns) (hs : us.Pairwise fun a b => dle (f b) (f a) = false) : sortD [.list (ns.map f)] = some (us.map f) :=
  sort_isD ok (hp.map f) (List.pairwise_map.mpr hs)
def lotI (l : List Int) : D := .tuple (l.map .int)
/-- all lots of so many, as they are made -/
def madeL : Nat → List (List Int)
  | 0 => [[]]
  | k + 1 => madeL k ++ (madeL k).map (· ++ [(k : Int)])
end PL
end S_CRH

section S_G
set_option maxHeartbeats 0
namespace law_k63_whole_means_of_crowds
open PySem PySem.Spec PyProof.Rows L2 PL
def topS (i : Nat) : Stmt := PySem.Challenge.pw_tiesenough_k63_whole_means_of_crowds.main.body.getD i (.Pass ⟨0, 0, 0, 0⟩)
structure MG (mg : PySem.Str → Option Value) : Prop where
  b_abs : mg "abs" = none
  b_all : mg "all" = none
  b_bool : mg "bool" = none
  b_divmod : mg "divmod" = none
  b_int : mg "int" = none
  b_isinstance : mg "isinstance" = none
  b_len : mg "len" = none
  b_list : mg "list" = none
  b_max : mg "max" = none
  b_min : mg "min" = none
  b_range : mg "range" = none
  b_repr : mg "repr" = none
  b_sorted : mg "sorted" = none
  b_sum : mg "sum" = none
  c_MOST_COUNTED : ∃ t, mg "MOST_COUNTED" = some (.int 5 t)
  c_MOST_CROWD : ∃ t, mg "MOST_CROWD" = some (.int 6 t)
  c_MOST_PEOPLE : ∃ t, mg "MOST_PEOPLE" = some (.int 99 t)
  i_comb : mg "comb" = some (.builtin "math.comb")
  i_combinations : mg "combinations" = some (.type "itertools.combinations")
  i_gcd : mg "gcd" = some (.builtin "math.gcd")
  i_permutations : mg "permutations" = some (.type "itertools.permutations")
  triv : True
/-! ### _law_bag -/
abbrev s__law_bag : Stmt := topS 27
abbrev ps__law_bag : List PySem.Str := ["script", "lap"]
abbrev N__law_bag : List PySem.Str := ["script", "lap", "stirred", "cell", "own"]
theorem sc__law_bag : FnScope N__law_bag ps__law_bag (defScope s__law_bag) := ⟨rfl, rfl, rfl, by decide +kernel, rfl, by decide +kernel, by decide +kernel⟩
def bm__law_bag : Cm Fl := (seqM (setM 2 (o2 (ret (.int 52027)) (o2 (ret (.int 8009)) (rdV 1) mulD) addD)) (seqM (forM (itM (slM (rdV 0) ptN (ptS (ret (.int 16))))) (stD 3) (setM 2 (o2 (caM (argC (o2 (o2 (o2 (rdV 2) (ret (.int 48271)) mulD) (o2 (caM (argC (rdV 3) argN) intD) (ret (.int 2147483629)) modD) addD) (ret (.int 23)) addD) argN) intD) (ret (.int 2147483647)) modD))) (seqM (setM 4 (ite3 (tru (o2 (rdV 1) (caM (argC (rdV 0) argN) lenD) ltD)) (caM (argC (o2 (rdV 0) (rdV 1) ixD) argN) intD) (ret (.int 0)))) (seqM (setM 2 (o2 (caM (argC (o2 (o2 (o2 (rdV 2) (ret (.int 31)) mulD) (o2 (o2 (caM (argC (rdV 4) argN) intD) (ret (.int 2147483629)) modD) (ret (.int 17)) mulD) addD) (ret (.int 3)) addD) argN) intD) (ret (.int 2147483647)) modD)) (retO (lstM (argC (ite3 (ors (tru (o2 (rdV 4) (ret (.int 0)) ltD)) (tru (o2 (rdV 4) (o2 (ret (.int 10)) (ret (.int 15)) powD) geD))) (caM (argC (rdV 4) argN) absD) (ret (.int 0))) (argC (rdV 2) (argC (ret (.int 0)) argN)))))))))
def fm__law_bag : Fm := fnM 5 bm__law_bag
theorem df__law_bag {P : Program} {w : World} {K : PySem.W.Frag} {mg : PySem.Str → Option Value} {base : Heap} {tabs : List (Addr × PySem.Str)} {f : Addr} {fd : FuncData} (M : MG mg) (F : Fun K "_law_bag" "_law_bag" s__law_bag f fd) (hm : mg "_law_bag" = some (.ref f)) : Df P w K mg base tabs 1 "_law_bag" s__law_bag ps__law_bag fm__law_bag :=
  ⟨f, fd, F, fun_okG F sc__law_bag (fun cdv A outer s H E hr hgd => (dss_cons (sT 2 sc__law_bag.nd (de_add de_int (de_mul de_int (dv 1)))) (dss_cons (ds_for (vs := [3]) (passes_of rfl) rfl (di_any (de_slice (dv 0) do_none (do_some de_int))) (tgN 3 sc__law_bag.nd) (dss_one (sT 2 sc__law_bag.nd (de_mod (b_int M.b_int (de_add (de_add (de_mul (dv 2) de_int) (de_mod (b_int M.b_int (dv 3)) de_int)) de_int)) de_int)))) (dss_cons (sT 4 sc__law_bag.nd (de_if (dt_lt hr (dv 1) (b_len M.b_len (dv 0))) (b_int M.b_int (de_ix (dv 0) (dv 1))) de_int)) (dss_cons (sT 2 sc__law_bag.nd (de_mod (b_int M.b_int (de_add (de_add (de_mul (dv 2) de_int) (de_mul (de_mod (b_int M.b_int (dv 4)) de_int) de_int)) de_int)) de_int)) (dss_one (ds_retO (oe_lst (da_cons (de_if (dt_of (dw_or (dt_lt hr (dv 4) de_int) (dw_or1 (dt_ge hr (dv 4) (de_pow de_int de_int))))) (b_abs M.b_abs (dv 4)) de_int) (da_cons (dv 2) (da_cons de_int da_nil))))))))))), hm, F.binds fun _ _ _ _ _ _ us hl => match us, hl with | [_, _], _ => rfl⟩
/-! ### _law_take -/
abbrev s__law_take : Stmt := topS 28
abbrev ps__law_take : List PySem.Str := ["bag", "top"]
abbrev N__law_take : List PySem.Str := ["bag", "top", "digit"]
theorem sc__law_take : FnScope N__law_take ps__law_take (defScope s__law_take) := ⟨rfl, rfl, rfl, by decide +kernel, rfl, by decide +kernel, by decide +kernel⟩
def bm__law_take : Cm Fl := (seqM (ite3 (tru (o2 (oL 0 (ret (.int 0)) ixD) (ret (.int 0)) gtD)) (seqM (asgM (caM (argC (oL 0 (ret (.int 0)) ixD) (argC (rdV 1) argN)) divmodD) (gTupM 2 (gConsM (gSubM 0 (ret (.int 0))) (gConsM (stD 2) gNilM)))) (retM (rdV 2))) nextM) (seqM (asgM (o2 (oL 0 (ret (.int 2)) ixD) (ret (.int 1)) addD) (gSubM 0 (ret (.int 2)))) (seqM (asgM (o2 (caM (argC (o2 (o2 (o2 (oL 0 (ret (.int 1)) ixD) (ret (.int 16807)) mulD) (o2 (ret (.int 4099)) (oL 0 (ret (.int 2)) ixD) mulD) addD) (ret (.int 1)) addD) argN) intD) (ret (.int 2147483647)) modD) (gSubM 0 (ret (.int 1)))) (retM (o2 (caM (argC (o2 (oL 0 (ret (.int 1)) ixD) (ret (.int 911)) fdivD) argN) intD) (rdV 1) modD)))))
def fm__law_take : Fm := fnM 3 bm__law_take
theorem df__law_take {P : Program} {w : World} {K : PySem.W.Frag} {mg : PySem.Str → Option Value} {base : Heap} {tabs : List (Addr × PySem.Str)} {f : Addr} {fd : FuncData} (M : MG mg) (F : Fun K "_law_take" "_law_take" s__law_take f fd) (hm : mg "_law_take" = some (.ref f)) : Df P w K mg base tabs 1 "_law_take" s__law_take ps__law_take fm__law_take :=
  ⟨f, fd, F, fun_okG F sc__law_take (fun cdv A outer s H E hr hgd => (dss_cons (ds_if (dt_gt hr (dixL 0 de_int) de_int) (dss_cons (ds_asg (vs := [2]) (b_divmod M.b_divmod (dixL 0 de_int) (dv 1)) (dg_tup (n := 2) rfl (dgs_cons (tgS 0 de_int) (dgs_cons (tgN 2 sc__law_take.nd) dgs_nil)))) (dss_one (ds_ret (dv 2)))) dss_nil) (dss_cons (ds_asg (vs := []) (de_add (dixL 0 de_int) de_int) (tgS 0 de_int)) (dss_cons (ds_asg (vs := []) (de_mod (b_int M.b_int (de_add (de_add (de_mul (dixL 0 de_int) de_int) (de_mul de_int (dixL 0 de_int))) de_int)) de_int) (tgS 0 de_int)) (dss_one (ds_ret (de_mod (b_int M.b_int (de_fdiv (dixL 0 de_int) de_int)) (dv 1)))))))), hm, F.binds fun _ _ _ _ _ _ us hl => match us, hl with | [_, _], _ => rfl⟩
/-! ### _law_pull -/
abbrev s__law_pull : Stmt := topS 29
abbrev ps__law_pull : List PySem.Str := ["bag", "some"]
abbrev N__law_pull : List PySem.Str := ["bag", "some"]
theorem sc__law_pull : FnScope N__law_pull ps__law_pull (defScope s__law_pull) := ⟨rfl, rfl, rfl, by decide +kernel, rfl, by decide +kernel, by decide +kernel⟩
def bm__law_pull : Cm Fl := (retM (o2 (rdV 1) (asD (callB ps__law_take.length fm__law_take 0 (argC (caM (argC (rdV 1) argN) lenD) argN))) ixD))
def fm__law_pull : Fm := fnM 2 bm__law_pull
theorem df__law_pull {P : Program} {w : World} {K : PySem.W.Frag} {mg : PySem.Str → Option Value} {base : Heap} {tabs : List (Addr × PySem.Str)} {f : Addr} {fd : FuncData} (M : MG mg) (D__law_take : Df P w K mg base tabs 1 "_law_take" s__law_take ps__law_take fm__law_take) (F : Fun K "_law_pull" "_law_pull" s__law_pull f fd) (hm : mg "_law_pull" = some (.ref f)) : Df P w K mg base tabs 2 "_law_pull" s__law_pull ps__law_pull fm__law_pull :=
  ⟨f, fd, F, fun_okG F sc__law_pull (fun cdv A outer s H E hr hgd => (dss_one (ds_ret (de_ix (dv 1) (de_asD (vcB 0 D__law_take (hr.mono (by decide)) hgd (da_cons (b_len M.b_len (dv 1)) da_nil))))))), hm, F.binds fun _ _ _ _ _ _ us hl => match us, hl with | [_, _], _ => rfl⟩
/-! ### _law_lowest -/
abbrev s__law_lowest : Stmt := topS 33
abbrev ps__law_lowest : List PySem.Str := ["top", "low"]
abbrev N__law_lowest : List PySem.Str := ["top", "low", "one", "two"]
theorem sc__law_lowest : FnScope N__law_lowest ps__law_lowest (defScope s__law_lowest) := ⟨rfl, rfl, rfl, by decide +kernel, rfl, by decide +kernel, by decide +kernel⟩
def bm__law_lowest : Cm Fl := (seqM (parM 2 3 (argC (rdV 0) (argC (rdV 1) argN))) (seqM (whileL (tru (o2 (rdV 3) (ret (.int 0)) gtD)) (parM 2 3 (argC (rdV 3) (argC (o2 (caM (argC (rdV 2) argN) intD) (rdV 3) modD) argN))) fuel) (retM (tupM (argC (o2 (rdV 0) (rdV 2) fdivD) (argC (o2 (rdV 1) (rdV 2) fdivD) argN))))))
def fm__law_lowest : Fm := fnM 4 bm__law_lowest
theorem df__law_lowest {P : Program} {w : World} {K : PySem.W.Frag} {mg : PySem.Str → Option Value} {base : Heap} {tabs : List (Addr × PySem.Str)} {f : Addr} {fd : FuncData} (M : MG mg) (F : Fun K "_law_lowest" "_law_lowest" s__law_lowest f fd) (hm : mg "_law_lowest" = some (.ref f)) : Df P w K mg base tabs 1 "_law_lowest" s__law_lowest ps__law_lowest fm__law_lowest :=
  ⟨f, fd, F, fun_okG F sc__law_lowest (fun cdv A outer s H E hr hgd => (dss_cons (par 2 3 sc__law_lowest.nd (da_cons (dv 0) (da_cons (dv 1) da_nil))) (dss_cons (ds_while (passes_of rfl) (dt_gt hr (dv 3) de_int) (dss_one (par 2 3 sc__law_lowest.nd (da_cons (dv 3) (da_cons (de_mod (b_int M.b_int (dv 2)) (dv 3)) da_nil))))) (dss_one (ds_ret (de_tup (da_cons (de_fdiv (dv 0) (dv 2)) (da_cons (de_fdiv (dv 1) (dv 2)) da_nil)))))))), hm, F.binds fun _ _ _ _ _ _ us hl => match us, hl with | [_, _], _ => rfl⟩
/-! ### is_whole -/
abbrev s_is_whole : Stmt := topS 6
abbrev ps_is_whole : List PySem.Str := ["value"]
abbrev N_is_whole : List PySem.Str := ["value"]
theorem sc_is_whole : FnScope N_is_whole ps_is_whole (defScope s_is_whole) := ⟨rfl, rfl, rfl, by decide +kernel, rfl, by decide +kernel, by decide +kernel⟩
def bm_is_whole : Cm Fl := (retM (andV (isiM (rdV 0) .int) (notV (isiM (rdV 0) .bool))))
def fm_is_whole : Fm := fnM 1 bm_is_whole
theorem df_is_whole {P : Program} {w : World} {K : PySem.W.Frag} {mg : PySem.Str → Option Value} {base : Heap} {tabs : List (Addr × PySem.Str)} {f : Addr} {fd : FuncData} (M : MG mg) (F : Fun K "is_whole" "is_whole" s_is_whole f fd) (hm : mg "is_whole" = some (.ref f)) : Df P w K mg base tabs 1 "is_whole" s_is_whole ps_is_whole fm_is_whole :=
  ⟨f, fd, F, fun_okG F sc_is_whole (fun cdv A outer s H E hr hgd => (dss_one (ds_ret (de_and (b_isi .int M.b_isinstance M.b_int (dv 0)) (de_one (de_not (b_isi .bool M.b_isinstance M.b_bool (dv 0)))))))), hm, F.binds fun _ _ _ _ _ _ us hl => match us, hl with | [_], _ => rfl⟩
/-! ### is_between -/
abbrev s_is_between : Stmt := topS 7
abbrev ps_is_between : List PySem.Str := ["value", "least", "most"]
abbrev N_is_between : List PySem.Str := ["value", "least", "most"]
theorem sc_is_between : FnScope N_is_between ps_is_between (defScope s_is_between) := ⟨rfl, rfl, rfl, by decide +kernel, rfl, by decide +kernel, by decide +kernel⟩
def bm_is_between : Cm Fl := (retM (andV (asD (callP ps_is_whole.length fm_is_whole (argC (rdV 0) argN))) (chM (rdV 1) (rdV 0) (rdV 2) leD leD)))
def fm_is_between : Fm := fnM 3 bm_is_between
theorem df_is_between {P : Program} {w : World} {K : PySem.W.Frag} {mg : PySem.Str → Option Value} {base : Heap} {tabs : List (Addr × PySem.Str)} {f : Addr} {fd : FuncData} (M : MG mg) (D_is_whole : Df P w K mg base tabs 1 "is_whole" s_is_whole ps_is_whole fm_is_whole) (F : Fun K "is_between" "is_between" s_is_between f fd) (hm : mg "is_between" = some (.ref f)) : Df P w K mg base tabs 2 "is_between" s_is_between ps_is_between fm_is_between :=
  ⟨f, fd, F, fun_okG F sc_is_between (fun cdv A outer s H E hr hgd => (dss_one (ds_ret (de_and (de_asD (vc D_is_whole (hr.mono (by decide)) hgd (da_cons (dv 0) da_nil))) (de_one (de_lele hr (dv 1) (dv 0) (dv 2))))))), hm, F.binds fun _ _ _ _ _ _ us hl => match us, hl with | [_, _, _], _ => rfl⟩
/-! ### is_people -/
abbrev s_is_people : Stmt := topS 11
abbrev ps_is_people : List PySem.Str := ["value"]
abbrev N_is_people : List PySem.Str := ["value"]
theorem sc_is_people : FnScope N_is_people ps_is_people (defScope s_is_people) := ⟨rfl, rfl, rfl, by decide +kernel, rfl, by decide +kernel, by decide +kernel⟩
def bm_is_people : Cm Fl := (retV (callP ps_is_between.length fm_is_between (argC (rdV 0) (argC (ret (.int 1)) (argC (ret (.int 99)) argN)))))
def fm_is_people : Fm := fnM 1 bm_is_people
theorem df_is_people {P : Program} {w : World} {K : PySem.W.Frag} {mg : PySem.Str → Option Value} {base : Heap} {tabs : List (Addr × PySem.Str)} {f : Addr} {fd : FuncData} (M : MG mg) (D_is_between : Df P w K mg base tabs 2 "is_between" s_is_between ps_is_between fm_is_between) (F : Fun K "is_people" "is_people" s_is_people f fd) (hm : mg "is_people" = some (.ref f)) : Df P w K mg base tabs 3 "is_people" s_is_people ps_is_people fm_is_people :=
  ⟨f, fd, F, fun_okG F sc_is_people (fun cdv A outer s H E hr hgd => (dss_one (ds_retV (vc D_is_between (hr.mono (by decide)) hgd (da_cons (dv 0) (da_cons de_int (da_cons (dgI M.c_MOST_PEOPLE) da_nil))))))), hm, F.binds fun _ _ _ _ _ _ us hl => match us, hl with | [_], _ => rfl⟩
/-! ### check_people -/
abbrev s_check_people : Stmt := topS 12
abbrev ps_check_people : List PySem.Str := ["value"]
abbrev N_check_people : List PySem.Str := ["value"]
theorem sc_check_people : FnScope N_check_people ps_check_people (defScope s_check_people) := ⟨rfl, rfl, rfl, by decide +kernel, rfl, by decide +kernel, by decide +kernel⟩
def bm_check_people : Cm Fl := (ite3 (nots (tru (asD (callP ps_is_people.length fm_is_people (argC (rdV 0) argN))))) (fun _ => .no) nextM)
def fm_check_people : Fm := fnM 1 bm_check_people
theorem df_check_people {P : Program} {w : World} {K : PySem.W.Frag} {mg : PySem.Str → Option Value} {base : Heap} {tabs : List (Addr × PySem.Str)} {f : Addr} {fd : FuncData} (M : MG mg) (D_is_people : Df P w K mg base tabs 3 "is_people" s_is_people ps_is_people fm_is_people) (F : Fun K "check_people" "check_people" s_check_people f fd) (hm : mg "check_people" = some (.ref f)) : Df P w K mg base tabs 4 "check_people" s_check_people ps_check_people fm_check_people :=
  ⟨f, fd, F, fun_okG F sc_check_people (fun cdv A outer s H E hr hgd => (dss_one (ds_if (dt_not (dt_val (de_asD (vc D_is_people (hr.mono (by decide)) hgd (da_cons (dv 0) da_nil))))) (dss_one ds_no) dss_nil))), hm, F.binds fun _ _ _ _ _ _ us hl => match us, hl with | [_], _ => rfl⟩
/-! ### is_crowd_size -/
abbrev s_is_crowd_size : Stmt := topS 23
abbrev ps_is_crowd_size : List PySem.Str := ["value"]
abbrev N_is_crowd_size : List PySem.Str := ["value"]
theorem sc_is_crowd_size : FnScope N_is_crowd_size ps_is_crowd_size (defScope s_is_crowd_size) := ⟨rfl, rfl, rfl, by decide +kernel, rfl, by decide +kernel, by decide +kernel⟩
def bm_is_crowd_size : Cm Fl := (retV (callP ps_is_between.length fm_is_between (argC (rdV 0) (argC (ret (.int 1)) (argC (ret (.int 6)) argN)))))
def fm_is_crowd_size : Fm := fnM 1 bm_is_crowd_size
theorem df_is_crowd_size {P : Program} {w : World} {K : PySem.W.Frag} {mg : PySem.Str → Option Value} {base : Heap} {tabs : List (Addr × PySem.Str)} {f : Addr} {fd : FuncData} (M : MG mg) (D_is_between : Df P w K mg base tabs 2 "is_between" s_is_between ps_is_between fm_is_between) (F : Fun K "is_crowd_size" "is_crowd_size" s_is_crowd_size f fd) (hm : mg "is_crowd_size" = some (.ref f)) : Df P w K mg base tabs 3 "is_crowd_size" s_is_crowd_size ps_is_crowd_size fm_is_crowd_size :=
  ⟨f, fd, F, fun_okG F sc_is_crowd_size (fun cdv A outer s H E hr hgd => (dss_one (ds_retV (vc D_is_between (hr.mono (by decide)) hgd (da_cons (dv 0) (da_cons de_int (da_cons (dgI M.c_MOST_CROWD) da_nil))))))), hm, F.binds fun _ _ _ _ _ _ us hl => match us, hl with | [_], _ => rfl⟩
/-! ### lowest -/
abbrev s_lowest : Stmt := topS 8
abbrev ps_lowest : List PySem.Str := ["over", "under"]
abbrev N_lowest : List PySem.Str := ["over", "under", "common"]
theorem sc_lowest : FnScope N_lowest ps_lowest (defScope s_lowest) := ⟨rfl, rfl, rfl, by decide +kernel, rfl, by decide +kernel, by decide +kernel⟩
def bm_lowest : Cm Fl := (seqM (setM 2 (ite3 (tru (o2 (rdV 1) (ret (.int 0)) gtD)) (caM (argC (rdV 0) (argC (rdV 1) argN)) gcdD) (o1 (caM (argC (rdV 0) (argC (rdV 1) argN)) gcdD) negD))) (retM (tupM (argC (o2 (rdV 0) (rdV 2) fdivD) (argC (o2 (rdV 1) (rdV 2) fdivD) argN)))))
def fm_lowest : Fm := fnM 3 bm_lowest
theorem df_lowest {P : Program} {w : World} {K : PySem.W.Frag} {mg : PySem.Str → Option Value} {base : Heap} {tabs : List (Addr × PySem.Str)} {f : Addr} {fd : FuncData} (M : MG mg) (F : Fun K "lowest" "lowest" s_lowest f fd) (hm : mg "lowest" = some (.ref f)) : Df P w K mg base tabs 1 "lowest" s_lowest ps_lowest fm_lowest :=
  ⟨f, fd, F, fun_okG F sc_lowest (fun cdv A outer s H E hr hgd => (dss_cons (sT 2 sc_lowest.nd (de_if (dt_gt hr (dv 1) de_int) (b_gcd M.i_gcd (dv 0) (dv 1)) (de_neg (b_gcd M.i_gcd (dv 0) (dv 1))))) (dss_one (ds_ret (de_tup (da_cons (de_fdiv (dv 0) (dv 2)) (da_cons (de_fdiv (dv 1) (dv 2)) da_nil))))))), hm, F.binds fun _ _ _ _ _ _ us hl => match us, hl with | [_, _], _ => rfl⟩
/-! ### choose -/
abbrev s_choose : Stmt := topS 13
abbrev ps_choose : List PySem.Str := ["number", "many"]
abbrev N_choose : List PySem.Str := ["number", "many"]
theorem sc_choose : FnScope N_choose ps_choose (defScope s_choose) := ⟨rfl, rfl, rfl, by decide +kernel, rfl, by decide +kernel, by decide +kernel⟩
def bm_choose : Cm Fl := (retM (caM (argC (rdV 0) (argC (rdV 1) argN)) cmbD))
def fm_choose : Fm := fnM 2 bm_choose
theorem df_choose {P : Program} {w : World} {K : PySem.W.Frag} {mg : PySem.Str → Option Value} {base : Heap} {tabs : List (Addr × PySem.Str)} {f : Addr} {fd : FuncData} (M : MG mg) (F : Fun K "choose" "choose" s_choose f fd) (hm : mg "choose" = some (.ref f)) : Df P w K mg base tabs 1 "choose" s_choose ps_choose fm_choose :=
  ⟨f, fd, F, fun_okG F sc_choose (fun cdv A outer s H E hr hgd => (dss_one (ds_ret (b_comb M.i_comb (dv 0) (dv 1))))), hm, F.binds fun _ _ _ _ _ _ us hl => match us, hl with | [_, _], _ => rfl⟩
/-! ### mean_by -/
abbrev s_mean_by : Stmt := topS 18
abbrev ps_mean_by : List PySem.Str := ["people", "many"]
abbrev N_mean_by : List PySem.Str := ["people", "many"]
theorem sc_mean_by : FnScope N_mean_by ps_mean_by (defScope s_mean_by) := ⟨rfl, rfl, rfl, by decide +kernel, rfl, by decide +kernel, by decide +kernel⟩
def bm_mean_by : Cm Fl := (retV (callP ps_lowest.length fm_lowest (argC (asD (callP ps_choose.length fm_choose (argC (rdV 0) (argC (rdV 1) argN)))) (argC (o2 (ret (.int 1)) (o2 (o2 (rdV 1) (o2 (rdV 1) (ret (.int 1)) subD) mulD) (ret (.int 2)) fdivD) shlD) argN))))
def fm_mean_by : Fm := fnM 2 bm_mean_by
theorem df_mean_by {P : Program} {w : World} {K : PySem.W.Frag} {mg : PySem.Str → Option Value} {base : Heap} {tabs : List (Addr × PySem.Str)} {f : Addr} {fd : FuncData} (M : MG mg) (D_lowest : Df P w K mg base tabs 1 "lowest" s_lowest ps_lowest fm_lowest) (D_choose : Df P w K mg base tabs 1 "choose" s_choose ps_choose fm_choose) (F : Fun K "mean_by" "mean_by" s_mean_by f fd) (hm : mg "mean_by" = some (.ref f)) : Df P w K mg base tabs 2 "mean_by" s_mean_by ps_mean_by fm_mean_by :=
  ⟨f, fd, F, fun_okG F sc_mean_by (fun cdv A outer s H E hr hgd => (dss_one (ds_retV (vc D_lowest (hr.mono (by decide)) hgd (da_cons (de_asD (vc D_choose (hr.mono (by decide)) hgd (da_cons (dv 0) (da_cons (dv 1) da_nil)))) (da_cons (de_shl de_int (de_fdiv (de_mul (dv 1) (de_sub (dv 1) de_int)) de_int)) da_nil)))))), hm, F.binds fun _ _ _ _ _ _ us hl => match us, hl with | [_, _], _ => rfl⟩
/-! ### mean_crowds -/
abbrev s_mean_crowds : Stmt := topS 25
abbrev ps_mean_crowds : List PySem.Str := ["people", "many"]
abbrev N_mean_crowds : List PySem.Str := ["people", "many"]
theorem sc_mean_crowds : FnScope N_mean_crowds ps_mean_crowds (defScope s_mean_crowds) := ⟨rfl, rfl, rfl, by decide +kernel, rfl, by decide +kernel, by decide +kernel⟩
def bm_mean_crowds : Cm Fl := (seqM (dropM (asD (callP ps_check_people.length fm_check_people (argC (rdV 0) argN)))) (seqM (ite3 (nots (tru (asD (callP ps_is_crowd_size.length fm_is_crowd_size (argC (rdV 1) argN))))) (fun _ => .no) nextM) (retV (callP ps_mean_by.length fm_mean_by (argC (rdV 0) (argC (rdV 1) argN))))))
def fm_mean_crowds : Fm := fnM 2 bm_mean_crowds
theorem df_mean_crowds {P : Program} {w : World} {K : PySem.W.Frag} {mg : PySem.Str → Option Value} {base : Heap} {tabs : List (Addr × PySem.Str)} {f : Addr} {fd : FuncData} (M : MG mg) (D_check_people : Df P w K mg base tabs 4 "check_people" s_check_people ps_check_people fm_check_people) (D_is_crowd_size : Df P w K mg base tabs 3 "is_crowd_size" s_is_crowd_size ps_is_crowd_size fm_is_crowd_size) (D_mean_by : Df P w K mg base tabs 2 "mean_by" s_mean_by ps_mean_by fm_mean_by) (F : Fun K "mean_crowds" "mean_crowds" s_mean_crowds f fd) (hm : mg "mean_crowds" = some (.ref f)) : Df P w K mg base tabs 5 "mean_crowds" s_mean_crowds ps_mean_crowds fm_mean_crowds :=
  ⟨f, fd, F, fun_okG F sc_mean_crowds (fun cdv A outer s H E hr hgd => (dss_cons (ds_expr (de_asD (vc D_check_people (hr.mono (by decide)) hgd (da_cons (dv 0) da_nil)))) (dss_cons (ds_if (dt_not (dt_val (de_asD (vc D_is_crowd_size (hr.mono (by decide)) hgd (da_cons (dv 1) da_nil))))) (dss_one ds_no) dss_nil) (dss_one (ds_retV (vc D_mean_by (hr.mono (by decide)) hgd (da_cons (dv 0) (da_cons (dv 1) da_nil)))))))), hm, F.binds fun _ _ _ _ _ _ us hl => match us, hl with | [_, _], _ => rfl⟩
/-! ### _law_some -/
abbrev s__law_some : Stmt := topS 34
abbrev ps__law_some : List PySem.Str := ["pairs"]
abbrev N__law_some : List PySem.Str := ["pairs", "found", "pair", "lot"]
theorem sc__law_some : FnScope N__law_some ps__law_some (defScope s__law_some) := ⟨rfl, rfl, rfl, by decide +kernel, rfl, by decide +kernel, by decide +kernel⟩
def bm__law_some : Cm Fl := (seqM (setM 1 (frz (lstM (argC (tupM argN) argN)))) (seqM (forM (itM (rdV 0)) (stD 2) (setM 1 (o2 (rdV 1) (frz (lcM [3] (itM (rdV 1)) (stD 3) (ret true) (o2 (rdV 3) (tupM (argC (rdV 2) argN)) addD))) addD))) (retM (frz (caL (argC (rdV 1) argN) sortD)))))
def fm__law_some : Fm := fnM 4 bm__law_some
theorem df__law_some {P : Program} {w : World} {K : PySem.W.Frag} {mg : PySem.Str → Option Value} {base : Heap} {tabs : List (Addr × PySem.Str)} {f : Addr} {fd : FuncData} (M : MG mg) (F : Fun K "_law_some" "_law_some" s__law_some f fd) (hm : mg "_law_some" = some (.ref f)) : Df P w K mg base tabs 1 "_law_some" s__law_some ps__law_some fm__law_some :=
  ⟨f, fd, F, fun_okG F sc__law_some (fun cdv A outer s H E hr hgd => (dss_cons (sT 1 sc__law_some.nd (de_frz (oe_lst (da_cons (de_tup da_nil) da_nil)))) (dss_cons (ds_for (vs := [2]) (passes_of rfl) rfl (di_any (dv 0)) (tgN 2 sc__law_some.nd) (dss_one (sT 1 sc__law_some.nd (de_add (dv 1) (de_frz (oe_lc (own := [("lot", 3)]) rfl sc__law_some.nd (di_any (dv 1)) (blkOk_by (by kernel_rfl)) (fun _ _ _ _ _ => (tgN 3 sc__law_some.nd)) (fun _ _ _ _ _ => dts_nil) (fun _ _ _ _ _ => (de_add (dv 3) (de_tup (da_cons (dv 2) da_nil)))))))))) (dss_one (ds_ret (de_frz (oe_sorted M.b_sorted hr (dv 1)))))))), hm, F.binds fun _ _ _ _ _ _ us hl => match us, hl with | [_], _ => rfl⟩
/-! ### _law_pairs -/
abbrev s__law_pairs : Stmt := topS 30
abbrev ps__law_pairs : List PySem.Str := ["people"]
abbrev N__law_pairs : List PySem.Str := ["people", "found", "one", "other"]
theorem sc__law_pairs : FnScope N__law_pairs ps__law_pairs (defScope s__law_pairs) := ⟨rfl, rfl, rfl, by decide +kernel, rfl, by decide +kernel, by decide +kernel⟩
def bm__law_pairs : Cm Fl := (seqM (setM 1 (frz (lstM argN))) (seqM (forM (itD (argC (rdV 0) argN) rng1D) (stD 2) (setM 1 (o2 (rdV 1) (frz (lcM [3] (itD (argC (o2 (rdV 2) (ret (.int 1)) addD) (argC (rdV 0) argN)) rng2D) (stD 3) (ret true) (tupM (argC (rdV 2) (argC (rdV 3) argN))))) addD))) (retM (rdV 1))))
def fm__law_pairs : Fm := fnM 4 bm__law_pairs
theorem df__law_pairs {P : Program} {w : World} {K : PySem.W.Frag} {mg : PySem.Str → Option Value} {base : Heap} {tabs : List (Addr × PySem.Str)} {f : Addr} {fd : FuncData} (M : MG mg) (F : Fun K "_law_pairs" "_law_pairs" s__law_pairs f fd) (hm : mg "_law_pairs" = some (.ref f)) : Df P w K mg base tabs 1 "_law_pairs" s__law_pairs ps__law_pairs fm__law_pairs :=
  ⟨f, fd, F, fun_okG F sc__law_pairs (fun cdv A outer s H E hr hgd => (dss_cons (sT 1 sc__law_pairs.nd (de_frz (oe_lst da_nil))) (dss_cons (ds_for (vs := [2]) (passes_of rfl) rfl (di_range1 (by rfl) M.b_range (da_cons (dv 0) da_nil)) (tgN 2 sc__law_pairs.nd) (dss_one (sT 1 sc__law_pairs.nd (de_add (dv 1) (de_frz (oe_lc (own := [("other", 3)]) rfl sc__law_pairs.nd (di_range2 (by rfl) M.b_range (da_cons (de_add (dv 2) de_int) (da_cons (dv 0) da_nil))) (blkOk_by (by kernel_rfl)) (fun _ _ _ _ _ => (tgN 3 sc__law_pairs.nd)) (fun _ _ _ _ _ => dts_nil) (fun _ _ _ _ _ => (de_tup (da_cons (dv 2) (da_cons (dv 3) da_nil)))))))))) (dss_one (ds_ret (dv 1)))))), hm, F.binds fun _ _ _ _ _ _ us hl => match us, hl with | [_], _ => rfl⟩
/-! ### _law_lots -/
abbrev s__law_lots : Stmt := topS 31
abbrev ps__law_lots : List PySem.Str := ["people"]
abbrev N__law_lots : List PySem.Str := ["people", "found", "one", "lot"]
theorem sc__law_lots : FnScope N__law_lots ps__law_lots (defScope s__law_lots) := ⟨rfl, rfl, rfl, by decide +kernel, rfl, by decide +kernel, by decide +kernel⟩
def bm__law_lots : Cm Fl := (seqM (setM 1 (frz (lstM (argC (tupM argN) argN)))) (seqM (forM (itD (argC (rdV 0) argN) rng1D) (stD 2) (setM 1 (o2 (rdV 1) (frz (lcM [3] (itM (rdV 1)) (stD 3) (ret true) (o2 (rdV 3) (tupM (argC (rdV 2) argN)) addD))) addD))) (retM (frz (caL (argC (rdV 1) argN) sortD)))))
def fm__law_lots : Fm := fnM 4 bm__law_lots
theorem df__law_lots {P : Program} {w : World} {K : PySem.W.Frag} {mg : PySem.Str → Option Value} {base : Heap} {tabs : List (Addr × PySem.Str)} {f : Addr} {fd : FuncData} (M : MG mg) (F : Fun K "_law_lots" "_law_lots" s__law_lots f fd) (hm : mg "_law_lots" = some (.ref f)) : Df P w K mg base tabs 1 "_law_lots" s__law_lots ps__law_lots fm__law_lots :=
  ⟨f, fd, F, fun_okG F sc__law_lots (fun cdv A outer s H E hr hgd => (dss_cons (sT 1 sc__law_lots.nd (de_frz (oe_lst (da_cons (de_tup da_nil) da_nil)))) (dss_cons (ds_for (vs := [2]) (passes_of rfl) rfl (di_range1 (by rfl) M.b_range (da_cons (dv 0) da_nil)) (tgN 2 sc__law_lots.nd) (dss_one (sT 1 sc__law_lots.nd (de_add (dv 1) (de_frz (oe_lc (own := [("lot", 3)]) rfl sc__law_lots.nd (di_any (dv 1)) (blkOk_by (by kernel_rfl)) (fun _ _ _ _ _ => (tgN 3 sc__law_lots.nd)) (fun _ _ _ _ _ => dts_nil) (fun _ _ _ _ _ => (de_add (dv 3) (de_tup (da_cons (dv 2) da_nil)))))))))) (dss_one (ds_ret (de_frz (oe_sorted M.b_sorted hr (dv 1)))))))), hm, F.binds fun _ _ _ _ _ _ us hl => match us, hl with | [_], _ => rfl⟩
/-! ### _law_is_crowd -/
abbrev s__law_is_crowd : Stmt := topS 32
abbrev ps__law_is_crowd : List PySem.Str := ["ties", "lot"]
abbrev N__law_is_crowd : List PySem.Str := ["ties", "lot", "one", "other"]
theorem sc__law_is_crowd : FnScope N__law_is_crowd ps__law_is_crowd (defScope s__law_is_crowd) := ⟨rfl, rfl, rfl, by decide +kernel, rfl, by decide +kernel, by decide +kernel⟩
def bm__law_is_crowd : Cm Fl := (retM (caM (argC (frz (lcM [2] (itM (rdV 1)) (stD 2) (ret true) (caM (argC (frz (lcM [3] (itM (rdV 1)) (stD 3) (tru (o2 (rdV 3) (rdV 2) gtD)) (o2 (tupM (argC (rdV 2) (argC (rdV 3) argN))) (rdV 0) inD))) argN) allD))) argN) allD))
def fm__law_is_crowd : Fm := fnM 4 bm__law_is_crowd
theorem df__law_is_crowd {P : Program} {w : World} {K : PySem.W.Frag} {mg : PySem.Str → Option Value} {base : Heap} {tabs : List (Addr × PySem.Str)} {f : Addr} {fd : FuncData} (M : MG mg) (F : Fun K "_law_is_crowd" "_law_is_crowd" s__law_is_crowd f fd) (hm : mg "_law_is_crowd" = some (.ref f)) : Df P w K mg base tabs 1 "_law_is_crowd" s__law_is_crowd ps__law_is_crowd fm__law_is_crowd :=
  ⟨f, fd, F, fun_okG F sc__law_is_crowd (fun cdv A outer s H E hr hgd => (dss_one (ds_ret (b_all M.b_all rfl (de_frz (oe_lc (own := [("one", 2)]) rfl sc__law_is_crowd.nd (di_any (dv 1)) (blkOk_by (by kernel_rfl)) (fun _ _ _ _ _ => (tgN 2 sc__law_is_crowd.nd)) (fun _ _ _ _ _ => dts_nil) (fun _ _ _ _ _ => (b_all M.b_all rfl (de_frz (oe_lc (own := [("other", 3)]) rfl sc__law_is_crowd.nd (di_any (dv 1)) (blkOk_by (by kernel_rfl)) (fun _ _ _ _ _ => (tgN 3 sc__law_is_crowd.nd)) (fun _ _ _ _ _ => (dts_one (dt_gt hr (dv 3) (dv 2)))) (fun _ _ _ _ _ => (de_in' hr (de_tup (da_cons (dv 2) (da_cons (dv 3) da_nil))) (dv 0))))))))))))), hm, F.binds fun _ _ _ _ _ _ us hl => match us, hl with | [_, _], _ => rfl⟩
/-! ### is_counted -/
abbrev s_is_counted : Stmt := topS 21
abbrev ps_is_counted : List PySem.Str := ["value"]
abbrev N_is_counted : List PySem.Str := ["value"]
theorem sc_is_counted : FnScope N_is_counted ps_is_counted (defScope s_is_counted) := ⟨rfl, rfl, rfl, by decide +kernel, rfl, by decide +kernel, by decide +kernel⟩
def bm_is_counted : Cm Fl := (retV (callP ps_is_between.length fm_is_between (argC (rdV 0) (argC (ret (.int 1)) (argC (ret (.int 5)) argN)))))
def fm_is_counted : Fm := fnM 1 bm_is_counted
theorem df_is_counted {P : Program} {w : World} {K : PySem.W.Frag} {mg : PySem.Str → Option Value} {base : Heap} {tabs : List (Addr × PySem.Str)} {f : Addr} {fd : FuncData} (M : MG mg) (D_is_between : Df P w K mg base tabs 2 "is_between" s_is_between ps_is_between fm_is_between) (F : Fun K "is_counted" "is_counted" s_is_counted f fd) (hm : mg "is_counted" = some (.ref f)) : Df P w K mg base tabs 3 "is_counted" s_is_counted ps_is_counted fm_is_counted :=
  ⟨f, fd, F, fun_okG F sc_is_counted (fun cdv A outer s H E hr hgd => (dss_one (ds_retV (vc D_is_between (hr.mono (by decide)) hgd (da_cons (dv 0) (da_cons de_int (da_cons (dgI M.c_MOST_COUNTED) da_nil))))))), hm, F.binds fun _ _ _ _ _ _ us hl => match us, hl with | [_], _ => rfl⟩
/-! ### check_counted -/
abbrev s_check_counted : Stmt := topS 22
abbrev ps_check_counted : List PySem.Str := ["people"]
abbrev N_check_counted : List PySem.Str := ["people"]
theorem sc_check_counted : FnScope N_check_counted ps_check_counted (defScope s_check_counted) := ⟨rfl, rfl, rfl, by decide +kernel, rfl, by decide +kernel, by decide +kernel⟩
def bm_check_counted : Cm Fl := (ite3 (nots (tru (asD (callP ps_is_counted.length fm_is_counted (argC (rdV 0) argN))))) (fun _ => .no) nextM)
def fm_check_counted : Fm := fnM 1 bm_check_counted
theorem df_check_counted {P : Program} {w : World} {K : PySem.W.Frag} {mg : PySem.Str → Option Value} {base : Heap} {tabs : List (Addr × PySem.Str)} {f : Addr} {fd : FuncData} (M : MG mg) (D_is_counted : Df P w K mg base tabs 3 "is_counted" s_is_counted ps_is_counted fm_is_counted) (F : Fun K "check_counted" "check_counted" s_check_counted f fd) (hm : mg "check_counted" = some (.ref f)) : Df P w K mg base tabs 4 "check_counted" s_check_counted ps_check_counted fm_check_counted :=
  ⟨f, fd, F, fun_okG F sc_check_counted (fun cdv A outer s H E hr hgd => (dss_one (ds_if (dt_not (dt_val (de_asD (vc D_is_counted (hr.mono (by decide)) hgd (da_cons (dv 0) da_nil))))) (dss_one ds_no) dss_nil))), hm, F.binds fun _ _ _ _ _ _ us hl => match us, hl with | [_], _ => rfl⟩
/-! ### pairs_of -/
abbrev s_pairs_of : Stmt := topS 14
abbrev ps_pairs_of : List PySem.Str := ["people"]
abbrev N_pairs_of : List PySem.Str := ["people", "pair"]
theorem sc_pairs_of : FnScope N_pairs_of ps_pairs_of (defScope s_pairs_of) := ⟨rfl, rfl, rfl, by decide +kernel, rfl, by decide +kernel, by decide +kernel⟩
def bm_pairs_of : Cm Fl := (retO (lcM [1] (itD (argC (frz (caL (argC (rdV 0) argN) listR)) (argC (ret (.int 2)) argN)) combD) (stD 1) (ret true) (rdV 1)))
def fm_pairs_of : Fm := fnM 2 bm_pairs_of
theorem df_pairs_of {P : Program} {w : World} {K : PySem.W.Frag} {mg : PySem.Str → Option Value} {base : Heap} {tabs : List (Addr × PySem.Str)} {f : Addr} {fd : FuncData} (M : MG mg) (F : Fun K "pairs_of" "pairs_of" s_pairs_of f fd) (hm : mg "pairs_of" = some (.ref f)) : Df P w K mg base tabs 1 "pairs_of" s_pairs_of ps_pairs_of fm_pairs_of :=
  ⟨f, fd, F, fun_okG F sc_pairs_of (fun cdv A outer s H E hr hgd => (dss_one (ds_retO (oe_lc (own := [("pair", 1)]) rfl sc_pairs_of.nd (di_comb (by rfl) M.i_combinations (da_cons (de_frz (oe_listR1 M.b_list M.b_range rfl (da_cons (dv 0) da_nil))) (da_cons de_int da_nil))) (blkOk_by (by kernel_rfl)) (fun _ _ _ _ _ => (tgN 1 sc_pairs_of.nd)) (fun _ _ _ _ _ => dts_nil) (fun _ _ _ _ _ => (dv 1)))))), hm, F.binds fun _ _ _ _ _ _ us hl => match us, hl with | [_], _ => rfl⟩
/-! ### rings_of_pairs -/
abbrev s_rings_of_pairs : Stmt := topS 19
abbrev ps_rings_of_pairs : List PySem.Str := ["people", "names"]
abbrev N_rings_of_pairs : List PySem.Str := ["people", "names", "left", "many", "pair", "one", "other"]
theorem sc_rings_of_pairs : FnScope N_rings_of_pairs ps_rings_of_pairs (defScope s_rings_of_pairs) := ⟨rfl, rfl, rfl, by decide +kernel, rfl, by decide +kernel, by decide +kernel⟩
def bm_rings_of_pairs : Cm Fl := (seqM (parV2 2 3 (vaO (asO (callP ps_pairs_of.length fm_pairs_of (argC (rdV 0) argN))) (vaD (ret (.int 0)) vaN))) (seqM (whileL (tru (oL 2 (frz (lstM argN)) neD)) (seqM (parM 4 3 (argC (oL 2 (ret (.int 0)) ixD) (argC (o2 (rdV 3) (ret (.int 1)) addD) argN))) (whileL (tru (o2R (rdV 4) 2 inD)) (seqM (dropM (mtM 2 (argC (rdV 4) argN) remD)) (seqM (parM 5 6 (argC (o2 (rdV 1) (o2 (rdV 4) (ret (.int 0)) ixD) ixD) (argC (o2 (rdV 1) (o2 (rdV 4) (ret (.int 1)) ixD) ixD) argN))) (setM 4 (tupM (argC (caM (argC (rdV 5) (argC (rdV 6) argN)) min2D) (argC (caM (argC (rdV 5) (argC (rdV 6) argN)) max2D) argN)))))) fuel)) fuel) (retM (rdV 3))))
def fm_rings_of_pairs : Fm := fnM 7 bm_rings_of_pairs
theorem df_rings_of_pairs {P : Program} {w : World} {K : PySem.W.Frag} {mg : PySem.Str → Option Value} {base : Heap} {tabs : List (Addr × PySem.Str)} {f : Addr} {fd : FuncData} (M : MG mg) (D_pairs_of : Df P w K mg base tabs 1 "pairs_of" s_pairs_of ps_pairs_of fm_pairs_of) (F : Fun K "rings_of_pairs" "rings_of_pairs" s_rings_of_pairs f fd) (hm : mg "rings_of_pairs" = some (.ref f)) : Df P w K mg base tabs 2 "rings_of_pairs" s_rings_of_pairs ps_rings_of_pairs fm_rings_of_pairs :=
  ⟨f, fd, F, fun_okG F sc_rings_of_pairs (fun cdv A outer s H E hr hgd => (dss_cons (parV 2 3 sc_rings_of_pairs.nd (va_own (oe_asO (vc D_pairs_of (hr.mono (by decide)) hgd (da_cons (dv 0) da_nil))) (va_dat de_int va_nil))) (dss_cons (ds_while (passes_of rfl) (dt_neL hr 2 (de_frz (oe_lst da_nil))) (dss_cons (par 4 3 sc_rings_of_pairs.nd (da_cons (dixL 2 de_int) (da_cons (de_add (dv 3) de_int) da_nil))) (dss_one (ds_while (passes_of rfl) (dt_inO hr (dv 4) 2) (dss_cons (ds_expr (de_remove hr (i := 2) rfl (by first | exact Or.inl rfl | exact Or.inr (Or.inl rfl) | exact Or.inr (Or.inr rfl)) (dv 4))) (dss_cons (par 5 6 sc_rings_of_pairs.nd (da_cons (de_ix (dv 1) (de_ix (dv 4) de_int)) (da_cons (de_ix (dv 1) (de_ix (dv 4) de_int)) da_nil))) (dss_one (sT 4 sc_rings_of_pairs.nd (de_tup (da_cons (b_min2 M.b_min rfl (dv 5) (dv 6)) (da_cons (b_max2 M.b_max rfl (dv 5) (dv 6)) da_nil))))))))))) (dss_one (ds_ret (dv 3)))))), hm, F.binds fun _ _ _ _ _ _ us hl => match us, hl with | [_, _], _ => rfl⟩
/-! ### count_forms_by -/
abbrev s_count_forms_by : Stmt := topS 20
abbrev ps_count_forms_by : List PySem.Str := ["people"]
abbrev N_count_forms_by : List PySem.Str := ["people", "told", "names"]
theorem sc_count_forms_by : FnScope N_count_forms_by ps_count_forms_by (defScope s_count_forms_by) := ⟨rfl, rfl, rfl, by decide +kernel, rfl, by decide +kernel, by decide +kernel⟩
def bm_count_forms_by : Cm Fl := (seqM (setM 1 (frz (lcM [2] (itD (argC (rdV 0) argN) permR) (stD 2) (ret true) (o2 (ret (.int 1)) (asD (callP ps_rings_of_pairs.length fm_rings_of_pairs (argC (rdV 0) (argC (rdV 2) argN)))) shlD)))) (retM (o2 (caM (argC (rdV 1) argN) sumD) (caM (argC (rdV 1) argN) lenD) fdivD)))
def fm_count_forms_by : Fm := fnM 3 bm_count_forms_by
theorem df_count_forms_by {P : Program} {w : World} {K : PySem.W.Frag} {mg : PySem.Str → Option Value} {base : Heap} {tabs : List (Addr × PySem.Str)} {f : Addr} {fd : FuncData} (M : MG mg) (D_rings_of_pairs : Df P w K mg base tabs 2 "rings_of_pairs" s_rings_of_pairs ps_rings_of_pairs fm_rings_of_pairs) (F : Fun K "count_forms_by" "count_forms_by" s_count_forms_by f fd) (hm : mg "count_forms_by" = some (.ref f)) : Df P w K mg base tabs 3 "count_forms_by" s_count_forms_by ps_count_forms_by fm_count_forms_by :=
  ⟨f, fd, F, fun_okG F sc_count_forms_by (fun cdv A outer s H E hr hgd => (dss_cons (ds_setLc (own := [("names", 2)]) rfl sc_count_forms_by.nd (i := 1) rfl rfl (sw_true rfl rfl rfl (by decide +kernel)) (di_permR1 (by rfl) M.i_permutations M.b_range rfl (da_cons (dv 0) da_nil)) (blkOk_by (by kernel_rfl)) (fun _ _ _ _ _ => (tgN 2 sc_count_forms_by.nd)) (fun _ _ _ _ _ => dts_nil) (fun _ _ _ _ _ => (de_shl de_int (de_asD (vc D_rings_of_pairs (hr.mono (by decide)) hgd (da_cons (dv 0) (da_cons (dv 2) da_nil))))))) (dss_one (ds_ret (de_fdiv (b_sum M.b_sum rfl (dv 1)) (b_len M.b_len (dv 1))))))), hm, F.binds fun _ _ _ _ _ _ us hl => match us, hl with | [_], _ => rfl⟩
/-! ### count_forms -/
abbrev s_count_forms : Stmt := topS 24
abbrev ps_count_forms : List PySem.Str := ["people"]
abbrev N_count_forms : List PySem.Str := ["people"]
theorem sc_count_forms : FnScope N_count_forms ps_count_forms (defScope s_count_forms) := ⟨rfl, rfl, rfl, by decide +kernel, rfl, by decide +kernel, by decide +kernel⟩
def bm_count_forms : Cm Fl := (seqM (dropM (asD (callP ps_check_counted.length fm_check_counted (argC (rdV 0) argN)))) (retV (callP ps_count_forms_by.length fm_count_forms_by (argC (rdV 0) argN))))
def fm_count_forms : Fm := fnM 1 bm_count_forms
theorem df_count_forms {P : Program} {w : World} {K : PySem.W.Frag} {mg : PySem.Str → Option Value} {base : Heap} {tabs : List (Addr × PySem.Str)} {f : Addr} {fd : FuncData} (M : MG mg) (D_check_counted : Df P w K mg base tabs 4 "check_counted" s_check_counted ps_check_counted fm_check_counted) (D_count_forms_by : Df P w K mg base tabs 3 "count_forms_by" s_count_forms_by ps_count_forms_by fm_count_forms_by) (F : Fun K "count_forms" "count_forms" s_count_forms f fd) (hm : mg "count_forms" = some (.ref f)) : Df P w K mg base tabs 5 "count_forms" s_count_forms ps_count_forms fm_count_forms :=
  ⟨f, fd, F, fun_okG F sc_count_forms (fun cdv A outer s H E hr hgd => (dss_cons (ds_expr (de_asD (vc D_check_counted (hr.mono (by decide)) hgd (da_cons (dv 0) da_nil)))) (dss_one (ds_retV (vc D_count_forms_by (hr.mono (by decide)) hgd (da_cons (dv 0) da_nil)))))), hm, F.binds fun _ _ _ _ _ _ us hl => match us, hl with | [_], _ => rfl⟩
/-! ### _law_right -/
abbrev s__law_right : Stmt := topS 35
abbrev ps__law_right : List PySem.Str := ["bag"]
abbrev N__law_right : List PySem.Str := ["bag", "people", "many", "top", "low", "k", "due", "every", "whole", "lots", "ties", "lot", "own"]
theorem sc__law_right : FnScope N__law_right ps__law_right (defScope s__law_right) := ⟨rfl, rfl, rfl, by decide +kernel, rfl, by decide +kernel, by decide +kernel⟩
def bm__law_right : Cm Fl := (seqM (unpM [1, 2] (vaD (o2 (ret (.int 1)) (asD (callB ps__law_take.length fm__law_take 0 (argC (asD (callB ps__law_pull.length fm__law_pull 0 (argC (frz (lstM (argC (ret (.int 4)) (argC (ret (.int 99)) argN)))) argN))) argN))) addD) (vaD (o2 (ret (.int 1)) (asD (callB ps__law_take.length fm__law_take 0 (argC (ret (.int 6)) argN))) addD) vaN))) (seqM (asgM (tupM (argC (ret (.int 1)) (argC (ret (.int 1)) argN))) (gTupM 2 (gConsM (stD 3) (gConsM (stD 4) gNilM)))) (seqM (forM (itD (argC (rdV 2) argN) rng1D) (stD 5) (setM 3 (o2 (o2 (rdV 3) (o2 (rdV 1) (rdV 5) subD) mulD) (o2 (rdV 5) (ret (.int 1)) addD) fdivD))) (seqM (forM (itD (argC (o2 (o2 (rdV 2) (o2 (rdV 2) (ret (.int 1)) subD) mulD) (ret (.int 2)) fdivD) argN) rng1D) (stD 5) (setM 4 (o2 (ret (.int 2)) (rdV 4) mulD))) (seqM (setM 6 (ite3 (tru (o2 (rdV 3) (ret (.int 0)) gtD)) (asD (callP ps__law_lowest.length fm__law_lowest (argC (rdV 3) (argC (rdV 4) argN)))) (tupM (argC (ret (.int 0)) (argC (ret (.int 1)) argN))))) (seqM (ite3 (repM (frz (lstM (argC (asD (callP ps_mean_crowds.length fm_mean_crowds (argC (rdV 1) (argC (rdV 2) argN)))) (argC (asD (callK ps_mean_crowds.length fm_mean_crowds 0 2 [1, 0] argN (argC (rdV 2) (argC (rdV 1) argN)))) argN)))) (frz (lstM (argC (rdV 6) (argC (rdV 6) argN)))) false) (retM (ret (.bool false))) nextM) (seqM (ite3 (tru (o2 (rdV 1) (ret (.int 5)) ltD)) (seqM (parM 7 8 (argC (asD (callP ps__law_some.length fm__law_some (argC (asD (callP ps__law_pairs.length fm__law_pairs (argC (rdV 1) argN))) argN))) (argC (ret (.int 0)) argN))) (seqM (setM 9 (frz (lcM [11] (itM (asD (callP ps__law_lots.length fm__law_lots (argC (rdV 1) argN)))) (stD 11) (tru (o2 (caM (argC (rdV 11) argN) lenD) (rdV 2) eqD)) (rdV 11)))) (seqM (forM (itM (rdV 7)) (stD 10) (setM 8 (o2 (rdV 8) (caM (argC (frz (lcM [11] (itM (rdV 9)) (stD 11) (tru (asD (callP ps__law_is_crowd.length fm__law_is_crowd (argC (rdV 10) (argC (rdV 11) argN))))) (ret (.int 1)))) argN) lenD) addD))) (ite3 (tru (o2 (rdV 6) (ite3 (tru (o2 (rdV 8) (ret (.int 0)) gtD)) (asD (callP ps__law_lowest.length fm__law_lowest (argC (rdV 8) (argC (caM (argC (rdV 7) argN) lenD) argN)))) (tupM (argC (ret (.int 0)) (argC (ret (.int 1)) argN)))) neD)) (retM (ret (.bool false))) nextM)))) nextM) (retM (andV (o2 (asD (callP ps_mean_crowds.length fm_mean_crowds (argC (rdV 1) (argC (ret (.int 1)) argN)))) (tupM (argC (rdV 1) (argC (ret (.int 1)) argN))) eqD) (o2 (frz (lcM [12] (itD (argC (ret (.int 1)) (argC (ret (.int 6)) argN)) rng2D) (stD 12) (ret true) (asD (callP ps_count_forms.length fm_count_forms (argC (rdV 12) argN))))) (frz (lstM (argC (ret (.int 1)) (argC (ret (.int 2)) (argC (ret (.int 4)) (argC (ret (.int 11)) (argC (ret (.int 34)) argN))))))) eqD))))))))))
def fm__law_right : Fm := fnM 13 bm__law_right
theorem df__law_right {P : Program} {w : World} {K : PySem.W.Frag} {mg : PySem.Str → Option Value} {base : Heap} {tabs : List (Addr × PySem.Str)} {f : Addr} {fd : FuncData} (M : MG mg) (D__law_take : Df P w K mg base tabs 1 "_law_take" s__law_take ps__law_take fm__law_take) (D__law_pull : Df P w K mg base tabs 2 "_law_pull" s__law_pull ps__law_pull fm__law_pull) (D__law_lowest : Df P w K mg base tabs 1 "_law_lowest" s__law_lowest ps__law_lowest fm__law_lowest) (D_mean_crowds : Df P w K mg base tabs 5 "mean_crowds" s_mean_crowds ps_mean_crowds fm_mean_crowds) (D__law_some : Df P w K mg base tabs 1 "_law_some" s__law_some ps__law_some fm__law_some) (D__law_pairs : Df P w K mg base tabs 1 "_law_pairs" s__law_pairs ps__law_pairs fm__law_pairs) (D__law_lots : Df P w K mg base tabs 1 "_law_lots" s__law_lots ps__law_lots fm__law_lots) (D__law_is_crowd : Df P w K mg base tabs 1 "_law_is_crowd" s__law_is_crowd ps__law_is_crowd fm__law_is_crowd) (D_count_forms : Df P w K mg base tabs 5 "count_forms" s_count_forms ps_count_forms fm_count_forms) (F : Fun K "_law_right" "_law_right" s__law_right f fd) (hm : mg "_law_right" = some (.ref f)) : Df P w K mg base tabs 6 "_law_right" s__law_right ps__law_right fm__law_right :=
  ⟨f, fd, F, fun_okG F sc__law_right (fun cdv A outer s H E hr hgd => (dss_cons (ds_unp rfl (va_dat (de_add de_int (de_asD (vcB 0 D__law_take (hr.mono (by decide)) hgd (da_cons (de_asD (vcB 0 D__law_pull (hr.mono (by decide)) hgd (da_cons (de_frz (oe_lst (da_cons de_int (da_cons de_int da_nil)))) da_nil))) da_nil)))) (va_dat (de_add de_int (de_asD (vcB 0 D__law_take (hr.mono (by decide)) hgd (da_cons de_int da_nil)))) va_nil)) (gv_cons 1 sc__law_right.nd (gv_cons 2 sc__law_right.nd gv_nil))) (dss_cons (ds_asg (vs := [3, 4]) (de_tup (da_cons de_int (da_cons de_int da_nil))) (dg_tup (n := 2) rfl (dgs_cons (tgN 3 sc__law_right.nd) (dgs_cons (tgN 4 sc__law_right.nd) dgs_nil)))) (dss_cons (ds_for (vs := [5]) (passes_of rfl) rfl (di_range1 (by rfl) M.b_range (da_cons (dv 2) da_nil)) (tgN 5 sc__law_right.nd) (dss_one (sT 3 sc__law_right.nd (de_fdiv (de_mul (dv 3) (de_sub (dv 1) (dv 5))) (de_add (dv 5) de_int))))) (dss_cons (ds_for (vs := [5]) (passes_of rfl) rfl (di_range1 (by rfl) M.b_range (da_cons (de_fdiv (de_mul (dv 2) (de_sub (dv 2) de_int)) de_int) da_nil)) (tgN 5 sc__law_right.nd) (dss_one (sT 4 sc__law_right.nd (de_mul de_int (dv 4))))) (dss_cons (sT 6 sc__law_right.nd (de_if (dt_gt hr (dv 3) de_int) (de_asD (vc D__law_lowest (hr.mono (by decide)) hgd (da_cons (dv 3) (da_cons (dv 4) da_nil)))) (de_tup (da_cons de_int (da_cons de_int da_nil))))) (dss_cons (ds_if (dt_repr (.inr ⟨rfl, rfl⟩) hr hgd (by rfl) M.b_repr (de_frz (oe_lst (da_cons (de_asD (vc D_mean_crowds (hr.mono (by decide)) hgd (da_cons (dv 1) (da_cons (dv 2) da_nil)))) (da_cons (de_asD (vcK0 D_mean_crowds (hr.mono (by decide)) hgd (fun F => fun_kws (ks := ["many", "people"]) (na := 0) (nb := 2) (idx := [1, 0]) F fun _ _ _ _ _ _ us ws h1 h2 => match us, ws, h1, h2 with | [], [_, _], _, _ => rfl) (dk_cons (dv 2) (dk_cons (dv 1) dk_nil)))) da_nil)))) (de_frz (oe_lst (da_cons (dv 6) (da_cons (dv 6) da_nil))))) (dss_one (ds_ret de_bool)) dss_nil) (dss_cons (ds_if (dt_lt hr (dv 1) de_int) (dss_cons (par 7 8 sc__law_right.nd (da_cons (de_asD (vc D__law_some (hr.mono (by decide)) hgd (da_cons (de_asD (vc D__law_pairs (hr.mono (by decide)) hgd (da_cons (dv 1) da_nil))) da_nil))) (da_cons de_int da_nil))) (dss_cons (ds_setLc (own := [("lot", 11)]) rfl sc__law_right.nd (i := 9) rfl rfl (sw_true rfl rfl rfl (by decide +kernel)) (di_any (de_asD (vc D__law_lots (hr.mono (by decide)) hgd (da_cons (dv 1) da_nil)))) (blkOk_by (by kernel_rfl)) (fun _ _ _ _ _ => (tgN 11 sc__law_right.nd)) (fun _ _ _ _ _ => (dts_one (dt_eq hr (b_len M.b_len (dv 11)) (dv 2)))) (fun _ _ _ _ _ => (dv 11))) (dss_cons (ds_for (vs := [10]) (passes_of rfl) rfl (di_any (dv 7)) (tgN 10 sc__law_right.nd) (dss_one (sT 8 sc__law_right.nd (de_add (dv 8) (b_len M.b_len (de_frz (oe_lc (own := [("lot", 11)]) rfl sc__law_right.nd (di_any (dv 9)) (blkOk_by (by kernel_rfl)) (fun _ _ _ _ _ => (tgN 11 sc__law_right.nd)) (fun _ _ _ _ _ => (dts_one (dt_val (de_asD (vc D__law_is_crowd (hr.mono (by decide)) hgd (da_cons (dv 10) (da_cons (dv 11) da_nil))))))) (fun _ _ _ _ _ => de_int)))))))) (dss_one (ds_if (dt_ne hr (dv 6) (de_if (dt_gt hr (dv 8) de_int) (de_asD (vc D__law_lowest (hr.mono (by decide)) hgd (da_cons (dv 8) (da_cons (b_len M.b_len (dv 7)) da_nil)))) (de_tup (da_cons de_int (da_cons de_int da_nil))))) (dss_one (ds_ret de_bool)) dss_nil))))) dss_nil) (dss_one (ds_ret (de_and (de_eq hr (de_asD (vc D_mean_crowds (hr.mono (by decide)) hgd (da_cons (dv 1) (da_cons de_int da_nil)))) (de_tup (da_cons (dv 1) (da_cons de_int da_nil)))) (de_one (de_eq hr (de_frz (oe_lc (own := [("own", 12)]) rfl sc__law_right.nd (di_range2 (by rfl) M.b_range (da_cons de_int (da_cons de_int da_nil))) (blkOk_by (by kernel_rfl)) (fun _ _ _ _ _ => (tgN 12 sc__law_right.nd)) (fun _ _ _ _ _ => dts_nil) (fun _ _ _ _ _ => (de_asD (vc D_count_forms (hr.mono (by decide)) hgd (da_cons (dv 12) da_nil)))))) (de_frz (oe_lst (da_cons de_int (da_cons de_int (da_cons de_int (da_cons de_int (da_cons de_int da_nil)))))))))))))))))))), hm, F.binds fun _ _ _ _ _ _ us hl => match us, hl with | [_], _ => rfl⟩
/-! ### law -/
abbrev s_law : Stmt := topS 36
abbrev ps_law : List PySem.Str := ["script"]
abbrev N_law : List PySem.Str := ["script", "lap", "bag", "turn"]
theorem sc_law : FnScope N_law ps_law (defScope s_law) := ⟨rfl, rfl, rfl, by decide +kernel, rfl, by decide +kernel, by decide +kernel⟩
def bm_law : Cm Fl := (seqM (forM (itD (argC (caM (argC (ret (.int 2)) (argC (caM (argC (caM (argC (rdV 0) argN) lenD) (argC (ret (.int 3)) argN)) min2D) argN)) max2D) argN) rng1D) (stD 1) (seqM (setO 2 (asO (callP ps__law_bag.length fm__law_bag (argC (rdV 0) (argC (rdV 1) argN))))) (ite3 (nots (tru (caM (argC (frz (lcM [3] (itD (argC (ret (.int 8)) argN) rng1D) (stD 3) (ret true) (asD (callB ps__law_right.length fm__law_right 2 argN)))) argN) allD))) (retM (ret (.bool false))) nextM))) (retM (ret (.bool true))))
def fm_law : Fm := fnM 4 bm_law
theorem df_law {P : Program} {w : World} {K : PySem.W.Frag} {mg : PySem.Str → Option Value} {base : Heap} {tabs : List (Addr × PySem.Str)} {f : Addr} {fd : FuncData} (M : MG mg) (D__law_bag : Df P w K mg base tabs 1 "_law_bag" s__law_bag ps__law_bag fm__law_bag) (D__law_right : Df P w K mg base tabs 6 "_law_right" s__law_right ps__law_right fm__law_right) (F : Fun K "law" "law" s_law f fd) (hm : mg "law" = some (.ref f)) : Df P w K mg base tabs 7 "law" s_law ps_law fm_law :=
  ⟨f, fd, F, fun_okG F sc_law (fun cdv A outer s H E hr hgd => (dss_cons (ds_for (vs := [1]) (passes_of rfl) rfl (di_range1 (by rfl) M.b_range (da_cons (b_max2 M.b_max rfl de_int (b_min2 M.b_min rfl (b_len M.b_len (dv 0)) de_int)) da_nil)) (tgN 1 sc_law.nd) (dss_cons (sTO 2 sc_law.nd (oe_asO (vc D__law_bag (hr.mono (by decide)) hgd (da_cons (dv 0) (da_cons (dv 1) da_nil))))) (dss_one (ds_if (dt_not (dt_val (b_all M.b_all rfl (de_frz (oe_lc (own := [("turn", 3)]) rfl sc_law.nd (di_range1 (by rfl) M.b_range (da_cons de_int da_nil)) (blkOk_by (by kernel_rfl)) (fun _ _ _ _ _ => (tgN 3 sc_law.nd)) (fun _ _ _ _ _ => dts_nil) (fun _ _ _ _ _ => (de_asD (vcB 2 D__law_right (hr.mono (by decide)) hgd da_nil)))))))) (dss_one (ds_ret de_bool)) dss_nil)))) (dss_one (ds_ret de_bool)))), hm, F.binds fun _ _ _ _ _ _ us hl => match us, hl with | [_], _ => rfl⟩
end law_k63_whole_means_of_crowds
end S_G

section S_P
namespace law_k63_whole_means_of_crowds
open PySem PySem.Spec PyProof.Rows L2 PL
theorem forms1 : fm_count_forms none [.int 1] = .ok (.dat (.int 1)) none := by kernel_rfl
theorem forms2 : fm_count_forms none [.int 2] = .ok (.dat (.int 2)) none := by kernel_rfl
theorem forms3 : fm_count_forms none [.int 3] = .ok (.dat (.int 4)) none := by kernel_rfl
theorem forms4 : fm_count_forms none [.int 4] = .ok (.dat (.int 11)) none := by kernel_rfl
theorem forms5 : fm_count_forms none [.int 5] = .ok (.dat (.int 34)) none := by kernel_rfl
def topF (p m : Int) : Int := (List.range m.toNat).foldl (fun (t : Int) (k : Nat) => (t * (p - k)).fdiv (k + 1)) 1
def lowF (m : Int) : Int := 2 ^ ((m * (m - 1)).fdiv 2).toNat
def dueF (p m : Int) : D := if 0 < topF p m then .tuple [.int (topF p m / (Int.gcd (topF p m) (lowF m) : Nat)), .int (lowF m / (Int.gcd (topF p m) (lowF m) : Nat))] else .tuple [.int 0, .int 1]
def lastK (n : Int) (o : Sl) : Sl := if 0 < n then .dat (.int (n - 1)) else o
abbrev nB : Cm Fl := seqM (asgM (tupM (argC (ret (.int 1)) (argC (ret (.int 1)) argN))) (gTupM 2 (gConsM (stD 3) (gConsM (stD 4) gNilM)))) (seqM (PL.forM (itD (argC (rdV 2) argN) rng1D) (stD 5) (setM 3 (o2 (o2 (rdV 3) (o2 (rdV 1) (rdV 5) subD) mulD) (o2 (rdV 5) (ret (.int 1)) addD) fdivD))) (seqM (PL.forM (itD (argC (o2 (o2 (rdV 2) (o2 (rdV 2) (ret (.int 1)) subD) mulD) (ret (.int 2)) fdivD) argN) rng1D) (stD 5) (setM 4 (o2 (ret (.int 2)) (rdV 4) mulD))) (seqM (setM 6 (ite3 (tru (o2 (rdV 3) (ret (.int 0)) gtD)) (asD (callP ps__law_lowest.length fm__law_lowest (argC (rdV 3) (argC (rdV 4) argN)))) (tupM (argC (ret (.int 0)) (argC (ret (.int 1)) argN))))) (ite3 (repM (frz (lstM (argC (asD (callP ps_mean_crowds.length fm_mean_crowds (argC (rdV 1) (argC (rdV 2) argN)))) (argC (asD (callK ps_mean_crowds.length fm_mean_crowds 0 2 [1, 0] argN (argC (rdV 2) (argC (rdV 1) argN)))) argN)))) (frz (lstM (argC (rdV 6) (argC (rdV 6) argN)))) false) (retM (ret (.bool false))) nextM))))
abbrev stA (x : List D) (p m : Int) : En := [.own x true, .dat (.int p), .dat (.int m), .no, .no, .no, .no, .no, .no, .no, .no, .no, .no]
abbrev stB (x : List D) (p m : Int) : En := [.own x true, .dat (.int p), .dat (.int m), .dat (.int (topF p m)), .dat (.int (lowF m)), lastK ((m * (m - 1)).fdiv 2) (lastK m .no), .dat (dueF p m), .no, .no, .no, .no, .no, .no]
def pmL : List (Int × Int) := (List.range 99).flatMap fun (i : Nat) => (List.range 6).map fun (j : Nat) => ((i : Int) + 1, (j : Int) + 1)
theorem pm_mem {p m : Int} (h1 : 1 ≤ p) (h2 : p ≤ 99) (h3 : 1 ≤ m) (h4 : m ≤ 6) : (p, m) ∈ pmL := by
  refine List.mem_flatMap.mpr ⟨(p - 1).toNat, by simp; omega, List.mem_map.mpr ⟨(m - 1).toNat, by simp; omega, ?_⟩⟩
  refine Prod.ext ?_ ?_ <;> simp <;> omega
theorem allB (x : List D) : pmL.map (fun t => nB (stA x t.1 t.2)) = pmL.map (fun t => .ok .nx (stB x t.1 t.2)) := by kernel_rfl
theorem w_B (x : List D) {p m : Int} (h1 : 1 ≤ p) (h2 : p ≤ 99) (h3 : 1 ≤ m) (h4 : m ≤ 6) : nB (stA x p m) = .ok .nx (stB x p m) := List.map_inj_left.mp (allB x) (p, m) (pm_mem h1 h2 h3 h4)
theorem allM : pmL.map (fun t => fm_mean_crowds none [.int t.1, .int 1]) = pmL.map (fun t => .ok (.dat (.tuple [.int t.1, .int 1])) none) := by kernel_rfl
theorem w_M {p : Int} (h1 : 1 ≤ p) (h2 : p ≤ 99) : fm_mean_crowds none [.int p, .int 1] = .ok (.dat (.tuple [.int p, .int 1])) none := List.map_inj_left.mp allM (p, 1) (pm_mem h1 h2 (by decide) (by decide))
/-! ### all lots, all webs of a few -/
def insLot (f : List Int → D) (x : List Int) : List (List Int) → List (List Int)
  | [] => [x]
  | y :: l => if dle (f x) (f y) then x :: y :: l else y :: insLot f x l
def srtLots (n : Nat) : List (List Int) := (madeL n).foldr (insLot lotI) []
theorem lots_perm : ∀ n ∈ [1, 2, 3, 4], (srtLots n).isPerm (madeL n) = true := by decide +kernel
theorem lots_pw : ∀ n ∈ [1, 2, 3, 4], (srtLots n).Pairwise fun a b => dle (lotI b) (lotI a) = false := by decide +kernel
theorem lots_ok : ∀ n ∈ [1, 2, 3, 4], okSrt ((madeL n).map lotI) = true := by decide +kernel
theorem lots_srt (n : Nat) (h : n ∈ [1, 2, 3, 4]) : sortD [.list ((madeL n).map lotI)] = some ((srtLots n).map lotI) :=
  sort_isM lotI (lots_ok n h) (List.isPerm_iff.mp (lots_perm n h)) (lots_pw n h)
theorem w_lotsG (i j : Int) (M S : List D) (a1 : PL.forM (itD (argC (rdV 0) argN) rng1D) (stD 2) (setM 1 (o2 (rdV 1) (frz (lcM [3] (itM (rdV 1)) (stD 3) (ret true) (o2 (rdV 3) (tupM (argC (rdV 2) argN)) addD))) addD)) [.dat (.int i), .dat (.list [.tuple []]), .no, .no] = .ok .nx [.dat (.int i), .dat (.list M), .dat (.int j), .no])
    (so : sortD [.list M] = some S) : fm__law_lots none [.int i] = .ok (.dat (.list S)) none := by
  have a0 : setM 1 (frz (lstM (argC (tupM argN) argN))) [.dat (.int i), .no, .no, .no] = .ok .nx [.dat (.int i), .dat (.list [.tuple []]), .no, .no] := rfl
  have c : caL (argC (rdV 1) argN) sortD [.dat (.int i), .dat (.list M), .dat (.int j), .no] = .ok S [.dat (.int i), .dat (.list M), .dat (.int j), .no] := by
    unfold caL
    rw [bnd_ap, argC_ap, show rdV 1 [.dat (.int i), .dat (.list M), .dat (.int j), .no] = .ok (.list M) [.dat (.int i), .dat (.list M), .dat (.int j), .no] from rfl]
    simp only [bind_ok, argN_ap, ret_ap]
    rw [so]
    rfl
  unfold fm__law_lots fnM bm__law_lots
  show finR none (seqM (setM 1 _) (seqM (PL.forM _ _ _) (retM _)) [.dat (.int i), .no, .no, .no]) = _
  rw [seqM_ap, a0]
  simp only [bind_ok]
  rw [seqM_ap, a1]
  simp only [bind_ok]
  rw [retM_ap, frz_ap, c]
  rfl
theorem lots_made1 : PL.forM (itD (argC (rdV 0) argN) rng1D) (stD 2) (setM 1 (o2 (rdV 1) (frz (lcM [3] (itM (rdV 1)) (stD 3) (ret true) (o2 (rdV 3) (tupM (argC (rdV 2) argN)) addD))) addD)) [.dat (.int 1), .dat (.list [.tuple []]), .no, .no]
    = .ok .nx [.dat (.int 1), .dat (.list ((madeL 1).map lotI)), .dat (.int 0), .no] := by kernel_rfl
theorem w_lots1 : fm__law_lots none [.int 1] = .ok (.dat (.list ((srtLots 1).map lotI))) none := w_lotsG _ _ _ _ lots_made1 (lots_srt 1 (by decide))
theorem lots_made2 : PL.forM (itD (argC (rdV 0) argN) rng1D) (stD 2) (setM 1 (o2 (rdV 1) (frz (lcM [3] (itM (rdV 1)) (stD 3) (ret true) (o2 (rdV 3) (tupM (argC (rdV 2) argN)) addD))) addD)) [.dat (.int 2), .dat (.list [.tuple []]), .no, .no]
    = .ok .nx [.dat (.int 2), .dat (.list ((madeL 2).map lotI)), .dat (.int 1), .no] := by kernel_rfl
theorem w_lots2 : fm__law_lots none [.int 2] = .ok (.dat (.list ((srtLots 2).map lotI))) none := w_lotsG _ _ _ _ lots_made2 (lots_srt 2 (by decide))
theorem lots_made3 : PL.forM (itD (argC (rdV 0) argN) rng1D) (stD 2) (setM 1 (o2 (rdV 1) (frz (lcM [3] (itM (rdV 1)) (stD 3) (ret true) (o2 (rdV 3) (tupM (argC (rdV 2) argN)) addD))) addD)) [.dat (.int 3), .dat (.list [.tuple []]), .no, .no]
    = .ok .nx [.dat (.int 3), .dat (.list ((madeL 3).map lotI)), .dat (.int 2), .no] := by kernel_rfl
theorem w_lots3 : fm__law_lots none [.int 3] = .ok (.dat (.list ((srtLots 3).map lotI))) none := w_lotsG _ _ _ _ lots_made3 (lots_srt 3 (by decide))
theorem lots_made4 : PL.forM (itD (argC (rdV 0) argN) rng1D) (stD 2) (setM 1 (o2 (rdV 1) (frz (lcM [3] (itM (rdV 1)) (stD 3) (ret true) (o2 (rdV 3) (tupM (argC (rdV 2) argN)) addD))) addD)) [.dat (.int 4), .dat (.list [.tuple []]), .no, .no]
    = .ok .nx [.dat (.int 4), .dat (.list ((madeL 4).map lotI)), .dat (.int 3), .no] := by kernel_rfl
theorem w_lots4 : fm__law_lots none [.int 4] = .ok (.dat (.list ((srtLots 4).map lotI))) none := w_lotsG _ _ _ _ lots_made4 (lots_srt 4 (by decide))
theorem w_lots (p : Int) (h1 : 1 ≤ p) (h2 : p ≤ 4) : fm__law_lots none [.int p] = .ok (.dat (.list ((srtLots p.toNat).map lotI))) none := by
  have e : p = 1 ∨ p = 2 ∨ p = 3 ∨ p = 4 := by omega
  rcases e with rfl | rfl | rfl | rfl
  · exact w_lots1
  · exact w_lots2
  · exact w_lots3
  · exact w_lots4
/-- pairs of a few, told by places -/
def prsP (p : Nat) : List Pr := (List.range p).flatMap fun (i : Nat) => ((List.range p).filter fun (j : Nat) => decide (i < j)).map fun (j : Nat) => ((i : Int), (j : Int))
theorem allP : ([1, 2, 3, 4] : List Int).map (fun p => fm__law_pairs none [.int p]) = ([1, 2, 3, 4] : List Int).map fun p => .ok (.dat (.list ((prsP p.toNat).map pD))) none := by kernel_rfl
theorem w_pairs (p : Int) (h1 : 1 ≤ p) (h2 : p ≤ 4) : fm__law_pairs none [.int p] = .ok (.dat (.list ((prsP p.toNat).map pD))) none := List.map_inj_left.mp allP p (by simp; omega)
/-- a lot of pairs, told by places -/
def tieI (p : Nat) (l : List Int) : D := .tuple (l.map fun k => pD ((prsP p).getD k.toNat (0, 0)))
def srtTies (p : Nat) : List (List Int) := (madeL (prsP p).length).foldr (insLot (tieI p)) []
theorem ties_perm : ∀ n ∈ [1, 2, 3, 4], (srtTies n).isPerm (madeL (prsP n).length) = true := by decide +kernel
theorem ties_pw : ∀ n ∈ [1, 2, 3, 4], (srtTies n).Pairwise fun a b => dle (tieI n b) (tieI n a) = false := by decide +kernel
theorem ties_ok : ∀ n ∈ [1, 2, 3, 4], okSrt ((madeL (prsP n).length).map (tieI n)) = true := by decide +kernel
theorem ties_srt (n : Nat) (h : n ∈ [1, 2, 3, 4]) : sortD [.list ((madeL (prsP n).length).map (tieI n))] = some ((srtTies n).map (tieI n)) :=
  sort_isM (tieI n) (ties_ok n h) (List.isPerm_iff.mp (ties_perm n h)) (ties_pw n h)
theorem w_someG (P : D) (j : Sl) (M S : List D) (a1 : PL.forM (itM (rdV 0)) (stD 2) (setM 1 (o2 (rdV 1) (frz (lcM [3] (itM (rdV 1)) (stD 3) (ret true) (o2 (rdV 3) (tupM (argC (rdV 2) argN)) addD))) addD)) [.dat P, .dat (.list [.tuple []]), .no, .no] = .ok .nx [.dat P, .dat (.list M), j, .no])
    (so : sortD [.list M] = some S) : fm__law_some none [P] = .ok (.dat (.list S)) none := by
  have a0 : setM 1 (frz (lstM (argC (tupM argN) argN))) [.dat P, .no, .no, .no] = .ok .nx [.dat P, .dat (.list [.tuple []]), .no, .no] := rfl
  have c : caL (argC (rdV 1) argN) sortD [.dat P, .dat (.list M), j, .no] = .ok S [.dat P, .dat (.list M), j, .no] := by
    unfold caL
    rw [bnd_ap, argC_ap, show rdV 1 [.dat P, .dat (.list M), j, .no] = .ok (.list M) [.dat P, .dat (.list M), j, .no] from rfl]
    simp only [bind_ok, argN_ap, ret_ap]
    rw [so]
    rfl
  unfold fm__law_some fnM bm__law_some
  show finR none (seqM (setM 1 _) (seqM (PL.forM _ _ _) (retM _)) [.dat P, .no, .no, .no]) = _
  rw [seqM_ap, a0]
  simp only [bind_ok]
  rw [seqM_ap, a1]
  simp only [bind_ok]
  rw [retM_ap, frz_ap, c]
  rfl
theorem ties_made1 : PL.forM (itM (rdV 0)) (stD 2) (setM 1 (o2 (rdV 1) (frz (lcM [3] (itM (rdV 1)) (stD 3) (ret true) (o2 (rdV 3) (tupM (argC (rdV 2) argN)) addD))) addD)) [.dat (.list ((prsP 1).map pD)), .dat (.list [.tuple []]), .no, .no]
    = .ok .nx [.dat (.list ((prsP 1).map pD)), .dat (.list ((madeL (prsP 1).length).map (tieI 1))), .no, .no] := by kernel_rfl
theorem w_some1 : fm__law_some none [.list ((prsP 1).map pD)] = .ok (.dat (.list ((srtTies 1).map (tieI 1)))) none := w_someG _ _ _ _ ties_made1 (ties_srt 1 (by decide))
theorem ties_made2 : PL.forM (itM (rdV 0)) (stD 2) (setM 1 (o2 (rdV 1) (frz (lcM [3] (itM (rdV 1)) (stD 3) (ret true) (o2 (rdV 3) (tupM (argC (rdV 2) argN)) addD))) addD)) [.dat (.list ((prsP 2).map pD)), .dat (.list [.tuple []]), .no, .no]
    = .ok .nx [.dat (.list ((prsP 2).map pD)), .dat (.list ((madeL (prsP 2).length).map (tieI 2))), (.dat (pD (0, 1))), .no] := by kernel_rfl
theorem w_some2 : fm__law_some none [.list ((prsP 2).map pD)] = .ok (.dat (.list ((srtTies 2).map (tieI 2)))) none := w_someG _ _ _ _ ties_made2 (ties_srt 2 (by decide))
theorem ties_made3 : PL.forM (itM (rdV 0)) (stD 2) (setM 1 (o2 (rdV 1) (frz (lcM [3] (itM (rdV 1)) (stD 3) (ret true) (o2 (rdV 3) (tupM (argC (rdV 2) argN)) addD))) addD)) [.dat (.list ((prsP 3).map pD)), .dat (.list [.tuple []]), .no, .no]
    = .ok .nx [.dat (.list ((prsP 3).map pD)), .dat (.list ((madeL (prsP 3).length).map (tieI 3))), (.dat (pD (1, 2))), .no] := by kernel_rfl
theorem w_some3 : fm__law_some none [.list ((prsP 3).map pD)] = .ok (.dat (.list ((srtTies 3).map (tieI 3)))) none := w_someG _ _ _ _ ties_made3 (ties_srt 3 (by decide))
theorem ties_made4 : PL.forM (itM (rdV 0)) (stD 2) (setM 1 (o2 (rdV 1) (frz (lcM [3] (itM (rdV 1)) (stD 3) (ret true) (o2 (rdV 3) (tupM (argC (rdV 2) argN)) addD))) addD)) [.dat (.list ((prsP 4).map pD)), .dat (.list [.tuple []]), .no, .no]
    = .ok .nx [.dat (.list ((prsP 4).map pD)), .dat (.list ((madeL (prsP 4).length).map (tieI 4))), (.dat (pD (2, 3))), .no] := by kernel_rfl
theorem w_some4 : fm__law_some none [.list ((prsP 4).map pD)] = .ok (.dat (.list ((srtTies 4).map (tieI 4)))) none := w_someG _ _ _ _ ties_made4 (ties_srt 4 (by decide))
theorem w_some (p : Int) (h1 : 1 ≤ p) (h2 : p ≤ 4) : fm__law_some none [.list ((prsP p.toNat).map pD)] = .ok (.dat (.list ((srtTies p.toNat).map (tieI p.toNat)))) none := by
  have e : p = 1 ∨ p = 2 ∨ p = 3 ∨ p = 4 := by omega
  rcases e with rfl | rfl | rfl | rfl
  · exact w_some1
  · exact w_some2
  · exact w_some3
  · exact w_some4
/-! ### the look through all webs of a few -/
abbrev stC (x : List D) (p m : Int) : En := [.own x true, .dat (.int p), .dat (.int m), .dat (.int (topF p m)), .dat (.int (lowF m)), lastK ((m * (m - 1)).fdiv 2) (lastK m .no), .dat (dueF p m), .dat (.list ((srtTies p.toNat).map (tieI p.toNat))), .dat (.int 0), .no, .no, .no, .no]
def fewL (p m : Int) : List D := ((srtLots p.toNat).filter fun l => decide ((l.length : Int) = m)).map lotI
abbrev stD9 (x : List D) (p m : Int) : En := [.own x true, .dat (.int p), .dat (.int m), .dat (.int (topF p m)), .dat (.int (lowF m)), lastK ((m * (m - 1)).fdiv 2) (lastK m .no), .dat (dueF p m), .dat (.list ((srtTies p.toNat).map (tieI p.toNat))), .dat (.int 0), .dat (.list (fewL p m)), .no, .no, .no]
def wholeF (p m : Int) : Int := if m ≤ p then (topF p m) * 2 ^ ((p * (p - 1)).fdiv 2 - (m * (m - 1)).fdiv 2).toNat else 0
abbrev stE (x : List D) (p m : Int) : En := [.own x true, .dat (.int p), .dat (.int m), .dat (.int (topF p m)), .dat (.int (lowF m)), lastK ((m * (m - 1)).fdiv 2) (lastK m .no), .dat (dueF p m), .dat (.list ((srtTies p.toNat).map (tieI p.toNat))), .dat (.int (wholeF p m)), .dat (.list (fewL p m)), .dat (((srtTies p.toNat).map (tieI p.toNat)).getLastD .none), .no, .no]
def pm4 : List (Int × Int) := (List.range 4).flatMap fun (i : Nat) => (List.range 6).map fun (j : Nat) => ((i : Int) + 1, (j : Int) + 1)
theorem pm4_mem {p m : Int} (h1 : 1 ≤ p) (h2 : p ≤ 4) (h3 : 1 ≤ m) (h4 : m ≤ 6) : (p, m) ∈ pm4 := by
  refine List.mem_flatMap.mpr ⟨(p - 1).toNat, by simp; omega, List.mem_map.mpr ⟨(m - 1).toNat, by simp; omega, ?_⟩⟩
  refine Prod.ext ?_ ?_ <;> simp <;> omega
theorem allL (x : List D) : pm4.map (fun t => lcL [11] (stD 11) (tru (o2 (caM (argC (rdV 11) argN) lenD) (rdV 2) eqD)) (rdV 11) ((srtLots t.1.toNat).map lotI) (stC x t.1 t.2)) = pm4.map fun t => .ok (fewL t.1 t.2) (stC x t.1 t.2) := by kernel_rfl
theorem w_L (x : List D) {p m : Int} (h1 : 1 ≤ p) (h2 : p ≤ 4) (h3 : 1 ≤ m) (h4 : m ≤ 6) : lcL [11] (stD 11) (tru (o2 (caM (argC (rdV 11) argN) lenD) (rdV 2) eqD)) (rdV 11) ((srtLots p.toNat).map lotI) (stC x p m) = .ok (fewL p m) (stC x p m) :=
  List.map_inj_left.mp (allL x) (p, m) (pm4_mem h1 h2 h3 h4)
abbrev nE : Cm Fl := seqM (PL.forM (itM (rdV 7)) (stD 10) (setM 8 (o2 (rdV 8) (caM (argC (frz (lcM [11] (itM (rdV 9)) (stD 11) (tru (asD (callP ps__law_is_crowd.length fm__law_is_crowd (argC (rdV 10) (argC (rdV 11) argN))))) (ret (.int 1)))) argN) lenD) addD))) (ite3 (tru (o2 (rdV 6) (ite3 (tru (o2 (rdV 8) (ret (.int 0)) gtD)) (asD (callP ps__law_lowest.length fm__law_lowest (argC (rdV 8) (argC (caM (argC (rdV 7) argN) lenD) argN)))) (tupM (argC (ret (.int 0)) (argC (ret (.int 1)) argN)))) neD)) (retM (ret (.bool false))) nextM)
theorem allE_11 (x : List D) : nE (stD9 x 1 1) = .ok .nx (stE x 1 1) := by kernel_rfl
theorem allE_12 (x : List D) : nE (stD9 x 1 2) = .ok .nx (stE x 1 2) := by kernel_rfl
theorem allE_13 (x : List D) : nE (stD9 x 1 3) = .ok .nx (stE x 1 3) := by kernel_rfl
theorem allE_14 (x : List D) : nE (stD9 x 1 4) = .ok .nx (stE x 1 4) := by kernel_rfl
theorem allE_15 (x : List D) : nE (stD9 x 1 5) = .ok .nx (stE x 1 5) := by kernel_rfl
theorem allE_16 (x : List D) : nE (stD9 x 1 6) = .ok .nx (stE x 1 6) := by kernel_rfl
theorem allE_21 (x : List D) : nE (stD9 x 2 1) = .ok .nx (stE x 2 1) := by kernel_rfl
theorem allE_22 (x : List D) : nE (stD9 x 2 2) = .ok .nx (stE x 2 2) := by kernel_rfl
theorem allE_23 (x : List D) : nE (stD9 x 2 3) = .ok .nx (stE x 2 3) := by kernel_rfl
theorem allE_24 (x : List D) : nE (stD9 x 2 4) = .ok .nx (stE x 2 4) := by kernel_rfl
theorem allE_25 (x : List D) : nE (stD9 x 2 5) = .ok .nx (stE x 2 5) := by kernel_rfl
theorem allE_26 (x : List D) : nE (stD9 x 2 6) = .ok .nx (stE x 2 6) := by kernel_rfl
theorem allE_31 (x : List D) : nE (stD9 x 3 1) = .ok .nx (stE x 3 1) := by kernel_rfl
theorem allE_32 (x : List D) : nE (stD9 x 3 2) = .ok .nx (stE x 3 2) := by kernel_rfl
theorem allE_33 (x : List D) : nE (stD9 x 3 3) = .ok .nx (stE x 3 3) := by kernel_rfl
theorem allE_34 (x : List D) : nE (stD9 x 3 4) = .ok .nx (stE x 3 4) := by kernel_rfl
theorem allE_35 (x : List D) : nE (stD9 x 3 5) = .ok .nx (stE x 3 5) := by kernel_rfl
theorem allE_36 (x : List D) : nE (stD9 x 3 6) = .ok .nx (stE x 3 6) := by kernel_rfl
theorem allE_41 (x : List D) : nE (stD9 x 4 1) = .ok .nx (stE x 4 1) := by kernel_rfl
theorem allE_42 (x : List D) : nE (stD9 x 4 2) = .ok .nx (stE x 4 2) := by kernel_rfl
theorem allE_43 (x : List D) : nE (stD9 x 4 3) = .ok .nx (stE x 4 3) := by kernel_rfl
theorem allE_44 (x : List D) : nE (stD9 x 4 4) = .ok .nx (stE x 4 4) := by kernel_rfl
theorem allE_45 (x : List D) : nE (stD9 x 4 5) = .ok .nx (stE x 4 5) := by kernel_rfl
theorem allE_46 (x : List D) : nE (stD9 x 4 6) = .ok .nx (stE x 4 6) := by kernel_rfl
theorem w_E (x : List D) {p m : Int} (h1 : 1 ≤ p) (h2 : p ≤ 4) (h3 : 1 ≤ m) (h4 : m ≤ 6) : nE (stD9 x p m) = .ok .nx (stE x p m) := by
  obtain rfl | rfl | rfl | rfl : p = 1 ∨ p = 2 ∨ p = 3 ∨ p = 4 := by omega
  · obtain rfl | rfl | rfl | rfl | rfl | rfl : m = 1 ∨ m = 2 ∨ m = 3 ∨ m = 4 ∨ m = 5 ∨ m = 6 := by omega
    · exact allE_11 x
    · exact allE_12 x
    · exact allE_13 x
    · exact allE_14 x
    · exact allE_15 x
    · exact allE_16 x
  · obtain rfl | rfl | rfl | rfl | rfl | rfl : m = 1 ∨ m = 2 ∨ m = 3 ∨ m = 4 ∨ m = 5 ∨ m = 6 := by omega
    · exact allE_21 x
    · exact allE_22 x
    · exact allE_23 x
    · exact allE_24 x
    · exact allE_25 x
    · exact allE_26 x
  · obtain rfl | rfl | rfl | rfl | rfl | rfl : m = 1 ∨ m = 2 ∨ m = 3 ∨ m = 4 ∨ m = 5 ∨ m = 6 := by omega
    · exact allE_31 x
    · exact allE_32 x
    · exact allE_33 x
    · exact allE_34 x
    · exact allE_35 x
    · exact allE_36 x
  · obtain rfl | rfl | rfl | rfl | rfl | rfl : m = 1 ∨ m = 2 ∨ m = 3 ∨ m = 4 ∨ m = 5 ∨ m = 6 := by omega
    · exact allE_41 x
    · exact allE_42 x
    · exact allE_43 x
    · exact allE_44 x
    · exact allE_45 x
    · exact allE_46 x
theorem sz_few (p : Int) (h1 : 1 ≤ p) (h2 : p ≤ 4) : sizeOkL ((srtLots p.toNat).map lotI).length = true := by
  have e : ∀ n ∈ [1, 2, 3, 4], sizeOkL ((srtLots n).map lotI).length = true := by decide +kernel
  exact e p.toNat (by simp; omega)
abbrev nC : Cm Fl := ite3 (tru (o2 (rdV 1) (ret (.int 5)) ltD)) (seqM (parM 7 8 (argC (asD (callP ps__law_some.length fm__law_some (argC (asD (callP ps__law_pairs.length fm__law_pairs (argC (rdV 1) argN))) argN))) (argC (ret (.int 0)) argN))) (seqM (setM 9 (frz (lcM [11] (itM (asD (callP ps__law_lots.length fm__law_lots (argC (rdV 1) argN)))) (stD 11) (tru (o2 (caM (argC (rdV 11) argN) lenD) (rdV 2) eqD)) (rdV 11)))) nE)) nextM
theorem lt_int (i j : Int) : ltD (.int i) (.int j) = some (.bool (decide (i < j))) := rfl
theorem w_C (x : List D) {p m : Int} (h1 : 1 ≤ p) (h2 : p ≤ 99) (h3 : 1 ≤ m) (h4 : m ≤ 6) : ∃ a b c d e f, nC (stB x p m) = .ok .nx [.own x true, .dat (.int p), .dat (.int m), .dat (.int (topF p m)), .dat (.int (lowF m)), a, .dat (dueF p m), b, c, d, e, f, .no] := by
  by_cases h5 : p < 5
  · have hp : p ≤ 4 := by omega
    have a1 : parM 7 8 (argC (asD (callP ps__law_some.length fm__law_some (argC (asD (callP ps__law_pairs.length fm__law_pairs (argC (rdV 1) argN))) argN))) (argC (ret (.int 0)) argN)) (stB x p m) = .ok .nx (stC x p m) := by
      have w1 := w_pairs p h1 hp
      have w2 := w_some p h1 hp
      generalize (prsP p.toNat).map pD = P at w1 w2
      generalize hS : (srtTies p.toNat).map (tieI p.toNat) = S at w2
      unfold stB stC
      rw [hS]
      generalize lastK ((m * (m - 1)).fdiv 2) (lastK m .no) = l5
      generalize dueF p m = du
      simp [rdV, w1, w2]
    have i1 : itM (asD (callP ps__law_lots.length fm__law_lots (argC (rdV 1) argN))) (stC x p m) = .ok ((srtLots p.toNat).map lotI) (stC x p m) := by
      have w1 := w_lots p h1 hp
      unfold stC
      generalize (srtTies p.toNat).map (tieI p.toNat) = S
      generalize lastK ((m * (m - 1)).fdiv 2) (lastK m .no) = l5
      generalize dueF p m = du
      simp [rdV, w1]
    have key := lcM_of (vs := [11]) (fi := itM (asD (callP ps__law_lots.length fm__law_lots (argC (rdV 1) argN)))) (g := stD 11) (t := tru (o2 (caM (argC (rdV 11) argN) lenD) (rdV 2) eqD)) (e := rdV 11) (ρ2 := stC x p m) (ys := fewL p m) i1 (by
      rw [sz_few p h1 hp]
      rfl) (w_L x h1 hp h3 h4)
    have a2 : setM 9 (frz (lcM [11] (itM (asD (callP ps__law_lots.length fm__law_lots (argC (rdV 1) argN)))) (stD 11) (tru (o2 (caM (argC (rdV 11) argN) lenD) (rdV 2) eqD)) (rdV 11))) (stC x p m) = .ok .nx (stD9 x p m) := by
      rw [setM_ap, frz_ap, key]
      rfl
    refine ⟨lastK ((m * (m - 1)).fdiv 2) (lastK m .no), .dat (.list ((srtTies p.toNat).map (tieI p.toNat))), .dat (.int (wholeF p m)), .dat (.list (fewL p m)), .dat (((srtTies p.toNat).map (tieI p.toNat)).getLastD .none), .no, ?_⟩
    · show nC (stB x p m) = .ok .nx (stE x p m)
      unfold nC
      rw [ite3_ap, show tru (o2 (rdV 1) (ret (.int 5)) ltD) (stB x p m) = .ok true (stB x p m) by
        rw [tru_ap, o2_ap, show rdV 1 (stB x p m) = .ok (.int p) (stB x p m) from rfl, bind_ok, ret_ap, bind_ok, lt_int, decide_eq_true h5]
        rfl]
      simp only [bind_ok, if_true]
      rw [seqM_ap, a1]
      simp only [bind_ok]
      rw [seqM_ap, a2]
      simp only [bind_ok]
      exact w_E x h1 hp h3 h4
  · refine ⟨lastK ((m * (m - 1)).fdiv 2) (lastK m .no), .no, .no, .no, .no, .no, ?_⟩
    · show nC (stB x p m) = .ok .nx (stB x p m)
      unfold nC
      rw [ite3_ap, show tru (o2 (rdV 1) (ret (.int 5)) ltD) (stB x p m) = .ok false (stB x p m) by
        rw [tru_ap, o2_ap, show rdV 1 (stB x p m) = .ok (.int p) (stB x p m) from rfl, bind_ok, ret_ap, bind_ok, lt_int, decide_eq_false h5]
        rfl]
      rfl
theorem gt_int (i j : Int) : gtD (.int i) (.int j) = some (.bool (decide (j < i))) := rfl
theorem lt_int' (i j : Int) : ltD (.int i) (.int j) = some (.bool (decide (i < j))) := rfl
theorem ge_int' (i j : Int) : geD (.int i) (.int j) = some (.bool (decide (j ≤ i))) := rfl
theorem mul_int' (i j : Int) (h1 : i.natAbs < 2 ^ 400) (h2 : j.natAbs < 2 ^ 400) : mulD (.int i) (.int j) = some (.int (i * j)) := by
  show (if mulOk i j then some (PyData.int (i * j)) else none) = _
  rw [if_pos (mulOk_small h1 h2)]
theorem mod_int (i j : Int) (h : j ≠ 0) : modD (.int i) (.int j) = some (.int (i.fmod j)) := by
  show (if decide (j ≠ 0) then some (PyData.int (i.fmod j)) else none) = _
  rw [if_pos (decide_eq_true h)]
theorem fdiv_int (i j : Int) (h : j ≠ 0) (h2 : j.natAbs < 1073741824) : fdivD (.int i) (.int j) = some (.int (i.fdiv j)) := by
  show (if decide (j ≠ 0) && decide (j.natAbs < 1073741824) then some (PyData.int (i.fdiv j)) else _) = _
  rw [if_pos (by simp [h, h2])]
theorem divmod_int (i j : Int) (h : 0 < j) (h2 : j < 1000000) : divmodD [.int i, .int j] = some (.tuple [.int (i / j), .int (i % j)]) := by
  have e : Builtin.divisionGoesByPylong i j = false := PyProof.noPylong_small (by omega)
  show (if decide (0 < j) && !Builtin.divisionGoesByPylong i j then some (PyData.tuple [.int (i / j), .int (i % j)]) else none) = _
  rw [e, decide_eq_true h] <;> rfl
theorem fm_bound (x m : Int) (h : 0 < m) : 0 ≤ x.fmod m ∧ x.fmod m < m := ⟨Int.fmod_nonneg_of_pos x h, Int.fmod_lt_of_pos x h⟩
theorem cut_map (ns : List Int) (lo hi : Option Int) : ∃ ms : List Int, PL.cutD (ns.map .int) lo hi = ms.map .int ∧ ms.length ≤ ns.length := by
  unfold PL.cutD
  rw [← List.map_drop, ← List.map_take]
  refine ⟨_, rfl, ?_⟩
  rw [List.length_take, List.length_drop]
  omega

theorem p15 : powD (.int 10) (.int 15) = some (.int 1000000000000000) := by kernel_rfl
theorem int_i (i : Int) : PL.intD [.int i] = some (.int i) := rfl
theorem add_i (i j : Int) : addD (.int i) (.int j) = some (.int (i + j)) := rfl
def PoolOk (B : Int) (xs : List D) : Prop := ∃ c m t : Int, xs = [.int c, .int m, .int t] ∧ 0 ≤ c ∧ 0 ≤ m ∧ m < 2147483647 ∧ 0 ≤ t ∧ t ≤ B
theorem PoolOk.mono {A B : Int} {xs : List D} (h : PoolOk A xs) (k : A ≤ B) : PoolOk B xs := by
  obtain ⟨c, m, t, e, h1, h2, h3, h4, h5⟩ := h
  exact ⟨c, m, t, e, h1, h2, h3, h4, by omega⟩
theorem w_take (B : Int) (xs : List D) (many : Int) (h : PoolOk B xs) (hB : B ≤ 1000000) (h1 : 0 < many) (h2 : many ≤ 1000) :
    ∃ d xs', fm__law_take (some xs) [.int many] = .ok (.dat (.int d)) (some xs') ∧ 0 ≤ d ∧ d < many ∧ PoolOk (B + 1) xs' := by
  obtain ⟨c, m, t, rfl, hc, hm, hm2, ht, ht2⟩ := h
  by_cases h0 : 0 < c
  · refine ⟨c % many, [.int (c / many), .int m, .int t], ?_, Int.emod_nonneg _ (by omega), Int.emod_lt_of_pos _ h1, c / many, m, t, rfl, Int.ediv_nonneg hc (by omega), hm, hm2, ht, by omega⟩
    unfold fm__law_take fnM bm__law_take
    simp [argsS, oL, isVs, o2L, rdO, ixD, atI, ixN, gt_int, h0, rdV, divmod_int c many h1 (by omega), gTupM, gConsM, gSubM, isOs, wrO, putD, gNilM, finR, bag0]
  · obtain ⟨u1, u2⟩ := fm_bound (m * 16807 + 4099 * (t + 1) + 1) 2147483647 (by decide)
    obtain ⟨z1, z2⟩ := fm_bound ((m * 16807 + 4099 * (t + 1) + 1).fmod 2147483647 |>.fdiv 911) many h1
    refine ⟨_, [.int c, .int ((m * 16807 + 4099 * (t + 1) + 1).fmod 2147483647), .int (t + 1)], ?_, z1, z2, c, _, t + 1, rfl, hc, u1, by omega, by omega, by omega⟩
    have e1 : mulD (.int m) (.int 16807) = some (.int (m * 16807)) := mul_int' _ _ (by omega) (by decide)
    have e2 : mulD (.int 4099) (.int (t + 1)) = some (.int (4099 * (t + 1))) := mul_int' _ _ (by decide) (by omega)
    unfold fm__law_take fnM bm__law_take
    simp [argsS, oL, isVs, o2L, rdO, ixD, atI, ixN, gt_int, h0, rdV, add_i, gSubM, isOs, wrO, putD, finR, bag0, e1, e2, int_i, mod_int, fdiv_int, mod_int _ many (by omega)]
theorem w_bag (ns : List Int) (k : Int) (h1 : 0 ≤ k) (h2 : k ≤ 2) : ∃ xs, fm__law_bag none [.list (ns.map .int), .int k] = .ok (.own xs) none ∧ PoolOk 0 xs := by
  obtain ⟨ms2, em2, lm2⟩ := cut_map ns none (some 16)
  have e1 : mulD (.int 8009) (.int k) = some (.int (8009 * k)) := mul_int' _ _ (by decide) (by omega)
  obtain ⟨ρ', f1, m', s3, rfl, f3, f4⟩ := forL_map (g := stD 3) (b := setM 2 (o2 (caM (argC (o2 (o2 (o2 (rdV 2) (ret (.int 48271)) mulD) (o2 (caM (argC (rdV 3) argN) intD) (ret (.int 2147483629)) modD) addD) (ret (.int 23)) addD) argN) intD) (ret (.int 2147483647)) modD))
    PyData.int (fun _ ρ => ∃ m s3, ρ = [.dat (.list (ns.map .int)), .dat (.int k), .dat (.int m), s3, .no] ∧ 0 ≤ m ∧ m < 2147483647) ms2 [] [.dat (.list (ns.map .int)), .dat (.int k), .dat (.int (52027 + 8009 * k)), .no, .no] ⟨_, _, rfl, by omega, by omega⟩ (by
      rintro pre x post ρ e ⟨m, s3, rfl, b1, b2⟩
      obtain ⟨g1, g2⟩ := fm_bound (m * 48271 + x.fmod 2147483629 + 23) 2147483647 (by decide)
      have q1 : mulD (.int m) (.int 48271) = some (.int (m * 48271)) := mul_int' _ _ (by omega) (by decide)
      refine ⟨[.dat (.list (ns.map .int)), .dat (.int k), .dat (.int m), .dat (.int x), .no], [.dat (.list (ns.map .int)), .dat (.int k), .dat (.int ((m * 48271 + x.fmod 2147483629 + 23).fmod 2147483647)), .dat (.int x), .no], rfl, .inl ?_, _, _, rfl, g1, g2⟩
      simp [rdV, q1, mod_int, add_i, int_i])
  obtain ⟨own, eo⟩ : ∃ own : Int, setM 4 (ite3 (tru (o2 (rdV 1) (caM (argC (rdV 0) argN) lenD) ltD)) (caM (argC (o2 (rdV 0) (rdV 1) ixD) argN) intD) (ret (.int 0))) [.dat (.list (ns.map .int)), .dat (.int k), .dat (.int m'), s3, .no] = .ok .nx [.dat (.list (ns.map .int)), .dat (.int k), .dat (.int m'), s3, .dat (.int own)] := by
    by_cases hk : k < (ns.length : Int)
    · have hlt : k.toNat < ns.length := by omega
      refine ⟨ns[k.toNat], ?_⟩
      have ix : ixD (.list (ns.map .int)) (.int k) = some (.int ns[k.toNat]) := by
        have en : ixN (ns.map PyData.int).length k = some k.toNat := by
          unfold ixN
          rw [List.length_map]
          simp [h1, hk]
        show atI (ns.map PyData.int) k = _
        unfold atI
        rw [en]
        simp [hlt]
      simp [rdV, lenD, lt_int', hk, ix, int_i]
    · exact ⟨0, by simp [rdV, lenD, lt_int', hk]⟩
  obtain ⟨c1, c2⟩ := fm_bound own 2147483629 (by decide)
  obtain ⟨g1, g2⟩ := fm_bound (m' * 31 + own.fmod 2147483629 * 17 + 3) 2147483647 (by decide)
  have q1 : mulD (.int m') (.int 31) = some (.int (m' * 31)) := mul_int' _ _ (by omega) (by decide)
  have q2 : mulD (.int (own.fmod 2147483629)) (.int 17) = some (.int (own.fmod 2147483629 * 17)) := mul_int' _ _ (by omega) (by decide)
  have a2 : setM 2 (o2 (caM (argC (o2 (o2 (o2 (rdV 2) (ret (.int 31)) mulD) (o2 (o2 (caM (argC (rdV 4) argN) intD) (ret (.int 2147483629)) modD) (ret (.int 17)) mulD) addD) (ret (.int 3)) addD) argN) intD) (ret (.int 2147483647)) modD) [.dat (.list (ns.map .int)), .dat (.int k), .dat (.int m'), s3, .dat (.int own)] = .ok .nx [.dat (.list (ns.map .int)), .dat (.int k), .dat (.int ((m' * 31 + own.fmod 2147483629 * 17 + 3).fmod 2147483647)), s3, .dat (.int own)] := by
    simp [rdV, q1, q2, mod_int, add_i, int_i]
  generalize (m' * 31 + own.fmod 2147483629 * 17 + 3).fmod 2147483647 = m2 at a2 g1 g2
  have ef : ∃ c : Int, 0 ≤ c ∧ ite3 (ors (tru (o2 (rdV 4) (ret (.int 0)) ltD)) (tru (o2 (rdV 4) (o2 (ret (.int 10)) (ret (.int 15)) powD) geD))) (caM (argC (rdV 4) argN) absD) (ret (.int 0)) [.dat (.list (ns.map .int)), .dat (.int k), .dat (.int m2), s3, .dat (.int own)] = .ok (.int c) [.dat (.list (ns.map .int)), .dat (.int k), .dat (.int m2), s3, .dat (.int own)] := by
    by_cases z1 : own < 0
    · refine ⟨-own, by omega, ?_⟩
      simp [rdV, lt_int', z1, absD]
    · by_cases z2 : (1000000000000000 : Int) ≤ own
      · refine ⟨own, by omega, ?_⟩
        simp [rdV, lt_int', z1, p15, ge_int', z2, absD]
      · refine ⟨0, Int.le_refl _, ?_⟩
        simp [rdV, lt_int', z1, p15, ge_int', z2]
  obtain ⟨c, hc, ec⟩ := ef
  refine ⟨[.int c, .int m2, .int 0], ?_, c, m2, 0, rfl, hc, g1, g2, Int.le_refl _, Int.le_refl _⟩
  unfold fm__law_bag fnM bm__law_bag
  show finR none (seqM (setM 2 _) (seqM (PL.forM _ _ _) (seqM (setM 4 _) (seqM (setM 2 _) (retO _)))) [.dat (.list (ns.map .int)), .dat (.int k), .no, .no, .no]) = _
  have p1 : setM 2 (o2 (ret (.int 52027)) (o2 (ret (.int 8009)) (rdV 1) mulD) addD) [.dat (.list (ns.map .int)), .dat (.int k), .no, .no, .no] = .ok .nx [.dat (.list (ns.map .int)), .dat (.int k), .dat (.int (52027 + 8009 * k)), .no, .no] := by
    simp [rdV, add_i, e1]
  rw [seqM_ap, p1]
  simp only [bind_ok]
  have p2 : itM (slM (rdV 0) ptN (ptS (ret (.int 16)))) [.dat (.list (ns.map .int)), .dat (.int k), .dat (.int (52027 + 8009 * k)), .no, .no] = .ok (ms2.map .int) [.dat (.list (ns.map .int)), .dat (.int k), .dat (.int (52027 + 8009 * k)), .no, .no] := by
    simp [rdV, slD, em2]
  rw [seqM_ap, forM_ap, p2]
  simp only [bind_ok]
  rw [f1]
  simp only [bind_ok]
  rw [seqM_ap, eo]
  simp only [bind_ok]
  rw [seqM_ap, a2]
  simp only [bind_ok]
  rw [retO_ap, lstM_ap, argC_ap, ec]
  rfl
/-! ### the whole look -/
theorem callB_take {B : Int} {xs : List D} (h : PoolOk B xs) (hB : B ≤ 1000000) (many : Int) (h1 : 0 < many) (h2 : many ≤ 1000) (m : Cm (List D)) (tl tl' : En) (xs0 : List D) (hm : m (.own xs0 true :: tl) = .ok [.int many] (.own xs true :: tl')) :
    ∃ d xs', asD (callB ps__law_take.length fm__law_take 0 m) (.own xs0 true :: tl) = .ok (.int d) (.own xs' true :: tl') ∧ 0 ≤ d ∧ d < many ∧ PoolOk (B + 1) xs' := by
  obtain ⟨d, xs', e, h3, h4, h5⟩ := w_take B xs many h hB h1 h2
  refine ⟨d, xs', ?_, h3, h4, h5⟩
  simp [callB, isO, hm, e, outB]
theorem w_pull {B : Int} {xs : List D} (h : PoolOk B xs) (hB : B ≤ 900000) : ∃ q xs', fm__law_pull (some xs) [.list [.int 4, .int 99]] = .ok (.dat (.int q)) (some xs') ∧ (q = 4 ∨ q = 99) ∧ PoolOk (B + 1) xs' := by
  obtain ⟨d, x1, t1, q1, q2, k1⟩ := callB_take h (by omega) 2 (by decide) (by decide) (argC (caM (argC (rdV 1) argN) lenD) argN) [.dat (.list [.int 4, .int 99])] [.dat (.list [.int 4, .int 99])] xs rfl
  refine ⟨if d = 0 then 4 else 99, x1, ?_, by split <;> simp, k1⟩
  unfold fm__law_pull fnM bm__law_pull
  show finR (some xs) (retM (o2 (rdV 1) _ ixD) [.own xs true, .dat (.list [.int 4, .int 99])]) = _
  rw [retM_ap, o2_ap, show rdV 1 [.own xs true, .dat (.list [.int 4, .int 99])] = .ok (.list [.int 4, .int 99]) [.own xs true, .dat (.list [.int 4, .int 99])] from rfl, bind_ok, t1, bind_ok]
  have e : d = 0 ∨ d = 1 := by omega
  rcases e with rfl | rfl <;> rfl
theorem seqM_assoc (a b c : Cm Fl) : seqM (seqM a b) c = seqM a (seqM b c) := by
  funext ρ
  simp only [seqM_ap]
  cases h : a ρ with
  | ok f ρ1 => cases f <;> rfl
  | ex x ρ1 => rfl
  | no => rfl
theorem unp_dat {f : Cm (List Vl)} {ρ ρ' : En} {x y : D} (h : f ρ = .ok [.dat x, .dat y] ρ') : unpM [1, 2] f ρ = .ok .nx ((ρ'.set 1 (.dat x)).set 2 (.dat y)) := by
  unfold unpM
  rw [bnd_ap, h]
  rfl
def formF (i : Int) : Int := if i = 1 then 1 else if i = 2 then 2 else if i = 3 then 4 else if i = 4 then 11 else 34
theorem w_forms {i : Int} (h : i ∈ ([1, 2, 3, 4, 5] : List Int)) : fm_count_forms none [.int i] = .ok (.dat (.int (formF i))) none := by
  simp at h
  rcases h with rfl | rfl | rfl | rfl | rfl
  · exact forms1
  · exact forms2
  · exact forms3
  · exact forms4
  · exact forms5
theorem w_last (x y : List D) {p m : Int} (h1 : 1 ≤ p) (h2 : p ≤ 99) (t l a u b c d e f) : finR (some y) ((retM (andV (o2 (asD (callP ps_mean_crowds.length fm_mean_crowds (argC (rdV 1) (argC (ret (.int 1)) argN)))) (tupM (argC (rdV 1) (argC (ret (.int 1)) argN))) eqD) (o2 (frz (lcM [12] (itD (argC (ret (.int 1)) (argC (ret (.int 6)) argN)) rng2D) (stD 12) (ret true) (asD (callP ps_count_forms.length fm_count_forms (argC (rdV 12) argN))))) (frz (lstM (argC (ret (.int 1)) (argC (ret (.int 2)) (argC (ret (.int 4)) (argC (ret (.int 11)) (argC (ret (.int 34)) argN))))))) eqD)))
    [.own x true, .dat (.int p), .dat (.int m), t, l, a, u, b, c, d, e, f, .no]) = .ok (.dat (.bool true)) (some x) := by
  have wm := w_M h1 h2
  have e1 : eqD (.tuple [.int p, .int 1]) (.tuple [.int p, .int 1]) = some (.bool true) := by
    show (if shp (.tuple ([p, 1].map .int)) && shp (.tuple ([p, 1].map .int)) then some (PyData.bool (PyData.eqv (.tuple ([p, 1].map .int)) (.tuple ([p, 1].map .int)))) else none) = _
    have hl : (PyData.tuple ([p, 1].map .int)).canLay0 = true := by
      have := shp_intsT [p, 1]
      unfold shp SeqAt.shaped at this
      simp at this
      exact this.1
    rw [shp_intsT, SeqAt.eqv_refl _ hl]
    rfl
  have key := lcM_one (k := 12) (fi := itD (argC (ret (.int 1)) (argC (ret (.int 6)) argN)) rng2D) (t := ret true) (e := asD (callP ps_count_forms.length fm_count_forms (argC (rdV 12) argN))) (ρ := [.own x true, .dat (.int p), .dat (.int m), t, l, a, u, b, c, d, e, f, .no]) (ρ1 := [.own x true, .dat (.int p), .dat (.int m), t, l, a, u, b, c, d, e, f, .no]) rfl PyData.int (fun _ => true) (fun i => .int (formF i)) ([1, 2, 3, 4, 5] : List Int) rfl (by decide) (fun _ _ => rfl) (fun i hi _ => by
    have := w_forms hi
    simp [rdV, this])
  rw [filter_true] at key
  have e2 : eqD (.list ((([1, 2, 3, 4, 5] : List Int)).map fun i => .int (formF i))) (.list [.int 1, .int 2, .int 4, .int 11, .int 34]) = some (.bool true) := by kernel_rfl
  have r2 : frz (lstM (argC (ret (.int 1)) (argC (ret (.int 2)) (argC (ret (.int 4)) (argC (ret (.int 11)) (argC (ret (.int 34)) argN)))))) [.own x true, .dat (.int p), .dat (.int m), t, l, a, u, b, c, d, e, f, .no] = .ok (.list [.int 1, .int 2, .int 4, .int 11, .int 34]) [.own x true, .dat (.int p), .dat (.int m), t, l, a, u, b, c, d, e, f, .no] := rfl
  have a0 : o2 (asD (callP ps_mean_crowds.length fm_mean_crowds (argC (rdV 1) (argC (ret (.int 1)) argN)))) (tupM (argC (rdV 1) (argC (ret (.int 1)) argN))) eqD [.own x true, .dat (.int p), .dat (.int m), t, l, a, u, b, c, d, e, f, .no] = .ok (.bool true) [.own x true, .dat (.int p), .dat (.int m), t, l, a, u, b, c, d, e, f, .no] := by
    simp [rdV, wm, sizeOkL, e1]
  rw [retM_ap, andV_ap, a0]
  simp only [bind_ok, if_true]
  rw [o2_ap, frz_ap, key]
  simp only [bind_ok, ret_ap]
  rw [r2]
  simp only [bind_ok]
  rw [e2]
  rfl
abbrev nU : Cm Fl := unpM [1, 2] (vaD (o2 (ret (.int 1)) (asD (callB ps__law_take.length fm__law_take 0 (argC (asD (callB ps__law_pull.length fm__law_pull 0 (argC (frz (lstM (argC (ret (.int 4)) (argC (ret (.int 99)) argN)))) argN))) argN))) addD) (vaD (o2 (ret (.int 1)) (asD (callB ps__law_take.length fm__law_take 0 (argC (ret (.int 6)) argN))) addD) vaN))
abbrev nL : Cm Fl := retM (andV (o2 (asD (callP ps_mean_crowds.length fm_mean_crowds (argC (rdV 1) (argC (ret (.int 1)) argN)))) (tupM (argC (rdV 1) (argC (ret (.int 1)) argN))) eqD) (o2 (frz (lcM [12] (itD (argC (ret (.int 1)) (argC (ret (.int 6)) argN)) rng2D) (stD 12) (ret true) (asD (callP ps_count_forms.length fm_count_forms (argC (rdV 12) argN))))) (frz (lstM (argC (ret (.int 1)) (argC (ret (.int 2)) (argC (ret (.int 4)) (argC (ret (.int 11)) (argC (ret (.int 34)) argN))))))) eqD))
theorem right_eq : bm__law_right = seqM nU (seqM nB (seqM nC nL)) := by
  unfold bm__law_right nU nB nC nE nL
  simp only [seqM_assoc]
theorem w_right (B : Int) (xs : List D) (h : PoolOk B xs) (hB : B ≤ 800000) : ∃ xs', fm__law_right (some xs) [] = .ok (.dat (.bool true)) (some xs') ∧ PoolOk (B + 3) xs' := by
  obtain ⟨q, x0, t0, hq, k0⟩ := w_pull h (by omega)
  have tp : argC (asD (callB ps__law_pull.length fm__law_pull 0 (argC (frz (lstM (argC (ret (.int 4)) (argC (ret (.int 99)) argN)))) argN))) argN [.own xs true, .no, .no, .no, .no, .no, .no, .no, .no, .no, .no, .no, .no] = .ok [.int q] [.own x0 true, .no, .no, .no, .no, .no, .no, .no, .no, .no, .no, .no, .no] := by
    simp [callB, isO, sizeOkL, t0, outB]
  obtain ⟨d1, x1, t1, q1, q2, k1⟩ := callB_take k0 (by omega) q (by omega) (by omega) (argC (asD (callB ps__law_pull.length fm__law_pull 0 (argC (frz (lstM (argC (ret (.int 4)) (argC (ret (.int 99)) argN)))) argN))) argN) [.no, .no, .no, .no, .no, .no, .no, .no, .no, .no, .no, .no] [.no, .no, .no, .no, .no, .no, .no, .no, .no, .no, .no, .no] xs tp
  obtain ⟨d2, x2, t2, q3, q4, k2⟩ := callB_take k1 (by omega) 6 (by decide) (by decide) (argC (ret (.int 6)) argN) [.no, .no, .no, .no, .no, .no, .no, .no, .no, .no, .no, .no] [.no, .no, .no, .no, .no, .no, .no, .no, .no, .no, .no, .no] x1 rfl
  refine ⟨x2, ?_, k2.mono (by omega)⟩
  have hv : vaD (o2 (ret (.int 1)) (asD (callB ps__law_take.length fm__law_take 0 (argC (asD (callB ps__law_pull.length fm__law_pull 0 (argC (frz (lstM (argC (ret (.int 4)) (argC (ret (.int 99)) argN)))) argN))) argN))) addD) (vaD (o2 (ret (.int 1)) (asD (callB ps__law_take.length fm__law_take 0 (argC (ret (.int 6)) argN))) addD) vaN) [.own xs true, .no, .no, .no, .no, .no, .no, .no, .no, .no, .no, .no, .no] = .ok [.dat (.int (1 + d1)), .dat (.int (1 + d2))] [.own x2 true, .no, .no, .no, .no, .no, .no, .no, .no, .no, .no, .no, .no] := by
    unfold vaD vaN
    rw [bnd_ap, o2_ap, ret_ap, bind_ok, t1, bind_ok, add_i]
    simp only [lift_some, ret_ap, bind_ok, bnd_ap]
    rw [o2_ap, ret_ap, bind_ok, t2, bind_ok, add_i]
    rfl
  obtain ⟨a, b, c, d, e, f, wc⟩ := w_C x2 (p := 1 + d1) (m := 1 + d2) (by omega) (by omega) (by omega) (by omega)
  have wb := w_B x2 (p := 1 + d1) (m := 1 + d2) (by omega) (by omega) (by omega) (by omega)
  have wl := w_last x2 xs (p := 1 + d1) (m := 1 + d2) (by omega) (by omega)
  have e0 : nU [.own xs true, .no, .no, .no, .no, .no, .no, .no, .no, .no, .no, .no, .no] = .ok .nx (stA x2 (1 + d1) (1 + d2)) := unp_dat hv
  unfold fm__law_right fnM
  rw [right_eq]
  show finR (some xs) (seqM nU (seqM nB (seqM nC nL)) [.own xs true, .no, .no, .no, .no, .no, .no, .no, .no, .no, .no, .no, .no]) = _
  rw [seqM_ap, e0]
  simp only [bind_ok]
  rw [seqM_ap, wb]
  simp only [bind_ok]
  rw [seqM_ap, wc]
  simp only [bind_ok]
  exact wl _ _ _ _ _ _ _ _ _
theorem comp_right (xs : List D) (tl : Sl) (ns : List Int) (k : Int) (h : PoolOk 0 xs) (s3 : Sl) (h3 : noOwn [.dat (.list (ns.map .int)), .dat (.int k), .own xs false, s3] [3] = true) : ∃ ρ', caM (argC (frz (lcM [3] (itD (argC (ret (.int 8)) argN) rng1D) (stD 3) (ret true) (asD (callB ps__law_right.length fm__law_right 2 argN)))) argN) allD [.dat (.list (ns.map .int)), .dat (.int k), .own xs false, s3] = .ok (.bool true) ρ' ∧ ∃ xs', ρ' = [.dat (.list (ns.map .int)), .dat (.int k), .own xs' false, s3] := by
  obtain ⟨ys, ρ', y1, y2, xs', hp', y3⟩ := lcL_inv (vs := [3]) (g := stD 3) (t := ret true) (e := asD (callB ps__law_right.length fm__law_right 2 argN)) (fun i ρ => ∃ xs', PoolOk (3 * i) xs' ∧ ρ = [.dat (.list (ns.map .int)), .dat (.int k), .own xs' false, .no]) PyData.int (fun _ => PyData.bool true) 8 [0, 1, 2, 3, 4, 5, 6, 7] 0 [.dat (.list (ns.map .int)), .dat (.int k), .own xs false, .no] (by decide) ⟨xs, h.mono (by decide), rfl⟩ (by
      rintro x hx i ρ hi ⟨xs', hp, rfl⟩
      obtain ⟨xs2, r1, r2⟩ := w_right (3 * i) xs' hp (by omega)
      refine ⟨[.dat (.list (ns.map .int)), .dat (.int k), .own xs' false, .dat (.int x)], [.dat (.list (ns.map .int)), .dat (.int k), .own xs' false, .dat (.int x)], true, rfl, rfl, fun _ => ⟨[.dat (.list (ns.map .int)), .dat (.int k), .own xs2 false, .dat (.int x)], ?_, xs2, by
        have : (3 * ((i + 1 : Nat) : Int)) = 3 * (i : Int) + 3 := by omega
        rw [this]
        exact r2, rfl⟩, fun q => nomatch q⟩
      simp [callB, isO, r1, outB])
  have key := lcM_of (vs := [3]) (fi := itD (argC (ret (.int 8)) argN) rng1D) (g := stD 3) (t := ret true) (e := asD (callB ps__law_right.length fm__law_right 2 argN)) (ρ := [.dat (.list (ns.map .int)), .dat (.int k), .own xs false, s3]) (ρ1 := [.dat (.list (ns.map .int)), .dat (.int k), .own xs false, s3]) (ds := ([0, 1, 2, 3, 4, 5, 6, 7] : List Int).map PyData.int) (ys := ys.map fun _ => PyData.bool true) (ρ2 := ρ') rfl (by rw [h3]; rfl) y2
  have ha : allD [.list (ys.map fun _ => PyData.bool true)] = some (.bool true) := by
    have e : ∀ l : List Int, toBools (l.map fun _ => PyData.bool true) = some (l.map fun _ => true) := fun l => by
      induction l with
      | nil => rfl
      | cons a l ih => show (toBools (l.map fun _ => PyData.bool true)).map (true :: ·) = _; rw [ih]; rfl
    show (toBools (ys.map fun _ => PyData.bool true)).map (fun ns => PyData.bool (ns.all id)) = _
    rw [e]
    show some (PyData.bool ((ys.map fun _ => true).all id)) = _
    have : (ys.map fun _ => true).all id = true := by simp
    rw [this]
  subst y3
  refine ⟨_, ?_, xs', rfl⟩
  rw [caM_ap, argC_ap, frz_ap, key]
  simp only [bind_ok, argN_ap, ret_ap, ha, lift_some]
  rfl
theorem plain (ns : List Int) (h63 : ns.length ≤ 63) (_ : ∀ z ∈ ns, Builtin.Int.intBits z ≤ 1048576) : fm_law none [.list (ns.map .int)] = .ok (.dat (.bool true)) none := by
  unfold fm_law fnM bm_law
  show finR none (seqM (PL.forM _ _ _) (retM _) [.dat (.list (ns.map .int)), .no, .no, .no]) = _
  obtain ⟨v, hv, q1⟩ : ∃ v : Int, (v = 2 ∨ v = 3) ∧ itD (argC (caM (argC (ret (.int 2)) (argC (caM (argC (caM (argC (rdV 0) argN) lenD) (argC (ret (.int 3)) argN)) min2D) argN)) max2D) argN) rng1D [.dat (.list (ns.map .int)), .no, .no, .no] = .ok ((zTo v).map .int) [.dat (.list (ns.map .int)), .no, .no, .no] := by
    refine ⟨max 2 (min (ns.length : Int) 3), by omega, ?_⟩
    have hr : okR (max 2 (min (ns.length : Int) 3)) = true := by
      unfold okR
      simp
      omega
    simp [rdV, lenD, min2D, max2D, min_if, max_if, rng1D, hr, rng_zTo]
  rw [seqM_ap, forM_ap, q1]
  simp only [bind_ok]
  obtain ⟨ρ', f1, s1, s2, rfl⟩ := forL_map (g := stD 1) (b := seqM (setO 2 (asO (callP ps__law_bag.length fm__law_bag (argC (rdV 0) (argC (rdV 1) argN))))) (ite3 (nots (tru (caM (argC (frz (lcM [3] (itD (argC (ret (.int 8)) argN) rng1D) (stD 3) (ret true) (asD (callB ps__law_right.length fm__law_right 2 argN)))) argN) allD))) (retM (ret (.bool false))) nextM))
    .int (fun _ ρ => ∃ s1 s2, ρ = [.dat (.list (ns.map .int)), s1, s2, .no]) (zTo v) [] [.dat (.list (ns.map .int)), .no, .no, .no] ⟨_, _, rfl⟩ (by
      rintro pre k post ρ e ⟨s1, s2, rfl⟩
      have hk : k ∈ zTo v := by rw [List.nil_append] at e; rw [e]; simp
      obtain ⟨k1, k2⟩ := (mem_zTo (by omega)).mp hk
      obtain ⟨xs, e1, hp⟩ := w_bag ns k k1 (by omega)
      have a1 : setO 2 (asO (callP ps__law_bag.length fm__law_bag (argC (rdV 0) (argC (rdV 1) argN)))) [.dat (.list (ns.map .int)), .dat (.int k), s2, .no] = .ok .nx [.dat (.list (ns.map .int)), .dat (.int k), .own xs false, .no] := by
        simp [rdV, e1]
      obtain ⟨ρ', c1, xs', rfl⟩ := comp_right xs .no ns k hp .no rfl
      refine ⟨[.dat (.list (ns.map .int)), .dat (.int k), s2, .no], [.dat (.list (ns.map .int)), .dat (.int k), .own xs' false, .no], rfl, .inl ?_, _, _, rfl⟩
      rw [seqM_ap, a1]
      simp only [bind_ok]
      rw [ite3_ap, nots_ap, tru_ap, c1]
      rfl)
  rw [f1]
  rfl
end law_k63_whole_means_of_crowds
end S_P

section S_H
set_option maxHeartbeats 0
namespace law_k63_whole_means_of_crowds
open PySem PySem.Spec PyProof.Rows L2 PL
/-! ### the head -/
def d__law_bag : He.DefD := ⟨("_law_bag", none), "_law_bag", "_law_bag", defArgs s__law_bag, defBody s__law_bag, defScope s__law_bag, [], []⟩
def d__law_take : He.DefD := ⟨("_law_take", none), "_law_take", "_law_take", defArgs s__law_take, defBody s__law_take, defScope s__law_take, [], []⟩
def d__law_pull : He.DefD := ⟨("_law_pull", none), "_law_pull", "_law_pull", defArgs s__law_pull, defBody s__law_pull, defScope s__law_pull, [], []⟩
def d__law_lowest : He.DefD := ⟨("_law_lowest", none), "_law_lowest", "_law_lowest", defArgs s__law_lowest, defBody s__law_lowest, defScope s__law_lowest, [], []⟩
def d_is_whole : He.DefD := ⟨("is_whole", none), "is_whole", "is_whole", defArgs s_is_whole, defBody s_is_whole, defScope s_is_whole, [], []⟩
def d_is_between : He.DefD := ⟨("is_between", none), "is_between", "is_between", defArgs s_is_between, defBody s_is_between, defScope s_is_between, [], []⟩
def d_is_people : He.DefD := ⟨("is_people", none), "is_people", "is_people", defArgs s_is_people, defBody s_is_people, defScope s_is_people, [], []⟩
def d_check_people : He.DefD := ⟨("check_people", none), "check_people", "check_people", defArgs s_check_people, defBody s_check_people, defScope s_check_people, [], []⟩
def d_is_crowd_size : He.DefD := ⟨("is_crowd_size", none), "is_crowd_size", "is_crowd_size", defArgs s_is_crowd_size, defBody s_is_crowd_size, defScope s_is_crowd_size, [], []⟩
def d_lowest : He.DefD := ⟨("lowest", none), "lowest", "lowest", defArgs s_lowest, defBody s_lowest, defScope s_lowest, [], []⟩
def d_choose : He.DefD := ⟨("choose", none), "choose", "choose", defArgs s_choose, defBody s_choose, defScope s_choose, [], []⟩
def d_mean_by : He.DefD := ⟨("mean_by", none), "mean_by", "mean_by", defArgs s_mean_by, defBody s_mean_by, defScope s_mean_by, [], []⟩
def d_mean_crowds : He.DefD := ⟨("mean_crowds", none), "mean_crowds", "mean_crowds", defArgs s_mean_crowds, defBody s_mean_crowds, defScope s_mean_crowds, [], []⟩
def d__law_some : He.DefD := ⟨("_law_some", none), "_law_some", "_law_some", defArgs s__law_some, defBody s__law_some, defScope s__law_some, [], []⟩
def d__law_pairs : He.DefD := ⟨("_law_pairs", none), "_law_pairs", "_law_pairs", defArgs s__law_pairs, defBody s__law_pairs, defScope s__law_pairs, [], []⟩
def d__law_lots : He.DefD := ⟨("_law_lots", none), "_law_lots", "_law_lots", defArgs s__law_lots, defBody s__law_lots, defScope s__law_lots, [], []⟩
def d__law_is_crowd : He.DefD := ⟨("_law_is_crowd", none), "_law_is_crowd", "_law_is_crowd", defArgs s__law_is_crowd, defBody s__law_is_crowd, defScope s__law_is_crowd, [], []⟩
def d_is_counted : He.DefD := ⟨("is_counted", none), "is_counted", "is_counted", defArgs s_is_counted, defBody s_is_counted, defScope s_is_counted, [], []⟩
def d_check_counted : He.DefD := ⟨("check_counted", none), "check_counted", "check_counted", defArgs s_check_counted, defBody s_check_counted, defScope s_check_counted, [], []⟩
def d_pairs_of : He.DefD := ⟨("pairs_of", none), "pairs_of", "pairs_of", defArgs s_pairs_of, defBody s_pairs_of, defScope s_pairs_of, [], []⟩
def d_rings_of_pairs : He.DefD := ⟨("rings_of_pairs", none), "rings_of_pairs", "rings_of_pairs", defArgs s_rings_of_pairs, defBody s_rings_of_pairs, defScope s_rings_of_pairs, [], []⟩
def d_count_forms_by : He.DefD := ⟨("count_forms_by", none), "count_forms_by", "count_forms_by", defArgs s_count_forms_by, defBody s_count_forms_by, defScope s_count_forms_by, [], []⟩
def d_count_forms : He.DefD := ⟨("count_forms", none), "count_forms", "count_forms", defArgs s_count_forms, defBody s_count_forms, defScope s_count_forms, [], []⟩
def d__law_right : He.DefD := ⟨("_law_right", none), "_law_right", "_law_right", defArgs s__law_right, defBody s__law_right, defScope s__law_right, [], []⟩
def d_law : He.DefD := ⟨("law", none), "law", "law", defArgs s_law, defBody s_law, defScope s_law, [], []⟩
def fnL : List He.DefD := [d__law_bag, d__law_take, d__law_pull, d__law_lowest, d_is_whole, d_is_between, d_is_people, d_check_people, d_is_crowd_size, d_lowest, d_choose, d_mean_by, d_mean_crowds, d__law_some, d__law_pairs, d__law_lots, d__law_is_crowd, d_is_counted, d_check_counted, d_pairs_of, d_rings_of_pairs, d_count_forms_by, d_count_forms, d__law_right, d_law]
def faL : List He.Fa := [.glo "_law_bag", .glo "_law_take", .glo "_law_pull", .glo "_law_lowest", .glo "is_whole", .glo "is_between", .glo "is_people", .glo "check_people", .glo "is_crowd_size", .glo "lowest", .glo "choose", .glo "mean_by", .glo "mean_crowds", .glo "_law_some", .glo "_law_pairs", .glo "_law_lots", .glo "_law_is_crowd", .glo "is_counted", .glo "check_counted", .glo "pairs_of", .glo "rings_of_pairs", .glo "count_forms_by", .glo "count_forms", .glo "_law_right", .glo "law", .free "abs", .free "all", .free "bool", .free "divmod", .free "int", .free "isinstance", .free "len", .free "list", .free "max", .free "min", .free "range", .free "repr", .free "sorted", .free "sum", .int "MOST_COUNTED" 5, .int "MOST_CROWD" 6, .int "MOST_PEOPLE" 99]
def tfL : List He.Defn := []
def exB (K : PySem.W.Frag) : Bool := noList K && decide (PySem.W.nsIn K mainGlobals "comb" = some (some (.builtin "math.comb"))) && decide (PySem.W.nsIn K mainGlobals "combinations" = some (some (.type "itertools.combinations"))) && decide (PySem.W.nsIn K mainGlobals "gcd" = some (some (.builtin "math.gcd"))) && decide (PySem.W.nsIn K mainGlobals "permutations" = some (some (.type "itertools.permutations")))
abbrev R : PySem.W.OpenRow := PySem.W.OpenLaw.row PySem.Challenge.rw_tiesenough_k63_whole_means_of_crowds
abbrev hk : PySem.W.Hook := He.hookX 4 faL fnL [] tfL exB
def ob (s : PySem.W.SharedT) : He.AlX := He.obsX 4 faL fnL [] tfL exB (HandSHeadRun.getT s)
theorem ob_eq (s : PySem.W.SharedT) : ob s = hk.obs s.abs := He.obsX_eq (HandSHeadRun.getT_eq s)
def names : List PySem.Str := (["combinations", "permutations", "comb", "gcd", "__name__", "TieError", "InvalidNumber", "is_whole", "is_between", "lowest", "MOST_PEOPLE", "is_people", "check_people", "choose", "pairs_of", "MOST_COUNTED", "MOST_CROWD", "mean_by", "rings_of_pairs", "count_forms_by", "is_counted", "check_counted", "is_crowd_size", "count_forms", "mean_crowds", "_law_bag", "_law_take", "_law_pull", "_law_pairs", "_law_lots"] : List PySem.Str) ++ (["_law_is_crowd", "_law_lowest", "_law_some", "_law_right"] : List PySem.Str)
theorem run (w : World) : HandSHeadRun.RunEqI R (PySem.W.view R.prog [0, 1, 36]) hk ob 20000 names w := by
  unfold HandSHeadRun.RunEqI
  kernel_rfl
theorem law_at {w : World} {h : Heap} {mg : PySem.Str → Option Value} {f : Addr} {K : PySem.W.Frag} (X : K.In h) (G : h.Ns mainGlobals mg) (hfa : mg ("law" : PySem.Str) = some (.ref f)) (c : He.SaysX faL fnL [] tfL exB w h K)
    (plain : ∀ ns : List Int, ns.length ≤ 63 → (∀ z ∈ ns, Builtin.Int.intBits z ≤ 1048576) → fm_law none [.list (ns.map .int)] = .ok (.dat (.bool true)) none) : LawG PySem.Challenge.rw_tiesenough_k63_whole_means_of_crowds w 7 63 mg f h := by
  have cd := c.t.d
  obtain ⟨fd__law_bag, E__law_bag⟩ := cd.def_ 0 (d := d__law_bag) rfl
  have F__law_bag : Fun K "_law_bag" "_law_bag" s__law_bag (He.ga K "_law_bag") fd__law_bag := fun_of E__law_bag
  have m__law_bag : mg "_law_bag" = some (.ref (He.ga K "_law_bag")) := He.glo_ok X G (cd.fact 0 (f := .glo "_law_bag") rfl)
  obtain ⟨fd__law_take, E__law_take⟩ := cd.def_ 1 (d := d__law_take) rfl
  have F__law_take : Fun K "_law_take" "_law_take" s__law_take (He.ga K "_law_take") fd__law_take := fun_of E__law_take
  have m__law_take : mg "_law_take" = some (.ref (He.ga K "_law_take")) := He.glo_ok X G (cd.fact 1 (f := .glo "_law_take") rfl)
  obtain ⟨fd__law_pull, E__law_pull⟩ := cd.def_ 2 (d := d__law_pull) rfl
  have F__law_pull : Fun K "_law_pull" "_law_pull" s__law_pull (He.ga K "_law_pull") fd__law_pull := fun_of E__law_pull
  have m__law_pull : mg "_law_pull" = some (.ref (He.ga K "_law_pull")) := He.glo_ok X G (cd.fact 2 (f := .glo "_law_pull") rfl)
  obtain ⟨fd__law_lowest, E__law_lowest⟩ := cd.def_ 3 (d := d__law_lowest) rfl
  have F__law_lowest : Fun K "_law_lowest" "_law_lowest" s__law_lowest (He.ga K "_law_lowest") fd__law_lowest := fun_of E__law_lowest
  have m__law_lowest : mg "_law_lowest" = some (.ref (He.ga K "_law_lowest")) := He.glo_ok X G (cd.fact 3 (f := .glo "_law_lowest") rfl)
  obtain ⟨fd_is_whole, E_is_whole⟩ := cd.def_ 4 (d := d_is_whole) rfl
  have F_is_whole : Fun K "is_whole" "is_whole" s_is_whole (He.ga K "is_whole") fd_is_whole := fun_of E_is_whole
  have m_is_whole : mg "is_whole" = some (.ref (He.ga K "is_whole")) := He.glo_ok X G (cd.fact 4 (f := .glo "is_whole") rfl)
  obtain ⟨fd_is_between, E_is_between⟩ := cd.def_ 5 (d := d_is_between) rfl
  have F_is_between : Fun K "is_between" "is_between" s_is_between (He.ga K "is_between") fd_is_between := fun_of E_is_between
  have m_is_between : mg "is_between" = some (.ref (He.ga K "is_between")) := He.glo_ok X G (cd.fact 5 (f := .glo "is_between") rfl)
  obtain ⟨fd_is_people, E_is_people⟩ := cd.def_ 6 (d := d_is_people) rfl
  have F_is_people : Fun K "is_people" "is_people" s_is_people (He.ga K "is_people") fd_is_people := fun_of E_is_people
  have m_is_people : mg "is_people" = some (.ref (He.ga K "is_people")) := He.glo_ok X G (cd.fact 6 (f := .glo "is_people") rfl)
  obtain ⟨fd_check_people, E_check_people⟩ := cd.def_ 7 (d := d_check_people) rfl
  have F_check_people : Fun K "check_people" "check_people" s_check_people (He.ga K "check_people") fd_check_people := fun_of E_check_people
  have m_check_people : mg "check_people" = some (.ref (He.ga K "check_people")) := He.glo_ok X G (cd.fact 7 (f := .glo "check_people") rfl)
  obtain ⟨fd_is_crowd_size, E_is_crowd_size⟩ := cd.def_ 8 (d := d_is_crowd_size) rfl
  have F_is_crowd_size : Fun K "is_crowd_size" "is_crowd_size" s_is_crowd_size (He.ga K "is_crowd_size") fd_is_crowd_size := fun_of E_is_crowd_size
  have m_is_crowd_size : mg "is_crowd_size" = some (.ref (He.ga K "is_crowd_size")) := He.glo_ok X G (cd.fact 8 (f := .glo "is_crowd_size") rfl)
  obtain ⟨fd_lowest, E_lowest⟩ := cd.def_ 9 (d := d_lowest) rfl
  have F_lowest : Fun K "lowest" "lowest" s_lowest (He.ga K "lowest") fd_lowest := fun_of E_lowest
  have m_lowest : mg "lowest" = some (.ref (He.ga K "lowest")) := He.glo_ok X G (cd.fact 9 (f := .glo "lowest") rfl)
  obtain ⟨fd_choose, E_choose⟩ := cd.def_ 10 (d := d_choose) rfl
  have F_choose : Fun K "choose" "choose" s_choose (He.ga K "choose") fd_choose := fun_of E_choose
  have m_choose : mg "choose" = some (.ref (He.ga K "choose")) := He.glo_ok X G (cd.fact 10 (f := .glo "choose") rfl)
  obtain ⟨fd_mean_by, E_mean_by⟩ := cd.def_ 11 (d := d_mean_by) rfl
  have F_mean_by : Fun K "mean_by" "mean_by" s_mean_by (He.ga K "mean_by") fd_mean_by := fun_of E_mean_by
  have m_mean_by : mg "mean_by" = some (.ref (He.ga K "mean_by")) := He.glo_ok X G (cd.fact 11 (f := .glo "mean_by") rfl)
  obtain ⟨fd_mean_crowds, E_mean_crowds⟩ := cd.def_ 12 (d := d_mean_crowds) rfl
  have F_mean_crowds : Fun K "mean_crowds" "mean_crowds" s_mean_crowds (He.ga K "mean_crowds") fd_mean_crowds := fun_of E_mean_crowds
  have m_mean_crowds : mg "mean_crowds" = some (.ref (He.ga K "mean_crowds")) := He.glo_ok X G (cd.fact 12 (f := .glo "mean_crowds") rfl)
  obtain ⟨fd__law_some, E__law_some⟩ := cd.def_ 13 (d := d__law_some) rfl
  have F__law_some : Fun K "_law_some" "_law_some" s__law_some (He.ga K "_law_some") fd__law_some := fun_of E__law_some
  have m__law_some : mg "_law_some" = some (.ref (He.ga K "_law_some")) := He.glo_ok X G (cd.fact 13 (f := .glo "_law_some") rfl)
  obtain ⟨fd__law_pairs, E__law_pairs⟩ := cd.def_ 14 (d := d__law_pairs) rfl
  have F__law_pairs : Fun K "_law_pairs" "_law_pairs" s__law_pairs (He.ga K "_law_pairs") fd__law_pairs := fun_of E__law_pairs
  have m__law_pairs : mg "_law_pairs" = some (.ref (He.ga K "_law_pairs")) := He.glo_ok X G (cd.fact 14 (f := .glo "_law_pairs") rfl)
  obtain ⟨fd__law_lots, E__law_lots⟩ := cd.def_ 15 (d := d__law_lots) rfl
  have F__law_lots : Fun K "_law_lots" "_law_lots" s__law_lots (He.ga K "_law_lots") fd__law_lots := fun_of E__law_lots
  have m__law_lots : mg "_law_lots" = some (.ref (He.ga K "_law_lots")) := He.glo_ok X G (cd.fact 15 (f := .glo "_law_lots") rfl)
  obtain ⟨fd__law_is_crowd, E__law_is_crowd⟩ := cd.def_ 16 (d := d__law_is_crowd) rfl
  have F__law_is_crowd : Fun K "_law_is_crowd" "_law_is_crowd" s__law_is_crowd (He.ga K "_law_is_crowd") fd__law_is_crowd := fun_of E__law_is_crowd
  have m__law_is_crowd : mg "_law_is_crowd" = some (.ref (He.ga K "_law_is_crowd")) := He.glo_ok X G (cd.fact 16 (f := .glo "_law_is_crowd") rfl)
  obtain ⟨fd_is_counted, E_is_counted⟩ := cd.def_ 17 (d := d_is_counted) rfl
  have F_is_counted : Fun K "is_counted" "is_counted" s_is_counted (He.ga K "is_counted") fd_is_counted := fun_of E_is_counted
  have m_is_counted : mg "is_counted" = some (.ref (He.ga K "is_counted")) := He.glo_ok X G (cd.fact 17 (f := .glo "is_counted") rfl)
  obtain ⟨fd_check_counted, E_check_counted⟩ := cd.def_ 18 (d := d_check_counted) rfl
  have F_check_counted : Fun K "check_counted" "check_counted" s_check_counted (He.ga K "check_counted") fd_check_counted := fun_of E_check_counted
  have m_check_counted : mg "check_counted" = some (.ref (He.ga K "check_counted")) := He.glo_ok X G (cd.fact 18 (f := .glo "check_counted") rfl)
  obtain ⟨fd_pairs_of, E_pairs_of⟩ := cd.def_ 19 (d := d_pairs_of) rfl
  have F_pairs_of : Fun K "pairs_of" "pairs_of" s_pairs_of (He.ga K "pairs_of") fd_pairs_of := fun_of E_pairs_of
  have m_pairs_of : mg "pairs_of" = some (.ref (He.ga K "pairs_of")) := He.glo_ok X G (cd.fact 19 (f := .glo "pairs_of") rfl)
  obtain ⟨fd_rings_of_pairs, E_rings_of_pairs⟩ := cd.def_ 20 (d := d_rings_of_pairs) rfl
  have F_rings_of_pairs : Fun K "rings_of_pairs" "rings_of_pairs" s_rings_of_pairs (He.ga K "rings_of_pairs") fd_rings_of_pairs := fun_of E_rings_of_pairs
  have m_rings_of_pairs : mg "rings_of_pairs" = some (.ref (He.ga K "rings_of_pairs")) := He.glo_ok X G (cd.fact 20 (f := .glo "rings_of_pairs") rfl)
  obtain ⟨fd_count_forms_by, E_count_forms_by⟩ := cd.def_ 21 (d := d_count_forms_by) rfl
  have F_count_forms_by : Fun K "count_forms_by" "count_forms_by" s_count_forms_by (He.ga K "count_forms_by") fd_count_forms_by := fun_of E_count_forms_by
  have m_count_forms_by : mg "count_forms_by" = some (.ref (He.ga K "count_forms_by")) := He.glo_ok X G (cd.fact 21 (f := .glo "count_forms_by") rfl)
  obtain ⟨fd_count_forms, E_count_forms⟩ := cd.def_ 22 (d := d_count_forms) rfl
  have F_count_forms : Fun K "count_forms" "count_forms" s_count_forms (He.ga K "count_forms") fd_count_forms := fun_of E_count_forms
  have m_count_forms : mg "count_forms" = some (.ref (He.ga K "count_forms")) := He.glo_ok X G (cd.fact 22 (f := .glo "count_forms") rfl)
  obtain ⟨fd__law_right, E__law_right⟩ := cd.def_ 23 (d := d__law_right) rfl
  have F__law_right : Fun K "_law_right" "_law_right" s__law_right (He.ga K "_law_right") fd__law_right := fun_of E__law_right
  have m__law_right : mg "_law_right" = some (.ref (He.ga K "_law_right")) := He.glo_ok X G (cd.fact 23 (f := .glo "_law_right") rfl)
  obtain ⟨fd_law, E_law⟩ := cd.def_ 24 (d := d_law) rfl
  have F_law : Fun K "law" "law" s_law (He.ga K "law") fd_law := fun_of E_law
  have m_law : mg "law" = some (.ref (He.ga K "law")) := He.glo_ok X G (cd.fact 24 (f := .glo "law") rfl)
  have M : MG mg := by
    constructor
    · exact He.free_ok X G (cd.fact 25 (f := .free "abs") rfl)
    · exact He.free_ok X G (cd.fact 26 (f := .free "all") rfl)
    · exact He.free_ok X G (cd.fact 27 (f := .free "bool") rfl)
    · exact He.free_ok X G (cd.fact 28 (f := .free "divmod") rfl)
    · exact He.free_ok X G (cd.fact 29 (f := .free "int") rfl)
    · exact He.free_ok X G (cd.fact 30 (f := .free "isinstance") rfl)
    · exact He.free_ok X G (cd.fact 31 (f := .free "len") rfl)
    · exact He.free_ok X G (cd.fact 32 (f := .free "list") rfl)
    · exact He.free_ok X G (cd.fact 33 (f := .free "max") rfl)
    · exact He.free_ok X G (cd.fact 34 (f := .free "min") rfl)
    · exact He.free_ok X G (cd.fact 35 (f := .free "range") rfl)
    · exact He.free_ok X G (cd.fact 36 (f := .free "repr") rfl)
    · exact He.free_ok X G (cd.fact 37 (f := .free "sorted") rfl)
    · exact He.free_ok X G (cd.fact 38 (f := .free "sum") rfl)
    · exact He.int_ok X G (cd.fact 39 (f := .int "MOST_COUNTED" 5) rfl)
    · exact He.int_ok X G (cd.fact 40 (f := .int "MOST_CROWD" 6) rfl)
    · exact He.int_ok X G (cd.fact 41 (f := .int "MOST_PEOPLE" 99) rfl)
    · exact PySem.W.mg_of X G (of_decide_eq_true (Bool.and_eq_true_iff.mp (Bool.and_eq_true_iff.mp (Bool.and_eq_true_iff.mp (Bool.and_eq_true_iff.mp c.more).1).1).1).2)
    · exact PySem.W.mg_of X G (of_decide_eq_true (Bool.and_eq_true_iff.mp (Bool.and_eq_true_iff.mp (Bool.and_eq_true_iff.mp c.more).1).1).2)
    · exact PySem.W.mg_of X G (of_decide_eq_true (Bool.and_eq_true_iff.mp (Bool.and_eq_true_iff.mp c.more).1).2)
    · exact PySem.W.mg_of X G (of_decide_eq_true (Bool.and_eq_true_iff.mp c.more).2)
    · trivial
  have e := hfa.symm.trans m_law
  cases e
  refine ⟨K, fd_law, [], [], "script", fm_law, X, (Bool.and_eq_true_iff.mp (Bool.and_eq_true_iff.mp (Bool.and_eq_true_iff.mp (Bool.and_eq_true_iff.mp c.more).1).1).1).1, ?_, ?_, ?_, ?_, ?_, plain, ?_⟩
  · intro p hp
    simp at hp
  · intro p hp
    simp at hp
  · intro p hp
    simp at hp
  · intro t ht
    simp at ht
  · exact fun s v => fun_bind1 F_law (fun _ _ _ _ _ _ u => rfl) s v
  · intro base hK hN hT
    have D__law_bag := df__law_bag (P := (PySem.Challenge.rw_tiesenough_k63_whole_means_of_crowds).prog) (w := w) (K := K) (mg := mg) (base := base) (tabs := []) M F__law_bag m__law_bag
    have D__law_take := df__law_take (P := (PySem.Challenge.rw_tiesenough_k63_whole_means_of_crowds).prog) (w := w) (K := K) (mg := mg) (base := base) (tabs := []) M F__law_take m__law_take
    have D__law_pull := df__law_pull (P := (PySem.Challenge.rw_tiesenough_k63_whole_means_of_crowds).prog) (w := w) (K := K) (mg := mg) (base := base) (tabs := []) M D__law_take F__law_pull m__law_pull
    have D__law_lowest := df__law_lowest (P := (PySem.Challenge.rw_tiesenough_k63_whole_means_of_crowds).prog) (w := w) (K := K) (mg := mg) (base := base) (tabs := []) M F__law_lowest m__law_lowest
    have D_is_whole := df_is_whole (P := (PySem.Challenge.rw_tiesenough_k63_whole_means_of_crowds).prog) (w := w) (K := K) (mg := mg) (base := base) (tabs := []) M F_is_whole m_is_whole
    have D_is_between := df_is_between (P := (PySem.Challenge.rw_tiesenough_k63_whole_means_of_crowds).prog) (w := w) (K := K) (mg := mg) (base := base) (tabs := []) M D_is_whole F_is_between m_is_between
    have D_is_people := df_is_people (P := (PySem.Challenge.rw_tiesenough_k63_whole_means_of_crowds).prog) (w := w) (K := K) (mg := mg) (base := base) (tabs := []) M D_is_between F_is_people m_is_people
    have D_check_people := df_check_people (P := (PySem.Challenge.rw_tiesenough_k63_whole_means_of_crowds).prog) (w := w) (K := K) (mg := mg) (base := base) (tabs := []) M D_is_people F_check_people m_check_people
    have D_is_crowd_size := df_is_crowd_size (P := (PySem.Challenge.rw_tiesenough_k63_whole_means_of_crowds).prog) (w := w) (K := K) (mg := mg) (base := base) (tabs := []) M D_is_between F_is_crowd_size m_is_crowd_size
    have D_lowest := df_lowest (P := (PySem.Challenge.rw_tiesenough_k63_whole_means_of_crowds).prog) (w := w) (K := K) (mg := mg) (base := base) (tabs := []) M F_lowest m_lowest
    have D_choose := df_choose (P := (PySem.Challenge.rw_tiesenough_k63_whole_means_of_crowds).prog) (w := w) (K := K) (mg := mg) (base := base) (tabs := []) M F_choose m_choose
    have D_mean_by := df_mean_by (P := (PySem.Challenge.rw_tiesenough_k63_whole_means_of_crowds).prog) (w := w) (K := K) (mg := mg) (base := base) (tabs := []) M D_lowest D_choose F_mean_by m_mean_by
    have D_mean_crowds := df_mean_crowds (P := (PySem.Challenge.rw_tiesenough_k63_whole_means_of_crowds).prog) (w := w) (K := K) (mg := mg) (base := base) (tabs := []) M D_check_people D_is_crowd_size D_mean_by F_mean_crowds m_mean_crowds
    have D__law_some := df__law_some (P := (PySem.Challenge.rw_tiesenough_k63_whole_means_of_crowds).prog) (w := w) (K := K) (mg := mg) (base := base) (tabs := []) M F__law_some m__law_some
    have D__law_pairs := df__law_pairs (P := (PySem.Challenge.rw_tiesenough_k63_whole_means_of_crowds).prog) (w := w) (K := K) (mg := mg) (base := base) (tabs := []) M F__law_pairs m__law_pairs
    have D__law_lots := df__law_lots (P := (PySem.Challenge.rw_tiesenough_k63_whole_means_of_crowds).prog) (w := w) (K := K) (mg := mg) (base := base) (tabs := []) M F__law_lots m__law_lots
    have D__law_is_crowd := df__law_is_crowd (P := (PySem.Challenge.rw_tiesenough_k63_whole_means_of_crowds).prog) (w := w) (K := K) (mg := mg) (base := base) (tabs := []) M F__law_is_crowd m__law_is_crowd
    have D_is_counted := df_is_counted (P := (PySem.Challenge.rw_tiesenough_k63_whole_means_of_crowds).prog) (w := w) (K := K) (mg := mg) (base := base) (tabs := []) M D_is_between F_is_counted m_is_counted
    have D_check_counted := df_check_counted (P := (PySem.Challenge.rw_tiesenough_k63_whole_means_of_crowds).prog) (w := w) (K := K) (mg := mg) (base := base) (tabs := []) M D_is_counted F_check_counted m_check_counted
    have D_pairs_of := df_pairs_of (P := (PySem.Challenge.rw_tiesenough_k63_whole_means_of_crowds).prog) (w := w) (K := K) (mg := mg) (base := base) (tabs := []) M F_pairs_of m_pairs_of
    have D_rings_of_pairs := df_rings_of_pairs (P := (PySem.Challenge.rw_tiesenough_k63_whole_means_of_crowds).prog) (w := w) (K := K) (mg := mg) (base := base) (tabs := []) M D_pairs_of F_rings_of_pairs m_rings_of_pairs
    have D_count_forms_by := df_count_forms_by (P := (PySem.Challenge.rw_tiesenough_k63_whole_means_of_crowds).prog) (w := w) (K := K) (mg := mg) (base := base) (tabs := []) M D_rings_of_pairs F_count_forms_by m_count_forms_by
    have D_count_forms := df_count_forms (P := (PySem.Challenge.rw_tiesenough_k63_whole_means_of_crowds).prog) (w := w) (K := K) (mg := mg) (base := base) (tabs := []) M D_check_counted D_count_forms_by F_count_forms m_count_forms
    have D__law_right := df__law_right (P := (PySem.Challenge.rw_tiesenough_k63_whole_means_of_crowds).prog) (w := w) (K := K) (mg := mg) (base := base) (tabs := []) M D__law_take D__law_pull D__law_lowest D_mean_crowds D__law_some D__law_pairs D__law_lots D__law_is_crowd D_count_forms F__law_right m__law_right
    have D_law := df_law (P := (PySem.Challenge.rw_tiesenough_k63_whole_means_of_crowds).prog) (w := w) (K := K) (mg := mg) (base := base) (tabs := []) M D__law_bag D__law_right F_law m_law
    obtain ⟨f2, fd2, F2, G2, m2, _⟩ := D_law
    have e2 := m_law.symm.trans m2
    have e3 : He.ga K "law" = f2 := by injection e2 with e2; injection e2
    subst e3
    have e4 : fd_law = fd2 := fun_inj F_law F2
    rw [e4]
    exact G2
end law_k63_whole_means_of_crowds
end S_H

open PySem PySem.W PySem.Calls PyProof.Rows
set_option maxHeartbeats 0 in
theorem PySem.Challenge.cw_tiesenough_k63_whole_means_of_crowds_holds : PySem.Challenge.rw_tiesenough_k63_whole_means_of_crowds.Holds := by
  w_on; o_law
  refine HandSHeadRun.head_imp (r := OpenLaw.row PySem.Challenge.rw_tiesenough_k63_whole_means_of_crowds) (q := view (OpenLaw.row PySem.Challenge.rw_tiesenough_k63_whole_means_of_crowds).prog [0, 1, 36]) (H := law_k63_whole_means_of_crowds.hk) (ob := law_k63_whole_means_of_crowds.ob) (M := 20000) (loose := law_k63_whole_means_of_crowds.names) (d := HandSHeadRun.topDef (OpenLaw.row PySem.Challenge.rw_tiesenough_k63_whole_means_of_crowds).prog 36) (kwd := []) law_k63_whole_means_of_crowds.ob_eq
    law_k63_whole_means_of_crowds.run (by kernel_rfl) (by kernel_rfl) (by kernel_rfl) (by rfl) (by first | assumption | decide +kernel) (by decide +kernel) ⟨rfl, rfl, rfl, rfl, rfl, by decide +kernel⟩ ?hw ?hc
  case hw => w_witness2
  case hc =>
    refine PL.walk_ofG (l := PySem.Challenge.rw_tiesenough_k63_whole_means_of_crowds) (n := 63) (k := 7) rfl (by decide) (by kernel_rfl) ⟨rfl, by decide, by decide⟩ ?F
    intro w mg fa h Y G hmg0
    obtain ⟨K, KX, c⟩ := Y
    have hmg : mg ("law" : PySem.Str) = some (.ref fa) := by
      have e : (HandSHeadRun.topDef (OpenLaw.row PySem.Challenge.rw_tiesenough_k63_whole_means_of_crowds).prog 36).name = ("law" : PySem.Str) := by kernel_rfl
      rw [← e]
      exact hmg0
    exact law_k63_whole_means_of_crowds.law_at KX G hmg c law_k63_whole_means_of_crowds.plain
