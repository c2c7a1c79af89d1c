import PyProof.Rows.All
import HandS.ForMost
import HandS.Exc
import HandS.TryOnly
import HandS.ExcOwn
import HandS.WordsExc
import HandS.HeadHook1
import KE.DataEq
import KE.DataCmp
import KE.SortData
import KE.DataMinMax
import KE.DataFind
import HandS.TupAny
import HandS.IsInst
import HandS.Flow
import HandS.Style
import HandS.RaiseMore
import HandS.Defaults
import HandS.HeadHook2
import HandS.TryMany
import HandS.List
import HandS.TupSets
import HandS.Iter
import Wide.All
import OpenK.AllK
import Wide.FinOn
import KE.KStateDown
import HandS.Base
import HandS.Call
import HandS.Ends
import HandS.More
import HandS.Words
import HandS.Head0
import HandS.Head1
import HandS.Head2
import HandS.HeadEnd
import PySem.Challenge.RW_everyriddle_k31_answers_to_tries
set_option Elab.async false
set_option linter.all false
set_option maxRecDepth 100000
set_option maxHeartbeats 1000000
namespace Lv
open PySem PySem.Spec PyProof.Rows L2

abbrev D := PyData
/-- a tree: frozen data, or an owned object -/
inductive T where
  | fr (d : D)
  | lst (xs : List T)
  | dk (kvs : List (Key × T))
  | obj (c : Str) (fs : List (Str × T))
def keyD : Key → D
  | .inl i => .int i
  | .inr x => .str x
mutual
def T.dat : T → Option D
  | .fr d => some d
  | .lst xs => (T.datL xs).map .list
  | .dk kvs => (T.datK kvs).map .dict
  | .obj _ _ => none
def T.datL : List T → Option (List D)
  | [] => some []
  | x :: xs => match x.dat, T.datL xs with
    | some d, some ds => some (d :: ds)
    | _, _ => none
def T.datK : List (Key × T) → Option (List (D × D))
  | [] => some []
  | (k, x) :: xs => match x.dat, T.datK xs with
    | some d, some ds => some ((keyD k, d) :: ds)
    | _, _ => none
end
abbrev Fp := Addr → Prop
mutual
/-- frozen data, over the frozen part M of the heap -/
inductive Dz (K : PySem.W.Frag) (M : Hp) : V → D → Prop
  | non : Dz K M .non .none
  | bl (b : Bool) : Dz K M (.bl b) (.bool b)
  | int (i : Int) : Dz K M (.int i) (.int i)
  | str (x : Str) : Dz K M (.str x) (.str x)
  | lst {a : Addr} {xs : List V} {ds : List D} : SqL K M a xs → DzL K M xs ds → Dz K M (.ref a) (.list ds)
  | tup {a : Addr} {xs : List V} {ds : List D} : SqT K M a xs → DzL K M xs ds → Dz K M (.ref a) (.tuple ds)
  | dk {a : Addr} {kvs : List (Key × V)} {ds : List (D × D)} : M a = some (.dK kvs) → DzK K M kvs ds → Dz K M (.ref a) (.dict ds)
inductive DzL (K : PySem.W.Frag) (M : Hp) : List V → List D → Prop
  | nil : DzL K M [] []
  | cons {v : V} {vs : List V} {d : D} {ds : List D} : Dz K M v d → DzL K M vs ds → DzL K M (v :: vs) (d :: ds)
inductive DzK (K : PySem.W.Frag) (M : Hp) : List (Key × V) → List (D × D) → Prop
  | nil : DzK K M [] []
  | cons {k : Key} {v : V} {vs : List (Key × V)} {d : D} {ds : List (D × D)} : Dz K M v d → DzK K M vs ds → DzK K M ((k, v) :: vs) ((keyD k, d) :: ds)
end
section
variable {K : PySem.W.Frag} {M M' : Hp}
theorem Same.tup {H H' : Hp} {a : Addr} {xs : List V} (e : L2.Same H H') (h : SqT K H a xs) : SqT K H' a xs := by
  rcases h with (h | ⟨o, h⟩) | h
  · exact .inl (.inl (e _ _ h))
  · exact .inl (.inr ⟨o, e _ _ h⟩)
  · exact .inr h
mutual
theorem Dz.mono (e : L2.Same M M') : ∀ {v : V} {d : D}, Dz K M v d → Dz K M' v d
  | _, _, .non => .non
  | _, _, .bl b => .bl b
  | _, _, .int b => .int b
  | _, _, .str b => .str b
  | _, _, .lst h t => .lst (e.seq h) (DzL.mono e t)
  | _, _, .tup h t => .tup (Same.tup e h) (DzL.mono e t)
  | _, _, .dk h t => .dk (e _ _ h) (DzK.mono e t)
theorem DzL.mono (e : L2.Same M M') : ∀ {v : List V} {d : List D}, DzL K M v d → DzL K M' v d
  | _, _, .nil => .nil
  | _, _, .cons h t => .cons (Dz.mono e h) (DzL.mono e t)
theorem DzK.mono (e : L2.Same M M') : ∀ {v : List (Key × V)} {d : List (D × D)}, DzK K M v d → DzK K M' v d
  | _, _, .nil => .nil
  | _, _, .cons h t => .cons (Dz.mono e h) (DzK.mono e t)
end
mutual
theorem Dz.dp : ∀ {v : V} {d : D}, d.plain = true → Dz K M v d → Dp K M v d
  | _, _, _, .non => .non
  | _, _, _, .bl b => .bl b
  | _, _, _, .int b => .int b
  | _, _, _, .str b => .str b
  | _, _, p, .lst h t => .lst h (DzL.dp (by simpa [PyData.plain] using p) t)
  | _, _, p, .tup h t => .tup h (DzL.dp (by simpa [PyData.plain] using p) t)
  | _, _, p, .dk h t => absurd p (by simp [PyData.plain])
theorem DzL.dp : ∀ {v : List V} {d : List D}, PyData.plainAll d = true → DzL K M v d → DpAll K M v d
  | _, _, _, .nil => .nil
  | _, _, p, .cons h t => by
    simp only [PyData.plainAll, Bool.and_eq_true] at p
    exact .cons (Dz.dp p.1 h) (DzL.dp p.2 t)
end
theorem DzL.length : ∀ {v : List V} {d : List D}, DzL K M v d → v.length = d.length
  | _, _, .nil => rfl
  | _, _, .cons _ t => by simp [DzL.length t]
theorem DzL.append : ∀ {v w : List V} {d e : List D}, DzL K M v d → DzL K M w e → DzL K M (v ++ w) (d ++ e)
  | _, _, _, _, .nil, s => s
  | _, _, _, _, .cons h t, s => .cons h (DzL.append t s)
theorem DzL.take : ∀ {v : List V} {d : List D} (n : Nat), DzL K M v d → DzL K M (v.take n) (d.take n)
  | _, _, 0, _ => .nil
  | _, _, _ + 1, .nil => .nil
  | _, _, n + 1, .cons h t => .cons h (DzL.take n t)
theorem DzL.drop : ∀ {v : List V} {d : List D} (n : Nat), DzL K M v d → DzL K M (v.drop n) (d.drop n)
  | _, _, 0, h => h
  | _, _, _ + 1, .nil => .nil
  | _, _, n + 1, .cons h t => DzL.drop n t
theorem DzL.get : ∀ {v : List V} {d : List D} {i : Nat} {x : D}, DzL K M v d → d[i]? = some x → ∃ u, v[i]? = some u ∧ Dz K M u x
  | _, _, _, _, .nil, e => by simp at e
  | _, _, 0, _, .cons h t, e => by simp at e; subst e; exact ⟨_, rfl, h⟩
  | _, _, i + 1, x, .cons h t, e => by
    obtain ⟨u, h1, h2⟩ := DzL.get (i := i) (x := x) t (by simpa using e)
    exact ⟨u, by simpa using h1, h2⟩
theorem DzL.get' : ∀ {v : List V} {d : List D} {i : Nat} {u : V}, DzL K M v d → v[i]? = some u → ∃ x, d[i]? = some x ∧ Dz K M u x
  | _, _, _, _, .nil, e => by simp at e
  | _, _, 0, _, .cons h t, e => by simp at e; subst e; exact ⟨_, rfl, h⟩
  | _, _, i + 1, x, .cons h t, e => by
    obtain ⟨u, h1, h2⟩ := DzL.get' (i := i) t (by simpa using e)
    exact ⟨u, by simpa using h1, h2⟩
theorem DzL.reverse {v : List V} {d : List D} (h : DzL K M v d) : DzL K M v.reverse d.reverse := by
  induction h using DzL.rec (motive_1 := fun _ _ _ => True) (motive_3 := fun _ _ _ => True) with
  | nil => exact .nil
  | cons h t _ ih => simpa using ih.append (.cons h .nil)
  | _ => trivial
theorem DzL.set : ∀ {v : List V} {d : List D} {u : V} {x : D} (i : Nat), Dz K M u x → DzL K M v d → DzL K M (v.set i u) (d.set i x)
  | _, _, _, _, _, _, .nil => .nil
  | _, _, _, _, 0, h, .cons _ t => .cons h t
  | _, _, _, _, i + 1, h, .cons q t => .cons q (DzL.set i h t)
end
/-! ### owned trees -/
mutual
inductive Rp (K : PySem.W.Frag) (M H : Hp) : T → V → Fp → Prop
  | fr {d : D} {v : V} : Dz K M v d → Rp K M H (.fr d) v (fun _ => False)
  | lst {a : Addr} {xs : List T} {vs : List V} {R : Fp} : H a = some (.lst vs) → M a = none → RpL K M H xs vs R → ¬ R a → Rp K M H (.lst xs) (.ref a) (fun b => b = a ∨ R b)
  | dk {a : Addr} {xs : List (Key × T)} {vs : List (Key × V)} {R : Fp} : H a = some (.dK vs) → M a = none → RpK K M H xs vs R → ¬ R a → Rp K M H (.dk xs) (.ref a) (fun b => b = a ∨ R b)
  | obj {a dx : Addr} {c : Str} {fs : List (Str × T)} {vs : List (Str × V)} {R : Fp} : H a = some (.ins (He.ga K c) dx vs) → H dx = some (.own a) → M a = none → M dx = none → Cls K (He.ga K c) →
      RpF K M H fs vs R → ¬ R a → ¬ R dx → Rp K M H (.obj c fs) (.ref a) (fun b => (b = a ∨ b = dx) ∨ R b)
inductive RpL (K : PySem.W.Frag) (M H : Hp) : List T → List V → Fp → Prop
  | nil : RpL K M H [] [] (fun _ => False)
  | cons {x : T} {v : V} {xs : List T} {vs : List V} {R R' : Fp} : Rp K M H x v R → RpL K M H xs vs R' → (∀ a, R a → ¬ R' a) → RpL K M H (x :: xs) (v :: vs) (fun b => R b ∨ R' b)
inductive RpK (K : PySem.W.Frag) (M H : Hp) : List (Key × T) → List (Key × V) → Fp → Prop
  | nil : RpK K M H [] [] (fun _ => False)
  | cons {k : Key} {x : T} {v : V} {xs : List (Key × T)} {vs : List (Key × V)} {R R' : Fp} : Rp K M H x v R → RpK K M H xs vs R' → (∀ a, R a → ¬ R' a) → RpK K M H ((k, x) :: xs) ((k, v) :: vs) (fun b => R b ∨ R' b)
inductive RpF (K : PySem.W.Frag) (M H : Hp) : List (Str × T) → List (Str × V) → Fp → Prop
  | nil : RpF K M H [] [] (fun _ => False)
  | cons {k : Str} {x : T} {v : V} {xs : List (Str × T)} {vs : List (Str × V)} {R R' : Fp} : Rp K M H x v R → RpF K M H xs vs R' → (∀ a, R a → ¬ R' a) → RpF K M H ((k, x) :: xs) ((k, v) :: vs) (fun b => R b ∨ R' b)
end
section
variable {K : PySem.W.Frag} {M M' H H' : Hp}
/-- kept where its own objects stand -/
structure Kp (M M' H H' : Hp) (R : Fp) : Prop where
  m : L2.Same M M'
  h : ∀ a, R a → ∀ o, H a = some o → H' a = some o
  n : ∀ a, R a → M a = none → M' a = none
theorem Kp.sub {R R' : Fp} (k : Kp M M' H H' R) (h : ∀ a, R' a → R a) : Kp M M' H H' R' := ⟨k.m, fun a q => k.h a (h a q), fun a q => k.n a (h a q)⟩
mutual
theorem Rp.keep : ∀ {t : T} {v : V} {R : Fp}, Rp K M H t v R → Kp M M' H H' R → Rp K M' H' t v R
  | _, _, _, .fr h, k => .fr (h.mono k.m)
  | _, _, _, .lst h1 h2 h3 h4, k => .lst (k.h _ (.inl rfl) _ h1) (k.n _ (.inl rfl) h2) (RpL.keep h3 (k.sub fun _ => .inr)) h4
  | _, _, _, .dk h1 h2 h3 h4, k => .dk (k.h _ (.inl rfl) _ h1) (k.n _ (.inl rfl) h2) (RpK.keep h3 (k.sub fun _ => .inr)) h4
  | _, _, _, .obj h1 h2 h3 h4 h5 h6 h7 h8, k => .obj (k.h _ (.inl (.inl rfl)) _ h1) (k.h _ (.inl (.inr rfl)) _ h2) (k.n _ (.inl (.inl rfl)) h3) (k.n _ (.inl (.inr rfl)) h4) h5 (RpF.keep h6 (k.sub fun _ => .inr)) h7 h8
theorem RpL.keep : ∀ {t : List T} {v : List V} {R : Fp}, RpL K M H t v R → Kp M M' H H' R → RpL K M' H' t v R
  | _, _, _, .nil, _ => .nil
  | _, _, _, .cons h t d, k => .cons (Rp.keep h (k.sub fun _ => .inl)) (RpL.keep t (k.sub fun _ => .inr)) d
theorem RpK.keep : ∀ {t : List (Key × T)} {v : List (Key × V)} {R : Fp}, RpK K M H t v R → Kp M M' H H' R → RpK K M' H' t v R
  | _, _, _, .nil, _ => .nil
  | _, _, _, .cons h t d, k => .cons (Rp.keep h (k.sub fun _ => .inl)) (RpK.keep t (k.sub fun _ => .inr)) d
theorem RpF.keep : ∀ {t : List (Str × T)} {v : List (Str × V)} {R : Fp}, RpF K M H t v R → Kp M M' H H' R → RpF K M' H' t v R
  | _, _, _, .nil, _ => .nil
  | _, _, _, .cons h t d, k => .cons (Rp.keep h (k.sub fun _ => .inl)) (RpF.keep t (k.sub fun _ => .inr)) d
end
mutual
theorem Rp.own : ∀ {t : T} {v : V} {R : Fp}, Rp K M H t v R → ∀ a, R a → M a = none ∧ ∃ o, H a = some o
  | _, _, _, .fr h, _, r => r.elim
  | _, _, _, .lst h1 h2 h3 h4, a, r => r.elim (fun e => by subst e; exact ⟨h2, _, h1⟩) (RpL.own h3 a)
  | _, _, _, .dk h1 h2 h3 h4, a, r => r.elim (fun e => by subst e; exact ⟨h2, _, h1⟩) (RpK.own h3 a)
  | _, _, _, .obj h1 h2 h3 h4 h5 h6 h7 h8, a, r => r.elim (fun e => e.elim (fun e => by subst e; exact ⟨h3, _, h1⟩) fun e => by subst e; exact ⟨h4, _, h2⟩) (RpF.own h6 a)
theorem RpL.own : ∀ {t : List T} {v : List V} {R : Fp}, RpL K M H t v R → ∀ a, R a → M a = none ∧ ∃ o, H a = some o
  | _, _, _, .nil, _, r => r.elim
  | _, _, _, .cons h t d, a, r => r.elim (Rp.own h a) (RpL.own t a)
theorem RpK.own : ∀ {t : List (Key × T)} {v : List (Key × V)} {R : Fp}, RpK K M H t v R → ∀ a, R a → M a = none ∧ ∃ o, H a = some o
  | _, _, _, .nil, _, r => r.elim
  | _, _, _, .cons h t d, a, r => r.elim (Rp.own h a) (RpK.own t a)
theorem RpF.own : ∀ {t : List (Str × T)} {v : List (Str × V)} {R : Fp}, RpF K M H t v R → ∀ a, R a → M a = none ∧ ∃ o, H a = some o
  | _, _, _, .nil, _, r => r.elim
  | _, _, _, .cons h t d, a, r => r.elim (Rp.own h a) (RpF.own t a)
end
/-! seen as data: over any N that holds M and the own objects -/
mutual
theorem Rp.view {N : Hp} (mn : L2.Same M N) : ∀ {t : T} {v : V} {R : Fp} {d : D}, Rp K M H t v R → (∀ a, R a → ∀ o, H a = some o → N a = some o) → t.dat = some d → Dz K N v d
  | _, _, _, _, .fr h, _, e => by cases e; exact h.mono mn
  | _, _, _, _, .lst (xs := xs) h1 h2 h3 h4, k, e => by
    simp only [T.dat] at e
    cases q : T.datL xs with
    | none => rw [q] at e; cases e
    | some ds => rw [q] at e; cases e; exact .lst (.of (k _ (.inl rfl) _ h1)) (RpL.view mn h3 (fun a r => k a (.inr r)) q)
  | _, _, _, _, .dk (xs := xs) h1 h2 h3 h4, k, e => by
    simp only [T.dat] at e
    cases q : T.datK xs with
    | none => rw [q] at e; cases e
    | some ds => rw [q] at e; cases e; exact .dk (k _ (.inl rfl) _ h1) (RpK.view mn h3 (fun a r => k a (.inr r)) q)
  | _, _, _, _, .obj h1 h2 h3 h4 h5 h6 h7 h8, k, e => by cases e
theorem RpL.view {N : Hp} (mn : L2.Same M N) : ∀ {t : List T} {v : List V} {R : Fp} {d : List D}, RpL K M H t v R → (∀ a, R a → ∀ o, H a = some o → N a = some o) → T.datL t = some d → DzL K N v d
  | _, _, _, _, .nil, _, e => by cases e; exact .nil
  | _, _, _, _, .cons (x := x) (xs := xs) h t _, k, e => by
    simp only [T.datL] at e
    cases q : x.dat with
    | none => rw [q] at e; cases e
    | some d =>
      cases q2 : T.datL xs with
      | none => rw [q, q2] at e; cases e
      | some ds => rw [q, q2] at e; cases e; exact .cons (Rp.view mn h (fun a r => k a (.inl r)) q) (RpL.view mn t (fun a r => k a (.inr r)) q2)
theorem RpK.view {N : Hp} (mn : L2.Same M N) : ∀ {t : List (Key × T)} {v : List (Key × V)} {R : Fp} {d : List (D × D)}, RpK K M H t v R → (∀ a, R a → ∀ o, H a = some o → N a = some o) → T.datK t = some d → DzK K N v d
  | _, _, _, _, .nil, _, e => by cases e; exact .nil
  | _, _, _, _, .cons (x := x) (xs := xs) h t _, k, e => by
    simp only [T.datK] at e
    cases q : x.dat with
    | none => rw [q] at e; cases e
    | some d =>
      cases q2 : T.datK xs with
      | none => rw [q, q2] at e; cases e
      | some ds => rw [q, q2] at e; cases e; exact .cons (Rp.view mn h (fun a r => k a (.inl r)) q) (RpK.view mn t (fun a r => k a (.inr r)) q2)
end
/-- M and the objects of R -/
noncomputable def frz (M H : Hp) (R : Fp) : Hp := fun a => open Classical in if R a then H a else M a
theorem frz_same {R : Fp} (h : ∀ a, R a → M a = none) : L2.Same M (frz M H R) := fun a o e => by
  unfold frz
  by_cases q : R a
  · rw [h a q] at e; cases e
  · rw [if_neg q]; exact e
theorem frz_le {R : Fp} (h : L2.Same M H) : L2.Same (frz M H R) H := fun a o e => by
  unfold frz at e
  by_cases q : R a
  · rwa [if_pos q] at e
  · rw [if_neg q] at e; exact h a o e
theorem frz_in {R : Fp} {a : Addr} (q : R a) : frz M H R a = H a := by unfold frz; rw [if_pos q]
theorem frz_out {R : Fp} {a : Addr} (q : ¬ R a) : frz M H R a = M a := by unfold frz; rw [if_neg q]
theorem Rp.freeze {t : T} {v : V} {R : Fp} {d : D} (h : Rp K M H t v R) (e : t.dat = some d) : Dz K (frz M H R) v d :=
  h.view (frz_same fun a r => (h.own a r).1) (fun a r o q => by rw [frz_in r]; exact q) e
/-- seen as data at the heap as it stands -/
theorem Rp.seen {t : T} {v : V} {R : Fp} {d : D} (m : L2.Same M H) (h : Rp K M H t v R) (e : t.dat = some d) : Dz K H v d := h.view m (fun _ _ _ q => q) e
end
end Lv

set_option maxHeartbeats 1000000
namespace Lv
open PySem PySem.Spec PyProof.Rows L2

abbrev Rho := List (Option T)
structure Good (K : PySem.W.Frag) (M H : Hp) (σ : L2.St) (ρ : Rho) (F : Nat → Fp) : Prop where
  le : L2.Same M H
  len : ρ.length = σ.length
  sl : ∀ (i : Nat) (t : T), ρ[i]? = some (some t) → ∃ v, σ[i]? = some (some v) ∧ Rp K M H t v (F i)
  em : ∀ i, (∀ t, ρ[i]? ≠ some (some t)) → ∀ a, ¬ F i a
  dj : ∀ i j a, F i a → F j a → i = j
def Al (F : Nat → Fp) : Fp := fun a => ∃ i, F i a
structure Stp (M H : Hp) (P : Fp) (M' H' : Hp) (P' : Fp) : Prop where
  m : L2.Same M M'
  h : ∀ a o, H a = some o → ¬ P a → H' a = some o
  n : ∀ a, M a = none → M' a ≠ none → P a ∨ H a = none
  p : ∀ a, P' a → P a ∨ H a = none
section
variable {K : PySem.W.Frag} {M M' M1 M2 H H' H1 H2 : Hp} {P P' P1 P2 R : Fp} {σ : L2.St} {ρ : Rho} {F : Nat → Fp}
theorem Stp.refl (h : ∀ a, P' a → P a) : Stp M H P M H P' := ⟨L2.Same.refl _, fun _ _ e _ => e, fun a h1 h2 => absurd h1 h2, fun a q => .inl (h a q)⟩
theorem Stp.trans (s1 : Stp M H P M1 H1 P1) (s2 : Stp M1 H1 P1 M2 H2 P2) : Stp M H P M2 H2 P2 := by
  have gone : ∀ a, H1 a = none → P a ∨ H a = none := fun a q => by
    cases e : H a with
    | none => exact .inr rfl
    | some o => exact .inl (Classical.byContradiction fun np => by rw [s1.h a o e np] at q; cases q)
  refine ⟨s1.m.trans s2.m, fun a o e np => s2.h a o (s1.h a o e np) fun q => ?_, fun a h1 h2 => ?_, fun a q => ?_⟩
  · rcases s1.p a q with z | z
    · exact np z
    · rw [e] at z; cases z
  · cases q : M1 a with
    | none =>
      rcases s2.n a q h2 with z | z
      · exact s1.p a z
      · exact gone a z
    | some o => exact s1.n a h1 (by rw [q]; simp)
  · rcases s2.p a q with z | z
    · exact s1.p a z
    · exact gone a z
theorem Stp.sub (s : Stp M H P M1 H1 P1) (h : ∀ a, P a → P' a) (h2 : ∀ a, P2 a → P1 a) : Stp M H P' M1 H1 P2 :=
  ⟨s.m, fun a o e q => s.h a o e fun z => q (h a z), fun a h1 h3 => (s.n a h1 h3).imp_left (h a), fun a q => (s.p a (h2 a q)).imp_left (h a)⟩
/-- what stands apart is kept -/
theorem Stp.kp (s : Stp M H P M1 H1 P1) (hr : ∀ a, R a → ¬ P a) (ho : ∀ a, R a → M a = none ∧ ∃ o, H a = some o) : Kp M M1 H H1 R :=
  ⟨s.m, fun a r o e => s.h a o e (hr a r), fun a r e => Classical.byContradiction fun q => by
    rcases s.n a e q with z | z
    · exact hr a r z
    · obtain ⟨_, o, e2⟩ := ho a r
      rw [z] at e2; cases e2⟩
theorem Good.own (g : Good K M H σ ρ F) : ∀ a, Al F a → M a = none ∧ ∃ o, H a = some o := fun a ⟨i, r⟩ => by
  cases q : ρ[i]? with
  | none => exact absurd r (g.em i (fun t e => by rw [q] at e; cases e) a)
  | some o =>
    cases o with
    | none => exact absurd r (g.em i (fun t e => by rw [q] at e; cases e) a)
    | some t =>
      obtain ⟨v, _, rp⟩ := g.sl i t q
      exact rp.own a r
theorem Good.keep (g : Good K M H σ ρ F) (k : Kp M M' H H' (Al F)) (le : L2.Same M' H') : Good K M' H' σ ρ F :=
  ⟨le, g.len, fun i t e => let ⟨v, e2, r⟩ := g.sl i t e; ⟨v, e2, r.keep (k.sub fun a q => ⟨i, q⟩)⟩, g.em, g.dj⟩
theorem Rp.apart {t : T} {v : V} {R : Fp} (r : Rp K M H t v R) (s : Stp M H P M1 H1 P1) (hr : ∀ a, R a → ¬ P a) : Rp K M1 H1 t v R := r.keep (s.kp hr r.own)
/-- the heap and the frozen part grow -/
structure Ext (M H M' H' : Hp) : Prop where
  h : L2.Same H H'
  m : L2.Same M M'
  le : L2.Same M' H'
  n : ∀ a, M a = none → M' a ≠ none → H a = none
theorem Ext.refl (le : L2.Same M H) : Ext M H M H := ⟨L2.Same.refl _, L2.Same.refl _, le, fun a h1 h2 => absurd h1 h2⟩
theorem Same.out {H H' : Hp} (s : L2.Same H H') {a : Addr} (e : H' a = none) : H a = none := s.free e
theorem Ext.trans (a : Ext M H M1 H1) (b : Ext M1 H1 M2 H2) : Ext M H M2 H2 := ⟨a.h.trans b.h, a.m.trans b.m, b.le, fun c h1 h2 => by
  cases q : M1 c with
  | none => exact Same.out a.h (b.n c q h2)
  | some o => exact a.n c h1 (by rw [q]; simp)⟩
theorem Ext.kp (x : Ext M H M1 H1) (ho : ∀ a, R a → M a = none ∧ ∃ o, H a = some o) : Kp M M1 H H1 R := ⟨x.m, fun a _ o e => x.h a o e, fun a r e => Classical.byContradiction fun q => by
  obtain ⟨_, o, e2⟩ := ho a r
  rw [x.n a e q] at e2; cases e2⟩
theorem Rp.ext {t : T} {v : V} {R : Fp} (r : Rp K M H t v R) (x : Ext M H M1 H1) : Rp K M1 H1 t v R := r.keep (x.kp r.own)
theorem Good.ext (g : Good K M H σ ρ F) (x : Ext M H M1 H1) : Good K M1 H1 σ ρ F := g.keep (x.kp g.own) x.le
theorem Ext.stp (x : Ext M H M1 H1) (hp : ∀ a, P' a → P a ∨ H a = none) : Stp M H P M1 H1 P' := ⟨x.m, fun a o e _ => x.h a o e, fun a h1 h2 => .inr (x.n a h1 h2), hp⟩
theorem Rp.fr_inv {d : D} {v : V} (r : Rp K M H (.fr d) v R) : Dz K M v d ∧ ∀ a, ¬ R a := by
  cases r with
  | fr h => exact ⟨h, fun _ => id⟩
/-- a new object: a list -/
theorem Ext.new {p : Addr} {o : HO} (le : L2.Same M H) (np : H p = none) : Ext M H M (upd H p o) := by
  have e : L2.Same H (upd H p o) := fun a u q => by rw [upd_ne (ne_of_none q np)]; exact q
  exact ⟨e, L2.Same.refl _, fun a u q => e a u (le a u q), fun a h1 h2 => absurd h1 h2⟩
theorem Ext.newM {p : Addr} {o : HO} (le : L2.Same M H) (np : H p = none) : Ext M H (upd M p o) (upd H p o) := by
  have e : L2.Same H (upd H p o) := fun a u q => by rw [upd_ne (ne_of_none q np)]; exact q
  have mp : M p = none := Same.out le np
  refine ⟨e, fun a u q => by rw [upd_ne (ne_of_none q mp)]; exact q, fun a u q => ?_, fun a h1 h2 => ?_⟩
  · by_cases z : a = p
    · subst z; rw [upd_same] at q ⊢; exact q
    · rw [upd_ne z] at q ⊢; exact le a u q
  · by_cases z : a = p
    · subst z; exact np
    · rw [upd_ne z] at h2; exact absurd h1 h2
/-- the owned made frozen -/
theorem Stp.frz {t : T} {v : V} (s : Stp M H P M1 H1 (fun a => R a ∨ P1 a)) (r : Rp K M1 H1 t v R) (dj : ∀ a, R a → ¬ P1 a) (le : L2.Same M1 H1) : Stp M H P (Lv.frz M1 H1 R) H1 P1 ∧ L2.Same (Lv.frz M1 H1 R) H1 ∧ Kp M1 (Lv.frz M1 H1 R) H1 H1 P1 := by
  have mm : L2.Same M1 (Lv.frz M1 H1 R) := frz_same fun a q => (r.own a q).1
  refine ⟨⟨s.m.trans mm, s.h, fun a h1 h2 => ?_, fun a q => s.p a (.inr q)⟩, frz_le le, ⟨mm, fun _ _ _ e => e, fun a q e => by rw [frz_out fun z => dj a z q]; exact e⟩⟩
  by_cases q : R a
  · exact s.p a (.inl q)
  · rw [frz_out q] at h2; exact s.n a h1 h2
end
/-! ### judgements -/
inductive Rs (α : Type) where
  | ok (a : α) (ρ : Rho)
  | ex (c : Str) (ρ : Rho)
abbrev WS := Str → L2.St → Hp → Prop
def bnd {α β : Type} (r : Option (Rs α)) (k : α → Rho → Option (Rs β)) : Option (Rs β) := match r with
  | some (.ok a ρ) => k a ρ
  | some (.ex c ρ) => some (.ex c ρ)
  | none => none
def tK (K : PySem.W.Frag) (f : Rho → Option T) : TE := fun σ H Q => ∃ M ρ F t, Good K M H σ ρ F ∧ f ρ = some t ∧ ∀ M' H' v R, Ext M H M' H' → Rp K M' H' t v R → Q v H'
/-- what is wanted of an exception -/
def wEx (K : PySem.W.Frag) (W : WS) (M H : Hp) (F : Nat → Fp) (σ : L2.St) (c : Str) (ρ : Rho) : Prop := ∀ M' H' F', Stp M H (Al F) M' H' (Al F') → Good K M' H' σ ρ F' → W c σ H'
def tE (K : PySem.W.Frag) (W : WS) (f : Rho → Option (Rs T)) : TE := fun σ H Q => ∃ M ρ F r, Good K M H σ ρ F ∧ f ρ = some r ∧ match r with
  | .ok t ρ' => ∀ M' H' v R F', Stp M H (Al F) M' H' (fun a => R a ∨ Al F' a) → Good K M' H' σ ρ' F' → Rp K M' H' t v R → (∀ a, R a → ¬ Al F' a) → Q v H'
  | .ex c ρ' => wEx K W M H F σ c ρ'
def tT (K : PySem.W.Frag) (W : WS) (f : Rho → Option (Rs Bool)) : TT := fun σ H Q => ∃ M ρ F r, Good K M H σ ρ F ∧ f ρ = some r ∧ match r with
  | .ok b ρ' => ∀ M' H' F', Stp M H (Al F) M' H' (Al F') → Good K M' H' σ ρ' F' → Q b H'
  | .ex c ρ' => wEx K W M H F σ c ρ'
abbrev EK (X : Cx) (e : Expr) (f : Rho → Option T) : Prop := PE X e (tK X.K f)
abbrev EE (X : Cx) (W : WS) (e : Expr) (f : Rho → Option (Rs T)) : Prop := PE X e (tE X.K W f)
abbrev ET (X : Cx) (W : WS) (e : Expr) (f : Rho → Option (Rs Bool)) : Prop := PT X e (tT X.K W f)
theorem _root_.L2.PE.lv {X : Cx} {e : Expr} {t t' : TE} (h : PE X e t) (i : ∀ σ H Q, t' σ H Q → t σ H Q) : PE X e t' := ⟨fun pins s σ H Q I w => h.run pins s σ H Q I (i σ H Q w)⟩
theorem _root_.L2.PT.lv {X : Cx} {e : Expr} {t t' : TT} (h : PT X e t) (i : ∀ σ H Q, t' σ H Q → t σ H Q) : PT X e t' := ⟨fun pins s σ H Q I w => h.run pins s σ H Q I (i σ H Q w)⟩
theorem _root_.L2.PS.lv {X : Cx} {e : Stmt} {t t' : TS} (h : PS X e t) (i : ∀ D σ H, t' D σ H → t D σ H) : PS X e t' := ⟨fun pins s σ H D I w => h.run pins s σ H D I (i D σ H w)⟩
theorem _root_.L2.PSs.lv {X : Cx} {e : List Stmt} {t t' : TS} (h : PSs X e t) (i : ∀ D σ H, t' D σ H → t D σ H) : PSs X e t' := ⟨fun pins s σ H D I w => h.run pins s σ H D I (i D σ H w)⟩
section
variable {X : Cx} {W : WS} {e a b : Expr} {pos : Pos}
def kC (d : D) : Rho → Option T := fun _ => some (.fr d)
def kV (i : Nat) : Rho → Option T := fun ρ => match ρ[i]? with
  | some (some t) => some t
  | _ => none
def kOk (f : Rho → Option T) : Rho → Option (Rs T) := fun ρ => match f ρ with
  | some (.fr d) => some (.ok (.fr d) ρ)
  | _ => none
theorem ek_var {i : Nat} {x : Str} (h : PE X (.Name x pos) (tVar i)) : EK X (.Name x pos) (kV i) := h.lv fun σ H Q ⟨M, ρ, F, t, g, e, q⟩ => by
  unfold kV at e
  split at e
  · next t' e' =>
    cases e
    obtain ⟨v, h1, r⟩ := g.sl i _ e'
    exact ⟨v, h1, q M H v _ (.refl g.le) r⟩
  · cases e
theorem ek_c {v : V} {d : D} (h : PE X e (tC v)) (r : ∀ M, Dz X.K M v d) : EK X e (kC d) := h.lv fun σ H Q ⟨M, ρ, F, t, g, e, q⟩ => by
  cases e
  exact q M H v _ (.refl g.le) (.fr (r M))
theorem ek_int {i : Int} {j} : EK X (.Constant (.int i) j pos) (kC (.int i)) := ek_c pe_int fun _ => .int i
theorem ek_bl {i : Bool} {j} : EK X (.Constant (.bool i) j pos) (kC (.bool i)) := ek_c pe_bl fun _ => .bl i
theorem ek_non {j} : EK X (.Constant .none j pos) (kC .none) := ek_c pe_non fun _ => .non
theorem ek_str {i : Str} {j} : EK X (.Constant (.str i) j pos) (kC (.str i)) := ek_c pe_str fun _ => .str i
theorem ee_k {f : Rho → Option T} (h : EK X e f) : EE X W e (kOk f) := h.lv fun σ H Q ⟨M, ρ, F, r, g, e, q⟩ => by
  unfold kOk at e
  split at e
  · next d e' =>
    cases e
    refine ⟨M, ρ, F, _, g, e', fun M' H' v R x rp => ?_⟩
    have nr := (rp.fr_inv).2
    exact q M' H' v R F (x.stp fun a q => .inl (q.elim (fun z => absurd z (nr a)) id)) (g.ext x) rp fun a z => absurd z (nr a)
  · cases e
/-- moved out of its slot -/
def eMv (i : Nat) : Rho → Option (Rs T) := fun ρ => match ρ[i]? with
  | some (some t) => some (.ok t (ρ.set i none))
  | _ => none
/-- frozen in its slot -/
def eCp (i : Nat) : Rho → Option (Rs T) := fun ρ => match ρ[i]? with
  | some (some t) => t.dat.map fun d => .ok (.fr d) (ρ.set i (some (.fr d)))
  | _ => none
theorem Good.drop {K : PySem.W.Frag} {M H : Hp} {σ : L2.St} {ρ : Rho} {F : Nat → Fp} (g : Good K M H σ ρ F) (i : Nat) : Good K M H σ (ρ.set i none) (fun j a => j ≠ i ∧ F j a) where
  le := g.le
  len := by simpa using g.len
  sl := fun j t e => by
    by_cases z : j = i
    · subst z
      rw [List.getElem?_set] at e
      split at e
      · split at e <;> simp at e
      · simp at *
    · rw [List.getElem?_set_ne (Ne.symm z)] at e
      obtain ⟨v, h1, r⟩ := g.sl j t e
      refine ⟨v, h1, ?_⟩
      have e2 : (fun a => j ≠ i ∧ F j a) = F j := funext fun a => by simp [z]
      rw [e2]; exact r
  em := fun j h a q => by
    refine g.em j (fun t e => h t ?_) a q.2
    rw [List.getElem?_set_ne (Ne.symm q.1)]; exact e
  dj := fun j k a h1 h2 => g.dj j k a h1.2 h2.2
theorem Good.put {K : PySem.W.Frag} {M H : Hp} {σ : L2.St} {ρ : Rho} {F : Nat → Fp} {R : Fp} {t : T} {v : V} (g : Good K M H σ ρ F) {i : Nat} (hi : i < σ.length) (r : Rp K M H t v R) (dj : ∀ a, R a → ¬ ∃ j, j ≠ i ∧ F j a) :
    Good K M H (σ.set i (some v)) (ρ.set i (some t)) (fun j a => if j = i then R a else F j a) where
  le := g.le
  len := by simpa using g.len
  sl := fun j t' e => by
    by_cases z : j = i
    · subst z
      rw [List.getElem?_set_self (by rw [g.len]; exact hi)] at e
      cases e
      refine ⟨v, by rw [List.getElem?_set_self hi], ?_⟩
      simpa using r
    · rw [List.getElem?_set_ne (Ne.symm z)] at e
      obtain ⟨u, h1, q⟩ := g.sl j t' e
      refine ⟨u, by rw [List.getElem?_set_ne (Ne.symm z)]; exact h1, ?_⟩
      simpa [z] using q
  em := fun j h a q => by
    by_cases z : j = i
    · subst z
      exact h t (by rw [List.getElem?_set_self (by rw [g.len]; exact hi)])
    · rw [if_neg z] at q
      refine g.em j (fun t' e => h t' ?_) a q
      rw [List.getElem?_set_ne (Ne.symm z)]; exact e
  dj := fun j k a h1 h2 => by
    by_cases z : j = i
    · by_cases y : k = i
      · rw [z, y]
      · simp only [z, if_true, y, if_false] at h1 h2
        exact absurd ⟨k, y, h2⟩ (dj a h1)
    · by_cases y : k = i
      · simp only [z, if_false, y, if_true] at h1 h2
        exact absurd ⟨j, z, h1⟩ (dj a h2)
      · simp only [z, y, if_false] at h1 h2
        exact g.dj j k a h1 h2
/-- the slot's value stays where it is -/
theorem Good.reput {K : PySem.W.Frag} {M H : Hp} {σ : L2.St} {ρ : Rho} {F : Nat → Fp} {R : Fp} {t : T} {v : V} (g : Good K M H σ ρ F) {i : Nat} (hv : σ[i]? = some (some v)) (r : Rp K M H t v R) (dj : ∀ a, R a → ¬ ∃ j, j ≠ i ∧ F j a) :
    Good K M H σ (ρ.set i (some t)) (fun j a => if j = i then R a else F j a) := by
  obtain ⟨hi, e⟩ := List.getElem?_eq_some_iff.mp hv
  have q := g.put hi r dj
  have e2 : σ.set i (some v) = σ := by rw [← e]; exact List.set_getElem_self hi
  rwa [e2] at q
theorem ee_mv {i : Nat} {x : Str} (h : PE X (.Name x pos) (tVar i)) : EE X W (.Name x pos) (eMv i) := h.lv fun σ H Q ⟨M, ρ, F, r, g, e, q⟩ => by
  unfold eMv at e
  split at e
  · next t e' =>
    cases e
    obtain ⟨v, h1, rp⟩ := g.sl i _ e'
    refine ⟨v, h1, q M H v (F i) _ (.refl fun a z => ?_) (g.drop i) rp fun a z => ?_⟩
    · rcases z with z | ⟨j, _, z⟩
      · exact ⟨i, z⟩
      · exact ⟨j, z⟩
    · rintro ⟨j, ne, z'⟩
      exact ne (g.dj j i a z' z)
  · cases e
theorem ee_cp {i : Nat} {x : Str} (h : PE X (.Name x pos) (tVar i)) : EE X W (.Name x pos) (eCp i) := h.lv fun σ H Q ⟨M, ρ, F, r, g, e, q⟩ => by
  unfold eCp at e
  split at e
  · next t e' =>
    cases ed : t.dat with
    | none => rw [ed] at e; cases e
    | some d =>
      rw [ed] at e; cases e
      obtain ⟨v, h1, rp⟩ := g.sl i _ e'
      have S0 : Stp M H (Al F) M H (fun a => F i a ∨ Al (fun j a => j ≠ i ∧ F j a) a) := .refl fun a z => by
        rcases z with z | ⟨j, _, z⟩
        · exact ⟨i, z⟩
        · exact ⟨j, z⟩
      have dj : ∀ a, F i a → ¬ Al (fun j a => j ≠ i ∧ F j a) a := fun a z ⟨j, ne, z'⟩ => ne (g.dj j i a z' z)
      obtain ⟨S1, le1, kp⟩ := S0.frz rp dj g.le
      have dz := rp.freeze ed
      have g1 := (g.drop i).keep kp le1
      have g2 := g1.reput h1 (.fr dz) (fun a z => z.elim)
      refine ⟨v, h1, q _ H v (fun _ => False) _ (S1.sub (fun _ z => z) fun a z => ?_) (by rw [List.set_set] at g2; exact g2) (.fr dz) fun a z => z.elim⟩
      rcases z with z | ⟨j, z⟩
      · exact z.elim
      · by_cases y : j = i
        · simp [y] at z
        · simp only [y, if_false] at z
          exact ⟨j, z⟩
  · cases e
/-- frozen as it is made -/
def eFz (f : Rho → Option (Rs T)) : Rho → Option (Rs T) := fun ρ => bnd (f ρ) fun t ρ' => t.dat.map fun d => .ok (.fr d) ρ'
theorem bnd_some {α β : Type} {r : Option (Rs α)} {k : α → Rho → Option (Rs β)} {s : Rs β} (h : bnd r k = some s) : (∃ a ρ, r = some (.ok a ρ) ∧ k a ρ = some s) ∨ ∃ c ρ, r = some (.ex c ρ) ∧ s = .ex c ρ := by
  unfold bnd at h
  split at h
  · exact .inl ⟨_, _, rfl, h⟩
  · cases h; exact .inr ⟨_, _, rfl, rfl⟩
  · cases h
theorem ee_fz {f : Rho → Option (Rs T)} (h : EE X W e f) : EE X W e (eFz f) := h.lv fun σ H Q ⟨M, ρ, F, r, g, e, q⟩ => by
  rcases bnd_some e with ⟨t, ρ', e1, e2⟩ | ⟨c, ρ', e1, rfl⟩
  · cases ed : t.dat with
    | none => rw [ed] at e2; cases e2
    | some d =>
      rw [ed] at e2; cases e2
      refine ⟨M, ρ, F, _, g, e1, fun M' H' v R F' S g' rp dj => ?_⟩
      obtain ⟨S1, le1, kp⟩ := S.frz rp dj g'.le
      exact q _ H' v (fun _ => False) F' (S1.sub (fun _ z => z) fun a z => z.elim False.elim id) (g'.keep kp le1) (.fr (rp.freeze ed)) fun a z => z.elim
  · exact ⟨M, ρ, F, _, g, e1, q⟩
/-! ### operations by values -/
def rFin (K : PySem.W.Frag) (M H : Hp) (t : T) (Q : VK) : Prop := ∀ M' H' v R, Ext M H M' H' → Rp K M' H' t v R → (∀ a, R a → H a = none) → Q v H'
def Op1 (X : Cx) (r : V → Hp → VK → Prop) (op : T → Option T) : Prop := ∀ M H v t R u Q, L2.Same M H → Rp X.K M H t v R → op t = some u → rFin X.K M H u Q → r v H Q
def Op2 (X : Cx) (r : R2) (op : T → T → Option T) : Prop := ∀ M H v t R v2 t2 R2 u Q, L2.Same M H → Rp X.K M H t v R → Rp X.K M H t2 v2 R2 → op t t2 = some u → rFin X.K M H u Q → r v v2 H Q
def k1 (op : T → Option T) (f : Rho → Option T) : Rho → Option T := fun ρ => (f ρ).bind op
def k2 (op : T → T → Option T) (f g : Rho → Option T) : Rho → Option T := fun ρ => (f ρ).bind fun a => (g ρ).bind fun b => op a b
def e1 (op : T → Option T) (f : Rho → Option (Rs T)) : Rho → Option (Rs T) := fun ρ => bnd (f ρ) fun a ρ1 => (op a).map fun t => .ok t ρ1
def e2 (op : T → T → Option T) (f g : Rho → Option (Rs T)) : Rho → Option (Rs T) := fun ρ => bnd (f ρ) fun a ρ1 => bnd (g ρ1) fun b ρ2 => (op a b).map fun t => .ok t ρ2
theorem k_fin {K : PySem.W.Frag} {M0 H0 M H : Hp} {t : T} {Q : VK} (x : Ext M0 H0 M H) (q : ∀ M' H' v R, Ext M0 H0 M' H' → Rp K M' H' t v R → Q v H') : rFin K M H t Q := fun M' H' v R x' rp _ => q M' H' v R (x.trans x') rp
theorem tk_bin {K : PySem.W.Frag} {ta tb : Rho → Option T} {op : T → T → Option T} {r : R2} (hr : ∀ M H v t R v2 t2 R2 u Q, L2.Same M H → Rp K M H t v R → Rp K M H t2 v2 R2 → op t t2 = some u → rFin K M H u Q → r v v2 H Q) (σ : L2.St) (H : Hp) (Q : VK)
    (h : tK K (k2 op ta tb) σ H Q) : tK K ta σ H fun x H1 => tK K tb σ H1 fun y H2 => r x y H2 Q := by
  obtain ⟨M, ρ, F, t, g, e, q⟩ := h
  unfold k2 at e
  obtain ⟨u, e1, e⟩ := Option.bind_eq_some_iff.mp e
  obtain ⟨w, e2, e⟩ := Option.bind_eq_some_iff.mp e
  refine ⟨M, ρ, F, u, g, e1, fun M1 H1 v1 R1 x1 r1 => ⟨M1, ρ, F, w, g.ext x1, e2, fun M2 H2 v2 R2 x2 r2 => ?_⟩⟩
  exact hr M2 H2 v1 u R1 v2 w R2 t Q x2.le (r1.ext x2) r2 e (k_fin (x1.trans x2) q)
theorem ek_op2 {op' : Operator} {r : R2} {op : T → T → Option T} {f g : Rho → Option T} (ho : OpR X (binaryOp op') r) (hp : Op2 X r op) (ha : EK X a f) (hb : EK X b g) : EK X (.BinOp a op' b pos) (k2 op f g) :=
  (pe_op ho ha hb).lv fun σ H Q h => tk_bin hp σ H Q h
theorem te_bin {K : PySem.W.Frag} {ta tb : Rho → Option (Rs T)} {op : T → T → Option T} {r : R2} (hr : ∀ M H v t R v2 t2 R2 u Q, L2.Same M H → Rp K M H t v R → Rp K M H t2 v2 R2 → op t t2 = some u → rFin K M H u Q → r v v2 H Q) (σ : L2.St) (H : Hp) (Q : VK)
    (h : tE K W (e2 op ta tb) σ H Q) : tE K W ta σ H fun x H1 => tE K W tb σ H1 fun y H2 => r x y H2 Q := by
  obtain ⟨M, ρ, F, t, g, e, q⟩ := h
  rcases bnd_some e with ⟨u, ρ1, e1, e⟩ | ⟨c, ρ', e1, rfl⟩
  · refine ⟨M, ρ, F, _, g, e1, fun M1 H1 v1 R1 F1 S1 g1 r1 d1 => ?_⟩
    rcases bnd_some e with ⟨w, ρ2, e2, e⟩ | ⟨c, ρ', e2, rfl⟩
    · cases eo : op u w with
      | none => rw [eo] at e; cases e
      | some z =>
        rw [eo] at e; cases e
        refine ⟨M1, ρ1, F1, _, g1, e2, fun M2 H2 v2 R2 F2 S2 g2 r2 d2 => ?_⟩
        have r1' := r1.apart S2 d1
        refine hr M2 H2 v1 u R1 v2 w R2 z Q g2.le r1' r2 eo fun M3 H3 v3 R3 x3 r3 n3 => ?_
        have own2 := g2.own
        refine q M3 H3 v3 R3 F2 (((S1.sub (fun _ z => z) fun a z => .inr z).trans (S2.sub (fun _ z => z) fun a (z : Al F2 a) => .inr z)).trans (x3.stp fun a z => z.elim (fun z => .inr (n3 a z)) .inl)) (g2.ext x3) r3 fun a z z' => ?_
        obtain ⟨_, o, eo'⟩ := own2 a z'
        rw [n3 a z] at eo'; cases eo'
    · exact ⟨M1, ρ1, F1, _, g1, e2, fun M2 H2 F2 S2 g2 => q M2 H2 F2 ((S1.sub (fun _ z => z) fun a z => .inr z).trans S2) g2⟩
  · exact ⟨M, ρ, F, _, g, e1, q⟩
theorem ee_op2 {op' : Operator} {r : R2} {op : T → T → Option T} {f g : Rho → Option (Rs T)} (ho : OpR X (binaryOp op') r) (hp : Op2 X r op) (ha : EE X W a f) (hb : EE X W b g) : EE X W (.BinOp a op' b pos) (e2 op f g) :=
  (pe_op ho ha hb).lv fun σ H Q h => te_bin hp σ H Q h
theorem ek_cmp {op' : CmpOp} {r : R2} {op : T → T → Option T} {f g : Rho → Option T} (ho : OpR X (compareOp op') r) (hp : Op2 X r op) (ha : EK X a f) (hb : EK X b g) (hm : behindInMarks op' b = false) : EK X (.Compare a [op'] [b] pos) (k2 op f g) :=
  (pe_cmpR ho ha hb hm).lv fun σ H Q h => tk_bin hp σ H Q h
theorem ee_cmp {op' : CmpOp} {r : R2} {op : T → T → Option T} {f g : Rho → Option (Rs T)} (ho : OpR X (compareOp op') r) (hp : Op2 X r op) (ha : EE X W a f) (hb : EE X W b g) (hm : behindInMarks op' b = false) : EE X W (.Compare a [op'] [b] pos) (e2 op f g) :=
  (pe_cmpR ho ha hb hm).lv fun σ H Q h => te_bin hp σ H Q h
theorem ek_ix {r : R2} {op : T → T → Option T} {f g : Rho → Option T} (ho : IxR X r) (hp : Op2 X r op) (ha : EK X a f) (hb : EK X b g) (hs : PlainIx b) : EK X (.Subscript a b pos) (k2 op f g) :=
  (pe_ix ho ha hb hs).lv fun σ H Q h => tk_bin hp σ H Q h
theorem ee_ix {r : R2} {op : T → T → Option T} {f g : Rho → Option (Rs T)} (ho : IxR X r) (hp : Op2 X r op) (ha : EE X W a f) (hb : EE X W b g) (hs : PlainIx b) : EE X W (.Subscript a b pos) (e2 op f g) :=
  (pe_ix ho ha hb hs).lv fun σ H Q h => te_bin hp σ H Q h
theorem tk_un {K : PySem.W.Frag} {ta : Rho → Option T} {op : T → Option T} {r : V → Hp → VK → Prop} (hr : ∀ M H v t R u Q, L2.Same M H → Rp K M H t v R → op t = some u → rFin K M H u Q → r v H Q) (σ : L2.St) (H : Hp) (Q : VK)
    (h : tK K (k1 op ta) σ H Q) : tK K ta σ H fun x H1 => r x H1 Q := by
  obtain ⟨M, ρ, F, t, g, e, q⟩ := h
  unfold k1 at e
  obtain ⟨u, e1, e⟩ := Option.bind_eq_some_iff.mp e
  exact ⟨M, ρ, F, u, g, e1, fun M1 H1 v1 R1 x1 r1 => hr M1 H1 v1 u R1 t Q x1.le r1 e (k_fin x1 q)⟩
theorem te_un {K : PySem.W.Frag} {ta : Rho → Option (Rs T)} {op : T → Option T} {r : V → Hp → VK → Prop} (hr : ∀ M H v t R u Q, L2.Same M H → Rp K M H t v R → op t = some u → rFin K M H u Q → r v H Q) (σ : L2.St) (H : Hp) (Q : VK)
    (h : tE K W (e1 op ta) σ H Q) : tE K W ta σ H fun x H1 => r x H1 Q := by
  obtain ⟨M, ρ, F, t, g, e, q⟩ := h
  rcases bnd_some e with ⟨u, ρ1, e1, e⟩ | ⟨c, ρ', e1, rfl⟩
  · cases eo : op u with
    | none => rw [eo] at e; cases e
    | some z =>
      rw [eo] at e; cases e
      refine ⟨M, ρ, F, _, g, e1, fun M1 H1 v1 R1 F1 S1 g1 r1 d1 => ?_⟩
      refine hr M1 H1 v1 u R1 z Q g1.le r1 eo fun M3 H3 v3 R3 x3 r3 n3 => ?_
      refine q M3 H3 v3 R3 F1 ((S1.sub (fun _ z => z) fun a z => .inr z).trans (x3.stp fun a z => z.elim (fun z => .inr (n3 a z)) .inl)) (g1.ext x3) r3 fun a z z' => ?_
      obtain ⟨_, o, eo'⟩ := g1.own a z'
      rw [n3 a z] at eo'; cases eo'
  · exact ⟨M, ρ, F, _, g, e1, q⟩
theorem ek_un {op' : UnaryOp} {r : V → Hp → VK → Prop} {op : T → Option T} {f : Rho → Option T} (ho : UnR X (unaryOp op') r) (hp : Op1 X r op) (ha : EK X a f) : EK X (.UnaryOp op' a pos) (k1 op f) :=
  (pe_un ho ha).lv fun σ H Q h => tk_un hp σ H Q h
theorem ee_un {op' : UnaryOp} {r : V → Hp → VK → Prop} {op : T → Option T} {f : Rho → Option (Rs T)} (ho : UnR X (unaryOp op') r) (hp : Op1 X r op) (ha : EE X W a f) : EE X W (.UnaryOp op' a pos) (e1 op f) :=
  (pe_un ho ha).lv fun σ H Q h => te_un hp σ H Q h
end
end Lv

set_option maxHeartbeats 1000000
namespace Lv
open PySem PySem.Spec PyProof.Rows L2
def allFr : List T → Option (List D)
  | [] => some []
  | .fr d :: r => (allFr r).map (d :: ·)
  | _ :: _ => none
def T.asL : T → Option (List D)
  | .fr (.list ds) => some ds
  | .lst xs => allFr xs
  | _ => none
def okD (d : D) : Bool := d.plain && decide (d.depth ≤ 60)
theorem allFr_map : ∀ ds : List D, allFr (ds.map .fr) = some ds
  | [] => rfl
  | d :: ds => by simp [allFr, allFr_map ds]
theorem allFr_eq : ∀ {xs : List T} {ds : List D}, allFr xs = some ds → xs = ds.map .fr
  | [], _, e => by cases e; rfl
  | .fr d :: r, ds, e => by
    simp only [allFr] at e
    cases q : allFr r with
    | none => rw [q] at e; cases e
    | some es => rw [q] at e; cases e; rw [allFr_eq q]; rfl
  | .lst _ :: _, _, e => by cases e
  | .dk _ :: _, _, e => by cases e
  | .obj _ _ :: _, _, e => by cases e
theorem datL_map : ∀ ds : List D, T.datL (ds.map .fr) = some ds
  | [] => rfl
  | d :: ds => by simp [T.datL, T.dat, datL_map ds]
section
variable {K : PySem.W.Frag} {M H : Hp} {v : V} {R : Fp}
theorem Dz.non_inv (h : Dz K M v .none) : v = .non := by cases h; rfl
theorem Dz.bl_inv {b : Bool} (h : Dz K M v (.bool b)) : v = .bl b := by cases h; rfl
theorem Dz.int_inv {i : Int} (h : Dz K M v (.int i)) : v = .int i := by cases h; rfl
theorem Dz.str_inv {x : Str} (h : Dz K M v (.str x)) : v = .str x := by cases h; rfl
theorem Dz.list_inv {ds : List D} (h : Dz K M v (.list ds)) : ∃ a xs, v = .ref a ∧ SqL K M a xs ∧ DzL K M xs ds := by
  cases h with | lst h1 h2 => exact ⟨_, _, rfl, h1, h2⟩
theorem Dz.tup_inv {ds : List D} (h : Dz K M v (.tuple ds)) : ∃ a xs, v = .ref a ∧ SqT K M a xs ∧ DzL K M xs ds := by
  cases h with | tup h1 h2 => exact ⟨_, _, rfl, h1, h2⟩
theorem RpL.frs : ∀ {ds : List D} {vs : List V} {R : Fp}, RpL K M H (ds.map .fr) vs R → DzL K M vs ds ∧ ∀ a, ¬ R a
  | [], _, _, h => by cases h; exact ⟨.nil, fun _ => id⟩
  | d :: ds, _, _, h => by
    cases h with
    | cons h t _ =>
      obtain ⟨h1, h2⟩ := RpL.frs (ds := ds) t
      obtain ⟨h3, h4⟩ := h.fr_inv
      exact ⟨.cons h3 h1, fun a z => z.elim (h4 a) (h2 a)⟩
theorem rpL_of : ∀ {ds : List D} {vs : List V}, DzL K M vs ds → RpL K M H (ds.map .fr) vs (fun _ => False)
  | [], _, h => by cases h; exact .nil
  | d :: ds, _, h => by
    cases h with
    | cons h t =>
      have q := RpL.cons (R := fun _ => False) (R' := fun _ => False) (.fr h) (rpL_of t) (fun _ z => z.elim)
      have e : (fun b : Addr => (False ∨ False)) = fun _ => False := funext fun _ => by simp
      rw [e] at q
      exact q
theorem Rp.asL_inv {t : T} {ds : List D} (m : L2.Same M H) (e : t.asL = some ds) (h : Rp K M H t v R) : ∃ a xs, v = .ref a ∧ SqL K H a xs ∧ DzL K M xs ds := by
  cases t with
  | fr d =>
    cases d with
    | list xs =>
      cases e
      obtain ⟨a, xs, e1, h1, h2⟩ := h.fr_inv.1.list_inv
      exact ⟨a, xs, e1, m.seq h1, h2⟩
    | _ => cases e
  | lst xs =>
    have e2 := allFr_eq (show allFr xs = some ds from e)
    subst e2
    cases h with
    | lst h1 h2 h3 h4 => exact ⟨_, _, rfl, .of h1, h3.frs.1⟩
  | _ => cases e
/-- a new list of frozen items -/
theorem fin_list {ds : List D} {vs : List V} {Q : VK} (m : L2.Same M H) (hv : DzL K M vs ds) (q : rFin K M H (.lst (ds.map .fr)) Q) {p : Addr} (np : H p = none) : Q (.ref p) (upd H p (.lst vs)) := by
  have mp : M p = none := Same.out m np
  refine q M (upd H p (.lst vs)) (.ref p) _ (.new m np) (.lst upd_same mp (rpL_of hv) id) fun a z => ?_
  rcases z with z | z
  · subst z; exact np
  · exact z.elim
theorem fin_tup {ds : List D} {vs : List V} {Q : VK} (m : L2.Same M H) (hv : DzL K M vs ds) (q : rFin K M H (.fr (.tuple ds)) Q) {p : Addr} (np : H p = none) : Q (.ref p) (upd H p (.tup vs)) := by
  have x := Ext.newM (o := .tup vs) m np
  exact q (upd M p (.tup vs)) (upd H p (.tup vs)) (.ref p) _ x (.fr (.tup (.of upd_same) (hv.mono x.m))) fun a z => z.elim
theorem fin_dz {d : D} {Q : VK} (m : L2.Same M H) (h : Dz K M v d) (q : rFin K M H (.fr d) Q) : Q v H := q M H v _ (.refl m) (.fr h) fun a z => z.elim
theorem fin_int {i : Int} {Q : VK} (m : L2.Same M H) (q : rFin K M H (.fr (.int i)) Q) : Q (.int i) H := fin_dz m (.int i) q
theorem fin_bl {i : Bool} {Q : VK} (m : L2.Same M H) (q : rFin K M H (.fr (.bool i)) Q) : Q (.bl i) H := fin_dz m (.bl i) q
theorem fin_str {i : Str} {Q : VK} (m : L2.Same M H) (q : rFin K M H (.fr (.str i)) Q) : Q (.str i) H := fin_dz m (.str i) q
end
/-! ### the readings of operations -/
def rOp1 (K : PySem.W.Frag) (op : T → Option T) : V → Hp → VK → Prop := fun x H Q => ∃ M t R u, L2.Same M H ∧ Rp K M H t x R ∧ op t = some u ∧ rFin K M H u Q
def rOp2 (K : PySem.W.Frag) (op : T → T → Option T) : R2 := fun x y H Q => ∃ M t R t2 R2 u, L2.Same M H ∧ Rp K M H t x R ∧ Rp K M H t2 y R2 ∧ op t t2 = some u ∧ rFin K M H u Q
theorem op1_of {X : Cx} {op : T → Option T} : Op1 X (rOp1 X.K op) op := fun M H v t R u Q m r e q => ⟨M, t, R, u, m, r, e, q⟩
theorem op2_of {X : Cx} {op : T → T → Option T} : Op2 X (rOp2 X.K op) op := fun M H v t R v2 t2 R2 u Q m r r2 e q => ⟨M, t, R, t2, R2, u, m, r, r2, e, q⟩
abbrev SZ : Nat := 16777216
theorem sz_ok {n : Nat} (h : n ≤ SZ) : n ≤ sizeLine := by rw [sizeLine_eq]; exact h
def opAdd : T → T → Option T
  | .fr (.int a), .fr (.int b) => some (.fr (.int (a + b)))
  | .fr (.str a), .fr (.str b) => if a.length + b.length ≤ SZ then some (.fr (.str (a ++ b))) else none
  | .fr (.tuple a), .fr (.tuple b) => if a.length + b.length ≤ SZ then some (.fr (.tuple (a ++ b))) else none
  | a, b => match a.asL, b.asL with
    | some xs, some ys => if xs.length + ys.length ≤ SZ then some (.lst ((xs ++ ys).map .fr)) else none
    | _, _ => none

theorem room_u {k : Nat} {A : Around} (r : Room k A) : A.units + 64 < cLine := r.units
section
variable {X : Cx}
theorem cat_lists {pins : List (Addr × Obj)} {s : Shared} {σ : L2.St} {H : Hp} {a b : Addr} {vs ws : List V} {Q : VK} (I : Inv X pins σ H s) (h1 : SqL X.K H a vs) (h2 : SqL X.K H b ws) (hl : vs.length + ws.length ≤ SZ)
    (q : ∀ p, H p = none → Q (.ref p) (upd H p (.lst (vs ++ ws)))) : wpAny (model X.prog X.w) X.A (binaryOp .Add (.ref a) (.ref b)) (EP X pins σ Q) X.xe s := by
  obtain ⟨its, rv, ⟨⟨cls, dd, data, sl⟩, n, g1, g2, g3, g4⟩, z⟩ := I.list h1
  obtain ⟨its2, rv2, ⟨⟨cls2, dd2, data2, sl2⟩, n2, k1, k2, k3, k4⟩, z2⟩ := I.list h2
  simp only at g2 g3 g4 k2 k3 k4
  subst g2 g3 g4 k2 k3 k4
  have e : its.toArray ++ its2.toArray = (its ++ its2).toArray := by simp
  have hz : its.toArray.size + its2.toArray.size ≤ sizeLine := by
    rw [List.size_toArray, List.size_toArray, ← rv.length, ← rv2.length]; exact sz_ok hl
  refine concat_meets ⟨_, g1, rfl⟩ ⟨_, k1, rfl⟩ noFill_list_add seq_list_add PySem.F.slot_list_add PySem.F.entry_list_add (PySem.F.args_list_add_2 _ _) (list_addW a b its.toArray its2.toArray n n2 none none sl sl2 hz) ⟨g1, k1, ?_⟩
  rw [e]
  exact ⟨.ref _, _, I.lnew (t' := s.toks) (rv.append rv2) (by rw [List.length_append]; exact sz_ok hl), rfl, q _ I.fresh⟩
theorem op_addA : OpR X (binaryOp .Add) (rOp2 X.K opAdd) := by
  intro pins s σ H x y v u Q I rx ry ⟨M, t, R, t2, R2, w, m, r, r2, e, q⟩
  unfold opAdd at e
  split at e
  · next a b =>
    cases e
    obtain rfl := r.fr_inv.1.int_inv
    obtain rfl := r2.fr_inv.1.int_inv
    exact op_add pins s σ H _ _ v u Q I rx ry ⟨_, _, rfl, rfl, fin_int m q⟩
  · next a b =>
    split at e
    · next hl =>
      cases e
      obtain rfl := r.fr_inv.1.str_inv
      obtain rfl := r2.fr_inv.1.str_inv
      exact op_add_str pins s σ H _ _ v u Q I rx ry ⟨_, _, rfl, rfl, sz_ok hl, fin_str m q⟩
    · cases e
  · next a b =>
    split at e
    · next hl =>
      cases e
      obtain ⟨p, xs, rfl, h1, h2⟩ := r.fr_inv.1.tup_inv
      obtain ⟨p2, ys, rfl, h3, h4⟩ := r2.fr_inv.1.tup_inv
      refine op_catA pins s σ H _ _ v u Q I rx ry ⟨p, p2, xs, ys, rfl, rfl, Same.tup m h1, Same.tup m h3, by rw [h2.length, h4.length]; exact sz_ok hl, fun z => ?_, fun _ z => ?_, fun _ _ n np => fin_tup m (h2.append h4) q np⟩
      · subst z; cases h2; exact fin_dz m (.tup h3 h4) q
      · subst z; cases h4; exact fin_dz m (.tup h1 h2) (by simpa using q)
    · cases e
  · split at e
    · next xs ys e1 e2 =>
      split at e
      · next hl =>
        cases e
        obtain ⟨p, vs, rfl, h1, h2⟩ := r.asL_inv m e1
        obtain ⟨p2, ws, rfl, h3, h4⟩ := r2.asL_inv m e2
        cases rx
        cases ry
        exact cat_lists I h1 h3 (by rw [h2.length, h4.length]; exact hl) fun p np => fin_list m (h2.append h4) q np
      · cases e
    · cases e
/-! ints -/
def opInt (C : Int → Int → Bool) (g : Int → Int → Int) : T → T → Option T
  | .fr (.int a), .fr (.int b) => if C a b = true then some (.fr (.int (g a b))) else none
  | _, _ => none
theorem op_int {f : Value → Value → Sem Value} {C : Int → Int → Prop} {B : Int → Int → Bool} {g : Int → Int → Int} (h : OpR X f (rI C fun i j => .int (g i j))) (hB : ∀ i j, B i j = true → C i j) : OpR X f (rOp2 X.K (opInt B g)) := by
  intro pins s σ H x y v u Q I rx ry ⟨M, t, R, t2, R2, w, m, r, r2, e, q⟩
  unfold opInt at e
  split at e
  · split at e
    · next c =>
      cases e
      obtain rfl := r.fr_inv.1.int_inv
      obtain rfl := r2.fr_inv.1.int_inv
      exact h pins s σ H _ _ v u Q I rx ry ⟨_, _, rfl, rfl, hB _ _ c, fin_int m q⟩
    · cases e
  · cases e
def opSub : T → T → Option T := opInt (fun _ _ => true) (fun a b => a - b)
def opMod : T → T → Option T := opInt (fun _ b => decide (0 < b)) (fun a b => a % b)
def opFdiv : T → T → Option T := opInt (fun _ b => decide (0 < b ∧ b < 1073741824)) (fun a b => a / b)
def opPow : T → T → Option T := opInt (fun a b => decide (0 ≤ b ∧ b ≤ 1000000 ∧ a.natAbs < 18446744073709551616)) (fun a b => a ^ b.toNat)
def opShl : T → T → Option T := opInt (fun a b => decide (0 ≤ b ∧ b ≤ 1000000 ∧ a.natAbs < 18446744073709551616)) (fun a b => a * 2 ^ b.toNat)
def opShr : T → T → Option T := opInt (fun a b => decide (0 ≤ b)) (fun a b => a / 2 ^ b.toNat)
def opAnd : T → T → Option T := opInt (fun _ _ => true) Builtin.bitAnd
def opOr : T → T → Option T := opInt (fun _ _ => true) Builtin.bitOr
theorem op_subA : OpR X (binaryOp .Sub) (rOp2 X.K opSub) := op_int (C := fun _ _ => True) (fun pins s σ H x y v u Q I rx ry ⟨i, j, a, b, _, q⟩ => op_sub pins s σ H x y v u Q I rx ry ⟨i, j, a, b, q⟩) fun _ _ _ => trivial
theorem op_andA : OpR X (binaryOp .BitAnd) (rOp2 X.K opAnd) := op_int (C := fun _ _ => True) (fun pins s σ H x y v u Q I rx ry ⟨i, j, a, b, _, q⟩ => op_and pins s σ H x y v u Q I rx ry ⟨i, j, a, b, q⟩) fun _ _ _ => trivial
theorem op_orA : OpR X (binaryOp .BitOr) (rOp2 X.K opOr) := op_int (C := fun _ _ => True) (fun pins s σ H x y v u Q I rx ry ⟨i, j, a, b, _, q⟩ => op_or pins s σ H x y v u Q I rx ry ⟨i, j, a, b, q⟩) fun _ _ _ => trivial
theorem op_modA : OpR X (binaryOp .Mod) (rOp2 X.K opMod) := op_int op_mod fun _ _ h => of_decide_eq_true h
theorem op_fdivA : OpR X (binaryOp .FloorDiv) (rOp2 X.K opFdiv) := op_int op_fdiv fun i j h => of_decide_eq_true (p := 0 < j ∧ j < 1073741824) h
theorem op_powA : OpR X (binaryOp .Pow) (rOp2 X.K opPow) := op_int op_pow fun _ _ h => by have q := of_decide_eq_true h; exact ⟨q.1, q.2.1, q.2.2⟩
theorem op_shlA : OpR X (binaryOp .LShift) (rOp2 X.K opShl) := op_int op_shl fun _ _ h => by have q := of_decide_eq_true h; exact ⟨q.1, q.2.1, q.2.2⟩
theorem op_shrA : OpR X (binaryOp .RShift) (rOp2 X.K opShr) := op_int op_shr fun _ _ h => of_decide_eq_true h
def opMul : T → T → Option T
  | .fr (.int a), .fr (.int b) => if (-18446744073709551616 < a ∧ a < 18446744073709551616) ∨ (-18446744073709551616 < b ∧ b < 18446744073709551616) then some (.fr (.int (a * b))) else none
  | .lst xs, .fr (.int k) => match allFr xs with
    | some ds => if k < 9223372036854775808 ∧ -9223372036854775808 ≤ k ∧ ds.length * k.toNat ≤ SZ then some (.lst ((List.replicate k.toNat ds).flatten.map .fr)) else none
    | none => none
  | _, _ => none
theorem DzL.rep {K : PySem.W.Frag} {M : Hp} {vs : List V} {ds : List D} (h : DzL K M vs ds) : ∀ k : Nat, DzL K M (List.replicate k vs).flatten (List.replicate k ds).flatten
  | 0 => .nil
  | k + 1 => by simp only [List.replicate_succ, List.flatten_cons]; exact h.append (DzL.rep h k)
theorem op_mulA : OpR X (binaryOp .Mult) (rOp2 X.K opMul) := by
  intro pins s σ H x y v u Q I rx ry ⟨M, t, R, t2, R2, w, m, r, r2, e, q⟩
  unfold opMul at e
  split at e
  · split at e
    · next c =>
      cases e
      obtain rfl := r.fr_inv.1.int_inv
      obtain rfl := r2.fr_inv.1.int_inv
      exact op_mul pins s σ H _ _ v u Q I rx ry ⟨_, _, rfl, rfl, c, fin_int m q⟩
    · cases e
  · split at e
    · next ds e1 =>
      split at e
      · next c =>
        cases e
        obtain rfl := r2.fr_inv.1.int_inv
        have e2 := allFr_eq e1
        subst e2
        cases r with
        | lst h1 h2 h3 h4 =>
          have hv := h3.frs.1
          exact op_rep pins s σ H _ _ v u Q I rx ry ⟨_, _, _, rfl, rfl, h1, c.2.1, c.1, by rw [hv.length]; exact sz_ok c.2.2, fun p np => fin_list m (hv.rep _) q np⟩
      · cases e
    · cases e
  · cases e
def opNeg : T → Option T
  | .fr (.int a) => some (.fr (.int (-a)))
  | _ => none
theorem un_negA : UnR X (unaryOp .USub) (rOp1 X.K opNeg) := by
  intro pins s σ H x v Q I rx ⟨M, t, R, w, m, r, e, q⟩
  unfold opNeg at e
  split at e
  · cases e
    obtain rfl := r.fr_inv.1.int_inv
    exact un_neg pins s σ H _ v Q I rx ⟨_, rfl, fin_int m q⟩
  · cases e
/-! comparisons -/
def opData (f : D → D → Option Bool) : T → T → Option T := fun a b => match a.dat, b.dat with
  | some x, some y => if okD x = true ∧ okD y = true then (f x y).map fun k => .fr (.bool k) else none
  | _, _ => none
def opEq : T → T → Option T := opData fun x y => some (PyData.eqv x y)
def opNe : T → T → Option T := opData fun x y => some (!PyData.eqv x y)
def isNo : D → Bool
  | .none => true
  | _ => false
/-- x < y of data that can be compared -/
def ltD : D → D → Bool
  | .int a, .int b => decide (a < b)
  | a, b => PySem.W.dataLt a b
theorem ltD_eq (a b : D) : ltD a b = PySem.W.dataLt a b := by
  unfold ltD
  split
  · rw [PySem.W.dataLt_int]
  · rfl
def canLt (x y : D) : Bool := PySem.W.alike x y && !isNo x
theorem canLt_ok {x y : D} (h : canLt x y = true) : PySem.W.alike x y = true ∧ x ≠ .none := by
  unfold canLt at h
  rw [Bool.and_eq_true] at h
  exact ⟨h.1, fun e => by rw [e] at h; simp [isNo] at h⟩
def opLt : T → T → Option T := opData fun x y => if canLt x y then some (ltD x y) else none
def opGt : T → T → Option T := opData fun x y => if canLt x y then some (ltD y x) else none
def opLe : T → T → Option T := opData fun x y => if canLt x y then some (!ltD y x) else none
def opGe : T → T → Option T := opData fun x y => if canLt x y then some (!ltD x y) else none
theorem op_data {f : Value → Value → Sem Value} {g : D → D → Option Bool} (h : ∀ (s : Shared) (a b : Value) (x y : D) (as bs : List Addr) (k : Bool) (Q : Value → Shared → Prop), Reads s.heap a x as → Reads s.heap b y bs → x.plain = true → y.plain = true → x.depth ≤ 60 → y.depth ≤ 60 → g x y = some k → Q (.bool k) s →
    wpAny (model X.prog X.w) X.A (f a b) Q X.xe s) : OpR X f (rOp2 X.K (opData g)) := by
  intro pins s σ H x y v u Q I rx ry ⟨M, t, R, t2, R2, w, m, r, r2, e, q⟩
  unfold opData at e
  split at e
  · next x' y' e1 e2 =>
    split at e
    · next c =>
      cases ek : g x' y' with
      | none => rw [ek] at e; cases e
      | some k =>
        rw [ek] at e; cases e
        unfold okD at c
        simp only [Bool.and_eq_true, decide_eq_true_eq] at c
        obtain ⟨⟨p1, d1⟩, p2, d2⟩ := c
        obtain ⟨as, h1⟩ := Dp.reads I x' x v ((r.seen m e1).dp p1) rx
        obtain ⟨bs, h2⟩ := Dp.reads I y' y u ((r2.seen m e2).dp p2) ry
        exact h s v u x' y' as bs k _ h1 h2 p1 p2 d1 d2 ek ⟨.bl k, H, I, rfl, fin_bl m q⟩
    · cases e
  · cases e
theorem op_eqA (hu : X.A.units + 64 < cLine) : OpR X (compareOp .Eq) (rOp2 X.K opEq) := op_data fun s a b x y as bs k Q h1 h2 p1 p2 d1 d2 e q => by
  cases e
  exact PySem.SeqAt.eq_plain h1 h2 p1 p2 (by omega) q
theorem op_neA (hu : X.A.units + 64 < cLine) : OpR X (compareOp .NotEq) (rOp2 X.K opNe) := op_data fun s a b x y as bs k Q h1 h2 p1 p2 d1 d2 e q => by
  cases e
  exact PySem.SeqAt.ne_plain h1 h2 p1 p2 (by omega) q
theorem op_ltA (hu : X.A.units + 64 < cLine) : OpR X (compareOp .Lt) (rOp2 X.K opLt) := op_data fun s a b x y as bs k Q h1 h2 p1 p2 d1 d2 e q => by
  split at e
  · next c =>
    cases e
    obtain ⟨c1, c2⟩ := canLt_ok c
    rw [ltD_eq] at q
    exact PySem.W.lt_data h1 h2 c1 c2 (by omega) q
  · cases e
theorem op_gtA (hu : X.A.units + 64 < cLine) : OpR X (compareOp .Gt) (rOp2 X.K opGt) := op_data fun s a b x y as bs k Q h1 h2 p1 p2 d1 d2 e q => by
  split at e
  · next c =>
    cases e
    obtain ⟨c1, c2⟩ := canLt_ok c
    rw [ltD_eq] at q
    exact PySem.W.gt_data h1 h2 c1 c2 (by omega) q
  · cases e
theorem op_leA (hu : X.A.units + 64 < cLine) : OpR X (compareOp .LtE) (rOp2 X.K opLe) := op_data fun s a b x y as bs k Q h1 h2 p1 p2 d1 d2 e q => by
  split at e
  · next c =>
    cases e
    obtain ⟨c1, c2⟩ := canLt_ok c
    rw [ltD_eq] at q
    exact PySem.W.le_data h1 h2 c1 c2 (by omega) q
  · cases e
theorem op_geA (hu : X.A.units + 64 < cLine) : OpR X (compareOp .GtE) (rOp2 X.K opGe) := op_data fun s a b x y as bs k Q h1 h2 p1 p2 d1 d2 e q => by
  split at e
  · next c =>
    cases e
    obtain ⟨c1, c2⟩ := canLt_ok c
    rw [ltD_eq] at q
    exact PySem.W.ge_data h1 h2 c1 c2 (by omega) q
  · cases e
/-- x in ys, ys a list or a tuple -/
def opInS (neg : Bool) : T → T → Option T := opData fun x y => match y with
  | .list ds => some ((ds.any fun z => PyData.eqv z x) ^^ neg)
  | .tuple ds => some ((ds.any fun z => PyData.eqv z x) ^^ neg)
  | _ => none
theorem depth_list {ds : List D} (h : (PyData.list ds).depth ≤ 60) : PyData.depthAll ds ≤ 59 := by simp only [PyData.depth] at h; omega
theorem depth_tup {ds : List D} (h : (PyData.tuple ds).depth ≤ 60) : PyData.depthAll ds ≤ 59 := by simp only [PyData.depth] at h; omega
theorem op_inA (hu : X.A.units + 64 < cLine) : OpR X (compareOp .In) (rOp2 X.K (opInS false)) := op_data fun s a b x y as bs k Q h1 h2 p1 p2 d1 d2 e q => by
  split at e
  · cases e
    refine PySem.SeqAt.in_list_data h2 h1 (by simpa [PyData.plain] using p2) p1 (by have := depth_list d2; omega) (by simpa using q)
  · cases e
    refine PySem.SeqAt.in_tuple_data h2 h1 (by simpa [PyData.plain] using p2) p1 (by have := depth_tup d2; omega) (by simpa using q)
  · cases e
theorem op_notInA (hu : X.A.units + 64 < cLine) : OpR X (compareOp .NotIn) (rOp2 X.K (opInS true)) := op_data fun s a b x y as bs k Q h1 h2 p1 p2 d1 d2 e q => by
  split at e
  · cases e
    refine PySem.SeqAt.notIn_list_data h2 h1 (by simpa [PyData.plain] using p2) p1 (by have := depth_list d2; omega) (by simpa using q)
  · cases e
    refine PySem.SeqAt.notIn_tuple_data h2 h1 (by simpa [PyData.plain] using p2) p1 (by have := depth_tup d2; omega) (by simpa using q)
  · cases e
/-- is None -/
def isNoT : T → Bool
  | .fr .none => true
  | _ => false
def opIsN (neg : Bool) : T → T → Option T
  | a, .fr .none => some (.fr (.bool (isNoT a ^^ neg)))
  | _, _ => none
theorem Rp.isN {K : PySem.W.Frag} {M H : Hp} {t : T} {v : V} {R : Fp} (r : Rp K M H t v R) : decide (v = .non) = isNoT t := by
  cases r with
  | fr h => cases h <;> rfl
  | _ => rfl
theorem op_isA : OpR X (compareOp .Is) (rOp2 X.K (opIsN false)) := by
  intro pins s σ H x y v u Q I rx ry ⟨M, t, R, t2, R2, w, m, r, r2, e, q⟩
  unfold opIsN at e
  split at e
  · cases e
    obtain rfl := r2.fr_inv.1.non_inv
    exact op_isN pins s σ H _ _ v u Q I rx ry ⟨rfl, by rw [r.isN]; exact fin_bl m (by simpa using q)⟩
  · cases e
theorem op_isntA : OpR X (compareOp .IsNot) (rOp2 X.K (opIsN true)) := by
  intro pins s σ H x y v u Q I rx ry ⟨M, t, R, t2, R2, w, m, r, r2, e, q⟩
  unfold opIsN at e
  split at e
  · cases e
    obtain rfl := r2.fr_inv.1.non_inv
    exact op_notN pins s σ H _ _ v u Q I rx ry ⟨rfl, by rw [r.isN]; exact fin_bl m (by simpa using q)⟩
  · cases e
end
/-! ### places, without the asking for what is new -/
def rFinK (K : PySem.W.Frag) (M H : Hp) (t : T) (Q : VK) : Prop := ∀ M' H' v R, Ext M H M' H' → Rp K M' H' t v R → Q v H'
def rOp2K (K : PySem.W.Frag) (op : T → T → Option T) : R2 := fun x y H Q => ∃ M t R t2 R2 u, L2.Same M H ∧ Rp K M H t x R ∧ Rp K M H t2 y R2 ∧ op t t2 = some u ∧ rFinK K M H u Q
def onlyFr : Option T → Option T
  | some (.fr d) => some (.fr d)
  | _ => none
def frOp (op : T → T → Option T) : T → T → Option T := fun a b => onlyFr (op a b)
theorem onlyFr_some {o : Option T} {t : T} (h : onlyFr o = some t) : ∃ d, t = .fr d ∧ o = some (.fr d) := by
  unfold onlyFr at h
  split at h
  · cases h; exact ⟨_, rfl, rfl⟩
  · cases h
section
variable {X : Cx} {W : WS} {a b : Expr} {pos : Pos}
theorem opK_fr {op : T → T → Option T} : Op2 X (rOp2K X.K op) (frOp op) := fun M H v t R v2 t2 R2 u Q m r r2 e q => by
  obtain ⟨d, rfl, e2⟩ := onlyFr_some e
  exact ⟨M, t, R, t2, R2, _, m, r, r2, e2, fun M' H' v' R' x rp => q M' H' v' R' x rp fun a z => absurd z (rp.fr_inv.2 a)⟩
theorem ek_ixK {op : T → T → Option T} {f g : Rho → Option T} (ho : IxR X (rOp2K X.K op)) (ha : EK X a f) (hb : EK X b g) (hs : PlainIx b) : EK X (.Subscript a b pos) (k2 op f g) :=
  (pe_ix ho ha hb hs).lv fun σ H Q ⟨M, ρ, F, t, g', e, q⟩ => by
    unfold k2 at e
    obtain ⟨u, e1, e⟩ := Option.bind_eq_some_iff.mp e
    obtain ⟨w, e2, e⟩ := Option.bind_eq_some_iff.mp e
    refine ⟨M, ρ, F, u, g', e1, fun M1 H1 v1 R1 x1 r1 => ⟨M1, ρ, F, w, g'.ext x1, e2, fun M2 H2 v2 R2 x2 r2 => ?_⟩⟩
    exact ⟨M2, u, R1, w, R2, t, x2.le, r1.ext x2, r2, e, fun M' H' v' R' x' rp => q M' H' v' R' ((x1.trans x2).trans x') rp⟩
theorem ee_ixK {op : T → T → Option T} {f g : Rho → Option (Rs T)} (ho : IxR X (rOp2K X.K op)) (ha : EE X W a f) (hb : EE X W b g) (hs : PlainIx b) : EE X W (.Subscript a b pos) (e2 (frOp op) f g) := ee_ix ho opK_fr ha hb hs
/-- xs[i] -/
def opIx : T → T → Option T
  | .fr (.list ds), .fr (.int i) => (atI ds i).map .fr
  | .fr (.tuple ds), .fr (.int i) => (atI ds i).map .fr
  | .lst ts, .fr (.int i) => atI ts i
  | .fr (.str z), .fr (.int i) => if z.length ≤ SZ then (atI z.cps.toList i).map fun c => .fr (.str ⟨#[c]⟩) else none
  | _, _ => none
theorem DzL.at {K : PySem.W.Frag} {M : Hp} {vs : List V} {ds : List D} {i : Int} {d : D} (h : DzL K M vs ds) (e : atI ds i = some d) : ∃ v, atI vs i = some v ∧ Dz K M v d := by
  unfold atI at e ⊢
  rw [h.length]
  obtain ⟨j, e1, e2⟩ := Option.bind_eq_some_iff.mp e
  obtain ⟨v, h1, h2⟩ := h.get e2
  exact ⟨v, by rw [e1]; exact h1, h2⟩
theorem RpL.length {K : PySem.W.Frag} {M H : Hp} : ∀ {ts : List T} {vs : List V} {R : Fp}, RpL K M H ts vs R → vs.length = ts.length
  | _, _, _, .nil => rfl
  | _, _, _, .cons _ t _ => by simp [RpL.length t]
theorem RpL.get {K : PySem.W.Frag} {M H : Hp} : ∀ {ts : List T} {vs : List V} {R : Fp} {j : Nat} {t : T}, RpL K M H ts vs R → ts[j]? = some t → ∃ v R', vs[j]? = some v ∧ Rp K M H t v R' ∧ ∀ a, R' a → R a
  | _, _, _, _, _, .nil, e => by simp at e
  | _, _, _, 0, _, .cons h t _, e => by simp at e; subst e; exact ⟨_, _, rfl, h, fun a => .inl⟩
  | _, _, _, j + 1, t, .cons _ q _, e => by
    obtain ⟨v, R', h1, h2, h3⟩ := RpL.get (j := j) (t := t) q (by simpa using e)
    exact ⟨v, R', by simpa using h1, h2, fun a z => .inr (h3 a z)⟩
theorem RpL.at {K : PySem.W.Frag} {M H : Hp} {vs : List V} {R : Fp} {ts : List T} {i : Int} {t : T} (h : RpL K M H ts vs R) (e : atI ts i = some t) : ∃ v R', atI vs i = some v ∧ Rp K M H t v R' := by
  unfold atI at e ⊢
  rw [h.length]
  obtain ⟨j, e1, e2⟩ := Option.bind_eq_some_iff.mp e
  obtain ⟨v, R', h1, h2, _⟩ := h.get e2
  exact ⟨v, R', by rw [e1]; exact h1, h2⟩
theorem ix_A : IxR X (rOp2K X.K opIx) := by
  intro value slice pins s σ H x y v u Q I rx ry ⟨M, t, R, t2, R2, w, m, r, r2, e, q⟩ hs
  unfold opIx at e
  split at e
  · obtain ⟨d, e1, e2⟩ := Option.map_eq_some_iff.mp e
    subst e2
    obtain ⟨p, xs, rfl, h1, h2⟩ := r.fr_inv.1.list_inv
    obtain rfl := r2.fr_inv.1.int_inv
    obtain ⟨v', h3, h4⟩ := h2.at e1
    exact ix_list value slice pins s σ H _ _ v u Q I rx ry ⟨p, xs, _, v', rfl, rfl, m.seq h1, h3, q M H v' _ (.refl m) (.fr h4)⟩ hs
  · obtain ⟨d, e1, e2⟩ := Option.map_eq_some_iff.mp e
    subst e2
    obtain ⟨p, xs, rfl, h1, h2⟩ := r.fr_inv.1.tup_inv
    obtain rfl := r2.fr_inv.1.int_inv
    obtain ⟨v', h3, h4⟩ := h2.at e1
    exact ix_tup value slice pins s σ H _ _ v u Q I rx ry ⟨p, xs, _, v', rfl, rfl, Same.tup m h1, h3, q M H v' _ (.refl m) (.fr h4)⟩ hs
  · cases r with
    | lst h1 h2 h3 h4 =>
      obtain rfl := r2.fr_inv.1.int_inv
      obtain ⟨v', R', h5, h6⟩ := h3.at e
      exact ix_list value slice pins s σ H _ _ v u Q I rx ry ⟨_, _, _, v', rfl, rfl, .of h1, h5, q M H v' _ (.refl m) h6⟩ hs
  · split at e
    · next hl =>
      obtain ⟨c, e1, e2⟩ := Option.map_eq_some_iff.mp e
      subst e2
      obtain rfl := r.fr_inv.1.str_inv
      obtain rfl := r2.fr_inv.1.int_inv
      exact ix_str value slice pins s σ H _ _ v u Q I rx ry ⟨_, _, c, rfl, rfl, sz_ok hl, e1, q M H _ _ (.refl m) (.fr (.str _))⟩ hs
    · cases e
  · cases e
end
end Lv

set_option maxHeartbeats 1000000
namespace Lv
open PySem PySem.Spec PyProof.Rows L2
section
variable {K : PySem.W.Frag} {M M' H H' M1 H1 : Hp} {P P' P1 : Fp} {σ : L2.St} {ρ : Rho} {F : Nat → Fp}
/-- peeks, one by one -/
inductive PkL (K : PySem.W.Frag) (M H : Hp) : List T → List V → Prop
  | nil : PkL K M H [] []
  | cons {t : T} {v : V} {R : Fp} {ts : List T} {vs : List V} : Rp K M H t v R → PkL K M H ts vs → PkL K M H (t :: ts) (v :: vs)
theorem PkL.ext (x : Ext M H M1 H1) : ∀ {ts : List T} {vs : List V}, PkL K M H ts vs → PkL K M1 H1 ts vs
  | _, _, .nil => .nil
  | _, _, .cons h t => .cons (h.ext x) (t.ext x)
/-- an argument: owned by nobody else, or the slot's own -/
inductive Ar where
  | own (t : T)
  | bor (i : Nat)
inductive ArL (K : PySem.W.Frag) (M H : Hp) (σ : L2.St) : List Ar → List V → Fp → Prop
  | nil : ArL K M H σ [] [] (fun _ => False)
  | own {t : T} {v : V} {R R' : Fp} {as : List Ar} {vs : List V} : Rp K M H t v R → ArL K M H σ as vs R' → (∀ a, R a → ¬ R' a) → ArL K M H σ (.own t :: as) (v :: vs) (fun b => R b ∨ R' b)
  | bor {i : Nat} {v : V} {R : Fp} {as : List Ar} {vs : List V} : σ[i]? = some (some v) → ArL K M H σ as vs R → ArL K M H σ (.bor i :: as) (v :: vs) R
theorem ArL.keep : ∀ {as : List Ar} {vs : List V} {R : Fp}, ArL K M H σ as vs R → Kp M M' H H' R → ArL K M' H' σ as vs R
  | _, _, _, .nil, _ => .nil
  | _, _, _, .own h t d, k => .own (h.keep (k.sub fun _ => .inl)) (t.keep (k.sub fun _ => .inr)) d
  | _, _, _, .bor e t, k => .bor e (t.keep k)
theorem ArL.ownA : ∀ {as : List Ar} {vs : List V} {R : Fp}, ArL K M H σ as vs R → ∀ a, R a → M a = none ∧ ∃ o, H a = some o
  | _, _, _, .nil, _, r => r.elim
  | _, _, _, .own h t d, a, r => r.elim (h.own a) (t.ownA a)
  | _, _, _, .bor e t, a, r => t.ownA a r
def takeA : List Ar → Rho → Option (List T × Rho)
  | [], ρ => some ([], ρ)
  | .own t :: r, ρ => match takeA r ρ with
    | some (ts, ρ') => some (t :: ts, ρ')
    | none => none
  | .bor i :: r, ρ => match ρ[i]? with
    | some (some t) => (match takeA r (ρ.set i none) with
      | some (ts, ρ') => some (t :: ts, ρ')
      | none => none)
    | _ => none
def putA : List Ar → List (Option T) → Rho → Rho
  | .own _ :: r, _ :: os, ρ => putA r os ρ
  | .bor i :: r, o :: os, ρ => putA r os (ρ.set i o)
  | _, _, ρ => ρ
/-- the arguments handed over: G theirs, F' what stays -/
theorem take_good : ∀ {as : List Ar} {vs : List V} {R : Fp} {ρ ρ' : Rho} {F : Nat → Fp} {ts : List T}, ArL K M H σ as vs R → Good K M H σ ρ F → (∀ a, R a → ¬ Al F a) → takeA as ρ = some (ts, ρ') →
    ∃ G F', Good K M H (vs.map some) (ts.map some) G ∧ Good K M H σ ρ' F' ∧ (∀ a, Al G a → ¬ Al F' a) ∧ (∀ a, Al G a → R a ∨ Al F a) ∧ (∀ a, Al F' a → Al F a)
  | [], _, R, ρ, ρ', F, ts, h, g, d, e => by
    cases h
    cases e
    refine ⟨fun _ _ => False, F, ⟨g.le, rfl, fun i t e => by simp at e, fun _ _ _ => id, fun _ _ _ z => z.elim⟩, g, fun a ⟨_, z⟩ => z.elim, fun a ⟨_, z⟩ => z.elim, fun a z => z⟩
  | .own t :: as, _, R, ρ, ρ', F, ts, h, g, d, e => by
    cases h with
    | @own _ v R1 R2 _ vs h1 h2 h3 =>
      simp only [takeA] at e
      split at e
      · next ts2 ρ2 e2 =>
        cases e
        obtain ⟨G, F', a1, a2, a3, a4, a5⟩ := take_good h2 g (fun a z => d a (.inr z)) e2
        have out : ∀ a, R1 a → ¬ Al G a := fun a z y => (a4 a y).elim (h3 a z) (d a (.inl z))
        refine ⟨fun i a => match i with | 0 => R1 a | j + 1 => G j a, F', ⟨g.le, by simpa using a1.len, fun i t e => ?_, fun i q a z => ?_, fun i j a y z => ?_⟩, a2, fun a ⟨i, z⟩ => ?_, fun a ⟨i, z⟩ => ?_, a5⟩
        · cases i with
          | zero => simp at e; subst e; exact ⟨v, rfl, h1⟩
          | succ i =>
            obtain ⟨v', q1, q2⟩ := a1.sl i t (by simpa using e)
            exact ⟨v', by simpa using q1, q2⟩
        · cases i with
          | zero => exact q _ rfl
          | succ i => exact a1.em i (fun t e => q t (by simpa using e)) a z
        · cases i with
          | zero =>
            cases j with
            | zero => rfl
            | succ j => exact absurd ⟨j, z⟩ (out a y)
          | succ i =>
            cases j with
            | zero => exact absurd ⟨i, y⟩ (out a z)
            | succ j => rw [a1.dj i j a y z]
        · cases i with
          | zero => exact fun y => d a (.inl z) (a5 a y)
          | succ i => exact a3 a ⟨i, z⟩
        · cases i with
          | zero => exact .inl (.inl z)
          | succ i => exact (a4 a ⟨i, z⟩).imp_left .inr
      · cases e
  | .bor i :: as, _, R, ρ, ρ', F, ts, h, g, d, e => by
    cases h with
    | @bor _ v _ _ vs e0 h2 =>
      simp only [takeA] at e
      split at e
      · next t et =>
        split at e
        · next ts2 ρ2 e2 =>
          cases e
          obtain ⟨v', e1, rp⟩ := g.sl i t et
          rw [e0] at e1; cases e1
          obtain ⟨G, F', a1, a2, a3, a4, a5⟩ := take_good h2 (g.drop i) (fun a z ⟨j, _, y⟩ => d a z ⟨j, y⟩) e2
          have out : ∀ a, F i a → ¬ Al G a := fun a z y => (a4 a y).elim (fun q => d a q ⟨i, z⟩) fun ⟨j, n, q⟩ => n (g.dj j i a q z)
          refine ⟨fun k a => match k with | 0 => F i a | j + 1 => G j a, F', ⟨g.le, by simpa using a1.len, fun k t' e => ?_, fun k q a z => ?_, fun k j a y z => ?_⟩, a2, fun a ⟨k, z⟩ => ?_, fun a ⟨k, z⟩ => ?_, fun a z => let ⟨j, _, y⟩ := a5 a z; ⟨j, y⟩⟩
          · cases k with
            | zero => simp at e; subst e; exact ⟨v, rfl, rp⟩
            | succ k =>
              obtain ⟨v', q1, q2⟩ := a1.sl k t' (by simpa using e)
              exact ⟨v', by simpa using q1, q2⟩
          · cases k with
            | zero => exact q _ rfl
            | succ k => exact a1.em k (fun t e => q t (by simpa using e)) a z
          · cases k with
            | zero =>
              cases j with
              | zero => rfl
              | succ j => exact absurd ⟨j, z⟩ (out a y)
            | succ k =>
              cases j with
              | zero => exact absurd ⟨k, y⟩ (out a z)
              | succ j => rw [a1.dj k j a y z]
          · cases k with
            | zero => exact fun y => let ⟨j, n, q⟩ := a5 a y; n (g.dj j i a q z)
            | succ k => exact a3 a ⟨k, z⟩
          · cases k with
            | zero => exact .inr ⟨i, z⟩
            | succ k => exact (a4 a ⟨k, z⟩).imp_right fun ⟨j, _, q⟩ => ⟨j, q⟩
        · cases e
      · cases e
/-- handed back -/
theorem put_good : ∀ {as : List Ar} {vs : List V} {R : Fp} {ρ : Rho} {F : Nat → Fp} {os : List (Option T)} {G : Nat → Fp} {Mx Hx : Hp}, ArL K Mx Hx σ as vs R → Good K M H σ ρ F → Good K M H (vs.map some) os G → (∀ a, Al G a → ¬ Al F a) →
    ∃ F', Good K M H σ (putA as os ρ) F' ∧ ∀ a, Al F' a → Al G a ∨ Al F a
  | [], _, _, ρ, F, os, G, _, _, h, g, gs, d => ⟨F, by unfold putA; exact g, fun a z => .inr z⟩
  | .own t :: as, _, _, ρ, F, os, G, _, _, h, g, gs, d => by
    cases h with
    | @own _ v R1 R2 _ vs h1 h2 h3 =>
      cases os with
      | nil => have := gs.len; simp at this
      | cons o os =>
        have gs' : Good K M H (vs.map some) os (fun j => G (j + 1)) := ⟨gs.le, by have := gs.len; simpa using this, fun j t e => gs.sl (j + 1) t (by simpa using e), fun j q => gs.em (j + 1) fun t e => q t (by simpa using e), fun j k a y z => by have := gs.dj (j + 1) (k + 1) a y z; omega⟩
        obtain ⟨F', a1, a2⟩ := put_good h2 g gs' fun a ⟨j, z⟩ => d a ⟨j + 1, z⟩
        exact ⟨F', a1, fun a z => (a2 a z).imp_left fun ⟨j, q⟩ => ⟨j + 1, q⟩⟩
  | .bor i :: as, _, _, ρ, F, os, G, _, _, h, g, gs, d => by
    cases h with
    | @bor _ v _ _ vs e0 h2 =>
      cases os with
      | nil => have := gs.len; simp at this
      | cons o os =>
        have gs' : Good K M H (vs.map some) os (fun j => G (j + 1)) := ⟨gs.le, by have := gs.len; simpa using this, fun j t e => gs.sl (j + 1) t (by simpa using e), fun j q => gs.em (j + 1) fun t e => q t (by simpa using e), fun j k a y z => by have := gs.dj (j + 1) (k + 1) a y z; omega⟩
        cases o with
        | none =>
          obtain ⟨F', a1, a2⟩ := put_good h2 (g.drop i) gs' fun a ⟨j, z⟩ ⟨k, _, y⟩ => d a ⟨j + 1, z⟩ ⟨k, y⟩
          exact ⟨F', a1, fun a z => (a2 a z).elim (fun ⟨j, q⟩ => .inl ⟨j + 1, q⟩) fun ⟨k, _, y⟩ => .inr ⟨k, y⟩⟩
        | some t =>
          obtain ⟨v', q1, q2⟩ := gs.sl 0 t rfl
          cases (show some v = some v' from by simpa using q1)
          have g1 := g.reput e0 q2 fun a z ⟨j, _, y⟩ => d a ⟨0, z⟩ ⟨j, y⟩
          have sub : ∀ a, Al (fun j a => if j = i then G 0 a else F j a) a → G 0 a ∨ Al F a := fun a ⟨j, z⟩ => by
            by_cases q : j = i
            · simp only [q, if_true] at z; exact .inl z
            · simp only [q, if_false] at z; exact .inr ⟨j, z⟩
          obtain ⟨F', a1, a2⟩ := put_good h2 g1 gs' fun a ⟨j, z⟩ y => (sub a y).elim (fun q => by have := gs.dj (j + 1) 0 a z q; omega) (d a ⟨j + 1, z⟩)
          exact ⟨F', a1, fun a z => (a2 a z).elim (fun ⟨j, q⟩ => .inl ⟨j + 1, q⟩) fun y => (sub a y).imp_left fun q => ⟨0, q⟩⟩
end
/-! ### argument lists -/
def tKA (K : PySem.W.Frag) (f : Rho → Option (List T)) : TA := fun σ H Q => ∃ M ρ F ts, Good K M H σ ρ F ∧ f ρ = some ts ∧ ∀ M' H' vs, Ext M H M' H' → PkL K M' H' ts vs → Q vs H'
def tEA (K : PySem.W.Frag) (W : WS) (f : Rho → Option (Rs (List Ar))) : TA := fun σ H Q => ∃ M ρ F r, Good K M H σ ρ F ∧ f ρ = some r ∧ match r with
  | .ok as ρ' => ∀ M' H' vs R F', Stp M H (Al F) M' H' (fun a => R a ∨ Al F' a) → Good K M' H' σ ρ' F' → ArL K M' H' σ as vs R → (∀ a, R a → ¬ Al F' a) → Q vs H'
  | .ex c ρ' => wEx K W M H F σ c ρ'
abbrev AK (X : Cx) (es : List Expr) (f : Rho → Option (List T)) : Prop := PA X es (tKA X.K f)
abbrev AE (X : Cx) (W : WS) (es : List Expr) (f : Rho → Option (Rs (List Ar))) : Prop := PA X es (tEA X.K W f)
theorem _root_.L2.PA.lv {X : Cx} {e : List Expr} {t t' : TA} (h : PA X e t) (i : ∀ σ H Q, t' σ H Q → t σ H Q) : PA X e t' := ⟨fun pos pins s σ H Q I w => h.run pos pins s σ H Q I (i σ H Q w)⟩
section
variable {X : Cx} {W : WS} {e : Expr} {es : List Expr} {pos : Pos}
def kNil : Rho → Option (List T) := fun _ => some []
def kCons (f : Rho → Option T) (g : Rho → Option (List T)) : Rho → Option (List T) := fun ρ => (f ρ).bind fun t => (g ρ).map (t :: ·)
def eNil : Rho → Option (Rs (List Ar)) := fun ρ => some (.ok [] ρ)
def eCons (f : Rho → Option (Rs T)) (g : Rho → Option (Rs (List Ar))) : Rho → Option (Rs (List Ar)) := fun ρ => bnd (f ρ) fun t ρ1 => bnd (g ρ1) fun as ρ2 => some (.ok (.own t :: as) ρ2)
def eBor (i : Nat) (g : Rho → Option (Rs (List Ar))) : Rho → Option (Rs (List Ar)) := fun ρ => match ρ[i]? with
  | some (some _) => bnd (g ρ) fun as ρ2 => some (.ok (.bor i :: as) ρ2)
  | _ => none
theorem ak_nil : AK X [] kNil := pa_nil.lv fun σ H Q ⟨M, ρ, F, ts, g, e, q⟩ => by
  cases e
  exact q M H [] (.refl g.le) .nil
theorem ak_cons {f : Rho → Option T} {g : Rho → Option (List T)} (ha : EK X e f) (hb : AK X es g) (hs : starEach (e :: es) X.env = (false, eval e X.env) :: starEach es X.env := by rfl) : AK X (e :: es) (kCons f g) := (pa_cons ha hb hs).lv fun σ H Q ⟨M, ρ, F, ts, g', e, q⟩ => by
  unfold kCons at e
  obtain ⟨t, e1, e⟩ := Option.bind_eq_some_iff.mp e
  obtain ⟨ts2, e2, e⟩ := Option.map_eq_some_iff.mp e
  subst e
  exact ⟨M, ρ, F, t, g', e1, fun M1 H1 v R x1 r1 => ⟨M1, ρ, F, ts2, g'.ext x1, e2, fun M2 H2 vs x2 r2 => q M2 H2 _ (x1.trans x2) (.cons (r1.ext x2) r2)⟩⟩
theorem ae_nil : AE X W [] eNil := pa_nil.lv fun σ H Q ⟨M, ρ, F, ts, g, e, q⟩ => by
  cases e
  exact q M H [] _ F (.refl fun a z => z.elim False.elim id) g .nil fun a z => z.elim
theorem ae_cons {f : Rho → Option (Rs T)} {g : Rho → Option (Rs (List Ar))} (ha : EE X W e f) (hb : AE X W es g) (hs : starEach (e :: es) X.env = (false, eval e X.env) :: starEach es X.env := by rfl) : AE X W (e :: es) (eCons f g) := (pa_cons ha hb hs).lv fun σ H Q ⟨M, ρ, F, r, g', e, q⟩ => by
  rcases bnd_some e with ⟨t, ρ1, e1, e⟩ | ⟨c, ρ', e1, rfl⟩
  · refine ⟨M, ρ, F, _, g', e1, fun M1 H1 v R1 F1 S1 g1 r1 d1 => ?_⟩
    rcases bnd_some e with ⟨as, ρ2, e2, e⟩ | ⟨c, ρ', e2, rfl⟩
    · cases e
      refine ⟨M1, ρ1, F1, _, g1, e2, fun M2 H2 vs R2 F2 S2 g2 r2 d2 => ?_⟩
      have r1' := r1.apart S2 d1
      have own1 := r1.own
      have n12 : ∀ a, R1 a → ¬ (R2 a ∨ Al F2 a) := fun a z y => by
        rcases S2.p a y with q | q
        · exact d1 a z q
        · obtain ⟨_, o, eo⟩ := own1 a z
          rw [q] at eo; cases eo
      refine q M2 H2 _ _ F2 ?_ g2 (.own r1' r2 fun a z y => n12 a z (.inl y)) fun a z => z.elim (fun z y => n12 a z (.inr y)) (d2 a)
      refine S1.trans (?_ : Stp M1 H1 (fun a => R1 a ∨ Al F1 a) M2 H2 (fun a => (R1 a ∨ R2 a) ∨ Al F2 a))
      refine ⟨S2.m, fun a o e n => S2.h a o e fun z => n (.inr z), fun a h1 h2 => (S2.n a h1 h2).imp_left .inr, fun a z => ?_⟩
      rcases z with (z | z) | z
      · exact .inl (.inl z)
      · exact (S2.p a (.inl z)).imp_left .inr
      · exact (S2.p a (.inr z)).imp_left .inr
    · exact ⟨M1, ρ1, F1, _, g1, e2, fun M2 H2 F2 S2 g2 => q M2 H2 F2 ((S1.sub (fun _ z => z) fun a z => .inr z).trans S2) g2⟩
  · exact ⟨M, ρ, F, _, g', e1, q⟩
theorem ae_bor {i : Nat} {x : Str} {p : Pos} {g : Rho → Option (Rs (List Ar))} (ha : PE X (.Name x p) (tVar i)) (hb : AE X W es g) (hs : starEach (.Name x p :: es) X.env = (false, eval (.Name x p) X.env) :: starEach es X.env := by rfl) : AE X W (.Name x p :: es) (eBor i g) := (pa_cons ha hb hs).lv fun σ H Q ⟨M, ρ, F, r, g', e, q⟩ => by
  unfold eBor at e
  split at e
  · next t et =>
    obtain ⟨v, ev, _⟩ := g'.sl i t et
    refine ⟨v, ev, ?_⟩
    rcases bnd_some e with ⟨as, ρ1, e1, e⟩ | ⟨c, ρ', e1, rfl⟩
    · cases e
      exact ⟨M, ρ, F, _, g', e1, fun M1 H1 vs R1 F1 S1 g1 r1 d1 => q M1 H1 _ R1 F1 S1 g1 (.bor ev r1) d1⟩
    · exact ⟨M, ρ, F, _, g', e1, q⟩
  · cases e
end
/-! ### defs -/
inductive Ret where
  | ok (t : T) (ts : List (Option T))
  | ex (c : Str)
def SpT (K : PySem.W.Frag) (sem : List T → Option Ret) : Sp := fun vs H Q E => ∃ M ts Fs r, Good K M H (vs.map some) (ts.map some) Fs ∧ sem ts = some r ∧ match r with
  | .ok t ts' => ∀ M' H' v R Fs', Stp M H (Al Fs) M' H' (fun a => R a ∨ Al Fs' a) → Good K M' H' (vs.map some) ts' Fs' → Rp K M' H' t v R → (∀ a, R a → ¬ Al Fs' a) → Q v H'
  | .ex c => ∀ M' H', Stp M H (Al Fs) M' H' (fun _ => False) → L2.Same M' H' → E (.ref (He.ga K c)) none H'
def wx (K : PySem.W.Frag) (W : WS) : WX := fun cls d σ H => ∃ c, cls = .ref (He.ga K c) ∧ d = none ∧ W c σ H
def allF : List T → Bool
  | [] => true
  | .fr _ :: r => allF r
  | _ :: _ => false
def kCall (sem : List T → Option Ret) (f : Rho → Option (List T)) : Rho → Option T := fun ρ => (f ρ).bind fun ts => if allF ts = true then (match sem ts with
  | some (.ok t _) => some t
  | _ => none) else none
def eCall (sem : List T → Option Ret) (f : Rho → Option (Rs (List Ar))) : Rho → Option (Rs T) := fun ρ => bnd (f ρ) fun as ρ1 => match takeA as ρ1 with
  | some (ts, ρ2) => (match sem ts with
    | some (.ok t os) => some (.ok t (putA as os ρ2))
    | some (.ex c) => some (.ex c ρ2)
    | none => none)
  | none => none
section
variable {K : PySem.W.Frag} {M H : Hp}
theorem PkL.len : ∀ {ts : List T} {vs : List V}, PkL K M H ts vs → vs.length = ts.length
  | _, _, .nil => rfl
  | _, _, .cons _ t => by simp [t.len]
theorem PkL.good (le : L2.Same M H) : ∀ {ts : List T} {vs : List V}, PkL K M H ts vs → allF ts = true → Good K M H (vs.map some) (ts.map some) (fun _ _ => False) := fun {ts vs} h a => by
  refine ⟨le, by simp [h.len], fun i t e => ?_, fun _ _ _ => id, fun _ _ _ z => z.elim⟩
  induction h generalizing i with
  | nil => simp at e
  | @cons t' v R ts' vs' h1 h2 ih =>
    cases t' with
    | fr d =>
      cases i with
      | zero =>
        simp at e; subst e
        exact ⟨v, rfl, .fr h1.fr_inv.1⟩
      | succ i =>
        obtain ⟨v', q1, q2⟩ := ih a i (by simpa using e)
        exact ⟨v', by simpa using q1, q2⟩
    | _ => cases a
end
section
variable {X : Cx} {W : WS} {e : Expr} {es : List Expr} {pos p : Pos} {k : Nat} {f : Addr} {fd : FuncData} {ps : List Str} {sem : List T → Option Ret} {x : Str}
theorem ek_call {g : Rho → Option (List T)} (F : FnOk X.prog X.w X.K X.mg X.base (L2.CX X.prog X.w) k f fd ps (SpT X.K sem)) (hr : Room k X.A) (hg : Gl X x) (hm : X.mg x = some (.ref f)) (hk : PySem.W.keepIn X.K (.ref f) = true) (hb : Binds X.K fd ps [])
    (ha : AK X (e :: es) g) (hdb : (x == ("__debug__" : Str)) = false := by decide) (he : starEach (e :: es) X.env = (false, eval e X.env) :: starEach es X.env := by rfl) (hpl : (backTo pos (starEach es X.env)).any (·.1) = false := by rfl) :
    EK X (.Call (.Name x p) (e :: es) [] pos) (kCall sem g) := (pe_call F hr hg hm hk hb .nil passL ha hdb he hpl).lv fun σ H Q ⟨M, ρ, F', t, g', e, q⟩ => by
  unfold kCall at e
  obtain ⟨ts, e1, e⟩ := Option.bind_eq_some_iff.mp e
  split at e
  · next ha' =>
    refine ⟨M, ρ, F', ts, g', e1, fun M1 H1 vs x1 r1 => ?_⟩
    show SpT X.K sem (vs ++ []) H1 Q E0
    rw [List.append_nil]
    split at e
    · next t' os es' =>
      cases e
      refine ⟨M1, ts, _, _, r1.good x1.le ha', es', fun M2 H2 v R Fs' S g2 rp dj => q M2 H2 v R (x1.trans ?_) rp⟩
      exact ⟨fun a o e => S.h a o e fun ⟨_, z⟩ => z, S.m, g2.le, fun a h1 h2 => (S.n a h1 h2).elim (fun ⟨_, z⟩ => z.elim) id⟩
    · cases e
  · cases e
theorem te_call {g : Rho → Option (Rs (List Ar))} {E : XK} (hE : ∀ c σ H, W c σ H → True) (σ : L2.St) (H : Hp) (Q : VK) (h : tE X.K W (eCall sem g) σ H Q) :
    tEA X.K W g σ H fun vs H1 => SpT X.K sem vs H1 Q (WE (wx X.K W) σ) := by
  obtain ⟨M, ρ, F, r, g', e, q⟩ := h
  rcases bnd_some e with ⟨as, ρ1, e1, e⟩ | ⟨c, ρ', e1, rfl⟩
  · refine ⟨M, ρ, F, _, g', e1, fun M1 H1 vs R1 F1 S1 g1 r1 d1 => ?_⟩
    split at e
    · next ts ρ2 e2 =>
      obtain ⟨G, F2, a1, a2, a3, a4, a5⟩ := take_good r1 g1 d1 e2
      have S12 : Stp M H (Al F) M1 H1 (fun a => Al G a ∨ Al F2 a) := S1.sub (fun _ z => z) fun a z => z.elim (a4 a) fun y => .inr (a5 a y)
      refine ⟨M1, ts, G, ?_⟩
      have kpF2 : ∀ {M' H' : Hp} {P' : Fp}, Stp M1 H1 (Al G) M' H' P' → Kp M1 M' H1 H' (Al F2) := fun S => S.kp (fun a z y => a3 a y z) a2.own
      have wide : ∀ {M' H' : Hp} {P' : Fp}, Stp M1 H1 (Al G) M' H' P' → Stp M1 H1 (fun a => Al G a ∨ Al F2 a) M' H' (fun a => P' a ∨ Al F2 a) := fun S =>
        ⟨S.m, fun a o e n => S.h a o e fun z => n (.inl z), fun a h1 h2 => (S.n a h1 h2).imp_left .inl, fun a z => z.elim (fun z => (S.p a z).imp_left .inl) fun z => .inl (.inr z)⟩
      split at e
      · next t' os es' =>
        cases e
        refine ⟨_, a1, es', fun M2 H2 v R2 Fs' S g2 rp dj => ?_⟩
        have g2' := a2.keep (kpF2 S) g2.le
        have apart : ∀ a, (R2 a ∨ Al Fs' a) → ¬ Al F2 a := fun a z y => by
          rcases S.p a z with w | w
          · exact a3 a w y
          · obtain ⟨_, o, eo⟩ := a2.own a y
            rw [w] at eo; cases eo
        obtain ⟨F3, b1, b2⟩ := put_good r1 g2' g2 fun a z => apart a (.inr z)
        refine q M2 H2 v R2 F3 ((S12.trans (wide S)).sub (fun _ z => z) fun a z => ?_) b1 rp fun a z y => ?_
        · rcases z with z | z
          · exact .inl (.inl z)
          · exact (b2 a z).imp_left .inr
        · exact (b2 a y).elim (dj a z) (apart a (.inl z))
      · next c es' =>
        cases e
        refine ⟨_, a1, es', fun M2 H2 S le => ⟨c, rfl, rfl, q M2 H2 F2 ((S12.trans (wide S)).sub (fun _ z => z) fun a z => .inr z) (a2.keep (kpF2 S) le)⟩⟩
      · cases e
    · cases e
  · exact ⟨M, ρ, F, _, g', e1, q⟩
theorem ee_call {g : Rho → Option (Rs (List Ar))} (tk : Takes X (wx X.K W)) (F : FnOk X.prog X.w X.K X.mg X.base (L2.CX X.prog X.w) k f fd ps (SpT X.K sem)) (hr : Room k X.A) (hg : Gl X x) (hm : X.mg x = some (.ref f)) (hk : PySem.W.keepIn X.K (.ref f) = true) (hb : Binds X.K fd ps [])
    (ha : AE X W (e :: es) g) (hdb : (x == ("__debug__" : Str)) = false := by decide) (he : starEach (e :: es) X.env = (false, eval e X.env) :: starEach es X.env := by rfl) (hpl : (backTo pos (starEach es X.env)).any (·.1) = false := by rfl) :
    EE X W (.Call (.Name x p) (e :: es) [] pos) (eCall sem g) := (pe_callS F hr hg hm hk hb (fun σ => passAt tk σ) ha hdb he hpl).lv fun σ H Q h => te_call (E := fun _ _ _ => True) (fun _ _ _ _ => trivial) σ H Q h
end
end Lv

set_option maxHeartbeats 1000000
namespace Lv
open PySem PySem.Spec PyProof.Rows L2
/-! ### truth, tests -/
def truthD : D → Option Bool
  | .none => some false
  | .bool b => some b
  | .int i => some (decide (i ≠ 0))
  | .str s => if s.length ≤ SZ then some (decide (s.length ≠ 0)) else none
  | .list xs => some (!xs.isEmpty)
  | .tuple xs => some (!xs.isEmpty)
  | .dict xs => some (!xs.isEmpty)
def truth : T → Option Bool
  | .fr d => truthD d
  | .lst xs => some (!xs.isEmpty)
  | .dk xs => some (!xs.isEmpty)
  | .obj _ _ => none
section
variable {K : PySem.W.Frag} {M H : Hp} {v : V} {R : Fp} {t : T} {b : Bool}
theorem DzL.emp {xs : List V} {ds : List D} (h : DzL K M xs ds) : xs.isEmpty = ds.isEmpty := by cases h <;> rfl
theorem DzK.emp {xs : List (Key × V)} {ds : List (D × D)} (h : DzK K M xs ds) : xs.isEmpty = ds.isEmpty := by cases h <;> rfl
theorem RpL.emp {xs : List T} {vs : List V} (h : RpL K M H xs vs R) : vs.isEmpty = xs.isEmpty := by cases h <;> rfl
theorem RpK.emp {xs : List (Key × T)} {vs : List (Key × V)} (h : RpK K M H xs vs R) : vs.isEmpty = xs.isEmpty := by cases h <;> rfl
theorem tru_of (m : L2.Same M H) (r : Rp K M H t v R) (e : truth t = some b) : TruV K v H b := by
  cases r with
  | fr h =>
    cases h with
    | non => cases e; rfl
    | bl => cases e; rfl
    | int i => cases e; show _ = (i != 0); by_cases z : i = 0 <;> simp [z]
    | str x =>
      simp only [truth, truthD] at e
      split at e
      · next hl =>
        cases e
        refine ⟨sz_ok hl, ?_⟩
        by_cases z : x.length = 0 <;> simp [z]
      · cases e
    | lst h1 h2 => cases e; exact .inl ⟨_, m.seq h1, by rw [h2.emp]⟩
    | tup h1 h2 => cases e; exact .inr (.inl ⟨_, Same.tup m h1, by rw [h2.emp]⟩)
    | dk h1 h2 => cases e; exact .inr (.inr ⟨_, m _ _ h1, by rw [h2.emp]⟩)
  | lst h1 h2 h3 h4 => cases e; exact .inl ⟨_, .of h1, by rw [h3.emp]⟩
  | dk h1 h2 h3 h4 => cases e; exact .inr (.inr ⟨_, h1, by rw [h3.emp]⟩)
  | obj => cases e
end
/-- a value's truth -/
def tV (f : Rho → Option (Rs T)) : Rho → Option (Rs Bool) := fun ρ => bnd (f ρ) fun t ρ1 => (truth t).map fun b => .ok b ρ1
def tVK (f : Rho → Option T) : Rho → Option (Rs Bool) := fun ρ => (f ρ).bind fun t => (truth t).map fun b => .ok b ρ
def isB : T → Option Bool
  | .fr (.bool b) => some b
  | _ => none
def tB (f : Rho → Option (Rs T)) : Rho → Option (Rs Bool) := fun ρ => bnd (f ρ) fun t ρ1 => (isB t).map fun b => .ok b ρ1
def tBK (f : Rho → Option T) : Rho → Option (Rs Bool) := fun ρ => (f ρ).bind fun t => (isB t).map fun b => .ok b ρ
theorem isB_some {t : T} {b : Bool} (e : isB t = some b) : t = .fr (.bool b) := by
  unfold isB at e
  split at e
  · cases e; rfl
  · cases e
section
variable {X : Cx} {W : WS} {e a b c : Expr} {es rest : List Expr} {pos : Pos}
/-- the readings of tests, by those of values -/
theorem tt_val {K : PySem.W.Frag} {f : Rho → Option (Rs T)} {σ : L2.St} {H : Hp} {Q : Bool → Hp → Prop} (h : tT K W (tV f) σ H Q) : tE K W f σ H fun x H1 => ∃ k, TruV K x H1 k ∧ Q k H1 := by
  obtain ⟨M, ρ, F, r, g, e, q⟩ := h
  rcases bnd_some e with ⟨t, ρ1, e1, e⟩ | ⟨c, ρ', e1, rfl⟩
  · obtain ⟨k, ek, e⟩ := Option.map_eq_some_iff.mp e
    subst e
    exact ⟨M, ρ, F, _, g, e1, fun M1 H1 v R1 F1 S1 g1 r1 d1 => ⟨k, tru_of g1.le r1 ek, q M1 H1 F1 (S1.sub (fun _ z => z) fun a z => .inr z) g1⟩⟩
  · exact ⟨M, ρ, F, _, g, e1, q⟩
theorem tt_valK {K : PySem.W.Frag} {f : Rho → Option T} {σ : L2.St} {H : Hp} {Q : Bool → Hp → Prop} (h : tT K W (tVK f) σ H Q) : tK K f σ H fun x H1 => ∃ k, TruV K x H1 k ∧ Q k H1 := by
  obtain ⟨M, ρ, F, r, g, e, q⟩ := h
  obtain ⟨t, e1, e⟩ := Option.bind_eq_some_iff.mp e
  obtain ⟨k, ek, e⟩ := Option.map_eq_some_iff.mp e
  subst e
  exact ⟨M, ρ, F, _, g, e1, fun M1 H1 v R1 x1 r1 => ⟨k, tru_of x1.le r1 ek, q M1 H1 F (x1.stp fun a z => .inl z) (g.ext x1)⟩⟩
theorem tt_bl {K : PySem.W.Frag} {f : Rho → Option (Rs T)} {σ : L2.St} {H : Hp} {Q : Bool → Hp → Prop} (h : tT K W (tB f) σ H Q) : tE K W f σ H fun x H1 => ∃ k, x = .bl k ∧ Q k H1 := by
  obtain ⟨M, ρ, F, r, g, e, q⟩ := h
  rcases bnd_some e with ⟨t, ρ1, e1, e⟩ | ⟨c, ρ', e1, rfl⟩
  · obtain ⟨k, ek, e⟩ := Option.map_eq_some_iff.mp e
    subst e
    exact ⟨M, ρ, F, _, g, e1, fun M1 H1 v R1 F1 S1 g1 r1 d1 => by
      have e2 := isB_some ek
      subst e2
      exact ⟨k, r1.fr_inv.1.bl_inv, q M1 H1 F1 (S1.sub (fun _ z => z) fun a z => .inr z) g1⟩⟩
  · exact ⟨M, ρ, F, _, g, e1, q⟩
theorem tt_blK {K : PySem.W.Frag} {f : Rho → Option T} {σ : L2.St} {H : Hp} {Q : Bool → Hp → Prop} (h : tT K W (tBK f) σ H Q) : tK K f σ H fun x H1 => ∃ k, x = .bl k ∧ Q k H1 := by
  obtain ⟨M, ρ, F, r, g, e, q⟩ := h
  obtain ⟨t, e1, e⟩ := Option.bind_eq_some_iff.mp e
  obtain ⟨k, ek, e⟩ := Option.map_eq_some_iff.mp e
  subst e
  exact ⟨M, ρ, F, _, g, e1, fun M1 H1 v R1 x1 r1 => by
    have e2 := isB_some ek
    subst e2
    exact ⟨k, r1.fr_inv.1.bl_inv, q M1 H1 F (x1.stp fun a z => .inl z) (g.ext x1)⟩⟩
theorem et_val {f : Rho → Option (Rs T)} (h : EE X W e f) (he : ∀ whole, isTrue e X.env whole = (do let v ← whole; standAt e.pos; holding [v] (truthy v)) := by intro _; rfl) : ET X W e (tV f) := (pt_truth h he).lv fun σ H Q h => tt_val h
theorem et_valK {f : Rho → Option T} (h : EK X e f) (he : ∀ whole, isTrue e X.env whole = (do let v ← whole; standAt e.pos; holding [v] (truthy v)) := by intro _; rfl) : ET X W e (tVK f) := (pt_truth h he).lv fun σ H Q h => tt_valK h
theorem et_cmp {op' : CmpOp} {op : T → T → Option T} {f g : Rho → Option (Rs T)} (ho : OpR X (compareOp op') (rOp2 X.K op)) (ha : EE X W a f) (hb : EE X W b g) (hm : behindInMarks op' b = false) : ET X W (.Compare a [op'] [b] pos) (tB (e2 op f g)) :=
  (pt_cmpR ho ha hb hm).lv fun σ H Q h => te_bin op2_of σ H _ (tt_bl h)
theorem et_cmpK {op' : CmpOp} {op : T → T → Option T} {f g : Rho → Option T} (ho : OpR X (compareOp op') (rOp2 X.K op)) (ha : EK X a f) (hb : EK X b g) (hm : behindInMarks op' b = false) : ET X W (.Compare a [op'] [b] pos) (tBK (k2 op f g)) :=
  (pt_cmpR ho ha hb hm).lv fun σ H Q h => tk_bin op2_of σ H _ (tt_blK h)
/-! not, and, or -/
def tNot (f : Rho → Option (Rs Bool)) : Rho → Option (Rs Bool) := fun ρ => bnd (f ρ) fun b ρ1 => some (.ok (!b) ρ1)
def tAnd (f g : Rho → Option (Rs Bool)) : Rho → Option (Rs Bool) := fun ρ => bnd (f ρ) fun b ρ1 => if b = true then g ρ1 else some (.ok false ρ1)
def tOr (f g : Rho → Option (Rs Bool)) : Rho → Option (Rs Bool) := fun ρ => bnd (f ρ) fun b ρ1 => if b = true then some (.ok true ρ1) else g ρ1
theorem tt_bind {K : PySem.W.Frag} {f : Rho → Option (Rs Bool)} {k : Bool → Rho → Option (Rs Bool)} {Q' Q : Bool → Hp → Prop} {σ : L2.St} {H : Hp} (h : tT K W (fun ρ => bnd (f ρ) k) σ H Q)
    (hk : ∀ b H1, tT K W (k b) σ H1 Q → Q' b H1) : tT K W f σ H Q' := by
  obtain ⟨M, ρ, F, r, g, e, q⟩ := h
  rcases bnd_some e with ⟨b, ρ1, e1, e⟩ | ⟨c, ρ', e1, rfl⟩
  · refine ⟨M, ρ, F, _, g, e1, fun M1 H1 F1 S1 g1 => hk b H1 ⟨M1, ρ1, F1, r, g1, e, ?_⟩⟩
    cases r with
    | ok b' ρ' => exact fun M2 H2 F2 S2 g2 => q M2 H2 F2 (S1.trans S2) g2
    | ex c ρ' => exact fun M2 H2 F2 S2 g2 => q M2 H2 F2 (S1.trans S2) g2
  · exact ⟨M, ρ, F, _, g, e1, q⟩
theorem tt_pure {K : PySem.W.Frag} {b : Bool} {σ : L2.St} {H : Hp} {Q : Bool → Hp → Prop} (h : tT K W (fun ρ => some (.ok b ρ)) σ H Q) : Q b H := by
  obtain ⟨M, ρ, F, r, g, e, q⟩ := h
  cases e
  exact q M H F (.refl fun a z => z) g
theorem et_not {f : Rho → Option (Rs Bool)} (h : ET X W a f) : ET X W (.UnaryOp .Not a pos) (tNot f) := (pt_not h).lv fun σ H Q h => tt_bind h fun b H1 h => tt_pure h
abbrev EW (X : Cx) (W : WS) (e : Expr) (f : Rho → Option (Rs Bool)) : Prop := PW X e (tT X.K W f)
theorem _root_.L2.PW.lv {X : Cx} {e : Expr} {t t' : TT} (h : PW X e t) (i : ∀ σ H Q, t' σ H Q → t σ H Q) : PW X e t' := ⟨fun wh pins s σ H Q I w => h.run wh pins s σ H Q I (i σ H Q w)⟩
theorem ew_and1 {f : Rho → Option (Rs Bool)} (h : ET X W a f) : EW X W (.BoolOp .And [a] pos) f := pw_and1 h
theorem ew_or1 {f : Rho → Option (Rs Bool)} (h : ET X W a f) : EW X W (.BoolOp .Or [a] pos) f := pw_or1 h
theorem ew_and {f g : Rho → Option (Rs Bool)} (h : ET X W a f) (h2 : EW X W (.BoolOp .And (b :: rest) pos) g) : EW X W (.BoolOp .And (a :: b :: rest) pos) (tAnd f g) := (pw_and h h2).lv fun σ H Q h => tt_bind h fun c H1 h => by
  cases c with
  | true => exact h
  | false => exact tt_pure h
theorem ew_or {f g : Rho → Option (Rs Bool)} (h : ET X W a f) (h2 : EW X W (.BoolOp .Or (b :: rest) pos) g) : EW X W (.BoolOp .Or (a :: b :: rest) pos) (tOr f g) := (pw_or h h2).lv fun σ H Q h => tt_bind h fun c H1 h => by
  cases c with
  | true => exact tt_pure h
  | false => exact h
theorem et_w {f : Rho → Option (Rs Bool)} (h : EW X W e f) : ET X W e f := h.pt
/-! as values -/
def eBl (f : Rho → Option (Rs Bool)) : Rho → Option (Rs T) := fun ρ => bnd (f ρ) fun b ρ1 => some (.ok (.fr (.bool b)) ρ1)
def eAnd (f g : Rho → Option (Rs T)) : Rho → Option (Rs T) := fun ρ => bnd (f ρ) fun t ρ1 => match t with
  | .fr (.bool true) => g ρ1
  | .fr (.bool false) => some (.ok (.fr (.bool false)) ρ1)
  | _ => none
def eOr (f g : Rho → Option (Rs T)) : Rho → Option (Rs T) := fun ρ => bnd (f ρ) fun t ρ1 => match t with
  | .fr (.bool false) => g ρ1
  | .fr (.bool true) => some (.ok (.fr (.bool true)) ρ1)
  | _ => none
def eNot (f : Rho → Option (Rs T)) : Rho → Option (Rs T) := fun ρ => bnd (f ρ) fun t ρ1 => (truth t).map fun b => .ok (.fr (.bool (!b))) ρ1
theorem te_pure {K : PySem.W.Frag} {d : D} {v : V} {σ : L2.St} {H : Hp} {Q : VK} (h : tE K W (fun ρ => some (.ok (.fr d) ρ)) σ H Q) (r : ∀ M, Dz K M v d) : Q v H := by
  obtain ⟨M, ρ, F, r', g, e, q⟩ := h
  cases e
  exact q M H v _ F (.refl fun a z => z.elim False.elim id) g (.fr (r M)) fun a z => z.elim
/-- a value, then more of the same value: what it owns is dropped -/
theorem te_bind {K : PySem.W.Frag} {f : Rho → Option (Rs T)} {k : T → Rho → Option (Rs T)} {Q' : VK} {Q : VK} {σ : L2.St} {H : Hp} (h : tE K W (fun ρ => bnd (f ρ) k) σ H Q)
    (hk : ∀ M H1 t v R, L2.Same M H1 → Rp K M H1 t v R → tE K W (k t) σ H1 Q → Q' v H1) : tE K W f σ H Q' := by
  obtain ⟨M, ρ, F, r, g, e, q⟩ := h
  rcases bnd_some e with ⟨b, ρ1, e1, e⟩ | ⟨c, ρ', e1, rfl⟩
  · refine ⟨M, ρ, F, _, g, e1, fun M1 H1 v R1 F1 S1 g1 r1 d1 => hk M1 H1 b v R1 g1.le r1 ⟨M1, ρ1, F1, r, g1, e, ?_⟩⟩
    have S1' := S1.sub (fun _ z => z) fun a (z : Al F1 a) => .inr z
    cases r with
    | ok b' ρ' => exact fun M2 H2 v R2 F2 S2 g2 => q M2 H2 v R2 F2 (S1'.trans S2) g2
    | ex c ρ' => exact fun M2 H2 F2 S2 g2 => q M2 H2 F2 (S1'.trans S2) g2
  · exact ⟨M, ρ, F, _, g, e1, q⟩
theorem te_none {K : PySem.W.Frag} {σ : L2.St} {H : Hp} {Q : VK} {A : Prop} (h : tE K W (fun _ => none) σ H Q) : A := by
  obtain ⟨M, ρ, F, r, g, e, q⟩ := h
  cases e
theorem ee_one {op} {f : Rho → Option (Rs T)} (h : EE X W a f) : EE X W (.BoolOp op [a] pos) f := pe_one h
theorem ee_and {f g : Rho → Option (Rs T)} (h : EE X W a f) (h2 : EE X W (.BoolOp .And (b :: rest) pos) g) : EE X W (.BoolOp .And (a :: b :: rest) pos) (eAnd f g) := (pe_and h h2).lv fun σ H Q h => te_bind h fun M H1 t v R m r h => by
  split at h
  · exact ⟨true, r.fr_inv.1.bl_inv, h⟩
  · exact ⟨false, r.fr_inv.1.bl_inv, te_pure h fun _ => .bl _⟩
  · exact te_none h
theorem ee_or {f g : Rho → Option (Rs T)} (h : EE X W a f) (h2 : EE X W (.BoolOp .Or (b :: rest) pos) g) : EE X W (.BoolOp .Or (a :: b :: rest) pos) (eOr f g) := (pe_or h h2).lv fun σ H Q h => te_bind h fun M H1 t v R m r h => by
  split at h
  · exact ⟨false, r.fr_inv.1.bl_inv, h⟩
  · exact ⟨true, r.fr_inv.1.bl_inv, te_pure h fun _ => .bl _⟩
  · exact te_none h
theorem ee_not {f : Rho → Option (Rs T)} (h : EE X W a f) : EE X W (.UnaryOp .Not a pos) (eNot f) := (pe_notT h).lv fun σ H Q h => te_bind h fun M H1 t v R m r h => by
  cases e : truth t with
  | none => rw [e] at h; exact te_none h
  | some b => rw [e] at h; exact ⟨b, tru_of m r e, te_pure h fun _ => .bl _⟩
def eIf (c : Rho → Option (Rs Bool)) (f g : Rho → Option (Rs T)) : Rho → Option (Rs T) := fun ρ => bnd (c ρ) fun b ρ1 => if b = true then f ρ1 else g ρ1
theorem ee_if {fc : Rho → Option (Rs Bool)} {f g : Rho → Option (Rs T)} (hc : ET X W c fc) (ha : EE X W a f) (hb : EE X W b g) : EE X W (.IfExp c a b pos) (eIf fc f g) := (pe_ifExp hc ha hb).lv fun σ H Q ⟨M, ρ, F, r, g', e, q⟩ => by
  rcases bnd_some e with ⟨k, ρ1, e1, e⟩ | ⟨c, ρ', e1, rfl⟩
  · refine ⟨M, ρ, F, _, g', e1, fun M1 H1 F1 S1 g1 => ?_⟩
    have fin : ∀ {f : Rho → Option (Rs T)}, f ρ1 = some r → tE X.K W f σ H1 Q := fun {f} e => by
      refine ⟨M1, ρ1, F1, r, g1, e, ?_⟩
      cases r with
      | ok b' ρ' => exact fun M2 H2 v R2 F2 S2 g2 => q M2 H2 v R2 F2 (S1.trans S2) g2
      | ex c ρ' => exact fun M2 H2 F2 S2 g2 => q M2 H2 F2 (S1.trans S2) g2
    cases k with
    | true => exact fin e
    | false => exact fin e
  · exact ⟨M, ρ, F, _, g', e1, q⟩
/-! a chain of two comparisons -/
def kCh (op op' : T → T → Option T) (f g h : Rho → Option T) : Rho → Option T := fun ρ => (f ρ).bind fun a => (g ρ).bind fun b => (op a b).bind fun t => match t with
  | .fr (.bool true) => (h ρ).bind fun c => op' b c
  | .fr (.bool false) => some (.fr (.bool false))
  | _ => none
theorem tk_chain {K : PySem.W.Frag} {op op' : T → T → Option T} {f g h : Rho → Option T} {σ : L2.St} {H : Hp} {Q : VK} (w : tK K (kCh op op' f g h) σ H Q) :
    tK K f σ H fun x H1 => tK K g σ H1 fun y H2 => rOp2 K op x y H2 fun z H3 => ∃ k, z = .bl k ∧ if k = true then tK K h σ H3 fun w H4 => rOp2 K op' y w H4 Q else Q (.bl false) H3 := by
  obtain ⟨M, ρ, F, t, g', e, q⟩ := w
  unfold kCh at e
  obtain ⟨a, e1, e⟩ := Option.bind_eq_some_iff.mp e
  obtain ⟨b, e2, e⟩ := Option.bind_eq_some_iff.mp e
  obtain ⟨c, e3, e⟩ := Option.bind_eq_some_iff.mp e
  refine ⟨M, ρ, F, a, g', e1, fun M1 H1 v1 R1 x1 r1 => ⟨M1, ρ, F, b, g'.ext x1, e2, fun M2 H2 v2 R2 x2 r2 => ⟨M2, a, R1, b, R2, c, x2.le, r1.ext x2, r2, e3, fun M3 H3 v3 R3 x3 r3 _ => ?_⟩⟩⟩
  split at e
  · obtain ⟨d, e4, e⟩ := Option.bind_eq_some_iff.mp e
    refine ⟨true, r3.fr_inv.1.bl_inv, ?_⟩
    rw [if_pos rfl]
    exact ⟨M3, ρ, F, d, g'.ext ((x1.trans x2).trans x3), e4, fun M4 H4 v4 R4 x4 r4 => ⟨M4, b, R2, d, R4, t, x4.le, r2.ext (x3.trans x4), r4, e, k_fin (((x1.trans x2).trans x3).trans x4) q⟩⟩
  · cases e
    refine ⟨false, r3.fr_inv.1.bl_inv, ?_⟩
    rw [if_neg (by decide)]
    exact q M3 H3 _ (fun _ => False) ((x1.trans x2).trans x3) (.fr (.bl false))
  · cases e
theorem ek_chain {op1 op2 : CmpOp} {op op' : T → T → Option T} {f g h : Rho → Option T} (ho : OpR X (compareOp op1) (rOp2 X.K op)) (ho' : OpR X (compareOp op2) (rOp2 X.K op')) (ha : EK X a f) (hb : EK X b g) (hc : EK X c h) (hm : lastMarks [op1, op2] [b, c] = false := by with_unfolding_all rfl) :
    EK X (.Compare a [op1, op2] [b, c] pos) (kCh op op' f g h) := (pe_chain ho ho' ha hb hc hm).lv fun σ H Q w => tk_chain w
theorem et_chain {op1 op2 : CmpOp} {op op' : T → T → Option T} {f g h : Rho → Option T} (ho : OpR X (compareOp op1) (rOp2 X.K op)) (ho' : OpR X (compareOp op2) (rOp2 X.K op')) (ha : EK X a f) (hb : EK X b g) (hc : EK X c h) (hm : lastMarks [op1, op2] [b, c] = false := by with_unfolding_all rfl) :
    ET X W (.Compare a [op1, op2] [b, c] pos) (tBK (kCh op op' f g h)) := (pt_chain ho ho' ha hb hc hm).lv fun σ H Q w => by
  have q := tk_chain (tt_blK w)
  exact q
end
end Lv

set_option maxHeartbeats 1000000
namespace Lv
open PySem PySem.Spec PyProof.Rows L2
/-! ### built-in functions -/
def rOpN (K : PySem.W.Frag) (op : List T → Option T) : List V → Hp → VK → Prop := fun vs H Q => ∃ M ts u, L2.Same M H ∧ PkL K M H ts vs ∧ op ts = some u ∧ rFin K M H u Q
def kN (op : List T → Option T) (f : Rho → Option (List T)) : Rho → Option T := fun ρ => (f ρ).bind op
def ownsA : List Ar → Option (List T)
  | [] => some []
  | .own t :: r => (ownsA r).map (t :: ·)
  | .bor _ :: _ => none
def eN (op : List T → Option T) (f : Rho → Option (Rs (List Ar))) : Rho → Option (Rs T) := fun ρ => bnd (f ρ) fun as ρ1 => (ownsA as).bind fun ts => (op ts).map fun t => .ok t ρ1
section
variable {X : Cx} {W : WS} {e a b : Expr} {es : List Expr} {pos p : Pos} {x : Str} {op : List T → Option T}
theorem ArL.pk {K : PySem.W.Frag} {M H : Hp} {σ : L2.St} : ∀ {as : List Ar} {vs : List V} {R : Fp} {ts : List T}, ArL K M H σ as vs R → ownsA as = some ts → PkL K M H ts vs
  | _, _, _, _, .nil, e => by cases e; exact .nil
  | _, _, _, _, .own h t _, e => by
    simp only [ownsA] at e
    obtain ⟨ts, e1, e2⟩ := Option.map_eq_some_iff.mp e
    subst e2
    exact .cons h (t.pk e1)
  | _, _, _, _, .bor _ _, e => by cases e
theorem tk_n {K : PySem.W.Frag} {f : Rho → Option (List T)} {σ : L2.St} {H : Hp} {Q : VK} (h : tK K (kN op f) σ H Q) : tKA K f σ H fun vs H1 => rOpN K op vs H1 Q := by
  obtain ⟨M, ρ, F, t, g, e, q⟩ := h
  obtain ⟨ts, e1, e⟩ := Option.bind_eq_some_iff.mp e
  exact ⟨M, ρ, F, ts, g, e1, fun M1 H1 vs x1 r1 => ⟨M1, ts, t, x1.le, r1, e, k_fin x1 q⟩⟩
theorem te_n {K : PySem.W.Frag} {f : Rho → Option (Rs (List Ar))} {σ : L2.St} {H : Hp} {Q : VK} (h : tE K W (eN op f) σ H Q) : tEA K W f σ H fun vs H1 => rOpN K op vs H1 Q := by
  obtain ⟨M, ρ, F, r, g, e, q⟩ := h
  rcases bnd_some e with ⟨as, ρ1, e1, e⟩ | ⟨c, ρ', e1, rfl⟩
  · obtain ⟨ts, e2, e⟩ := Option.bind_eq_some_iff.mp e
    obtain ⟨t, e3, e⟩ := Option.map_eq_some_iff.mp e
    subst e
    refine ⟨M, ρ, F, _, g, e1, fun M1 H1 vs R1 F1 S1 g1 r1 d1 => ⟨M1, ts, t, g1.le, r1.pk e2, e3, fun M3 H3 v3 R3 x3 r3 n3 => ?_⟩⟩
    refine q M3 H3 v3 R3 F1 ((S1.sub (fun _ z => z) fun a z => .inr z).trans (x3.stp fun a z => z.elim (fun z => .inr (n3 a z)) .inl)) (g1.ext x3) r3 fun a z z' => ?_
    obtain ⟨_, o, eo'⟩ := g1.own a z'
    rw [n3 a z] at eo'; cases eo'
  · exact ⟨M, ρ, F, _, g, e1, q⟩
theorem ek_callB {id : String} {f : Rho → Option (List T)} (hc : CallR X (.builtin id) (rOpN X.K op)) (hg : Gl X x) (hm : X.mg x = none) (hv : bootBuiltins x = some (.builtin id)) (ha : AK X (e :: es) f) (hn : x ≠ "__name__" := by decide) (hdb : (x == ("__debug__" : Str)) = false := by decide)
    (he : starEach (e :: es) X.env = (false, eval e X.env) :: starEach es X.env := by rfl) (hpl : (backTo pos (starEach es X.env)).any (·.1) = false := by rfl) : EK X (.Call (.Name x p) (e :: es) [] pos) (kN op f) := (pe_callB hc hg hm hv ha hn hdb he hpl).lv fun σ H Q h => tk_n h
theorem ee_callB {id : String} {f : Rho → Option (Rs (List Ar))} (hc : CallR X (.builtin id) (rOpN X.K op)) (hg : Gl X x) (hm : X.mg x = none) (hv : bootBuiltins x = some (.builtin id)) (ha : AE X W (e :: es) f) (hn : x ≠ "__name__" := by decide) (hdb : (x == ("__debug__" : Str)) = false := by decide)
    (he : starEach (e :: es) X.env = (false, eval e X.env) :: starEach es X.env := by rfl) (hpl : (backTo pos (starEach es X.env)).any (·.1) = false := by rfl) : EE X W (.Call (.Name x p) (e :: es) [] pos) (eN op f) := (pe_callB hc hg hm hv ha hn hdb he hpl).lv fun σ H Q h => te_n h
theorem ek_callT {id : String} {f : Rho → Option (List T)} (hc : CallR X (.type id) (rOpN X.K op)) (hg : Gl X x) (hm : X.mg x = none) (hv : bootBuiltins x = some (.type id)) (ha : AK X (e :: es) f) (hn : x ≠ "__name__" := by decide) (hdb : (x == ("__debug__" : Str)) = false := by decide)
    (he : starEach (e :: es) X.env = (false, eval e X.env) :: starEach es X.env := by rfl) (hpl : (backTo pos (starEach es X.env)).any (·.1) = false := by rfl) : EK X (.Call (.Name x p) (e :: es) [] pos) (kN op f) := (pe_callTy hc hg hm hv ha hn hdb he hpl).lv fun σ H Q h => tk_n h
theorem ee_callT {id : String} {f : Rho → Option (Rs (List Ar))} (hc : CallR X (.type id) (rOpN X.K op)) (hg : Gl X x) (hm : X.mg x = none) (hv : bootBuiltins x = some (.type id)) (ha : AE X W (e :: es) f) (hn : x ≠ "__name__" := by decide) (hdb : (x == ("__debug__" : Str)) = false := by decide)
    (he : starEach (e :: es) X.env = (false, eval e X.env) :: starEach es X.env := by rfl) (hpl : (backTo pos (starEach es X.env)).any (·.1) = false := by rfl) : EE X W (.Call (.Name x p) (e :: es) [] pos) (eN op f) := (pe_callTy hc hg hm hv ha hn hdb he hpl).lv fun σ H Q h => te_n h
end
section
variable {K : PySem.W.Frag} {M H : Hp}
theorem PkL.one {t : T} {vs : List V} (h : PkL K M H [t] vs) : ∃ v R, vs = [v] ∧ Rp K M H t v R := by
  cases h with | cons h t => cases t; exact ⟨_, _, rfl, h⟩
theorem PkL.two {t t' : T} {vs : List V} (h : PkL K M H [t, t'] vs) : ∃ v w R R', vs = [v, w] ∧ Rp K M H t v R ∧ Rp K M H t' w R' := by
  cases h with | cons h t => cases t with | cons h' t => cases t; exact ⟨_, _, _, _, rfl, h, h'⟩
/-- a list or a tuple, with the items frozen -/
def T.asS : T → Option (List D)
  | .fr (.tuple ds) => some ds
  | t => t.asL
theorem Rp.asS_inv {t : T} {v : V} {R : Fp} {ds : List D} (m : L2.Same M H) (e : t.asS = some ds) (h : Rp K M H t v R) : ∃ a xs, v = .ref a ∧ (SqL K H a xs ∨ SqT K H a xs) ∧ DzL K M xs ds := by
  unfold T.asS at e
  split at e
  · cases e
    obtain ⟨a, xs, e1, h1, h2⟩ := h.fr_inv.1.tup_inv
    exact ⟨a, xs, e1, .inr (Same.tup m h1), h2⟩
  · obtain ⟨a, xs, e1, h1, h2⟩ := h.asL_inv m e
    exact ⟨a, xs, e1, .inl h1, h2⟩
end
def opLen : List T → Option T
  | [.fr (.list ds)] => some (.fr (.int ds.length))
  | [.fr (.tuple ds)] => some (.fr (.int ds.length))
  | [.fr (.str z)] => if z.length ≤ SZ then some (.fr (.int z.length)) else none
  | [.fr (.dict ds)] => some (.fr (.int ds.length))
  | [.lst ds] => some (.fr (.int ds.length))
  | [.dk ds] => some (.fr (.int ds.length))
  | _ => none
theorem DzK.length {K : PySem.W.Frag} {M : Hp} : ∀ {v : List (Key × V)} {d : List (D × D)}, DzK K M v d → v.length = d.length
  | _, _, .nil => rfl
  | _, _, .cons _ t => by simp [DzK.length t]
theorem RpK.length {K : PySem.W.Frag} {M H : Hp} : ∀ {v : List (Key × V)} {d : List (Key × T)} {R : Fp}, RpK K M H d v R → v.length = d.length
  | _, _, _, .nil => rfl
  | _, _, _, .cons _ t _ => by simp [RpK.length t]
section
variable {X : Cx}
theorem call_lenA : CallR X (.builtin "len") (rOpN X.K opLen) := by
  intro pins s σ H vs us Q I r ⟨M, ts, u, m, pk, e, q⟩
  unfold opLen at e
  split at e
  · cases e
    obtain ⟨v, R, rfl, rp⟩ := pk.one
    obtain ⟨a, xs, rfl, h1, h2⟩ := rp.fr_inv.1.list_inv
    exact call_len_seq pins s σ H _ us Q I r ⟨a, xs, rfl, .inl (m.seq h1), by rw [h2.length]; exact fin_int m q⟩
  · cases e
    obtain ⟨v, R, rfl, rp⟩ := pk.one
    obtain ⟨a, xs, rfl, h1, h2⟩ := rp.fr_inv.1.tup_inv
    exact call_len_seq pins s σ H _ us Q I r ⟨a, xs, rfl, .inr (Same.tup m h1), by rw [h2.length]; exact fin_int m q⟩
  · split at e
    · next hl =>
      cases e
      obtain ⟨v, R, rfl, rp⟩ := pk.one
      obtain rfl := rp.fr_inv.1.str_inv
      exact call_len_str pins s σ H _ us Q I r ⟨_, rfl, sz_ok hl, fin_int m q⟩
    · cases e
  · cases e
    obtain ⟨v, R, rfl, rp⟩ := pk.one
    cases rp.fr_inv.1 with
    | dk h1 h2 => exact call_lenD pins s σ H _ us Q I r ⟨_, _, rfl, m _ _ h1, by rw [h2.length]; exact fin_int m q⟩
  · cases e
    obtain ⟨v, R, rfl, rp⟩ := pk.one
    cases rp with
    | lst h1 h2 h3 h4 => exact call_len_seq pins s σ H _ us Q I r ⟨_, _, rfl, .inl (.of h1), by rw [h3.length]; exact fin_int m q⟩
  · cases e
    obtain ⟨v, R, rfl, rp⟩ := pk.one
    cases rp with
    | dk h1 h2 h3 h4 => exact call_lenD pins s σ H _ us Q I r ⟨_, _, rfl, h1, by rw [h3.length]; exact fin_int m q⟩
  · cases e
def opAbs : List T → Option T
  | [.fr (.int i)] => some (.fr (.int (if i < 0 then -i else i)))
  | _ => none
theorem call_absA : CallR X (.builtin "abs") (rOpN X.K opAbs) := by
  intro pins s σ H vs us Q I r ⟨M, ts, u, m, pk, e, q⟩
  unfold opAbs at e
  split at e
  · cases e
    obtain ⟨v, R, rfl, rp⟩ := pk.one
    obtain rfl := rp.fr_inv.1.int_inv
    exact call_abs pins s σ H _ us Q I r ⟨_, rfl, fin_int m q⟩
  · cases e
def opList : List T → Option T
  | [t] => (T.asS t).map fun ds => .lst (ds.map .fr)
  | _ => none
theorem call_listA : CallR X (.type "list") (rOpN X.K opList) := by
  intro pins s σ H vs us Q I r ⟨M, ts, u, m, pk, e, q⟩
  unfold opList at e
  split at e
  · obtain ⟨ds, e1, e2⟩ := Option.map_eq_some_iff.mp e
    subst e2
    obtain ⟨v, R, rfl, rp⟩ := pk.one
    obtain ⟨a, xs, rfl, h1, h2⟩ := rp.asS_inv m e1
    exact call_list_of pins s σ H _ us Q I r ⟨a, xs, rfl, h1, fun p np => fin_list m h2 q np⟩
  · cases e
def opTuple : List T → Option T
  | [t] => (T.asS t).map fun ds => .fr (.tuple ds)
  | _ => none
theorem call_tupleA : CallR X (.type "tuple") (rOpN X.K opTuple) := by
  intro pins s σ H vs us Q I r ⟨M, ts, u, m, pk, e, q⟩
  unfold opTuple at e
  split at e
  · obtain ⟨ds, e1, e2⟩ := Option.map_eq_some_iff.mp e
    subst e2
    obtain ⟨v, R, rfl, rp⟩ := pk.one
    unfold T.asS at e1
    split at e1
    · cases e1
      obtain ⟨a, xs, rfl, h1, h2⟩ := rp.fr_inv.1.tup_inv
      exact call_tuple_of pins s σ H _ us Q I r ⟨a, xs, rfl, .inr ⟨Same.tup m h1, fin_dz m (.tup h1 h2) q⟩⟩
    · obtain ⟨a, xs, rfl, h1, h2⟩ := rp.asL_inv m e1
      exact call_tuple_of pins s σ H _ us Q I r ⟨a, xs, rfl, .inl ⟨h1, fun p np => fin_tup m h2 q np⟩⟩
  · cases e
def intsD : List D → Option (List Int)
  | [] => some []
  | .int i :: r => (intsD r).map (i :: ·)
  | _ :: _ => none
theorem intsD_map : ∀ ns : List Int, intsD (ns.map .int) = some ns
  | [] => rfl
  | n :: ns => by simp [intsD, intsD_map ns]
theorem DzL.ints {K : PySem.W.Frag} {M : Hp} : ∀ {xs : List V} {ds : List D} {ns : List Int}, DzL K M xs ds → intsD ds = some ns → xs = ns.map V.int
  | _, _, _, .nil, e => by cases e; rfl
  | _, d :: ds, ns, .cons h t, e => by
    cases d with
    | int i =>
      simp only [intsD] at e
      obtain ⟨ns', e1, e2⟩ := Option.map_eq_some_iff.mp e
      subst e2
      rw [h.int_inv, t.ints e1]; rfl
    | _ => cases e
def opSum : List T → Option T
  | [t] => (T.asL t).bind fun ds => (intsD ds).map fun ns => .fr (.int ns.sum)
  | _ => none
theorem call_sumA (hc : X.calm = true) : CallR X (.builtin "sum") (rOpN X.K opSum) := by
  intro pins s σ H vs us Q I r ⟨M, ts, u, m, pk, e, q⟩
  unfold opSum at e
  split at e
  · obtain ⟨ds, e1, e⟩ := Option.bind_eq_some_iff.mp e
    obtain ⟨ns, e2, e3⟩ := Option.map_eq_some_iff.mp e
    subst e3
    obtain ⟨v, R, rfl, rp⟩ := pk.one
    obtain ⟨a, xs, rfl, h1, h2⟩ := rp.asL_inv m e1
    have e4 := h2.ints e2
    subst e4
    exact cr_sum hc pins s σ H _ us Q I r ⟨a, ns, rfl, h1, fin_int m q⟩
  · cases e
/-! sorted, min, max -/
def leD (a b : D) : Bool := !ltD b a
def tup1 : D → Bool
  | .tuple (_ :: _) => true
  | _ => false
def notTup : D → Bool
  | .tuple _ => false
  | .none => false
  | _ => true
def canSort (ds : List D) : Bool := (ds.all fun a => ds.all fun b => PySem.W.alike a b) && (ds.all tup1 || ds.all notTup) && ds.all okD
def sortD (ds : List D) : List D := ds.mergeSort leD
def opSorted : List T → Option T
  | [t] => (T.asL t).bind fun ds => if canSort ds = true then some (.lst ((sortD ds).map .fr)) else none
  | _ => none
def opMin1 (t : T) : Option T := (T.asL t).bind fun ds => if ((ds.all fun a => ds.all fun b => canLt a b) && ds.all okD) = true then (match ds with
  | x :: xs => some (.fr (xs.foldl (fun a y => if ltD y a then y else a) x))
  | [] => none) else none
def opMax1 (t : T) : Option T := (T.asL t).bind fun ds => if ((ds.all fun a => ds.all fun b => canLt a b) && ds.all okD) = true then (match ds with
  | x :: xs => some (.fr (xs.foldl (fun a y => if ltD a y then y else a) x))
  | [] => none) else none
def opMin : List T → Option T
  | [t] => opMin1 t
  | [.fr (.int i), .fr (.int j)] => some (.fr (.int (if j < i then j else i)))
  | _ => none
def opMax : List T → Option T
  | [t] => opMax1 t
  | [.fr (.int i), .fr (.int j)] => some (.fr (.int (if j > i then j else i)))
  | _ => none
theorem each_of {K : PySem.W.Frag} {M : Hp} : ∀ {xs : List V} {ds : List D} {us : List Value}, DzL K M xs ds → Vals xs us → PySem.W.EachIs (fun (u : Value) (p : V × D) => RelV p.1 u ∧ Dz K M p.1 p.2) us (xs.zip ds)
  | _, _, _, .nil, .nil => .nil
  | _, _, _, .cons h t, .cons r rs => .cons ⟨r, h⟩ (each_of t rs)
theorem each_back {K : PySem.W.Frag} {M : Hp} : ∀ {ps : List (V × D)} {us : List Value}, PySem.W.EachIs (fun (u : Value) (p : V × D) => RelV p.1 u ∧ Dz K M p.1 p.2) us ps → Vals (ps.map Prod.fst) us ∧ DzL K M (ps.map Prod.fst) (ps.map Prod.snd)
  | _, _, .nil => ⟨.nil, .nil⟩
  | _, _, .cons h t => ⟨.cons h.1 (each_back t).1, .cons h.2 (each_back t).2⟩
theorem zip_snd {α β : Type} : ∀ {xs : List α} {ys : List β}, xs.length = ys.length → (xs.zip ys).map Prod.snd = ys
  | [], [], _ => rfl
  | [], _ :: _, e => by simp at e
  | _ :: _, [], e => by simp at e
  | x :: xs, y :: ys, e => by simp [zip_snd (xs := xs) (ys := ys) (by simpa using e)]
theorem zip_fst {α β : Type} : ∀ {xs : List α} {ys : List β}, xs.length = ys.length → (xs.zip ys).map Prod.fst = xs
  | [], [], _ => rfl
  | [], _ :: _, e => by simp at e
  | _ :: _, [], e => by simp at e
  | x :: xs, y :: ys, e => by simp [zip_fst (xs := xs) (ys := ys) (by simpa using e)]
theorem okD_of {d : D} (h : okD d = true) : d.plain = true ∧ d.depth ≤ 60 := by
  unfold okD at h
  simpa using h
theorem all_ok {ds : List D} (h : ds.all okD = true) : PyData.plainAll ds = true ∧ PyData.depthAll ds ≤ 60 := by
  induction ds with
  | nil => exact ⟨rfl, Nat.zero_le _⟩
  | cons d ds ih =>
    simp only [List.all_cons, Bool.and_eq_true] at h
    obtain ⟨h1, h2⟩ := ih h.2
    obtain ⟨h3, h4⟩ := okD_of h.1
    refine ⟨by simp [PyData.plainAll, h1, h3], ?_⟩
    simp only [PyData.depthAll]
    omega
theorem sort_map {ps : List (V × D)} : (ps.mergeSort (PySem.W.dataLe false Prod.snd)).map Prod.snd = sortD (ps.map Prod.snd) := by
  unfold sortD
  refine List.map_mergeSort fun a _ b _ => ?_
  show (!PySem.W.dataLt b.2 a.2) = leD a.2 b.2
  unfold leD
  rw [ltD_eq]
theorem call_sortedA (hu : X.A.units + 64 < cLine) : CallR X (.builtin "sorted") (rOpN X.K opSorted) := by
  intro pins s σ H vs us Q I r ⟨M, ts, u, m, pk, e, q⟩
  unfold opSorted at e
  split at e
  · obtain ⟨ds, e1, e⟩ := Option.bind_eq_some_iff.mp e
    split at e
    · next hc =>
      cases e
      obtain ⟨v, R, rfl, rp⟩ := pk.one
      obtain ⟨a, xs, rfl, h1, h2⟩ := rp.asL_inv m e1
      obtain ⟨its, rv, pl, hz⟩ := I.list h1
      rw [Vals.ref1 r]
      unfold canSort at hc
      simp only [Bool.and_eq_true] at hc
      obtain ⟨⟨ca, cs⟩, ck⟩ := hc
      have hl : xs.length = ds.length := h2.length
      have hsn := zip_snd hl
      have hfs := zip_fst hl
      have E := each_of h2 rv
      have okm : ∀ d ∈ ds, d.plain = true ∧ d.depth ≤ 60 := fun d hd => okD_of (List.all_eq_true.mp ck d hd)
      have mem : ∀ p ∈ xs.zip ds, p.2 ∈ ds := fun p hp => (List.of_mem_zip (a := p.1) (b := p.2) hp).2
      have er : PySem.W.EachIs (fun (v : Value) (p : V × D) => ∃ as, Reads s.heap v p.2 as) its (xs.zip ds) := by
        have h3 := PySem.W.each_mem E
        refine h3.mono fun v p ⟨⟨z1, z2⟩, hb⟩ => ?_
        exact Dp.reads I p.2 p.1 v ((z2.mono m).dp (okm _ (mem p hb)).1) z1
      refine PySem.W.sorted_data (R := fun (u : Value) (p : V × D) => RelV p.1 u ∧ Dz X.K M p.1 p.2) (enc := Prod.snd) (bs := xs.zip ds) pl.isList E er (by rw [hsn]; exact fun d hd d' hd' => List.all_eq_true.mp (List.all_eq_true.mp ca d hd) d' hd') ?_ (by rw [List.length_zip, hl]; omega) (fun p hp => by have := (okm _ (mem p hp)).2; omega) fun out ho eo => ?_
      · rw [hsn]
        rw [Bool.or_eq_true] at cs
        rcases cs with cs | cs
        · refine .inl fun d hd => ?_
          have := List.all_eq_true.mp cs d hd
          unfold tup1 at this
          split at this
          · exact ⟨_, _, rfl⟩
          · cases this
        · refine .inr fun d hd => ?_
          have := List.all_eq_true.mp cs d hd
          unfold notTup at this
          split at this
          · cases this
          · cases this
          · next h1 h2 => exact ⟨fun z => h2 z, fun xs z => h1 xs z⟩
      · obtain ⟨rv2, dz2⟩ := each_back eo
        rw [sort_map, hsn] at dz2
        obtain ⟨c, hc⟩ := sortedAll_at s.heap its out.toArray
        have k : ∀ b o, s.heap.get? b = some o → (sortedAll s.heap its out.toArray).get? b = some o := fun b o e => sortedAll_old e
        have hz2 : (((xs.zip ds).mergeSort (PySem.W.dataLe false Prod.snd)).map Prod.fst).length ≤ sizeLine := by
          rw [List.length_map, List.length_mergeSort, List.length_zip, hl]; omega
        refine ⟨.ref (s.heap.objs.size + 1), upd H (s.heap.objs.size + 1) (.lst (((xs.zip ds).mergeSort (PySem.W.dataLe false Prod.snd)).map Prod.fst)), I.laid (t' := s.toks) k (Nat.le_succ _) ⟨hz2, out, c, rv2, hc⟩, rfl, ?_⟩
        exact fin_list m dz2 q (I.hok.fresh (Nat.le_succ _))
    · cases e
  · cases e
theorem alike_of {ds : List D} (h : (ds.all fun a => ds.all fun b => canLt a b) = true) : PySem.W.AlikeAll ds := by
  have h1 : ∀ a ∈ ds, ∀ b ∈ ds, canLt a b = true := fun a ha b hb => List.all_eq_true.mp (List.all_eq_true.mp h a ha) b hb
  exact ⟨fun a ha b hb => (canLt_ok (h1 a ha b hb)).1, fun a ha => (canLt_ok (h1 a ha a ha)).2⟩
theorem pick {pins : List (Addr × Obj)} {s : Shared} {σ : L2.St} {H M : Hp} {xs : List V} {ds : List D} {its : List Value} {d : D} {h' : Heap} {bs : List Addr} {i : Nat} {v : Value} {Q : VK} {tk : Nat} (I : Inv X pins σ H s) (m : L2.Same M H) (h2 : DzL X.K M xs ds) (rv : Vals xs its) (ok : ds.all okD = true)
    (e : its.toArray[i]? = some v) (hr : Reads h' v d bs) (k : ∀ b o, s.heap.get? b = some o → h'.get? b = some o) (q : rFin X.K M H (.fr d) Q) : EP X pins σ Q v { s with heap := h', toks := tk } := by
  have e' : its[i]? = some v := by simpa using e
  have hi : i < xs.length := by rw [rv.length]; exact (List.getElem?_eq_some_iff.mp e').1
  obtain ⟨u, e2, r2⟩ := rv.get (List.getElem?_eq_getElem hi)
  rw [e'] at e2; cases e2
  obtain ⟨x, e3, dz⟩ := h2.get' (List.getElem?_eq_getElem hi)
  have okx := okD_of (List.all_eq_true.mp ok x (List.mem_of_getElem? e3))
  obtain ⟨as, h5⟩ := Dp.reads I x _ v ((dz.mono m).dp okx.1) r2
  have e4 := PySem.SeqAt.plain_unique x d v as bs okx.1 (PySem.W.reads_keeps k h5) hr
  subst e4
  exact ⟨xs[i], H, I.kept k, r2, fin_dz m dz q⟩
theorem call_minA (hc : X.calm = true) (hu : X.A.units + 64 < cLine) : CallR X (.builtin "min") (rOpN X.K opMin) := by
  intro pins s σ H vs us Q I r ⟨M, ts, u, m, pk, e, q⟩
  unfold opMin at e
  split at e
  · unfold opMin1 at e
    obtain ⟨ds, e1, e⟩ := Option.bind_eq_some_iff.mp e
    split at e
    · next hk =>
      rw [Bool.and_eq_true] at hk
      split at e
      · next x xs =>
        cases e
        obtain ⟨v, R, rfl, rp⟩ := pk.one
        obtain ⟨a, ys, rfl, h1, h2⟩ := rp.asL_inv m e1
        obtain ⟨its, rv, pl, hz⟩ := I.list h1
        rw [Vals.ref1 r]
        obtain ⟨pa, da⟩ := all_ok hk.2
        obtain ⟨as, hr⟩ := Dp.readsAll I _ ys its ((h2.mono m).dp pa) rv
        refine PySem.W.min_list_data (I.ok.hd hc) pl.isList (by simpa using hr) (alike_of hk.1) (by omega) fun i v h' tk bs ev rd k => ?_
        refine pick (bs := bs) I m h2 rv hk.2 ev (d := xs.foldl (fun a y => if ltD y a then y else a) x) ?_ k q
        have e5 : (fun (a y : D) => if ltD y a = true then y else a) = fun a y => if PySem.W.dataLt y a = true then y else a := by funext a y; rw [ltD_eq]
        rw [e5]; exact rd
      · cases e
    · cases e
  · cases e
    obtain ⟨v, w, R, R', rfl, rp, rp'⟩ := pk.two
    obtain rfl := rp.fr_inv.1.int_inv
    obtain rfl := rp'.fr_inv.1.int_inv
    exact call_min2 hc pins s σ H _ us Q I r ⟨_, _, rfl, fin_int m q⟩
  · cases e
theorem call_maxA (hc : X.calm = true) (hu : X.A.units + 64 < cLine) : CallR X (.builtin "max") (rOpN X.K opMax) := by
  intro pins s σ H vs us Q I r ⟨M, ts, u, m, pk, e, q⟩
  unfold opMax at e
  split at e
  · unfold opMax1 at e
    obtain ⟨ds, e1, e⟩ := Option.bind_eq_some_iff.mp e
    split at e
    · next hk =>
      rw [Bool.and_eq_true] at hk
      split at e
      · next x xs =>
        cases e
        obtain ⟨v, R, rfl, rp⟩ := pk.one
        obtain ⟨a, ys, rfl, h1, h2⟩ := rp.asL_inv m e1
        obtain ⟨its, rv, pl, hz⟩ := I.list h1
        rw [Vals.ref1 r]
        obtain ⟨pa, da⟩ := all_ok hk.2
        obtain ⟨as, hr⟩ := Dp.readsAll I _ ys its ((h2.mono m).dp pa) rv
        refine PySem.W.max_list_data (I.ok.hd hc) pl.isList (by simpa using hr) (alike_of hk.1) (by omega) fun i v h' tk bs ev rd k => ?_
        refine pick (bs := bs) I m h2 rv hk.2 ev (d := xs.foldl (fun a y => if ltD a y then y else a) x) ?_ k q
        have e5 : (fun (a y : D) => if ltD a y = true then y else a) = fun a y => if PySem.W.dataLt a y = true then y else a := by funext a y; rw [ltD_eq]
        rw [e5]; exact rd
      · cases e
    · cases e
  · cases e
    obtain ⟨v, w, R, R', rfl, rp, rp'⟩ := pk.two
    obtain rfl := rp.fr_inv.1.int_inv
    obtain rfl := rp'.fr_inv.1.int_inv
    exact call_max2 hc pins s σ H _ us Q I r ⟨_, _, rfl, fin_int m q⟩
  · cases e
end
end Lv

set_option maxHeartbeats 1000000
namespace Lv
open PySem PySem.Spec PyProof.Rows L2
/-! ### displays -/
def kTup (f : Rho → Option (List T)) : Rho → Option T := fun ρ => (f ρ).bind fun ts => (allFr ts).bind fun ds => if ds.length ≤ SZ then some (.fr (.tuple ds)) else none
def kLst (f : Rho → Option (List T)) : Rho → Option T := fun ρ => (f ρ).bind fun ts => (allFr ts).bind fun ds => if ds.length ≤ SZ then some (.lst (ds.map .fr)) else none
def eTup (f : Rho → Option (Rs (List Ar))) : Rho → Option (Rs T) := fun ρ => bnd (f ρ) fun as ρ1 => (ownsA as).bind fun ts => (T.datL ts).bind fun ds => if ds.length ≤ SZ then some (.ok (.fr (.tuple ds)) ρ1) else none
def eLst (f : Rho → Option (Rs (List Ar))) : Rho → Option (Rs T) := fun ρ => bnd (f ρ) fun as ρ1 => (ownsA as).bind fun ts => if ts.length ≤ SZ then some (.ok (.lst ts) ρ1) else none
section
variable {K : PySem.W.Frag} {M H : Hp}
theorem PkL.frs : ∀ {ts : List T} {vs : List V} {ds : List D}, PkL K M H ts vs → allFr ts = some ds → DzL K M vs ds
  | _, _, _, .nil, e => by cases e; exact .nil
  | t :: ts, _, ds, .cons h q, e => by
    cases t with
    | fr d =>
      simp only [allFr] at e
      obtain ⟨ds', e1, e2⟩ := Option.map_eq_some_iff.mp e
      subst e2
      exact .cons h.fr_inv.1 (q.frs e1)
    | _ => cases e
theorem ArL.rpl {σ : L2.St} : ∀ {as : List Ar} {vs : List V} {R : Fp} {ts : List T}, ArL K M H σ as vs R → ownsA as = some ts → RpL K M H ts vs R
  | _, _, _, _, .nil, e => by cases e; exact .nil
  | _, _, _, _, .own h t d, e => by
    simp only [ownsA] at e
    obtain ⟨ts, e1, e2⟩ := Option.map_eq_some_iff.mp e
    subst e2
    exact .cons h (t.rpl e1) d
  | _, _, _, _, .bor _ _, e => by cases e
theorem RpL.freeze {t : List T} {v : List V} {R : Fp} {d : List D} (h : RpL K M H t v R) (e : T.datL t = some d) : DzL K (frz M H R) v d :=
  h.view (frz_same fun a r => (h.own a r).1) (fun a r o q => by rw [frz_in r]; exact q) e
end
section
variable {X : Cx} {W : WS} {e a b : Expr} {es : List Expr} {pos : Pos} {k : Nat}
theorem ek_tup {f : Rho → Option (List T)} (h : AK X es f) : EK X (.Tuple es k pos) (kTup f) := (pe_tup h).lv fun σ H Q ⟨M, ρ, F, t, g, e, q⟩ => by
  obtain ⟨ts, e1, e⟩ := Option.bind_eq_some_iff.mp e
  obtain ⟨ds, e2, e⟩ := Option.bind_eq_some_iff.mp e
  split at e
  · next hl =>
    cases e
    refine ⟨M, ρ, F, ts, g, e1, fun M1 H1 vs x1 r1 => ?_⟩
    have dz := r1.frs e2
    exact ⟨by rw [dz.length]; exact sz_ok hl, fun p np => fin_tup x1.le dz (k_fin x1 q) np⟩
  · cases e
theorem ek_lst {f : Rho → Option (List T)} (h : AK X es f) : EK X (.List es pos) (kLst f) := (pe_lst h).lv fun σ H Q ⟨M, ρ, F, t, g, e, q⟩ => by
  obtain ⟨ts, e1, e⟩ := Option.bind_eq_some_iff.mp e
  obtain ⟨ds, e2, e⟩ := Option.bind_eq_some_iff.mp e
  split at e
  · next hl =>
    cases e
    refine ⟨M, ρ, F, ts, g, e1, fun M1 H1 vs x1 r1 => ?_⟩
    have dz := r1.frs e2
    exact ⟨by rw [dz.length]; exact sz_ok hl, fun p np => fin_list x1.le dz (k_fin x1 q) np⟩
  · cases e
theorem ee_lst {f : Rho → Option (Rs (List Ar))} (h : AE X W es f) : EE X W (.List es pos) (eLst f) := (pe_lst h).lv fun σ H Q ⟨M, ρ, F, r, g, e, q⟩ => by
  rcases bnd_some e with ⟨as, ρ1, e1, e⟩ | ⟨c, ρ', e1, rfl⟩
  · obtain ⟨ts, e2, e⟩ := Option.bind_eq_some_iff.mp e
    split at e
    · next hl =>
      cases e
      refine ⟨M, ρ, F, _, g, e1, fun M1 H1 vs R1 F1 S1 g1 r1 d1 => ?_⟩
      have rl := r1.rpl e2
      refine ⟨by rw [rl.length]; exact sz_ok hl, fun p np => ?_⟩
      have x := Ext.new (o := .lst vs) g1.le np
      have mp : M1 p = none := Same.out g1.le np
      have nR : ¬ R1 p := fun z => by obtain ⟨_, o, eo⟩ := rl.own p z; rw [np] at eo; cases eo
      have nF : ¬ Al F1 p := fun z => by obtain ⟨_, o, eo⟩ := g1.own p z; rw [np] at eo; cases eo
      refine q M1 (upd H1 p (.lst vs)) (.ref p) (fun b => b = p ∨ R1 b) F1 (S1.trans (x.stp fun a z => ?_)) (g1.ext x) (.lst upd_same mp (rl.keep (x.kp rl.own)) nR) fun a z y => ?_
      · rcases z with (z | z) | z
        · subst z; exact .inr np
        · exact .inl (.inl z)
        · exact .inl (.inr z)
      · rcases z with z | z
        · subst z; exact nF y
        · exact d1 a z y
    · cases e
  · exact ⟨M, ρ, F, _, g, e1, q⟩
theorem ee_tup {f : Rho → Option (Rs (List Ar))} (h : AE X W es f) : EE X W (.Tuple es k pos) (eTup f) := (pe_tup h).lv fun σ H Q ⟨M, ρ, F, r, g, e, q⟩ => by
  rcases bnd_some e with ⟨as, ρ1, e1, e⟩ | ⟨c, ρ', e1, rfl⟩
  · obtain ⟨ts, e2, e⟩ := Option.bind_eq_some_iff.mp e
    obtain ⟨ds, e3, e⟩ := Option.bind_eq_some_iff.mp e
    split at e
    · next hl =>
      cases e
      refine ⟨M, ρ, F, _, g, e1, fun M1 H1 vs R1 F1 S1 g1 r1 d1 => ?_⟩
      have rl := r1.rpl e2
      have dz := rl.freeze e3
      refine ⟨by rw [dz.length]; exact sz_ok hl, fun p np => ?_⟩
      have mm : L2.Same M1 (frz M1 H1 R1) := frz_same fun a q => (rl.own a q).1
      have le1 : L2.Same (frz M1 H1 R1) H1 := frz_le g1.le
      have S2 : Stp M H (Al F) (frz M1 H1 R1) H1 (Al F1) := ⟨S1.m.trans mm, S1.h, fun a h1 h2 => by
        by_cases z : R1 a
        · exact S1.p a (.inl z)
        · rw [frz_out z] at h2; exact S1.n a h1 h2, fun a z => S1.p a (.inr z)⟩
      have g2 : Good X.K (frz M1 H1 R1) H1 σ ρ1 F1 := g1.keep ⟨mm, fun _ _ _ e => e, fun a q e => by rw [frz_out fun z => d1 a z q]; exact e⟩ le1
      have x := Ext.newM (o := .tup vs) le1 np
      exact q _ _ (.ref p) (fun _ => False) F1 (S2.trans (x.stp fun a z => z.elim False.elim .inl)) (g2.ext x) (.fr (.tup (.of upd_same) (dz.mono x.m))) fun a z => z.elim
    · cases e
  · exact ⟨M, ρ, F, _, g, e1, q⟩
/-! ### isinstance -/
def typD : D → String
  | .none => "NoneType"
  | .bool _ => "bool"
  | .int _ => "int"
  | .str _ => "str"
  | .list _ => "list"
  | .tuple _ => "tuple"
  | .dict _ => "dict"
def typT : T → Option String
  | .fr d => some (typD d)
  | .lst _ => some "list"
  | .dk _ => some "dict"
  | .obj _ _ => none
def isaB (a b : String) : Bool := a == b || (a == "bool" && b == "int")
def kIsi (n : String) (f : Rho → Option T) : Rho → Option T := fun ρ => (f ρ).bind fun t => (typT t).map fun s => .fr (.bool (isaB s n))
theorem ty_of {K : PySem.W.Frag} {M H : Hp} {t : T} {v : V} {R : Fp} {s : String} (m : L2.Same M H) (r : Rp K M H t v R) (e : typT t = some s) : TyX K H v (.type s) := by
  cases r with
  | fr h =>
    cases h with
    | non => cases e; exact .base .non
    | bl b => cases e; exact .base (.bl b)
    | int b => cases e; exact .base (.int b)
    | str b => cases e; exact .base (.str b)
    | lst h1 h2 =>
      cases e
      rcases h1 with (h | ⟨o, h⟩) | ⟨o, its, n, h, c, _⟩
      · exact .base (.lst (m _ _ h))
      · exact .base (.frz (m _ _ h))
      · exact .kList h c
    | tup h1 h2 =>
      cases e
      rcases h1 with (h | ⟨o, h⟩) | ⟨o, its, n, h, c, _⟩
      · exact .base (.tup (m _ _ h))
      · exact .fTuple (m _ _ h)
      · exact .kTuple h c
    | dk h1 h2 => cases e; exact .base (.dK (m _ _ h1))
  | lst h1 => cases e; exact .base (.lst h1)
  | dk h1 => cases e; exact .base (.dK h1)
  | obj => cases e
theorem kit_all : ∀ a ∈ ["NoneType", "bool", "int", "str", "list", "tuple", "dict"], ∀ b ∈ ["bool", "int", "str", "list", "tuple", "dict"], kitB a b = some (isaB a b) := by decide +kernel
theorem typ_mem {t : T} {s : String} (e : typT t = some s) : s ∈ ["NoneType", "bool", "int", "str", "list", "tuple", "dict"] := by
  cases t with
  | fr d => cases d <;> (cases e; simp [typD])
  | lst => cases e; simp
  | dk => cases e; simp
  | obj => cases e
theorem ek_isi {p : Pos} {n : String} {f : Rho → Option T} (hg : Gl X "isinstance") (hm : X.mg "isinstance" = none) (hc : PE X b (tC (.ty n))) (hn : n ∈ ["bool", "int", "str", "list", "tuple", "dict"]) (ha : EK X a f)
    (hs : starEach [b] X.env = (false, eval b X.env) :: starEach [] X.env := by rfl) (he : starEach [a, b] X.env = (false, eval a X.env) :: starEach [b] X.env := by rfl) (hpl : (backTo pos (starEach [b] X.env)).any (·.1) = false := by rfl) :
    EK X (.Call (.Name "isinstance" p) [a, b] [] pos) (kIsi n f) := (pe_callB call_isi hg hm (by decide +kernel) (pa_cons ha (pa_cons hc pa_nil hs) he) (by decide) (by decide) he hpl).lv fun σ H Q ⟨M, ρ, F, t, g, e, q⟩ => by
  obtain ⟨u, e1, e⟩ := Option.bind_eq_some_iff.mp e
  obtain ⟨s, e2, e⟩ := Option.map_eq_some_iff.mp e
  subst e
  refine ⟨M, ρ, F, u, g, e1, fun M1 H1 v R x1 r1 => ?_⟩
  exact ⟨v, .ty n, .type s, .type n, isaB s n, rfl, .ty n, ty_of x1.le r1 e2, kit_ty (kit_all s (typ_mem e2) n hn), fin_bl x1.le (k_fin x1 q)⟩
/-! ### slices -/
def cutL {α : Type} (xs : List α) (lo hi : Option Int) : List α := (xs.drop (HT.sIx xs.length 0 lo)).take (HT.sIx xs.length xs.length hi - HT.sIx xs.length 0 lo)
def opSl (lo hi : Option Int) : T → Option T
  | .fr (.tuple ds) => some (.fr (.tuple (cutL ds lo hi)))
  | .fr (.str z) => if z.length ≤ SZ then some (.fr (.str (cutS z lo hi))) else none
  | t => (T.asL t).map fun ds => .lst ((cutL ds lo hi).map .fr)
def kPart (f : Rho → Option T) : Rho → Option (Option Int) := fun ρ => match f ρ with
  | some (.fr (.int i)) => some (some i)
  | _ => none
def kNoPart : Rho → Option (Option Int) := fun _ => some none
def kSl (f : Rho → Option T) (lo hi : Rho → Option (Option Int)) : Rho → Option T := fun ρ => (f ρ).bind fun t => (lo ρ).bind fun l => (hi ρ).bind fun h => opSl l h t
def eSl (f : Rho → Option (Rs T)) (lo hi : Rho → Option (Option Int)) : Rho → Option (Rs T) := fun ρ => bnd (f ρ) fun t ρ1 => (lo ρ1).bind fun l => (hi ρ1).bind fun h => (opSl l h t).map fun u => .ok u ρ1
def tKP (K : PySem.W.Frag) (f : Rho → Option (Option Int)) : L2.St → Hp → (Option Int → Hp → Prop) → Prop := fun σ H Q => ∃ M ρ F o, Good K M H σ ρ F ∧ f ρ = some o ∧ ∀ M' H', Ext M H M' H' → Q o H'
abbrev KP (X : Cx) (e : Option Expr) (f : Rho → Option (Option Int)) : Prop := PO X e (tKP X.K f)
theorem kp_none : KP X none kNoPart := ⟨fun pins s σ H Q I ⟨M, ρ, F, o, g, e, q⟩ => by cases e; exact po_none.run pins s σ H Q I (q M H (.refl g.le))⟩
theorem kp_some {f : Rho → Option T} (h : EK X e f) : KP X (some e) (kPart f) := ⟨fun pins s σ H Q I ⟨M, ρ, F, o, g, e, q⟩ => (po_some h).run pins s σ H Q I (by
  unfold kPart at e
  split at e
  · next i e1 =>
    cases e
    exact ⟨M, ρ, F, _, g, e1, fun M1 H1 v R x1 r1 => ⟨i, r1.fr_inv.1.int_inv, q M1 H1 x1⟩⟩
  · cases e)⟩
def rSl (K : PySem.W.Frag) : V → Option Int → Option Int → Hp → VK → Prop := fun x lo hi H Q => ∃ M t R u, L2.Same M H ∧ Rp K M H t x R ∧ opSl lo hi t = some u ∧ rFin K M H u Q
theorem DzL.cut {K : PySem.W.Frag} {M : Hp} {xs : List V} {ds : List D} (h : DzL K M xs ds) (lo hi : Option Int) : DzL K M (cutV xs lo hi) (cutL ds lo hi) := by
  unfold cutV cutL
  rw [h.length]
  exact (h.drop _).take _
theorem sl_A : SlR X (rSl X.K) := by
  intro pins s σ H x v vl vu lo hi sl Q I rx hs pl pu ⟨M, t, R, u, m, r, e, q⟩
  unfold opSl at e
  split at e
  · cases e
    obtain ⟨a, xs, rfl, h1, h2⟩ := r.fr_inv.1.tup_inv
    refine sl_tupA pins s σ H _ v vl vu lo hi sl Q I rx hs pl pu ⟨a, xs, rfl, Same.tup m h1, fun w => ?_, fun w p np => fin_tup m (h2.cut lo hi) q np⟩
    have e2 : cutV xs lo hi = xs := by unfold cutV; rw [w.1, w.2]; simp
    have h3 := h2.cut lo hi
    rw [e2] at h3
    exact fin_dz m (.tup h1 h3) q
  · split at e
    · next hl =>
      cases e
      obtain rfl := r.fr_inv.1.str_inv
      exact sl_str pins s σ H _ v vl vu lo hi sl Q I rx hs pl pu ⟨_, rfl, sz_ok hl, fin_str m q⟩
    · cases e
  · obtain ⟨ds, e1, e2⟩ := Option.map_eq_some_iff.mp e
    subst e2
    obtain ⟨a, xs, rfl, h1, h2⟩ := r.asL_inv m e1
    exact sl_list pins s σ H _ v vl vu lo hi sl Q I rx hs pl pu ⟨a, xs, rfl, h1, fun p np => fin_list m (h2.cut lo hi) q np⟩
theorem ek_sl {f : Rho → Option T} {lo hi : Option Expr} {l h : Rho → Option (Option Int)} {p2 : Pos} (he : EK X e f) (hl : KP X lo l) (hh : KP X hi h) : EK X (.Subscript e (.Slice lo hi none p2) pos) (kSl f l h) := (pe_slice sl_A he hl hh).lv fun σ H Q ⟨M, ρ, F, t, g, e, q⟩ => by
  obtain ⟨u, e1, e⟩ := Option.bind_eq_some_iff.mp e
  obtain ⟨l', e2, e⟩ := Option.bind_eq_some_iff.mp e
  obtain ⟨h', e3, e⟩ := Option.bind_eq_some_iff.mp e
  exact ⟨M, ρ, F, u, g, e1, fun M1 H1 v R x1 r1 => ⟨M1, ρ, F, l', g.ext x1, e2, fun M2 H2 x2 => ⟨M2, ρ, F, h', g.ext (x1.trans x2), e3, fun M3 H3 x3 => ⟨M3, u, R, t, x3.le, r1.ext (x2.trans x3), e, k_fin ((x1.trans x2).trans x3) q⟩⟩⟩⟩
theorem ee_sl {f : Rho → Option (Rs T)} {lo hi : Option Expr} {l h : Rho → Option (Option Int)} {p2 : Pos} (he : EE X W e f) (hl : KP X lo l) (hh : KP X hi h) : EE X W (.Subscript e (.Slice lo hi none p2) pos) (eSl f l h) := (pe_slice sl_A he hl hh).lv fun σ H Q ⟨M, ρ, F, r, g, e, q⟩ => by
  rcases bnd_some e with ⟨u, ρ1, e1, e⟩ | ⟨c, ρ', e1, rfl⟩
  · obtain ⟨l', e2, e⟩ := Option.bind_eq_some_iff.mp e
    obtain ⟨h', e3, e⟩ := Option.bind_eq_some_iff.mp e
    obtain ⟨t, e4, e⟩ := Option.map_eq_some_iff.mp e
    subst e
    refine ⟨M, ρ, F, _, g, e1, fun M1 H1 v R F1 S1 g1 r1 d1 => ⟨M1, ρ1, F1, l', g1, e2, fun M2 H2 x2 => ⟨M2, ρ1, F1, h', g1.ext x2, e3, fun M3 H3 x3 => ⟨M3, u, R, t, x3.le, r1.ext (x2.trans x3), e4, fun M4 H4 v4 R4 x4 r4 n4 => ?_⟩⟩⟩⟩
    have x34 := (x2.trans x3).trans x4
    have g3 := g1.ext (x2.trans x3)
    refine q M4 H4 v4 R4 F1 ((S1.sub (fun _ z => z) fun a z => .inr z).trans (x34.stp fun a z => z.elim (fun z => .inr (Same.out (x2.trans x3).h (n4 a z))) .inl)) (g1.ext x34) r4 fun a z z' => ?_
    obtain ⟨_, o, eo'⟩ := g3.own a z'
    rw [n4 a z] at eo'; cases eo'
  · exact ⟨M, ρ, F, _, g, e1, q⟩
/-- xs[::-1] -/
def kRev (f : Rho → Option T) : Rho → Option T := fun ρ => (f ρ).bind fun t => (T.asL t).map fun ds => .lst (ds.reverse.map .fr)
theorem ek_rev {f : Rho → Option T} {j : Nat} {p1 p2 p3 : Pos} (he : EK X e f) : EK X (.Subscript e (.Slice none none (some (.UnaryOp .USub (.Constant (.int 1) j p1) p2)) p3) pos) (kRev f) := (pe_revL he).lv fun σ H Q ⟨M, ρ, F, t, g, e, q⟩ => by
  obtain ⟨u, e1, e⟩ := Option.bind_eq_some_iff.mp e
  obtain ⟨ds, e2, e⟩ := Option.map_eq_some_iff.mp e
  subst e
  refine ⟨M, ρ, F, u, g, e1, fun M1 H1 v R x1 r1 => ?_⟩
  obtain ⟨a, xs, rfl, h1, h2⟩ := r1.asL_inv x1.le e2
  exact ⟨a, xs, rfl, h1, fun p np => fin_list x1.le h2.reverse (k_fin x1 q) np⟩
end
end Lv

set_option maxHeartbeats 1000000
namespace Lv
open PySem PySem.Spec PyProof.Rows L2
/-! ### targets -/
def tG (K : PySem.W.Frag) (as : List Nat) (g : D → Rho → Option Rho) : TG := fun v σ H Q => ∃ M ρ F d ρ', Good K M H σ ρ F ∧ Dz K M v d ∧ g d ρ = some ρ' ∧ ∀ σ' F', Good K M H σ' ρ' F' → (∀ a, Al F' a → Al F a) → (∀ j, j ∉ as → σ'[j]? = σ[j]?) → σ'.length = σ.length → Q σ' H
def tGs (K : PySem.W.Frag) (as : List Nat) (g : List D → Rho → Option Rho) : TGs := fun vs σ H Q => ∃ M ρ F ds ρ', Good K M H σ ρ F ∧ DzL K M vs ds ∧ g ds ρ = some ρ' ∧ ∀ σ' F', Good K M H σ' ρ' F' → (∀ a, Al F' a → Al F a) → (∀ j, j ∉ as → σ'[j]? = σ[j]?) → σ'.length = σ.length → Q σ' H
abbrev EG (X : Cx) (as : List Nat) (e : Expr) (g : D → Rho → Option Rho) : Prop := PG X e (tG X.K as g)
abbrev EGs (X : Cx) (as : List Nat) (e : List Expr) (g : List D → Rho → Option Rho) : Prop := PGs X e (tGs X.K as g)
theorem _root_.L2.PG.lv {X : Cx} {e : Expr} {t t' : TG} (h : PG X e t) (i : ∀ v σ H Q, t' v σ H Q → t v σ H Q) : PG X e t' := ⟨fun pins s σ H v u Q I r w => h.run pins s σ H v u Q I r (i v σ H Q w)⟩
theorem _root_.L2.PGs.lv {X : Cx} {e : List Expr} {t t' : TGs} (h : PGs X e t) (i : ∀ v σ H Q, t' v σ H Q → t v σ H Q) : PGs X e t' := ⟨fun pins s σ H v u Q I r w => h.run pins s σ H v u Q I r (i v σ H Q w)⟩
def gN (i : Nat) : D → Rho → Option Rho := fun d ρ => if i < ρ.length then some (ρ.set i (some (.fr d))) else none
def gNl : List D → Rho → Option Rho := fun ds ρ => match ds with
  | [] => some ρ
  | _ => none
def gCs (g : D → Rho → Option Rho) (gs : List D → Rho → Option Rho) : List D → Rho → Option Rho := fun ds ρ => match ds with
  | d :: r => (g d ρ).bind fun ρ1 => gs r ρ1
  | _ => none
def gTp (n : Nat) (gs : List D → Rho → Option Rho) : D → Rho → Option Rho := fun d ρ => match d with
  | .tuple ds => if ds.length = n then gs ds ρ else none
  | _ => none
section
variable {X : Cx} {W : WS} {e : Expr} {es : List Expr} {pos : Pos} {k : Nat}
theorem eg_name {i : Nat} {x : Str} (h : PG X (.Name x pos) (gName i)) : EG X [i] (.Name x pos) (gN i) := h.lv fun v σ H Q ⟨M, ρ, F, d, ρ', g, dz, e, q⟩ => by
  unfold gN at e
  split at e
  · next hi =>
    cases e
    refine q (σ.set i (some v)) _ (g.put (by rw [← g.len]; exact hi) (.fr dz) fun a z => z.elim) (fun a ⟨j, z⟩ => ?_) (fun j hj => ?_) (by simp)
    · by_cases y : j = i
      · simp [y] at z
      · simp only [y, if_false] at z; exact ⟨j, z⟩
    · rw [List.getElem?_set_ne (fun z => hj (by simp [z]))]
  · cases e
theorem egs_nil {as : List Nat} : EGs X as [] gNl := pgs_nil.lv fun v σ H Q ⟨M, ρ, F, d, ρ', g, dz, e, q⟩ => by
  unfold gNl at e
  split at e
  · cases e
    cases dz
    exact ⟨rfl, q σ F g (fun _ z => z) (fun _ _ => rfl) rfl⟩
  · cases e
theorem egs_cons {as bs : List Nat} {g : D → Rho → Option Rho} {gs : List D → Rho → Option Rho} (h1 : EG X as e g) (h2 : EGs X bs es gs) (hs : (assignEach (e :: es) X.env).map (·.2) = assign e X.env :: (assignEach es X.env).map (·.2) := by rfl) : EGs X (as ++ bs) (e :: es) (gCs g gs) := (pgs_cons h1 h2 hs).lv fun v σ H Q ⟨M, ρ, F, d, ρ', g, dz, e, q⟩ => by
  unfold gCs at e
  split at e
  · next d r =>
    obtain ⟨ρ1, e1, e2⟩ := Option.bind_eq_some_iff.mp e
    cases dz with
    | cons h t =>
      refine ⟨_, _, rfl, M, ρ, F, d, ρ1, g, h, e1, fun σ1 F1 g1 s1 k1 l1 => ⟨M, ρ1, F1, r, ρ', g1, t, e2, fun σ2 F2 g2 s2 k2 l2 => q σ2 F2 g2 (fun a z => s1 a (s2 a z)) (fun j hj => ?_) (l2.trans l1)⟩⟩
      rw [k2 j (fun z => hj (List.mem_append_right _ z)), k1 j (fun z => hj (List.mem_append_left _ z))]
  · cases e
theorem eg_tup {as : List Nat} {gs : List D → Rho → Option Rho} {n : Nat} (hc : X.calm = true) (h : EGs X as es gs) (hn : (assignEach es X.env).length = n := by rfl) (hst : (assignEach es X.env).findIdx? (·.1) = none := by rfl) : EG X as (.Tuple es k pos) (gTp n gs) := (pg_tup hc h hn hst).lv fun v σ H Q ⟨M, ρ, F, d, ρ', g, dz, e, q⟩ => by
  unfold gTp at e
  split at e
  · next ds =>
    split at e
    · next hl =>
      obtain ⟨a, xs, rfl, h1, h2⟩ := dz.tup_inv
      exact ⟨a, xs, rfl, Same.tup g.le h1, by rw [h2.length]; exact hl, M, ρ, F, ds, ρ', g, h2, e, q⟩
    · cases e
  · cases e
/-! ### what is walked -/
def Its (K : PySem.W.Frag) (M : Hp) (J : It) (ds : List D) : Prop := ∀ M2 H2, L2.Same M M2 → L2.Same M2 H2 → ∀ i, (i < ds.length → J.go i H2) ∧ (ds.length ≤ i → J.stop i H2) ∧ ∀ x H3 d, ds[i]? = some d → J.yld i H2 x H3 → ∃ M3, Ext M2 H2 M3 H3 ∧ Dz K M3 x d
def tI (K : PySem.W.Frag) (W : WS) (f : Rho → Option (Rs (List D))) : TI := fun σ H R => ∃ M ρ F r, Good K M H σ ρ F ∧ f ρ = some r ∧ match r with
  | .ok ds ρ' => ∀ M' H' F' J, Stp M H (Al F) M' H' (Al F') → Good K M' H' σ ρ' F' → Its K M' J ds → ds.length ≤ SZ → R J H'
  | .ex c ρ' => wEx K W M H F σ c ρ'
abbrev EI (X : Cx) (W : WS) (tg e : Expr) (f : Rho → Option (Rs (List D))) : Prop := PI X tg e (tI X.K W f)
theorem _root_.L2.PI.lv {X : Cx} {tg e : Expr} {t t' : TI} (h : PI X tg e t) (i : ∀ σ H Q, t' σ H Q → t σ H Q) : PI X tg e t' := ⟨fun pins s σ H R I w => h.run pins s σ H R I (i σ H R w)⟩
variable {tg : Expr}
def iSeq (K : PySem.W.Frag) (tl : TE) : TI := fun σ H R => tl σ H fun x H1 => ∃ a xs, x = .ref a ∧ ((SqL K H1 a xs ∧ (xs.length ≤ SZ → R (Itl K a) H1)) ∨ (SqT K H1 a xs ∧ (xs.length ≤ SZ → R (Itt K a) H1)))
theorem pi_seq {l : Expr} {tl : TE} (hl : PE X l tl) : PI X tg l (iSeq X.K tl) := by
  refine ⟨fun pins s σ H R I h => ?_⟩
  refine thn (hl.run pins s σ H _ I h) fun v s1 ⟨x, H1, I1, r1, q1⟩ => ?_
  obtain ⟨a, xs, e, q⟩ := q1
  subst e
  cases r1
  rcases q with ⟨hq, q⟩ | ⟨hq, q⟩
  · obtain ⟨its, rv, p, hz⟩ := I1.list hq
    refine wpAny_pyIter_list p.isList ?_
    refine ⟨s1.heap.objs.size, [s1.heap.objs.size], _, _, H1, rfl, I1.kept (t' := s1.toks) fun b o e => Heap.get?_push_of_some _ e, turn_list a _, ⟨_, Heap.get?_push_size _ rfl, rfl, rfl⟩, fun b hb => ?_, q (by rw [sizeLine_eq] at hz; exact hz)⟩
    have e : b = s1.heap.objs.size := by simpa using hb
    subst e
    exact I1.fpOk (Nat.le_refl _) (I1.hok.fresh (Nat.le_refl _))
  · obtain ⟨its, rv, p, hz⟩ := I1.tuple hq
    refine wpAny_pyIter_tuple (show s1.heap.IsTuple a its.toArray from p) ?_
    refine ⟨s1.heap.objs.size, [s1.heap.objs.size], _, _, H1, rfl, I1.kept (t' := s1.toks) fun b o e => Heap.get?_push_of_some _ e, turn_tuple a _, ⟨_, Heap.get?_push_size _ rfl, rfl, rfl⟩, fun b hb => ?_, q (by rw [sizeLine_eq] at hz; exact hz)⟩
    have e : b = s1.heap.objs.size := by simpa using hb
    subst e
    exact I1.fpOk (Nat.le_refl _) (I1.hok.fresh (Nat.le_refl _))
theorem its_list {K : PySem.W.Frag} {M : Hp} {a : Addr} {xs : List V} {ds : List D} (h : SqL K M a xs) (dz : DzL K M xs ds) : Its K M (Itl K a) ds := fun M2 H2 m le i => by
  have h2 : SqL K H2 a xs := (m.trans le).seq h
  refine ⟨fun hi => ?_, fun hi => ⟨xs, h2, by rw [dz.length]; exact hi⟩, fun x H3 d e y => ?_⟩
  · obtain ⟨v, e, _⟩ := dz.get (List.getElem?_eq_getElem hi)
    exact ⟨xs, v, h2, e⟩
  · obtain ⟨rfl, y⟩ := y
    obtain ⟨v, e2, z⟩ := dz.get e
    have := y xs h2
    rw [e2] at this; cases this
    exact ⟨M2, .refl le, z.mono m⟩
theorem its_tup {K : PySem.W.Frag} {M : Hp} {a : Addr} {xs : List V} {ds : List D} (h : SqT K M a xs) (dz : DzL K M xs ds) : Its K M (Itt K a) ds := fun M2 H2 m le i => by
  have h2 : SqT K H2 a xs := Same.tup (m.trans le) h
  refine ⟨fun hi => ?_, fun hi => ⟨xs, h2, by rw [dz.length]; exact hi⟩, fun x H3 d e y => ?_⟩
  · obtain ⟨v, e, _⟩ := dz.get (List.getElem?_eq_getElem hi)
    exact ⟨xs, v, h2, e⟩
  · obtain ⟨rfl, y⟩ := y
    obtain ⟨v, e2, z⟩ := dz.get e
    have := y xs h2
    rw [e2] at this; cases this
    exact ⟨M2, .refl le, z.mono m⟩
def itemsD : D → Option (List D)
  | .list ds => some ds
  | .tuple ds => some ds
  | _ => none
/-- over a list or a tuple (what is new is frozen) -/
def iIt (f : Rho → Option (Rs T)) : Rho → Option (Rs (List D)) := fun ρ => bnd (f ρ) fun t ρ1 => (T.dat t).bind fun d => (itemsD d).map fun ds => .ok ds ρ1
theorem ei_seq {f : Rho → Option (Rs T)} (h : EE X W e f) : EI X W tg e (iIt f) := (pi_seq h).lv fun σ H Q ⟨M, ρ, F, r, g, e, q⟩ => by
  rcases bnd_some e with ⟨t, ρ1, e1, e⟩ | ⟨c, ρ', e1, rfl⟩
  · obtain ⟨d, e2, e⟩ := Option.bind_eq_some_iff.mp e
    obtain ⟨ds, e3, e⟩ := Option.map_eq_some_iff.mp e
    subst e
    refine ⟨M, ρ, F, _, g, e1, fun M1 H1 v R1 F1 S1 g1 r1 d1 => ?_⟩
    obtain ⟨S2, le2, kp⟩ := S1.frz r1 d1 g1.le
    have dz := r1.freeze e2
    have g2 := g1.keep kp le2
    unfold itemsD at e3
    split at e3
    · cases e3
      obtain ⟨a, xs, rfl, h1, h2⟩ := dz.list_inv
      exact ⟨a, xs, rfl, .inl ⟨le2.seq h1, fun hl => q _ H1 F1 _ S2 g2 (its_list h1 h2) (by rw [← h2.length]; exact hl)⟩⟩
    · cases e3
      obtain ⟨a, xs, rfl, h1, h2⟩ := dz.tup_inv
      exact ⟨a, xs, rfl, .inr ⟨Same.tup le2 h1, fun hl => q _ H1 F1 _ S2 g2 (its_tup h1 h2) (by rw [← h2.length]; exact hl)⟩⟩
    · cases e3
  · exact ⟨M, ρ, F, _, g, e1, q⟩
/-! range -/
def rngD (lo : Int) (n : Nat) : List D := (List.range n).map fun i => .int (lo + (i : Nat))
def iRange1 (f : Rho → Option (Rs (List Ar))) : Rho → Option (Rs (List D)) := fun ρ => bnd (f ρ) fun as ρ1 => match as with
  | [.own (.fr (.int j))] => if j ≤ 16777216 ∧ -16777216 ≤ j then some (.ok (rngD 0 j.toNat) ρ1) else none
  | _ => none
def iRange2 (f : Rho → Option (Rs (List Ar))) : Rho → Option (Rs (List D)) := fun ρ => bnd (f ρ) fun as ρ1 => match as with
  | [.own (.fr (.int i)), .own (.fr (.int j))] => if -4000000000000000000 ≤ i ∧ i ≤ 4000000000000000000 ∧ -4000000000000000000 ≤ j ∧ j ≤ 4000000000000000000 ∧ j - i ≤ 16777216 then some (.ok (rngD i (j - i).toNat) ρ1) else none
  | _ => none
theorem its_range {K : PySem.W.Frag} {M : Hp} {lo : Int} {n : Nat} : Its K M (Itr lo n) (rngD lo n) := fun M2 H2 m le i => by
  have hl : (rngD lo n).length = n := by simp [rngD]
  refine ⟨fun hi => by rw [hl] at hi; exact hi, fun hi => by rw [hl] at hi; exact hi, fun x H3 d e y => ?_⟩
  obtain ⟨rfl, rfl⟩ := y
  refine ⟨M2, .refl le, ?_⟩
  unfold rngD at e
  rw [List.getElem?_map] at e
  obtain ⟨j, e1, e2⟩ := Option.map_eq_some_iff.mp e
  rw [List.getElem?_range] at e1
  · cases e1; subst e2; exact .int _
  · have := (List.getElem?_eq_some_iff.mp e1).1
    simpa using this
theorem ArL.own1 {K : PySem.W.Frag} {M H : Hp} {σ : L2.St} {t : T} {vs : List V} {R : Fp} (h : ArL K M H σ [.own t] vs R) : ∃ v R', vs = [v] ∧ Rp K M H t v R' := by
  cases h with | own h t => cases t; exact ⟨_, _, rfl, h⟩
theorem ArL.own2 {K : PySem.W.Frag} {M H : Hp} {σ : L2.St} {t u : T} {vs : List V} {R : Fp} (h : ArL K M H σ [.own t, .own u] vs R) : ∃ v w R' R2, vs = [v, w] ∧ Rp K M H t v R' ∧ Rp K M H u w R2 := by
  cases h with | own h t => cases t with | own h2 t => cases t; exact ⟨_, _, _, _, rfl, h, h2⟩
theorem ei_range1 {a : Expr} {f : Rho → Option (Rs (List Ar))} {p : Pos} (hg : Gl X "range") (hm : X.mg "range" = none) (ha : AE X W [a] f) (hs : starEach [a] X.env = [(false, eval a X.env)] := by rfl) : EI X W tg (.Call (.Name "range" p) [a] [] pos) (iRange1 f) := (pi_range1 hg hm ha hs).lv fun σ H Q ⟨M, ρ, F, r, g, e, q⟩ => by
  rcases bnd_some e with ⟨as, ρ1, e1, e⟩ | ⟨c, ρ', e1, rfl⟩
  · split at e
    · next j =>
      split at e
      · next hj =>
        cases e
        refine ⟨M, ρ, F, _, g, e1, fun M1 H1 vs R1 F1 S1 g1 r1 d1 => ?_⟩
        obtain ⟨v, R', rfl, rp⟩ := r1.own1
        obtain rfl := rp.fr_inv.1.int_inv
        exact ⟨j, rfl, by omega, by omega, q M1 H1 F1 _ (S1.sub (fun _ z => z) fun a z => .inr z) g1 its_range (by simp [rngD]; omega)⟩
      · cases e
    · cases e
  · exact ⟨M, ρ, F, _, g, e1, q⟩
theorem ei_range2 {a b : Expr} {f : Rho → Option (Rs (List Ar))} {p : Pos} (hg : Gl X "range") (hm : X.mg "range" = none) (ha : AE X W [a, b] f) (hs : starEach [a, b] X.env = [(false, eval a X.env), (false, eval b X.env)] := by rfl) (hs2 : starEach [b] X.env = [(false, eval b X.env)] := by rfl) :
    EI X W tg (.Call (.Name "range" p) [a, b] [] pos) (iRange2 f) := (pi_range2 hg hm ha hs hs2).lv fun σ H Q ⟨M, ρ, F, r, g, e, q⟩ => by
  rcases bnd_some e with ⟨as, ρ1, e1, e⟩ | ⟨c, ρ', e1, rfl⟩
  · split at e
    · next i j =>
      split at e
      · next hj =>
        cases e
        refine ⟨M, ρ, F, _, g, e1, fun M1 H1 vs R1 F1 S1 g1 r1 d1 => ?_⟩
        obtain ⟨v, w, R', R2, rfl, rp, rp2⟩ := r1.own2
        obtain rfl := rp.fr_inv.1.int_inv
        obtain rfl := rp2.fr_inv.1.int_inv
        exact ⟨i, j, rfl, ⟨by omega, by omega, by omega, by omega⟩, q M1 H1 F1 _ (S1.sub (fun _ z => z) fun a z => .inr z) g1 its_range (by simp [rngD]; omega)⟩
      · cases e
    · cases e
  · exact ⟨M, ρ, F, _, g, e1, q⟩
/-! ### comprehensions -/
def wipeR (ρ : Rho) : List Nat → Rho
  | [] => ρ
  | v :: vs => (wipeR ρ vs).set v none
/-- the block's own slots as they were ahead, if frozen -/
def backR (ρ0 ρ : Rho) : List Nat → Rho
  | [] => ρ
  | v :: vs => (backR ρ0 ρ vs).set v (match ρ0[v]? with
    | some (some (.fr d)) => some (.fr d)
    | _ => none)
def cLoop (own : List Nat) (g : D → Rho → Option Rho) (fc : Rho → Option (Rs Bool)) (fe : Rho → Option (Rs T)) : List D → Rho → Option (List T × Rho)
  | [], ρ => some ([], ρ)
  | d :: ds, ρ => match g d ρ with
    | some ρ1 => (match fc ρ1 with
      | some (.ok true ρ2) => (match fe ρ2 with
        | some (.ok t ρ3) => (match cLoop own g fc fe ds (wipeR ρ3 own) with
          | some (ts, ρ4) => some (t :: ts, ρ4)
          | none => none)
        | _ => none)
      | some (.ok false ρ2) => cLoop own g fc fe ds (wipeR ρ2 own)
      | _ => none)
    | none => none
def eLc (own : List Nat) (fi : Rho → Option (Rs (List D))) (g : D → Rho → Option Rho) (fc : Rho → Option (Rs Bool)) (fe : Rho → Option (Rs T)) : Rho → Option (Rs T) := fun ρ => bnd (fi ρ) fun ds ρ1 => (cLoop own g fc fe ds (wipeR ρ1 own)).map fun q => .ok (.lst q.1) (backR ρ1 q.2 own)
end
section
variable {K : PySem.W.Frag} {M H : Hp} {σ : L2.St} {ρ : Rho} {F : Nat → Fp}
theorem Good.forget (g : Good K M H σ ρ F) (i : Nat) : ∃ F', Good K M H (σ.set i none) (ρ.set i none) F' ∧ ∀ a, Al F' a → Al F a := by
  refine ⟨fun j a => j ≠ i ∧ F j a, ⟨g.le, by simpa using g.len, fun j t e => ?_, (g.drop i).em, (g.drop i).dj⟩, fun a ⟨j, _, z⟩ => ⟨j, z⟩⟩
  by_cases z : j = i
  · subst z
    rw [List.getElem?_set] at e
    split at e
    · split at e <;> simp at e
    · simp at *
  · obtain ⟨v, h1, r⟩ := (g.drop i).sl j t e
    exact ⟨v, by rw [List.getElem?_set_ne (Ne.symm z)]; exact h1, r⟩
theorem Good.wipe (g : Good K M H σ ρ F) : ∀ vs : List Nat, ∃ F', Good K M H (L2.wipe σ vs) (wipeR ρ vs) F' ∧ ∀ a, Al F' a → Al F a
  | [] => ⟨F, g, fun _ z => z⟩
  | v :: vs => by
    obtain ⟨F1, g1, s1⟩ := g.wipe vs
    obtain ⟨F2, g2, s2⟩ := g1.forget v
    exact ⟨F2, g2, fun a z => s1 a (s2 a z)⟩
theorem wipe_get {vs : List Nat} {j : Nat} (h : j ∉ vs) : (L2.wipe σ vs)[j]? = σ[j]? := by
  induction vs with
  | nil => rfl
  | cons v vs ih =>
    simp only [List.mem_cons, not_or] at h
    show ((L2.wipe σ vs).set v none)[j]? = _
    rw [List.getElem?_set_ne (Ne.symm h.1), ih h.2]
theorem backR_get {ρ0 : Rho} {vs : List Nat} {j : Nat} (h : j ∉ vs) : (backR ρ0 ρ vs)[j]? = ρ[j]? := by
  induction vs with
  | nil => rfl
  | cons v vs ih =>
    simp only [List.mem_cons, not_or] at h
    show ((backR ρ0 ρ vs).set v _)[j]? = _
    rw [List.getElem?_set_ne (Ne.symm h.1), ih h.2]
theorem backR_len {ρ0 : Rho} : ∀ vs : List Nat, (backR ρ0 ρ vs).length = ρ.length
  | [] => rfl
  | v :: vs => by show ((backR ρ0 ρ vs).set v _).length = _; rw [List.length_set, backR_len vs]
theorem backR_own {ρ0 : Rho} {vs : List Nat} {j : Nat} {t : T} (h : j ∈ vs) (e : (backR ρ0 ρ vs)[j]? = some (some t)) : ∃ d, t = .fr d ∧ ρ0[j]? = some (some (.fr d)) := by
  induction vs with
  | nil => cases h
  | cons v vs ih =>
    have e' : ((backR ρ0 ρ vs).set v (match ρ0[v]? with | some (some (.fr d)) => some (.fr d) | _ => none))[j]? = some (some t) := e
    by_cases z : v = j
    · subst z
      rw [List.getElem?_set] at e'
      simp only [if_true] at e'
      split at e'
      · split at e'
        · next d hd => cases e'; exact ⟨d, rfl, hd⟩
        · cases e'
      · cases e'
    · rw [List.getElem?_set_ne z] at e'
      exact ih ((List.mem_cons.mp h).resolve_left (Ne.symm z)) e'
end
end Lv

set_option maxHeartbeats 2000000
namespace Lv
open PySem PySem.Spec PyProof.Rows L2
section
variable {K : PySem.W.Frag} {M M' H H' M1 H1 : Hp} {σ : L2.St} {ρ : Rho} {F : Nat → Fp} {P P' P1 R : Fp}
theorem wipe_own {vs : List Nat} {j : Nat} (h : j ∈ vs) : (L2.wipe σ vs)[j]? = if j < σ.length then some none else none := by
  induction vs with
  | nil => cases h
  | cons v vs ih =>
    show ((L2.wipe σ vs).set v none)[j]? = _
    have hl := wipe_length σ vs
    by_cases z : v = j
    · subst z
      rw [List.getElem?_set]
      simp [hl]
    · rw [List.getElem?_set_ne z]
      exact ih ((List.mem_cons.mp h).resolve_left (Ne.symm z))
theorem wipe_congr {σ2 : L2.St} {vs : List Nat} (hl : σ2.length = σ.length) (h : ∀ j, j ∉ vs → σ2[j]? = (L2.wipe σ vs)[j]?) : L2.wipe σ2 vs = L2.wipe σ vs := by
  apply List.ext_getElem?
  intro j
  by_cases z : j ∈ vs
  · rw [wipe_own z, wipe_own z, hl]
  · rw [wipe_get z]; exact h j z
theorem RpL.snoc {t : T} {v : V} {R2 : Fp} : ∀ {ts : List T} {vs : List V} {R : Fp}, RpL K M H ts vs R → Rp K M H t v R2 → (∀ a, R a → ¬ R2 a) → ∃ R3, RpL K M H (ts ++ [t]) (vs ++ [v]) R3 ∧ ∀ a, R3 a ↔ R a ∨ R2 a
  | _, _, _, .nil, r, _ => ⟨_, .cons r .nil (fun _ _ => id), fun a => by simp⟩
  | _, _, _, .cons h t d, r, dj => by
    obtain ⟨R3, h3, e⟩ := RpL.snoc t r fun a z => dj a (.inr z)
    refine ⟨_, .cons h h3 fun a z y => ((e a).mp y).elim (d a z) (dj a (.inl z)), fun a => ?_⟩
    rw [e a]
    exact ⟨fun z => z.elim (fun z => .inl (.inl z)) (fun z => z.elim (fun z => .inl (.inr z)) .inr), fun z => z.elim (fun z => z.elim .inl (fun z => .inr (.inl z))) fun z => .inr (.inr z)⟩
theorem Rp.lst_inv {ts : List T} {v : V} (h : Rp K M H (.lst ts) v R) : ∃ a vs R', v = .ref a ∧ H a = some (.lst vs) ∧ M a = none ∧ RpL K M H ts vs R' ∧ ¬ R' a ∧ ∀ b, R b ↔ b = a ∨ R' b := by
  cases h with | lst h1 h2 h3 h4 => exact ⟨_, _, _, rfl, h1, h2, h3, h4, fun _ => Iff.rfl⟩
theorem ds_drop {α : Type} {ds : List α} {i : Nat} (h : i < ds.length) : ds.drop i = ds[i] :: ds.drop (i + 1) := List.drop_eq_getElem_cons h
/-- a list of one's own grows -/
theorem list_grow {a : Addr} {ts : List T} {vs : List V} {t : T} {v : V} {R R2 : Fp} {σ : L2.St} (g : Good K M H σ ρ F) (ha : H a = some (.lst vs)) (ma : M a = none) (rl : RpL K M H ts vs R) (na : ¬ R a) (rt : Rp K M H t v R2) (n2 : ¬ R2 a) (d12 : ∀ b, R b → ¬ R2 b) (nF : ¬ Al F a) :
    ∃ R3, Good K M (upd H a (.lst (vs ++ [v]))) σ ρ F ∧ Rp K M (upd H a (.lst (vs ++ [v]))) (.lst (ts ++ [t])) (.ref a) R3 ∧ (∀ b, R3 b ↔ (b = a ∨ R b) ∨ R2 b) ∧ Stp M H (fun b => b = a) M (upd H a (.lst (vs ++ [v]))) (fun b => b = a) := by
  have keepH : ∀ b o, b ≠ a → H b = some o → upd H a (.lst (vs ++ [v])) b = some o := fun b o n e => by rw [upd_ne n]; exact e
  have le : L2.Same M (upd H a (.lst (vs ++ [v]))) := fun b o e => keepH b o (fun z => by subst z; rw [ma] at e; cases e) (g.le b o e)
  have kp : ∀ {R : Fp}, ¬ R a → Kp M M H (upd H a (.lst (vs ++ [v]))) R := fun {R} n => ⟨L2.Same.refl _, fun b r o e => keepH b o (fun z => n (z ▸ r)) e, fun _ _ e => e⟩
  obtain ⟨R3, h3, e3⟩ := (rl.keep (kp na)).snoc (rt.keep (kp n2)) d12
  refine ⟨_, g.keep (kp nF) le, .lst upd_same ma h3 (fun z => ((e3 a).mp z).elim na n2), fun b => ?_, ⟨L2.Same.refl _, fun b o e n => keepH b o n e, fun b h1 h2 => absurd h1 h2, fun b z => .inl z⟩⟩
  show b = a ∨ R3 b ↔ _
  rw [e3 b]
  exact ⟨fun z => z.elim (fun z => .inl (.inl z)) (fun z => z.elim (fun z => .inl (.inr z)) .inr), fun z => z.elim (fun z => z.elim .inl fun z => .inr (.inl z)) fun z => .inr (.inr z)⟩
abbrev W0 : WS := fun _ _ _ => False
/-- the comprehension's reading -/
theorem te_lc {W : WS} {own as : List Nat} {fi : Rho → Option (Rs (List D))} {gt : D → Rho → Option Rho} {fc : Rho → Option (Rs Bool)} {fe : Rho → Option (Rs T)} (has : ∀ j ∈ as, j ∈ own) (σ : L2.St) (H : Hp) (Q : VK)
    (h : tE K W (eLc own fi gt fc fe) σ H Q) : tLc (tI K W fi) (tG K as gt) (tT K W0 fc) (tE K W0 fe) own σ H Q := by
  obtain ⟨M, ρ, F, r, g, e, q⟩ := h
  rcases bnd_some e with ⟨ds, ρ1, e1, e⟩ | ⟨c, ρ', e1, rfl⟩
  · obtain ⟨⟨tsF, ρe⟩, e2, e⟩ := Option.map_eq_some_iff.mp e
    subst e
    refine ⟨M, ρ, F, _, g, e1, fun M1 H1 F1 J S1 g1 its hl => ?_⟩
    intro D nD
    refine ⟨fun i m H => m + i = ds.length ∧ ∃ Mi ρi Fi ts RD rest, Good K Mi H (L2.wipe σ own) ρi Fi ∧ cLoop own gt fc fe (ds.drop i) ρi = some (rest, ρe) ∧ Rp K Mi H (.lst ts) (.ref D) RD ∧ (∀ a, RD a → ¬ Al Fi a) ∧ tsF = ts ++ rest ∧ ts.length ≤ i ∧
      Stp M1 H1 (Al F1) Mi H (fun a => RD a ∨ Al Fi a), ?_, ?_⟩
    · obtain ⟨F2, g2, s2⟩ := g1.wipe own
      have x := Ext.new (o := .lst []) g1.le nD
      have mD : M1 D = none := Same.out g1.le nD
      refine ⟨ds.length, rfl, M1, _, F2, [], _, tsF, g2.ext x, by simpa using e2, .lst upd_same mD .nil id, fun a z y => ?_, rfl, Nat.zero_le _, x.stp fun a z => ?_⟩
      · rcases z with z | z
        · subst z
          obtain ⟨_, o, eo⟩ := g1.own _ (s2 _ y)
          rw [nD] at eo; cases eo
        · exact z.elim
      · rcases z with (z | z) | z
        · subst z; exact .inr nD
        · exact z.elim
        · exact .inl (s2 a z)
    · rintro i m H ⟨hm, Mi, ρi, Fi, ts, RD, rest, gi, ei, rp, dj, et, hts, Si⟩
      have itsi := its Mi H Si.m gi.le i
      by_cases hi : i < ds.length
      · refine .inr ⟨itsi.1 hi, fun H' => m ≠ 0 ∧ ∃ m', m' + (i + 1) = ds.length ∧ ∃ Mi ρi Fi ts RD rest, Good K Mi H' (L2.wipe σ own) ρi Fi ∧ cLoop own gt fc fe (ds.drop (i + 1)) ρi = some (rest, ρe) ∧ Rp K Mi H' (.lst ts) (.ref D) RD ∧ (∀ a, RD a → ¬ Al Fi a) ∧ tsF = ts ++ rest ∧ ts.length ≤ i + 1 ∧
          Stp M1 H1 (Al F1) Mi H' (fun a => RD a ∨ Al Fi a), fun H' ⟨_, m', h1, h2⟩ => ⟨m', by omega, h1, h2⟩, fun x H' y => ?_⟩
        have hm0 : m ≠ 0 := by omega
        obtain ⟨M3, x3, dz⟩ := itsi.2.2 x H' ds[i] (List.getElem?_eq_getElem hi) y
        rw [ds_drop hi] at ei
        simp only [cLoop] at ei
        split at ei
        · next ρ' eg =>
          refine ⟨M3, ρi, Fi, ds[i], ρ', gi.ext x3, dz, eg, fun σ2 F2 g2 sub ks kl => ?_⟩
          have hlen : σ2.length = σ.length := kl.trans (wipe_length σ own)
          have hw : L2.wipe σ2 own = L2.wipe σ own := wipe_congr hlen fun j hj => ks j fun z => hj (has j z)
          refine ⟨hw, ?_⟩
          have rp3 := rp.ext x3
          have S3 : Stp M1 H1 (Al F1) M3 H' (fun a => RD a ∨ Al Fi a) := Si.trans (x3.stp fun a z => .inl z)
          have dj2 : ∀ a, RD a → ¬ Al F2 a := fun a z y => dj a z (sub a y)
          split at ei
          · next ρ2 ec =>
            refine ⟨M3, ρ', F2, _, g2, ec, fun M4 H4 F4 S4 g4 => ?_⟩
            refine iteT ?_
            have rp4 := rp3.apart S4 dj2
            have own3 := rp3.own
            have dj4 : ∀ a, RD a → ¬ Al F4 a := fun a z y => by
              rcases S4.p a y with w | w
              · exact dj2 a z w
              · obtain ⟨_, o, eo⟩ := own3 a z
                rw [w] at eo; cases eo
            have S4' : Stp M1 H1 (Al F1) M4 H4 (fun a => RD a ∨ Al F4 a) := (S3.sub (fun _ z => z) fun a (z : RD a ∨ Al F2 a) => z.imp_right (sub a)).trans ⟨S4.m, fun a o e n => S4.h a o e fun z => n (.inr z), fun a h1 h2 => (S4.n a h1 h2).imp_left .inr, fun a z => z.elim (fun z => .inl (.inl z)) fun z => (S4.p a z).imp_left .inr⟩
            split at ei
            · next t ρ3 ee =>
              split at ei
              · next ts' ρ4 el =>
                cases ei
                refine ⟨M4, ρ2, F4, _, g4, ee, fun M5 H5 v5 R5 F5 S5 g5 r5 d5 => ?_⟩
                have own4 := rp4.own
                have rp5 := rp4.apart S5 dj4
                have new5 : ∀ a, (R5 a ∨ Al F5 a) → ¬ RD a := fun a z y => by
                  rcases S5.p a z with w | w
                  · exact dj4 a y w
                  · obtain ⟨_, o, eo⟩ := own4 a y
                    rw [w] at eo; cases eo
                obtain ⟨a, vs, R', ea, h1, h2, h3, h4, h5⟩ := rp5.lst_inv
                cases ea
                have hvl := h3.length
                refine ⟨vs, h1, by rw [hvl]; exact Nat.lt_of_lt_of_le (Nat.lt_of_le_of_lt hts hi) (sz_ok hl), hm0, m - 1, by omega, ?_⟩
                obtain ⟨F6, g6, s6⟩ := g5.wipe own
                rw [hw] at g6
                have nF6 : ∀ b, RD b → ¬ Al F6 b := fun b z y => new5 b (.inr (s6 b y)) z
                obtain ⟨R3, g7, rp7, e7, S7⟩ := list_grow g6 h1 h2 h3 h4 r5 (fun z => new5 _ (.inl z) ((h5 _).mpr (.inl rfl))) (fun b z y => new5 b (.inl y) ((h5 b).mpr (.inr z))) (nF6 _ ((h5 _).mpr (.inl rfl)))
                refine ⟨M5, _, F6, ts ++ [t], R3, ts', g7, el, rp7, fun b z y => ?_, by rw [et]; simp, by simpa using hts, ?_⟩
                · rcases (e7 b).mp z with z | z
                  · exact nF6 b ((h5 b).mpr z) y
                  · exact d5 b z (s6 b y)
                · have S5' : Stp M1 H1 (Al F1) M5 H5 (fun a => (RD a ∨ R5 a) ∨ Al F6 a) := S4'.trans ⟨S5.m, fun a o e n => S5.h a o e fun z => n (.inr z), fun a h1 h2 => (S5.n a h1 h2).imp_left .inr, fun a z => by
                    rcases z with (z | z) | z
                    · exact .inl (.inl z)
                    · exact (S5.p a (.inl z)).imp_left .inr
                    · exact (S5.p a (.inr (s6 a z))).imp_left .inr⟩
                  refine S5'.trans ⟨S7.m, fun a o e n => S7.h a o e fun z => n (.inl (.inl (by rw [z]; exact (h5 _).mpr (.inl rfl)))), fun a h1 h2 => absurd h1 h2, fun a z => ?_⟩
                  rcases z with z | z
                  · rcases (e7 a).mp z with z | z
                    · exact .inl (.inl (.inl ((h5 a).mpr z)))
                    · exact .inl (.inl (.inr z))
                  · exact .inl (.inr z)
              · cases ei
            · cases ei
          · next ρ2 ec =>
            refine ⟨M3, ρ', F2, _, g2, ec, fun M4 H4 F4 S4 g4 => ?_⟩
            refine iteF ?_
            have rp4 := rp3.apart S4 dj2
            have own3 := rp3.own
            have dj4 : ∀ a, RD a → ¬ Al F4 a := fun a z y => by
              rcases S4.p a y with w | w
              · exact dj2 a z w
              · obtain ⟨_, o, eo⟩ := own3 a z
                rw [w] at eo; cases eo
            obtain ⟨F6, g6, s6⟩ := g4.wipe own
            rw [hw] at g6
            refine ⟨hm0, m - 1, by omega, M4, _, F6, ts, RD, rest, g6, ei, rp4, fun a z y => dj4 a z (s6 a y), et, by omega, ?_⟩
            exact (S3.sub (fun _ z => z) fun a (z : RD a ∨ Al F2 a) => z.imp_right (sub a)).trans ⟨S4.m, fun a o e n => S4.h a o e fun z => n (.inr z), fun a h1 h2 => (S4.n a h1 h2).imp_left .inr, fun a z => z.elim (fun z => .inl (.inl z)) fun z => (S4.p a (s6 a z)).imp_left .inr⟩
          · cases ei
        · cases ei
      · refine .inl ⟨itsi.2.1 (by omega), ?_⟩
        rw [List.drop_eq_nil_of_le (by omega)] at ei
        cases ei
        rw [List.append_nil] at et
        subst et
        refine q Mi H (.ref D) RD (fun j a => if j ∈ own then False else Fi j a) ((S1.trans Si).sub (fun _ z => z) fun a z => ?_) ?_ rp fun a z ⟨j, y⟩ => ?_
        · rcases z with z | ⟨j, z⟩
          · exact .inl z
          · by_cases y : j ∈ own
            · simp [y] at z
            · simp only [y, if_false] at z; exact .inr ⟨j, z⟩
        · refine ⟨gi.le, by rw [backR_len, gi.len, wipe_length], fun j t e => ?_, fun j h a z => ?_, fun j k a y z => ?_⟩
          · by_cases y : j ∈ own
            · obtain ⟨d, rfl, e3⟩ := backR_own y e
              obtain ⟨v, h1, h2⟩ := g1.sl j _ e3
              refine ⟨v, h1, ?_⟩
              simp only [y, if_true]
              exact .fr (h2.fr_inv.1.mono Si.m)
            · rw [backR_get y] at e
              obtain ⟨v, h1, h2⟩ := gi.sl j t e
              rw [wipe_get y] at h1
              refine ⟨v, h1, ?_⟩
              simp only [y, if_false]
              exact h2
          · by_cases y : j ∈ own
            · simp [y] at z
            · simp only [y, if_false] at z
              exact gi.em j (fun t e => h t (by rw [backR_get y]; exact e)) a z
          · by_cases y1 : j ∈ own
            · simp [y1] at y
            · by_cases y2 : k ∈ own
              · simp [y2] at z
              · simp only [y1, y2, if_false] at y z
                exact gi.dj j k a y z
        · by_cases y2 : j ∈ own
          · simp [y2] at y
          · simp only [y2, if_false] at y
            exact dj a z ⟨j, y⟩
  · exact ⟨M, ρ, F, _, g, e1, q⟩
end
end Lv

set_option maxHeartbeats 2000000
namespace Lv
open PySem PySem.Spec PyProof.Rows L2
section
variable {X : Cx} {W : WS} {e a b : Expr} {es : List Expr} {pos : Pos}
def tYesF : Rho → Option (Rs Bool) := fun ρ => some (.ok true ρ)
abbrev ETs (X : Cx) (W : WS) (e : List Expr) (f : Rho → Option (Rs Bool)) : Prop := PTs X e (tT X.K W f)
theorem ets_nil : ETs X W [] tYesF := ⟨fun pins s σ H Q I h => pts_nil.run pins s σ H Q I (tt_pure h)⟩
theorem ets_one {f : Rho → Option (Rs Bool)} (h : ET X W e f) : ETs X W [e] f := pts_one h
theorem ee_lc {elt tg iter : Expr} {ifs : List Expr} {scope : Scope} {own : List (Str × Nat)} {as : List Nat} {fi : Rho → Option (Rs (List D))} {g : D → Rho → Option Rho} {fc : Rho → Option (Rs Bool)} {fe : Rho → Option (Rs T)} (has : ∀ j ∈ as, j ∈ own.map (·.2)) (hc : X.calm = true) (hN : X.N.Nodup) (hi : EI X W tg iter fi) (ok : blkC X.N X.env.scope scope own = true)
    (hg : ∀ (s : Shared) (H : Hp) (C : Addr) (cl : List (Str × Addr)) (fp : List Addr), EG (X.blk s H scope (compEnvC scope cl C X.env) fp) as tg g) (ht : ∀ (s : Shared) (H : Hp) (C : Addr) (cl : List (Str × Addr)) (fp : List Addr), ETs (X.blk s H scope (compEnvC scope cl C X.env) fp) W0 ifs fc)
    (he : ∀ (s : Shared) (H : Hp) (C : Addr) (cl : List (Str × Addr)) (fp : List Addr), EE (X.blk s H scope (compEnvC scope cl C X.env) fp) W0 elt fe) (hs : ∀ x, foldedSetIterable iter X.env x = pure x := by intro _; rfl) :
    EE X W (.ListComp elt [⟨tg, iter, ifs, 0⟩] scope pos) (eLc (own.map (·.2)) fi g fc fe) := (pe_lc hc hN hi (blkOk_by ok) hg ht he hs).lv fun σ H Q h => te_lc has σ H Q h
end
/-! ### statements -/
inductive Out where
  | nx (ρ : Rho)
  | rt (t : T) (ρ : Rho)
  | bk (ρ : Rho)
  | ct (ρ : Rho)
  | ex (c : Str) (ρ : Rho)
def Pin (pin : List Nat) (σ σ' : L2.St) : Prop := ∀ i ∈ pin, σ'[i]? = σ[i]?
theorem Pin.refl {pin : List Nat} {σ : L2.St} : Pin pin σ σ := fun _ _ => rfl
theorem Pin.trans {pin : List Nat} {σ σ1 σ2 : L2.St} (a : Pin pin σ σ1) (b : Pin pin σ1 σ2) : Pin pin σ σ2 := fun i h => (b i h).trans (a i h)
def wN (K : PySem.W.Frag) (pin : List Nat) (M H : Hp) (P : Fp) (σ : L2.St) (ρ' : Rho) (C : L2.St → Hp → Prop) : Prop := ∀ M' H' σ' F', Stp M H P M' H' (Al F') → Good K M' H' σ' ρ' F' → Pin pin σ σ' → C σ' H'
def wO (K : PySem.W.Frag) (W : WS) (pin : List Nat) (M H : Hp) (P : Fp) (σ : L2.St) (D : Ends) : Out → Prop
  | .nx ρ' => wN K pin M H P σ ρ' D.nx
  | .bk ρ' => wN K pin M H P σ ρ' D.bk
  | .ct ρ' => wN K pin M H P σ ρ' D.ct
  | .rt t ρ' => ∀ M' H' σ' v R F', Stp M H P M' H' (fun a => R a ∨ Al F' a) → Good K M' H' σ' ρ' F' → Pin pin σ σ' → Rp K M' H' t v R → (∀ a, R a → ¬ Al F' a) → D.rt v H'
  | .ex c ρ' => wN K pin M H P σ ρ' (W c)
def tS (K : PySem.W.Frag) (W : WS) (pin : List Nat) (f : Rho → Option Out) : TS := fun D σ H => ∃ M ρ F o, Good K M H σ ρ F ∧ f ρ = some o ∧ wO K W pin M H (Al F) σ D o
abbrev SS (X : Cx) (W : WS) (pin : List Nat) (e : Stmt) (f : Rho → Option Out) : Prop := PS X e (tS X.K W pin f)
abbrev SB (X : Cx) (W : WS) (pin : List Nat) (e : List Stmt) (f : Rho → Option Out) : Prop := PSs X e (tS X.K W pin f)
theorem wO.go {K : PySem.W.Frag} {W : WS} {pin : List Nat} {M H M1 H1 : Hp} {P P1 : Fp} {σ σ1 : L2.St} {D : Ends} {o : Out} (S : Stp M H P M1 H1 P1) (p : Pin pin σ σ1) (h : wO K W pin M H P σ D o) : wO K W pin M1 H1 P1 σ1 D o := by
  cases o with
  | nx ρ => exact fun M2 H2 σ2 F2 S2 g2 p2 => h M2 H2 σ2 F2 (S.trans S2) g2 (p.trans p2)
  | bk ρ => exact fun M2 H2 σ2 F2 S2 g2 p2 => h M2 H2 σ2 F2 (S.trans S2) g2 (p.trans p2)
  | ct ρ => exact fun M2 H2 σ2 F2 S2 g2 p2 => h M2 H2 σ2 F2 (S.trans S2) g2 (p.trans p2)
  | ex c ρ => exact fun M2 H2 σ2 F2 S2 g2 p2 => h M2 H2 σ2 F2 (S.trans S2) g2 (p.trans p2)
  | rt t ρ => exact fun M2 H2 σ2 v R F2 S2 g2 p2 => h M2 H2 σ2 v R F2 (S.trans S2) g2 (p.trans p2)
def sNil : Rho → Option Out := fun ρ => some (.nx ρ)
def sSeq (f g : Rho → Option Out) : Rho → Option Out := fun ρ => match f ρ with
  | some (.nx ρ1) => g ρ1
  | o => o
def ofR {α : Type} (r : Option (Rs α)) (k : α → Rho → Option Out) : Option Out := match r with
  | some (.ok a ρ) => k a ρ
  | some (.ex c ρ) => some (.ex c ρ)
  | none => none
theorem ofR_some {α : Type} {r : Option (Rs α)} {k : α → Rho → Option Out} {o : Out} (h : ofR r k = some o) : (∃ a ρ, r = some (.ok a ρ) ∧ k a ρ = some o) ∨ ∃ c ρ, r = some (.ex c ρ) ∧ o = .ex c ρ := by
  unfold ofR at h
  split at h
  · exact .inl ⟨_, _, rfl, h⟩
  · cases h; exact .inr ⟨_, _, rfl, rfl⟩
  · cases h
section
variable {X : Cx} {W : WS} {pin : List Nat} {e a b c : Expr} {es : List Expr} {st : Stmt} {rest : List Stmt} {pos : Pos}
theorem ts_nx {K : PySem.W.Frag} {D : Ends} {σ : L2.St} {H : Hp} (h : tS K W pin sNil D σ H) : D.nx σ H := by
  obtain ⟨M, ρ, F, o, g, e, q⟩ := h
  cases e
  exact q M H σ F (.refl fun _ z => z) g .refl
theorem sb_nil : SB X W pin [] sNil := pss_nil.lv fun D σ H h => ts_nx h
theorem ss_pass : SS X W pin (.Pass pos) sNil := ps_pass.lv fun D σ H h => ts_nx h
def sBk : Rho → Option Out := fun ρ => some (.bk ρ)
def sCt : Rho → Option Out := fun ρ => some (.ct ρ)
theorem ss_break : SS X W pin (.Break pos) sBk := ps_break.lv fun D σ H ⟨M, ρ, F, o, g, e, q⟩ => by
  cases e
  exact q M H σ F (.refl fun _ z => z) g .refl
theorem ss_continue : SS X W pin (.Continue pos) sCt := ps_continue.lv fun D σ H ⟨M, ρ, F, o, g, e, q⟩ => by
  cases e
  exact q M H σ F (.refl fun _ z => z) g .refl
theorem ts_seq {K : PySem.W.Frag} {f g : Rho → Option Out} {D : Ends} {σ : L2.St} {H : Hp} (h : tS K W pin (sSeq f g) D σ H) : tS K W pin f { D with nx := tS K W pin g D } σ H := by
  obtain ⟨M, ρ, F, o, g', e, q⟩ := h
  unfold sSeq at e
  split at e
  · next ρ1 e1 =>
    exact ⟨M, ρ, F, _, g', e1, fun M1 H1 σ1 F1 S1 g1 p1 => ⟨M1, ρ1, F1, o, g1, e, q.go S1 p1⟩⟩
  · next hne =>
    refine ⟨M, ρ, F, o, g', e, ?_⟩
    cases o with
    | nx ρ1 => exact absurd e (by intro z; exact hne ρ1 z)
    | _ => exact q
theorem sb_cons {f g : Rho → Option Out} (h1 : SS X W pin st f) (h2 : SB X W pin rest g) : SB X W pin (st :: rest) (sSeq f g) := (pss_cons h1 h2).lv fun D σ H h => ts_seq h
theorem sb_one {f : Rho → Option Out} (h1 : SS X W pin st f) : SB X W pin [st] f := pss_one h1
def sExpr (f : Rho → Option (Rs T)) : Rho → Option Out := fun ρ => ofR (f ρ) fun _ ρ1 => some (.nx ρ1)
/-- an expression's end, by a statement's -/
theorem ts_te {K : PySem.W.Frag} {f : Rho → Option (Rs T)} {k : T → Rho → Option Out} {D : Ends} {σ : L2.St} {H : Hp} {Q : VK} (h : tS K W pin (fun ρ => ofR (f ρ) k) D σ H)
    (hk : ∀ M1 H1 t v R F1 ρ1 o P, k t ρ1 = some o → Good K M1 H1 σ ρ1 F1 → Rp K M1 H1 t v R → (∀ a, R a → ¬ Al F1 a) → (∀ a, R a → P a) → (∀ a, Al F1 a → P a) → wO K W pin M1 H1 P σ D o → Q v H1) : tE K W f σ H Q := by
  obtain ⟨M, ρ, F, o, g, e, q⟩ := h
  rcases ofR_some e with ⟨t, ρ1, e1, e⟩ | ⟨c, ρ1, e1, rfl⟩
  · exact ⟨M, ρ, F, _, g, e1, fun M1 H1 v R F1 S1 g1 r1 d1 => hk M1 H1 t v R F1 ρ1 o _ e g1 r1 d1 (fun a z => .inl z) (fun a z => .inr z) (q.go S1 .refl)⟩
  · exact ⟨M, ρ, F, _, g, e1, fun M1 H1 F1 S1 g1 => q M1 H1 σ F1 S1 g1 .refl⟩
theorem ss_expr {f : Rho → Option (Rs T)} (h : EE X W e f) (hs : swapsWith e none pos.line X.env = pure false := by rfl) : SS X W pin (.Expr e pos) (sExpr f) := (ps_expr h hs).lv fun D σ H h => ts_te h fun M1 H1 t v R F1 ρ1 o P e g1 r1 d1 hR hF q => by
  cases e
  exact q M1 H1 σ F1 (.refl hF) g1 .refl
def sRet (f : Rho → Option (Rs T)) : Rho → Option Out := fun ρ => ofR (f ρ) fun t ρ1 => some (.rt t ρ1)
theorem ss_ret {f : Rho → Option (Rs T)} (h : EE X W e f) : SS X W pin (.Return (some e) pos) (sRet f) := (ps_ret h).lv fun D σ H h => ts_te h fun M1 H1 t v R F1 ρ1 o P e g1 r1 d1 hR hF q => by
  cases e
  exact q M1 H1 σ v R F1 (.refl fun a z => z.elim (hR a) (hF a)) g1 .refl r1 d1
def sRetN : Rho → Option Out := fun ρ => some (.rt (.fr .none) ρ)
theorem ss_retN : SS X W pin (.Return none pos) sRetN := ps_retN.lv fun D σ H ⟨M, ρ, F, o, g, e, q⟩ => by
  cases e
  exact q M H σ .non _ F (.refl fun _ z => z.elim False.elim id) g .refl (.fr .non) fun a z => z.elim
def sIf (c : Rho → Option (Rs Bool)) (f g : Rho → Option Out) : Rho → Option Out := fun ρ => ofR (c ρ) fun b ρ1 => if b = true then f ρ1 else g ρ1
theorem ts_tt {K : PySem.W.Frag} {f : Rho → Option (Rs Bool)} {k : Bool → Rho → Option Out} {D : Ends} {σ : L2.St} {H : Hp} {Q : Bool → Hp → Prop} (h : tS K W pin (fun ρ => ofR (f ρ) k) D σ H)
    (hk : ∀ b H1, tS K W pin (k b) D σ H1 → Q b H1) : tT K W f σ H Q := by
  obtain ⟨M, ρ, F, o, g, e, q⟩ := h
  rcases ofR_some e with ⟨t, ρ1, e1, e⟩ | ⟨c, ρ1, e1, rfl⟩
  · exact ⟨M, ρ, F, _, g, e1, fun M1 H1 F1 S1 g1 => hk t H1 ⟨M1, ρ1, F1, o, g1, e, q.go S1 .refl⟩⟩
  · exact ⟨M, ρ, F, _, g, e1, fun M1 H1 F1 S1 g1 => q M1 H1 σ F1 S1 g1 .refl⟩
theorem ss_if {ss ts : List Stmt} {fc : Rho → Option (Rs Bool)} {f g : Rho → Option Out} (hc : ET X W c fc) (ha : SB X W pin ss f) (hb : SB X W pin ts g) : SS X W pin (.If c ss ts pos) (sIf fc f g) := (ps_if hc ha hb).lv fun D σ H h => ts_tt h fun b H1 h => by
  cases b with
  | true => exact h
  | false => exact h
/-! stores to names -/
theorem wN_set {K : PySem.W.Frag} {M H : Hp} {σ : L2.St} {ρ : Rho} {F : Nat → Fp} {R P : Fp} {t : T} {v : V} {i : Nat} {C : L2.St → Hp → Prop} (hp : i ∉ pin) (g : Good K M H σ ρ F) (r : Rp K M H t v R) (d : ∀ a, R a → ¬ Al F a) (hR : ∀ a, R a → P a) (hF : ∀ a, Al F a → P a) (hi : i < ρ.length) (q : wN K pin M H P σ (ρ.set i (some t)) C) : C (σ.set i (some v)) H := by
  refine q M H _ _ (.refl fun a ⟨j, z⟩ => ?_) (g.put (by rw [← g.len]; exact hi) r fun a z ⟨j, _, y⟩ => d a z ⟨j, y⟩) fun j hj => ?_
  · by_cases y : j = i
    · simp only [y, if_true] at z; exact hR a z
    · simp only [y, if_false] at z; exact hF a ⟨j, z⟩
  · rw [List.getElem?_set_ne (fun z => hp (by rw [z]; exact hj))]
def sSet (i : Nat) (f : Rho → Option (Rs T)) : Rho → Option Out := fun ρ => ofR (f ρ) fun t ρ1 => if i < ρ1.length then some (.nx (ρ1.set i (some t))) else none
theorem ts_set {K : PySem.W.Frag} {i : Nat} {f : Rho → Option (Rs T)} {D : Ends} {σ : L2.St} {H : Hp} (hp : i ∉ pin) (h : tS K W pin (sSet i f) D σ H) : tE K W f σ H fun x H1 => D.nx (σ.set i (some x)) H1 := ts_te h fun M1 H1 t v R F1 ρ1 o P e g1 r1 d1 hR hF q => by
  split at e
  · next hi =>
    cases e
    exact wN_set hp g1 r1 d1 hR hF hi q
  · cases e
theorem ss_set {i : Nat} {x : Str} {f : Rho → Option (Rs T)} {pos' : Pos} (hp : i ∉ pin) (hN : X.N.Nodup) (hi : X.N[i]? = some x) (hx : Loc X.env.scope x) (he : EE X W e f) (hs : swapsWith e (some (.Name x pos')) pos.line X.env = pure false := by rfl)
    (hf : X.fn x = true ∨ X.env.scope.names.lookup x = some .local := by first | exact .inl rfl | exact .inr rfl | assumption) : SS X W pin (.Assign [.Name x pos'] e pos) (sSet i f) := (ps_set hN hi hx he hs hf).lv fun D σ H h => ts_set hp h
/-- x = [..] on one line -/
theorem ss_setLc {i : Nat} {y : Str} {py : Pos} {elt tg iter : Expr} {ifs : List Expr} {scope : Scope} {own : List (Str × Nat)} {as : List Nat} {spos : Pos} {fi : Rho → Option (Rs (List D))} {g : D → Rho → Option Rho} {fc : Rho → Option (Rs Bool)} {fe : Rho → Option (Rs T)} (hp : i ∉ pin) (has : ∀ j ∈ as, j ∈ own.map (·.2)) (hc : X.calm = true) (hN : X.N.Nodup) (hy : X.N[i]? = some y) (hyl : X.env.scope.names.lookup y = some .local)
    (hsw : swapsWith (.ListComp elt [⟨tg, iter, ifs, 0⟩] scope pos) (some (.Name y py)) spos.line X.env = pure true) (hi : EI X W tg iter fi) (ok : blkC X.N X.env.scope scope own = true)
    (hg : ∀ (s : Shared) (H : Hp) (C : Addr) (cl : List (Str × Addr)) (fp : List Addr), EG (X.blk s H scope (compEnvC scope cl C X.env) fp) as tg g) (ht : ∀ (s : Shared) (H : Hp) (C : Addr) (cl : List (Str × Addr)) (fp : List Addr), ETs (X.blk s H scope (compEnvC scope cl C X.env) fp) W0 ifs fc)
    (he : ∀ (s : Shared) (H : Hp) (C : Addr) (cl : List (Str × Addr)) (fp : List Addr), EE (X.blk s H scope (compEnvC scope cl C X.env) fp) W0 elt fe) (hs : ∀ x, foldedSetIterable iter X.env x = pure x := by intro _; rfl) :
    SS X W pin (.Assign [.Name y py] (.ListComp elt [⟨tg, iter, ifs, 0⟩] scope pos) spos) (sSet i (eLc (own.map (·.2)) fi g fc fe)) := (ps_setLc hc hN hy hyl hsw hi (blkOk_by ok) hg ht he hs).lv fun D σ H h => te_lc has σ H _ (ts_set hp h)
/-- the same, frozen -/
theorem ss_setLcF {i : Nat} {y : Str} {py : Pos} {elt tg iter : Expr} {ifs : List Expr} {scope : Scope} {own : List (Str × Nat)} {as : List Nat} {spos : Pos} {fi : Rho → Option (Rs (List D))} {g : D → Rho → Option Rho} {fc : Rho → Option (Rs Bool)} {fe : Rho → Option (Rs T)} (hp : i ∉ pin) (has : ∀ j ∈ as, j ∈ own.map (·.2)) (hc : X.calm = true) (hN : X.N.Nodup) (hy : X.N[i]? = some y) (hyl : X.env.scope.names.lookup y = some .local)
    (hsw : swapsWith (.ListComp elt [⟨tg, iter, ifs, 0⟩] scope pos) (some (.Name y py)) spos.line X.env = pure true) (hi : EI X W tg iter fi) (ok : blkC X.N X.env.scope scope own = true)
    (hg : ∀ (s : Shared) (H : Hp) (C : Addr) (cl : List (Str × Addr)) (fp : List Addr), EG (X.blk s H scope (compEnvC scope cl C X.env) fp) as tg g) (ht : ∀ (s : Shared) (H : Hp) (C : Addr) (cl : List (Str × Addr)) (fp : List Addr), ETs (X.blk s H scope (compEnvC scope cl C X.env) fp) W0 ifs fc)
    (he : ∀ (s : Shared) (H : Hp) (C : Addr) (cl : List (Str × Addr)) (fp : List Addr), EE (X.blk s H scope (compEnvC scope cl C X.env) fp) W0 elt fe) (hs : ∀ x, foldedSetIterable iter X.env x = pure x := by intro _; rfl) :
    SS X W pin (.Assign [.Name y py] (.ListComp elt [⟨tg, iter, ifs, 0⟩] scope pos) spos) (sSet i (eFz (eLc (own.map (·.2)) fi g fc fe))) := (ps_setLc hc hN hy hyl hsw hi (blkOk_by ok) hg ht he hs).lv fun D σ H h => te_lc has σ H _ (by
  obtain ⟨M, ρ, F, r, g', e, q⟩ := ts_set hp h
  rcases bnd_some e with ⟨t, ρ', e1, e2⟩ | ⟨c, ρ', e1, rfl⟩
  · obtain ⟨d, ed, e2⟩ := Option.map_eq_some_iff.mp e2
    subst e2
    refine ⟨M, ρ, F, _, g', e1, fun M' H' v R F' S g' rp dj => ?_⟩
    obtain ⟨S1, le1, kp⟩ := S.frz rp dj g'.le
    exact q _ H' v (fun _ => False) F' (S1.sub (fun _ z => z) fun a z => z.elim False.elim id) (g'.keep kp le1) (.fr (rp.freeze ed)) fun a z => z.elim
  · exact ⟨M, ρ, F, _, g', e1, q⟩)
/-- a, b = e -/
def sTgt (g : D → Rho → Option Rho) (f : Rho → Option (Rs T)) : Rho → Option Out := fun ρ => ofR (f ρ) fun t ρ1 => (T.dat t).bind fun d => (g d ρ1).map fun ρ2 => .nx ρ2
theorem ss_tgt {as : List Nat} {tg : Expr} {g : D → Rho → Option Rho} {f : Rho → Option (Rs T)} (hp : ∀ j ∈ pin, j ∉ as) (he : EE X W e f) (hg : EG X as tg g) (hs : swapsWithSole [tg] e pos.line X.env = pure false := by rfl) (hw : swappedStores [tg] e X.env = pure none := by rfl)
    (h1 : (assignEach [tg] X.env).map (·.2) = [assign tg X.env] := by rfl) : SS X W pin (.Assign [tg] e pos) (sTgt g f) := (ps_asg he hg hs hw h1).lv fun D σ H h => ts_te h fun M1 H1 t v R F1 ρ1 o P e g1 r1 d1 hR hF q => by
  obtain ⟨d, ed, e⟩ := Option.bind_eq_some_iff.mp e
  obtain ⟨ρ2, e2, e⟩ := Option.map_eq_some_iff.mp e
  subst e
  have S0 : Stp M1 H1 (fun a => R a ∨ Al F1 a) M1 H1 (fun a => R a ∨ Al F1 a) := .refl fun _ z => z
  obtain ⟨S2, le2, kp⟩ := S0.frz r1 d1 g1.le
  refine ⟨_, ρ1, F1, d, ρ2, g1.keep kp le2, r1.freeze ed, e2, fun σ2 F2 g2 s2 k2 _ => q _ H1 σ2 F2 (S2.sub (fun a z => z.elim (hR a) (hF a)) s2) g2 fun j hj => k2 j (hp j hj)⟩
/-- a, b = x, y -/
def sPar (i j : Nat) (f : Rho → Option (Rs (List Ar))) : Rho → Option Out := fun ρ => ofR (f ρ) fun as ρ1 => match as with
  | [.own (.fr d1), .own (.fr d2)] => if i < ρ1.length ∧ j < ρ1.length then some (.nx ((ρ1.set i (some (.fr d1))).set j (some (.fr d2)))) else none
  | _ => none
theorem ts_ta {K : PySem.W.Frag} {f : Rho → Option (Rs (List Ar))} {k : List Ar → Rho → Option Out} {D : Ends} {σ : L2.St} {H : Hp} {Q : List V → Hp → Prop} (h : tS K W pin (fun ρ => ofR (f ρ) k) D σ H)
    (hk : ∀ M1 H1 as vs R F1 ρ1 o P, k as ρ1 = some o → Good K M1 H1 σ ρ1 F1 → ArL K M1 H1 σ as vs R → (∀ a, R a → ¬ Al F1 a) → (∀ a, R a → P a) → (∀ a, Al F1 a → P a) → wO K W pin M1 H1 P σ D o → Q vs H1) : tEA K W f σ H Q := by
  obtain ⟨M, ρ, F, o, g, e, q⟩ := h
  rcases ofR_some e with ⟨t, ρ1, e1, e⟩ | ⟨c, ρ1, e1, rfl⟩
  · exact ⟨M, ρ, F, _, g, e1, fun M1 H1 vs R F1 S1 g1 r1 d1 => hk M1 H1 t vs R F1 ρ1 o _ e g1 r1 d1 (fun a z => .inl z) (fun a z => .inr z) (q.go S1 .refl)⟩
  · exact ⟨M, ρ, F, _, g, e1, fun M1 H1 F1 S1 g1 => q M1 H1 σ F1 S1 g1 .refl⟩
theorem ss_par {i j : Nat} {x y : Str} {f : Rho → Option (Rs (List Ar))} {px py pt : Pos} {kt k2 pt2} (hpi : i ∉ pin) (hpj : j ∉ pin) (hc : X.calm = true) (hN : X.N.Nodup) (hi : X.N[i]? = some x) (hj : X.N[j]? = some y) (hij : i ≠ j)
    (hx : X.env.scope.names.lookup x = some .local) (hy : X.env.scope.names.lookup y = some .local) (ha : AE X W [a, b] f)
    (hw : swappedStores [.Tuple [.Name x px, .Name y py] kt pt] (.Tuple [a, b] k2 pt2) X.env = pure (some [x, y]) := by rfl)
    (hs : swapsWithSole [.Tuple [.Name x px, .Name y py] kt pt] (.Tuple [a, b] k2 pt2) pos.line X.env = pure false := by rfl) :
    SS X W pin (.Assign [.Tuple [.Name x px, .Name y py] kt pt] (.Tuple [a, b] k2 pt2) pos) (sPar i j f) := (ps_par hc hN hi hj hij hx hy ha hw hs).lv fun D σ H h => ts_ta h fun M1 H1 as vs R F1 ρ1 o P e g1 r1 d1 hR hF q => by
  split at e
  · next d1' d2' =>
    split at e
    · next hl =>
      cases e
      obtain ⟨v, w, R1, R2, rfl, rp1, rp2⟩ := r1.own2
      have g2 := g1.put (i := i) (by rw [← g1.len]; exact hl.1) (.fr rp1.fr_inv.1) fun a z => z.elim
      have g3 := g2.put (i := j) (by simp; rw [← g1.len]; exact hl.2) (.fr rp2.fr_inv.1) fun a z => z.elim
      have hst : Stp M1 H1 P M1 H1 (Al (fun l a => if l = j then False else if l = i then False else F1 l a)) := .refl fun a ⟨l, z⟩ => by
        by_cases y1 : l = j
        · simp [y1] at z
        · by_cases y2 : l = i
          · simp [y2] at z
          · simp only [y1, y2, if_false] at z; exact hF a ⟨l, z⟩
      refine ⟨v, w, rfl, q M1 H1 _ _ hst g3 fun l hl' => ?_⟩
      rw [List.getElem?_set_ne (fun z => hpj (by rw [z]; exact hl')), List.getElem?_set_ne (fun z => hpi (by rw [z]; exact hl'))]
    · cases e
  · cases e
/-- x += e, frozen -/
def sAug (i : Nat) (op : T → T → Option T) (f : Rho → Option (Rs T)) : Rho → Option Out := fun ρ => match ρ[i]? with
  | some (some (.fr d)) => ofR (f ρ) fun t ρ1 => (op (.fr d) t).bind fun u => if i < ρ1.length then some (.nx (ρ1.set i (some u))) else none
  | _ => none
def PIpR (X : Cx) (op' : Operator) (r : R2) : Prop := PIp X op' r
theorem ss_aug {i : Nat} {x : Str} {op' : Operator} {op : T → T → Option T} {f : Rho → Option (Rs T)} {pos' : Pos} (hp : i ∉ pin) (hN : X.N.Nodup) (hi : X.N[i]? = some x) (hx : Loc X.env.scope x) (he : EE X W e f) (ho : PIp X op' (rOp2 X.K op)) (hf : X.fn x = true ∨ X.env.scope.names.lookup x = some .local := by first | exact .inl rfl | exact .inr rfl | assumption) :
    SS X W pin (.AugAssign (.Name x pos') op' e pos) (sAug i op f) := (ps_aug hN hi hx he ho hf).lv fun D σ H ⟨M, ρ, F, o, g, e, q⟩ => by
  unfold sAug at e
  split at e
  · next d ed =>
    obtain ⟨v0, h0, r0⟩ := g.sl i _ ed
    refine ⟨v0, h0, ?_⟩
    rcases ofR_some e with ⟨t, ρ1, e1, e⟩ | ⟨c, ρ1, e1, rfl⟩
    · obtain ⟨u, eu, e⟩ := Option.bind_eq_some_iff.mp e
      split at e
      · next hi' =>
        cases e
        refine ⟨M, ρ, F, _, g, e1, fun M1 H1 v R F1 S1 g1 r1 d1 => ⟨M1, _, _, t, R, u, g1.le, .fr (r0.fr_inv.1.mono S1.m), r1, eu, fun M2 H2 v2 R2 x2 r2 n2 => ?_⟩⟩
        refine wN_set (P := fun a => R2 a ∨ Al F1 a) hp (g1.ext x2) r2 (fun a z y => ?_) (fun a z => .inl z) (fun a z => .inr z) hi' (q.go ((S1.sub (fun _ z => z) fun a z => .inr z).trans (x2.stp fun a z => z.elim (fun z => .inr (n2 a z)) .inl)) .refl)
        obtain ⟨_, o, eo'⟩ := g1.own a y
        rw [n2 a z] at eo'; cases eo'
      · cases e
    · exact ⟨M, ρ, F, _, g, e1, fun M1 H1 F1 S1 g1 => q M1 H1 σ F1 S1 g1 .refl⟩
  · cases e
end
end Lv

set_option maxHeartbeats 2000000
namespace Lv
open PySem PySem.Spec PyProof.Rows L2
/-! ### places within owned trees -/
inductive Sg where
  | at_ (f : Str)
  | ix (j : Nat)
def lookF {α : Type} (f : Str) : List (Str × α) → Option α
  | [] => none
  | (g, x) :: r => if g = f then some x else lookF f r
def putL {α : Type} (f : Str) (y : α) : List (Str × α) → List (Str × α)
  | [] => []
  | (g, x) :: r => if g = f then (g, y) :: r else (g, x) :: putL f y r
def getP : List Sg → T → Option T
  | [], t => some t
  | .ix j :: p, .lst ts => (ts[j]?).bind (getP p)
  | .at_ f :: p, .obj _ fs => (lookF f fs).bind (getP p)
  | _, _ => none
def setP (u : T) : List Sg → T → Option T
  | [], _ => some u
  | .ix j :: p, .lst ts => (ts[j]?).bind fun t => (setP u p t).map fun t' => .lst (ts.set j t')
  | .at_ f :: p, .obj c fs => (lookF f fs).bind fun t => (setP u p t).map fun t' => .obj c (putL f t' fs)
  | _, _ => none
inductive Fol (H : Hp) : V → List Sg → V → Prop
  | nil {v : V} : Fol H v [] v
  | ix {a : Addr} {vs : List V} {j : Nat} {v1 v : V} {p : List Sg} : H a = some (.lst vs) → vs[j]? = some v1 → Fol H v1 p v → Fol H (.ref a) (.ix j :: p) v
  | at_ {a C dx : Addr} {vs : List (Str × V)} {f : Str} {v1 v : V} {p : List Sg} : H a = some (.ins C dx vs) → vs.lookup f = some v1 → Fol H v1 p v → Fol H (.ref a) (.at_ f :: p) v
section
variable {K : PySem.W.Frag} {M H M2 H2 : Hp}
theorem Fol.same {H' : Hp} (s : L2.Same H H') : ∀ {v w : V} {p : List Sg}, Fol H v p w → Fol H' v p w
  | _, _, _, .nil => .nil
  | _, _, _, .ix h e t => .ix (s _ _ h) e (t.same s)
  | _, _, _, .at_ h e t => .at_ (s _ _ h) e (t.same s)
theorem RpL.focus : ∀ {ts : List T} {vs : List V} {R : Fp} {j : Nat} {t : T} {v : V}, RpL K M H ts vs R → ts[j]? = some t → vs[j]? = some v → ∃ R1, Rp K M H t v R1 ∧ (∀ a, R1 a → R a) ∧
    ∀ M2 H2 t' R', Rp K M2 H2 t' v R' → Kp M M2 H H2 (fun a => R a ∧ ¬ R1 a) → (∀ a, R' a → ¬ (R a ∧ ¬ R1 a)) → ∃ R2, RpL K M2 H2 (ts.set j t') vs R2 ∧ ∀ a, R2 a ↔ (R a ∧ ¬ R1 a) ∨ R' a
  | _, _, _, _, _, _, .nil, e, _ => by simp at e
  | _, _, _, 0, _, _, .cons (R := Ra) (R' := Rb) h q d, e, e2 => by
    simp at e e2; subst e; subst e2
    refine ⟨Ra, h, fun a => .inl, fun M2 H2 t' R' r' k n => ?_⟩
    have nb : ∀ a, Rb a → ¬ Ra a := fun a z y => d a y z
    refine ⟨_, .cons r' (q.keep (k.sub fun a z => ⟨.inr z, nb a z⟩)) fun a z y => n a z ⟨.inr y, nb a y⟩, fun a => ?_⟩
    constructor
    · rintro (z | z)
      · exact .inr z
      · exact .inl ⟨.inr z, nb a z⟩
    · rintro (⟨z | z, y⟩ | z)
      · exact absurd z y
      · exact .inr z
      · exact .inl z
  | _, _, _, j + 1, t, v, .cons (R := Ra) (R' := Rb) h q d, e, e2 => by
    obtain ⟨R1, h1, s1, up⟩ := RpL.focus (j := j) (t := t) (v := v) q (by simpa using e) (by simpa using e2)
    have na : ∀ a, Ra a → ¬ R1 a := fun a z y => d a z (s1 a y)
    refine ⟨R1, h1, fun a z => .inr (s1 a z), fun M2 H2 t' R' r' k n => ?_⟩
    obtain ⟨R2, h2, e3⟩ := up M2 H2 t' R' r' (k.sub fun a z => ⟨.inr z.1, z.2⟩) fun a z y => n a z ⟨.inr y.1, y.2⟩
    refine ⟨_, .cons (h.keep (k.sub fun a z => ⟨.inl z, na a z⟩)) h2 fun a z y => ?_, fun a => ?_⟩
    · rcases (e3 a).mp y with y | y
      · exact d a z y.1
      · exact n a y ⟨.inl z, na a z⟩
    · rw [e3 a]
      constructor
      · rintro (z | z | z)
        · exact .inl ⟨.inl z, na a z⟩
        · exact .inl ⟨.inr z.1, z.2⟩
        · exact .inr z
      · rintro (⟨z | z, y⟩ | z)
        · exact .inl z
        · exact .inr (.inl ⟨z, y⟩)
        · exact .inr (.inr z)
theorem RpF.focus : ∀ {ts : List (Str × T)} {vs : List (Str × V)} {R : Fp} {f : Str} {t : T} {v : V}, RpF K M H ts vs R → lookF f ts = some t → vs.lookup f = some v → ∃ R1, Rp K M H t v R1 ∧ (∀ a, R1 a → R a) ∧
    ∀ M2 H2 t' R', Rp K M2 H2 t' v R' → Kp M M2 H H2 (fun a => R a ∧ ¬ R1 a) → (∀ a, R' a → ¬ (R a ∧ ¬ R1 a)) → ∃ R2, RpF K M2 H2 (putL f t' ts) vs R2 ∧ ∀ a, R2 a ↔ (R a ∧ ¬ R1 a) ∨ R' a
  | _, _, _, _, _, _, .nil, e, _ => by cases e
  | _, _, _, f, t, v, .cons (k := g) (vs := vs') (R := Ra) (R' := Rb) h q d, e, e2 => by
    by_cases hg : g = f
    · subst hg
      simp [lookF] at e; subst e
      simp [List.lookup] at e2; subst e2
      refine ⟨Ra, h, fun a => .inl, fun M2 H2 t' R' r' k n => ?_⟩
      have nb : ∀ a, Rb a → ¬ Ra a := fun a z y => d a y z
      refine ⟨_, by simp only [putL, if_true]; exact .cons r' (q.keep (k.sub fun a z => ⟨.inr z, nb a z⟩)) fun a z y => n a z ⟨.inr y, nb a y⟩, fun a => ?_⟩
      constructor
      · rintro (z | z)
        · exact .inr z
        · exact .inl ⟨.inr z, nb a z⟩
      · rintro (⟨z | z, y⟩ | z)
        · exact absurd z y
        · exact .inr z
        · exact .inl z
    · simp only [lookF, hg, if_false] at e
      have e2' : List.lookup f vs' = some v := by
        rw [List.lookup_cons] at e2
        have : (f == g) = false := by simpa using fun z => hg z.symm
        rw [this] at e2; exact e2
      obtain ⟨R1, h1, s1, up⟩ := RpF.focus (f := f) (t := t) (v := v) q e e2'
      have na : ∀ a, Ra a → ¬ R1 a := fun a z y => d a z (s1 a y)
      refine ⟨R1, h1, fun a z => .inr (s1 a z), fun M2 H2 t' R' r' k n => ?_⟩
      obtain ⟨R2, h2, e3⟩ := up M2 H2 t' R' r' (k.sub fun a z => ⟨.inr z.1, z.2⟩) fun a z y => n a z ⟨.inr y.1, y.2⟩
      have hd : ∀ a, Ra a → ¬ R2 a := fun a z y => by
        rcases (e3 a).mp y with y | y
        · exact d a z y.1
        · exact n a y ⟨.inl z, na a z⟩
      have hc := RpF.cons (k := g) (h.keep (k.sub fun a z => ⟨.inl z, na a z⟩)) h2 hd
      refine ⟨_, by simp only [putL, hg, if_false]; exact hc, fun a => ?_⟩
      rw [e3 a]
      constructor
      · rintro (z | z | z)
        · exact .inl ⟨.inl z, na a z⟩
        · exact .inl ⟨.inr z.1, z.2⟩
        · exact .inr z
      · rintro (⟨z | z, y⟩ | z)
        · exact .inl z
        · exact .inr (.inl ⟨z, y⟩)
        · exact .inr (.inr z)
/-- a place is changed, all else is kept -/
theorem Rp.focus : ∀ {v0 v : V} {p : List Sg}, Fol H v0 p v → ∀ {t0 t : T} {R0 : Fp}, Rp K M H t0 v0 R0 → getP p t0 = some t → ∃ R, Rp K M H t v R ∧ (∀ a, R a → R0 a) ∧
    ∀ M2 H2 t' R', Rp K M2 H2 t' v R' → Kp M M2 H H2 (fun a => R0 a ∧ ¬ R a) → (∀ a, R' a → ¬ (R0 a ∧ ¬ R a)) → ∃ t2 R2, setP t' p t0 = some t2 ∧ Rp K M2 H2 t2 v0 R2 ∧ ∀ a, R2 a ↔ (R0 a ∧ ¬ R a) ∨ R' a := by
  intro v0 v p fol
  induction fol with
  | nil =>
    intro t0 t R0 r e
    cases e
    refine ⟨R0, r, fun _ z => z, fun M2 H2 t' R' r' _ _ => ⟨t', R', rfl, r', fun a => ?_⟩⟩
    constructor
    · exact .inr
    · rintro (⟨z, y⟩ | z)
      · exact absurd z y
      · exact z
  | @ix a vs j v1 v p hl hv _ ih =>
    intro t0 t R0 r e
    cases r with
    | fr => cases e
    | dk => cases e
    | obj => cases e
    | @lst _ xs vs' R h1 h2 h3 h4 =>
      rw [hl] at h1; cases h1
      simp only [getP] at e
      obtain ⟨t1, e1, e⟩ := Option.bind_eq_some_iff.mp e
      obtain ⟨R1, r1, s1, up1⟩ := h3.focus e1 hv
      obtain ⟨R2, r2, s2, up2⟩ := ih r1 e
      refine ⟨R2, r2, fun b z => .inr (s1 b (s2 b z)), fun M2 H2 t' R' r' k n => ?_⟩
      have na2 : ¬ R2 a := fun z => h4 (s1 a (s2 a z))
      obtain ⟨t2, R3, e3, r3, i3⟩ := up2 M2 H2 t' R' r' (k.sub fun b z => ⟨.inr (s1 b z.1), z.2⟩) fun b z y => n b z ⟨.inr (s1 b y.1), y.2⟩
      obtain ⟨R4, r4, i4⟩ := up1 M2 H2 t2 R3 r3 (k.sub fun b z => ⟨.inr z.1, fun y => z.2 (s2 b y)⟩) fun b z y => by
        rcases (i3 b).mp z with z | z
        · exact y.2 z.1
        · exact n b z ⟨.inr y.1, fun w => y.2 (s2 b w)⟩
      have ka := k.h a ⟨.inl rfl, na2⟩ _ hl
      have ma := k.n a ⟨.inl rfl, na2⟩ h2
      have eq4 : ∀ b, R4 b ↔ (R b ∧ ¬ R2 b) ∨ R' b := fun b => by
        rw [i4 b, i3 b]
        constructor
        · rintro (⟨z, y⟩ | ⟨z, y⟩ | z)
          · exact .inl ⟨z, fun w => y (s2 b w)⟩
          · exact .inl ⟨s1 b z, y⟩
          · exact .inr z
        · rintro (⟨z, y⟩ | z)
          · by_cases w : R1 b
            · exact .inr (.inl ⟨w, y⟩)
            · exact .inl ⟨z, w⟩
          · exact .inr (.inr z)
      have n4 : ¬ R4 a := fun z => by
        rcases (eq4 a).mp z with z | z
        · exact h4 z.1
        · exact n a z ⟨.inl rfl, na2⟩
      refine ⟨.lst (xs.set j t2), _, by simp only [setP, e1, Option.bind_some, e3, Option.map_some], .lst ka ma r4 n4, fun b => ?_⟩
      show b = a ∨ R4 b ↔ _
      rw [eq4 b]
      constructor
      · rintro (z | ⟨z, y⟩ | z)
        · subst z; exact .inl ⟨.inl rfl, na2⟩
        · exact .inl ⟨.inr z, y⟩
        · exact .inr z
      · rintro (⟨z | z, y⟩ | z)
        · exact .inl z
        · exact .inr (.inl ⟨z, y⟩)
        · exact .inr (.inr z)
  | @at_ a C dx vs f v1 v p hl hv _ ih =>
    intro t0 t R0 r e
    cases r with
    | fr => cases e
    | dk => cases e
    | lst => cases e
    | @obj _ dx' c fs vs' R h1 h2 h3 h4 h5 h6 h7 h8 =>
      rw [hl] at h1; cases h1
      simp only [getP] at e
      obtain ⟨t1, e1, e⟩ := Option.bind_eq_some_iff.mp e
      obtain ⟨R1, r1, s1, up1⟩ := h6.focus e1 hv
      obtain ⟨R2, r2, s2, up2⟩ := ih r1 e
      refine ⟨R2, r2, fun b z => .inr (s1 b (s2 b z)), fun M2 H2 t' R' r' k n => ?_⟩
      have na2 : ¬ R2 a := fun z => h7 (s1 a (s2 a z))
      have nd2 : ¬ R2 dx := fun z => h8 (s1 dx (s2 dx z))
      obtain ⟨t2, R3, e3, r3, i3⟩ := up2 M2 H2 t' R' r' (k.sub fun b z => ⟨.inr (s1 b z.1), z.2⟩) fun b z y => n b z ⟨.inr (s1 b y.1), y.2⟩
      obtain ⟨R4, r4, i4⟩ := up1 M2 H2 t2 R3 r3 (k.sub fun b z => ⟨.inr z.1, fun y => z.2 (s2 b y)⟩) fun b z y => by
        rcases (i3 b).mp z with z | z
        · exact y.2 z.1
        · exact n b z ⟨.inr y.1, fun w => y.2 (s2 b w)⟩
      have ka := k.h a ⟨.inl (.inl rfl), na2⟩ _ hl
      have ma := k.n a ⟨.inl (.inl rfl), na2⟩ h3
      have kd := k.h dx ⟨.inl (.inr rfl), nd2⟩ _ h2
      have md := k.n dx ⟨.inl (.inr rfl), nd2⟩ h4
      have eq4 : ∀ b, R4 b ↔ (R b ∧ ¬ R2 b) ∨ R' b := fun b => by
        rw [i4 b, i3 b]
        constructor
        · rintro (⟨z, y⟩ | ⟨z, y⟩ | z)
          · exact .inl ⟨z, fun w => y (s2 b w)⟩
          · exact .inl ⟨s1 b z, y⟩
          · exact .inr z
        · rintro (⟨z, y⟩ | z)
          · by_cases w : R1 b
            · exact .inr (.inl ⟨w, y⟩)
            · exact .inl ⟨z, w⟩
          · exact .inr (.inr z)
      have n4 : ¬ R4 a := fun z => by
        rcases (eq4 a).mp z with z | z
        · exact h7 z.1
        · exact n a z ⟨.inl (.inl rfl), na2⟩
      have n5 : ¬ R4 dx := fun z => by
        rcases (eq4 dx).mp z with z | z
        · exact h8 z.1
        · exact n dx z ⟨.inl (.inr rfl), nd2⟩
      refine ⟨.obj c (putL f t2 fs), _, by simp only [setP, e1, Option.bind_some, e3, Option.map_some], .obj ka kd ma md h5 r4 n4 n5, fun b => ?_⟩
      show (b = a ∨ b = dx) ∨ R4 b ↔ _
      rw [eq4 b]
      constructor
      · rintro (z | ⟨z, y⟩ | z)
        · rcases z with z | z
          · subst z; exact .inl ⟨.inl (.inl rfl), na2⟩
          · subst z; exact .inl ⟨.inl (.inr rfl), nd2⟩
        · exact .inl ⟨.inr z, y⟩
        · exact .inr z
      · rintro (⟨z | z, y⟩ | z)
        · exact .inl z
        · exact .inr (.inl ⟨z, y⟩)
        · exact .inr (.inr z)
end
end Lv

set_option maxHeartbeats 2000000
namespace Lv
open PySem PySem.Spec PyProof.Rows L2
def slot (ρ : Rho) (i : Nat) : Option T := match ρ[i]? with
  | some (some t) => some t
  | _ => none
theorem slot_some {ρ : Rho} {i : Nat} {t : T} (h : slot ρ i = some t) : ρ[i]? = some (some t) := by
  unfold slot at h
  split at h
  · next t' e => cases h; exact e
  · cases h
theorem slot_of {ρ : Rho} {i : Nat} {t : T} (h : ρ[i]? = some (some t)) : slot ρ i = some t := by unfold slot; rw [h]
def getAt (ρ : Rho) (i : Nat) (p : List Sg) : Option T := (slot ρ i).bind (getP p)
def setAt (ρ : Rho) (i : Nat) (p : List Sg) (u : T) : Option Rho := (slot ρ i).bind fun t0 => (setP u p t0).map fun t2 => ρ.set i (some t2)
section
variable {K : PySem.W.Frag} {M H : Hp} {σ : L2.St} {ρ : Rho} {F : Nat → Fp} {i : Nat} {p : List Sg} {t : T} {v v0 : V}
theorem Good.focus (g : Good K M H σ ρ F) (hv : σ[i]? = some (some v0)) (fol : Fol H v0 p v) (e : getAt ρ i p = some t) : ∃ R, Rp K M H t v R ∧ (∀ a, R a → Al F a) ∧
    ∀ M2 H2 t' R', Rp K M2 H2 t' v R' → L2.Same M2 H2 → Kp M M2 H H2 (fun a => Al F a ∧ ¬ R a) → (∀ a, R' a → ¬ (Al F a ∧ ¬ R a)) → ∃ ρ2 F2, setAt ρ i p t' = some ρ2 ∧ Good K M2 H2 σ ρ2 F2 ∧ ∀ a, Al F2 a ↔ (Al F a ∧ ¬ R a) ∨ R' a := by
  unfold getAt at e
  obtain ⟨t0, e0, e1⟩ := Option.bind_eq_some_iff.mp e
  obtain ⟨v1, h1, r0⟩ := g.sl i t0 (slot_some e0)
  rw [hv] at h1; cases h1
  obtain ⟨R, r, s, up⟩ := Rp.focus fol r0 e1
  refine ⟨R, r, fun a z => ⟨i, s a z⟩, fun M2 H2 t' R' r' le k n => ?_⟩
  have only : ∀ j a, j ≠ i → F j a → ¬ R a := fun j a hj z y => hj (g.dj j i a z (s a y))
  obtain ⟨t2, R2, e2, r2, i2⟩ := up M2 H2 t' R' r' (k.sub fun a z => ⟨⟨i, z.1⟩, z.2⟩) fun a z y => n a z ⟨⟨i, y.1⟩, y.2⟩
  have g1 : Good K M2 H2 σ (ρ.set i none) (fun j a => j ≠ i ∧ F j a) := (g.drop i).keep (k.sub fun a ⟨j, hj, z⟩ => ⟨⟨j, z⟩, only j a hj z⟩) le
  have g2 := g1.reput hv r2 fun a z ⟨j, hj, _, y⟩ => by
    rcases (i2 a).mp z with z | z
    · exact hj (g.dj j i a y z.1)
    · exact n a z ⟨⟨j, y⟩, only j a hj y⟩
  rw [List.set_set] at g2
  refine ⟨ρ.set i (some t2), _, by unfold setAt; rw [e0]; simp [e2], g2, fun a => ?_⟩
  constructor
  · rintro ⟨j, z⟩
    by_cases hj : j = i
    · simp only [hj, if_true] at z
      exact ((i2 a).mp z).imp_left fun z => ⟨⟨i, z.1⟩, z.2⟩
    · simp only [hj, if_false] at z
      exact .inl ⟨⟨j, z.2⟩, only j a hj z.2⟩
  · rintro (⟨⟨j, z⟩, y⟩ | z)
    · by_cases hj : j = i
      · subst hj
        exact ⟨j, by simp only [if_true]; exact (i2 a).mpr (.inl ⟨z, y⟩)⟩
      · exact ⟨j, by simp only [hj, if_false]; exact ⟨hj, z⟩⟩
    · exact ⟨i, by simp only [if_true]; exact (i2 a).mpr (.inr z)⟩
theorem setAt_len {ρ2 : Rho} {u : T} (h : setAt ρ i p u = some ρ2) : ρ2.length = ρ.length := by
  unfold setAt at h
  obtain ⟨t0, _, h⟩ := Option.bind_eq_some_iff.mp h
  obtain ⟨t2, _, h⟩ := Option.map_eq_some_iff.mp h
  subst h; simp
/-- the object at a place is written: a list -/
theorem Good.wlist (g : Good K M H σ ρ F) (hv : σ[i]? = some (some v0)) (fol : Fol H v0 p v) {ts ts' : List T} (e : getAt ρ i p = some (.lst ts)) :
    ∃ a vs R, v = .ref a ∧ H a = some (.lst vs) ∧ M a = none ∧ RpL K M H ts vs R ∧ ¬ R a ∧ Al F a ∧ (∀ b, R b → Al F b) ∧
      ∀ vs' R', (RpL K M (upd H a (.lst vs')) ts' vs' R') → ¬ R' a → (∀ b, R' b → Al F b → R b) → ∃ ρ2 F2, setAt ρ i p (.lst ts') = some ρ2 ∧ Good K M (upd H a (.lst vs')) σ ρ2 F2 ∧
        Stp M H (fun b => Al F b ∨ R' b) M (upd H a (.lst vs')) (Al F2) ∧ ∀ b, Al F2 b ↔ (Al F b ∧ ¬ R b) ∨ R' b := by
  obtain ⟨R0, r, s, up⟩ := g.focus hv fol e
  obtain ⟨a, vs, R, rfl, h1, h2, h3, h4, h5⟩ := r.lst_inv
  have ra : R0 a := (h5 a).mpr (.inl rfl)
  refine ⟨a, vs, R, rfl, h1, h2, h3, h4, s a ra, fun b z => s b ((h5 b).mpr (.inr z)), fun vs' R' r' n d => ?_⟩
  have keepH : ∀ b o, b ≠ a → H b = some o → upd H a (.lst vs') b = some o := fun b o ne q => by rw [upd_ne ne]; exact q
  have le : L2.Same M (upd H a (.lst vs')) := fun b o q => keepH b o (fun z => by subst z; rw [h2] at q; cases q) (g.le b o q)
  obtain ⟨ρ2, F2, e2, g2, i2⟩ := up M (upd H a (.lst vs')) (.lst ts') _ (.lst upd_same h2 r' n) le ⟨L2.Same.refl _, fun b z o q => keepH b o (fun y => by subst y; exact z.2 ra) q, fun _ _ q => q⟩ fun b z y => by
    rcases z with z | z
    · subst z; exact y.2 ra
    · exact y.2 ((h5 b).mpr (.inr (d b z y.1)))
  have i3 : ∀ b, Al F2 b ↔ (Al F b ∧ ¬ R b) ∨ R' b := fun b => by
    rw [i2 b]
    constructor
    · rintro (⟨z, y⟩ | z | z)
      · exact .inl ⟨z, fun w => y ((h5 b).mpr (.inr w))⟩
      · subst z; exact .inl ⟨s _ ra, h4⟩
      · exact .inr z
    · rintro (⟨z, y⟩ | z)
      · by_cases w : b = a
        · exact .inr (.inl w)
        · exact .inl ⟨z, fun q => ((h5 b).mp q).elim w y⟩
      · exact .inr (.inr z)
  exact ⟨ρ2, F2, e2, g2, ⟨L2.Same.refl _, fun b o q ne => keepH b o (fun y => by subst y; exact ne (.inl (s _ ra))) q, fun b q1 q2 => absurd q1 q2, fun b z => .inl (((i3 b).mp z).imp And.left id)⟩, i3⟩
end
/-! ### places as expressions -/
def tP (K : PySem.W.Frag) (lp : Rho → Option (Nat × List Sg)) : TE := fun σ H Q => ∃ M ρ F i p, Good K M H σ ρ F ∧ lp ρ = some (i, p) ∧ ∀ M' H' v v0, Ext M H M' H' → σ[i]? = some (some v0) → Fol H' v0 p v → Q v H'
abbrev EP (X : Cx) (e : Expr) (lp : Rho → Option (Nat × List Sg)) : Prop := PE X e (tP X.K lp)
def pV (i : Nat) : Rho → Option (Nat × List Sg) := fun ρ => (slot ρ i).map fun _ => (i, [])
def pAt (f : Str) (lp : Rho → Option (Nat × List Sg)) : Rho → Option (Nat × List Sg) := fun ρ => (lp ρ).bind fun q => match getAt ρ q.1 q.2 with
  | some (.obj c fs) => (lookF f fs).map fun _ => (q.1, q.2 ++ [.at_ f])
  | _ => none
def pIx (lp : Rho → Option (Nat × List Sg)) (f : Rho → Option T) : Rho → Option (Nat × List Sg) := fun ρ => (lp ρ).bind fun q => match getAt ρ q.1 q.2, f ρ with
  | some (.lst ts), some (.fr (.int k)) => (ixN ts.length k).map fun j => (q.1, q.2 ++ [.ix j])
  | _, _ => none
theorem Fol.app {H : Hp} : ∀ {v w u : V} {p q : List Sg}, Fol H v p w → Fol H w q u → Fol H v (p ++ q) u
  | _, _, _, _, _, .nil, h => h
  | _, _, _, _, _, .ix h e t, q => .ix h e (t.app q)
  | _, _, _, _, _, .at_ h e t, q => .at_ h e (t.app q)
theorem RpF.look {K : PySem.W.Frag} {M H : Hp} : ∀ {ts : List (Str × T)} {vs : List (Str × V)} {R : Fp} {f : Str} {t : T}, RpF K M H ts vs R → lookF f ts = some t → ∃ v R', vs.lookup f = some v ∧ Rp K M H t v R'
  | _, _, _, _, _, .nil, e => by cases e
  | _, _, _, f, t, .cons (k := g) (v := v) (vs := vs) h q d, e => by
    by_cases hg : g = f
    · subst hg
      simp [lookF] at e; subst e
      exact ⟨v, _, by simp [List.lookup], h⟩
    · simp only [lookF, hg, if_false] at e
      obtain ⟨v', R', e1, r⟩ := RpF.look q e
      refine ⟨v', R', ?_, r⟩
      rw [List.lookup_cons]
      have : (f == g) = false := by simpa using fun z => hg z.symm
      rw [this]; exact e1
section
variable {X : Cx} {W : WS} {pin : List Nat} {e a b : Expr} {es : List Expr} {pos p : Pos} {lp : Rho → Option (Nat × List Sg)}
theorem ep_var {i : Nat} {x : Str} (h : PE X (.Name x pos) (tVar i)) : EP X (.Name x pos) (pV i) := h.lv fun σ H Q ⟨M, ρ, F, j, p, g, e, q⟩ => by
  obtain ⟨t, e1, e2⟩ := Option.map_eq_some_iff.mp e
  cases e2
  obtain ⟨v, h1, r⟩ := g.sl i t (slot_some e1)
  exact ⟨v, h1, q M H v v (.refl g.le) h1 .nil⟩
/-- o.f, an attribute of an object of the class c -/
theorem ep_attr {f c : Str} (hf : NoAttr X.K (He.ga X.K c) f) (h : EP X e lp) (hb : attributeBase e f X.env (eval e X.env) = eval e X.env := by rfl) : EP X (.Attribute e f pos) (fun ρ => (lp ρ).bind fun q => match getAt ρ q.1 q.2 with
    | some (.obj c' fs) => if c' = c then (lookF f fs).map fun _ => (q.1, q.2 ++ [.at_ f]) else none
    | _ => none) := (pe_fld h hb).lv fun σ H Q ⟨M, ρ, F, j, p', g, e, q⟩ => by
  obtain ⟨⟨i, p⟩, e1, e⟩ := Option.bind_eq_some_iff.mp e
  split at e
  · next c' fs eg =>
    split at e
    · next hc =>
      have hf' : NoAttr X.K (He.ga X.K c') f := by rw [hc]; exact hf
      obtain ⟨t1, el, e2⟩ := Option.map_eq_some_iff.mp e
      cases e2
      refine ⟨M, ρ, F, i, p, g, e1, fun M1 H1 v v0 x1 hv fol => ?_⟩
      obtain ⟨R, r, s, _⟩ := (g.ext x1).focus hv fol eg
      cases r with
      | @obj a dx _ _ vs R' h1 h2 h3 h4 h5 h6 h7 h8 =>
        obtain ⟨v1, R1, ev, r1⟩ := h6.look el
        exact ⟨a, _, dx, vs, v1, rfl, h1, h5, hf', ev, q M1 H1 v1 v0 x1 hv (fol.app (.at_ h1 ev .nil))⟩
    · cases e
  · cases e
theorem ep_ix {f : Rho → Option T} (h : EP X a lp) (hb : EK X b f) (hs : PlainIx b) : EP X (.Subscript a b pos) (pIx lp f) := (pe_ix ix_list h hb hs).lv fun σ H Q ⟨M, ρ, F, j, p', g, e, q⟩ => by
  obtain ⟨⟨i, p⟩, e1, e⟩ := Option.bind_eq_some_iff.mp e
  split at e
  · next ts k eg ek =>
    obtain ⟨j', ej, e2⟩ := Option.map_eq_some_iff.mp e
    cases e2
    refine ⟨M, ρ, F, i, p, g, e1, fun M1 H1 v v0 x1 hv fol => ⟨M1, ρ, F, _, g.ext x1, ek, fun M2 H2 w R2 x2 r2 => ?_⟩⟩
    have fol2 := fol.same x2.h
    obtain ⟨R, r, s, _⟩ := (g.ext (x1.trans x2)).focus hv fol2 eg
    obtain ⟨a, vs, R', rfl, h1, h2, h3, h4, h5⟩ := r.lst_inv
    have hl := h3.length
    obtain ⟨_, hj, _⟩ := ixN_seq ej
    have hj' : j' < vs.length := by omega
    refine ⟨a, vs, k, vs[j'], rfl, r2.fr_inv.1.int_inv, .of h1, ?_, q M2 H2 _ v0 (x1.trans x2) hv (fol2.app (.ix h1 (List.getElem?_eq_getElem hj') .nil))⟩
    unfold atI
    rw [hl, ej]
    exact List.getElem?_eq_getElem hj'
  · cases e
/-- o.f, read -/
def kAttr (c f : Str) (g : Rho → Option T) : Rho → Option T := fun ρ => (g ρ).bind fun t => match t with
  | .obj c' fs => if c' = c then lookF f fs else none
  | _ => none
theorem ek_attr {f c : Str} {g : Rho → Option T} (hf : NoAttr X.K (He.ga X.K c) f) (h : EK X e g) (hb : attributeBase e f X.env (eval e X.env) = eval e X.env := by rfl) : EK X (.Attribute e f pos) (kAttr c f g) := (pe_fld h hb).lv fun σ H Q ⟨M, ρ, F, t, g, e, q⟩ => by
  obtain ⟨u, e1, e⟩ := Option.bind_eq_some_iff.mp e
  split at e
  · next c' fs =>
    split at e
    · next hc =>
      have hf' : NoAttr X.K (He.ga X.K c') f := by rw [hc]; exact hf
      refine ⟨M, ρ, F, _, g, e1, fun M1 H1 v R x1 r => ?_⟩
      cases r with
      | @obj a dx _ _ vs R' h1 h2 h3 h4 h5 h6 h7 h8 =>
        obtain ⟨v1, R1, ev, r1⟩ := h6.look e
        exact ⟨a, _, dx, vs, v1, rfl, h1, h5, hf', ev, q M1 H1 v1 R1 x1 r1⟩
    · cases e
  · cases e
/-! append -/
def sApp0 (i : Nat) (f : Rho → Option (Rs T)) : Rho → Option Out := fun ρ => match slot ρ i with
  | some (.lst _) => ofR (f ρ) fun t ρ1 => (match slot ρ1 i with
    | some (.lst ts) => if ts.length < SZ then some (.nx (ρ1.set i (some (.lst (ts ++ [t]))))) else none
    | _ => none)
  | _ => none
theorem grow_at {M H : Hp} {σ : L2.St} {ρ : Rho} {F : Nat → Fp} {P : Fp} {i : Nat} {pth : List Sg} {v0 v u : V} {ts : List T} {t : T} {R : Fp} {K : PySem.W.Frag} {C : L2.St → Hp → Prop} {ρ2 : Rho} (g : Good K M H σ ρ F) (hv : σ[i]? = some (some v0)) (fol : Fol H v0 pth v) (e : getAt ρ i pth = some (.lst ts)) (hl : ts.length < SZ)
    (r : Rp K M H t u R) (d : ∀ a, R a → ¬ Al F a) (hR : ∀ a, R a → P a) (hF : ∀ a, Al F a → P a) (e2 : setAt ρ i pth (.lst (ts ++ [t])) = some ρ2) (q : wN K pin M H P σ ρ2 C) :
    ∃ l xs y, v = .ref l ∧ [u] = [y] ∧ H l = some (.lst xs) ∧ xs.length < sizeLine ∧ C σ (upd H l (.lst (xs ++ [y]))) := by
  obtain ⟨a, vs, R1, rfl, h1, h2, h3, h4, h5, h6, up⟩ := g.wlist (ts' := ts ++ [t]) hv fol e
  refine ⟨a, vs, u, rfl, rfl, h1, by rw [h3.length, sizeLine_eq]; exact hl, ?_⟩
  have na : ¬ R a := fun z => d a z h5
  have kp : ∀ {R : Fp}, ¬ R a → Kp M M H (upd H a (.lst (vs ++ [u]))) R := fun {R} n => ⟨L2.Same.refl _, fun b r o e => by rw [upd_ne (fun z => by subst z; exact n r)]; exact e, fun _ _ e => e⟩
  obtain ⟨R3, h7, e7⟩ := (h3.keep (kp h4)).snoc (r.keep (kp na)) fun b z y => d b y (h6 b z)
  obtain ⟨ρ3, F3, e3, g3, S3, i3⟩ := up (vs ++ [u]) R3 h7 (fun z => ((e7 a).mp z).elim h4 na) fun b z y => ((e7 b).mp z).elim id fun w => absurd y (d b w)
  rw [e2] at e3; cases e3
  exact q M _ σ F3 (S3.sub (fun b z => z.elim (hF b) fun z => ((e7 b).mp z).elim (fun w => hF b (h6 b w)) (hR b)) fun b z => z) g3 .refl
theorem ss_app0 {i : Nat} {x : Str} {px apos : Pos} {f : Rho → Option (Rs T)} (ho : PE X (.Name x px) (tVar i)) (ha : EE X W e f)
    (hbase : attributeBase (.Name x px) "append" X.env (eval (.Name x px) X.env) = eval (.Name x px) X.env := by rfl) (hfew : ((backTo p (starEach (e :: []) X.env)).all (fun x => !x.1) && (backToKw p (keywordEach [] X.env)).all (fun x => x.1.isSome)
      && decide ((e :: ([] : List Expr)).length + ([] : List Keyword).length + (if ([] : List Keyword).isEmpty then 0 else 1) < 30)) = true := by rfl)
    (hline : (apos.endLine == p.line) = true := by rfl) (hs : starEach (e :: []) X.env = (false, eval e X.env) :: starEach [] X.env := by rfl) (hplain : (backTo p (starEach [] X.env)).any (·.1) = false := by rfl)
    (hs2 : swapsWith (.Call (.Attribute (.Name x px) "append" apos) [e] [] p) none pos.line X.env = pure false := by rfl) : SS X W pin (.Expr (.Call (.Attribute (.Name x px) "append" apos) [e] [] p) pos) (sApp0 i f) :=
  (ps_expr (pe_bm PySem.F.plainAttrs_list PySem.F.slot_list_append PySem.F.type_list_append mt_append ho (pa_cons ha pa_nil hs) hbase hfew hline hs hplain) hs2).lv fun D σ H ⟨M, ρ, F, o, g, e, q⟩ => by
  unfold sApp0 at e
  split at e
  · next ts0 e0 =>
    obtain ⟨v0, h0, r0⟩ := g.sl i _ (slot_some e0)
    refine ⟨v0, h0, ?_, ?_⟩
    · obtain ⟨a, vs, R', rfl, h1, _⟩ := r0.lst_inv
      exact .inl ⟨rfl, _, .of h1⟩
    · rcases ofR_some e with ⟨t, ρ1, e1, e⟩ | ⟨c, ρ1, e1, rfl⟩
      · refine ⟨M, ρ, F, _, g, e1, fun M1 H1 v R F1 S1 g1 r1 d1 => ?_⟩
        split at e
        · next ts e2 =>
          split at e
          · next hl =>
            cases e
            exact grow_at (pin := pin) (P := fun a => R a ∨ Al F1 a) (pth := []) g1 h0 .nil (by unfold getAt; rw [e2]; rfl) hl r1 d1 (fun a z => .inl z) (fun a z => .inr z) (by unfold setAt; rw [e2]; rfl) (q.go S1 .refl)
          · cases e
        · cases e
      · exact ⟨M, ρ, F, _, g, e1, fun M1 H1 F1 S1 g1 => q M1 H1 σ F1 S1 g1 .refl⟩
  · cases e
end
end Lv

set_option maxHeartbeats 2000000
namespace Lv
open PySem PySem.Spec PyProof.Rows L2
section
variable {X : Cx} {W : WS} {pin : List Nat} {e a b : Expr} {es : List Expr} {pos p : Pos} {lp : Rho → Option (Nat × List Sg)}
/-! a value made without touching what stands -/
def tQ (K : PySem.W.Frag) (f : Rho → Option (T × Rho)) : TE := fun σ H Q => ∃ M ρ F t ρ', Good K M H σ ρ F ∧ f ρ = some (t, ρ') ∧ ∀ M' H' v R F', Stp M H (Al F) M' H' (fun a => R a ∨ Al F' a) → L2.Same H H' → Good K M' H' σ ρ' F' → Rp K M' H' t v R → (∀ a, R a → ¬ Al F' a) → Q v H'
abbrev EQ (X : Cx) (e : Expr) (f : Rho → Option (T × Rho)) : Prop := PE X e (tQ X.K f)
def qK (f : Rho → Option T) : Rho → Option (T × Rho) := fun ρ => match f ρ with
  | some (.fr d) => some (.fr d, ρ)
  | _ => none
def qMv (i : Nat) : Rho → Option (T × Rho) := fun ρ => (slot ρ i).map fun t => (t, ρ.set i none)
def qCp (i : Nat) : Rho → Option (T × Rho) := fun ρ => (slot ρ i).bind fun t => t.dat.map fun d => (.fr d, ρ.set i (some (.fr d)))
theorem eq_k {f : Rho → Option T} (h : EK X e f) : EQ X e (qK f) := h.lv fun σ H Q ⟨M, ρ, F, t, ρ', g, e, q⟩ => by
  unfold qK at e
  split at e
  · next d e1 =>
    cases e
    refine ⟨M, ρ, F, _, g, e1, fun M1 H1 v R x1 r => ?_⟩
    have nr := r.fr_inv.2
    exact q M1 H1 v R F (x1.stp fun a z => .inl (z.elim (fun z => absurd z (nr a)) id)) x1.h (g.ext x1) r fun a z => absurd z (nr a)
  · cases e
theorem eq_mv {i : Nat} {x : Str} (h : PE X (.Name x pos) (tVar i)) : EQ X (.Name x pos) (qMv i) := h.lv fun σ H Q ⟨M, ρ, F, t, ρ', g, e, q⟩ => by
  obtain ⟨t', e1, e2⟩ := Option.map_eq_some_iff.mp e
  cases e2
  obtain ⟨v, h1, rp⟩ := g.sl i _ (slot_some e1)
  refine ⟨v, h1, q M H v (F i) _ (.refl fun a z => ?_) (L2.Same.refl _) (g.drop i) rp fun a z => ?_⟩
  · rcases z with z | ⟨j, _, z⟩
    · exact ⟨i, z⟩
    · exact ⟨j, z⟩
  · rintro ⟨j, ne, z'⟩
    exact ne (g.dj j i a z' z)
theorem eq_cp {i : Nat} {x : Str} (h : PE X (.Name x pos) (tVar i)) : EQ X (.Name x pos) (qCp i) := h.lv fun σ H Q ⟨M, ρ, F, t, ρ', g, e, q⟩ => by
  obtain ⟨t', e1, e⟩ := Option.bind_eq_some_iff.mp e
  obtain ⟨d, ed, e2⟩ := Option.map_eq_some_iff.mp e
  cases e2
  obtain ⟨v, h1, rp⟩ := g.sl i _ (slot_some e1)
  have S0 : Stp M H (Al F) M H (fun a => F i a ∨ Al (fun j a => j ≠ i ∧ F j a) a) := .refl fun a z => by
    rcases z with z | ⟨j, _, z⟩
    · exact ⟨i, z⟩
    · exact ⟨j, z⟩
  have dj : ∀ a, F i a → ¬ Al (fun j a => j ≠ i ∧ F j a) a := fun a z ⟨j, ne, z'⟩ => ne (g.dj j i a z' z)
  obtain ⟨S1, le1, kp⟩ := S0.frz rp dj g.le
  have dz := rp.freeze ed
  have g1 := (g.drop i).keep kp le1
  have g2 := g1.reput h1 (.fr dz) (fun a z => z.elim)
  refine ⟨v, h1, q _ H v (fun _ => False) _ (S1.sub (fun _ z => z) fun a z => ?_) (L2.Same.refl _) (by rw [List.set_set] at g2; exact g2) (.fr dz) fun a z => z.elim⟩
  rcases z with z | ⟨j, z⟩
  · exact z.elim
  · by_cases y : j = i
    · simp [y] at z
    · simp only [y, if_false] at z
      exact ⟨j, z⟩
/-- append at a place -/
def sAppP (lp : Rho → Option (Nat × List Sg)) (f : Rho → Option (T × Rho)) : Rho → Option Out := fun ρ => (lp ρ).bind fun q => match getAt ρ q.1 q.2 with
  | some (.lst _) => (f ρ).bind fun r => (match getAt r.2 q.1 q.2 with
    | some (.lst ts) => if ts.length < SZ then (setAt r.2 q.1 q.2 (.lst (ts ++ [r.1]))).map .nx else none
    | _ => none)
  | _ => none
theorem ss_appP {o : Expr} {apos : Pos} {f : Rho → Option (T × Rho)} (ho : EP X o lp) (ha : EQ X e f)
    (hbase : attributeBase o "append" X.env (eval o X.env) = eval o X.env := by rfl) (hfew : ((backTo p (starEach (e :: []) X.env)).all (fun x => !x.1) && (backToKw p (keywordEach [] X.env)).all (fun x => x.1.isSome)
      && decide ((e :: ([] : List Expr)).length + ([] : List Keyword).length + (if ([] : List Keyword).isEmpty then 0 else 1) < 30)) = true := by rfl)
    (hline : (apos.endLine == p.line) = true := by rfl) (hs : starEach (e :: []) X.env = (false, eval e X.env) :: starEach [] X.env := by rfl) (hplain : (backTo p (starEach [] X.env)).any (·.1) = false := by rfl)
    (hs2 : swapsWith (.Call (.Attribute o "append" apos) [e] [] p) none pos.line X.env = pure false := by rfl) : SS X W pin (.Expr (.Call (.Attribute o "append" apos) [e] [] p) pos) (sAppP lp f) :=
  (ps_expr (pe_bm PySem.F.plainAttrs_list PySem.F.slot_list_append PySem.F.type_list_append mt_append ho (pa_cons ha pa_nil hs) hbase hfew hline hs hplain) hs2).lv fun D σ H ⟨M, ρ, F, o, g, e, q⟩ => by
  obtain ⟨⟨i, pth⟩, e1, e⟩ := Option.bind_eq_some_iff.mp e
  split at e
  · next ts0 e0 =>
    obtain ⟨⟨t, ρ1⟩, e2, e⟩ := Option.bind_eq_some_iff.mp e
    split at e
    · next ts e3 =>
      split at e
      · next hl =>
        obtain ⟨ρ2, e4, e5⟩ := Option.map_eq_some_iff.mp e
        subst e5
        refine ⟨M, ρ, F, i, pth, g, e1, fun M1 H1 v v0 x1 hv fol => ⟨?_, M1, ρ, F, t, ρ1, g.ext x1, e2, fun M2 H2 u R F2 S2 sm g2 r2 d2 => ?_⟩⟩
        · obtain ⟨R, r, s, _⟩ := (g.ext x1).focus hv fol e0
          obtain ⟨a, vs, R', rfl, h1, _⟩ := r.lst_inv
          exact .inl ⟨rfl, _, .of h1⟩
        · exact grow_at (pin := pin) (P := fun a => R a ∨ Al F2 a) g2 hv (fol.same sm) e3 hl r2 d2 (fun a z => .inl z) (fun a z => .inr z) e4 (q.go ((x1.stp fun a z => .inl z : Stp M H (Al F) M1 H1 (Al F)).trans S2) .refl)
      · cases e
    · cases e
  · cases e
/-- xs[k] = e at a place -/
def sSetIx (lp : Rho → Option (Nat × List Sg)) (kf : Rho → Option T) (f : Rho → Option (Rs T)) : Rho → Option Out := fun ρ => ofR (f ρ) fun t ρ1 => (lp ρ1).bind fun q => match getAt ρ1 q.1 q.2, kf ρ1 with
  | some (.lst ts), some (.fr (.int k)) => (ixN ts.length k).bind fun j => (setAt ρ1 q.1 q.2 (.lst (ts.set j t))).map .nx
  | _, _ => none
theorem RpL.setAt {K : PySem.W.Frag} {M H : Hp} {ts : List T} {vs : List V} {R : Fp} {j : Nat} {t : T} {v : V} {R2 : Fp} (h : RpL K M H ts vs R) (hj : j < ts.length) (r : Rp K M H t v R2) (d : ∀ a, R a → ¬ R2 a) : ∃ R3, RpL K M H (ts.set j t) (vs.set j v) R3 ∧ ∀ a, R3 a → R a ∨ R2 a := by
  induction h using RpL.rec (motive_1 := fun _ _ _ _ => True) (motive_3 := fun _ _ _ _ => True) (motive_4 := fun _ _ _ _ => True) generalizing j with
  | nil => simp at hj
  | @cons x v' xs vs R0 R' h t' dj _ ih =>
    cases j with
    | zero => exact ⟨_, .cons r t' fun a z y => d a (.inr y) z, fun a z => z.elim .inr fun z => .inl (.inr z)⟩
    | succ j =>
      obtain ⟨R3, h3, e3⟩ := ih (j := j) (by simpa using hj) fun a z => d a (.inr z)
      exact ⟨_, .cons h h3 fun a z y => (e3 a y).elim (dj a z) (d a (.inl z)), fun a z => z.elim (fun z => .inl (.inl z)) fun z => (e3 a z).imp_left .inr⟩
  | _ => trivial
theorem ss_setIx {o ie : Expr} {tpos : Pos} {kf : Rho → Option T} {f : Rho → Option (Rs T)} (he : EE X W e f) (ho : EP X o lp) (hi : EK X ie kf)
    (ha : ∀ v, assign (.Subscript o ie tpos) X.env v = (do
      let ov ← holding [v] (eval o X.env)
      let iv ← holding [v, ov] (eval ie X.env)
      standAt tpos
      holding [v, ov, iv] (setItem ov iv v)
      release [v, ov, iv] []) := by intro _; rfl)
    (hs : swapsWithSole [.Subscript o ie tpos] e pos.line X.env = pure false := by rfl) (hw : swappedStores [.Subscript o ie tpos] e X.env = pure none := by rfl) (h1 : (assignEach [.Subscript o ie tpos] X.env).map (·.2) = [assign (.Subscript o ie tpos) X.env] := by rfl) :
    SS X W pin (.Assign [.Subscript o ie tpos] e pos) (sSetIx lp kf f) := (ps_asg he (pg_sub ho hi set_list ha) hs hw h1).lv fun D σ H h => ts_te h fun M1 H1 t v R F1 ρ1 o P e g1 r1 d1 hR hF q => by
  obtain ⟨⟨i, pth⟩, e1, e⟩ := Option.bind_eq_some_iff.mp e
  split at e
  · next ts k eg ek =>
    obtain ⟨j, ej, e⟩ := Option.bind_eq_some_iff.mp e
    obtain ⟨ρ2, e4, e5⟩ := Option.map_eq_some_iff.mp e
    subst e5
    refine ⟨M1, ρ1, F1, i, pth, g1, e1, fun M2 H2 w v0 x2 hv fol => ⟨M2, ρ1, F1, _, g1.ext x2, ek, fun M3 H3 u R3 x3 r3 => ?_⟩⟩
    have g3 := g1.ext (x2.trans x3)
    have r13 := r1.ext (x2.trans x3)
    obtain ⟨a, vs, R', rfl, h1, h2, h3, h4, h5, h6, up⟩ := g3.wlist (ts' := ts.set j t) hv (fol.same x3.h) eg
    obtain ⟨_, hj, _⟩ := ixN_seq ej
    refine ⟨a, vs, k, j, rfl, r3.fr_inv.1.int_inv, h1, by rw [h3.length]; exact ej, ?_⟩
    have na : ¬ R a := fun z => d1 a z h5
    have kp : ∀ {R : Fp}, ¬ R a → Kp M3 M3 H3 (upd H3 a (.lst (vs.set j v))) R := fun {R} n => ⟨L2.Same.refl _, fun b r o e => by rw [upd_ne (fun z => by subst z; exact n r)]; exact e, fun _ _ e => e⟩
    obtain ⟨R4, h7, e7⟩ := (h3.keep (kp h4)).setAt hj (r13.keep (kp na)) fun b z y => d1 b y (h6 b z)
    obtain ⟨ρ3, F3, e3, g4, S4, i4⟩ := up (vs.set j v) R4 h7 (fun z => (e7 a z).elim h4 na) fun b z y => (e7 b z).elim id fun w => absurd y (d1 b w)
    rw [e4] at e3; cases e3
    refine q M3 _ σ F3 (((x2.trans x3).stp fun a (z : P a) => .inl z : Stp M1 H1 P M3 H3 P).trans (S4.sub (fun b z => z.elim (hF b) fun z => (e7 b z).elim (fun w => hF b (h6 b w)) (hR b)) fun b z => z)) g4 .refl
  · cases e
/-! pop -/
def ePop (lp : Rho → Option (Nat × List Sg)) : Rho → Option (Rs T) := fun ρ => (lp ρ).bind fun q => match getAt ρ q.1 q.2 with
  | some (.lst ts) => (ts[ts.length - 1]?).bind fun t => (setAt ρ q.1 q.2 (.lst ts.dropLast)).map fun ρ2 => .ok t ρ2
  | _ => none
def ePopAt (lp : Rho → Option (Nat × List Sg)) (kf : Rho → Option T) : Rho → Option (Rs T) := fun ρ => (lp ρ).bind fun q => match getAt ρ q.1 q.2, kf ρ with
  | some (.lst ts), some (.fr (.int k)) => if -4611686018427387904 ≤ k ∧ k ≤ 4611686018427387904 then (ixN ts.length k).bind fun j => (ts[j]?).bind fun t => (setAt ρ q.1 q.2 (.lst (ts.eraseIdx j))).map fun ρ2 => .ok t ρ2 else none
  | _, _ => none
theorem RpL.erase {K : PySem.W.Frag} {M H : Hp} {ts : List T} {vs : List V} {R : Fp} {j : Nat} {t : T} {v : V} (h : RpL K M H ts vs R) (ht : ts[j]? = some t) (hv : vs[j]? = some v) : ∃ R1 R3, Rp K M H t v R1 ∧ RpL K M H (ts.eraseIdx j) (vs.eraseIdx j) R3 ∧ (∀ a, R1 a → R a) ∧ (∀ a, R3 a → R a) ∧ ∀ a, R1 a → ¬ R3 a := by
  induction h using RpL.rec (motive_1 := fun _ _ _ _ => True) (motive_3 := fun _ _ _ _ => True) (motive_4 := fun _ _ _ _ => True) generalizing j with
  | nil => simp at ht
  | @cons x v' xs vs R0 R' h t' dj _ ih =>
    cases j with
    | zero =>
      simp at ht hv; subst ht; subst hv
      exact ⟨R0, R', h, t', fun a => .inl, fun a => .inr, dj⟩
    | succ j =>
      obtain ⟨R1, R3, r1, r3, s1, s3, d⟩ := ih (j := j) (by simpa using ht) (by simpa using hv)
      exact ⟨R1, _, r1, .cons h r3 fun a z y => dj a z (s3 a y), fun a z => .inr (s1 a z), fun a z => z.elim .inl fun z => .inr (s3 a z), fun a z y => y.elim (fun y => dj a y (s1 a z)) (d a z)⟩
  | _ => trivial
theorem pop_at {K : PySem.W.Frag} {M H M0 H0 : Hp} {P : Fp} {σ : L2.St} {ρ ρ2 : Rho} {F : Nat → Fp} {i : Nat} {pth : List Sg} {v0 v : V} {ts : List T} {t : T} {j : Nat} {Q : VK} (g : Good K M H σ ρ F) (hv : σ[i]? = some (some v0)) (fol : Fol H v0 pth v) (e : getAt ρ i pth = some (.lst ts)) (et : ts[j]? = some t)
    (e2 : setAt ρ i pth (.lst (ts.eraseIdx j)) = some ρ2) (S0 : Stp M0 H0 P M H (Al F)) (q : ∀ M' H' v R F', Stp M0 H0 P M' H' (fun a => R a ∨ Al F' a) → Good K M' H' σ ρ2 F' → Rp K M' H' t v R → (∀ a, R a → ¬ Al F' a) → Q v H') :
    ∃ l xs y, v = .ref l ∧ H l = some (.lst xs) ∧ xs.length = ts.length ∧ xs[j]? = some y ∧ Q y (upd H l (.lst (xs.eraseIdx j))) := by
  obtain ⟨a, vs, R', rfl, h1, h2, h3, h4, h5, h6, up⟩ := g.wlist (ts' := ts.eraseIdx j) hv fol e
  have hj : j < vs.length := by rw [h3.length]; exact (List.getElem?_eq_some_iff.mp et).1
  obtain ⟨R1, R3, r1, r3, s1, s3, d⟩ := h3.erase et (List.getElem?_eq_getElem hj)
  refine ⟨a, vs, vs[j], rfl, h1, h3.length, List.getElem?_eq_getElem hj, ?_⟩
  have kp : ∀ {R : Fp}, ¬ R a → Kp M M H (upd H a (.lst (vs.eraseIdx j))) R := fun {R} n => ⟨L2.Same.refl _, fun b r o e => by rw [upd_ne (fun z => by subst z; exact n r)]; exact e, fun _ _ e => e⟩
  have n1 : ¬ R1 a := fun z => h4 (s1 a z)
  have n3 : ¬ R3 a := fun z => h4 (s3 a z)
  obtain ⟨ρ3, F3, e3, g4, S4, i4⟩ := up (vs.eraseIdx j) R3 (r3.keep (kp n3)) n3 fun b z _ => s3 b z
  rw [e2] at e3; cases e3
  refine q M _ vs[j] R1 F3 (S0.trans ⟨L2.Same.refl _, fun b o e n => by rw [upd_ne (fun z => n (by rw [z]; exact h5))]; exact e, fun b q1 q2 => absurd q1 q2, fun b z => ?_⟩) g4 (r1.keep (kp n1)) fun b z y => ?_
  · rcases z with z | z
    · exact .inl (h6 b (s1 b z))
    · rcases (i4 b).mp z with z | z
      · exact .inl z.1
      · exact .inl (h6 b (s3 b z))
  · rcases (i4 b).mp y with y | y
    · exact y.2 (s1 b z)
    · exact d b z y
theorem drop_erase {α : Type} : ∀ (l : List α), l.dropLast = l.eraseIdx (l.length - 1)
  | [] => rfl
  | [x] => rfl
  | x :: y :: l => by
    have h := drop_erase (y :: l)
    simp only [List.length_cons, Nat.add_sub_cancel] at h ⊢
    rw [List.dropLast_cons₂, h]
    simp
theorem ee_pop {o : Expr} {apos : Pos} (ho : EP X o lp) (hbase : attributeBase o "pop" X.env (eval o X.env) = eval o X.env := by rfl) (hline : (apos.endLine == p.line) = true := by rfl) : EE X W (.Call (.Attribute o "pop" apos) [] [] p) (ePop lp) :=
  (pe_bm0 PySem.F.plainAttrs_list PySem.F.slot_list_pop PySem.F.type_list_pop mt_pop ho hbase hline).lv fun σ H Q ⟨M, ρ, F, r, g, e, q⟩ => by
  obtain ⟨⟨i, pth⟩, e1, e⟩ := Option.bind_eq_some_iff.mp e
  split at e
  · next ts eg =>
    obtain ⟨t, et, e⟩ := Option.bind_eq_some_iff.mp e
    obtain ⟨ρ2, e4, e5⟩ := Option.map_eq_some_iff.mp e
    subst e5
    refine ⟨M, ρ, F, i, pth, g, e1, fun M1 H1 v v0 x1 hv fol => ?_⟩
    have hd : ts.dropLast = ts.eraseIdx (ts.length - 1) := drop_erase ts
    rw [hd] at e4
    obtain ⟨l, xs, y, rfl, h1, h2, h3, h4⟩ := pop_at (g.ext x1) hv fol eg et e4 (x1.stp fun a z => .inl z : Stp M H (Al F) M1 H1 (Al F)) q
    refine ⟨.inl ⟨rfl, _, .of h1⟩, l, xs, y, rfl, rfl, h1, by rw [h2]; exact h3, ?_⟩
    have hd2 : xs.dropLast = xs.eraseIdx (ts.length - 1) := by rw [← h2]; exact drop_erase xs
    rw [hd2]; exact h4
  · cases e
theorem ee_popAt {o : Expr} {apos : Pos} {kf : Rho → Option T} (ho : EP X o lp) (ha : EK X e kf) (hbase : attributeBase o "pop" X.env (eval o X.env) = eval o X.env := by rfl) (hfew : ((backTo p (starEach (e :: []) X.env)).all (fun x => !x.1) && (backToKw p (keywordEach [] X.env)).all (fun x => x.1.isSome)
      && decide ((e :: ([] : List Expr)).length + ([] : List Keyword).length + (if ([] : List Keyword).isEmpty then 0 else 1) < 30)) = true := by rfl)
    (hline : (apos.endLine == p.line) = true := by rfl) (hs : starEach (e :: []) X.env = (false, eval e X.env) :: starEach [] X.env := by rfl) (hplain : (backTo p (starEach [] X.env)).any (·.1) = false := by rfl) : EE X W (.Call (.Attribute o "pop" apos) [e] [] p) (ePopAt lp kf) :=
  (pe_bm PySem.F.plainAttrs_list PySem.F.slot_list_pop PySem.F.type_list_pop mt_popAt ho (pa_cons ha pa_nil hs) hbase hfew hline hs hplain).lv fun σ H Q ⟨M, ρ, F, r, g, e, q⟩ => by
  obtain ⟨⟨i, pth⟩, e1, e⟩ := Option.bind_eq_some_iff.mp e
  split at e
  · next ts k eg ek =>
   split at e
   · next hk =>
    obtain ⟨j, ej, e⟩ := Option.bind_eq_some_iff.mp e
    obtain ⟨t, et, e⟩ := Option.bind_eq_some_iff.mp e
    obtain ⟨ρ2, e4, e5⟩ := Option.map_eq_some_iff.mp e
    subst e5
    refine ⟨M, ρ, F, i, pth, g, e1, fun M1 H1 v v0 x1 hv fol => ?_⟩
    have tl : tyV X.K "list" v H1 := by
      obtain ⟨R, r, s, _⟩ := (g.ext x1).focus hv fol eg
      obtain ⟨a, vs, R', rfl, h1, _⟩ := r.lst_inv
      exact .inl ⟨rfl, _, .of h1⟩
    refine ⟨tl, M1, ρ, F, _, g.ext x1, ek, fun M2 H2 u R2 x2 r2 => ?_⟩
    obtain ⟨l, xs, y, rfl, h1, h2, h3, h4⟩ := pop_at (g.ext (x1.trans x2)) hv (fol.same x2.h) eg et e4 ((x1.trans x2).stp fun a z => .inl z : Stp M H (Al F) M2 H2 (Al F)) q
    obtain ⟨e6, hj, hlo, hhi⟩ := ixN_seq ej
    exact ⟨l, xs, k, j, y, rfl, by rw [r2.fr_inv.1.int_inv], h1, by omega, by omega, by rw [h2]; exact e6, h3, h4⟩
   · cases e
  · cases e
end
end Lv

set_option maxHeartbeats 2000000
namespace Lv
open PySem PySem.Spec PyProof.Rows L2
def kill (ks : List Nat) (f : Rho → Option Out) : Rho → Option Out := fun ρ => match f ρ with
  | some (.nx ρ1) => some (.nx (wipeR ρ1 ks))
  | some (.ct ρ1) => some (.ct (wipeR ρ1 ks))
  | o => o
def loopW (fc : Rho → Option (Rs Bool)) (fb : Rho → Option Out) : Nat → Rho → Option Out
  | 0, _ => none
  | n + 1, ρ => match fc ρ with
    | some (.ok true ρ1) => (match fb ρ1 with
      | some (.nx ρ2) => loopW fc fb n ρ2
      | some (.ct ρ2) => loopW fc fb n ρ2
      | some (.bk ρ2) => some (.nx ρ2)
      | o => o)
    | some (.ok false ρ1) => some (.nx ρ1)
    | some (.ex c ρ1) => some (.ex c ρ1)
    | none => none
@[irreducible] def big : Nat := 1000000000000
def sWhile (fc : Rho → Option (Rs Bool)) (fb : Rho → Option Out) : Rho → Option Out := loopW fc fb big
def loopF (g : D → Rho → Option Rho) (fb fe : Rho → Option Out) : List D → Rho → Option Out
  | [], ρ => fe ρ
  | d :: ds, ρ => match g d ρ with
    | some ρ1 => (match fb ρ1 with
      | some (.nx ρ2) => loopF g fb fe ds ρ2
      | some (.ct ρ2) => loopF g fb fe ds ρ2
      | some (.bk ρ2) => some (.nx ρ2)
      | o => o)
    | none => none
def sFor (fi : Rho → Option (Rs (List D))) (g : D → Rho → Option Rho) (fb : Rho → Option Out) : Rho → Option Out := fun ρ => ofR (fi ρ) fun ds ρ1 => loopF g fb sNil ds ρ1
def sForE (fi : Rho → Option (Rs (List D))) (g : D → Rho → Option Rho) (fb fe : Rho → Option Out) : Rho → Option Out := fun ρ => ofR (fi ρ) fun ds ρ1 => loopF g fb fe ds ρ1
section
variable {K : PySem.W.Frag} {M H : Hp} {σ : L2.St} {ρ : Rho} {F : Nat → Fp}
theorem Good.wipeρ (g : Good K M H σ ρ F) : ∀ vs : List Nat, ∃ F', Good K M H σ (wipeR ρ vs) F' ∧ ∀ a, Al F' a → Al F a
  | [] => ⟨F, g, fun _ z => z⟩
  | v :: vs => by
    obtain ⟨F1, g1, s1⟩ := g.wipeρ vs
    exact ⟨_, g1.drop v, fun a ⟨j, _, z⟩ => s1 a ⟨j, z⟩⟩
end
section
variable {X : Cx} {W : WS} {pin : List Nat} {e a b c tg iter : Expr} {es : List Expr} {pos p : Pos} {body orelse : List Stmt}
theorem wN_kill {K : PySem.W.Frag} {M H : Hp} {P : Fp} {σ : L2.St} {ρ : Rho} {ks : List Nat} {C : L2.St → Hp → Prop} (h : wN K pin M H P σ (wipeR ρ ks) C) : wN K pin M H P σ ρ C := fun M' H' σ' F' S g p => by
  obtain ⟨F2, g2, s2⟩ := g.wipeρ ks
  exact h M' H' σ' F2 (S.sub (fun _ z => z) s2) g2 p
theorem sb_kill {f : Rho → Option Out} (ks : List Nat) (h : SB X W pin body f) : SB X W pin body (kill ks f) := h.lv fun D σ H ⟨M, ρ, F, o, g, e, q⟩ => by
  unfold kill at e
  split at e
  · next ρ1 e1 => cases e; exact ⟨M, ρ, F, _, g, e1, wN_kill q⟩
  · next ρ1 e1 => cases e; exact ⟨M, ρ, F, _, g, e1, wN_kill q⟩
  · exact ⟨M, ρ, F, o, g, e, q⟩
theorem ts_while {K : PySem.W.Frag} {fc : Rho → Option (Rs Bool)} {fb : Rho → Option Out} {D : Ends} {σ : L2.St} {H : Hp} {n : Nat} (h : tS K W pin (loopW fc fb n) D σ H) : tWhile (tT K W fc) (tS K W pin fb) D σ H := by
  obtain ⟨M, ρ, F, o, g, e, q⟩ := h
  refine ⟨fun m σ' H' => ∃ M' ρ' F', Good K M' H' σ' ρ' F' ∧ loopW fc fb m ρ' = some o ∧ wO K W pin M' H' (Al F') σ' D o, ⟨n, M, ρ, F, g, e, q⟩, fun m σ1 H1 ⟨M1, ρ1, F1, g1, e1, q1⟩ => ?_⟩
  cases m with
  | zero => cases e1
  | succ m =>
    simp only [loopW] at e1
    split at e1
    · next ρ2 ec =>
      refine ⟨M1, ρ1, F1, _, g1, ec, fun M2 H2 F2 S2 g2 => ?_⟩
      refine iteT ?_
      refine ⟨fun σ' H' => ∃ M' ρ' F', Good K M' H' σ' ρ' F' ∧ loopW fc fb m ρ' = some o ∧ wO K W pin M' H' (Al F') σ' D o, fun σ' H' z => ⟨m, Nat.lt_succ_self m, z⟩, ?_⟩
      split at e1
      · next ρ3 eb => exact ⟨M2, ρ2, F2, _, g2, eb, fun M3 H3 σ3 F3 S3 g3 p3 => ⟨M3, ρ3, F3, g3, e1, q1.go (S2.trans S3) p3⟩⟩
      · next ρ3 eb => exact ⟨M2, ρ2, F2, _, g2, eb, fun M3 H3 σ3 F3 S3 g3 p3 => ⟨M3, ρ3, F3, g3, e1, q1.go (S2.trans S3) p3⟩⟩
      · next ρ3 eb =>
        cases e1
        exact ⟨M2, ρ2, F2, _, g2, eb, (q1.go S2 .refl : wO K W pin M2 H2 (Al F2) σ1 D (.nx ρ3))⟩
      · next h1 h2 h3 =>
        refine ⟨M2, ρ2, F2, o, g2, e1, ?_⟩
        have q2 := q1.go S2 (.refl (pin := pin))
        cases o with
        | nx ρ3 => exact absurd e1 (h1 ρ3)
        | ct ρ3 => exact absurd e1 (h2 ρ3)
        | bk ρ3 => exact absurd e1 (h3 ρ3)
        | rt t ρ3 => exact q2
        | ex c ρ3 => exact q2
    · next ρ2 ec =>
      cases e1
      refine ⟨M1, ρ1, F1, _, g1, ec, fun M2 H2 F2 S2 g2 => ?_⟩
      refine iteF ?_
      exact q1 M2 H2 σ1 F2 S2 g2 .refl
    · next c ρ2 ec =>
      cases e1
      exact ⟨M1, ρ1, F1, _, g1, ec, fun M2 H2 F2 S2 g2 => q1 M2 H2 σ1 F2 S2 g2 .refl⟩
    · cases e1
theorem ss_while {fc : Rho → Option (Rs Bool)} {fb : Rho → Option Out} (hp : PassesOwn (model X.prog X.w) X.A X.env X.xe) (hc : ET X W c fc) (hb : SB X W pin body fb) : SS X W pin (.While c body [] pos) (sWhile fc fb) := (ps_while hp hc hb).lv fun D σ H h => ts_while h
theorem ts_for {K : PySem.W.Frag} {fi : Rho → Option (Rs (List D))} {as : List Nat} {g : D → Rho → Option Rho} {fb fe : Rho → Option Out} {D : Ends} {σ : L2.St} {H : Hp} (hp : ∀ j ∈ pin, j ∉ as) (h : tS K W pin (sForE fi g fb fe) D σ H) : tForE (tI K W fi) (tG K as g) (tS K W pin fb) (tS K W pin fe) D σ H := by
  obtain ⟨M, ρ, F, o, g0, e, q⟩ := h
  rcases ofR_some e with ⟨ds, ρ1, e1, e⟩ | ⟨c, ρ1, e1, rfl⟩
  · refine ⟨M, ρ, F, _, g0, e1, fun M1 H1 F1 J S1 g1 its hl => ?_⟩
    refine ⟨fun i m σ' H' => m + i = ds.length ∧ ∃ M' ρ' F', Good K M' H' σ' ρ' F' ∧ L2.Same M1 M' ∧ loopF g fb fe (ds.drop i) ρ' = some o ∧ wO K W pin M' H' (Al F') σ' D o, ⟨ds.length, rfl, M1, ρ1, F1, g1, L2.Same.refl _, by simpa using e, q.go S1 .refl⟩, ?_⟩
    rintro i m σ1 H2 ⟨hm, M2, ρ2, F2, g2, mm, e2, q2⟩
    have its2 := its M2 H2 mm g2.le i
    by_cases hi : i < ds.length
    · refine .inr ⟨its2.1 hi, fun σ' H' => m ≠ 0 ∧ (m - 1) + (i + 1) = ds.length ∧ ∃ M' ρ' F', Good K M' H' σ' ρ' F' ∧ L2.Same M1 M' ∧ loopF g fb fe (ds.drop (i + 1)) ρ' = some o ∧ wO K W pin M' H' (Al F') σ' D o, fun σ' H' ⟨h0, h1, h2⟩ => ⟨m - 1, by omega, h1, h2⟩, fun x H3 y => ?_⟩
      have hm0 : m ≠ 0 := by omega
      obtain ⟨M3, x3, dz⟩ := its2.2.2 x H3 ds[i] (List.getElem?_eq_getElem hi) y
      rw [ds_drop hi] at e2
      simp only [loopF] at e2
      split at e2
      · next ρ3 eg =>
        refine ⟨M3, ρ2, F2, _, ρ3, g2.ext x3, dz, eg, fun σ4 F4 g4 s4 k4 _ => ?_⟩
        have S4 : Stp M2 H2 (Al F2) M3 H3 (Al F4) := (x3.stp fun a z => .inl (s4 a z))
        have p4 : Pin pin σ1 σ4 := fun j hj => k4 j (hp j hj)
        have q4 := q2.go S4 p4
        split at e2
        · next ρ5 eb => exact ⟨M3, ρ3, F4, _, g4, eb, fun M5 H5 σ5 F5 S5 g5 p5 => ⟨hm0, by omega, M5, ρ5, F5, g5, (mm.trans x3.m).trans S5.m, e2, q4.go S5 p5⟩⟩
        · next ρ5 eb => exact ⟨M3, ρ3, F4, _, g4, eb, fun M5 H5 σ5 F5 S5 g5 p5 => ⟨hm0, by omega, M5, ρ5, F5, g5, (mm.trans x3.m).trans S5.m, e2, q4.go S5 p5⟩⟩
        · next ρ5 eb =>
          cases e2
          exact ⟨M3, ρ3, F4, _, g4, eb, q4⟩
        · next h1 h2 h3 =>
          refine ⟨M3, ρ3, F4, o, g4, e2, ?_⟩
          cases o with
          | nx ρ3 => exact absurd e2 (h1 ρ3)
          | ct ρ3 => exact absurd e2 (h2 ρ3)
          | bk ρ3 => exact absurd e2 (h3 ρ3)
          | rt t ρ3 => exact q4
          | ex c ρ3 => exact q4
      · cases e2
    · refine .inl ⟨its2.2.1 (by omega), ?_⟩
      rw [List.drop_eq_nil_of_le (by omega)] at e2
      exact ⟨M2, ρ2, F2, o, g2, e2, q2⟩
  · exact ⟨M, ρ, F, _, g0, e1, fun M1 H1 F1 S1 g1 => q M1 H1 σ F1 S1 g1 .refl⟩
theorem tForE_nil {wi : TI} {g : TG} {tb : TS} {D : Ends} {σ : L2.St} {H : Hp} {K : PySem.W.Frag} (h : tForE wi g tb (tS K W pin sNil) D σ H) (hm : ∀ {σ H} {R R' : It → Hp → Prop}, wi σ H R → (∀ J H, R J H → R' J H) → wi σ H R') : tFor wi g tb D σ H :=
  hm h fun J H1 ⟨Wv, h0, hs⟩ => ⟨Wv, h0, fun i m σ H w => (hs i m σ H w).imp_left fun z => ⟨z.1, ts_nx z.2⟩⟩
theorem tI_mono {K : PySem.W.Frag} {fi : Rho → Option (Rs (List D))} {σ : L2.St} {H : Hp} {R R' : It → Hp → Prop} (h : tI K W fi σ H R) (i : ∀ J H, R J H → R' J H) : tI K W fi σ H R' := by
  obtain ⟨M, ρ, F, r, g, e, q⟩ := h
  refine ⟨M, ρ, F, r, g, e, ?_⟩
  cases r with
  | ok ds ρ' => exact fun M' H' F' J S g' it hl => i J H' (q M' H' F' J S g' it hl)
  | ex c ρ' => exact q
theorem ss_for {fi : Rho → Option (Rs (List D))} {as : List Nat} {g : D → Rho → Option Rho} {fb : Rho → Option Out} (hpi : ∀ j ∈ pin, j ∉ as) (hp : PassesOwn (model X.prog X.w) X.A X.env X.xe) (hc : X.calm = true) (hi : EI X W tg iter fi) (hg : EG X as tg g) (hb : SB X W pin body fb)
    (hs : ∀ x, foldedSetIterable iter X.env x = pure x := by intro _; rfl) : SS X W pin (.For tg iter body [] pos) (sFor fi g fb) := (ps_for hp hc hi hg hb hs).lv fun D σ H h => tForE_nil (ts_for hpi h) fun h i => tI_mono h i
theorem ss_forE {fi : Rho → Option (Rs (List D))} {as : List Nat} {g : D → Rho → Option Rho} {fb fe : Rho → Option Out} (hpi : ∀ j ∈ pin, j ∉ as) (hp : PassesOwn (model X.prog X.w) X.A X.env X.xe) (hc : X.calm = true) (hi : EI X W tg iter fi) (hg : EG X as tg g) (hb : SB X W pin body fb) (ho : SB X W pin orelse fe)
    (hs : ∀ x, foldedSetIterable iter X.env x = pure x := by intro _; rfl) : SS X W pin (.For tg iter body orelse pos) (sForE fi g fb fe) := (ps_forE hp hc hi hg hb ho hs).lv fun D σ H h => ts_for hpi h
/-! raise -/
def sRaise (c : Str) : Rho → Option Out := fun ρ => some (.ex c ρ)
theorem ss_raise {x m : Str} {j : Nat} {px p2 pos2 : Pos} (tk : Takes X (wx X.K W)) (hc : X.calm = true) (q : PySem.W.excIn X.K (He.ga X.K x) He.veBase "ValueError.__new__" = true) (gC : X.mg x = some (.ref (He.ga X.K x))) (kC : PySem.W.keepIn X.K (.ref (He.ga X.K x)) = true)
    (s1 : PySem.W.subIn X.K (.ref (He.ga X.K x)) (.type "BaseException") = some true) (s2 : PySem.W.typeIn X.K (.ref (He.ga X.K x)) = some (.type "type")) (hg : Gl X x) (hdb : (x == ("__debug__" : Str)) = false := by decide) :
    SS X W pin (.Raise (some (.Call (.Name x px) [.Constant (.str m) j p2] [] pos2)) none pos) (sRaise x) := (ps_raise hc tk (pmk_own PySem.F.excBase_ValueError q gC kC (raises_own s1 s2) hg hdb)).lv fun D σ H ⟨M, ρ, F, o, g, e, q⟩ => by
  cases e
  exact ⟨x, rfl, rfl, q M H σ F (.refl fun _ z => z) g .refl⟩
end
/-! ### defs -/
def frO : T → Option T
  | .fr d => some (.fr d)
  | _ => none
def outs (pin : List Nat) (ρ : Rho) : List T → Nat → List (Option T)
  | [], _ => []
  | t :: r, j => (if j ∈ pin then slot ρ j else frO t) :: outs pin ρ r (j + 1)
def semD (n m : Nat) (pin : List Nat) (body : Rho → Option Out) : List T → Option Ret := fun ts => if ts.length = n then (match body (ts.map some ++ List.replicate m none) with
  | some (.rt t ρ) => some (.ok t (outs pin ρ ts 0))
  | some (.nx ρ) => some (.ok (.fr .none) (outs pin ρ ts 0))
  | some (.ex c _) => some (.ex c)
  | _ => none) else none
theorem outs_len {pin : List Nat} {ρ : Rho} : ∀ (ts : List T) (j : Nat), (outs pin ρ ts j).length = ts.length
  | [], _ => rfl
  | _ :: r, j => by simp [outs, outs_len r]
theorem outs_get {pin : List Nat} {ρ : Rho} : ∀ (ts : List T) (j i : Nat) (t : T), (outs pin ρ ts j)[i]? = some (some t) → (j + i ∈ pin ∧ slot ρ (j + i) = some t) ∨ ∃ d, t = .fr d ∧ ts[i]? = some (.fr d)
  | [], _, _, _, e => by simp [outs] at e
  | u :: r, j, 0, t, e => by
    simp only [outs, List.getElem?_cons_zero, Option.some.injEq] at e
    split at e
    · next h => exact .inl ⟨h, e⟩
    · cases u with
      | fr d => cases e; exact .inr ⟨d, rfl, rfl⟩
      | _ => cases e
  | u :: r, j, i + 1, t, e => by
    simp only [outs, List.getElem?_cons_succ] at e
    rcases outs_get r (j + 1) i t e with h | h
    · exact .inl (by rw [show j + (i + 1) = j + 1 + i by omega]; exact h)
    · exact .inr (by simpa using h)
section
variable {K : PySem.W.Frag} {M H : Hp}
theorem Good.start {vs : List V} {ts : List T} {Fs : Nat → Fp} {N : List Str} {m : Nat} (g : Good K M H (vs.map some) (ts.map some) Fs) (hm : N.length = ts.length + m) : Good K M H (L2.start N vs) (ts.map some ++ List.replicate m none) Fs := by
  have hl : vs.length = ts.length := by have := g.len; simpa using this.symm
  have e : L2.start N vs = vs.map some ++ List.replicate m none := by unfold L2.start; rw [hl, hm]; simp
  rw [e]
  refine ⟨g.le, by simp [hl], fun i t h => ?_, fun i h a z => ?_, g.dj⟩
  · by_cases hi : i < ts.length
    · rw [List.getElem?_append_left (by simpa using hi)] at h
      obtain ⟨v, h1, r⟩ := g.sl i t h
      exact ⟨v, by rw [List.getElem?_append_left (by simpa [hl] using hi)]; exact h1, r⟩
    · rw [List.getElem?_append_right (by simpa using hi), List.getElem?_replicate] at h
      split at h <;> cases h
  · refine g.em i (fun t e => h t ?_) a z
    have hi : i < ts.length := by
      have := (List.getElem?_eq_some_iff.mp e).1
      simpa using this
    rw [List.getElem?_append_left (by simpa using hi)]; exact e
theorem Good.outs {vs : List V} {ts : List T} {Fs F : Nat → Fp} {N : List Str} {m : Nat} {σ' : L2.St} {ρ' : Rho} {M' H' : Hp} {pin : List Nat} (g : Good K M H (vs.map some) (ts.map some) Fs) (mm : L2.Same M M') (g' : Good K M' H' σ' ρ' F) (p : Pin pin (L2.start N vs) σ') (hm : N.length = ts.length + m) :
    ∃ F', Good K M' H' (vs.map some) (Lv.outs pin ρ' ts 0) F' ∧ ∀ a, Al F' a → Al F a := by
  have hl : vs.length = ts.length := by have := g.len; simpa using this.symm
  have hst : ∀ i, i < vs.length → (L2.start N vs)[i]? = (vs.map some)[i]? := fun i hi => by unfold L2.start; rw [List.getElem?_append_left (by simpa using hi)]
  refine ⟨fun i a => (i ∈ pin ∧ i < ts.length) ∧ F i a, ⟨g'.le, by simp [outs_len, hl], fun i t e => ?_, fun i h a z => ?_, fun i j a y z => g'.dj i j a y.2 z.2⟩, fun a ⟨i, _, z⟩ => ⟨i, z⟩⟩
  · have hi : i < ts.length := by
      have := (List.getElem?_eq_some_iff.mp e).1
      rwa [outs_len] at this
    rcases outs_get ts 0 i t e with ⟨hp, es⟩ | ⟨d, rfl, et⟩
    · rw [Nat.zero_add] at hp es
      obtain ⟨v, h1, r⟩ := g'.sl i t (slot_some es)
      rw [p i hp, hst i (by omega)] at h1
      refine ⟨v, h1, ?_⟩
      have e2 : (fun a => (i ∈ pin ∧ i < ts.length) ∧ F i a) = F i := funext fun a => by simp [hp, hi]
      rw [e2]; exact r
    · obtain ⟨v, h1, r⟩ := g.sl i (.fr d) (by rw [List.getElem?_map, et]; rfl)
      have dz := r.fr_inv.1.mono mm
      by_cases hp : i ∈ pin
      · cases es : slot ρ' i with
        | none =>
          refine ⟨v, h1, ?_⟩
          have e2 : (fun a => (i ∈ pin ∧ i < ts.length) ∧ F i a) = fun _ => False := funext fun a => by
            have := g'.em i (fun t e => by rw [slot_of e] at es; cases es) a
            simp [this]
          rw [e2]; exact .fr dz
        | some t' =>
          have e3 : (Lv.outs pin ρ' ts 0)[i]? = some (some t') := by
            have key : ∀ (ts : List T) (j i : Nat), i < ts.length → j + i ∈ pin → (Lv.outs pin ρ' ts j)[i]? = some (slot ρ' (j + i)) := by
              intro ts
              induction ts with
              | nil => intro j i h; simp at h
              | cons u r ih =>
                intro j i h hp
                cases i with
                | zero => simp [Lv.outs, show j ∈ pin by simpa using hp]
                | succ i =>
                  simp only [Lv.outs, List.getElem?_cons_succ]
                  rw [ih (j + 1) i (by simpa using h) (by rw [show j + 1 + i = j + (i + 1) by omega]; exact hp)]
                  rw [show j + 1 + i = j + (i + 1) by omega]
            rw [key ts 0 i hi (by simpa using hp), Nat.zero_add, es]
          rw [e] at e3
          cases e3
          obtain ⟨v2, h2, r2⟩ := g'.sl i _ (slot_some es)
          rw [p i hp, hst i (by omega)] at h2
          rw [h1] at h2; cases h2
          refine ⟨v, h1, ?_⟩
          have e2 : (fun a => (i ∈ pin ∧ i < ts.length) ∧ F i a) = F i := funext fun a => by simp [hp, hi]
          rw [e2]; exact r2
      · refine ⟨v, h1, ?_⟩
        have e2 : (fun a => (i ∈ pin ∧ i < ts.length) ∧ F i a) = fun _ => False := funext fun a => by simp [hp]
        rw [e2]; exact .fr dz
  · obtain ⟨⟨hp, hi⟩, z⟩ := z
    cases es : slot ρ' i with
    | none => exact g'.em i (fun t e => by rw [slot_of e] at es; cases es) a z
    | some t' =>
      refine h t' ?_
      have key : ∀ (ts : List T) (j i : Nat), i < ts.length → j + i ∈ pin → (Lv.outs pin ρ' ts j)[i]? = some (slot ρ' (j + i)) := by
        intro ts
        induction ts with
        | nil => intro j i h; simp at h
        | cons u r ih =>
          intro j i h hp
          cases i with
          | zero => simp [Lv.outs, show j ∈ pin by simpa using hp]
          | succ i =>
            simp only [Lv.outs, List.getElem?_cons_succ]
            rw [ih (j + 1) i (by simpa using h) (by rw [show j + 1 + i = j + (i + 1) by omega]; exact hp)]
            rw [show j + 1 + i = j + (i + 1) by omega]
      rw [key ts 0 i hi (by simpa using hp), Nat.zero_add, es]
end
/-- the wish of a def's body about exceptions -/
abbrev wDef (K : PySem.W.Frag) (E : XK) : WS := fun c _ H => E (.ref (He.ga K c)) none H
section
variable {P : Program} {w : World} {K : PySem.W.Frag} {mg : Str → Option Value} {base : Heap} {x qual : Str} {params : Arguments} {body : List Stmt} {scope : Scope} {f : Addr} {fd : FuncData}
theorem fn_ok {N ps : List Str} {k n m : Nat} {pin : List Nat} {fb : Rho → Option Out} (F : FunD K x qual params body scope [] [] f fd) (S : FnScope N ps scope) (hn : ps.length = n) (hm : N.length = n + m)
    (hbody : ∀ (cdv : Value) (A : Around) (outer : List Env) (s : Shared) (H : Hp) (E : XK), Room k (A.deeper (envOfC qual scope s.heap.objs.size f cdv)) →
      SB (cxOf (L2.CX P w) P w K mg base N qual scope f cdv A outer s H E) (wDef K E) pin body fb) : FnOk P w K mg base (L2.CX P w) (k + 1) f fd ps (SpT K (semD n m pin fb)) := by
  refine F.ok S (fun vs H Q E h => ?_) fun cdv A outer s H vs Q E hr h => ⟨_, hbody cdv A outer s H E hr, ?_⟩
  · obtain ⟨M, ts, Fs, r, g, e, _⟩ := h
    unfold semD at e
    split at e
    · next hl =>
      have := g.len
      simp at this
      omega
    · cases e
  · obtain ⟨M, ts, Fs, r, g, e, q⟩ := h
    unfold semD at e
    split at e
    · next hl =>
      have hm' : N.length = ts.length + m := by omega
      have g0 := g.start hm'
      split at e
      · next t ρ eb =>
        cases e
        refine ⟨M, _, Fs, _, g0, eb, fun M' H' σ' v R F' S g' p rp d => ?_⟩
        obtain ⟨F2, g2, s2⟩ := g.outs S.m g' p hm'
        exact q M' H' v R F2 (S.sub (fun _ z => z) fun a z => z.imp_right (s2 a)) g2 rp fun a z y => d a z (s2 a y)
      · next ρ eb =>
        cases e
        refine ⟨M, _, Fs, _, g0, eb, fun M' H' σ' F' S g' p => ?_⟩
        obtain ⟨F2, g2, s2⟩ := g.outs S.m g' p hm'
        exact q M' H' .non (fun _ => False) F2 (S.sub (fun _ z => z) fun a z => z.elim False.elim (s2 a)) g2 (.fr .non) fun a z => z.elim
      · next c ρ eb =>
        cases e
        exact ⟨M, _, Fs, _, g0, eb, fun M' H' σ' F' S g' p => q M' H' (S.sub (fun _ z => z) fun a z => z.elim) g'.le⟩
      · cases e
    · cases e
theorem tk_def {N : List Str} {cdv : Value} {A : Around} {outer : List Env} {s : Shared} {H : Hp} {E : XK} : Takes (cxOf (L2.CX P w) P w K mg base N qual scope f cdv A outer s H E) (wx K (wDef K E)) :=
  (takes_of (X := cxOf (L2.CX P w) P w K mg base N qual scope f cdv A outer s H E) (E := E) rfl rfl rfl rfl).imp fun c d σ H ⟨c', e1, e2, h⟩ => by subst e1; subst e2; exact h
/-- a def's promise by another function that agrees with it where it says something -/
theorem fn_sem {CX : CXT} {k : Nat} {ps : List Str} {sem sem' : List T → Option Ret} (F : FnOk P w K mg base CX k f fd ps (SpT K sem)) (h : ∀ ts r, sem' ts = some r → sem ts = some r) : FnOk P w K mg base CX k f fd ps (SpT K sem') :=
  F.imp fun vs H Q E ⟨M, ts, Fs, r, g, e, q⟩ => ⟨M, ts, Fs, r, g, h ts r e, q⟩
end
end Lv

set_option maxHeartbeats 2000000
namespace Lv
open PySem PySem.Spec PyProof.Rows L2
/-- a def by its name: what its calls do -/
structure FOk (P : Program) (w : World) (K : PySem.W.Frag) (mg : Str → Option Value) (base : Heap) (k : Nat) (x : Str) (ps : List Str) (sem : List T → Option Ret) : Prop where
  ex : ∃ f fd, FnOk P w K mg base (L2.CX P w) k f fd ps (SpT K sem) ∧ mg x = some (.ref f) ∧ PySem.W.keepIn K (.ref f) = true ∧ Binds K fd ps []
section
variable {X : Cx} {W : WS} {e a b : Expr} {es : List Expr} {pos p : Pos} {k : Nat} {ps : List Str} {sem : List T → Option Ret} {x : Str}
theorem ek_callF {g : Rho → Option (List T)} (F : FOk X.prog X.w X.K X.mg X.base k x ps sem) (hr : Room k X.A) (hg : Gl X x) (ha : AK X (e :: es) g) (hdb : (x == ("__debug__" : Str)) = false := by decide)
    (he : starEach (e :: es) X.env = (false, eval e X.env) :: starEach es X.env := by rfl) (hpl : (backTo pos (starEach es X.env)).any (·.1) = false := by rfl) : EK X (.Call (.Name x p) (e :: es) [] pos) (kCall sem g) := by
  obtain ⟨f, fd, h1, h2, h3, h4⟩ := F.ex
  exact ek_call h1 hr hg h2 h3 h4 ha hdb he hpl
theorem ee_callF {g : Rho → Option (Rs (List Ar))} (tk : Takes X (wx X.K W)) (F : FOk X.prog X.w X.K X.mg X.base k x ps sem) (hr : Room k X.A) (hg : Gl X x) (ha : AE X W (e :: es) g) (hdb : (x == ("__debug__" : Str)) = false := by decide)
    (he : starEach (e :: es) X.env = (false, eval e X.env) :: starEach es X.env := by rfl) (hpl : (backTo pos (starEach es X.env)).any (·.1) = false := by rfl) : EE X W (.Call (.Name x p) (e :: es) [] pos) (eCall sem g) := by
  obtain ⟨f, fd, h1, h2, h3, h4⟩ := F.ex
  exact ee_call tk h1 hr hg h2 h3 h4 ha hdb he hpl
theorem ek_gint {i : Int} (hg : Gl X x) (hm : ∃ t, X.mg x = some (.int i t)) (hd : (x == ("__debug__" : Str)) = false := by decide) : EK X (.Name x pos) (kC (.int i)) := by
  obtain ⟨t, h⟩ := hm
  exact ek_c (pe_glob (v := .int i) hg h ⟨t, rfl⟩ hd) fun _ => .int i
theorem takes00 : Takes X (wx X.K W0) := (takes0 (X := X)).imp fun c d σ H ⟨_, _, _, h⟩ => h
def opAddI : T → T → Option T := opInt (fun _ _ => true) (fun a b => a + b)
theorem ip_addA : PIp X .Add (rOp2 X.K opAddI) := op_int (f := inplaceOp .Add) (C := fun _ _ => True) (fun pins s σ H x y v u Q I rx ry ⟨i, j, a, b, _, q⟩ => iop_add pins s σ H x y v u Q I rx ry ⟨i, j, a, b, q⟩) fun _ _ _ => trivial
theorem ip_subA : PIp X .Sub (rOp2 X.K opSub) := op_int (f := inplaceOp .Sub) (C := fun _ _ => True) (fun pins s σ H x y v u Q I rx ry ⟨i, j, a, b, _, q⟩ => iop_sub pins s σ H x y v u Q I rx ry ⟨i, j, a, b, q⟩) fun _ _ _ => trivial
end
section
variable {P : Program} {w : World} {K : PySem.W.Frag} {mg : Str → Option Value} {base : Heap} {x : Str} {params : Arguments} {body : List Stmt} {scope : Scope}
/-- the same, over what a module's facts tell of the def -/
abbrev DefAt (K : PySem.W.Frag) (mg : Str → Option Value) (x : Str) (params : Arguments) (body : List Stmt) (scope : Scope) : Prop := (∃ fd, FunD K x x params body scope [] [] (He.ga K x) fd) ∧ mg x = some (.ref (He.ga K x))
theorem fok {N ps : List Str} {k n m : Nat} {pin : List Nat} {fb : Rho → Option Out} (D : DefAt K mg x params body scope) (S : FnScope N ps scope) (hn : ps.length = n) (hm : N.length = n + m)
    (hb : ∀ (kV doc pm : Value) (an : Option Addr) (cdv ct : Value) (us : List Value), us.length = ps.length → bindArgs (PySem.W.fnOf x x params body scope .none kV doc pm an cdv ct) ⟨us, []⟩ = pure (ps.zip us))
    (hbody : ∀ (cdv : Value) (A : Around) (outer : List Env) (s : Shared) (H : Hp) (E : XK), Room k (A.deeper (envOfC x scope s.heap.objs.size (He.ga K x) cdv)) →
      SB (cxOf (L2.CX P w) P w K mg base N x scope (He.ga K x) cdv A outer s H E) (wDef K E) pin body fb) : FOk P w K mg base (k + 1) x ps (semD n m pin fb) := by
  obtain ⟨⟨fd, F⟩, g⟩ := D
  exact ⟨_, fd, fn_ok F S hn hm hbody, g, F.kp, F.bindsN hb⟩
theorem fokD {N ps : List Str} {k n m : Nat} {pin : List Nat} {fb : Rho → Option Out} {fd : FuncData} (F : FunD K x x params body scope [] [] (He.ga K x) fd) (S : FnScope N ps scope) (hn : ps.length = n) (hm : N.length = n + m)
    (hbody : ∀ (cdv : Value) (A : Around) (outer : List Env) (s : Shared) (H : Hp) (E : XK), Room k (A.deeper (envOfC x scope s.heap.objs.size (He.ga K x) cdv)) →
      SB (cxOf (L2.CX P w) P w K mg base N x scope (He.ga K x) cdv A outer s H E) (wDef K E) pin body fb) : FnOk P w K mg base (L2.CX P w) (k + 1) (He.ga K x) fd ps (SpT K (semD n m pin fb)) := fn_ok F S hn hm hbody
theorem fok0 {N ps : List Str} {k : Nat} (D : DefAt K mg x params body scope) (S : FnScope N ps scope)
    (hb : ∀ (kV doc pm : Value) (an : Option Addr) (cdv ct : Value) (us : List Value), us.length = ps.length → bindArgs (PySem.W.fnOf x x params body scope .none kV doc pm an cdv ct) ⟨us, []⟩ = pure (ps.zip us)) : FOk P w K mg base (k + 1) x ps (fun _ => none) := by
  obtain ⟨⟨fd, F⟩, g⟩ := D
  refine ⟨_, fd, F.ok S (fun vs H Q E h => ?_) (fun cdv A outer s H vs Q E hr h => ?_), g, F.kp, F.bindsN hb⟩
  · obtain ⟨M, ts, Fs, r, g, e, _⟩ := h; cases e
  · obtain ⟨M, ts, Fs, r, g, e, _⟩ := h; cases e
/-- the law lets nothing out -/
theorem fin_cx {k : Nat} {f : Addr} {fd : FuncData} {ps : List Str} {sp : Sp} (F : FnOk P w K mg base (L2.CX P w) k f fd ps sp) : FnOk P w K mg base L2.CX0 k f fd ps (fun vs H Q _ => sp vs H Q (fun _ _ _ => False)) :=
  ⟨fun vs H Q E h => F.len vs H Q _ h, fun A outer s H args us vs Q E hr he hb hv hs => codeAny_mono (F.run A outer s H args us vs Q _ hr he hb hv hs) fun r s' h => by
    cases r with
    | ok t => cases t <;> exact h
    | error e =>
      obtain ⟨_, _, _, _, _, _, _, _, _, _, _, _, z⟩ := h
      exact z.elim⟩
theorem DzL.ofInts {M : Hp} : ∀ ns : List Int, DzL K M (ns.map V.int) (ns.map PyData.int)
  | [] => .nil
  | n :: ns => .cons (.int n) (DzL.ofInts ns)
theorem law_sp {sem : List T → Option Ret} {n : Nat} (h : ∀ ns : List Int, ns.length ≤ n → ∃ os, sem [.fr (.list (ns.map .int))] = some (.ok (.fr (.bool true)) os)) (H : Hp) (a : Addr) (ns : List Int) (hl : ns.length ≤ n) (hS : SqL K H a (ns.map V.int)) :
    SpT K sem [.ref a] H (fun v _ => v = .bl true) (fun _ _ _ => False) := by
  obtain ⟨os, e⟩ := h ns hl
  refine ⟨H, _, fun _ _ => False, _, ⟨L2.Same.refl _, rfl, fun i t e => ?_, fun _ _ _ => id, fun _ _ _ z => z.elim⟩, e, fun M' H' v R Fs' _ _ rp _ => rp.fr_inv.1.bl_inv⟩
  cases i with
  | zero =>
    simp at e; subst e
    exact ⟨_, rfl, .fr (.lst hS (DzL.ofInts ns))⟩
  | succ i => simp at e
end
end Lv

set_option maxHeartbeats 2000000
namespace Lv
open PySem PySem.Spec PyProof.Rows L2
/-! ### try -/
/-- which of the program's exceptions a clause takes -/
abbrev ExT := List (Str × Str × Bool)
def exLook (m : ExT) (c x : Str) : Option Bool := match m with
  | [] => none
  | (c', x', b) :: r => if c' = c ∧ x' = x then some b else exLook r c x
def ExOk (K : PySem.W.Frag) (m : ExT) : Prop := ∀ p ∈ m, PySem.W.exmOne K (.ref (He.ga K p.1)) (.ref (He.ga K p.2.1)) = some p.2.2
theorem exLook_ok {K : PySem.W.Frag} : ∀ {m : ExT} {c x : Str} {b : Bool}, ExOk K m → exLook m c x = some b → PySem.W.exmOne K (.ref (He.ga K c)) (.ref (He.ga K x)) = some b
  | [], _, _, _, _, e => by simp [exLook] at e
  | (c', x', b') :: r, c, x, b, h, e => by
    simp only [exLook] at e
    split at e
    · next q =>
      obtain ⟨rfl, rfl⟩ := q
      cases e
      exact h (c', x', b') (by simp)
    · exact exLook_ok (fun p hp => h p (by simp [hp])) e
theorem exok_nil {K : PySem.W.Frag} : ExOk K [] := fun p hp => by simp at hp
theorem exok_cons {K : PySem.W.Frag} {m : ExT} {c x : Str} {b : Bool} (h : PySem.W.exmOne K (.ref (He.ga K c)) (.ref (He.ga K x)) = some b) (t : ExOk K m) : ExOk K ((c, x, b) :: m) := fun p hp => by
  rcases List.mem_cons.mp hp with z | z
  · subst z; exact h
  · exact t p z
def handle (m : ExT) : List (Str × (Rho → Option Out)) → Str → Rho → Option Out
  | [], c, ρ => some (.ex c ρ)
  | (x, f) :: r, c, ρ => match exLook m c x with
    | some true => f ρ
    | some false => handle m r c ρ
    | none => none
def sTry (m : ExT) (fb : Rho → Option Out) (hs : List (Str × (Rho → Option Out))) : Rho → Option Out := fun ρ => match fb ρ with
  | some (.ex c ρ1) => handle m hs c ρ1
  | o => o
def wsOf (K : PySem.W.Frag) (W : WX) : WS := fun c σ H => W (.ref (He.ga K c)) none σ H
theorem takes_ws {X : Cx} {W : WX} (h : Takes X W) : Takes X (wx X.K (wsOf X.K W)) := h.imp fun cls d σ H ⟨c, e1, e2, q⟩ => by subst e1; subst e2; exact q
/-- the clauses -/
inductive HOks (X : Cx) (W : WS) (pin : List Nat) : List ExceptHandler → List (Str × (Rho → Option Out)) → Prop
  | nil : HOks X W pin [] []
  | cons {x : Str} {b₀ : Stmt} {suite : List Stmt} {np pos' : Pos} {hds : List ExceptHandler} {l : List (Str × (Rho → Option Out))} {f : Rho → Option Out} (hg : Gl X x) (hm : X.mg x = some (.ref (He.ga X.K x)))
      (hsu : ∀ (a : Addr) (oe : Obj) (pn : List (Addr × Obj)), SB (X.suite a ((a, oe) :: pn)) W pin (b₀ :: suite) f) (r : HOks X W pin hds l) (hdb : (x == ("__debug__" : Str)) = false := by decide) :
      HOks X W pin (.ExceptHandler (some (.Name x np)) none (b₀ :: suite) pos' :: hds) ((x, f) :: l)
def hList (K : PySem.W.Frag) (W : WS) (pin : List Nat) (l : List (Str × (Rho → Option Out))) : List (Value × (Addr → Value → Option Addr → TS)) := l.map fun p => (.ref (He.ga K p.1), fun _ _ _ => tS K W pin p.2)
section
variable {X : Cx} {W : WS} {pin : List Nat}
theorem HOks.ok {hds : List ExceptHandler} {l : List (Str × (Rho → Option Out))} (h : HOks X W pin hds l) : HdsOk X hds (hList X.K W pin l) := by
  induction h with
  | nil => exact .nil
  | cons hg hm hsu r hdb ih => exact .cons ⟨hg, hdb, .inl hm⟩ (fun a oe cls d pn _ _ => hsu a oe pn) ih
theorem handle_w {K : PySem.W.Frag} {m : ExT} (hm : ExOk K m) {D : Ends} {c : Str} {M H : Hp} {ρ : Rho} {F : Nat → Fp} {σ : L2.St} (g : Good K M H σ ρ F) : ∀ {l : List (Str × (Rho → Option Out))} {o : Out}, handle m l c ρ = some o → wO K W pin M H (Al F) σ D o → wMany K (wx K W) D (hList K W pin l) (.ref (He.ga K c)) none σ H
  | [], o, e, q => by
    cases e
    exact ⟨c, rfl, rfl, q M H σ F (.refl fun _ z => z) g .refl⟩
  | (x, f) :: l, o, e, q => by
    simp only [handle] at e
    split at e
    · next eb => exact ⟨true, exLook_ok hm eb, fun _ a _ => ⟨M, ρ, F, o, g, e, q⟩, fun z => by cases z⟩
    · next eb => exact ⟨false, exLook_ok hm eb, fun z => (by cases z), fun _ => handle_w hm g e q⟩
    · cases e
theorem ss_try {m : ExT} {body : List Stmt} {h₀ : ExceptHandler} {hds : List ExceptHandler} {l : List (Str × (Rho → Option Out))} {pos : Pos} {fb : Rho → Option Out} (hm : ExOk X.K m) (hs : X.stack = X.env :: X.outer) (hf : X.env.frame = some X.env.locals) (tk : Takes X (wx X.K W))
    (hb : ∀ (W' : WS) (pn : List (Addr × Obj)) (xe : Value → Shared → Prop), Takes (X.tr pn xe) (wx X.K W') → PassesOwn (model X.prog X.w) X.A X.env xe → SB (X.tr pn xe) W' pin body fb) (hh : HOks X W pin (h₀ :: hds) l) :
    SS X W pin (.Try body (h₀ :: hds) [] [] pos) (sTry m fb l) :=
  (ps_try_many (tb := fun W0 => tS X.K (wsOf X.K W0) pin fb) hs hf tk (fun W0 pn xe t p => hb (wsOf X.K W0) pn xe (takes_ws t) p) hh.ok).lv fun D σ H ⟨M, ρ, F, o, g, e, q⟩ => by
    unfold sTry at e
    split at e
    · next c ρ1 e1 =>
      exact ⟨M, ρ, F, _, g, e1, fun M1 H1 σ1 F1 S1 g1 p1 => handle_w hm g1 e (q.go S1 p1)⟩
    · next o' hne =>
      refine ⟨M, ρ, F, _, g, e, ?_⟩
      cases o with
      | ex c ρ1 => exact absurd e (hne c ρ1)
      | nx ρ1 => exact q
      | bk ρ1 => exact q
      | ct ρ1 => exact q
      | rt t ρ1 => exact q
end
/-! ### methods that only look -/
def rMt (K : PySem.W.Frag) (op : T → List T → Option T) : V → List V → Hp → VK → Prop := fun x xs H Q => ∃ M t R ts u, L2.Same M H ∧ Rp K M H t x R ∧ PkL K M H ts xs ∧ op t ts = some u ∧ rFin K M H u Q
def kMt (op : T → List T → Option T) (f : Rho → Option T) (g : Rho → Option (List T)) : Rho → Option T := fun ρ => (f ρ).bind fun t => (g ρ).bind fun ts => op t ts
theorem tyV_of {K : PySem.W.Frag} {M H : Hp} {t : T} {v : V} {R : Fp} {s : String} (m : L2.Same M H) (r : Rp K M H t v R) (e : typT t = some s) (hs : s = "list" ∨ s = "str") : tyV K s v H := by
  cases r with
  | fr h =>
    cases h with
    | non => cases e; rcases hs with hs | hs <;> simp [typD] at hs
    | bl b => cases e; rcases hs with hs | hs <;> simp [typD] at hs
    | int b => cases e; rcases hs with hs | hs <;> simp [typD] at hs
    | str b => cases e; rfl
    | lst h1 h2 => cases e; exact .inl ⟨rfl, _, m.seq h1⟩
    | tup h1 h2 => cases e; rcases hs with hs | hs <;> simp [typD] at hs
    | dk h1 h2 => cases e; rcases hs with hs | hs <;> simp [typD] at hs
  | lst h1 => cases e; exact .inl ⟨rfl, _, .of h1⟩
  | dk h1 => cases e; rcases hs with hs | hs <;> simp at hs
  | obj => cases e
section
variable {X : Cx} {W : WS} {o e : Expr} {es : List Expr} {T' id : String} {name : Str} {apos cpos : Pos} {op : T → List T → Option T}
theorem ek_mt {f : Rho → Option T} {g : Rho → Option (List T)} (pa : PlainAttrs T') (slot : Slot T' name id) (hty : typeOf (.builtin id) = pure (.type "method_descriptor")) (hm : MtR X id (rMt X.K op)) (hT : T' = "list" ∨ T' = "str") (hop : ∀ t ts u, op t ts = some u → typT t = some T') (ho : EK X o f) (ha : AK X (e :: es) g)
    (hbase : attributeBase o name X.env (eval o X.env) = eval o X.env := by rfl)
    (hfew : ((backTo cpos (starEach (e :: es) X.env)).all (fun x => !x.1) && (backToKw cpos (keywordEach [] X.env)).all (fun x => x.1.isSome)
      && decide ((e :: es).length + ([] : List Keyword).length + (if ([] : List Keyword).isEmpty then 0 else 1) < 30)) = true := by rfl)
    (hline : (apos.endLine == cpos.line) = true := by rfl) (hs : starEach (e :: es) X.env = (false, eval e X.env) :: starEach es X.env := by rfl) (hplain : (backTo cpos (starEach es X.env)).any (·.1) = false := by rfl) :
    EK X (.Call (.Attribute o name apos) (e :: es) [] cpos) (kMt op f g) := (pe_bm pa slot hty hm ho ha hbase hfew hline hs hplain).lv fun σ H Q ⟨M, ρ, F, u, g', eq, q⟩ => by
  obtain ⟨t, e1, eq⟩ := Option.bind_eq_some_iff.mp eq
  obtain ⟨ts, e2, e3⟩ := Option.bind_eq_some_iff.mp eq
  exact ⟨M, ρ, F, t, g', e1, fun M1 H1 v R x1 r1 => ⟨tyV_of x1.le r1 (hop _ _ _ e3) hT, M1, ρ, F, ts, g'.ext x1, e2, fun M2 H2 vs x2 r2 => ⟨M2, t, R, ts, u, x2.le, r1.ext x2, r2, e3, k_fin (x1.trans x2) q⟩⟩⟩
end
/-- xs.count(y) -/
def opCount : T → List T → Option T := fun t ts => match ts with
  | [y] => (T.asL t).bind fun ds => y.dat.bind fun d => if PyData.plainAll ds = true ∧ okD d = true then some (.fr (.int (ds.countP fun z => PyData.eqv z d))) else none
  | _ => none
/-- xs.index(y), y in xs -/
def opIndex : T → List T → Option T := fun t ts => match ts with
  | [y] => (T.asL t).bind fun ds => y.dat.bind fun d => if PyData.plainAll ds = true ∧ okD d = true ∧ ds.length ≤ SZ then (ds.findIdx? fun z => PyData.eqv z d).map fun j : Nat => T.fr (.int (j : Int)) else none
  | _ => none
theorem asL_typ {t : T} {ds : List D} (e : T.asL t = some ds) : typT t = some "list" := by
  unfold T.asL at e
  split at e
  · rfl
  · rfl
  · cases e
theorem opCount_ty (t : T) (ts : List T) (u : T) (e : opCount t ts = some u) : typT t = some "list" := by
  unfold opCount at e
  split at e
  · obtain ⟨ds, e1, _⟩ := Option.bind_eq_some_iff.mp e
    exact asL_typ e1
  · cases e
theorem opIndex_ty (t : T) (ts : List T) (u : T) (e : opIndex t ts = some u) : typT t = some "list" := by
  unfold opIndex at e
  split at e
  · obtain ⟨ds, e1, _⟩ := Option.bind_eq_some_iff.mp e
    exact asL_typ e1
  · cases e
section
variable {X : Cx}
theorem mt_countA (hu : X.A.units + 64 < cLine) : MtR X "list.count" (rMt X.K opCount) := by
  intro pins s σ H x xs v us Q I rx rxs ⟨M, t, R, ts, u, m, r, pk, e, q⟩
  unfold opCount at e
  split at e
  · next y =>
    obtain ⟨ds, e1, e⟩ := Option.bind_eq_some_iff.mp e
    obtain ⟨d, e2, e⟩ := Option.bind_eq_some_iff.mp e
    split at e
    · next c =>
      cases e
      obtain ⟨w, R', rfl, rp⟩ := pk.one
      obtain ⟨a, zs, rfl, h1, h2⟩ := r.asL_inv m e1
      cases rx
      obtain ⟨uy, rfl, ry⟩ := rxs.one
      have okd := okD_of c.2
      obtain ⟨bs, rd⟩ := Dp.reads I d w uy ((rp.seen m e2).dp okd.1) ry
      obtain ⟨its, rv, ⟨ob, n, g1, g2, g3, g4⟩, hlen⟩ := I.list h1
      obtain ⟨as, rs⟩ := Dp.readsAll I ds zs its ((h2.mono m).dp c.1) rv
      refine PySem.SeqAt.count_list_data (vs := its.toArray) ⟨ob, g1, g2, n, g4⟩ (by simpa using rs) rd c.1 okd.1 (by have := okd.2; omega) ⟨.int _, H, I.tok _, ⟨_, rfl⟩, fin_int m q⟩
    · cases e
  · cases e
theorem mt_indexA (hu : X.A.units + 64 < cLine) : MtR X "list.index" (rMt X.K opIndex) := by
  intro pins s σ H x xs v us Q I rx rxs ⟨M, t, R, ts, u, m, r, pk, e, q⟩
  unfold opIndex at e
  split at e
  · next y =>
    obtain ⟨ds, e1, e⟩ := Option.bind_eq_some_iff.mp e
    obtain ⟨d, e2, e⟩ := Option.bind_eq_some_iff.mp e
    split at e
    · next c =>
      obtain ⟨j, e3, e4⟩ := Option.map_eq_some_iff.mp e
      subst e4
      obtain ⟨w, R', rfl, rp⟩ := pk.one
      obtain ⟨a, zs, rfl, h1, h2⟩ := r.asL_inv m e1
      cases rx
      obtain ⟨uy, rfl, ry⟩ := rxs.one
      have okd := okD_of c.2.1
      obtain ⟨bs, rd⟩ := Dp.reads I d w uy ((rp.seen m e2).dp okd.1) ry
      obtain ⟨its, rv, ⟨⟨cls, dd, data, sl⟩, n, g1, g2, g3, g4⟩, hlen⟩ := I.list h1
      simp only at g2 g4
      subst g2 g4
      obtain ⟨as, rs⟩ := Dp.readsAll I ds zs its ((h2.mono m).dp c.1) rv
      have rs' : ReadsAll s.heap its.toArray.toList ds as := by simpa using rs
      obtain ⟨hj, hit, hno⟩ := PySem.SeqAt.hit_at (d := d) rs' c.1 (j := j) e3
      have hl := PySem.SeqAt.len_at rs'
      have hsz : ds.length ≤ 16777216 := c.2.2
      refine call_meets PySem.F.slot_list_index ⟨_, g1, rfl⟩ PySem.F.entry_list_index (PySem.F.args_list_index_2 _ _)
        (PySem.SeqAt.list_indexAt a its.toArray n dd sl uy (fun u => PyData.eqv (PySem.SeqAt.readOf s.heap u) d) j hj (by omega) hit hno) ⟨g1, PySem.SeqAt.items_plain rs' rd c.1 okd.1 (by have := okd.2; omega), ?_⟩
      exact ⟨.int _, H, I.tok _, ⟨_, rfl⟩, fin_int m q⟩
    · cases e
  · cases e
end
end Lv

set_option maxHeartbeats 2000000
namespace Lv
open PySem PySem.Spec PyProof.Rows L2
/-! ### extend -/
theorem RpL.both {K : PySem.W.Frag} {M H : Hp} {us : List T} {ws : List V} {R2 : Fp} (h2 : RpL K M H us ws R2) : ∀ {ts : List T} {vs : List V} {R1 : Fp}, RpL K M H ts vs R1 → (∀ a, R1 a → ¬ R2 a) → ∃ R3, RpL K M H (ts ++ us) (vs ++ ws) R3 ∧ ∀ a, R3 a ↔ R1 a ∨ R2 a
  | _, _, _, .nil, _ => ⟨R2, h2, fun a => ⟨.inr, fun z => z.elim False.elim id⟩⟩
  | _, _, _, .cons (R := R) (R' := R') h t dj, d => by
    obtain ⟨R3, h3, e3⟩ := RpL.both h2 t fun a z => d a (.inr z)
    refine ⟨_, .cons h h3 fun a z y => ?_, fun a => ?_⟩
    · rcases (e3 a).mp y with w | w
      · exact dj a z w
      · exact d a (.inl z) w
    · constructor
      · rintro (z | z)
        · exact .inl (.inl z)
        · exact ((e3 a).mp z).imp_left .inr
      · rintro ((z | z) | z)
        · exact .inl z
        · exact .inr ((e3 a).mpr (.inl z))
        · exact .inr ((e3 a).mpr (.inr z))
def sExt0 (i : Nat) (f : Rho → Option (Rs T)) : Rho → Option Out := fun ρ => match slot ρ i with
  | some (.lst _) => ofR (f ρ) fun t ρ1 => (match slot ρ1 i, t with
    | some (.lst ts), .lst us => if ts.length + us.length ≤ SZ then some (.nx (ρ1.set i (some (.lst (ts ++ us))))) else none
    | _, _ => none)
  | _ => none
section
variable {X : Cx} {W : WS} {pin : List Nat} {e : Expr} {pos p : Pos}
theorem ext_at {M H : Hp} {σ : L2.St} {ρ : Rho} {F : Nat → Fp} {P : Fp} {i : Nat} {pth : List Sg} {v0 v u : V} {ts us : List T} {R : Fp} {K : PySem.W.Frag} {C : L2.St → Hp → Prop} {ρ2 : Rho} (g : Good K M H σ ρ F) (hv : σ[i]? = some (some v0)) (fol : Fol H v0 pth v) (e : getAt ρ i pth = some (.lst ts)) (hl : ts.length + us.length ≤ SZ)
    (r : Rp K M H (.lst us) u R) (d : ∀ a, R a → ¬ Al F a) (hR : ∀ a, R a → P a) (hF : ∀ a, Al F a → P a) (e2 : setAt ρ i pth (.lst (ts ++ us)) = some ρ2) (q : wN K pin M H P σ ρ2 C) :
    ∃ l b xs zs, v = .ref l ∧ [u] = [V.ref b] ∧ H l = some (.lst xs) ∧ H b = some (.lst zs) ∧ xs.length + zs.length ≤ sizeLine ∧ C σ (upd H l (.lst (xs ++ zs))) := by
  obtain ⟨a, vs, R1, rfl, h1, h2, h3, h4, h5, h6, up⟩ := g.wlist (ts' := ts ++ us) hv fol e
  obtain ⟨b, ws, R2, rfl, k1, k2, k3, k4, k5⟩ := r.lst_inv
  refine ⟨a, b, vs, ws, rfl, rfl, h1, k1, by rw [h3.length, k3.length, sizeLine_eq]; exact hl, ?_⟩
  have na : ¬ R a := fun z => d a z h5
  have na2 : ¬ R2 a := fun z => na ((k5 a).mpr (.inr z))
  have kp : ∀ {R : Fp}, ¬ R a → Kp M M H (upd H a (.lst (vs ++ ws))) R := fun {R} n => ⟨L2.Same.refl _, fun b r o e => by rw [upd_ne (fun z => by subst z; exact n r)]; exact e, fun _ _ e => e⟩
  obtain ⟨R3, h7, e7⟩ := RpL.both (k3.keep (kp na2)) (h3.keep (kp h4)) fun c z y => d c ((k5 c).mpr (.inr y)) (h6 c z)
  obtain ⟨ρ3, F3, e3, g3, S3, i3⟩ := up (vs ++ ws) R3 h7 (fun z => ((e7 a).mp z).elim h4 na2) fun c z y => ((e7 c).mp z).elim id fun w => absurd y (d c ((k5 c).mpr (.inr w)))
  rw [e2] at e3; cases e3
  exact q M _ σ F3 (S3.sub (fun c z => z.elim (hF c) fun z => ((e7 c).mp z).elim (fun w => hF c (h6 c w)) fun w => hR c ((k5 c).mpr (.inr w))) fun c z => z) g3 .refl
theorem ss_ext0 {i : Nat} {x : Str} {px apos : Pos} {f : Rho → Option (Rs T)} (ho : PE X (.Name x px) (tVar i)) (ha : EE X W e f)
    (hbase : attributeBase (.Name x px) "extend" X.env (eval (.Name x px) X.env) = eval (.Name x px) X.env := by rfl) (hfew : ((backTo p (starEach (e :: []) X.env)).all (fun x => !x.1) && (backToKw p (keywordEach [] X.env)).all (fun x => x.1.isSome)
      && decide ((e :: ([] : List Expr)).length + ([] : List Keyword).length + (if ([] : List Keyword).isEmpty then 0 else 1) < 30)) = true := by rfl)
    (hline : (apos.endLine == p.line) = true := by rfl) (hs : starEach (e :: []) X.env = (false, eval e X.env) :: starEach [] X.env := by rfl) (hplain : (backTo p (starEach [] X.env)).any (·.1) = false := by rfl)
    (hs2 : swapsWith (.Call (.Attribute (.Name x px) "extend" apos) [e] [] p) none pos.line X.env = pure false := by rfl) : SS X W pin (.Expr (.Call (.Attribute (.Name x px) "extend" apos) [e] [] p) pos) (sExt0 i f) :=
  (ps_expr (pe_bm PySem.F.plainAttrs_list PySem.F.slot_list_extend PySem.F.type_list_extend mt_extend ho (pa_cons ha pa_nil hs) hbase hfew hline hs hplain) hs2).lv fun D σ H ⟨M, ρ, F, o, g, e, q⟩ => by
  unfold sExt0 at e
  split at e
  · next ts0 e0 =>
    obtain ⟨v0, h0, r0⟩ := g.sl i _ (slot_some e0)
    refine ⟨v0, h0, ?_, ?_⟩
    · obtain ⟨a, vs, R', rfl, h1, _⟩ := r0.lst_inv
      exact .inl ⟨rfl, _, .of h1⟩
    · rcases ofR_some e with ⟨t, ρ1, e1, e⟩ | ⟨c, ρ1, e1, rfl⟩
      · refine ⟨M, ρ, F, _, g, e1, fun M1 H1 v R F1 S1 g1 r1 d1 => ?_⟩
        split at e
        · next ts us e2 =>
          split at e
          · next hl =>
            cases e
            exact ext_at (pin := pin) (P := fun a => R a ∨ Al F1 a) (pth := []) g1 h0 .nil (by unfold getAt; rw [e2]; rfl) hl r1 d1 (fun a z => .inl z) (fun a z => .inr z) (by unfold setAt; rw [e2]; rfl) (q.go S1 .refl)
          · cases e
        · cases e
      · exact ⟨M, ρ, F, _, g, e1, fun M1 H1 F1 S1 g1 => q M1 H1 σ F1 S1 g1 .refl⟩
  · cases e
end
/-! ### len(set(..)) -/
def dd (ns : List Int) : List Int := firstMet (fun i => ns.getD i 0) ns.length
def opLenSet (t : T) : Option T := (T.asL t).bind fun ds => (intsD ds).bind fun ns => if ns.length < 4000 then some (.fr (.int (dd ns).length)) else none
def kLenSet (f : Rho → Option T) : Rho → Option T := fun ρ => (f ρ).bind opLenSet
section
variable {X : Cx}
def tLenSetA (K : PySem.W.Frag) (ta : TE) : TE := fun σ H Q => ta σ H fun x H1 => ∃ (l : Addr) (ns : List Int), x = V.ref l ∧ SqL K H1 l (ns.map V.int) ∧ ns.length < 4000 ∧ Q (.int (dd ns).length) H1
theorem pe_lenSetA {a : Expr} {ta : TE} {p p2 q pos : Pos} (hc : X.calm = true) (hg : Gl X "len") (hm : X.mg "len" = none) (hg2 : Gl X "set") (hm2 : X.mg "set" = none) (ha : PE X a ta)
    (na : starEach [a] X.env = (false, eval a X.env) :: starEach [] X.env := by rfl) : PE X (.Call (.Name "len" p) [.Call (.Name "set" p2) [a] [] q] [] pos) (tLenSetA X.K ta) := by
  refine ⟨fun pins s σ H Q I h => ?_⟩
  refine Call_ (ld_blt I hg hm PySem.boot_len ?_)
  refine PyProof.Rows.callWith_builtin1 (PyProof.Rows.args_cons ?_ rfl) rfl rfl
  refine Call_ (ld_blt I hg2 hm2 PyProof.Rows.boot_set ?_)
  refine PyProof.Rows.callWith_type1 (PyProof.Rows.args_cons (thn (ha.run pins s σ H _ I h) fun v s1 ⟨x, H1, I1, r1, q1⟩ => PyProof.Rows.args_nil ?_) na) na rfl
  obtain ⟨l, ns, rfl, hq, h1, q1⟩ := q1
  cases r1
  obtain ⟨its, r, pl, hz⟩ := I1.list hq
  have hl : its.toArray.size = ns.length := by rw [List.size_toArray, ← r.length, List.length_map]
  refine call_set_list (I1.ok.hd hc) pl.isList (ns := ns) (by simpa using r.ints) (by unfold scanBound; omega) fun h' tk hS hk => ?_
  rw [hl] at hS
  refine PyProof.Rows.args_nil ?_
  obtain ⟨o, es, ep, t, ho, hex, hd, _, _, _, hf, hn⟩ := hS
  have I2 : Inv X pins σ H1 { s1 with heap := h', toks := tk } := I1.kept fun b o e => hk b o (Heap.lt_size e) e
  have hle : (firstMet (fun i => ns.getD i 0) ns.length).length ≤ ns.length := by
    have : ∀ n, (firstMet (fun i => ns.getD i 0) n).length ≤ n := fun n => by
      induction n with
      | zero => exact Nat.le_refl _
      | succ n ih =>
        rw [firstMet_succ]; unfold step_dedup
        split
        · omega
        · rw [List.length_append, List.length_singleton]; omega
    exact this _
  refine call_len_set ho hex hd hf (by rw [hn]; omega) ⟨.int (dd ns).length, H1, I2.tok _, ⟨_, by rw [hn]; rfl⟩, q1⟩
theorem ek_lenSet {a : Expr} {f : Rho → Option T} {p p2 q pos : Pos} (hc : X.calm = true) (hg : Gl X "len") (hm : X.mg "len" = none) (hg2 : Gl X "set") (hm2 : X.mg "set" = none) (ha : EK X a f)
    (na : starEach [a] X.env = (false, eval a X.env) :: starEach [] X.env := by rfl) : EK X (.Call (.Name "len" p) [.Call (.Name "set" p2) [a] [] q] [] pos) (kLenSet f) := (pe_lenSetA hc hg hm hg2 hm2 ha na).lv fun σ H Q ⟨M, ρ, F, u, g', eq, q⟩ => by
  obtain ⟨t, e1, e⟩ := Option.bind_eq_some_iff.mp eq
  refine ⟨M, ρ, F, t, g', e1, fun M1 H1 v R x1 r1 => ?_⟩
  unfold opLenSet at e
  obtain ⟨ds, e2, e⟩ := Option.bind_eq_some_iff.mp e
  obtain ⟨ns, e3, e⟩ := Option.bind_eq_some_iff.mp e
  split at e
  · next hl =>
    cases e
    obtain ⟨l, xs, rfl, h1, h2⟩ := r1.asL_inv x1.le e2
    have e4 := h2.ints e3
    subst e4
    exact ⟨l, ns, rfl, h1, hl, q M1 H1 _ _ x1 (.fr (.int _))⟩
  · cases e
end
end Lv

set_option maxHeartbeats 2000000
namespace Lv
open PySem PySem.Spec PyProof.Rows L2
/-! ### targets that write into lists -/
def tGH (K : PySem.W.Frag) (pin : List Nat) (g : D → Rho → Option Rho) : TG := fun v σ H Q => ∃ M ρ F d ρ', Good K M H σ ρ F ∧ Dz K M v d ∧ g d ρ = some ρ' ∧ ∀ M' H' σ' F', Stp M H (Al F) M' H' (Al F') → Good K M' H' σ' ρ' F' → Pin pin σ σ' → Q σ' H'
def tGHs (K : PySem.W.Frag) (pin : List Nat) (g : List D → Rho → Option Rho) : TGs := fun vs σ H Q => ∃ M ρ F ds ρ', Good K M H σ ρ F ∧ DzL K M vs ds ∧ g ds ρ = some ρ' ∧ ∀ M' H' σ' F', Stp M H (Al F) M' H' (Al F') → Good K M' H' σ' ρ' F' → Pin pin σ σ' → Q σ' H'
abbrev EH (X : Cx) (pin : List Nat) (e : Expr) (g : D → Rho → Option Rho) : Prop := PG X e (tGH X.K pin g)
abbrev EHs (X : Cx) (pin : List Nat) (e : List Expr) (g : List D → Rho → Option Rho) : Prop := PGs X e (tGHs X.K pin g)
def gSi (lp : Rho → Option (Nat × List Sg)) (kf : Rho → Option T) : D → Rho → Option Rho := fun d ρ => (lp ρ).bind fun q => match getAt ρ q.1 q.2, kf ρ with
  | some (.lst ts), some (.fr (.int k)) => (ixN ts.length k).bind fun j => setAt ρ q.1 q.2 (.lst (ts.set j (.fr d)))
  | _, _ => none
section
variable {X : Cx} {W : WS} {pin : List Nat} {e : Expr} {es : List Expr} {pos : Pos} {k : Nat} {lp : Rho → Option (Nat × List Sg)}
theorem eh_of {as : List Nat} {g : D → Rho → Option Rho} (hp : ∀ j ∈ pin, j ∉ as) (h : EG X as e g) : EH X pin e g := h.lv fun v σ H Q ⟨M, ρ, F, d, ρ', g, dz, e, q⟩ =>
  ⟨M, ρ, F, d, ρ', g, dz, e, fun σ' F' g' s k _ => q M H σ' F' (.refl s) g' fun j hj => k j (hp j hj)⟩
theorem eh_sub {o ie : Expr} {tpos : Pos} {kf : Rho → Option T} (ho : EP X o lp) (hi : EK X ie kf)
    (ha : ∀ v, assign (.Subscript o ie tpos) X.env v = (do
      let ov ← holding [v] (eval o X.env)
      let iv ← holding [v, ov] (eval ie X.env)
      standAt tpos
      holding [v, ov, iv] (setItem ov iv v)
      release [v, ov, iv] []) := by intro _; rfl) : EH X pin (.Subscript o ie tpos) (gSi lp kf) := (pg_sub ho hi set_list ha).lv fun v σ H Q ⟨M, ρ, F, d, ρ', g, dz, e, q⟩ => by
  obtain ⟨⟨i, pth⟩, e1, e⟩ := Option.bind_eq_some_iff.mp e
  split at e
  · next ts k eg ek =>
    obtain ⟨j, ej, e4⟩ := Option.bind_eq_some_iff.mp e
    refine ⟨M, ρ, F, i, pth, g, e1, fun M2 H2 w v0 x2 hv fol => ⟨M2, ρ, F, _, g.ext x2, ek, fun M3 H3 u R3 x3 r3 => ?_⟩⟩
    have g3 := g.ext (x2.trans x3)
    obtain ⟨a, vs, R', rfl, h1, h2, h3, h4, h5, h6, up⟩ := g3.wlist (ts' := ts.set j (.fr d)) hv (fol.same x3.h) eg
    obtain ⟨_, hj, _⟩ := ixN_seq ej
    refine ⟨a, vs, k, j, rfl, r3.fr_inv.1.int_inv, h1, by rw [h3.length]; exact ej, ?_⟩
    have kp : ∀ {R : Fp}, ¬ R a → Kp M3 M3 H3 (upd H3 a (.lst (vs.set j v))) R := fun {R} n => ⟨L2.Same.refl _, fun b r o e => by rw [upd_ne (fun z => by subst z; exact n r)]; exact e, fun _ _ e => e⟩
    have dz3 : Rp X.K M3 H3 (.fr d) v (fun _ => False) := .fr (dz.mono (x2.trans x3).m)
    obtain ⟨R4, h7, e7⟩ := (h3.keep (kp h4)).setAt hj (dz3.keep (kp (R := fun _ => False) id)) fun b z y => y
    obtain ⟨ρ3, F3, e3, g4, S4, i4⟩ := up (vs.set j v) R4 h7 (fun z => (e7 a z).elim h4 id) fun b z y => (e7 b z).elim id False.elim
    rw [e4] at e3; cases e3
    exact q M3 _ σ F3 (((x2.trans x3).stp fun a (z : Al F a) => .inl z : Stp M H (Al F) M3 H3 (Al F)).trans (S4.sub (fun b z => z.elim id fun z => (e7 b z).elim (fun w => h6 b w) False.elim) fun b z => z)) g4 .refl
  · cases e
theorem ehs_nil : EHs X pin [] gNl := pgs_nil.lv fun v σ H Q ⟨M, ρ, F, d, ρ', g, dz, e, q⟩ => by
  unfold gNl at e
  split at e
  · cases e
    cases dz
    exact ⟨rfl, q M H σ F (.refl fun _ z => z) g .refl⟩
  · cases e
theorem ehs_cons {g : D → Rho → Option Rho} {gs : List D → Rho → Option Rho} (h1 : EH X pin e g) (h2 : EHs X pin es gs) (hs : (assignEach (e :: es) X.env).map (·.2) = assign e X.env :: (assignEach es X.env).map (·.2) := by rfl) : EHs X pin (e :: es) (gCs g gs) := (pgs_cons h1 h2 hs).lv fun v σ H Q ⟨M, ρ, F, d, ρ', g, dz, e, q⟩ => by
  unfold gCs at e
  split at e
  · next d r =>
    obtain ⟨ρ1, e1, e2⟩ := Option.bind_eq_some_iff.mp e
    cases dz with
    | cons h t =>
      exact ⟨_, _, rfl, M, ρ, F, d, ρ1, g, h, e1, fun M1 H1 σ1 F1 S1 g1 p1 => ⟨M1, ρ1, F1, r, ρ', g1, t.mono S1.m, e2, fun M2 H2 σ2 F2 S2 g2 p2 => q M2 H2 σ2 F2 (S1.trans S2) g2 (p1.trans p2)⟩⟩
  · cases e
theorem eh_tup {gs : List D → Rho → Option Rho} {n : Nat} (hc : X.calm = true) (h : EHs X pin es gs) (hn : (assignEach es X.env).length = n := by rfl) (hst : (assignEach es X.env).findIdx? (·.1) = none := by rfl) : EH X pin (.Tuple es k pos) (gTp n gs) := (pg_tup hc h hn hst).lv fun v σ H Q ⟨M, ρ, F, d, ρ', g, dz, e, q⟩ => by
  unfold gTp at e
  split at e
  · next ds =>
    split at e
    · next hl =>
      obtain ⟨a, xs, rfl, h1, h2⟩ := dz.tup_inv
      exact ⟨a, xs, rfl, Same.tup g.le h1, by rw [h2.length]; exact hl, M, ρ, F, ds, ρ', g, h2, e, q⟩
    · cases e
  · cases e
theorem ss_tgtH {tg : Expr} {g : D → Rho → Option Rho} {f : Rho → Option (Rs T)} (he : EE X W e f) (hg : EH X pin tg g) (hs : swapsWithSole [tg] e pos.line X.env = pure false := by rfl) (hw : swappedStores [tg] e X.env = pure none := by rfl)
    (h1 : (assignEach [tg] X.env).map (·.2) = [assign tg X.env] := by rfl) : SS X W pin (.Assign [tg] e pos) (sTgt g f) := (ps_asg he hg hs hw h1).lv fun D σ H h => ts_te h fun M1 H1 t v R F1 ρ1 o P e g1 r1 d1 hR hF q => by
  obtain ⟨d, ed, e⟩ := Option.bind_eq_some_iff.mp e
  obtain ⟨ρ2, e2, e⟩ := Option.map_eq_some_iff.mp e
  subst e
  have S0 : Stp M1 H1 (fun a => R a ∨ Al F1 a) M1 H1 (fun a => R a ∨ Al F1 a) := .refl fun _ z => z
  obtain ⟨S2, le2, kp⟩ := S0.frz r1 d1 g1.le
  exact ⟨_, ρ1, F1, d, ρ2, g1.keep kp le2, r1.freeze ed, e2, fun M3 H3 σ3 F3 S3 g3 p3 => q M3 H3 σ3 F3 ((S2.sub (fun a z => z.elim (hR a) (hF a)) fun _ z => z).trans S3) g3 p3⟩
/-- xs[k] = e, the index with an effect -/
def sSetIxE (i : Nat) (fi : Rho → Option (Rs T)) (f : Rho → Option (Rs T)) : Rho → Option Out := fun ρ => ofR (f ρ) fun t ρ1 => match t, slot ρ1 i with
  | .fr d, some _ => ofR (fi ρ1) fun kt ρ2 => (match slot ρ2 i, kt with
    | some (.lst ts), .fr (.int k) => (ixN ts.length k).map fun j => .nx (ρ2.set i (some (.lst (ts.set j (.fr d)))))
    | _, _ => none)
  | _, _ => none
theorem ss_setIxE {ie : Expr} {i : Nat} {x : Str} {px tpos : Pos} {fi f : Rho → Option (Rs T)} (he : EE X W e f) (ho : PE X (.Name x px) (tVar i)) (hi : EE X W ie fi)
    (ha : ∀ v, assign (.Subscript (.Name x px) ie tpos) X.env v = (do
      let ov ← holding [v] (eval (.Name x px) X.env)
      let iv ← holding [v, ov] (eval ie X.env)
      standAt tpos
      holding [v, ov, iv] (setItem ov iv v)
      release [v, ov, iv] []) := by intro _; rfl)
    (hs : swapsWithSole [.Subscript (.Name x px) ie tpos] e pos.line X.env = pure false := by rfl) (hw : swappedStores [.Subscript (.Name x px) ie tpos] e X.env = pure none := by rfl) (h1 : (assignEach [.Subscript (.Name x px) ie tpos] X.env).map (·.2) = [assign (.Subscript (.Name x px) ie tpos) X.env] := by rfl) :
    SS X W pin (.Assign [.Subscript (.Name x px) ie tpos] e pos) (sSetIxE i fi f) := (ps_asg he (pg_sub ho hi set_list ha) hs hw h1).lv fun D σ H h => ts_te h fun M1 H1 t v R F1 ρ1 o P e g1 r1 d1 hR hF q => by
  split at e
  · next d t0 e0 =>
    obtain ⟨v0, h0, _⟩ := g1.sl i _ (slot_some e0)
    obtain ⟨dz, nR⟩ := r1.fr_inv
    refine ⟨v0, h0, ?_⟩
    rcases ofR_some e with ⟨kt, ρ2, e1, e⟩ | ⟨c, ρ2, e1, rfl⟩
    · refine ⟨M1, ρ1, F1, _, g1, e1, fun M2 H2 u R2 F2 S2 g2 r2 d2 => ?_⟩
      split at e
      · next ts k es =>
        obtain ⟨j, ej, e5⟩ := Option.map_eq_some_iff.mp e
        subst e5
        obtain ⟨a, vs, R', rfl, h1, h2, h3, h4, h5, h6, up⟩ := g2.wlist (p := []) (ts' := ts.set j (.fr d)) h0 .nil (by unfold getAt; rw [es]; rfl)
        obtain ⟨_, hj, _⟩ := ixN_seq ej
        refine ⟨a, vs, k, j, rfl, r2.fr_inv.1.int_inv, h1, by rw [h3.length]; exact ej, ?_⟩
        have kp : ∀ {R : Fp}, ¬ R a → Kp M2 M2 H2 (upd H2 a (.lst (vs.set j v))) R := fun {R} n => ⟨L2.Same.refl _, fun b r o e => by rw [upd_ne (fun z => by subst z; exact n r)]; exact e, fun _ _ e => e⟩
        have dz3 : Rp X.K M2 H2 (.fr d) v (fun _ => False) := .fr (dz.mono S2.m)
        obtain ⟨R4, h7, e7⟩ := (h3.keep (kp h4)).setAt hj (dz3.keep (kp (R := fun _ => False) id)) fun b z y => y
        obtain ⟨ρ3, F3, e3, g4, S4, i4⟩ := up (vs.set j v) R4 h7 (fun z => (e7 a z).elim h4 id) fun b z y => (e7 b z).elim id False.elim
        have e4 : setAt ρ2 i [] (.lst (ts.set j (.fr d))) = some (ρ2.set i (some (.lst (ts.set j (.fr d))))) := by unfold setAt; rw [es]; rfl
        rw [e4] at e3; cases e3
        refine q M2 _ σ F3 ((S2.sub hF fun _ z => z).trans (S4.sub (fun b z => z.elim .inr fun z => (e7 b z).elim (fun w => .inr (h6 b w)) False.elim) fun b z => z)) g4 .refl
      · cases e
    · exact ⟨M1, ρ1, F1, _, g1, e1, fun M2 H2 F2 S2 g2 => q M2 H2 σ F2 (S2.sub hF fun _ z => z) g2 .refl⟩
  · cases e
/-! three names at once -/
def sPar3 (i j l : Nat) (f : Rho → Option (Rs (List Ar))) : Rho → Option Out := fun ρ => ofR (f ρ) fun as ρ1 => match as with
  | [.own (.fr d1), .own (.fr d2), .own (.fr d3)] => if i < ρ1.length ∧ j < ρ1.length ∧ l < ρ1.length then some (.nx (((ρ1.set i (some (.fr d1))).set j (some (.fr d2))).set l (some (.fr d3)))) else none
  | _ => none
theorem ArL.own3 {K : PySem.W.Frag} {M H : Hp} {σ : L2.St} {t u w : T} {vs : List V} {R : Fp} (h : ArL K M H σ [.own t, .own u, .own w] vs R) : ∃ v1 v2 v3 R1 R2 R3, vs = [v1, v2, v3] ∧ Rp K M H t v1 R1 ∧ Rp K M H u v2 R2 ∧ Rp K M H w v3 R3 := by
  cases h with | own h t => cases t with | own h2 t => cases t with | own h3 t => cases t; exact ⟨_, _, _, _, _, _, rfl, h, h2, h3⟩
theorem ss_par3 {a b c : Expr} {i j l : Nat} {x y z : Str} {f : Rho → Option (Rs (List Ar))} {px py pz pt : Pos} {kt k2 pt2} (hpi : i ∉ pin) (hpj : j ∉ pin) (hpl : l ∉ pin) (hc : X.calm = true) (hN : X.N.Nodup) (hi : X.N[i]? = some x) (hj : X.N[j]? = some y) (hl : X.N[l]? = some z) (hij : i ≠ j) (hil : i ≠ l) (hjl : j ≠ l)
    (hx : X.env.scope.names.lookup x = some .local) (hy : X.env.scope.names.lookup y = some .local) (hz : X.env.scope.names.lookup z = some .local) (ha : AE X W [a, b, c] f)
    (hw : swappedStores [.Tuple [.Name x px, .Name y py, .Name z pz] kt pt] (.Tuple [a, b, c] k2 pt2) X.env = pure (some [x, y, z]) := by rfl)
    (hs : swapsWithSole [.Tuple [.Name x px, .Name y py, .Name z pz] kt pt] (.Tuple [a, b, c] k2 pt2) pos.line X.env = pure false := by rfl) :
    SS X W pin (.Assign [.Tuple [.Name x px, .Name y py, .Name z pz] kt pt] (.Tuple [a, b, c] k2 pt2) pos) (sPar3 i j l f) := (ps_par3 hc hN hi hj hl hij hil hjl hx hy hz ha hw hs).lv fun D σ H h => ts_ta h fun M1 H1 as vs R F1 ρ1 o P e g1 r1 d1 hR hF q => by
  split at e
  · next d1' d2' d3' =>
    split at e
    · next hl =>
      cases e
      obtain ⟨v1, v2, v3, R1, R2, R3, rfl, rp1, rp2, rp3⟩ := r1.own3
      have g2 := g1.put (i := i) (by rw [← g1.len]; exact hl.1) (.fr rp1.fr_inv.1) fun a z => z.elim
      have g3 := g2.put (i := j) (by simp; rw [← g1.len]; exact hl.2.1) (.fr rp2.fr_inv.1) fun a z => z.elim
      have g4 := g3.put (i := l) (by simp; rw [← g1.len]; exact hl.2.2) (.fr rp3.fr_inv.1) fun a z => z.elim
      have hst : Stp M1 H1 P M1 H1 (Al (fun m a => if m = l then False else if m = j then False else if m = i then False else F1 m a)) := .refl fun a ⟨m, z⟩ => by
        by_cases y0 : m = l
        · simp [y0] at z
        · by_cases y1 : m = j
          · simp [y0, y1] at z
          · by_cases y2 : m = i
            · simp [y0, y1, y2] at z
            · simp only [y0, y1, y2, if_false] at z; exact hF a ⟨m, z⟩
      refine ⟨v1, v2, v3, rfl, q M1 H1 _ _ hst g4 fun m hm => ?_⟩
      rw [List.getElem?_set_ne (fun z => hpl (by rw [z]; exact hm)), List.getElem?_set_ne (fun z => hpj (by rw [z]; exact hm)), List.getElem?_set_ne (fun z => hpi (by rw [z]; exact hm))]
    · cases e
  · cases e
/-! range(i, j, c), reversed -/
def rngC (lo c : Int) (n : Nat) : List D := (List.range n).map fun i : Nat => .int (lo + (i : Nat) * c)
def iRange3 (f : Rho → Option (Rs (List Ar))) : Rho → Option (Rs (List D)) := fun ρ => bnd (f ρ) fun as ρ1 => match as with
  | [.own (.fr (.int i)), .own (.fr (.int j)), .own (.fr (.int c))] => if c ≠ 0 ∧ c.natAbs < 1073741824 ∧ Builtin.Range.small i j c = true ∧ 0 ≤ Builtin.Range.rangeSize i j c ∧ Builtin.Range.rangeSize i j c ≤ 16777216 then some (.ok (rngC i c (Builtin.Range.rangeSize i j c).toNat) ρ1) else none
  | _ => none
variable {tg : Expr}
theorem its_rngC {K : PySem.W.Frag} {M : Hp} {lo c : Int} {n : Nat} : Its K M (Itc lo c n) (rngC lo c n) := fun M2 H2 m le i => by
  have hl : (rngC lo c n).length = n := by simp [rngC]
  refine ⟨fun hi => by rw [hl] at hi; exact hi, fun hi => by rw [hl] at hi; exact hi, fun x H3 d e y => ?_⟩
  obtain ⟨rfl, rfl⟩ := y
  refine ⟨M2, .refl le, ?_⟩
  unfold rngC at e
  rw [List.getElem?_map] at e
  obtain ⟨j, e1, e2⟩ := Option.map_eq_some_iff.mp e
  rw [List.getElem?_range] at e1
  · cases e1; subst e2; exact .int _
  · have := (List.getElem?_eq_some_iff.mp e1).1
    simpa using this
theorem ei_range3 {a b c : Expr} {f : Rho → Option (Rs (List Ar))} {p : Pos} (hg : Gl X "range") (hm : X.mg "range" = none) (ha : AE X W [a, b, c] f)
    (hs : starEach [a, b, c] X.env = (false, eval a X.env) :: starEach [b, c] X.env := by rfl) (hpl : (backTo pos (starEach [b, c] X.env)).any (·.1) = false := by rfl) :
    EI X W tg (.Call (.Name "range" p) [a, b, c] [] pos) (iRange3 f) := (pi_range3 hg hm ha hs hpl).lv fun σ H Q ⟨M, ρ, F, r, g, e, q⟩ => by
  rcases bnd_some e with ⟨as, ρ1, e1, e⟩ | ⟨c, ρ', e1, rfl⟩
  · split at e
    · next i j c =>
      split at e
      · next hj =>
        cases e
        refine ⟨M, ρ, F, _, g, e1, fun M1 H1 vs R1 F1 S1 g1 r1 d1 => ?_⟩
        obtain ⟨v1, v2, v3, _, _, _, rfl, rp, rp2, rp3⟩ := r1.own3
        obtain rfl := rp.fr_inv.1.int_inv
        obtain rfl := rp2.fr_inv.1.int_inv
        obtain rfl := rp3.fr_inv.1.int_inv
        exact ⟨i, j, c, (Builtin.Range.rangeSize i j c).toNat, rfl, ⟨hj.1, hj.2.1, hj.2.2.1, by have := hj.2.2.2.1; omega⟩, q M1 H1 F1 _ (S1.sub (fun _ z => z) fun a z => .inr z) g1 its_rngC (by have := hj.2.2.2; simp [rngC]; omega)⟩
      · cases e
    · cases e
  · exact ⟨M, ρ, F, _, g, e1, q⟩
end
end Lv

set_option maxHeartbeats 2000000
namespace Lv
open PySem PySem.Spec PyProof.Rows L2
section
variable {α β : Type} {ρ ρ1 : Rho} {f g h : Rho → Option T} {F G : Rho → Option (Rs T)} {A B : Rho → Option (Rs Bool)} {s t u : Rho → Option Out} {op op' : T → T → Option T} {i j : Nat} {d : D}
theorem bnd_ok {a : α} {k : α → Rho → Option (Rs β)} : bnd (some (.ok a ρ)) k = k a ρ := rfl
theorem bnd_ex {c : Str} {k : α → Rho → Option (Rs β)} : bnd (some (.ex c ρ)) k = some (.ex c ρ) := rfl
theorem ofR_ok {a : α} {k : α → Rho → Option Out} : ofR (some (.ok a ρ)) k = k a ρ := rfl
theorem ofR_ex {c : Str} {k : α → Rho → Option Out} : ofR (some (.ex c ρ)) k = some (.ex c ρ) := rfl
theorem SZ_eq : SZ = 16777216 := rfl
theorem kC_ap : kC d ρ = some (.fr d) := rfl
theorem slot_c0 {o : T} {r : Rho} : slot (some o :: r) 0 = some o := rfl
theorem slot_cs {o : Option T} {r : Rho} {n : Nat} : slot (o :: r) (n + 1) = slot r n := rfl
theorem kV_ap : kV i ρ = slot ρ i := rfl
def frR (ρ : Rho) : Option T → Option (Rs T)
  | some (.fr d) => some (.ok (.fr d) ρ)
  | _ => none
theorem frR_ok : frR ρ (some (.fr d)) = some (.ok (.fr d) ρ) := rfl
theorem kOk_ap : kOk f ρ = frR ρ (f ρ) := rfl
theorem k1_ap {op : T → Option T} : k1 op f ρ = (f ρ).bind op := rfl
theorem k2_ap : k2 op f g ρ = (f ρ).bind fun a => (g ρ).bind fun b => op a b := rfl
theorem e1_ap {op : T → Option T} : e1 op F ρ = bnd (F ρ) fun a ρ1 => (op a).map fun t => .ok t ρ1 := rfl
def okR (ρ : Rho) : Option T → Option (Rs T)
  | some t => some (.ok t ρ)
  | none => none
theorem okR_ok {t : T} : okR ρ (some t) = some (.ok t ρ) := rfl
theorem okR_map {o : Option T} : (o.map fun t => Rs.ok t ρ) = okR ρ o := by cases o <;> rfl
def e2b (op : T → T → Option T) (a : T) : Option (Rs T) → Option (Rs T)
  | some (.ok b ρ) => okR ρ (op a b)
  | r => r
def e2a (op : T → T → Option T) (G : Rho → Option (Rs T)) : Option (Rs T) → Option (Rs T)
  | some (.ok a ρ) => e2b op a (G ρ)
  | r => r
theorem e2a_ok {a : T} : e2a op G (some (.ok a ρ)) = e2b op a (G ρ) := rfl
theorem e2b_ok {a b : T} : e2b op a (some (.ok b ρ)) = okR ρ (op a b) := rfl
theorem e2a_ex {c : Str} : e2a op G (some (.ex c ρ)) = some (.ex c ρ) := rfl
theorem e2b_ex {a : T} {c : Str} : e2b op a (some (.ex c ρ)) = some (.ex c ρ) := rfl
theorem e2_ap : e2 op F G ρ = e2a op G (F ρ) := by
  unfold e2
  rcases F ρ with _ | r
  · rfl
  · cases r with
    | ex c ρ' => rfl
    | ok a ρ1 =>
      simp only [bnd_ok, e2a_ok]
      rcases G ρ1 with _ | r
      · rfl
      · cases r with
        | ex c ρ' => rfl
        | ok b ρ2 => simp only [bnd_ok, e2b_ok, okR_map]
theorem eMv_ap : eMv i ρ = (match slot ρ i with | some t => some (.ok t (ρ.set i none)) | none => none) := by
  unfold eMv slot
  rcases ρ[i]? with _ | _ | _ <;> rfl
def cpk (i : Nat) (ρ : Rho) : Option T → Option (Rs T)
  | some t => t.dat.map fun d => .ok (.fr d) (ρ.set i (some (.fr d)))
  | none => none
theorem cpk_ok {t : T} : cpk i ρ (some t) = t.dat.map fun d => .ok (.fr d) (ρ.set i (some (.fr d))) := rfl
theorem eCp_ap : eCp i ρ = cpk i ρ (slot ρ i) := by
  unfold eCp slot
  rcases ρ[i]? with _ | _ | _ <;> rfl
theorem eFz_ap : eFz F ρ = bnd (F ρ) fun t ρ' => t.dat.map fun d => .ok (.fr d) ρ' := rfl
theorem kNil_ap : kNil ρ = some [] := rfl
theorem kCons_ap {L : Rho → Option (List T)} : kCons f L ρ = (f ρ).bind fun t => (L ρ).map (t :: ·) := rfl
theorem eNil_ap : eNil ρ = some (.ok [] ρ) := rfl
def ecb (t : T) : Option (Rs (List Ar)) → Option (Rs (List Ar))
  | some (.ok as ρ) => some (.ok (.own t :: as) ρ)
  | r => r
def eca (L : Rho → Option (Rs (List Ar))) : Option (Rs T) → Option (Rs (List Ar))
  | some (.ok t ρ) => ecb t (L ρ)
  | some (.ex c ρ) => some (.ex c ρ)
  | none => none
theorem ecb_ok {t : T} {as : List Ar} : ecb t (some (.ok as ρ)) = some (.ok (.own t :: as) ρ) := rfl
theorem ecb_ex {t : T} {c : Str} : ecb t (some (.ex c ρ)) = some (.ex c ρ) := rfl
theorem eca_ok {L : Rho → Option (Rs (List Ar))} {t : T} : eca L (some (.ok t ρ)) = ecb t (L ρ) := rfl
theorem eca_ex {L : Rho → Option (Rs (List Ar))} {c : Str} : eca L (some (.ex c ρ)) = some (.ex c ρ) := rfl
theorem eCons_ap {L : Rho → Option (Rs (List Ar))} : eCons F L ρ = eca L (F ρ) := by
  unfold eCons
  rcases F ρ with _ | r
  · rfl
  · cases r with
    | ex c ρ' => rfl
    | ok a ρ1 =>
      simp only [bnd_ok, eca_ok]
      rcases L ρ1 with _ | r
      · rfl
      · cases r <;> rfl
theorem eBor_ap {L : Rho → Option (Rs (List Ar))} : eBor i L ρ = (match slot ρ i with | some _ => bnd (L ρ) fun as ρ2 => some (.ok (.bor i :: as) ρ2) | none => none) := by
  unfold eBor slot
  rcases ρ[i]? with _ | _ | _ <;> rfl
def rT : Option Ret → Option T
  | some (.ok t _) => some t
  | _ => none
theorem rT_ok {t : T} {os : List (Option T)} : rT (some (.ok t os)) = some t := rfl
theorem kCall_ap {L : Rho → Option (List T)} {sem : List T → Option Ret} : kCall sem L ρ = (L ρ).bind fun ts => if allF ts = true then rT (sem ts) else none := rfl
def rE (as : List Ar) (ρ2 : Rho) : Option Ret → Option (Rs T)
  | some (.ok t os) => some (.ok t (putA as os ρ2))
  | some (.ex c) => some (.ex c ρ2)
  | none => none
theorem rE_ok {as : List Ar} {t : T} {os : List (Option T)} : rE as ρ (some (.ok t os)) = some (.ok t (putA as os ρ)) := rfl
theorem rE_ex {as : List Ar} {c : Str} : rE as ρ (some (.ex c)) = some (.ex c ρ) := rfl
def rA (sem : List T → Option Ret) (as : List Ar) : Option (List T × Rho) → Option (Rs T)
  | some (ts, ρ2) => rE as ρ2 (sem ts)
  | none => none
theorem rA_ok {sem : List T → Option Ret} {as : List Ar} {ts : List T} : rA sem as (some (ts, ρ)) = rE as ρ (sem ts) := rfl
theorem eCall_ap {L : Rho → Option (Rs (List Ar))} {sem : List T → Option Ret} : eCall sem L ρ = bnd (L ρ) fun as ρ1 => rA sem as (takeA as ρ1) := by
  unfold eCall
  congr 1
theorem takeA_nil : takeA [] ρ = some ([], ρ) := rfl
def tkc (t : T) : Option (List T × Rho) → Option (List T × Rho)
  | some (ts, ρ') => some (t :: ts, ρ')
  | none => none
theorem tkc_ok {t : T} {ts : List T} : tkc t (some (ts, ρ)) = some (t :: ts, ρ) := rfl
theorem takeA_own {t : T} {r : List Ar} : takeA (.own t :: r) ρ = tkc t (takeA r ρ) := by
  simp only [takeA]; cases takeA r ρ with
  | none => rfl
  | some q => rfl
theorem takeA_bor {r : List Ar} : takeA (.bor i :: r) ρ = (match slot ρ i with | some t => tkc t (takeA r (ρ.set i none)) | none => none) := by
  simp only [takeA]; unfold slot
  rcases ρ[i]? with _ | _ | t
  · rfl
  · rfl
  · show (match takeA r (ρ.set i none) with | some (ts, ρ') => some (t :: ts, ρ') | none => none) = tkc t (takeA r (ρ.set i none))
    cases takeA r (ρ.set i none) with
    | none => rfl
    | some q => rfl
theorem putA_nil {os : List (Option T)} : putA [] os ρ = ρ := by simp [putA]
theorem putA_own {t : T} {r : List Ar} {o : Option T} {os : List (Option T)} : putA (.own t :: r) (o :: os) ρ = putA r os ρ := rfl
theorem putA_bor {r : List Ar} {o : Option T} {os : List (Option T)} : putA (.bor i :: r) (o :: os) ρ = putA r os (ρ.set i o) := rfl
theorem allF_nil : allF [] = true := rfl
theorem allF_cons {r : List T} : allF (.fr d :: r) = allF r := rfl
theorem tV_ap : tV F ρ = bnd (F ρ) fun t ρ1 => (truth t).map fun b => .ok b ρ1 := rfl
theorem tVK_ap : tVK f ρ = (f ρ).bind fun t => (truth t).map fun b => .ok b ρ := rfl
theorem tB_ap : tB F ρ = bnd (F ρ) fun t ρ1 => (isB t).map fun b => .ok b ρ1 := rfl
theorem tBK_ap : tBK f ρ = (f ρ).bind fun t => (isB t).map fun b => .ok b ρ := rfl
theorem tNot_ap : tNot A ρ = bnd (A ρ) fun b ρ1 => some (.ok (!b) ρ1) := rfl
def tan (B : Rho → Option (Rs Bool)) : Option (Rs Bool) → Option (Rs Bool)
  | some (.ok true ρ) => B ρ
  | r => r
def tor (B : Rho → Option (Rs Bool)) : Option (Rs Bool) → Option (Rs Bool)
  | some (.ok false ρ) => B ρ
  | r => r
theorem tan_t : tan B (some (.ok true ρ)) = B ρ := rfl
theorem tan_f : tan B (some (.ok false ρ)) = some (.ok false ρ) := rfl
theorem tan_ex {c : Str} : tan B (some (.ex c ρ)) = some (.ex c ρ) := rfl
theorem tor_t : tor B (some (.ok true ρ)) = some (.ok true ρ) := rfl
theorem tor_f : tor B (some (.ok false ρ)) = B ρ := rfl
theorem tor_ex {c : Str} : tor B (some (.ex c ρ)) = some (.ex c ρ) := rfl
theorem tAnd_ap : tAnd A B ρ = tan B (A ρ) := by
  unfold tAnd
  rcases A ρ with _ | r
  · rfl
  · cases r with
    | ex c ρ' => rfl
    | ok b ρ1 => cases b <;> rfl
theorem tOr_ap : tOr A B ρ = tor B (A ρ) := by
  unfold tOr
  rcases A ρ with _ | r
  · rfl
  · cases r with
    | ex c ρ' => rfl
    | ok b ρ1 => cases b <;> rfl
theorem isB_bl {b : Bool} : isB (.fr (.bool b)) = some b := rfl
theorem truth_bl {b : Bool} : truth (.fr (.bool b)) = some b := rfl
theorem truth_lst {xs : List T} : truth (.lst xs) = some (!xs.isEmpty) := rfl
theorem truth_list {xs : List D} : truth (.fr (.list xs)) = some (!xs.isEmpty) := rfl
theorem truth_int {k : Int} : truth (.fr (.int k)) = some (decide (k ≠ 0)) := rfl
def ean (G : Rho → Option (Rs T)) : Option (Rs T) → Option (Rs T)
  | some (.ok (.fr (.bool true)) ρ) => G ρ
  | some (.ok (.fr (.bool false)) ρ) => some (.ok (.fr (.bool false)) ρ)
  | r => eAnd (fun _ => r) G []
theorem ean_t : ean G (some (.ok (.fr (.bool true)) ρ)) = G ρ := rfl
theorem ean_f : ean G (some (.ok (.fr (.bool false)) ρ)) = some (.ok (.fr (.bool false)) ρ) := rfl
theorem eAnd_ap : eAnd F G ρ = ean G (F ρ) := by
  unfold ean
  split
  · next ρ1 e => unfold eAnd; rw [e]; rfl
  · next ρ1 e => unfold eAnd; rw [e]; rfl
  · next => rfl
def eor (G : Rho → Option (Rs T)) : Option (Rs T) → Option (Rs T)
  | some (.ok (.fr (.bool false)) ρ) => G ρ
  | some (.ok (.fr (.bool true)) ρ) => some (.ok (.fr (.bool true)) ρ)
  | r => eOr (fun _ => r) G []
theorem eor_t : eor G (some (.ok (.fr (.bool true)) ρ)) = some (.ok (.fr (.bool true)) ρ) := rfl
theorem eor_f : eor G (some (.ok (.fr (.bool false)) ρ)) = G ρ := rfl
theorem eOr_ap : eOr F G ρ = eor G (F ρ) := by
  unfold eor
  split
  · next ρ1 e => unfold eOr; rw [e]; rfl
  · next ρ1 e => unfold eOr; rw [e]; rfl
  · next => rfl
theorem eNot_ap : eNot F ρ = bnd (F ρ) fun t ρ1 => (truth t).map fun b => .ok (.fr (.bool (!b))) ρ1 := rfl
def ifk {α : Type} (s t : Rho → Option (Rs α)) : Option (Rs Bool) → Option (Rs α)
  | some (.ok true ρ) => s ρ
  | some (.ok false ρ) => t ρ
  | some (.ex c ρ) => some (.ex c ρ)
  | none => none
theorem ifk_t {s t : Rho → Option (Rs T)} : ifk s t (some (.ok true ρ)) = s ρ := rfl
theorem ifk_f {s t : Rho → Option (Rs T)} : ifk s t (some (.ok false ρ)) = t ρ := rfl
theorem ifk_ex {s t : Rho → Option (Rs T)} {c : Str} : ifk s t (some (.ex c ρ)) = some (.ex c ρ) := rfl
theorem eIf_ap : eIf A F G ρ = ifk F G (A ρ) := by
  unfold eIf
  rcases A ρ with _ | r
  · rfl
  · cases r with
    | ex c ρ' => rfl
    | ok b ρ1 => cases b <;> rfl
def chk (op' : T → T → Option T) (b : T) (h : Rho → Option T) (ρ : Rho) : Option T → Option T
  | some (.fr (.bool true)) => (h ρ).bind fun c => op' b c
  | some (.fr (.bool false)) => some (.fr (.bool false))
  | r => kCh (fun _ _ => r) op' (fun _ => some b) (fun _ => some b) h ρ
theorem chk_t {b : T} : chk op' b h ρ (some (.fr (.bool true))) = (h ρ).bind fun c => op' b c := rfl
theorem chk_f {b : T} : chk op' b h ρ (some (.fr (.bool false))) = some (.fr (.bool false)) := rfl
theorem kCh_ap : kCh op op' f g h ρ = (f ρ).bind fun a => (g ρ).bind fun b => chk op' b h ρ (op a b) := by
  unfold kCh
  cases f ρ with
  | none => rfl
  | some a =>
    cases g ρ with
    | none => rfl
    | some b =>
      simp only [Option.bind_some]
      unfold chk
      split
      · next e => rw [e]; rfl
      · next e => rw [e]; rfl
      · next => rfl
theorem kN_ap {L : Rho → Option (List T)} {op : List T → Option T} : kN op L ρ = (L ρ).bind op := rfl
theorem eN_ap {L : Rho → Option (Rs (List Ar))} {op : List T → Option T} : eN op L ρ = bnd (L ρ) fun as ρ1 => (ownsA as).bind fun ts => (op ts).map fun t => .ok t ρ1 := rfl
theorem ownsA_nil : ownsA [] = some [] := rfl
theorem ownsA_own {t : T} {r : List Ar} : ownsA (.own t :: r) = (ownsA r).map (t :: ·) := rfl
theorem kTup_ap {L : Rho → Option (List T)} : kTup L ρ = (L ρ).bind fun ts => (allFr ts).bind fun ds => if ds.length ≤ SZ then some (.fr (.tuple ds)) else none := rfl
theorem kLst_ap {L : Rho → Option (List T)} : kLst L ρ = (L ρ).bind fun ts => (allFr ts).bind fun ds => if ds.length ≤ SZ then some (.lst (ds.map .fr)) else none := rfl
theorem eTup_ap {L : Rho → Option (Rs (List Ar))} : eTup L ρ = bnd (L ρ) fun as ρ1 => (ownsA as).bind fun ts => (T.datL ts).bind fun ds => if ds.length ≤ SZ then some (.ok (.fr (.tuple ds)) ρ1) else none := rfl
theorem eLst_ap {L : Rho → Option (Rs (List Ar))} : eLst L ρ = bnd (L ρ) fun as ρ1 => (ownsA as).bind fun ts => if ts.length ≤ SZ then some (.ok (.lst ts) ρ1) else none := rfl
theorem kIsi_ap {n : String} : kIsi n f ρ = (f ρ).bind fun t => (typT t).map fun s => .fr (.bool (isaB s n)) := rfl
theorem kSl_ap {lo hi : Rho → Option (Option Int)} : kSl f lo hi ρ = (f ρ).bind fun t => (lo ρ).bind fun l => (hi ρ).bind fun h => opSl l h t := rfl
theorem eSl_ap {lo hi : Rho → Option (Option Int)} : eSl F lo hi ρ = bnd (F ρ) fun t ρ1 => (lo ρ1).bind fun l => (hi ρ1).bind fun h => (opSl l h t).map fun u => .ok u ρ1 := rfl
def parI : Option T → Option (Option Int)
  | some (.fr (.int i)) => some (some i)
  | _ => none
theorem parI_ok {k : Int} : parI (some (.fr (.int k))) = some (some k) := rfl
theorem kPart_ap : kPart f ρ = parI (f ρ) := rfl
theorem kNoPart_ap : kNoPart ρ = some none := rfl
theorem kRev_ap : kRev f ρ = (f ρ).bind fun t => (T.asL t).map fun ds => .lst (ds.reverse.map .fr) := rfl
theorem gN_ap : gN i d ρ = if i < ρ.length then some (ρ.set i (some (.fr d))) else none := rfl
theorem gTp_tup {n : Nat} {gs : List D → Rho → Option Rho} {ds : List D} : gTp n gs (.tuple ds) ρ = if ds.length = n then gs ds ρ else none := by unfold gTp; rfl
theorem gCs_cons {a : D → Rho → Option Rho} {gs : List D → Rho → Option Rho} {ds : List D} : gCs a gs (d :: ds) ρ = (a d ρ).bind (gs ds) := by unfold gCs; rfl
theorem gNl_nil : gNl [] ρ = some ρ := rfl
theorem iIt_ap : iIt F ρ = bnd (F ρ) fun t ρ1 => (T.dat t).bind fun d => (itemsD d).map fun ds => .ok ds ρ1 := rfl
theorem items_list {ds : List D} : itemsD (.list ds) = some ds := rfl
theorem items_tuple {ds : List D} : itemsD (.tuple ds) = some ds := rfl
def rg1 (ρ1 : Rho) : List Ar → Option (Rs (List D))
  | [.own (.fr (.int j))] => if j ≤ 16777216 ∧ -16777216 ≤ j then some (.ok (rngD 0 j.toNat) ρ1) else none
  | _ => none
theorem iRange1_ap {L : Rho → Option (Rs (List Ar))} : iRange1 L ρ = bnd (L ρ) fun as ρ1 => rg1 ρ1 as := rfl
theorem rg1_ok {k : Int} : rg1 ρ [.own (.fr (.int k))] = if k ≤ 16777216 ∧ -16777216 ≤ k then some (.ok (rngD 0 k.toNat) ρ) else none := rfl
def rg2 (ρ1 : Rho) : List Ar → Option (Rs (List D))
  | [.own (.fr (.int i)), .own (.fr (.int j))] => if -4000000000000000000 ≤ i ∧ i ≤ 4000000000000000000 ∧ -4000000000000000000 ≤ j ∧ j ≤ 4000000000000000000 ∧ j - i ≤ 16777216 then some (.ok (rngD i (j - i).toNat) ρ1) else none
  | _ => none
theorem iRange2_ap {L : Rho → Option (Rs (List Ar))} : iRange2 L ρ = bnd (L ρ) fun as ρ1 => rg2 ρ1 as := rfl
theorem rg2_ok {i j : Int} : rg2 ρ [.own (.fr (.int i)), .own (.fr (.int j))] = if -4000000000000000000 ≤ i ∧ i ≤ 4000000000000000000 ∧ -4000000000000000000 ≤ j ∧ j ≤ 4000000000000000000 ∧ j - i ≤ 16777216 then some (.ok (rngD i (j - i).toNat) ρ) else none := rfl
theorem tYesF_ap : tYesF ρ = some (.ok true ρ) := rfl
/-! statements -/
def nxt (k : Rho → Option Out) : Option Out → Option Out
  | some (.nx ρ1) => k ρ1
  | o => o
theorem nxt_nx {k : Rho → Option Out} : nxt k (some (.nx ρ)) = k ρ := rfl
theorem nxt_rt {k : Rho → Option Out} {t : T} : nxt k (some (.rt t ρ)) = some (.rt t ρ) := rfl
theorem nxt_ex {k : Rho → Option Out} {c : Str} : nxt k (some (.ex c ρ)) = some (.ex c ρ) := rfl
theorem nxt_bk {k : Rho → Option Out} : nxt k (some (.bk ρ)) = some (.bk ρ) := rfl
theorem nxt_ct {k : Rho → Option Out} : nxt k (some (.ct ρ)) = some (.ct ρ) := rfl
theorem sSeq_ap : sSeq s t ρ = nxt t (s ρ) := rfl
theorem sNil_ap : sNil ρ = some (.nx ρ) := rfl
theorem sBk_ap : sBk ρ = some (.bk ρ) := rfl
theorem sCt_ap : sCt ρ = some (.ct ρ) := rfl
theorem sRaise_ap {c : Str} : sRaise c ρ = some (.ex c ρ) := rfl
theorem sExpr_ap : sExpr F ρ = ofR (F ρ) fun _ ρ1 => some (.nx ρ1) := rfl
theorem sRet_ap : sRet F ρ = ofR (F ρ) fun t ρ1 => some (.rt t ρ1) := rfl
theorem sRetN_ap : sRetN ρ = some (.rt (.fr .none) ρ) := rfl
def ifs (s t : Rho → Option Out) : Option (Rs Bool) → Option Out
  | some (.ok true ρ) => s ρ
  | some (.ok false ρ) => t ρ
  | some (.ex c ρ) => some (.ex c ρ)
  | none => none
theorem ifs_t : ifs s t (some (.ok true ρ)) = s ρ := rfl
theorem ifs_f : ifs s t (some (.ok false ρ)) = t ρ := rfl
theorem ifs_ex {c : Str} : ifs s t (some (.ex c ρ)) = some (.ex c ρ) := rfl
theorem sIf_ap : sIf A s t ρ = ifs s t (A ρ) := by
  unfold sIf
  rcases A ρ with _ | r
  · rfl
  · cases r with
    | ex c ρ' => rfl
    | ok b ρ1 => cases b <;> rfl
theorem sSet_ap : sSet i F ρ = ofR (F ρ) fun t ρ1 => if i < ρ1.length then some (.nx (ρ1.set i (some t))) else none := rfl
theorem sTgt_ap {g : D → Rho → Option Rho} : sTgt g F ρ = ofR (F ρ) fun t ρ1 => (T.dat t).bind fun d => (g d ρ1).map fun ρ2 => .nx ρ2 := rfl
def kild (ks : List Nat) : Option Out → Option Out
  | some (.nx ρ1) => some (.nx (wipeR ρ1 ks))
  | some (.ct ρ1) => some (.ct (wipeR ρ1 ks))
  | o => o
theorem kild_nx {ks : List Nat} : kild ks (some (.nx ρ)) = some (.nx (wipeR ρ ks)) := rfl
theorem kild_ct {ks : List Nat} : kild ks (some (.ct ρ)) = some (.ct (wipeR ρ ks)) := rfl
theorem kild_rt {ks : List Nat} {t : T} : kild ks (some (.rt t ρ)) = some (.rt t ρ) := rfl
theorem kild_bk {ks : List Nat} : kild ks (some (.bk ρ)) = some (.bk ρ) := rfl
theorem kild_ex {ks : List Nat} {c : Str} : kild ks (some (.ex c ρ)) = some (.ex c ρ) := rfl
theorem kill_ap {ks : List Nat} : kill ks s ρ = kild ks (s ρ) := by unfold kill kild; rfl
theorem wipe_nil : wipeR ρ [] = ρ := rfl
theorem wipe_cons {n : Nat} {ns : List Nat} : wipeR ρ (n :: ns) = (wipeR ρ ns).set n none := rfl
def app0 (i : Nat) (t : T) (ρ1 : Rho) : Option T → Option Out
  | some (.lst ts) => if ts.length < SZ then some (.nx (ρ1.set i (some (.lst (ts ++ [t]))))) else none
  | _ => none
theorem app0_ok {t : T} {ts : List T} : app0 i t ρ (some (.lst ts)) = if ts.length < SZ then some (.nx (ρ.set i (some (.lst (ts ++ [t]))))) else none := rfl
def isLst : Option T → Bool
  | some (.lst _) => true
  | _ => false
theorem isLst_ok {ts : List T} : isLst (some (.lst ts)) = true := rfl
theorem sApp0_ap : sApp0 i F ρ = if isLst (slot ρ i) = true then ofR (F ρ) (fun t ρ1 => app0 i t ρ1 (slot ρ1 i)) else none := by
  unfold sApp0
  cases slot ρ i with
  | none => rfl
  | some t => cases t <;> first | rfl | (simp only [isLst]; rfl)
theorem sFor_ap {fi : Rho → Option (Rs (List D))} {g : D → Rho → Option Rho} : sFor fi g s ρ = ofR (fi ρ) fun ds ρ1 => loopF g s sNil ds ρ1 := rfl
theorem sForE_ap {fi : Rho → Option (Rs (List D))} {g : D → Rho → Option Rho} : sForE fi g s t ρ = ofR (fi ρ) fun ds ρ1 => loopF g s t ds ρ1 := rfl
theorem eLc_ap {own : List Nat} {fi : Rho → Option (Rs (List D))} {g : D → Rho → Option Rho} {fc : Rho → Option (Rs Bool)} {fe : Rho → Option (Rs T)} : eLc own fi g fc fe ρ = bnd (fi ρ) fun ds ρ1 => (cLoop own g fc fe ds (wipeR ρ1 own)).map fun q => .ok (.lst q.1) (backR ρ1 q.2 own) := rfl
theorem back_nil {ρ0 : Rho} : backR ρ0 ρ [] = ρ := rfl
def bk1 : Option (Option T) → Option T
  | some (some (.fr d)) => some (.fr d)
  | _ => none
theorem back_cons {ρ0 : Rho} {n : Nat} {ns : List Nat} : backR ρ0 ρ (n :: ns) = (backR ρ0 ρ ns).set n (bk1 ρ0[n]?) := by
  simp only [backR]; congr 1
theorem bk1_none : bk1 (some none) = none := rfl
theorem bk1_fr : bk1 (some (some (.fr d))) = some (.fr d) := rfl
theorem bk1_lst {xs : List T} : bk1 (some (some (.lst xs))) = none := rfl
/-! what a def gives -/
def endD (pin : List Nat) (ts : List T) : Option Out → Option Ret
  | some (.rt t ρ) => some (.ok t (outs pin ρ ts 0))
  | some (.nx ρ) => some (.ok (.fr .none) (outs pin ρ ts 0))
  | some (.ex c _) => some (.ex c)
  | _ => none
theorem endD_rt {pin : List Nat} {ts : List T} {t : T} : endD pin ts (some (.rt t ρ)) = some (.ok t (outs pin ρ ts 0)) := rfl
theorem endD_nx {pin : List Nat} {ts : List T} : endD pin ts (some (.nx ρ)) = some (.ok (.fr .none) (outs pin ρ ts 0)) := rfl
theorem endD_ex {pin : List Nat} {ts : List T} {c : Str} : endD pin ts (some (.ex c ρ)) = some (.ex c) := rfl
theorem semD_ap {n m : Nat} {pin : List Nat} {ts : List T} (hl : ts.length = n) : semD n m pin s ts = endD pin ts (s (ts.map some ++ List.replicate m none)) := by
  unfold semD; rw [if_pos hl]
  rcases s (ts.map some ++ List.replicate m none) with _ | o
  · rfl
  · cases o <;> rfl
theorem semD_1 {m : Nat} {pin : List Nat} {a0 : T} : semD 1 m pin s [a0] = endD pin [a0] (s (some a0 :: List.replicate m none)) := semD_ap rfl
theorem semD_2 {m : Nat} {pin : List Nat} {a0 a1 : T} : semD 2 m pin s [a0, a1] = endD pin [a0, a1] (s (some a0 :: some a1 :: List.replicate m none)) := semD_ap rfl
theorem semD_3 {m : Nat} {pin : List Nat} {a0 a1 a2 : T} : semD 3 m pin s [a0, a1, a2] = endD pin [a0, a1, a2] (s (some a0 :: some a1 :: some a2 :: List.replicate m none)) := semD_ap rfl
theorem semD_4 {m : Nat} {pin : List Nat} {a0 a1 a2 a3 : T} : semD 4 m pin s [a0, a1, a2, a3] = endD pin [a0, a1, a2, a3] (s (some a0 :: some a1 :: some a2 :: some a3 :: List.replicate m none)) := semD_ap rfl
theorem semD_5 {m : Nat} {pin : List Nat} {a0 a1 a2 a3 a4 : T} : semD 5 m pin s [a0, a1, a2, a3, a4] = endD pin [a0, a1, a2, a3, a4] (s (some a0 :: some a1 :: some a2 :: some a3 :: some a4 :: List.replicate m none)) := semD_ap rfl
theorem semD_6 {m : Nat} {pin : List Nat} {a0 a1 a2 a3 a4 a5 : T} : semD 6 m pin s [a0, a1, a2, a3, a4, a5] = endD pin [a0, a1, a2, a3, a4, a5] (s (some a0 :: some a1 :: some a2 :: some a3 :: some a4 :: some a5 :: List.replicate m none)) := semD_ap rfl
theorem semD_7 {m : Nat} {pin : List Nat} {a0 a1 a2 a3 a4 a5 a6 : T} : semD 7 m pin s [a0, a1, a2, a3, a4, a5, a6] = endD pin [a0, a1, a2, a3, a4, a5, a6] (s (some a0 :: some a1 :: some a2 :: some a3 :: some a4 :: some a5 :: some a6 :: List.replicate m none)) := semD_ap rfl
theorem semD_8 {m : Nat} {pin : List Nat} {a0 a1 a2 a3 a4 a5 a6 a7 : T} : semD 8 m pin s [a0, a1, a2, a3, a4, a5, a6, a7] = endD pin [a0, a1, a2, a3, a4, a5, a6, a7] (s (some a0 :: some a1 :: some a2 :: some a3 :: some a4 :: some a5 :: some a6 :: some a7 :: List.replicate m none)) := semD_ap rfl
theorem outs_nil {pin : List Nat} {n : Nat} : outs pin ρ [] n = [] := rfl
theorem outs_cons {pin : List Nat} {n : Nat} {t : T} {r : List T} : outs pin ρ (t :: r) n = (if n ∈ pin then slot ρ n else frO t) :: outs pin ρ r (n + 1) := rfl
theorem frO_fr : frO (.fr d) = some (.fr d) := rfl
/-! numbers -/
section
variable {a b : Int}
theorem opAdd_i : opAdd (.fr (.int a)) (.fr (.int b)) = some (.fr (.int (a + b))) := rfl
theorem opAddI_i : opAddI (.fr (.int a)) (.fr (.int b)) = some (.fr (.int (a + b))) := rfl
theorem opSub_i : opSub (.fr (.int a)) (.fr (.int b)) = some (.fr (.int (a - b))) := rfl
theorem opMod_i (h : 0 < b) : opMod (.fr (.int a)) (.fr (.int b)) = some (.fr (.int (a % b))) := by simp [opMod, opInt, h]
theorem opFdiv_i (h : 0 < b) (h2 : b < 1073741824) : opFdiv (.fr (.int a)) (.fr (.int b)) = some (.fr (.int (a / b))) := by simp [opFdiv, opInt, h, h2]
theorem opMul_r (h : -18446744073709551616 < b) (h2 : b < 18446744073709551616) : opMul (.fr (.int a)) (.fr (.int b)) = some (.fr (.int (a * b))) := by simp [opMul, h, h2]
theorem opMul_l (h : -18446744073709551616 < a) (h2 : a < 18446744073709551616) : opMul (.fr (.int a)) (.fr (.int b)) = some (.fr (.int (a * b))) := by simp [opMul, h, h2]
theorem opPow_i (h : 0 ≤ b) (h1 : b ≤ 1000000) (h2 : a.natAbs < 18446744073709551616) : opPow (.fr (.int a)) (.fr (.int b)) = some (.fr (.int (a ^ b.toNat))) := by simp [opPow, opInt, h, h1, h2]
theorem okD_int : okD (.int a) = true := rfl
theorem eqv_int : PyData.eqv (.int a) (.int b) = decide (a = b) := by
  simp only [PyData.eqv]
  by_cases h : a = b <;> simp [h]
theorem opEq_i : opEq (.fr (.int a)) (.fr (.int b)) = some (.fr (.bool (decide (a = b)))) := by
  show (if okD (.int a) = true ∧ okD (.int b) = true then (some (PyData.eqv (.int a) (.int b))).map fun k => T.fr (.bool k) else none) = _
  rw [if_pos ⟨rfl, rfl⟩, eqv_int]; rfl
theorem opNe_i : opNe (.fr (.int a)) (.fr (.int b)) = some (.fr (.bool (!decide (a = b)))) := by
  show (if okD (.int a) = true ∧ okD (.int b) = true then (some (!PyData.eqv (.int a) (.int b))).map fun k => T.fr (.bool k) else none) = _
  rw [if_pos ⟨rfl, rfl⟩, eqv_int]; rfl
theorem opLt_i : opLt (.fr (.int a)) (.fr (.int b)) = some (.fr (.bool (decide (a < b)))) := rfl
theorem opGt_i : opGt (.fr (.int a)) (.fr (.int b)) = some (.fr (.bool (decide (b < a)))) := rfl
theorem opLe_i : opLe (.fr (.int a)) (.fr (.int b)) = some (.fr (.bool (!decide (b < a)))) := rfl
theorem opGe_i : opGe (.fr (.int a)) (.fr (.int b)) = some (.fr (.bool (!decide (a < b)))) := rfl
theorem opNeg_i : opNeg (.fr (.int a)) = some (.fr (.int (-a))) := rfl
end
theorem opLen_list {ds : List D} : opLen [.fr (.list ds)] = some (.fr (.int ds.length)) := rfl
theorem opLen_tup {ds : List D} : opLen [.fr (.tuple ds)] = some (.fr (.int ds.length)) := rfl
theorem opLen_lst {ds : List T} : opLen [.lst ds] = some (.fr (.int ds.length)) := rfl
theorem atI_nat {α : Type} {xs : List α} {n : Int} (h : 0 ≤ n) (h2 : n < xs.length) : atI xs n = xs[n.toNat]? := by
  unfold atI
  have e : ixN xs.length n = some n.toNat := by
    unfold ixN
    first
      | (simp [h, h2]; done)
      | (split <;> first | rfl | omega)
      | (simp only []; split <;> omega)
  rw [e]; rfl
theorem opIx_list {ds : List D} {k : Int} : opIx (.fr (.list ds)) (.fr (.int k)) = (atI ds k).map .fr := rfl
theorem opIx_tup {ds : List D} {k : Int} : opIx (.fr (.tuple ds)) (.fr (.int k)) = (atI ds k).map .fr := rfl
theorem opIx_lst {ds : List T} {k : Int} : opIx (.lst ds) (.fr (.int k)) = atI ds k := rfl
theorem frOp_ap {a b : T} : frOp op a b = onlyFr (op a b) := rfl
theorem onlyFr_fr : onlyFr (some (.fr d)) = some (.fr d) := rfl
theorem dat_fr : T.dat (.fr d) = some d := rfl
theorem dat_lst {xs : List T} : T.dat (.lst xs) = (T.datL xs).map .list := by simp [T.dat]
theorem datL_nil : T.datL [] = some [] := by simp [T.datL]
theorem datL_fr {xs : List T} : T.datL (.fr d :: xs) = (T.datL xs).map (d :: ·) := by
  simp only [T.datL, T.dat]; cases T.datL xs <;> rfl
theorem datL_lst {xs ys : List T} : T.datL (.lst ys :: xs) = ((T.datL ys).map PyData.list).bind fun d => (T.datL xs).map (d :: ·) := by
  simp only [T.datL, T.dat]; cases T.datL ys <;> cases T.datL xs <;> rfl
theorem allFr_nil : allFr [] = some [] := rfl
theorem allFr_cons {xs : List T} : allFr (.fr d :: xs) = (allFr xs).map (d :: ·) := rfl
theorem asS_list {ds : List D} : T.asS (.fr (.list ds)) = some ds := rfl
theorem asS_tup {ds : List D} : T.asS (.fr (.tuple ds)) = some ds := rfl
theorem opList_ap {t : T} : opList [t] = (T.asS t).map fun ds => .lst (ds.map .fr) := rfl
theorem opTuple_ap {t : T} : opTuple [t] = (T.asS t).map fun ds => .fr (.tuple ds) := rfl
theorem ixN_nat {n : Nat} {k : Int} (h : 0 ≤ k) (h2 : k < n) : ixN n k = some k.toNat := by unfold ixN; rw [if_pos h, if_pos h2]
theorem atI_0 {α : Type} {x : α} {xs : List α} : atI (x :: xs) 0 = some x := by
  unfold atI; rw [ixN_nat (by omega) (by simp only [List.length_cons]; omega)]; rfl
theorem atI_1 {α : Type} {x y : α} {xs : List α} : atI (x :: y :: xs) 1 = some y := by
  unfold atI; rw [ixN_nat (by omega) (by simp only [List.length_cons]; omega)]; rfl
theorem atI_2 {α : Type} {x y z : α} {xs : List α} : atI (x :: y :: z :: xs) 2 = some z := by
  unfold atI; rw [ixN_nat (by omega) (by simp only [List.length_cons]; omega)]; rfl
theorem atI_3 {α : Type} {x y z u : α} {xs : List α} : atI (x :: y :: z :: u :: xs) 3 = some u := by
  unfold atI; rw [ixN_nat (by omega) (by simp only [List.length_cons]; omega)]; rfl
theorem atI_4 {α : Type} {x y z u v : α} {xs : List α} : atI (x :: y :: z :: u :: v :: xs) 4 = some v := by
  unfold atI; rw [ixN_nat (by omega) (by simp only [List.length_cons]; omega)]; rfl
theorem atI_map {α β : Type} {f : α → β} {xs : List α} {k : Int} : atI (xs.map f) k = (atI xs k).map f := by
  unfold atI; rw [List.length_map]; cases ixN xs.length k with
  | none => rfl
  | some j => simp
theorem atI_get {α : Type} [Inhabited α] {xs : List α} {k : Int} (h : 0 ≤ k) (h2 : k < xs.length) : atI xs k = some (xs[k.toNat]?.getD default) := by
  unfold atI; rw [ixN_nat h h2]
  simp only [Option.bind_some]
  have : k.toNat < xs.length := by omega
  rw [List.getElem?_eq_getElem this]; rfl
theorem atI_int {xs : List Int} {k : Int} (h : 0 ≤ k) (h2 : k < xs.length) : atI xs k = some (xs[k.toNat]?.getD 0) := by
  unfold atI; rw [ixN_nat h h2]
  simp only [Option.bind_some]
  have : k.toNat < xs.length := by omega
  rw [List.getElem?_eq_getElem this]; rfl
theorem pV_ap {i : Nat} : pV i ρ = (slot ρ i).map fun _ => (i, []) := rfl
theorem getAt_ap {i : Nat} {p : List Sg} : getAt ρ i p = (slot ρ i).bind (getP p) := rfl
theorem getP_nil {t : T} : getP [] t = some t := by cases t <;> rfl
theorem getP_ix {j : Nat} {p : List Sg} {ts : List T} : getP (.ix j :: p) (.lst ts) = (ts[j]?).bind (getP p) := rfl
theorem setAt_ap {i : Nat} {p : List Sg} {u : T} : setAt ρ i p u = (slot ρ i).bind fun t0 => (setP u p t0).map fun t2 => ρ.set i (some t2) := rfl
theorem setP_nil {u t : T} : setP u [] t = some u := by cases t <;> rfl
theorem setP_ix {u : T} {j : Nat} {p : List Sg} {ts : List T} : setP u (.ix j :: p) (.lst ts) = (ts[j]?).bind fun t => (setP u p t).map fun t' => .lst (ts.set j t') := rfl
def pix (q : Nat × List Sg) : Option T → Option T → Option (Nat × List Sg)
  | some (.lst ts), some (.fr (.int k)) => (ixN ts.length k).map fun j => (q.1, q.2 ++ [.ix j])
  | _, _ => none
theorem pix_ok {q : Nat × List Sg} {ts : List T} {k : Int} : pix q (some (.lst ts)) (some (.fr (.int k))) = (ixN ts.length k).map fun j => (q.1, q.2 ++ [.ix j]) := rfl
theorem pIx_ap {lp : Rho → Option (Nat × List Sg)} : pIx lp f ρ = (lp ρ).bind fun q => pix q (getAt ρ q.1 q.2) (f ρ) := rfl
def six (t : T) (ρ1 : Rho) (q : Nat × List Sg) : Option T → Option T → Option Out
  | some (.lst ts), some (.fr (.int k)) => (ixN ts.length k).bind fun j => (setAt ρ1 q.1 q.2 (.lst (ts.set j t))).map .nx
  | _, _ => none
theorem six_ok {t : T} {q : Nat × List Sg} {ts : List T} {k : Int} : six t ρ q (some (.lst ts)) (some (.fr (.int k))) = (ixN ts.length k).bind fun j => (setAt ρ q.1 q.2 (.lst (ts.set j t))).map .nx := rfl
theorem sSetIx_ap {lp : Rho → Option (Nat × List Sg)} : sSetIx lp f F ρ = ofR (F ρ) fun t ρ1 => (lp ρ1).bind fun q => six t ρ1 q (getAt ρ1 q.1 q.2) (f ρ1) := rfl
def pp0 (q : Nat × List Sg) (ρ : Rho) : Option T → Option (Rs T)
  | some (.lst ts) => (ts[ts.length - 1]?).bind fun t => (setAt ρ q.1 q.2 (.lst ts.dropLast)).map fun ρ2 => .ok t ρ2
  | _ => none
theorem pp0_ok {q : Nat × List Sg} {ts : List T} : pp0 q ρ (some (.lst ts)) = (ts[ts.length - 1]?).bind fun t => (setAt ρ q.1 q.2 (.lst ts.dropLast)).map fun ρ2 => .ok t ρ2 := rfl
theorem ePop_ap {lp : Rho → Option (Nat × List Sg)} : ePop lp ρ = (lp ρ).bind fun q => pp0 q ρ (getAt ρ q.1 q.2) := rfl
def par2 (i j : Nat) (ρ1 : Rho) : List Ar → Option Out
  | [.own (.fr d1), .own (.fr d2)] => if i < ρ1.length ∧ j < ρ1.length then some (.nx ((ρ1.set i (some (.fr d1))).set j (some (.fr d2)))) else none
  | _ => none
theorem par2_ok {i j : Nat} {d1 d2 : D} : par2 i j ρ [.own (.fr d1), .own (.fr d2)] = if i < ρ.length ∧ j < ρ.length then some (.nx ((ρ.set i (some (.fr d1))).set j (some (.fr d2)))) else none := rfl
theorem sPar_ap {i j : Nat} {L : Rho → Option (Rs (List Ar))} : sPar i j L ρ = ofR (L ρ) fun as ρ1 => par2 i j ρ1 as := rfl
def aug1 (i : Nat) (op : T → T → Option T) (r : Option (Rs T)) : Option T → Option Out
  | some (.fr d) => ofR r fun t ρ1 => (op (.fr d) t).bind fun u => if i < ρ1.length then some (.nx (ρ1.set i (some u))) else none
  | _ => none
theorem aug1_ok {r : Option (Rs T)} : aug1 i op r (some (.fr d)) = ofR r fun t ρ1 => (op (.fr d) t).bind fun u => if i < ρ1.length then some (.nx (ρ1.set i (some u))) else none := rfl
theorem sAug_ap : sAug i op F ρ = aug1 i op (F ρ) (slot ρ i) := by
  unfold sAug slot
  rcases ρ[i]? with _ | _ | t
  · rfl
  · rfl
  · cases t <;> rfl
theorem opIsN_ap {n : Bool} {t : T} : opIsN n t (.fr .none) = some (.fr (.bool (isNoT t ^^ n))) := by cases t <;> rfl
theorem isNoT_none : isNoT (.fr .none) = true := rfl
theorem isNoT_int {a : Int} : isNoT (.fr (.int a)) = false := rfl
theorem isNoT_list {a : List D} : isNoT (.fr (.list a)) = false := rfl
theorem isNoT_tup {a : List D} : isNoT (.fr (.tuple a)) = false := rfl
theorem isNoT_lst {a : List T} : isNoT (.lst a) = false := rfl
theorem typT_fr : typT (.fr d) = some (typD d) := rfl
theorem typT_lst {xs : List T} : typT (.lst xs) = some "list" := rfl
theorem typD_none : typD .none = "NoneType" := rfl
theorem typD_bool {b : Bool} : typD (.bool b) = "bool" := rfl
theorem typD_int {a : Int} : typD (.int a) = "int" := rfl
theorem typD_str {a : Str} : typD (.str a) = "str" := rfl
theorem typD_list {a : List D} : typD (.list a) = "list" := rfl
theorem typD_tuple {a : List D} : typD (.tuple a) = "tuple" := rfl
theorem isa_NoneType_bool : isaB "NoneType" "bool" = false := by decide
theorem isa_NoneType_int : isaB "NoneType" "int" = false := by decide
theorem isa_NoneType_str : isaB "NoneType" "str" = false := by decide
theorem isa_NoneType_list : isaB "NoneType" "list" = false := by decide
theorem isa_NoneType_tuple : isaB "NoneType" "tuple" = false := by decide
theorem isa_NoneType_dict : isaB "NoneType" "dict" = false := by decide
theorem isa_bool_bool : isaB "bool" "bool" = true := by decide
theorem isa_bool_int : isaB "bool" "int" = true := by decide
theorem isa_bool_str : isaB "bool" "str" = false := by decide
theorem isa_bool_list : isaB "bool" "list" = false := by decide
theorem isa_bool_tuple : isaB "bool" "tuple" = false := by decide
theorem isa_bool_dict : isaB "bool" "dict" = false := by decide
theorem isa_int_bool : isaB "int" "bool" = false := by decide
theorem isa_int_int : isaB "int" "int" = true := by decide
theorem isa_int_str : isaB "int" "str" = false := by decide
theorem isa_int_list : isaB "int" "list" = false := by decide
theorem isa_int_tuple : isaB "int" "tuple" = false := by decide
theorem isa_int_dict : isaB "int" "dict" = false := by decide
theorem isa_str_bool : isaB "str" "bool" = false := by decide
theorem isa_str_int : isaB "str" "int" = false := by decide
theorem isa_str_str : isaB "str" "str" = true := by decide
theorem isa_str_list : isaB "str" "list" = false := by decide
theorem isa_str_tuple : isaB "str" "tuple" = false := by decide
theorem isa_str_dict : isaB "str" "dict" = false := by decide
theorem isa_list_bool : isaB "list" "bool" = false := by decide
theorem isa_list_int : isaB "list" "int" = false := by decide
theorem isa_list_str : isaB "list" "str" = false := by decide
theorem isa_list_list : isaB "list" "list" = true := by decide
theorem isa_list_tuple : isaB "list" "tuple" = false := by decide
theorem isa_list_dict : isaB "list" "dict" = false := by decide
theorem isa_tuple_bool : isaB "tuple" "bool" = false := by decide
theorem isa_tuple_int : isaB "tuple" "int" = false := by decide
theorem isa_tuple_str : isaB "tuple" "str" = false := by decide
theorem isa_tuple_list : isaB "tuple" "list" = false := by decide
theorem isa_tuple_tuple : isaB "tuple" "tuple" = true := by decide
theorem isa_tuple_dict : isaB "tuple" "dict" = false := by decide
theorem isa_dict_bool : isaB "dict" "bool" = false := by decide
theorem isa_dict_int : isaB "dict" "int" = false := by decide
theorem isa_dict_str : isaB "dict" "str" = false := by decide
theorem isa_dict_list : isaB "dict" "list" = false := by decide
theorem isa_dict_tuple : isaB "dict" "tuple" = false := by decide
theorem isa_dict_dict : isaB "dict" "dict" = true := by decide
/-! loops -/
/-- a loop with an invariant -/
theorem loopF_inv {g : D → Rho → Option Rho} {fb : Rho → Option Out} (I : List D → Rho → Prop) : ∀ {ds : List D} {ρ : Rho}, I ds ρ → (∀ d r ρ, d ∈ ds → I (d :: r) ρ → ∃ ρ1 ρ2, g d ρ = some ρ1 ∧ fb ρ1 = some (.nx ρ2) ∧ I r ρ2) → ∃ ρ', loopF g fb sNil ds ρ = some (.nx ρ') ∧ I [] ρ'
  | [], ρ, h, _ => ⟨ρ, rfl, h⟩
  | d :: ds, ρ, h, st => by
    obtain ⟨ρ1, ρ2, e1, e2, h2⟩ := st d ds ρ (by simp) h
    obtain ⟨ρ', e3, h3⟩ := loopF_inv I h2 fun d' r ρ hd => st d' r ρ (by simp [hd])
    exact ⟨ρ', by simp only [loopF, e1, e2, e3], h3⟩
theorem for_inv {fi : Rho → Option (Rs (List D))} {g : D → Rho → Option Rho} {fb : Rho → Option Out} {ρ1 : Rho} {ds : List D} (e : fi ρ = some (.ok ds ρ1)) (I : List D → Rho → Prop) (h : I ds ρ1) (st : ∀ d r ρ, d ∈ ds → I (d :: r) ρ → ∃ ρ2, (g d ρ).bind fb = some (.nx ρ2) ∧ I r ρ2) :
    ∃ ρ', sFor fi g fb ρ = some (.nx ρ') ∧ I [] ρ' := by
  rw [sFor_ap, e, ofR_ok]
  refine loopF_inv I h fun d r ρ hd hi => ?_
  obtain ⟨ρ2, e2, h2⟩ := st d r ρ hd hi
  obtain ⟨ρ1, q1, q2⟩ := Option.bind_eq_some_iff.mp e2
  exact ⟨ρ1, ρ2, q1, q2, h2⟩
theorem rngD_cons {lo : Int} {n : Nat} : rngD lo (n + 1) = .int lo :: rngD (lo + 1) n := by
  unfold rngD
  rw [List.range_succ_eq_map]
  simp only [List.map_cons, List.map_map, List.cons.injEq]
  refine ⟨by simp, List.map_congr_left fun i _ => ?_⟩
  simp only [Function.comp]
  congr 1
  omega
theorem rngD_zero {lo : Int} : rngD lo 0 = [] := rfl
theorem rngD_len {lo : Int} {n : Nat} : (rngD lo n).length = n := by simp [rngD]
theorem rngD_mem {lo : Int} {n : Nat} {d : D} (h : d ∈ rngD lo n) : ∃ k : Nat, k < n ∧ d = .int (lo + k) := by
  unfold rngD at h
  obtain ⟨k, h1, rfl⟩ := List.mem_map.mp h
  exact ⟨k, List.mem_range.mp h1, rfl⟩
theorem loop_rng {g : D → Rho → Option Rho} {fb : Rho → Option Out} (I : Nat → Rho → Prop) : ∀ {m n : Nat} {ρ : Rho}, I m ρ → (∀ k ρ, m ≤ k → k < m + n → I k ρ → ∃ ρ2, (g (.int k) ρ).bind fb = some (.nx ρ2) ∧ I (k + 1) ρ2) → ∃ ρ', loopF g fb sNil (rngD m n) ρ = some (.nx ρ') ∧ I (m + n) ρ'
  | m, 0, ρ, h, _ => ⟨ρ, by rw [rngD_zero]; rfl, h⟩
  | m, n + 1, ρ, h, st => by
    obtain ⟨ρ2, e2, h2⟩ := st m ρ (Nat.le_refl m) (by omega) h
    obtain ⟨ρ1, q1, q2⟩ := Option.bind_eq_some_iff.mp e2
    obtain ⟨ρ', e3, h3⟩ := loop_rng (m := m + 1) (n := n) I h2 fun k ρ h1 h2 => st k ρ (by omega) (by omega)
    refine ⟨ρ', ?_, by rw [show m + (n + 1) = m + 1 + n by omega]; exact h3⟩
    rw [rngD_cons]
    simp only [loopF, q1, q2]
    exact e3
/-- for k in range(n), with what holds ahead of each turn -/
theorem for_rng {fi : Rho → Option (Rs (List D))} {g : D → Rho → Option Rho} {fb : Rho → Option Out} {ρ1 : Rho} {n : Nat} (e : fi ρ = some (.ok (rngD 0 n) ρ1)) (I : Nat → Rho → Prop) (h : I 0 ρ1) (st : ∀ k ρ, k < n → I k ρ → ∃ ρ2, (g (.int k) ρ).bind fb = some (.nx ρ2) ∧ I (k + 1) ρ2) :
    ∃ ρ', sFor fi g fb ρ = some (.nx ρ') ∧ I n ρ' := by
  rw [sFor_ap, e, ofR_ok]
  have := loop_rng (g := g) (fb := fb) (m := 0) (n := n) I h fun k ρ _ h2 => st k ρ (by omega)
  simpa using this
theorem loopF_cons {g : D → Rho → Option Rho} {fb fe : Rho → Option Out} {ds : List D} {ρ1 ρ2 : Rho} (e1 : g d ρ = some ρ1) (e2 : fb ρ1 = some (.nx ρ2)) : loopF g fb fe (d :: ds) ρ = loopF g fb fe ds ρ2 := by simp only [loopF, e1, e2]
theorem loopF_nil {g : D → Rho → Option Rho} {fb fe : Rho → Option Out} : loopF g fb fe [] ρ = fe ρ := rfl
/-- a block: what is kept, and of it -/
theorem cLoop_map {own : List Nat} {g : D → Rho → Option Rho} {fc : Rho → Option (Rs Bool)} {fe : Rho → Option (Rs T)} {p : D → Bool} {v : D → T} {σ : Rho} : ∀ {ds : List D}, (∀ d ∈ ds, ∃ ρ1 ρ2, g d σ = some ρ1 ∧ fc ρ1 = some (.ok (p d) ρ2) ∧ (p d = true → ∃ ρ3, fe ρ2 = some (.ok (v d) ρ3) ∧ wipeR ρ3 own = σ) ∧ (p d = false → wipeR ρ2 own = σ)) →
    cLoop own g fc fe ds σ = some ((ds.filter p).map v, σ)
  | [], _ => rfl
  | d :: ds, h => by
    obtain ⟨ρ1, ρ2, e1, e2, h1, h2⟩ := h d (by simp)
    have ih := cLoop_map (own := own) (g := g) (fc := fc) (fe := fe) (p := p) (v := v) (σ := σ) (ds := ds) fun d' hd => h d' (by simp [hd])
    cases q : p d with
    | true =>
      obtain ⟨ρ3, e3, e4⟩ := h1 q
      rw [q] at e2
      simp only [cLoop, e1, e2, e3, e4, ih, List.filter_cons, q, if_true, List.map_cons]
    | false =>
      have e4 := h2 q
      rw [q] at e2
      simp only [cLoop, e1, e2, e4, ih, List.filter_cons, q, Bool.false_eq_true, if_false]
/-- a block that changes what stands: what is kept is part of what was walked -/
theorem cLoop_sub {own : List Nat} {g : D → Rho → Option Rho} {fc : Rho → Option (Rs Bool)} {fe : Rho → Option (Rs T)} {v : D → T} (I : Rho → Prop) : ∀ {ds : List D} {ρ : Rho}, I ρ →
    (∀ d ∈ ds, ∀ ρ, I ρ → ∃ b ρ2, (g d ρ).bind fc = some (.ok b ρ2) ∧ (b = true → ∃ ρ3, fe ρ2 = some (.ok (v d) ρ3) ∧ I (wipeR ρ3 own)) ∧ (b = false → I (wipeR ρ2 own))) →
    ∃ (es : List D) (ρ' : Rho), es.Sublist ds ∧ cLoop own g fc fe ds ρ = some (es.map v, ρ') ∧ I ρ'
  | [], ρ, h, _ => ⟨[], ρ, .slnil, rfl, h⟩
  | d :: ds, ρ, h, st => by
    obtain ⟨b, ρ2, e, h1, h2⟩ := st d (by simp) ρ h
    obtain ⟨ρ1, q1, q2⟩ := Option.bind_eq_some_iff.mp e
    cases b with
    | true =>
      obtain ⟨ρ3, e3, i3⟩ := h1 rfl
      obtain ⟨es, ρ', s, e4, i4⟩ := cLoop_sub (ds := ds) I i3 fun d' hd => st d' (by simp [hd])
      exact ⟨d :: es, ρ', s.cons₂ d, by simp only [cLoop, q1, q2, e3, e4, List.map_cons], i4⟩
    | false =>
      obtain ⟨es, ρ', s, e4, i4⟩ := cLoop_sub (ds := ds) I (h2 rfl) fun d' hd => st d' (by simp [hd])
      exact ⟨es, ρ', s.cons d, by simp only [cLoop, q1, q2, e4], i4⟩
/-- the same for each that is walked -/
theorem cLoop_map1 {own : List Nat} {g : D → Rho → Option Rho} {fc : Rho → Option (Rs Bool)} {fe : Rho → Option (Rs T)} {p : D → Bool} {v : D → T} {σ : Rho} {ds : List D}
    (h : ∀ d ∈ ds, ∃ ρ2, (g d σ).bind fc = some (.ok (p d) ρ2) ∧ (p d = true → ∃ ρ3, fe ρ2 = some (.ok (v d) ρ3) ∧ wipeR ρ3 own = σ) ∧ (p d = false → wipeR ρ2 own = σ)) : cLoop own g fc fe ds σ = some ((ds.filter p).map v, σ) :=
  cLoop_map fun d hd => by
    obtain ⟨ρ2, e, h1, h2⟩ := h d hd
    obtain ⟨ρ1, q1, q2⟩ := Option.bind_eq_some_iff.mp e
    exact ⟨ρ1, ρ2, q1, q2, h1, h2⟩
/-! data that can be compared -/
def okN (n : Nat) (d : D) : Prop := d.plain = true ∧ d.depth ≤ n
theorem okN_le {n m : Nat} {d : D} (h : okN n d) (l : n ≤ m) : okN m d := ⟨h.1, Nat.le_trans h.2 l⟩
theorem okN_okD {n : Nat} {d : D} (h : okN n d) (l : n ≤ 60) : okD d = true := by
  unfold okD; rw [h.1, decide_eq_true (Nat.le_trans h.2 l)]; rfl
theorem okN_int {a : Int} : okN 1 (.int a) := ⟨rfl, by simp [PyData.depth]⟩
theorem okN_str {a : Str} : okN 1 (.str a) := ⟨rfl, by simp [PyData.depth]⟩
theorem okN_bool {a : Bool} : okN 1 (.bool a) := ⟨rfl, by simp [PyData.depth]⟩
theorem okN_none : okN 1 .none := ⟨rfl, by simp [PyData.depth]⟩
theorem okN_all {n : Nat} : ∀ {ds : List D}, (∀ d ∈ ds, okN n d) → PyData.plainAll ds = true ∧ PyData.depthAll ds ≤ n
  | [], _ => ⟨rfl, by simp [PyData.depthAll]⟩
  | d :: ds, h => by
    obtain ⟨h1, h2⟩ := h d (by simp)
    obtain ⟨h3, h4⟩ := okN_all (ds := ds) fun d' hd => h d' (by simp [hd])
    exact ⟨by simp [PyData.plainAll, h1, h3], by simp [PyData.depthAll]; omega⟩
theorem okN_list {n : Nat} {ds : List D} (h : ∀ d ∈ ds, okN n d) : okN (n + 1) (.list ds) := by
  obtain ⟨h1, h2⟩ := okN_all h
  exact ⟨by simpa [PyData.plain] using h1, by simp [PyData.depth]; omega⟩
theorem okN_tuple {n : Nat} {ds : List D} (h : ∀ d ∈ ds, okN n d) : okN (n + 1) (.tuple ds) := by
  obtain ⟨h1, h2⟩ := okN_all h
  exact ⟨by simpa [PyData.plain] using h1, by simp [PyData.depth]; omega⟩
theorem okD_ints {ks : List Int} : okD (.list (ks.map .int)) = true := okN_okD (n := 2) (okN_list fun d hd => by obtain ⟨k, _, rfl⟩ := List.mem_map.mp hd; exact okN_int) (by omega)
theorem any_ints {a : Int} : ∀ {ks : List Int}, ((ks.map PyData.int).any fun z => PyData.eqv z (.int a)) = decide (a ∈ ks)
  | [] => rfl
  | k :: ks => by
    rw [List.map_cons, List.any_cons, any_ints, eqv_int]
    by_cases h : k = a <;> by_cases h2 : a ∈ ks <;> simp [h, h2, eq_comm]
    exact fun e => h e.symm
theorem opIn_ints {n : Bool} {a : Int} {ks : List Int} : opInS n (.fr (.int a)) (.fr (.list (ks.map .int))) = some (.fr (.bool (decide (a ∈ ks) ^^ n))) := by
  show (if okD (.int a) = true ∧ okD (.list (ks.map .int)) = true then (some (((ks.map PyData.int).any fun z => PyData.eqv z (.int a)) ^^ n)).map fun k => T.fr (.bool k) else none) = _
  rw [if_pos ⟨rfl, okD_ints⟩, any_ints]; rfl
theorem opEq_fr {x y : D} (h1 : okD x = true) (h2 : okD y = true) : opEq (.fr x) (.fr y) = some (.fr (.bool (PyData.eqv x y))) := by
  show (if okD x = true ∧ okD y = true then (some (PyData.eqv x y)).map fun k => T.fr (.bool k) else none) = _
  rw [if_pos ⟨h1, h2⟩]; rfl
theorem opEq_emp : opEq (.lst []) (.lst []) = some (.fr (.bool true)) := rfl
theorem opEq_fe : opEq (.fr (.list [])) (.lst []) = some (.fr (.bool true)) := rfl
theorem opEq_fn {d : D} {ds : List D} (h : okD (.list (d :: ds)) = true) : opEq (.fr (.list (d :: ds))) (.lst []) = some (.fr (.bool false)) := by
  show (if okD (.list (d :: ds)) = true ∧ okD (.list []) = true then (some (PyData.eqv (.list (d :: ds)) (.list []))).map fun k => T.fr (.bool k) else none) = _
  rw [if_pos ⟨h, rfl⟩]; rfl
theorem fr_ints (ks : List Int) : (ks.map fun k => T.fr (.int k)) = (ks.map PyData.int).map T.fr := by simp
theorem datL_fr_map {α : Type} (f : α → D) (xs : List α) : T.datL (xs.map fun x => T.fr (f x)) = some (xs.map f) := by
  have : (xs.map fun x => T.fr (f x)) = (xs.map f).map T.fr := by simp
  rw [this, datL_map]
end
end Lv

set_option maxHeartbeats 2000000
namespace Lv
open PySem PySem.Spec PyProof.Rows L2
section
variable {ρ : Rho} {s : Rho → Option Out} {c : Str} {m : ExT}
/-! try -/
def tryR (m : ExT) (hs : List (Str × (Rho → Option Out))) : Option Out → Option Out
  | some (.ex c ρ1) => handle m hs c ρ1
  | o => o
theorem sTry_ap {hs : List (Str × (Rho → Option Out))} : sTry m s hs ρ = tryR m hs (s ρ) := rfl
theorem tryR_nx {hs : List (Str × (Rho → Option Out))} : tryR m hs (some (.nx ρ)) = some (.nx ρ) := rfl
theorem tryR_rt {hs : List (Str × (Rho → Option Out))} {t : T} : tryR m hs (some (.rt t ρ)) = some (.rt t ρ) := rfl
theorem tryR_ex {hs : List (Str × (Rho → Option Out))} : tryR m hs (some (.ex c ρ)) = handle m hs c ρ := rfl
def hdl (b : Option Bool) (f : Rho → Option Out) (k : Option Out) (ρ : Rho) : Option Out := match b with
  | some true => f ρ
  | some false => k
  | none => none
theorem hdl_t {f : Rho → Option Out} {k : Option Out} : hdl (some true) f k ρ = f ρ := rfl
theorem hdl_f {f : Rho → Option Out} {k : Option Out} : hdl (some false) f k ρ = k := rfl
theorem handle_nil : handle m [] c ρ = some (.ex c ρ) := rfl
theorem handle_ap {x : Str} {f : Rho → Option Out} {r : List (Str × (Rho → Option Out))} : handle m ((x, f) :: r) c ρ = hdl (exLook m c x) f (handle m r c ρ) ρ := by
  simp only [handle]; unfold hdl; rfl
/-! lists of ints -/
theorem asL_list {ds : List D} : T.asL (.fr (.list ds)) = some ds := rfl
theorem asL_map {ds : List D} : T.asL (.lst (ds.map .fr)) = some ds := allFr_map ds
theorem opSum_fr {ks : List Int} : opSum [.fr (.list (ks.map .int))] = some (.fr (.int ks.sum)) := by
  show ((T.asL (.fr (.list (ks.map .int)))).bind fun ds => (intsD ds).map fun ns => T.fr (.int ns.sum)) = _
  rw [asL_list, Option.bind_some, intsD_map]; rfl
theorem opSum_lst {ks : List Int} : opSum [.lst ((ks.map .int).map .fr)] = some (.fr (.int ks.sum)) := by
  show ((T.asL (.lst ((ks.map .int).map .fr))).bind fun ds => (intsD ds).map fun ns => T.fr (.int ns.sum)) = _
  rw [asL_map, Option.bind_some, intsD_map]; rfl
theorem canLt_ints {ks : List Int} : (((ks.map PyData.int).all fun a => (ks.map PyData.int).all fun b => canLt a b) && (ks.map PyData.int).all okD) = true := by
  simp only [Bool.and_eq_true, List.all_eq_true]
  refine ⟨fun a ha b hb => ?_, fun a ha => ?_⟩
  · obtain ⟨x, _, rfl⟩ := List.mem_map.mp ha
    obtain ⟨y, _, rfl⟩ := List.mem_map.mp hb
    rfl
  · obtain ⟨x, _, rfl⟩ := List.mem_map.mp ha
    rfl
theorem fold_min {k : Int} : ∀ {ks : List Int}, (ks.map PyData.int).foldl (fun a y => if ltD y a then y else a) (.int k) = .int (ks.foldl (fun a y => if y < a then y else a) k)
  | [] => rfl
  | x :: ks => by
    simp only [List.map_cons, List.foldl_cons]
    rw [show ltD (.int x) (.int k) = decide (x < k) from rfl]
    by_cases h : x < k
    · simp only [h, decide_true, if_true]; exact fold_min
    · simp only [h, decide_false, if_false, Bool.false_eq_true]; exact fold_min
theorem fold_max {k : Int} : ∀ {ks : List Int}, (ks.map PyData.int).foldl (fun a y => if ltD a y then y else a) (.int k) = .int (ks.foldl (fun a y => if a < y then y else a) k)
  | [] => rfl
  | x :: ks => by
    simp only [List.map_cons, List.foldl_cons]
    rw [show ltD (.int k) (.int x) = decide (k < x) from rfl]
    by_cases h : k < x
    · simp only [h, decide_true, if_true]; exact fold_max
    · simp only [h, decide_false, if_false, Bool.false_eq_true]; exact fold_max
def minI (k : Int) (ks : List Int) : Int := ks.foldl (fun a y => if y < a then y else a) k
def maxI (k : Int) (ks : List Int) : Int := ks.foldl (fun a y => if a < y then y else a) k
theorem opMin_as {t : T} {k : Int} {ks : List Int} (h : T.asL t = some ((k :: ks).map .int)) : opMin [t] = some (.fr (.int (minI k ks))) := by
  show opMin1 t = _
  unfold opMin1
  rw [h, Option.bind_some, if_pos canLt_ints]
  show some (T.fr ((ks.map PyData.int).foldl (fun a y => if ltD y a then y else a) (.int k))) = _
  rw [fold_min]; rfl
theorem opMax_as {t : T} {k : Int} {ks : List Int} (h : T.asL t = some ((k :: ks).map .int)) : opMax [t] = some (.fr (.int (maxI k ks))) := by
  show opMax1 t = _
  unfold opMax1
  rw [h, Option.bind_some, if_pos canLt_ints]
  show some (T.fr ((ks.map PyData.int).foldl (fun a y => if ltD a y then y else a) (.int k))) = _
  rw [fold_max]; rfl
theorem opMin_2 {a b : Int} : opMin [.fr (.int a), .fr (.int b)] = some (.fr (.int (if b < a then b else a))) := rfl
theorem opMax_2 {a b : Int} : opMax [.fr (.int a), .fr (.int b)] = some (.fr (.int (if b > a then b else a))) := rfl
theorem minI_le : ∀ {ks : List Int} {k : Int}, minI k ks ≤ k ∧ ∀ x ∈ ks, minI k ks ≤ x
  | [], k => ⟨Int.le_refl _, fun x h => by simp at h⟩
  | y :: ks, k => by
    have e : minI k (y :: ks) = minI (if y < k then y else k) ks := rfl
    obtain ⟨h1, h2⟩ := minI_le (ks := ks) (k := if y < k then y else k)
    rw [e]
    have hm : (if y < k then y else k) ≤ y ∧ (if y < k then y else k) ≤ k := by split <;> omega
    refine ⟨by omega, fun x hx => ?_⟩
    rcases List.mem_cons.mp hx with z | z
    · subst z; omega
    · exact h2 x z
theorem minI_mem : ∀ {ks : List Int} {k : Int}, minI k ks = k ∨ minI k ks ∈ ks
  | [], k => .inl rfl
  | y :: ks, k => by
    have e : minI k (y :: ks) = minI (if y < k then y else k) ks := rfl
    rw [e]
    rcases minI_mem (ks := ks) (k := if y < k then y else k) with h | h
    · rw [h]; split
      · right; simp
      · left; rfl
    · right; simp [h]
theorem maxI_ge : ∀ {ks : List Int} {k : Int}, k ≤ maxI k ks ∧ ∀ x ∈ ks, x ≤ maxI k ks
  | [], k => ⟨Int.le_refl _, fun x h => by simp at h⟩
  | y :: ks, k => by
    have e : maxI k (y :: ks) = maxI (if k < y then y else k) ks := rfl
    obtain ⟨h1, h2⟩ := maxI_ge (ks := ks) (k := if k < y then y else k)
    rw [e]
    have hm : y ≤ (if k < y then y else k) ∧ k ≤ (if k < y then y else k) := by split <;> omega
    refine ⟨by omega, fun x hx => ?_⟩
    rcases List.mem_cons.mp hx with z | z
    · subst z; omega
    · exact h2 x z
theorem maxI_mem : ∀ {ks : List Int} {k : Int}, maxI k ks = k ∨ maxI k ks ∈ ks
  | [], k => .inl rfl
  | y :: ks, k => by
    have e : maxI k (y :: ks) = maxI (if k < y then y else k) ks := rfl
    rw [e]
    rcases maxI_mem (ks := ks) (k := if k < y then y else k) with h | h
    · rw [h]; split
      · right; simp
      · left; rfl
    · right; simp [h]
/-! slices -/
theorem opSl_list {lo hi : Option Int} {ds : List D} : opSl lo hi (.fr (.list ds)) = some (.lst ((cutL ds lo hi).map .fr)) := rfl
theorem opSl_map {lo hi : Option Int} {ds : List D} : opSl lo hi (.lst (ds.map .fr)) = some (.lst ((cutL ds lo hi).map .fr)) := by
  unfold opSl; simp only [asL_map, Option.map_some]
theorem opSl_tup {lo hi : Option Int} {ds : List D} : opSl lo hi (.fr (.tuple ds)) = some (.fr (.tuple (cutL ds lo hi))) := rfl
theorem cutL_take {α : Type} {xs : List α} {k : Int} (h : 0 ≤ k) : cutL xs none (some k) = xs.take k.toNat := by
  unfold cutL HT.sIx
  simp only [List.drop_zero, Nat.sub_zero]
  rw [if_neg (by omega)]
  by_cases q : k.toNat ≤ xs.length
  · rw [Nat.min_eq_left q]
  · rw [Nat.min_eq_right (by omega), List.take_of_length_le (Nat.le_refl _), List.take_of_length_le (by omega)]
theorem cutL_drop {α : Type} {xs : List α} {k : Int} (h : 0 ≤ k) : cutL xs (some k) none = xs.drop k.toNat := by
  unfold cutL HT.sIx
  simp only
  rw [if_neg (by omega)]
  by_cases q : k.toNat ≤ xs.length
  · rw [Nat.min_eq_left q, List.take_of_length_le (by simp)]
  · rw [Nat.min_eq_right (by omega), List.drop_of_length_le (Nat.le_refl _), List.drop_of_length_le (show xs.length ≤ k.toNat by omega)]; simp
theorem cutL_last {α : Type} {xs : List α} : cutL xs none (some (-1)) = xs.dropLast := by
  unfold cutL HT.sIx
  simp only [List.drop_zero, Nat.sub_zero]
  rw [if_pos (by omega), List.dropLast_eq_take]
  congr 1
  omega
theorem cutL_map {α β : Type} {f : α → β} {xs : List α} {lo hi : Option Int} : cutL (xs.map f) lo hi = (cutL xs lo hi).map f := by
  unfold cutL; simp
theorem atI_m1 {α : Type} {xs : List α} (h : xs ≠ []) : atI xs (-1) = xs.getLast? := by
  unfold atI ixN
  have : 0 < xs.length := List.length_pos_iff.mpr h
  rw [if_neg (by omega), if_pos (by omega), List.getLast?_eq_getElem?]
  simp only [Option.bind_some]
  congr 1
  omega
theorem atI_neg {α : Type} {xs : List α} {k : Int} (h : k < 0) (h2 : -(xs.length : Int) ≤ k) : atI xs k = xs[(k + xs.length).toNat]? := by
  unfold atI ixN
  rw [if_neg (by omega), if_pos (by omega)]; rfl
end
/-! loops that may return -/
section
variable {g : D → Rho → Option Rho} {fb : Rho → Option Out}
theorem loop_rngR (I : Nat → Rho → Prop) (R : Nat → T → Rho → Prop) : ∀ {m n : Nat} {ρ : Rho}, I m ρ →
    (∀ k ρ, m ≤ k → k < m + n → I k ρ → (∃ ρ2, (g (.int k) ρ).bind fb = some (.nx ρ2) ∧ I (k + 1) ρ2) ∨ ∃ t ρ2, (g (.int k) ρ).bind fb = some (.rt t ρ2) ∧ R k t ρ2) →
    (∃ ρ', loopF g fb sNil (rngD m n) ρ = some (.nx ρ') ∧ I (m + n) ρ') ∨ ∃ k t ρ', k < m + n ∧ loopF g fb sNil (rngD m n) ρ = some (.rt t ρ') ∧ R k t ρ'
  | m, 0, ρ, h, _ => .inl ⟨ρ, by rw [rngD_zero]; rfl, h⟩
  | m, n + 1, ρ, h, st => by
    rw [rngD_cons]
    rcases st m ρ (Nat.le_refl m) (by omega) h with ⟨ρ2, e2, h2⟩ | ⟨t, ρ2, e2, h2⟩
    · obtain ⟨ρ1, q1, q2⟩ := Option.bind_eq_some_iff.mp e2
      have ih := loop_rngR (m := m + 1) (n := n) I R h2 fun k ρ h1 h2 => st k ρ (by omega) (by omega)
      have ea : m + 1 + n = m + (n + 1) := by omega
      rw [ea] at ih
      rcases ih with ⟨ρ', e3, h3⟩ | ⟨k, t, ρ', hk, e3, h3⟩
      · exact .inl ⟨ρ', by simp only [loopF, q1, q2]; exact e3, h3⟩
      · exact .inr ⟨k, t, ρ', hk, by simp only [loopF, q1, q2]; exact e3, h3⟩
    · obtain ⟨ρ1, q1, q2⟩ := Option.bind_eq_some_iff.mp e2
      exact .inr ⟨m, t, ρ2, by omega, by simp only [loopF, q1, q2], h2⟩
theorem for_rngR {fi : Rho → Option (Rs (List D))} {ρ ρ1 : Rho} {n : Nat} (e : fi ρ = some (.ok (rngD 0 n) ρ1)) (I : Nat → Rho → Prop) (R : Nat → T → Rho → Prop) (h : I 0 ρ1)
    (st : ∀ k ρ, k < n → I k ρ → (∃ ρ2, (g (.int k) ρ).bind fb = some (.nx ρ2) ∧ I (k + 1) ρ2) ∨ ∃ t ρ2, (g (.int k) ρ).bind fb = some (.rt t ρ2) ∧ R k t ρ2) :
    (∃ ρ', sFor fi g fb ρ = some (.nx ρ') ∧ I n ρ') ∨ ∃ k t ρ', k < n ∧ sFor fi g fb ρ = some (.rt t ρ') ∧ R k t ρ' := by
  rw [sFor_ap, e, ofR_ok]
  have := loop_rngR (g := g) (fb := fb) (m := 0) (n := n) I R h fun k ρ _ h2 => st k ρ (by omega)
  simpa using this
end
/-- a block over range(lo, lo + n) -/
theorem cLoop_rng {own : List Nat} {g : D → Rho → Option Rho} {fc : Rho → Option (Rs Bool)} {fe : Rho → Option (Rs T)} {p : Int → Bool} {v : Int → D} {σ : Rho} {lo : Int} {n : Nat}
    (h : ∀ k : Int, lo ≤ k → k < lo + n → ∃ ρ2, (g (.int k) σ).bind fc = some (.ok (p k) ρ2) ∧ (p k = true → ∃ ρ3, fe ρ2 = some (.ok (.fr (v k)) ρ3) ∧ wipeR ρ3 own = σ) ∧ (p k = false → wipeR ρ2 own = σ)) :
    cLoop own g fc fe (rngD lo n) σ = some (((((List.range n).map fun i : Nat => lo + i).filter p).map v).map .fr, σ) := by
  have e : rngD lo n = ((List.range n).map fun i : Nat => lo + i).map PyData.int := by simp [rngD]
  rw [cLoop_map1 (p := fun d => match d with | .int k => p k | _ => false) (v := fun d => match d with | .int k => .fr (v k) | _ => .fr .none) (fun d hd => by
    obtain ⟨k, hk, rfl⟩ := rngD_mem hd
    exact h (lo + k) (by omega) (by omega)), e, List.filter_map, List.map_map, List.map_map]
  rfl
/-- a block over a list of ints -/
theorem cLoop_ints {own : List Nat} {g : D → Rho → Option Rho} {fc : Rho → Option (Rs Bool)} {fe : Rho → Option (Rs T)} {p : Int → Bool} {v : Int → D} {σ : Rho} {ks : List Int}
    (h : ∀ k ∈ ks, ∃ ρ2, (g (.int k) σ).bind fc = some (.ok (p k) ρ2) ∧ (p k = true → ∃ ρ3, fe ρ2 = some (.ok (.fr (v k)) ρ3) ∧ wipeR ρ3 own = σ) ∧ (p k = false → wipeR ρ2 own = σ)) :
    cLoop own g fc fe (ks.map .int) σ = some (((ks.filter p).map v).map .fr, σ) := by
  rw [cLoop_map1 (p := fun d => match d with | .int k => p k | _ => false) (v := fun d => match d with | .int k => .fr (v k) | _ => .fr .none) (fun d hd => by
    obtain ⟨k, hk, rfl⟩ := List.mem_map.mp hd
    exact h k hk), List.filter_map, List.map_map, List.map_map]
  rfl
/-- a block without a condition whose elements change what stands -/
theorem cLoop_eff {α : Type} {own : List Nat} {g : D → Rho → Option Rho} {fe : Rho → Option (Rs T)} {v : α → T} {P : α → Prop} (I : Rho → Prop) : ∀ {ds : List D} {ρ : Rho}, I ρ →
    (∀ d ∈ ds, ∀ ρ, I ρ → ∃ a ρ3, (g d ρ).bind fe = some (.ok (v a) ρ3) ∧ P a ∧ I (wipeR ρ3 own)) →
    ∃ (as : List α) (ρ' : Rho), as.length = ds.length ∧ (∀ a ∈ as, P a) ∧ cLoop own g tYesF fe ds ρ = some (as.map v, ρ') ∧ I ρ'
  | [], ρ, h, _ => ⟨[], ρ, rfl, by simp, rfl, h⟩
  | d :: ds, ρ, h, st => by
    obtain ⟨a, ρ3, e, hp, h3⟩ := st d (by simp) ρ h
    obtain ⟨ρ1, q1, q2⟩ := Option.bind_eq_some_iff.mp e
    obtain ⟨as, ρ', hl, ha, e4, i4⟩ := cLoop_eff (ds := ds) I h3 fun d' hd => st d' (by simp [hd])
    exact ⟨a :: as, ρ', by simp [hl], fun x hx => by
      rcases List.mem_cons.mp hx with z | z
      · subst z; exact hp
      · exact ha x z, by simp only [cLoop, q1, tYesF, q2, e4, List.map_cons], i4⟩
theorem atI_range {α : Type} {f : Nat → α} {n : Nat} {k : Int} (h : 0 ≤ k) (h2 : k < n) : atI ((List.range n).map f) k = some (f k.toNat) := by
  unfold atI; rw [ixN_nat h (by simpa using h2)]
  simp only [Option.bind_some]
  have : k.toNat < n := by omega
  simp [this]
theorem filter_le {n e : Nat} (h : e < n) : (List.range n).filter (fun k => decide (k ≤ e)) = List.range (e + 1) := by
  induction n with
  | zero => omega
  | succ n ih =>
    rw [List.range_succ, List.filter_append]
    by_cases q : e < n
    · rw [ih q]
      simp; omega
    · have : e = n := by omega
      subst this
      have e1 : (List.range e).filter (fun k => decide (k ≤ e)) = List.range e := List.filter_eq_self.mpr fun k hk => by have := List.mem_range.mp hk; simp; omega
      rw [e1, List.range_succ]; simp
theorem rng_map {n : Nat} {p : Int → Bool} {α : Type} {v : Int → α} : ((((List.range n).map fun i : Nat => (0 : Int) + i).filter p).map v) = ((List.range n).filter fun i : Nat => p i).map fun i : Nat => v i := by
  rw [List.filter_map, List.map_map]
  simp only [Function.comp_def, Int.zero_add]
/-! more statements and methods -/
section
variable {ρ : Rho} {f : Rho → Option T} {F G : Rho → Option (Rs T)} {i j l : Nat} {d : D}
def gsx (d : D) (ρ : Rho) (q : Nat × List Sg) : Option T → Option T → Option Rho
  | some (.lst ts), some (.fr (.int k)) => (ixN ts.length k).bind fun j => setAt ρ q.1 q.2 (.lst (ts.set j (.fr d)))
  | _, _ => none
theorem gsx_ok {q : Nat × List Sg} {ts : List T} {k : Int} : gsx d ρ q (some (.lst ts)) (some (.fr (.int k))) = (ixN ts.length k).bind fun j => setAt ρ q.1 q.2 (.lst (ts.set j (.fr d))) := rfl
theorem gSi_ap {lp : Rho → Option (Nat × List Sg)} : gSi lp f d ρ = (lp ρ).bind fun q => gsx d ρ q (getAt ρ q.1 q.2) (f ρ) := rfl
def sxf (i : Nat) (ρ2 : Rho) (d : D) : Option T → T → Option Out
  | some (.lst ts), .fr (.int k) => (ixN ts.length k).map fun j => .nx (ρ2.set i (some (.lst (ts.set j (.fr d)))))
  | _, _ => none
theorem sxf_ok {ts : List T} {k : Int} : sxf i ρ d (some (.lst ts)) (.fr (.int k)) = (ixN ts.length k).map fun j => .nx (ρ.set i (some (.lst (ts.set j (.fr d))))) := rfl
def sxe (i : Nat) (fi : Rho → Option (Rs T)) (ρ1 : Rho) : T → Option T → Option Out
  | .fr d, some _ => ofR (fi ρ1) fun kt ρ2 => sxf i ρ2 d (slot ρ2 i) kt
  | _, _ => none
theorem sxe_ok {t : T} : sxe i F ρ (.fr d) (some t) = ofR (F ρ) fun kt ρ2 => sxf i ρ2 d (slot ρ2 i) kt := rfl
theorem sSetIxE_ap : sSetIxE i F G ρ = ofR (G ρ) fun t ρ1 => sxe i F ρ1 t (slot ρ1 i) := rfl
def sx0 (i : Nat) (ρ1 : Rho) : Option T → T → Option Out
  | some (.lst ts), .lst us => if ts.length + us.length ≤ SZ then some (.nx (ρ1.set i (some (.lst (ts ++ us))))) else none
  | _, _ => none
theorem sx0_ok {ts us : List T} : sx0 i ρ (some (.lst ts)) (.lst us) = if ts.length + us.length ≤ SZ then some (.nx (ρ.set i (some (.lst (ts ++ us))))) else none := rfl
theorem sExt0_ap : sExt0 i F ρ = if isLst (slot ρ i) = true then ofR (F ρ) (fun t ρ1 => sx0 i ρ1 (slot ρ1 i) t) else none := by
  unfold sExt0
  cases slot ρ i with
  | none => rfl
  | some t => cases t <;> first | rfl | (simp only [isLst]; rfl)
def par3 (i j l : Nat) (ρ1 : Rho) : List Ar → Option Out
  | [.own (.fr d1), .own (.fr d2), .own (.fr d3)] => if i < ρ1.length ∧ j < ρ1.length ∧ l < ρ1.length then some (.nx (((ρ1.set i (some (.fr d1))).set j (some (.fr d2))).set l (some (.fr d3)))) else none
  | _ => none
theorem par3_ok {d1 d2 d3 : D} : par3 i j l ρ [.own (.fr d1), .own (.fr d2), .own (.fr d3)] = if i < ρ.length ∧ j < ρ.length ∧ l < ρ.length then some (.nx (((ρ.set i (some (.fr d1))).set j (some (.fr d2))).set l (some (.fr d3)))) else none := rfl
theorem sPar3_ap {L : Rho → Option (Rs (List Ar))} : sPar3 i j l L ρ = ofR (L ρ) fun as ρ1 => par3 i j l ρ1 as := rfl
theorem kMt_ap {op : T → List T → Option T} {L : Rho → Option (List T)} : kMt op f L ρ = (f ρ).bind fun t => (L ρ).bind fun ts => op t ts := rfl
theorem kLenSet_ap : kLenSet f ρ = (f ρ).bind opLenSet := rfl
def rg3 (ρ1 : Rho) : List Ar → Option (Rs (List D))
  | [.own (.fr (.int i)), .own (.fr (.int j)), .own (.fr (.int c))] => if c ≠ 0 ∧ c.natAbs < 1073741824 ∧ Builtin.Range.small i j c = true ∧ 0 ≤ Builtin.Range.rangeSize i j c ∧ Builtin.Range.rangeSize i j c ≤ 16777216 then some (.ok (rngC i c (Builtin.Range.rangeSize i j c).toNat) ρ1) else none
  | _ => none
theorem iRange3_ap {L : Rho → Option (Rs (List Ar))} : iRange3 L ρ = bnd (L ρ) fun as ρ1 => rg3 ρ1 as := rfl
theorem plain_ints : ∀ {ks : List Int}, PyData.plainAll (ks.map .int) = true
  | [] => rfl
  | k :: ks => by simp [PyData.plainAll, PyData.plain, plain_ints (ks := ks)]
theorem countP_ints (x : Int) : ∀ t : List Int, ((t.map PyData.int).countP fun z => PyData.eqv z (.int x)) = t.count x
  | [] => rfl
  | y :: t => by
    rw [List.map_cons, List.countP_cons, countP_ints x t, eqv_int, List.count_cons]
    simp
theorem opCount_as {t : T} {ks : List Int} {x : Int} (h : T.asL t = some (ks.map .int)) : opCount t [.fr (.int x)] = some (.fr (.int (ks.count x : Nat))) := by
  show ((T.asL t).bind fun ds => (T.dat (.fr (.int x))).bind fun d => if PyData.plainAll ds = true ∧ okD d = true then some (T.fr (.int (ds.countP fun z => PyData.eqv z d : Nat))) else none) = _
  rw [h, Option.bind_some, dat_fr, Option.bind_some, if_pos ⟨plain_ints, rfl⟩, countP_ints]
theorem opCount_fr {ks : List Int} {x : Int} : opCount (.fr (.list (ks.map .int))) [.fr (.int x)] = some (.fr (.int (ks.count x : Nat))) := opCount_as rfl
theorem opIndex_as {t : T} {ks : List Int} {x : Int} {j : Nat} (h : T.asL t = some (ks.map .int)) (hl : ks.length ≤ 16777216) (hf : ((ks.map PyData.int).findIdx? fun z => PyData.eqv z (.int x)) = some j) : opIndex t [.fr (.int x)] = some (.fr (.int (j : Nat))) := by
  show ((T.asL t).bind fun ds => (T.dat (.fr (.int x))).bind fun d => if PyData.plainAll ds = true ∧ okD d = true ∧ ds.length ≤ SZ then (ds.findIdx? fun z => PyData.eqv z d).map fun j : Nat => T.fr (.int (j : Int)) else none) = _
  rw [h, Option.bind_some, dat_fr, Option.bind_some, if_pos ⟨plain_ints, rfl, by rw [List.length_map]; exact hl⟩, hf]; rfl
theorem opIn_dat {n : Bool} {a : Int} {t : T} {ks : List Int} (h : T.dat t = some (.list (ks.map .int))) : opInS n (.fr (.int a)) t = some (.fr (.bool (decide (a ∈ ks) ^^ n))) := by
  rw [← opIn_ints (n := n) (a := a) (ks := ks)]
  unfold opInS opData
  rw [h]; rfl
theorem dat_map {ds : List D} : T.dat (.lst (ds.map .fr)) = some (.list ds) := by rw [dat_lst, datL_map]; rfl
theorem opAdd_ll {xs ys : List D} (h : xs.length + ys.length ≤ 16777216) : opAdd (.lst (xs.map .fr)) (.lst (ys.map .fr)) = some (.lst ((xs ++ ys).map .fr)) := by
  unfold opAdd
  simp only [asL_map]
  rw [if_pos h]
theorem opAdd_fl {xs ys : List D} (h : xs.length + ys.length ≤ 16777216) : opAdd (.fr (.list xs)) (.lst (ys.map .fr)) = some (.lst ((xs ++ ys).map .fr)) := by
  unfold opAdd
  simp only [asL_map, asL_list]
  rw [if_pos h]
theorem opAdd_lf {xs ys : List D} (h : xs.length + ys.length ≤ 16777216) : opAdd (.lst (xs.map .fr)) (.fr (.list ys)) = some (.lst ((xs ++ ys).map .fr)) := by
  unfold opAdd
  simp only [asL_map, asL_list]
  rw [if_pos h]
theorem opAdd_ff {xs ys : List D} (h : xs.length + ys.length ≤ 16777216) : opAdd (.fr (.list xs)) (.fr (.list ys)) = some (.lst ((xs ++ ys).map .fr)) := by
  unfold opAdd
  simp only [asL_list]
  rw [if_pos h]
theorem eqvAll_ints : ∀ {a b : List Int}, PyData.eqvAll (a.map .int) (b.map .int) = decide (a = b)
  | [], [] => by simp [PyData.eqvAll]
  | [], y :: b => by simp [PyData.eqvAll]
  | x :: a, [] => by simp [PyData.eqvAll]
  | x :: a, y :: b => by
    rw [List.map_cons, List.map_cons, PyData.eqvAll, eqv_int, eqvAll_ints]
    by_cases h : x = y <;> by_cases h2 : a = b <;> simp [h, h2]
theorem opEq_lists {a b : List Int} : opEq (.fr (.list (a.map .int))) (.fr (.list (b.map .int))) = some (.fr (.bool (decide (a = b)))) := by
  rw [opEq_fr okD_ints okD_ints]
  show some (T.fr (.bool (PyData.eqvAll (a.map .int) (b.map .int)))) = _
  rw [eqvAll_ints]
theorem okD_tup_ints {ks : List Int} : okD (.tuple (ks.map .int)) = true := okN_okD (n := 2) (okN_tuple fun d hd => by obtain ⟨k, _, rfl⟩ := List.mem_map.mp hd; exact okN_int) (by omega)
theorem opEq_tups {a b : List Int} : opEq (.fr (.tuple (a.map .int))) (.fr (.tuple (b.map .int))) = some (.fr (.bool (decide (a = b)))) := by
  rw [opEq_fr okD_tup_ints okD_tup_ints]
  show some (T.fr (.bool (PyData.eqvAll (a.map .int) (b.map .int)))) = _
  rw [eqvAll_ints]
theorem opEq_2 {a b c d : Int} : opEq (.fr (.tuple [.int a, .int b])) (.fr (.tuple [.int c, .int d])) = some (.fr (.bool (decide (a = c) && decide (b = d)))) := by
  have := opEq_tups (a := [a, b]) (b := [c, d])
  simp only [List.map_cons, List.map_nil] at this
  rw [this]
  by_cases h : a = c <;> by_cases h2 : b = d <;> simp [h, h2]
theorem opNe_bl {a b : Bool} : opNe (.fr (.bool a)) (.fr (.bool b)) = some (.fr (.bool (a != b))) := by cases a <;> cases b <;> rfl
theorem opEq_bl {a b : Bool} : opEq (.fr (.bool a)) (.fr (.bool b)) = some (.fr (.bool (a == b))) := by cases a <;> cases b <;> rfl
end
/-- what is handed back of frozen arguments -/
theorem outs_frs {ρ : Rho} : ∀ (ds : List D) (n : Nat), outs [] ρ (ds.map .fr) n = ds.map fun d => some (.fr d)
  | [], _ => rfl
  | d :: ds, n => by
    rw [List.map_cons, outs_cons, outs_frs ds]
    simp only [List.not_mem_nil, if_false, frO_fr, List.map_cons]
theorem os_frs {n m : Nat} {f : Rho → Option Out} {ds : List D} {t : T} {os : List (Option T)} (h : semD n m [] f (ds.map .fr) = some (.ok t os)) : os = ds.map fun d => some (.fr d) := by
  unfold semD at h
  split at h
  · split at h
    · cases h; exact outs_frs ds 0
    · cases h; exact outs_frs ds 0
    · cases h
    · cases h
  · cases h
theorem os_1 {m : Nat} {f : Rho → Option Out} {a : D} {t : T} {os : List (Option T)} (h : semD 1 m [] f [.fr a] = some (.ok t os)) : os = [some (.fr a)] := os_frs (ds := [a]) h
theorem os_2 {m : Nat} {f : Rho → Option Out} {a b : D} {t : T} {os : List (Option T)} (h : semD 2 m [] f [.fr a, .fr b] = some (.ok t os)) : os = [some (.fr a), some (.fr b)] := os_frs (ds := [a, b]) h
theorem os_3 {m : Nat} {f : Rho → Option Out} {a b c : D} {t : T} {os : List (Option T)} (h : semD 3 m [] f [.fr a, .fr b, .fr c] = some (.ok t os)) : os = [some (.fr a), some (.fr b), some (.fr c)] := os_frs (ds := [a, b, c]) h
theorem os_4 {m : Nat} {f : Rho → Option Out} {a b c d : D} {t : T} {os : List (Option T)} (h : semD 4 m [] f [.fr a, .fr b, .fr c, .fr d] = some (.ok t os)) : os = [some (.fr a), some (.fr b), some (.fr c), some (.fr d)] := os_frs (ds := [a, b, c, d]) h
end Lv

set_option maxHeartbeats 0
namespace K31
open PySem PySem.Spec PyProof.Rows L2 Lv
def exTab : ExT := [("WayError", "BadCode", false), ("WayError", "TooLarge", false), ("BadCode", "BadCode", true), ("BadCode", "TooLarge", false), ("TooLarge", "BadCode", false), ("TooLarge", "TooLarge", true)]
def is_number_b : Rho → Option Out := (sRet (eFz (eAnd (kOk (kIsi "int" (kV 0))) (eAnd (eNot (kOk (kIsi "bool" (kV 0)))) (kOk (kCh opLe opLe (kV 1) (kV 0) (kV 2)))))))
def is_number_sem : List T → Option Ret := semD 3 0 [] is_number_b
def check_lock_b : Rho → Option Out := (sIf (tOr (tNot (tVK (kIsi "tuple" (kV 0)))) (tOr (tBK (k2 opNe (kN opLen (kCons (kV 0) kNil)) (kC (.int 2)))) (tOr (tNot (tVK (kCall is_number_sem (kCons (k2 opIx (kV 0) (kC (.int 0))) (kCons (kC (.int 1)) (kCons (kC (.int 5)) kNil)))))) (tNot (tVK (kCall is_number_sem (kCons (k2 opIx (kV 0) (kC (.int 1))) (kCons (kC (.int 2)) (kCons (kC (.int 10)) kNil))))))))) (sRaise "BadCode") sNil)
def check_lock_sem : List T → Option Ret := semD 1 0 [] check_lock_b
def is_code_c1  : Rho → Option (Rs T) := eLc [2] (iIt (kOk (kV 1))) (gN 2) (tNot (tVK (kCall is_number_sem (kCons (kV 2) (kCons (kC (.int 0)) (kCons (k2 opSub (k2 opIx (kV 0) (kC (.int 1))) (kC (.int 1))) kNil)))))) (kOk (kV 2))
def is_code_b : Rho → Option Out := (sSeq (sIf (tOr (tNot (tVK (kIsi "list" (kV 1)))) (tBK (k2 opNe (kN opLen (kCons (kV 1) kNil)) (k2 opIx (kV 0) (kC (.int 0)))))) (sRet (kOk (kC (.bool false)))) sNil)
  (sRet (eFz (eNot is_code_c1))))
def is_code_sem : List T → Option Ret := semD 2 1 [] is_code_b
def check_code_b : Rho → Option Out := (sIf (tNot (tVK (kCall is_code_sem (kCons (kV 0) (kCons (kV 1) kNil))))) (sRaise "BadCode") sNil)
def check_code_sem : List T → Option Ret := semD 2 0 [] check_code_b
def number_of_codes_b1  : Rho → Option Out := kill [2] (sSet 1 (eFz (e2 opMul (kOk (kV 1)) (kOk (k2 opIx (kV 0) (kC (.int 1)))))))
def number_of_codes_l2  : Rho → Option Out := sFor (iRange1 (eCons (kOk (k2 opIx (kV 0) (kC (.int 0)))) eNil)) (gN 2) number_of_codes_b1
def number_of_codes_b : Rho → Option Out := (sSeq (sSet 1 (kOk (kC (.int 1))))
  (sSeq number_of_codes_l2
  (sRet (kOk (kV 1)))))
def number_of_codes_sem : List T → Option Ret := semD 1 2 [] number_of_codes_b
def check_size_b : Rho → Option Out := (sIf (tBK (k2 opGt (kCall number_of_codes_sem (kCons (kV 0) kNil)) (kC (.int 10000)))) (sRaise "TooLarge") sNil)
def check_size_sem : List T → Option Ret := semD 1 0 [] check_size_b
def answer_of_c1  : Rho → Option (Rs T) := eLc [4] (iRange1 (eCons (kOk (kN opLen (kCons (kV 0) kNil))) eNil)) (gN 4) (tBK (k2 opEq (k2 opIx (kV 0) (kV 4)) (k2 opIx (kV 1) (kV 4)))) (kOk (kV 4))
def answer_of_c2  : Rho → Option (Rs T) := eLc [5] (iRange1 (eCons (kOk (kC (.int 10))) eNil)) (gN 5) tYesF (kOk (kN opMin (kCons (kMt opCount (kV 0) (kCons (kV 5) kNil)) (kCons (kMt opCount (kV 1) (kCons (kV 5) kNil)) kNil))))
def answer_of_b : Rho → Option Out := (sSeq (sSet 2 (eFz (eN opLen (eCons answer_of_c1 eNil))))
  (sSeq (sSet 3 (eFz (eN opSum (eCons answer_of_c2 eNil))))
  (sRet (kOk (kTup (kCons (kV 2) (kCons (k2 opSub (kV 3) (kV 2)) kNil)))))))
def answer_of_sem : List T → Option Ret := semD 2 4 [] answer_of_b
def answer_b : Rho → Option Out := (sSeq (sExpr (eCall check_lock_sem (eCons (kOk (kV 0)) eNil)))
  (sSeq (sExpr (eCall check_code_sem (eCons (kOk (kV 0)) (eCons (kOk (kV 1)) eNil))))
  (sSeq (sExpr (eCall check_code_sem (eCons (kOk (kV 0)) (eCons (kOk (kV 2)) eNil))))
  (sSeq (sExpr (eCall check_size_sem (eCons (kOk (kV 0)) eNil)))
  (sRet (kOk (kCall answer_of_sem (kCons (kV 1) (kCons (kV 2) kNil)))))))))
def answer_sem : List T → Option Ret := semD 3 0 [] answer_b
def law_mixed_b : Rho → Option Out := (sSeq (sSet 2 (kOk (k2 opMod (k2 opAdd (k2 opAdd (k2 opMul (kV 0) (kC (.int 48271))) (k2 opMul (kV 1) (kC (.int 69621)))) (kC (.int 12345))) (kC (.int 2147483647)))))
  (sRet (kOk (k2 opMod (k2 opAdd (k2 opMul (kV 2) (k2 opAdd (k2 opFdiv (kV 2) (kC (.int 65536))) (kC (.int 3)))) (kV 1)) (kC (.int 2147483647))))))
def law_mixed_sem : List T → Option Ret := semD 2 1 [] law_mixed_b
def law_numbers_b1  : Rho → Option Out := kill [4] (sIf (tBK (k2 opGt (kV 3) (kC (.int 0)))) (sSeq (sApp0 1 (kOk (k2 opMod (kV 3) (kC (.int 1000000)))))
  (sSet 3 (kOk (k2 opFdiv (kV 3) (kC (.int 1000000)))))) sNil)
def law_numbers_l2  : Rho → Option Out := sFor (iRange1 (eCons (kOk (kC (.int 60))) eNil)) (gN 4) law_numbers_b1
def law_numbers_b3  : Rho → Option Out := kill [4] (sApp0 1 (kOk (k2 opMod (kCall law_mixed_sem (kCons (kCall law_mixed_sem (kCons (k2 opMod (kV 2) (kC (.int 2147483647))) (kCons (kV 4) kNil))) (kCons (k2 opAdd (kV 4) (kC (.int 7))) kNil))) (kC (.int 1000000)))))
def law_numbers_l4  : Rho → Option Out := sFor (iRange1 (eCons (kOk (kC (.int 5))) eNil)) (gN 4) law_numbers_b3
def law_numbers_b5  : Rho → Option Out := kill [2, 3, 4] (sIf (tBK (k2 opGe (kV 2) (k2 opPow (kC (.int 10)) (kC (.int 18))))) (sSeq (sSet 3 (kOk (kV 2)))
  law_numbers_l2) (sSeq (sApp0 1 (kOk (k2 opMod (kV 2) (kC (.int 1000000)))))
  law_numbers_l4))
def law_numbers_l6  : Rho → Option Out := sFor (iIt (kOk (kV 0))) (gN 2) law_numbers_b5
def law_numbers_b : Rho → Option Out := (sSeq (sSet 1 (eLst eNil))
  (sSeq law_numbers_l6
  (sRet (eFz (eMv 1)))))
def law_numbers_sem : List T → Option Ret := semD 1 4 [] law_numbers_b
def law_draw_b : Rho → Option Out := (sSeq (sSet 1 (kOk (k2 opIx (kV 0) (kC (.int 1)))))
  (sSeq (sSetIx (pV 0) (kC (.int 1)) (eFz (e2 opAdd (kOk (kV 1)) (kOk (kC (.int 1))))))
  (sSeq (sIf (tBK (k2 opLt (kV 1) (kN opLen (kCons (k2 opIx (kV 0) (kC (.int 0))) kNil)))) (sRet (kOk (k2 opIx (k2 opIx (kV 0) (kC (.int 0))) (kV 1)))) sNil)
  (sSeq (sSet 2 (eFz (e2 opAdd (kOk (kC (.int 1))) (kOk (kV 1)))))
  (sSeq (sIf (tBK (k2 opGt (kN opLen (kCons (k2 opIx (kV 0) (kC (.int 0))) kNil)) (kC (.int 0)))) (sSet 2 (eFz (e2 opAdd (kOk (kV 2)) (e2 opMul (kOk (kC (.int 1009))) (kOk (k2 opIx (k2 opIx (kV 0) (kC (.int 0))) (kC (.int 0)))))))) sNil)
  (sRet (kOk (k2 opMod (kCall law_mixed_sem (kCons (kCall law_mixed_sem (kCons (kV 2) (kCons (kV 1) kNil))) (kCons (kC (.int 5)) kNil))) (kC (.int 1000000))))))))))
def law_draw_sem : List T → Option Ret := semD 1 2 [0] law_draw_b
def law_equal_b (r_law_equal : List T → Option Ret) (r_law_all_equal : List T → Option Ret) : Rho → Option Out := (sSeq (sIf (tVK (kIsi "list" (kV 1))) (sSeq (sIf (tOr (tNot (tVK (kIsi "list" (kV 0)))) (tBK (k2 opNe (kN opLen (kCons (kV 0) kNil)) (kN opLen (kCons (kV 1) kNil))))) (sRet (kOk (kC (.bool false)))) sNil)
  (sRet (kOk (kCall r_law_all_equal (kCons (kV 0) (kCons (kV 1) kNil)))))) sNil)
  (sSeq (sIf (tVK (kIsi "tuple" (kV 1))) (sSeq (sIf (tOr (tNot (tVK (kIsi "tuple" (kV 0)))) (tBK (k2 opNe (kN opLen (kCons (kV 0) kNil)) (kN opLen (kCons (kV 1) kNil))))) (sRet (kOk (kC (.bool false)))) sNil)
  (sRet (kOk (kCall r_law_all_equal (kCons (kV 0) (kCons (kV 1) kNil)))))) sNil)
  (sSeq (sIf (tVK (kIsi "bool" (kV 1))) (sRet (eFz (eAnd (kOk (kIsi "bool" (kV 0))) (kOk (k2 opEq (kV 0) (kV 1)))))) sNil)
  (sSeq (sIf (tVK (kIsi "int" (kV 1))) (sRet (eFz (eAnd (kOk (kIsi "int" (kV 0))) (eAnd (eNot (kOk (kIsi "bool" (kV 0)))) (kOk (k2 opEq (kV 0) (kV 1))))))) sNil)
  (sSeq (sIf (tVK (kIsi "str" (kV 1))) (sRet (eFz (eAnd (kOk (kIsi "str" (kV 0))) (kOk (k2 opEq (kV 0) (kV 1)))))) sNil)
  (sRet (kOk (k2 (opIsN false) (kV 0) (kC .none)))))))))
def law_all_equal_b1 (r_law_equal : List T → Option Ret) (r_law_all_equal : List T → Option Ret) : Rho → Option Out := kill [2] (sIf (tNot (tVK (kCall r_law_equal (kCons (k2 opIx (kV 0) (kV 2)) (kCons (k2 opIx (kV 1) (kV 2)) kNil))))) (sRet (kOk (kC (.bool false)))) sNil)
def law_all_equal_l2 (r_law_equal : List T → Option Ret) (r_law_all_equal : List T → Option Ret) : Rho → Option Out := sFor (iRange1 (eCons (kOk (kN opLen (kCons (kV 1) kNil))) eNil)) (gN 2) (law_all_equal_b1 r_law_equal r_law_all_equal)
def law_all_equal_b (r_law_equal : List T → Option Ret) (r_law_all_equal : List T → Option Ret) : Rho → Option Out := (sSeq (law_all_equal_l2 r_law_equal r_law_all_equal)
  (sRet (kOk (kC (.bool true)))))
def law_equal_rec : Nat → Nat → List T → Option Ret
  | 0, _ => fun _ => none
  | n + 1, 0 => semD 2 0 [] (law_equal_b (law_equal_rec n 0) (law_equal_rec n 1))
  | n + 1, _ => semD 2 1 [] (law_all_equal_b (law_equal_rec n 0) (law_equal_rec n 1))
abbrev law_equal_sem (n : Nat) : List T → Option Ret := law_equal_rec n 0
abbrev law_all_equal_sem (n : Nat) : List T → Option Ret := law_equal_rec n 1
def law_code_c1  : Rho → Option (Rs T) := eLc [2] (iRange1 (eCons (kOk (k2 opIx (kV 1) (kC (.int 0)))) eNil)) (gN 2) tYesF (eFz (e2 opMod (eCall law_draw_sem (eBor 0 eNil)) (kOk (k2 opIx (kV 1) (kC (.int 1))))))
def law_code_b : Rho → Option Out := (sRet law_code_c1)
def law_code_sem : List T → Option Ret := semD 2 1 [0] law_code_b
def law_answer_b1  : Rho → Option Out := kill [5] (sIf (tBK (k2 opEq (k2 opIx (kV 0) (kV 5)) (k2 opIx (kV 1) (kV 5)))) (sSet 2 (eFz (e2 opAdd (kOk (kV 2)) (kOk (kC (.int 1)))))) (sSeq (sApp0 3 (kOk (k2 opIx (kV 0) (kV 5))))
  (sApp0 4 (kOk (k2 opIx (kV 1) (kV 5))))))
def law_answer_l2  : Rho → Option Out := sFor (iRange1 (eCons (kOk (kN opLen (kCons (kV 0) kNil))) eNil)) (gN 5) law_answer_b1
def law_answer_b3  : Rho → Option Out := kill [7, 8] (sIf (tBK (k2 (opInS false) (kV 7) (kV 4))) (sSeq (sSet 6 (eFz (e2 opAdd (kOk (kV 6)) (kOk (kC (.int 1))))))
  (sSeq (sSet 8 (kOk (kMt opIndex (kV 4) (kCons (kV 7) kNil))))
  (sSet 4 (e2 opAdd (eSl (eCp 4) kNoPart (kPart (kV 8))) (eSl (eCp 4) (kPart (k2 opAdd (kV 8) (kC (.int 1)))) kNoPart))))) sNil)
def law_answer_l4  : Rho → Option Out := sFor (iIt (eCp 3)) (gN 7) law_answer_b3
def law_answer_b : Rho → Option Out := (sSeq (sSet 2 (kOk (kC (.int 0))))
  (sSeq (sSet 3 (eLst eNil))
  (sSeq (sSet 4 (eLst eNil))
  (sSeq law_answer_l2
  (sSeq (sSet 6 (kOk (kC (.int 0))))
  (sSeq law_answer_l4
  (sRet (kOk (kTup (kCons (kV 2) (kCons (kV 6) kNil)))))))))))
def law_answer_sem : List T → Option Ret := semD 2 7 [] law_answer_b
def law_how_many_b1  : Rho → Option Out := kill [3] (sSet 2 (kOk (kN opMin (kCons (k2 opMul (kV 2) (k2 opIx (kV 0) (kC (.int 1)))) (kCons (k2 opAdd (kV 1) (kC (.int 1))) kNil)))))
def law_how_many_l2  : Rho → Option Out := sFor (iRange1 (eCons (kOk (k2 opIx (kV 0) (kC (.int 0)))) eNil)) (gN 3) law_how_many_b1
def law_how_many_b : Rho → Option Out := (sSeq (sSet 2 (kOk (kC (.int 1))))
  (sSeq law_how_many_l2
  (sRet (kOk (kV 2)))))
def law_how_many_sem : List T → Option Ret := semD 2 2 [] law_how_many_b
def law_lock_t1  : Rho → Option (Rs Bool) := (tBK (k2 opGt (kCall law_how_many_sem (kCons (kV 2) (kCons (kV 1) kNil))) (kV 1)))
def law_lock_b2  : Rho → Option Out := kill [] (sSet 2 (eFz (eIf (tBK (k2 opGt (k2 opIx (kV 2) (kC (.int 0))) (kC (.int 1)))) (kOk (kTup (kCons (k2 opSub (k2 opIx (kV 2) (kC (.int 0))) (kC (.int 1))) (kCons (k2 opIx (kV 2) (kC (.int 1))) kNil)))) (kOk (kTup (kCons (kC (.int 1)) (kCons (k2 opSub (k2 opIx (kV 2) (kC (.int 1))) (kC (.int 1))) kNil)))))))
def law_lock_w3  : Rho → Option Out := sWhile law_lock_t1 law_lock_b2
def law_lock_b : Rho → Option Out := (sSeq (sSet 2 (eFz (eTup (eCons (e2 opAdd (kOk (kC (.int 1))) (e2 opMod (eCall law_draw_sem (eBor 0 eNil)) (kOk (kC (.int 5))))) (eCons (e2 opAdd (kOk (kC (.int 2))) (e2 opMod (eCall law_draw_sem (eBor 0 eNil)) (kOk (kC (.int 9))))) eNil)))))
  (sSeq law_lock_w3
  (sRet (kOk (kV 2)))))
def law_lock_sem : List T → Option Ret := semD 2 1 [0] law_lock_b
def law_refused_b : Rho → Option Out := (sTry exTab (sSeq (sExpr (eCall answer_sem (eCons (kOk (kV 0)) (eCons (kOk (kV 1)) (eCons (kOk (kV 2)) eNil)))))
  (sRet (kOk (kC (.str ""))))) (("BadCode", (sRet (kOk (kC (.str "code"))))) :: (("TooLarge", (sRet (kOk (kC (.str "large"))))) :: [])))
def law_refused_sem : List T → Option Ret := semD 3 0 [] law_refused_b
def law_b1  : Rho → Option Out := kill [10] (sSet 9 (eFz (e2 opAdd (kOk (kV 9)) (kOk (kN opMin (kCons (kMt opCount (kV 4) (kCons (kV 10) kNil)) (kCons (kMt opCount (kV 5) (kCons (kV 10) kNil)) kNil)))))))
def law_l2  : Rho → Option Out := sFor (iRange1 (eCons (kOk (kC (.int 10))) eNil)) (gN 10) law_b1
def law_b3  : Rho → Option Out := kill [3, 4, 5, 6, 7, 8, 9, 10] (sSeq (sSet 4 (eFz (eCall law_code_sem (eBor 1 (eCons (kOk (kV 2)) eNil)))))
  (sSeq (sSet 5 (eCall law_code_sem (eBor 1 (eCons (kOk (kV 2)) eNil))))
  (sSeq (sIf (tB (e2 opEq (e2 opMod (eCall law_draw_sem (eBor 1 eNil)) (kOk (kC (.int 2)))) (kOk (kC (.int 0))))) (sSeq (sSet 5 (eN opList (eCons (kOk (kV 4)) eNil)))
  (sSeq (sPar 6 7 (eCons (eFz (e2 opMod (eCall law_draw_sem (eBor 1 eNil)) (kOk (k2 opIx (kV 2) (kC (.int 0)))))) (eCons (eFz (e2 opMod (eCall law_draw_sem (eBor 1 eNil)) (kOk (k2 opIx (kV 2) (kC (.int 0)))))) eNil)))
  (sTgt (gTp 2 (gCs (gSi (pV 5) (kV 6)) (gCs (gSi (pV 5) (kV 7)) gNl))) (kOk (kTup (kCons (k2 opIx (kV 5) (kV 7)) (kCons (k2 opIx (kV 5) (kV 6)) kNil))))))) sNil)
  (sSeq (sIf (tB (e2 opEq (e2 opMod (eCall law_draw_sem (eBor 1 eNil)) (kOk (kC (.int 4)))) (kOk (kC (.int 0))))) (sSetIxE 5 (e2 opMod (eCall law_draw_sem (eBor 1 eNil)) (kOk (k2 opIx (kV 2) (kC (.int 0))))) (eFz (e2 opMod (eCall law_draw_sem (eBor 1 eNil)) (kOk (k2 opIx (kV 2) (kC (.int 1))))))) sNil)
  (sSeq (sSet 8 (eFz (eCall law_answer_sem (eCons (kOk (kV 4)) (eCons (eCp 5) eNil)))))
  (sSeq (sIf (tOr (tNot (tV (eCall (law_equal_sem 12) (eCons (eFz (eCall answer_sem (eCons (kOk (kV 2)) (eCons (kOk (kV 4)) (eCons (eCp 5) eNil))))) (eCons (kOk (kV 8)) eNil))))) (tNot (tV (eCall (law_equal_sem 12) (eCons (eFz (eCall answer_sem (eCons (kOk (kV 2)) (eCons (eCp 5) (eCons (kOk (kV 4)) eNil))))) (eCons (kOk (kV 8)) eNil)))))) (sRet (kOk (kC (.bool false)))) sNil)
  (sSeq (sSet 9 (kOk (kC (.int 0))))
  (sSeq law_l2
  (sIf (tOr (tBK (k2 opNe (k2 opAdd (k2 opIx (kV 8) (kC (.int 0))) (k2 opIx (kV 8) (kC (.int 1)))) (kV 9))) (tBK (k2 opNe (k2 opEq (kV 8) (kTup (kCons (k2 opIx (kV 2) (kC (.int 0))) (kCons (kC (.int 0)) kNil)))) (k2 opEq (kV 4) (kV 5))))) (sRet (kOk (kC (.bool false)))) sNil)))))))))
def law_l4  : Rho → Option Out := sFor (iRange1 (eCons (kOk (kC (.int 8))) eNil)) (gN 3) law_b3
def law_b5  : Rho → Option Out := kill [11] (sIf (tOr (tBK (k2 opNe (kCall law_refused_sem (kCons (kV 2) (kCons (kV 11) (kCons (kV 4) kNil)))) (kC (.str "code")))) (tBK (k2 opNe (kCall law_refused_sem (kCons (kV 2) (kCons (kV 4) (kCons (kV 11) kNil)))) (kC (.str "code"))))) (sRet (kOk (kC (.bool false)))) sNil)
def law_l6  : Rho → Option Out := sFor (iIt (eTup (eCons (e2 opAdd (kOk (kV 4)) (eLst (eCons (kOk (kC (.int 0))) eNil))) (eCons (eSl (kOk (kV 4)) (kPart (kC (.int 1))) kNoPart) (eCons (eN opTuple (eCons (kOk (kV 4)) eNil)) (eCons (kOk (kC .none)) (eCons (e2 opAdd (eSl (kOk (kV 4)) kNoPart (kPart (k1 opNeg (kC (.int 1))))) (eLst (eCons (kOk (k2 opIx (kV 2) (kC (.int 1)))) eNil))) (eCons (e2 opAdd (eSl (kOk (kV 4)) kNoPart (kPart (k1 opNeg (kC (.int 1))))) (eLst (eCons (kOk (k1 opNeg (kC (.int 1)))) eNil))) (eCons (e2 opAdd (eSl (kOk (kV 4)) kNoPart (kPart (k1 opNeg (kC (.int 1))))) (eLst (eCons (kOk (kC (.bool true))) eNil))) (eCons (e2 opAdd (eSl (kOk (kV 4)) kNoPart (kPart (k1 opNeg (kC (.int 1))))) (eLst (eCons (kOk (kC (.str "0"))) eNil))) eNil)))))))))) (gN 11) law_b5
def law_b7  : Rho → Option Out := kill [11] (sIf (tB (e2 opNe (eCall law_refused_sem (eCons (kOk (kV 11)) (eCons (eFz (eLst (eCons (kOk (kC (.int 0))) eNil))) (eCons (eFz (eLst (eCons (kOk (kC (.int 0))) eNil))) eNil)))) (kOk (kC (.str "code"))))) (sRet (kOk (kC (.bool false)))) sNil)
def law_l8  : Rho → Option Out := sFor (iIt (eTup (eCons (kOk (kTup (kCons (kC (.int 0)) (kCons (kC (.int 2)) kNil)))) (eCons (kOk (kTup (kCons (kC (.int 6)) (kCons (kC (.int 2)) kNil)))) (eCons (kOk (kTup (kCons (kC (.int 1)) (kCons (kC (.int 1)) kNil)))) (eCons (kOk (kTup (kCons (kC (.int 1)) (kCons (kC (.int 11)) kNil)))) (eCons (kOk (kTup (kCons (kC (.int 1)) kNil))) (eCons (eLst (eCons (kOk (kC (.int 1))) (eCons (kOk (kC (.int 2))) eNil))) (eCons (kOk (kC .none)) (eCons (kOk (kTup (kCons (kC (.bool true)) (kCons (kC (.int 2)) kNil)))) (eCons (kOk (kTup (kCons (kC (.str "1")) (kCons (kC (.int 2)) kNil)))) (eCons (kOk (kTup (kCons (kC (.int 1)) (kCons (kC (.int 2)) (kCons (kC (.int 3)) kNil))))) eNil)))))))))))) (gN 11) law_b7
def law_b : Rho → Option Out := (sSeq (sSet 1 (eLst (eCons (kOk (kCall law_numbers_sem (kCons (kV 0) kNil))) (eCons (kOk (kC (.int 0))) eNil))))
  (sSeq (sSet 2 (eFz (eCall law_lock_sem (eBor 1 (eCons (kOk (kC (.int 10000))) eNil)))))
  (sSeq law_l4
  (sSeq (sSet 4 (eFz (eCall law_code_sem (eBor 1 (eCons (kOk (kV 2)) eNil)))))
  (sSeq law_l6
  (sSeq law_l8
  (sSeq (sSet 12 (eFz (eLst (eCons (kOk (kC (.int 0))) (eCons (kOk (kC (.int 1))) (eCons (kOk (kC (.int 2))) (eCons (kOk (kC (.int 3))) (eCons (kOk (kC (.int 4))) eNil))))))))
  (sSeq (sIf (tOr (tBK (k2 opNe (kCall law_refused_sem (kCons (kTup (kCons (kC (.int 5)) (kCons (kC (.int 7)) kNil))) (kCons (kV 12) (kCons (kV 12) kNil)))) (kC (.str "large")))) (tOr (tBK (k2 opNe (kCall law_refused_sem (kCons (kTup (kCons (kC (.int 5)) (kCons (kC (.int 10)) kNil))) (kCons (kV 12) (kCons (kV 12) kNil)))) (kC (.str "large")))) (tB (e2 opNe (eCall law_refused_sem (eCons (kOk (kTup (kCons (kC (.int 4)) (kCons (kC (.int 10)) kNil)))) (eCons (eFz (eSl (kOk (kV 12)) kNoPart (kPart (kC (.int 4))))) (eCons (eFz (eSl (kOk (kV 12)) kNoPart (kPart (kC (.int 4))))) eNil)))) (kOk (kC (.str ""))))))) (sRet (kOk (kC (.bool false)))) sNil)
  (sRet (eFz (eAnd (e2 opEq (eCall law_refused_sem (eCons (kOk (kTup (kCons (kC (.int 5)) (kCons (kC (.int 10)) kNil)))) (eCons (kOk (kV 12)) (eCons (eFz (eSl (kOk (kV 12)) kNoPart (kPart (kC (.int 4))))) eNil)))) (kOk (kC (.str "code")))) (kOk (k2 opEq (kCall law_refused_sem (kCons (kTup (kCons (kC (.int 5)) (kCons (kC (.int 6)) kNil))) (kCons (kV 12) (kCons (kV 12) kNil)))) (kC (.str "")))))))))))))))
def law_sem : List T → Option Ret := semD 1 12 [] law_b
end K31

namespace K31
open PySem PySem.Spec PyProof.Rows L2 Lv
def mix (a k : Int) : Int := ((a * 48271 + k * 69621 + 12345) % 2147483647 * ((a * 48271 + k * 69621 + 12345) % 2147483647 / 65536 + 3) + k) % 2147483647
theorem mixed_ok (a k : Int) : law_mixed_sem [.fr (.int a), .fr (.int k)] = some (.ok (.fr (.int (mix a k))) [some (.fr (.int a)), some (.fr (.int k))]) := by
  unfold law_mixed_sem law_mixed_b
  have b1 : 0 ≤ (a * 48271 + k * 69621 + 12345) % 2147483647 := Int.emod_nonneg _ (by decide)
  have b2 : (a * 48271 + k * 69621 + 12345) % 2147483647 < 2147483647 := Int.emod_lt_of_pos _ (by decide)
  simp (disch := omega) only [gsx_ok, gSi_ap, sxf_ok, sxe_ok, sSetIxE_ap, sx0_ok, sExt0_ap, par3_ok, sPar3_ap, kMt_ap, kLenSet_ap, iRange3_ap, opCount_fr, dat_map, opEq_lists, opEq_2, opNe_bl, opEq_bl, datL_map, sTry_ap, tryR_nx, tryR_rt, tryR_ex, hdl_t, hdl_f, handle_nil, handle_ap, asL_list, asL_map, opSum_fr, opSum_lst, opMin_2, opMax_2, opSl_list, opSl_map, opSl_tup, cutL_map, bnd_ok, bnd_ex, ofR_ok, ofR_ex, SZ_eq, kC_ap, slot_c0, slot_cs, kV_ap, frR_ok, kOk_ap, k1_ap, k2_ap, e1_ap, okR_ok, e2a_ok, e2b_ok, e2a_ex, e2b_ex, e2_ap, eMv_ap, cpk_ok, eCp_ap, eFz_ap, kNil_ap, kCons_ap, eNil_ap, ecb_ok, ecb_ex, eca_ok, eca_ex, eCons_ap, eBor_ap, rT_ok, kCall_ap, rE_ok, rE_ex, rA_ok, eCall_ap, takeA_nil, tkc_ok, takeA_own, takeA_bor, putA_nil, putA_own, putA_bor, allF_nil, allF_cons, tV_ap, tVK_ap, tB_ap, tBK_ap, tNot_ap, tan_t, tan_f, tan_ex, tor_t, tor_f, tor_ex, tAnd_ap, tOr_ap, isB_bl, truth_bl, truth_lst, truth_list, truth_int, ean_t, ean_f, eAnd_ap, eor_t, eor_f, eOr_ap, eNot_ap, ifk_t, ifk_f, ifk_ex, eIf_ap, chk_t, chk_f, kCh_ap, kN_ap, eN_ap, ownsA_nil, ownsA_own, kTup_ap, kLst_ap, eTup_ap, eLst_ap, kIsi_ap, kSl_ap, eSl_ap, parI_ok, kPart_ap, kNoPart_ap, kRev_ap, gN_ap, gTp_tup, gCs_cons, gNl_nil, iIt_ap, items_list, items_tuple, iRange1_ap, rg1_ok, iRange2_ap, rg2_ok, tYesF_ap, nxt_nx, nxt_rt, nxt_ex, nxt_bk, nxt_ct, sSeq_ap, sNil_ap, sBk_ap, sCt_ap, sRaise_ap, sExpr_ap, sRet_ap, sRetN_ap, ifs_t, ifs_f, ifs_ex, sIf_ap, sSet_ap, sTgt_ap, kild_nx, kild_ct, kild_rt, kild_bk, kild_ex, kill_ap, wipe_nil, wipe_cons, app0_ok, isLst_ok, sApp0_ap, sFor_ap, sForE_ap, eLc_ap, back_nil, back_cons, bk1_none, bk1_fr, bk1_lst, endD_rt, endD_nx, endD_ex, semD_1, semD_2, semD_3, semD_4, semD_5, semD_6, semD_7, semD_8, outs_nil, outs_cons, frO_fr, opAdd_i, opAddI_i, opSub_i, opMod_i, opFdiv_i, opMul_r, opMul_l, opPow_i, opEq_i, opNe_i, opLt_i, opGt_i, opLe_i, opGe_i, opNeg_i, opLen_list, opLen_tup, opLen_lst, opIx_list, opIx_tup, opIx_lst, frOp_ap, onlyFr_fr, dat_fr, dat_lst, datL_nil, datL_fr, datL_lst, allFr_nil, allFr_cons, asS_list, asS_tup, opList_ap, opTuple_ap, ixN_nat, atI_0, atI_1, atI_2, atI_3, atI_4, atI_map, atI_int, pV_ap, getAt_ap, getP_nil, getP_ix, setAt_ap, setP_nil, setP_ix, pix_ok, pIx_ap, six_ok, sSetIx_ap, pp0_ok, ePop_ap, par2_ok, sPar_ap, aug1_ok, sAug_ap, opIsN_ap, isNoT_none, isNoT_int, isNoT_list, isNoT_tup, isNoT_lst, typT_fr, typT_lst, typD_none, typD_bool, typD_int, typD_str, typD_list, typD_tuple, isa_NoneType_bool, isa_NoneType_int, isa_NoneType_str, isa_NoneType_list, isa_NoneType_tuple, isa_NoneType_dict, isa_bool_bool, isa_bool_int, isa_bool_str, isa_bool_list, isa_bool_tuple, isa_bool_dict, isa_int_bool, isa_int_int, isa_int_str, isa_int_list, isa_int_tuple, isa_int_dict, isa_str_bool, isa_str_int, isa_str_str, isa_str_list, isa_str_tuple, isa_str_dict, isa_list_bool, isa_list_int, isa_list_str, isa_list_list, isa_list_tuple, isa_list_dict, isa_tuple_bool, isa_tuple_int, isa_tuple_str, isa_tuple_list, isa_tuple_tuple, isa_tuple_dict, isa_dict_bool, isa_dict_int, isa_dict_str, isa_dict_list, isa_dict_tuple, isa_dict_dict, opEq_emp, opEq_fe, opIn_ints, Option.bind_some, Option.map_some, List.map_cons, List.map_nil, List.cons_append, List.nil_append, List.append_nil, List.replicate, List.length_cons, List.length_nil, List.set_cons_succ, List.set_cons_zero, Nat.lt_add_one, if_true, if_false, Nat.reduceAdd, Nat.reduceLT, Nat.reduceLeDiff, List.not_mem_nil, List.mem_cons, Nat.reduceEqDiff, or_false, or_true, false_or, true_or, Bool.not_true, Bool.not_false, Bool.false_eq_true, reduceIte, Option.bind_eq_bind, Int.reduceAdd, Int.reduceSub, Int.reduceMul, Int.reduceLT, Int.reduceLE, Int.reduceNeg, Int.cast_ofNat_Int, Int.natCast_one, Int.natCast_zero, Int.reduceEq, Int.reduceNe, Int.toNat_natCast, Int.reduceToNat, Int.reducePow, List.isEmpty_nil, List.isEmpty_cons, List.getElem?_cons_succ, List.getElem?_cons_zero, reduceCtorEq, Nat.succ_eq_add_one, Nat.add_zero, Nat.zero_add, and_self, and_true, true_and, decide_true, decide_false, List.reverse_cons, List.reverse_nil, Option.map_eq_map, Bool.not_eq_true, Bool.not_eq_false, Bool.xor_false, Bool.xor_true, Bool.false_xor, Bool.true_xor, Nat.reduceSub, List.dropLast_cons₂, List.dropLast_singleton, decide_eq_true_eq, List.length_map, Nat.zero_le]
  rfl
theorem mix_nn (a k : Int) : 0 ≤ mix a k := Int.emod_nonneg _ (by decide)
theorem mix_lt (a k : Int) : mix a k < 2147483647 := Int.emod_lt_of_pos _ (by decide)
/-- what is drawn next -/
def Dr (ms : List Int) (at_ : Int) : T := .lst [.fr (.list (ms.map .int)), .fr (.int at_)]
def dv (ms : List Int) (i : Int) : Int := if i < ms.length then ms[i.toNat]?.getD 0 else mix (mix (if 0 < ms.length then 1 + i + 1009 * ms[0]?.getD 0 else 1 + i) i) 5 % 1000000
theorem draw_ok (ms : List Int) (i : Int) (hi : 0 ≤ i) : law_draw_sem [Dr ms i] = some (.ok (.fr (.int (dv ms i))) [some (Dr ms (i + 1))]) := by
  unfold law_draw_sem law_draw_b Dr dv
  by_cases h : i < ms.length
  · simp (disch := omega) only [gsx_ok, gSi_ap, sxf_ok, sxe_ok, sSetIxE_ap, sx0_ok, sExt0_ap, par3_ok, sPar3_ap, kMt_ap, kLenSet_ap, iRange3_ap, opCount_fr, dat_map, opEq_lists, opEq_2, opNe_bl, opEq_bl, datL_map, sTry_ap, tryR_nx, tryR_rt, tryR_ex, hdl_t, hdl_f, handle_nil, handle_ap, asL_list, asL_map, opSum_fr, opSum_lst, opMin_2, opMax_2, opSl_list, opSl_map, opSl_tup, cutL_map, bnd_ok, bnd_ex, ofR_ok, ofR_ex, SZ_eq, kC_ap, slot_c0, slot_cs, kV_ap, frR_ok, kOk_ap, k1_ap, k2_ap, e1_ap, okR_ok, e2a_ok, e2b_ok, e2a_ex, e2b_ex, e2_ap, eMv_ap, cpk_ok, eCp_ap, eFz_ap, kNil_ap, kCons_ap, eNil_ap, ecb_ok, ecb_ex, eca_ok, eca_ex, eCons_ap, eBor_ap, rT_ok, kCall_ap, rE_ok, rE_ex, rA_ok, eCall_ap, takeA_nil, tkc_ok, takeA_own, takeA_bor, putA_nil, putA_own, putA_bor, allF_nil, allF_cons, tV_ap, tVK_ap, tB_ap, tBK_ap, tNot_ap, tan_t, tan_f, tan_ex, tor_t, tor_f, tor_ex, tAnd_ap, tOr_ap, isB_bl, truth_bl, truth_lst, truth_list, truth_int, ean_t, ean_f, eAnd_ap, eor_t, eor_f, eOr_ap, eNot_ap, ifk_t, ifk_f, ifk_ex, eIf_ap, chk_t, chk_f, kCh_ap, kN_ap, eN_ap, ownsA_nil, ownsA_own, kTup_ap, kLst_ap, eTup_ap, eLst_ap, kIsi_ap, kSl_ap, eSl_ap, parI_ok, kPart_ap, kNoPart_ap, kRev_ap, gN_ap, gTp_tup, gCs_cons, gNl_nil, iIt_ap, items_list, items_tuple, iRange1_ap, rg1_ok, iRange2_ap, rg2_ok, tYesF_ap, nxt_nx, nxt_rt, nxt_ex, nxt_bk, nxt_ct, sSeq_ap, sNil_ap, sBk_ap, sCt_ap, sRaise_ap, sExpr_ap, sRet_ap, sRetN_ap, ifs_t, ifs_f, ifs_ex, sIf_ap, sSet_ap, sTgt_ap, kild_nx, kild_ct, kild_rt, kild_bk, kild_ex, kill_ap, wipe_nil, wipe_cons, app0_ok, isLst_ok, sApp0_ap, sFor_ap, sForE_ap, eLc_ap, back_nil, back_cons, bk1_none, bk1_fr, bk1_lst, endD_rt, endD_nx, endD_ex, semD_1, semD_2, semD_3, semD_4, semD_5, semD_6, semD_7, semD_8, outs_nil, outs_cons, frO_fr, opAdd_i, opAddI_i, opSub_i, opMod_i, opFdiv_i, opMul_r, opMul_l, opPow_i, opEq_i, opNe_i, opLt_i, opGt_i, opLe_i, opGe_i, opNeg_i, opLen_list, opLen_tup, opLen_lst, opIx_list, opIx_tup, opIx_lst, frOp_ap, onlyFr_fr, dat_fr, dat_lst, datL_nil, datL_fr, datL_lst, allFr_nil, allFr_cons, asS_list, asS_tup, opList_ap, opTuple_ap, ixN_nat, atI_0, atI_1, atI_2, atI_3, atI_4, atI_map, atI_int, pV_ap, getAt_ap, getP_nil, getP_ix, setAt_ap, setP_nil, setP_ix, pix_ok, pIx_ap, six_ok, sSetIx_ap, pp0_ok, ePop_ap, par2_ok, sPar_ap, aug1_ok, sAug_ap, opIsN_ap, isNoT_none, isNoT_int, isNoT_list, isNoT_tup, isNoT_lst, typT_fr, typT_lst, typD_none, typD_bool, typD_int, typD_str, typD_list, typD_tuple, isa_NoneType_bool, isa_NoneType_int, isa_NoneType_str, isa_NoneType_list, isa_NoneType_tuple, isa_NoneType_dict, isa_bool_bool, isa_bool_int, isa_bool_str, isa_bool_list, isa_bool_tuple, isa_bool_dict, isa_int_bool, isa_int_int, isa_int_str, isa_int_list, isa_int_tuple, isa_int_dict, isa_str_bool, isa_str_int, isa_str_str, isa_str_list, isa_str_tuple, isa_str_dict, isa_list_bool, isa_list_int, isa_list_str, isa_list_list, isa_list_tuple, isa_list_dict, isa_tuple_bool, isa_tuple_int, isa_tuple_str, isa_tuple_list, isa_tuple_tuple, isa_tuple_dict, isa_dict_bool, isa_dict_int, isa_dict_str, isa_dict_list, isa_dict_tuple, isa_dict_dict, opEq_emp, opEq_fe, opIn_ints, Option.bind_some, Option.map_some, List.map_cons, List.map_nil, List.cons_append, List.nil_append, List.append_nil, List.replicate, List.length_cons, List.length_nil, List.set_cons_succ, List.set_cons_zero, Nat.lt_add_one, if_true, if_false, Nat.reduceAdd, Nat.reduceLT, Nat.reduceLeDiff, List.not_mem_nil, List.mem_cons, Nat.reduceEqDiff, or_false, or_true, false_or, true_or, Bool.not_true, Bool.not_false, Bool.false_eq_true, reduceIte, Option.bind_eq_bind, Int.reduceAdd, Int.reduceSub, Int.reduceMul, Int.reduceLT, Int.reduceLE, Int.reduceNeg, Int.cast_ofNat_Int, Int.natCast_one, Int.natCast_zero, Int.reduceEq, Int.reduceNe, Int.toNat_natCast, Int.reduceToNat, Int.reducePow, List.isEmpty_nil, List.isEmpty_cons, List.getElem?_cons_succ, List.getElem?_cons_zero, reduceCtorEq, Nat.succ_eq_add_one, Nat.add_zero, Nat.zero_add, and_self, and_true, true_and, decide_true, decide_false, List.reverse_cons, List.reverse_nil, Option.map_eq_map, Bool.not_eq_true, Bool.not_eq_false, Bool.xor_false, Bool.xor_true, Bool.false_xor, Bool.true_xor, Nat.reduceSub, List.dropLast_cons₂, List.dropLast_singleton, decide_eq_true_eq, List.length_map, Nat.zero_le, h]
  · by_cases h2 : (0 : Int) < ms.length
    · have h3 : 0 < ms.length := by omega
      simp (disch := omega) only [gsx_ok, gSi_ap, sxf_ok, sxe_ok, sSetIxE_ap, sx0_ok, sExt0_ap, par3_ok, sPar3_ap, kMt_ap, kLenSet_ap, iRange3_ap, opCount_fr, dat_map, opEq_lists, opEq_2, opNe_bl, opEq_bl, datL_map, sTry_ap, tryR_nx, tryR_rt, tryR_ex, hdl_t, hdl_f, handle_nil, handle_ap, asL_list, asL_map, opSum_fr, opSum_lst, opMin_2, opMax_2, opSl_list, opSl_map, opSl_tup, cutL_map, bnd_ok, bnd_ex, ofR_ok, ofR_ex, SZ_eq, kC_ap, slot_c0, slot_cs, kV_ap, frR_ok, kOk_ap, k1_ap, k2_ap, e1_ap, okR_ok, e2a_ok, e2b_ok, e2a_ex, e2b_ex, e2_ap, eMv_ap, cpk_ok, eCp_ap, eFz_ap, kNil_ap, kCons_ap, eNil_ap, ecb_ok, ecb_ex, eca_ok, eca_ex, eCons_ap, eBor_ap, rT_ok, kCall_ap, rE_ok, rE_ex, rA_ok, eCall_ap, takeA_nil, tkc_ok, takeA_own, takeA_bor, putA_nil, putA_own, putA_bor, allF_nil, allF_cons, tV_ap, tVK_ap, tB_ap, tBK_ap, tNot_ap, tan_t, tan_f, tan_ex, tor_t, tor_f, tor_ex, tAnd_ap, tOr_ap, isB_bl, truth_bl, truth_lst, truth_list, truth_int, ean_t, ean_f, eAnd_ap, eor_t, eor_f, eOr_ap, eNot_ap, ifk_t, ifk_f, ifk_ex, eIf_ap, chk_t, chk_f, kCh_ap, kN_ap, eN_ap, ownsA_nil, ownsA_own, kTup_ap, kLst_ap, eTup_ap, eLst_ap, kIsi_ap, kSl_ap, eSl_ap, parI_ok, kPart_ap, kNoPart_ap, kRev_ap, gN_ap, gTp_tup, gCs_cons, gNl_nil, iIt_ap, items_list, items_tuple, iRange1_ap, rg1_ok, iRange2_ap, rg2_ok, tYesF_ap, nxt_nx, nxt_rt, nxt_ex, nxt_bk, nxt_ct, sSeq_ap, sNil_ap, sBk_ap, sCt_ap, sRaise_ap, sExpr_ap, sRet_ap, sRetN_ap, ifs_t, ifs_f, ifs_ex, sIf_ap, sSet_ap, sTgt_ap, kild_nx, kild_ct, kild_rt, kild_bk, kild_ex, kill_ap, wipe_nil, wipe_cons, app0_ok, isLst_ok, sApp0_ap, sFor_ap, sForE_ap, eLc_ap, back_nil, back_cons, bk1_none, bk1_fr, bk1_lst, endD_rt, endD_nx, endD_ex, semD_1, semD_2, semD_3, semD_4, semD_5, semD_6, semD_7, semD_8, outs_nil, outs_cons, frO_fr, opAdd_i, opAddI_i, opSub_i, opMod_i, opFdiv_i, opMul_r, opMul_l, opPow_i, opEq_i, opNe_i, opLt_i, opGt_i, opLe_i, opGe_i, opNeg_i, opLen_list, opLen_tup, opLen_lst, opIx_list, opIx_tup, opIx_lst, frOp_ap, onlyFr_fr, dat_fr, dat_lst, datL_nil, datL_fr, datL_lst, allFr_nil, allFr_cons, asS_list, asS_tup, opList_ap, opTuple_ap, ixN_nat, atI_0, atI_1, atI_2, atI_3, atI_4, atI_map, atI_int, pV_ap, getAt_ap, getP_nil, getP_ix, setAt_ap, setP_nil, setP_ix, pix_ok, pIx_ap, six_ok, sSetIx_ap, pp0_ok, ePop_ap, par2_ok, sPar_ap, aug1_ok, sAug_ap, opIsN_ap, isNoT_none, isNoT_int, isNoT_list, isNoT_tup, isNoT_lst, typT_fr, typT_lst, typD_none, typD_bool, typD_int, typD_str, typD_list, typD_tuple, isa_NoneType_bool, isa_NoneType_int, isa_NoneType_str, isa_NoneType_list, isa_NoneType_tuple, isa_NoneType_dict, isa_bool_bool, isa_bool_int, isa_bool_str, isa_bool_list, isa_bool_tuple, isa_bool_dict, isa_int_bool, isa_int_int, isa_int_str, isa_int_list, isa_int_tuple, isa_int_dict, isa_str_bool, isa_str_int, isa_str_str, isa_str_list, isa_str_tuple, isa_str_dict, isa_list_bool, isa_list_int, isa_list_str, isa_list_list, isa_list_tuple, isa_list_dict, isa_tuple_bool, isa_tuple_int, isa_tuple_str, isa_tuple_list, isa_tuple_tuple, isa_tuple_dict, isa_dict_bool, isa_dict_int, isa_dict_str, isa_dict_list, isa_dict_tuple, isa_dict_dict, opEq_emp, opEq_fe, opIn_ints, Option.bind_some, Option.map_some, List.map_cons, List.map_nil, List.cons_append, List.nil_append, List.append_nil, List.replicate, List.length_cons, List.length_nil, List.set_cons_succ, List.set_cons_zero, Nat.lt_add_one, if_true, if_false, Nat.reduceAdd, Nat.reduceLT, Nat.reduceLeDiff, List.not_mem_nil, List.mem_cons, Nat.reduceEqDiff, or_false, or_true, false_or, true_or, Bool.not_true, Bool.not_false, Bool.false_eq_true, reduceIte, Option.bind_eq_bind, Int.reduceAdd, Int.reduceSub, Int.reduceMul, Int.reduceLT, Int.reduceLE, Int.reduceNeg, Int.cast_ofNat_Int, Int.natCast_one, Int.natCast_zero, Int.reduceEq, Int.reduceNe, Int.toNat_natCast, Int.reduceToNat, Int.reducePow, List.isEmpty_nil, List.isEmpty_cons, List.getElem?_cons_succ, List.getElem?_cons_zero, reduceCtorEq, Nat.succ_eq_add_one, Nat.add_zero, Nat.zero_add, and_self, and_true, true_and, decide_true, decide_false, List.reverse_cons, List.reverse_nil, Option.map_eq_map, Bool.not_eq_true, Bool.not_eq_false, Bool.xor_false, Bool.xor_true, Bool.false_xor, Bool.true_xor, Nat.reduceSub, List.dropLast_cons₂, List.dropLast_singleton, decide_eq_true_eq, List.length_map, Nat.zero_le, h, h2, h3, mixed_ok]
    · have h3 : ¬ 0 < ms.length := by omega
      simp (disch := omega) only [gsx_ok, gSi_ap, sxf_ok, sxe_ok, sSetIxE_ap, sx0_ok, sExt0_ap, par3_ok, sPar3_ap, kMt_ap, kLenSet_ap, iRange3_ap, opCount_fr, dat_map, opEq_lists, opEq_2, opNe_bl, opEq_bl, datL_map, sTry_ap, tryR_nx, tryR_rt, tryR_ex, hdl_t, hdl_f, handle_nil, handle_ap, asL_list, asL_map, opSum_fr, opSum_lst, opMin_2, opMax_2, opSl_list, opSl_map, opSl_tup, cutL_map, bnd_ok, bnd_ex, ofR_ok, ofR_ex, SZ_eq, kC_ap, slot_c0, slot_cs, kV_ap, frR_ok, kOk_ap, k1_ap, k2_ap, e1_ap, okR_ok, e2a_ok, e2b_ok, e2a_ex, e2b_ex, e2_ap, eMv_ap, cpk_ok, eCp_ap, eFz_ap, kNil_ap, kCons_ap, eNil_ap, ecb_ok, ecb_ex, eca_ok, eca_ex, eCons_ap, eBor_ap, rT_ok, kCall_ap, rE_ok, rE_ex, rA_ok, eCall_ap, takeA_nil, tkc_ok, takeA_own, takeA_bor, putA_nil, putA_own, putA_bor, allF_nil, allF_cons, tV_ap, tVK_ap, tB_ap, tBK_ap, tNot_ap, tan_t, tan_f, tan_ex, tor_t, tor_f, tor_ex, tAnd_ap, tOr_ap, isB_bl, truth_bl, truth_lst, truth_list, truth_int, ean_t, ean_f, eAnd_ap, eor_t, eor_f, eOr_ap, eNot_ap, ifk_t, ifk_f, ifk_ex, eIf_ap, chk_t, chk_f, kCh_ap, kN_ap, eN_ap, ownsA_nil, ownsA_own, kTup_ap, kLst_ap, eTup_ap, eLst_ap, kIsi_ap, kSl_ap, eSl_ap, parI_ok, kPart_ap, kNoPart_ap, kRev_ap, gN_ap, gTp_tup, gCs_cons, gNl_nil, iIt_ap, items_list, items_tuple, iRange1_ap, rg1_ok, iRange2_ap, rg2_ok, tYesF_ap, nxt_nx, nxt_rt, nxt_ex, nxt_bk, nxt_ct, sSeq_ap, sNil_ap, sBk_ap, sCt_ap, sRaise_ap, sExpr_ap, sRet_ap, sRetN_ap, ifs_t, ifs_f, ifs_ex, sIf_ap, sSet_ap, sTgt_ap, kild_nx, kild_ct, kild_rt, kild_bk, kild_ex, kill_ap, wipe_nil, wipe_cons, app0_ok, isLst_ok, sApp0_ap, sFor_ap, sForE_ap, eLc_ap, back_nil, back_cons, bk1_none, bk1_fr, bk1_lst, endD_rt, endD_nx, endD_ex, semD_1, semD_2, semD_3, semD_4, semD_5, semD_6, semD_7, semD_8, outs_nil, outs_cons, frO_fr, opAdd_i, opAddI_i, opSub_i, opMod_i, opFdiv_i, opMul_r, opMul_l, opPow_i, opEq_i, opNe_i, opLt_i, opGt_i, opLe_i, opGe_i, opNeg_i, opLen_list, opLen_tup, opLen_lst, opIx_list, opIx_tup, opIx_lst, frOp_ap, onlyFr_fr, dat_fr, dat_lst, datL_nil, datL_fr, datL_lst, allFr_nil, allFr_cons, asS_list, asS_tup, opList_ap, opTuple_ap, ixN_nat, atI_0, atI_1, atI_2, atI_3, atI_4, atI_map, atI_int, pV_ap, getAt_ap, getP_nil, getP_ix, setAt_ap, setP_nil, setP_ix, pix_ok, pIx_ap, six_ok, sSetIx_ap, pp0_ok, ePop_ap, par2_ok, sPar_ap, aug1_ok, sAug_ap, opIsN_ap, isNoT_none, isNoT_int, isNoT_list, isNoT_tup, isNoT_lst, typT_fr, typT_lst, typD_none, typD_bool, typD_int, typD_str, typD_list, typD_tuple, isa_NoneType_bool, isa_NoneType_int, isa_NoneType_str, isa_NoneType_list, isa_NoneType_tuple, isa_NoneType_dict, isa_bool_bool, isa_bool_int, isa_bool_str, isa_bool_list, isa_bool_tuple, isa_bool_dict, isa_int_bool, isa_int_int, isa_int_str, isa_int_list, isa_int_tuple, isa_int_dict, isa_str_bool, isa_str_int, isa_str_str, isa_str_list, isa_str_tuple, isa_str_dict, isa_list_bool, isa_list_int, isa_list_str, isa_list_list, isa_list_tuple, isa_list_dict, isa_tuple_bool, isa_tuple_int, isa_tuple_str, isa_tuple_list, isa_tuple_tuple, isa_tuple_dict, isa_dict_bool, isa_dict_int, isa_dict_str, isa_dict_list, isa_dict_tuple, isa_dict_dict, opEq_emp, opEq_fe, opIn_ints, Option.bind_some, Option.map_some, List.map_cons, List.map_nil, List.cons_append, List.nil_append, List.append_nil, List.replicate, List.length_cons, List.length_nil, List.set_cons_succ, List.set_cons_zero, Nat.lt_add_one, if_true, if_false, Nat.reduceAdd, Nat.reduceLT, Nat.reduceLeDiff, List.not_mem_nil, List.mem_cons, Nat.reduceEqDiff, or_false, or_true, false_or, true_or, Bool.not_true, Bool.not_false, Bool.false_eq_true, reduceIte, Option.bind_eq_bind, Int.reduceAdd, Int.reduceSub, Int.reduceMul, Int.reduceLT, Int.reduceLE, Int.reduceNeg, Int.cast_ofNat_Int, Int.natCast_one, Int.natCast_zero, Int.reduceEq, Int.reduceNe, Int.toNat_natCast, Int.reduceToNat, Int.reducePow, List.isEmpty_nil, List.isEmpty_cons, List.getElem?_cons_succ, List.getElem?_cons_zero, reduceCtorEq, Nat.succ_eq_add_one, Nat.add_zero, Nat.zero_add, and_self, and_true, true_and, decide_true, decide_false, List.reverse_cons, List.reverse_nil, Option.map_eq_map, Bool.not_eq_true, Bool.not_eq_false, Bool.xor_false, Bool.xor_true, Bool.false_xor, Bool.true_xor, Nat.reduceSub, List.dropLast_cons₂, List.dropLast_singleton, decide_eq_true_eq, List.length_map, Nat.zero_le, h, h2, h3, mixed_ok]
theorem dv_nn {ms : List Int} {i : Int} (hm : ∀ m ∈ ms, 0 ≤ m ∧ m < 1000000) : 0 ≤ dv ms i ∧ dv ms i < 1000000 := by
  unfold dv
  split
  · cases e : ms[i.toNat]? with
    | none => simp
    | some x => exact hm x (List.mem_of_getElem? e)
  · exact ⟨Int.emod_nonneg _ (by decide), Int.emod_lt_of_pos _ (by decide)⟩
def il (ms : List Int) : List T := ms.map fun m => .fr (.int m)
theorem il_len (ms : List Int) : (il ms).length = ms.length := by simp [il]
theorem il_app (ms : List Int) (m : Int) : il ms ++ [.fr (.int m)] = il (ms ++ [m]) := by simp [il]
theorem il_dat (ms : List Int) : T.datL (il ms) = some (ms.map .int) := by
  have : il ms = (ms.map PyData.int).map T.fr := by simp [il]
  rw [this, datL_map]
theorem numbers_l2 (x : T) (c : Int) (ms : List Int) (hm : ∀ m ∈ ms, 0 ≤ m ∧ m < 1000000) (hl : ms.length ≤ 3720) :
    ∃ ρ', law_numbers_l2 [some x, some (.lst (il ms)), some (.fr (.int c)), some (.fr (.int c)), none] = some (.nx ρ') ∧ ∃ (ms' : List Int) (c' : Int), (∀ m ∈ ms', 0 ≤ m ∧ m < 1000000) ∧ ms'.length ≤ ms.length + 60 ∧ ρ' = [some x, some (.lst (il ms')), some (.fr (.int c)), some (.fr (.int c')), none] := by
  unfold law_numbers_l2
  refine for_rng (n := 60) (ρ1 := _) (by simp only [gsx_ok, gSi_ap, sxf_ok, sxe_ok, sSetIxE_ap, sx0_ok, sExt0_ap, par3_ok, sPar3_ap, kMt_ap, kLenSet_ap, iRange3_ap, opCount_fr, dat_map, opEq_lists, opEq_2, opNe_bl, opEq_bl, datL_map, sTry_ap, tryR_nx, tryR_rt, tryR_ex, hdl_t, hdl_f, handle_nil, handle_ap, asL_list, asL_map, opSum_fr, opSum_lst, opMin_2, opMax_2, opSl_list, opSl_map, opSl_tup, cutL_map, bnd_ok, bnd_ex, ofR_ok, ofR_ex, SZ_eq, kC_ap, slot_c0, slot_cs, kV_ap, frR_ok, kOk_ap, k1_ap, k2_ap, e1_ap, okR_ok, e2a_ok, e2b_ok, e2a_ex, e2b_ex, e2_ap, eMv_ap, cpk_ok, eCp_ap, eFz_ap, kNil_ap, kCons_ap, eNil_ap, ecb_ok, ecb_ex, eca_ok, eca_ex, eCons_ap, eBor_ap, rT_ok, kCall_ap, rE_ok, rE_ex, rA_ok, eCall_ap, takeA_nil, tkc_ok, takeA_own, takeA_bor, putA_nil, putA_own, putA_bor, allF_nil, allF_cons, tV_ap, tVK_ap, tB_ap, tBK_ap, tNot_ap, tan_t, tan_f, tan_ex, tor_t, tor_f, tor_ex, tAnd_ap, tOr_ap, isB_bl, truth_bl, truth_lst, truth_list, truth_int, ean_t, ean_f, eAnd_ap, eor_t, eor_f, eOr_ap, eNot_ap, ifk_t, ifk_f, ifk_ex, eIf_ap, chk_t, chk_f, kCh_ap, kN_ap, eN_ap, ownsA_nil, ownsA_own, kTup_ap, kLst_ap, eTup_ap, eLst_ap, kIsi_ap, kSl_ap, eSl_ap, parI_ok, kPart_ap, kNoPart_ap, kRev_ap, gN_ap, gTp_tup, gCs_cons, gNl_nil, iIt_ap, items_list, items_tuple, iRange1_ap, rg1_ok, iRange2_ap, rg2_ok, tYesF_ap, nxt_nx, nxt_rt, nxt_ex, nxt_bk, nxt_ct, sSeq_ap, sNil_ap, sBk_ap, sCt_ap, sRaise_ap, sExpr_ap, sRet_ap, sRetN_ap, ifs_t, ifs_f, ifs_ex, sIf_ap, sSet_ap, sTgt_ap, kild_nx, kild_ct, kild_rt, kild_bk, kild_ex, kill_ap, wipe_nil, wipe_cons, app0_ok, isLst_ok, sApp0_ap, sFor_ap, sForE_ap, eLc_ap, back_nil, back_cons, bk1_none, bk1_fr, bk1_lst, endD_rt, endD_nx, endD_ex, semD_1, semD_2, semD_3, semD_4, semD_5, semD_6, semD_7, semD_8, outs_nil, outs_cons, frO_fr, opAdd_i, opAddI_i, opSub_i, opMod_i, opFdiv_i, opMul_r, opMul_l, opPow_i, opEq_i, opNe_i, opLt_i, opGt_i, opLe_i, opGe_i, opNeg_i, opLen_list, opLen_tup, opLen_lst, opIx_list, opIx_tup, opIx_lst, frOp_ap, onlyFr_fr, dat_fr, dat_lst, datL_nil, datL_fr, datL_lst, allFr_nil, allFr_cons, asS_list, asS_tup, opList_ap, opTuple_ap, ixN_nat, atI_0, atI_1, atI_2, atI_3, atI_4, atI_map, atI_int, pV_ap, getAt_ap, getP_nil, getP_ix, setAt_ap, setP_nil, setP_ix, pix_ok, pIx_ap, six_ok, sSetIx_ap, pp0_ok, ePop_ap, par2_ok, sPar_ap, aug1_ok, sAug_ap, opIsN_ap, isNoT_none, isNoT_int, isNoT_list, isNoT_tup, isNoT_lst, typT_fr, typT_lst, typD_none, typD_bool, typD_int, typD_str, typD_list, typD_tuple, isa_NoneType_bool, isa_NoneType_int, isa_NoneType_str, isa_NoneType_list, isa_NoneType_tuple, isa_NoneType_dict, isa_bool_bool, isa_bool_int, isa_bool_str, isa_bool_list, isa_bool_tuple, isa_bool_dict, isa_int_bool, isa_int_int, isa_int_str, isa_int_list, isa_int_tuple, isa_int_dict, isa_str_bool, isa_str_int, isa_str_str, isa_str_list, isa_str_tuple, isa_str_dict, isa_list_bool, isa_list_int, isa_list_str, isa_list_list, isa_list_tuple, isa_list_dict, isa_tuple_bool, isa_tuple_int, isa_tuple_str, isa_tuple_list, isa_tuple_tuple, isa_tuple_dict, isa_dict_bool, isa_dict_int, isa_dict_str, isa_dict_list, isa_dict_tuple, isa_dict_dict, opEq_emp, opEq_fe, opIn_ints, Option.bind_some, Option.map_some, List.map_cons, List.map_nil, List.cons_append, List.nil_append, List.append_nil, List.replicate, List.length_cons, List.length_nil, List.set_cons_succ, List.set_cons_zero, Nat.lt_add_one, if_true, if_false, Nat.reduceAdd, Nat.reduceLT, Nat.reduceLeDiff, List.not_mem_nil, List.mem_cons, Nat.reduceEqDiff, or_false, or_true, false_or, true_or, Bool.not_true, Bool.not_false, Bool.false_eq_true, reduceIte, Option.bind_eq_bind, Int.reduceAdd, Int.reduceSub, Int.reduceMul, Int.reduceLT, Int.reduceLE, Int.reduceNeg, Int.cast_ofNat_Int, Int.natCast_one, Int.natCast_zero, Int.reduceEq, Int.reduceNe, Int.toNat_natCast, Int.reduceToNat, Int.reducePow, List.isEmpty_nil, List.isEmpty_cons, List.getElem?_cons_succ, List.getElem?_cons_zero, reduceCtorEq, Nat.succ_eq_add_one, Nat.add_zero, Nat.zero_add, and_self, and_true, true_and, decide_true, decide_false, List.reverse_cons, List.reverse_nil, Option.map_eq_map, Bool.not_eq_true, Bool.not_eq_false, Bool.xor_false, Bool.xor_true, Bool.false_xor, Bool.true_xor, Nat.reduceSub, List.dropLast_cons₂, List.dropLast_singleton, decide_eq_true_eq, List.length_map, Nat.zero_le]; try rfl) (fun k ρ => ∃ (ms' : List Int) (c' : Int), (∀ m ∈ ms', 0 ≤ m ∧ m < 1000000) ∧ ms'.length ≤ ms.length + k ∧ ρ = [some x, some (.lst (il ms')), some (.fr (.int c)), some (.fr (.int c')), none]) ⟨ms, c, hm, by omega, rfl⟩ fun k ρ hk ⟨ms', c', h1, h2, e⟩ => ?_
  subst e
  have hsz : (il ms').length < 16777216 := by rw [il_len]; omega
  unfold law_numbers_b1
  by_cases h : 0 < c'
  · simp (disch := omega) only [gsx_ok, gSi_ap, sxf_ok, sxe_ok, sSetIxE_ap, sx0_ok, sExt0_ap, par3_ok, sPar3_ap, kMt_ap, kLenSet_ap, iRange3_ap, opCount_fr, dat_map, opEq_lists, opEq_2, opNe_bl, opEq_bl, datL_map, sTry_ap, tryR_nx, tryR_rt, tryR_ex, hdl_t, hdl_f, handle_nil, handle_ap, asL_list, asL_map, opSum_fr, opSum_lst, opMin_2, opMax_2, opSl_list, opSl_map, opSl_tup, cutL_map, bnd_ok, bnd_ex, ofR_ok, ofR_ex, SZ_eq, kC_ap, slot_c0, slot_cs, kV_ap, frR_ok, kOk_ap, k1_ap, k2_ap, e1_ap, okR_ok, e2a_ok, e2b_ok, e2a_ex, e2b_ex, e2_ap, eMv_ap, cpk_ok, eCp_ap, eFz_ap, kNil_ap, kCons_ap, eNil_ap, ecb_ok, ecb_ex, eca_ok, eca_ex, eCons_ap, eBor_ap, rT_ok, kCall_ap, rE_ok, rE_ex, rA_ok, eCall_ap, takeA_nil, tkc_ok, takeA_own, takeA_bor, putA_nil, putA_own, putA_bor, allF_nil, allF_cons, tV_ap, tVK_ap, tB_ap, tBK_ap, tNot_ap, tan_t, tan_f, tan_ex, tor_t, tor_f, tor_ex, tAnd_ap, tOr_ap, isB_bl, truth_bl, truth_lst, truth_list, truth_int, ean_t, ean_f, eAnd_ap, eor_t, eor_f, eOr_ap, eNot_ap, ifk_t, ifk_f, ifk_ex, eIf_ap, chk_t, chk_f, kCh_ap, kN_ap, eN_ap, ownsA_nil, ownsA_own, kTup_ap, kLst_ap, eTup_ap, eLst_ap, kIsi_ap, kSl_ap, eSl_ap, parI_ok, kPart_ap, kNoPart_ap, kRev_ap, gN_ap, gTp_tup, gCs_cons, gNl_nil, iIt_ap, items_list, items_tuple, iRange1_ap, rg1_ok, iRange2_ap, rg2_ok, tYesF_ap, nxt_nx, nxt_rt, nxt_ex, nxt_bk, nxt_ct, sSeq_ap, sNil_ap, sBk_ap, sCt_ap, sRaise_ap, sExpr_ap, sRet_ap, sRetN_ap, ifs_t, ifs_f, ifs_ex, sIf_ap, sSet_ap, sTgt_ap, kild_nx, kild_ct, kild_rt, kild_bk, kild_ex, kill_ap, wipe_nil, wipe_cons, app0_ok, isLst_ok, sApp0_ap, sFor_ap, sForE_ap, eLc_ap, back_nil, back_cons, bk1_none, bk1_fr, bk1_lst, endD_rt, endD_nx, endD_ex, semD_1, semD_2, semD_3, semD_4, semD_5, semD_6, semD_7, semD_8, outs_nil, outs_cons, frO_fr, opAdd_i, opAddI_i, opSub_i, opMod_i, opFdiv_i, opMul_r, opMul_l, opPow_i, opEq_i, opNe_i, opLt_i, opGt_i, opLe_i, opGe_i, opNeg_i, opLen_list, opLen_tup, opLen_lst, opIx_list, opIx_tup, opIx_lst, frOp_ap, onlyFr_fr, dat_fr, dat_lst, datL_nil, datL_fr, datL_lst, allFr_nil, allFr_cons, asS_list, asS_tup, opList_ap, opTuple_ap, ixN_nat, atI_0, atI_1, atI_2, atI_3, atI_4, atI_map, atI_int, pV_ap, getAt_ap, getP_nil, getP_ix, setAt_ap, setP_nil, setP_ix, pix_ok, pIx_ap, six_ok, sSetIx_ap, pp0_ok, ePop_ap, par2_ok, sPar_ap, aug1_ok, sAug_ap, opIsN_ap, isNoT_none, isNoT_int, isNoT_list, isNoT_tup, isNoT_lst, typT_fr, typT_lst, typD_none, typD_bool, typD_int, typD_str, typD_list, typD_tuple, isa_NoneType_bool, isa_NoneType_int, isa_NoneType_str, isa_NoneType_list, isa_NoneType_tuple, isa_NoneType_dict, isa_bool_bool, isa_bool_int, isa_bool_str, isa_bool_list, isa_bool_tuple, isa_bool_dict, isa_int_bool, isa_int_int, isa_int_str, isa_int_list, isa_int_tuple, isa_int_dict, isa_str_bool, isa_str_int, isa_str_str, isa_str_list, isa_str_tuple, isa_str_dict, isa_list_bool, isa_list_int, isa_list_str, isa_list_list, isa_list_tuple, isa_list_dict, isa_tuple_bool, isa_tuple_int, isa_tuple_str, isa_tuple_list, isa_tuple_tuple, isa_tuple_dict, isa_dict_bool, isa_dict_int, isa_dict_str, isa_dict_list, isa_dict_tuple, isa_dict_dict, opEq_emp, opEq_fe, opIn_ints, Option.bind_some, Option.map_some, List.map_cons, List.map_nil, List.cons_append, List.nil_append, List.append_nil, List.replicate, List.length_cons, List.length_nil, List.set_cons_succ, List.set_cons_zero, Nat.lt_add_one, if_true, if_false, Nat.reduceAdd, Nat.reduceLT, Nat.reduceLeDiff, List.not_mem_nil, List.mem_cons, Nat.reduceEqDiff, or_false, or_true, false_or, true_or, Bool.not_true, Bool.not_false, Bool.false_eq_true, reduceIte, Option.bind_eq_bind, Int.reduceAdd, Int.reduceSub, Int.reduceMul, Int.reduceLT, Int.reduceLE, Int.reduceNeg, Int.cast_ofNat_Int, Int.natCast_one, Int.natCast_zero, Int.reduceEq, Int.reduceNe, Int.toNat_natCast, Int.reduceToNat, Int.reducePow, List.isEmpty_nil, List.isEmpty_cons, List.getElem?_cons_succ, List.getElem?_cons_zero, reduceCtorEq, Nat.succ_eq_add_one, Nat.add_zero, Nat.zero_add, and_self, and_true, true_and, decide_true, decide_false, List.reverse_cons, List.reverse_nil, Option.map_eq_map, Bool.not_eq_true, Bool.not_eq_false, Bool.xor_false, Bool.xor_true, Bool.false_xor, Bool.true_xor, Nat.reduceSub, List.dropLast_cons₂, List.dropLast_singleton, decide_eq_true_eq, List.length_map, Nat.zero_le, h, hsz, il_app]
    refine ⟨_, rfl, ms' ++ [c' % 1000000], c' / 1000000, fun m hm => ?_, by simp; omega, rfl⟩
    rcases List.mem_append.mp hm with z | z
    · exact h1 m z
    · simp at z; subst z; exact ⟨Int.emod_nonneg _ (by decide), Int.emod_lt_of_pos _ (by decide)⟩
  · simp (disch := omega) only [gsx_ok, gSi_ap, sxf_ok, sxe_ok, sSetIxE_ap, sx0_ok, sExt0_ap, par3_ok, sPar3_ap, kMt_ap, kLenSet_ap, iRange3_ap, opCount_fr, dat_map, opEq_lists, opEq_2, opNe_bl, opEq_bl, datL_map, sTry_ap, tryR_nx, tryR_rt, tryR_ex, hdl_t, hdl_f, handle_nil, handle_ap, asL_list, asL_map, opSum_fr, opSum_lst, opMin_2, opMax_2, opSl_list, opSl_map, opSl_tup, cutL_map, bnd_ok, bnd_ex, ofR_ok, ofR_ex, SZ_eq, kC_ap, slot_c0, slot_cs, kV_ap, frR_ok, kOk_ap, k1_ap, k2_ap, e1_ap, okR_ok, e2a_ok, e2b_ok, e2a_ex, e2b_ex, e2_ap, eMv_ap, cpk_ok, eCp_ap, eFz_ap, kNil_ap, kCons_ap, eNil_ap, ecb_ok, ecb_ex, eca_ok, eca_ex, eCons_ap, eBor_ap, rT_ok, kCall_ap, rE_ok, rE_ex, rA_ok, eCall_ap, takeA_nil, tkc_ok, takeA_own, takeA_bor, putA_nil, putA_own, putA_bor, allF_nil, allF_cons, tV_ap, tVK_ap, tB_ap, tBK_ap, tNot_ap, tan_t, tan_f, tan_ex, tor_t, tor_f, tor_ex, tAnd_ap, tOr_ap, isB_bl, truth_bl, truth_lst, truth_list, truth_int, ean_t, ean_f, eAnd_ap, eor_t, eor_f, eOr_ap, eNot_ap, ifk_t, ifk_f, ifk_ex, eIf_ap, chk_t, chk_f, kCh_ap, kN_ap, eN_ap, ownsA_nil, ownsA_own, kTup_ap, kLst_ap, eTup_ap, eLst_ap, kIsi_ap, kSl_ap, eSl_ap, parI_ok, kPart_ap, kNoPart_ap, kRev_ap, gN_ap, gTp_tup, gCs_cons, gNl_nil, iIt_ap, items_list, items_tuple, iRange1_ap, rg1_ok, iRange2_ap, rg2_ok, tYesF_ap, nxt_nx, nxt_rt, nxt_ex, nxt_bk, nxt_ct, sSeq_ap, sNil_ap, sBk_ap, sCt_ap, sRaise_ap, sExpr_ap, sRet_ap, sRetN_ap, ifs_t, ifs_f, ifs_ex, sIf_ap, sSet_ap, sTgt_ap, kild_nx, kild_ct, kild_rt, kild_bk, kild_ex, kill_ap, wipe_nil, wipe_cons, app0_ok, isLst_ok, sApp0_ap, sFor_ap, sForE_ap, eLc_ap, back_nil, back_cons, bk1_none, bk1_fr, bk1_lst, endD_rt, endD_nx, endD_ex, semD_1, semD_2, semD_3, semD_4, semD_5, semD_6, semD_7, semD_8, outs_nil, outs_cons, frO_fr, opAdd_i, opAddI_i, opSub_i, opMod_i, opFdiv_i, opMul_r, opMul_l, opPow_i, opEq_i, opNe_i, opLt_i, opGt_i, opLe_i, opGe_i, opNeg_i, opLen_list, opLen_tup, opLen_lst, opIx_list, opIx_tup, opIx_lst, frOp_ap, onlyFr_fr, dat_fr, dat_lst, datL_nil, datL_fr, datL_lst, allFr_nil, allFr_cons, asS_list, asS_tup, opList_ap, opTuple_ap, ixN_nat, atI_0, atI_1, atI_2, atI_3, atI_4, atI_map, atI_int, pV_ap, getAt_ap, getP_nil, getP_ix, setAt_ap, setP_nil, setP_ix, pix_ok, pIx_ap, six_ok, sSetIx_ap, pp0_ok, ePop_ap, par2_ok, sPar_ap, aug1_ok, sAug_ap, opIsN_ap, isNoT_none, isNoT_int, isNoT_list, isNoT_tup, isNoT_lst, typT_fr, typT_lst, typD_none, typD_bool, typD_int, typD_str, typD_list, typD_tuple, isa_NoneType_bool, isa_NoneType_int, isa_NoneType_str, isa_NoneType_list, isa_NoneType_tuple, isa_NoneType_dict, isa_bool_bool, isa_bool_int, isa_bool_str, isa_bool_list, isa_bool_tuple, isa_bool_dict, isa_int_bool, isa_int_int, isa_int_str, isa_int_list, isa_int_tuple, isa_int_dict, isa_str_bool, isa_str_int, isa_str_str, isa_str_list, isa_str_tuple, isa_str_dict, isa_list_bool, isa_list_int, isa_list_str, isa_list_list, isa_list_tuple, isa_list_dict, isa_tuple_bool, isa_tuple_int, isa_tuple_str, isa_tuple_list, isa_tuple_tuple, isa_tuple_dict, isa_dict_bool, isa_dict_int, isa_dict_str, isa_dict_list, isa_dict_tuple, isa_dict_dict, opEq_emp, opEq_fe, opIn_ints, Option.bind_some, Option.map_some, List.map_cons, List.map_nil, List.cons_append, List.nil_append, List.append_nil, List.replicate, List.length_cons, List.length_nil, List.set_cons_succ, List.set_cons_zero, Nat.lt_add_one, if_true, if_false, Nat.reduceAdd, Nat.reduceLT, Nat.reduceLeDiff, List.not_mem_nil, List.mem_cons, Nat.reduceEqDiff, or_false, or_true, false_or, true_or, Bool.not_true, Bool.not_false, Bool.false_eq_true, reduceIte, Option.bind_eq_bind, Int.reduceAdd, Int.reduceSub, Int.reduceMul, Int.reduceLT, Int.reduceLE, Int.reduceNeg, Int.cast_ofNat_Int, Int.natCast_one, Int.natCast_zero, Int.reduceEq, Int.reduceNe, Int.toNat_natCast, Int.reduceToNat, Int.reducePow, List.isEmpty_nil, List.isEmpty_cons, List.getElem?_cons_succ, List.getElem?_cons_zero, reduceCtorEq, Nat.succ_eq_add_one, Nat.add_zero, Nat.zero_add, and_self, and_true, true_and, decide_true, decide_false, List.reverse_cons, List.reverse_nil, Option.map_eq_map, Bool.not_eq_true, Bool.not_eq_false, Bool.xor_false, Bool.xor_true, Bool.false_xor, Bool.true_xor, Nat.reduceSub, List.dropLast_cons₂, List.dropLast_singleton, decide_eq_true_eq, List.length_map, Nat.zero_le, h, hsz, il_app]
    exact ⟨_, rfl, ms', c', h1, by omega, rfl⟩
theorem numbers_l4 (x : T) (c : Int) (ms : List Int) (hm : ∀ m ∈ ms, 0 ≤ m ∧ m < 1000000) (hl : ms.length ≤ 3780) :
    ∃ ρ', law_numbers_l4 [some x, some (.lst (il ms)), some (.fr (.int c)), none, none] = some (.nx ρ') ∧ ∃ (ms' : List Int), (∀ m ∈ ms', 0 ≤ m ∧ m < 1000000) ∧ ms'.length ≤ ms.length + 5 ∧ ρ' = [some x, some (.lst (il ms')), some (.fr (.int c)), none, none] := by
  unfold law_numbers_l4
  refine for_rng (n := 5) (ρ1 := _) (by simp only [gsx_ok, gSi_ap, sxf_ok, sxe_ok, sSetIxE_ap, sx0_ok, sExt0_ap, par3_ok, sPar3_ap, kMt_ap, kLenSet_ap, iRange3_ap, opCount_fr, dat_map, opEq_lists, opEq_2, opNe_bl, opEq_bl, datL_map, sTry_ap, tryR_nx, tryR_rt, tryR_ex, hdl_t, hdl_f, handle_nil, handle_ap, asL_list, asL_map, opSum_fr, opSum_lst, opMin_2, opMax_2, opSl_list, opSl_map, opSl_tup, cutL_map, bnd_ok, bnd_ex, ofR_ok, ofR_ex, SZ_eq, kC_ap, slot_c0, slot_cs, kV_ap, frR_ok, kOk_ap, k1_ap, k2_ap, e1_ap, okR_ok, e2a_ok, e2b_ok, e2a_ex, e2b_ex, e2_ap, eMv_ap, cpk_ok, eCp_ap, eFz_ap, kNil_ap, kCons_ap, eNil_ap, ecb_ok, ecb_ex, eca_ok, eca_ex, eCons_ap, eBor_ap, rT_ok, kCall_ap, rE_ok, rE_ex, rA_ok, eCall_ap, takeA_nil, tkc_ok, takeA_own, takeA_bor, putA_nil, putA_own, putA_bor, allF_nil, allF_cons, tV_ap, tVK_ap, tB_ap, tBK_ap, tNot_ap, tan_t, tan_f, tan_ex, tor_t, tor_f, tor_ex, tAnd_ap, tOr_ap, isB_bl, truth_bl, truth_lst, truth_list, truth_int, ean_t, ean_f, eAnd_ap, eor_t, eor_f, eOr_ap, eNot_ap, ifk_t, ifk_f, ifk_ex, eIf_ap, chk_t, chk_f, kCh_ap, kN_ap, eN_ap, ownsA_nil, ownsA_own, kTup_ap, kLst_ap, eTup_ap, eLst_ap, kIsi_ap, kSl_ap, eSl_ap, parI_ok, kPart_ap, kNoPart_ap, kRev_ap, gN_ap, gTp_tup, gCs_cons, gNl_nil, iIt_ap, items_list, items_tuple, iRange1_ap, rg1_ok, iRange2_ap, rg2_ok, tYesF_ap, nxt_nx, nxt_rt, nxt_ex, nxt_bk, nxt_ct, sSeq_ap, sNil_ap, sBk_ap, sCt_ap, sRaise_ap, sExpr_ap, sRet_ap, sRetN_ap, ifs_t, ifs_f, ifs_ex, sIf_ap, sSet_ap, sTgt_ap, kild_nx, kild_ct, kild_rt, kild_bk, kild_ex, kill_ap, wipe_nil, wipe_cons, app0_ok, isLst_ok, sApp0_ap, sFor_ap, sForE_ap, eLc_ap, back_nil, back_cons, bk1_none, bk1_fr, bk1_lst, endD_rt, endD_nx, endD_ex, semD_1, semD_2, semD_3, semD_4, semD_5, semD_6, semD_7, semD_8, outs_nil, outs_cons, frO_fr, opAdd_i, opAddI_i, opSub_i, opMod_i, opFdiv_i, opMul_r, opMul_l, opPow_i, opEq_i, opNe_i, opLt_i, opGt_i, opLe_i, opGe_i, opNeg_i, opLen_list, opLen_tup, opLen_lst, opIx_list, opIx_tup, opIx_lst, frOp_ap, onlyFr_fr, dat_fr, dat_lst, datL_nil, datL_fr, datL_lst, allFr_nil, allFr_cons, asS_list, asS_tup, opList_ap, opTuple_ap, ixN_nat, atI_0, atI_1, atI_2, atI_3, atI_4, atI_map, atI_int, pV_ap, getAt_ap, getP_nil, getP_ix, setAt_ap, setP_nil, setP_ix, pix_ok, pIx_ap, six_ok, sSetIx_ap, pp0_ok, ePop_ap, par2_ok, sPar_ap, aug1_ok, sAug_ap, opIsN_ap, isNoT_none, isNoT_int, isNoT_list, isNoT_tup, isNoT_lst, typT_fr, typT_lst, typD_none, typD_bool, typD_int, typD_str, typD_list, typD_tuple, isa_NoneType_bool, isa_NoneType_int, isa_NoneType_str, isa_NoneType_list, isa_NoneType_tuple, isa_NoneType_dict, isa_bool_bool, isa_bool_int, isa_bool_str, isa_bool_list, isa_bool_tuple, isa_bool_dict, isa_int_bool, isa_int_int, isa_int_str, isa_int_list, isa_int_tuple, isa_int_dict, isa_str_bool, isa_str_int, isa_str_str, isa_str_list, isa_str_tuple, isa_str_dict, isa_list_bool, isa_list_int, isa_list_str, isa_list_list, isa_list_tuple, isa_list_dict, isa_tuple_bool, isa_tuple_int, isa_tuple_str, isa_tuple_list, isa_tuple_tuple, isa_tuple_dict, isa_dict_bool, isa_dict_int, isa_dict_str, isa_dict_list, isa_dict_tuple, isa_dict_dict, opEq_emp, opEq_fe, opIn_ints, Option.bind_some, Option.map_some, List.map_cons, List.map_nil, List.cons_append, List.nil_append, List.append_nil, List.replicate, List.length_cons, List.length_nil, List.set_cons_succ, List.set_cons_zero, Nat.lt_add_one, if_true, if_false, Nat.reduceAdd, Nat.reduceLT, Nat.reduceLeDiff, List.not_mem_nil, List.mem_cons, Nat.reduceEqDiff, or_false, or_true, false_or, true_or, Bool.not_true, Bool.not_false, Bool.false_eq_true, reduceIte, Option.bind_eq_bind, Int.reduceAdd, Int.reduceSub, Int.reduceMul, Int.reduceLT, Int.reduceLE, Int.reduceNeg, Int.cast_ofNat_Int, Int.natCast_one, Int.natCast_zero, Int.reduceEq, Int.reduceNe, Int.toNat_natCast, Int.reduceToNat, Int.reducePow, List.isEmpty_nil, List.isEmpty_cons, List.getElem?_cons_succ, List.getElem?_cons_zero, reduceCtorEq, Nat.succ_eq_add_one, Nat.add_zero, Nat.zero_add, and_self, and_true, true_and, decide_true, decide_false, List.reverse_cons, List.reverse_nil, Option.map_eq_map, Bool.not_eq_true, Bool.not_eq_false, Bool.xor_false, Bool.xor_true, Bool.false_xor, Bool.true_xor, Nat.reduceSub, List.dropLast_cons₂, List.dropLast_singleton, decide_eq_true_eq, List.length_map, Nat.zero_le]; try rfl) (fun k ρ => ∃ (ms' : List Int), (∀ m ∈ ms', 0 ≤ m ∧ m < 1000000) ∧ ms'.length ≤ ms.length + k ∧ ρ = [some x, some (.lst (il ms')), some (.fr (.int c)), none, none]) ⟨ms, hm, by omega, rfl⟩ fun k ρ hk ⟨ms', h1, h2, e⟩ => ?_
  subst e
  have hsz : (il ms').length < 16777216 := by rw [il_len]; omega
  unfold law_numbers_b3
  simp (disch := omega) only [gsx_ok, gSi_ap, sxf_ok, sxe_ok, sSetIxE_ap, sx0_ok, sExt0_ap, par3_ok, sPar3_ap, kMt_ap, kLenSet_ap, iRange3_ap, opCount_fr, dat_map, opEq_lists, opEq_2, opNe_bl, opEq_bl, datL_map, sTry_ap, tryR_nx, tryR_rt, tryR_ex, hdl_t, hdl_f, handle_nil, handle_ap, asL_list, asL_map, opSum_fr, opSum_lst, opMin_2, opMax_2, opSl_list, opSl_map, opSl_tup, cutL_map, bnd_ok, bnd_ex, ofR_ok, ofR_ex, SZ_eq, kC_ap, slot_c0, slot_cs, kV_ap, frR_ok, kOk_ap, k1_ap, k2_ap, e1_ap, okR_ok, e2a_ok, e2b_ok, e2a_ex, e2b_ex, e2_ap, eMv_ap, cpk_ok, eCp_ap, eFz_ap, kNil_ap, kCons_ap, eNil_ap, ecb_ok, ecb_ex, eca_ok, eca_ex, eCons_ap, eBor_ap, rT_ok, kCall_ap, rE_ok, rE_ex, rA_ok, eCall_ap, takeA_nil, tkc_ok, takeA_own, takeA_bor, putA_nil, putA_own, putA_bor, allF_nil, allF_cons, tV_ap, tVK_ap, tB_ap, tBK_ap, tNot_ap, tan_t, tan_f, tan_ex, tor_t, tor_f, tor_ex, tAnd_ap, tOr_ap, isB_bl, truth_bl, truth_lst, truth_list, truth_int, ean_t, ean_f, eAnd_ap, eor_t, eor_f, eOr_ap, eNot_ap, ifk_t, ifk_f, ifk_ex, eIf_ap, chk_t, chk_f, kCh_ap, kN_ap, eN_ap, ownsA_nil, ownsA_own, kTup_ap, kLst_ap, eTup_ap, eLst_ap, kIsi_ap, kSl_ap, eSl_ap, parI_ok, kPart_ap, kNoPart_ap, kRev_ap, gN_ap, gTp_tup, gCs_cons, gNl_nil, iIt_ap, items_list, items_tuple, iRange1_ap, rg1_ok, iRange2_ap, rg2_ok, tYesF_ap, nxt_nx, nxt_rt, nxt_ex, nxt_bk, nxt_ct, sSeq_ap, sNil_ap, sBk_ap, sCt_ap, sRaise_ap, sExpr_ap, sRet_ap, sRetN_ap, ifs_t, ifs_f, ifs_ex, sIf_ap, sSet_ap, sTgt_ap, kild_nx, kild_ct, kild_rt, kild_bk, kild_ex, kill_ap, wipe_nil, wipe_cons, app0_ok, isLst_ok, sApp0_ap, sFor_ap, sForE_ap, eLc_ap, back_nil, back_cons, bk1_none, bk1_fr, bk1_lst, endD_rt, endD_nx, endD_ex, semD_1, semD_2, semD_3, semD_4, semD_5, semD_6, semD_7, semD_8, outs_nil, outs_cons, frO_fr, opAdd_i, opAddI_i, opSub_i, opMod_i, opFdiv_i, opMul_r, opMul_l, opPow_i, opEq_i, opNe_i, opLt_i, opGt_i, opLe_i, opGe_i, opNeg_i, opLen_list, opLen_tup, opLen_lst, opIx_list, opIx_tup, opIx_lst, frOp_ap, onlyFr_fr, dat_fr, dat_lst, datL_nil, datL_fr, datL_lst, allFr_nil, allFr_cons, asS_list, asS_tup, opList_ap, opTuple_ap, ixN_nat, atI_0, atI_1, atI_2, atI_3, atI_4, atI_map, atI_int, pV_ap, getAt_ap, getP_nil, getP_ix, setAt_ap, setP_nil, setP_ix, pix_ok, pIx_ap, six_ok, sSetIx_ap, pp0_ok, ePop_ap, par2_ok, sPar_ap, aug1_ok, sAug_ap, opIsN_ap, isNoT_none, isNoT_int, isNoT_list, isNoT_tup, isNoT_lst, typT_fr, typT_lst, typD_none, typD_bool, typD_int, typD_str, typD_list, typD_tuple, isa_NoneType_bool, isa_NoneType_int, isa_NoneType_str, isa_NoneType_list, isa_NoneType_tuple, isa_NoneType_dict, isa_bool_bool, isa_bool_int, isa_bool_str, isa_bool_list, isa_bool_tuple, isa_bool_dict, isa_int_bool, isa_int_int, isa_int_str, isa_int_list, isa_int_tuple, isa_int_dict, isa_str_bool, isa_str_int, isa_str_str, isa_str_list, isa_str_tuple, isa_str_dict, isa_list_bool, isa_list_int, isa_list_str, isa_list_list, isa_list_tuple, isa_list_dict, isa_tuple_bool, isa_tuple_int, isa_tuple_str, isa_tuple_list, isa_tuple_tuple, isa_tuple_dict, isa_dict_bool, isa_dict_int, isa_dict_str, isa_dict_list, isa_dict_tuple, isa_dict_dict, opEq_emp, opEq_fe, opIn_ints, Option.bind_some, Option.map_some, List.map_cons, List.map_nil, List.cons_append, List.nil_append, List.append_nil, List.replicate, List.length_cons, List.length_nil, List.set_cons_succ, List.set_cons_zero, Nat.lt_add_one, if_true, if_false, Nat.reduceAdd, Nat.reduceLT, Nat.reduceLeDiff, List.not_mem_nil, List.mem_cons, Nat.reduceEqDiff, or_false, or_true, false_or, true_or, Bool.not_true, Bool.not_false, Bool.false_eq_true, reduceIte, Option.bind_eq_bind, Int.reduceAdd, Int.reduceSub, Int.reduceMul, Int.reduceLT, Int.reduceLE, Int.reduceNeg, Int.cast_ofNat_Int, Int.natCast_one, Int.natCast_zero, Int.reduceEq, Int.reduceNe, Int.toNat_natCast, Int.reduceToNat, Int.reducePow, List.isEmpty_nil, List.isEmpty_cons, List.getElem?_cons_succ, List.getElem?_cons_zero, reduceCtorEq, Nat.succ_eq_add_one, Nat.add_zero, Nat.zero_add, and_self, and_true, true_and, decide_true, decide_false, List.reverse_cons, List.reverse_nil, Option.map_eq_map, Bool.not_eq_true, Bool.not_eq_false, Bool.xor_false, Bool.xor_true, Bool.false_xor, Bool.true_xor, Nat.reduceSub, List.dropLast_cons₂, List.dropLast_singleton, decide_eq_true_eq, List.length_map, Nat.zero_le, hsz, il_app, mixed_ok]
  refine ⟨_, rfl, _, fun m hm => ?_, ?_, rfl⟩
  · rcases List.mem_append.mp hm with z | z
    · exact h1 m z
    · simp at z; subst z; exact ⟨Int.emod_nonneg _ (by decide), Int.emod_lt_of_pos _ (by decide)⟩
  · simp; omega
theorem pow18 : opPow (.fr (.int 10)) (.fr (.int 18)) = some (.fr (.int 1000000000000000000)) := by
  rw [opPow_i (by decide) (by decide) (by decide)]; rfl
theorem numbers_ok (ns : List Int) (hn : ns.length ≤ 63) : ∃ ms : List Int, (∀ m ∈ ms, 0 ≤ m ∧ m < 1000000) ∧ law_numbers_sem [.fr (.list (ns.map .int))] = some (.ok (.fr (.list (ms.map .int))) [some (.fr (.list (ns.map .int)))]) := by
  unfold law_numbers_sem law_numbers_b
  have l6 : ∃ ρ', law_numbers_l6 [some (.fr (.list (ns.map .int))), some (.lst (il [])), none, none, none] = some (.nx ρ') ∧ ∃ ms : List Int, (∀ m ∈ ms, 0 ≤ m ∧ m < 1000000) ∧ ms.length + 60 * ([] : List D).length ≤ 3780 ∧ ρ' = [some (.fr (.list (ns.map .int))), some (.lst (il ms)), none, none, none] := by
    unfold law_numbers_l6
    refine for_inv (ds := ns.map .int) (ρ1 := _) (by simp only [gsx_ok, gSi_ap, sxf_ok, sxe_ok, sSetIxE_ap, sx0_ok, sExt0_ap, par3_ok, sPar3_ap, kMt_ap, kLenSet_ap, iRange3_ap, opCount_fr, dat_map, opEq_lists, opEq_2, opNe_bl, opEq_bl, datL_map, sTry_ap, tryR_nx, tryR_rt, tryR_ex, hdl_t, hdl_f, handle_nil, handle_ap, asL_list, asL_map, opSum_fr, opSum_lst, opMin_2, opMax_2, opSl_list, opSl_map, opSl_tup, cutL_map, bnd_ok, bnd_ex, ofR_ok, ofR_ex, SZ_eq, kC_ap, slot_c0, slot_cs, kV_ap, frR_ok, kOk_ap, k1_ap, k2_ap, e1_ap, okR_ok, e2a_ok, e2b_ok, e2a_ex, e2b_ex, e2_ap, eMv_ap, cpk_ok, eCp_ap, eFz_ap, kNil_ap, kCons_ap, eNil_ap, ecb_ok, ecb_ex, eca_ok, eca_ex, eCons_ap, eBor_ap, rT_ok, kCall_ap, rE_ok, rE_ex, rA_ok, eCall_ap, takeA_nil, tkc_ok, takeA_own, takeA_bor, putA_nil, putA_own, putA_bor, allF_nil, allF_cons, tV_ap, tVK_ap, tB_ap, tBK_ap, tNot_ap, tan_t, tan_f, tan_ex, tor_t, tor_f, tor_ex, tAnd_ap, tOr_ap, isB_bl, truth_bl, truth_lst, truth_list, truth_int, ean_t, ean_f, eAnd_ap, eor_t, eor_f, eOr_ap, eNot_ap, ifk_t, ifk_f, ifk_ex, eIf_ap, chk_t, chk_f, kCh_ap, kN_ap, eN_ap, ownsA_nil, ownsA_own, kTup_ap, kLst_ap, eTup_ap, eLst_ap, kIsi_ap, kSl_ap, eSl_ap, parI_ok, kPart_ap, kNoPart_ap, kRev_ap, gN_ap, gTp_tup, gCs_cons, gNl_nil, iIt_ap, items_list, items_tuple, iRange1_ap, rg1_ok, iRange2_ap, rg2_ok, tYesF_ap, nxt_nx, nxt_rt, nxt_ex, nxt_bk, nxt_ct, sSeq_ap, sNil_ap, sBk_ap, sCt_ap, sRaise_ap, sExpr_ap, sRet_ap, sRetN_ap, ifs_t, ifs_f, ifs_ex, sIf_ap, sSet_ap, sTgt_ap, kild_nx, kild_ct, kild_rt, kild_bk, kild_ex, kill_ap, wipe_nil, wipe_cons, app0_ok, isLst_ok, sApp0_ap, sFor_ap, sForE_ap, eLc_ap, back_nil, back_cons, bk1_none, bk1_fr, bk1_lst, endD_rt, endD_nx, endD_ex, semD_1, semD_2, semD_3, semD_4, semD_5, semD_6, semD_7, semD_8, outs_nil, outs_cons, frO_fr, opAdd_i, opAddI_i, opSub_i, opMod_i, opFdiv_i, opMul_r, opMul_l, opPow_i, opEq_i, opNe_i, opLt_i, opGt_i, opLe_i, opGe_i, opNeg_i, opLen_list, opLen_tup, opLen_lst, opIx_list, opIx_tup, opIx_lst, frOp_ap, onlyFr_fr, dat_fr, dat_lst, datL_nil, datL_fr, datL_lst, allFr_nil, allFr_cons, asS_list, asS_tup, opList_ap, opTuple_ap, ixN_nat, atI_0, atI_1, atI_2, atI_3, atI_4, atI_map, atI_int, pV_ap, getAt_ap, getP_nil, getP_ix, setAt_ap, setP_nil, setP_ix, pix_ok, pIx_ap, six_ok, sSetIx_ap, pp0_ok, ePop_ap, par2_ok, sPar_ap, aug1_ok, sAug_ap, opIsN_ap, isNoT_none, isNoT_int, isNoT_list, isNoT_tup, isNoT_lst, typT_fr, typT_lst, typD_none, typD_bool, typD_int, typD_str, typD_list, typD_tuple, isa_NoneType_bool, isa_NoneType_int, isa_NoneType_str, isa_NoneType_list, isa_NoneType_tuple, isa_NoneType_dict, isa_bool_bool, isa_bool_int, isa_bool_str, isa_bool_list, isa_bool_tuple, isa_bool_dict, isa_int_bool, isa_int_int, isa_int_str, isa_int_list, isa_int_tuple, isa_int_dict, isa_str_bool, isa_str_int, isa_str_str, isa_str_list, isa_str_tuple, isa_str_dict, isa_list_bool, isa_list_int, isa_list_str, isa_list_list, isa_list_tuple, isa_list_dict, isa_tuple_bool, isa_tuple_int, isa_tuple_str, isa_tuple_list, isa_tuple_tuple, isa_tuple_dict, isa_dict_bool, isa_dict_int, isa_dict_str, isa_dict_list, isa_dict_tuple, isa_dict_dict, opEq_emp, opEq_fe, opIn_ints, Option.bind_some, Option.map_some, List.map_cons, List.map_nil, List.cons_append, List.nil_append, List.append_nil, List.replicate, List.length_cons, List.length_nil, List.set_cons_succ, List.set_cons_zero, Nat.lt_add_one, if_true, if_false, Nat.reduceAdd, Nat.reduceLT, Nat.reduceLeDiff, List.not_mem_nil, List.mem_cons, Nat.reduceEqDiff, or_false, or_true, false_or, true_or, Bool.not_true, Bool.not_false, Bool.false_eq_true, reduceIte, Option.bind_eq_bind, Int.reduceAdd, Int.reduceSub, Int.reduceMul, Int.reduceLT, Int.reduceLE, Int.reduceNeg, Int.cast_ofNat_Int, Int.natCast_one, Int.natCast_zero, Int.reduceEq, Int.reduceNe, Int.toNat_natCast, Int.reduceToNat, Int.reducePow, List.isEmpty_nil, List.isEmpty_cons, List.getElem?_cons_succ, List.getElem?_cons_zero, reduceCtorEq, Nat.succ_eq_add_one, Nat.add_zero, Nat.zero_add, and_self, and_true, true_and, decide_true, decide_false, List.reverse_cons, List.reverse_nil, Option.map_eq_map, Bool.not_eq_true, Bool.not_eq_false, Bool.xor_false, Bool.xor_true, Bool.false_xor, Bool.true_xor, Nat.reduceSub, List.dropLast_cons₂, List.dropLast_singleton, decide_eq_true_eq, List.length_map, Nat.zero_le]; try rfl) (fun r ρ => ∃ ms : List Int, (∀ m ∈ ms, 0 ≤ m ∧ m < 1000000) ∧ ms.length + 60 * r.length ≤ 3780 ∧ ρ = [some (.fr (.list (ns.map .int))), some (.lst (il ms)), none, none, none]) ⟨[], by simp, by simp; omega, rfl⟩ fun d r ρ hd ⟨ms, h1, h2, e⟩ => ?_
    subst e
    obtain ⟨c, _, rfl⟩ := List.mem_map.mp hd
    simp only [List.length_cons] at h2
    have hsz : (il ms).length < 16777216 := by rw [il_len]; omega
    unfold law_numbers_b5
    by_cases h : c < 1000000000000000000
    · simp (disch := omega) only [gsx_ok, gSi_ap, sxf_ok, sxe_ok, sSetIxE_ap, sx0_ok, sExt0_ap, par3_ok, sPar3_ap, kMt_ap, kLenSet_ap, iRange3_ap, opCount_fr, dat_map, opEq_lists, opEq_2, opNe_bl, opEq_bl, datL_map, sTry_ap, tryR_nx, tryR_rt, tryR_ex, hdl_t, hdl_f, handle_nil, handle_ap, asL_list, asL_map, opSum_fr, opSum_lst, opMin_2, opMax_2, opSl_list, opSl_map, opSl_tup, cutL_map, bnd_ok, bnd_ex, ofR_ok, ofR_ex, SZ_eq, kC_ap, slot_c0, slot_cs, kV_ap, frR_ok, kOk_ap, k1_ap, k2_ap, e1_ap, okR_ok, e2a_ok, e2b_ok, e2a_ex, e2b_ex, e2_ap, eMv_ap, cpk_ok, eCp_ap, eFz_ap, kNil_ap, kCons_ap, eNil_ap, ecb_ok, ecb_ex, eca_ok, eca_ex, eCons_ap, eBor_ap, rT_ok, kCall_ap, rE_ok, rE_ex, rA_ok, eCall_ap, takeA_nil, tkc_ok, takeA_own, takeA_bor, putA_nil, putA_own, putA_bor, allF_nil, allF_cons, tV_ap, tVK_ap, tB_ap, tBK_ap, tNot_ap, tan_t, tan_f, tan_ex, tor_t, tor_f, tor_ex, tAnd_ap, tOr_ap, isB_bl, truth_bl, truth_lst, truth_list, truth_int, ean_t, ean_f, eAnd_ap, eor_t, eor_f, eOr_ap, eNot_ap, ifk_t, ifk_f, ifk_ex, eIf_ap, chk_t, chk_f, kCh_ap, kN_ap, eN_ap, ownsA_nil, ownsA_own, kTup_ap, kLst_ap, eTup_ap, eLst_ap, kIsi_ap, kSl_ap, eSl_ap, parI_ok, kPart_ap, kNoPart_ap, kRev_ap, gN_ap, gTp_tup, gCs_cons, gNl_nil, iIt_ap, items_list, items_tuple, iRange1_ap, rg1_ok, iRange2_ap, rg2_ok, tYesF_ap, nxt_nx, nxt_rt, nxt_ex, nxt_bk, nxt_ct, sSeq_ap, sNil_ap, sBk_ap, sCt_ap, sRaise_ap, sExpr_ap, sRet_ap, sRetN_ap, ifs_t, ifs_f, ifs_ex, sIf_ap, sSet_ap, sTgt_ap, kild_nx, kild_ct, kild_rt, kild_bk, kild_ex, kill_ap, wipe_nil, wipe_cons, app0_ok, isLst_ok, sApp0_ap, sFor_ap, sForE_ap, eLc_ap, back_nil, back_cons, bk1_none, bk1_fr, bk1_lst, endD_rt, endD_nx, endD_ex, semD_1, semD_2, semD_3, semD_4, semD_5, semD_6, semD_7, semD_8, outs_nil, outs_cons, frO_fr, opAdd_i, opAddI_i, opSub_i, opMod_i, opFdiv_i, opMul_r, opMul_l, opPow_i, opEq_i, opNe_i, opLt_i, opGt_i, opLe_i, opGe_i, opNeg_i, opLen_list, opLen_tup, opLen_lst, opIx_list, opIx_tup, opIx_lst, frOp_ap, onlyFr_fr, dat_fr, dat_lst, datL_nil, datL_fr, datL_lst, allFr_nil, allFr_cons, asS_list, asS_tup, opList_ap, opTuple_ap, ixN_nat, atI_0, atI_1, atI_2, atI_3, atI_4, atI_map, atI_int, pV_ap, getAt_ap, getP_nil, getP_ix, setAt_ap, setP_nil, setP_ix, pix_ok, pIx_ap, six_ok, sSetIx_ap, pp0_ok, ePop_ap, par2_ok, sPar_ap, aug1_ok, sAug_ap, opIsN_ap, isNoT_none, isNoT_int, isNoT_list, isNoT_tup, isNoT_lst, typT_fr, typT_lst, typD_none, typD_bool, typD_int, typD_str, typD_list, typD_tuple, isa_NoneType_bool, isa_NoneType_int, isa_NoneType_str, isa_NoneType_list, isa_NoneType_tuple, isa_NoneType_dict, isa_bool_bool, isa_bool_int, isa_bool_str, isa_bool_list, isa_bool_tuple, isa_bool_dict, isa_int_bool, isa_int_int, isa_int_str, isa_int_list, isa_int_tuple, isa_int_dict, isa_str_bool, isa_str_int, isa_str_str, isa_str_list, isa_str_tuple, isa_str_dict, isa_list_bool, isa_list_int, isa_list_str, isa_list_list, isa_list_tuple, isa_list_dict, isa_tuple_bool, isa_tuple_int, isa_tuple_str, isa_tuple_list, isa_tuple_tuple, isa_tuple_dict, isa_dict_bool, isa_dict_int, isa_dict_str, isa_dict_list, isa_dict_tuple, isa_dict_dict, opEq_emp, opEq_fe, opIn_ints, Option.bind_some, Option.map_some, List.map_cons, List.map_nil, List.cons_append, List.nil_append, List.append_nil, List.replicate, List.length_cons, List.length_nil, List.set_cons_succ, List.set_cons_zero, Nat.lt_add_one, if_true, if_false, Nat.reduceAdd, Nat.reduceLT, Nat.reduceLeDiff, List.not_mem_nil, List.mem_cons, Nat.reduceEqDiff, or_false, or_true, false_or, true_or, Bool.not_true, Bool.not_false, Bool.false_eq_true, reduceIte, Option.bind_eq_bind, Int.reduceAdd, Int.reduceSub, Int.reduceMul, Int.reduceLT, Int.reduceLE, Int.reduceNeg, Int.cast_ofNat_Int, Int.natCast_one, Int.natCast_zero, Int.reduceEq, Int.reduceNe, Int.toNat_natCast, Int.reduceToNat, Int.reducePow, List.isEmpty_nil, List.isEmpty_cons, List.getElem?_cons_succ, List.getElem?_cons_zero, reduceCtorEq, Nat.succ_eq_add_one, Nat.add_zero, Nat.zero_add, and_self, and_true, true_and, decide_true, decide_false, List.reverse_cons, List.reverse_nil, Option.map_eq_map, Bool.not_eq_true, Bool.not_eq_false, Bool.xor_false, Bool.xor_true, Bool.false_xor, Bool.true_xor, Nat.reduceSub, List.dropLast_cons₂, List.dropLast_singleton, decide_eq_true_eq, List.length_map, Nat.zero_le, h, hsz, il_app, pow18]
      obtain ⟨ρ', e, ms', h3, h4, rfl⟩ := numbers_l4 (.fr (.list (ns.map .int))) c (ms ++ [c % 1000000]) (fun m hm => by
        rcases List.mem_append.mp hm with z | z
        · exact h1 m z
        · simp at z; subst z; exact ⟨Int.emod_nonneg _ (by decide), Int.emod_lt_of_pos _ (by decide)⟩) (by simp; omega)
      rw [e]
      simp only [gsx_ok, gSi_ap, sxf_ok, sxe_ok, sSetIxE_ap, sx0_ok, sExt0_ap, par3_ok, sPar3_ap, kMt_ap, kLenSet_ap, iRange3_ap, opCount_fr, dat_map, opEq_lists, opEq_2, opNe_bl, opEq_bl, datL_map, sTry_ap, tryR_nx, tryR_rt, tryR_ex, hdl_t, hdl_f, handle_nil, handle_ap, asL_list, asL_map, opSum_fr, opSum_lst, opMin_2, opMax_2, opSl_list, opSl_map, opSl_tup, cutL_map, bnd_ok, bnd_ex, ofR_ok, ofR_ex, SZ_eq, kC_ap, slot_c0, slot_cs, kV_ap, frR_ok, kOk_ap, k1_ap, k2_ap, e1_ap, okR_ok, e2a_ok, e2b_ok, e2a_ex, e2b_ex, e2_ap, eMv_ap, cpk_ok, eCp_ap, eFz_ap, kNil_ap, kCons_ap, eNil_ap, ecb_ok, ecb_ex, eca_ok, eca_ex, eCons_ap, eBor_ap, rT_ok, kCall_ap, rE_ok, rE_ex, rA_ok, eCall_ap, takeA_nil, tkc_ok, takeA_own, takeA_bor, putA_nil, putA_own, putA_bor, allF_nil, allF_cons, tV_ap, tVK_ap, tB_ap, tBK_ap, tNot_ap, tan_t, tan_f, tan_ex, tor_t, tor_f, tor_ex, tAnd_ap, tOr_ap, isB_bl, truth_bl, truth_lst, truth_list, truth_int, ean_t, ean_f, eAnd_ap, eor_t, eor_f, eOr_ap, eNot_ap, ifk_t, ifk_f, ifk_ex, eIf_ap, chk_t, chk_f, kCh_ap, kN_ap, eN_ap, ownsA_nil, ownsA_own, kTup_ap, kLst_ap, eTup_ap, eLst_ap, kIsi_ap, kSl_ap, eSl_ap, parI_ok, kPart_ap, kNoPart_ap, kRev_ap, gN_ap, gTp_tup, gCs_cons, gNl_nil, iIt_ap, items_list, items_tuple, iRange1_ap, rg1_ok, iRange2_ap, rg2_ok, tYesF_ap, nxt_nx, nxt_rt, nxt_ex, nxt_bk, nxt_ct, sSeq_ap, sNil_ap, sBk_ap, sCt_ap, sRaise_ap, sExpr_ap, sRet_ap, sRetN_ap, ifs_t, ifs_f, ifs_ex, sIf_ap, sSet_ap, sTgt_ap, kild_nx, kild_ct, kild_rt, kild_bk, kild_ex, kill_ap, wipe_nil, wipe_cons, app0_ok, isLst_ok, sApp0_ap, sFor_ap, sForE_ap, eLc_ap, back_nil, back_cons, bk1_none, bk1_fr, bk1_lst, endD_rt, endD_nx, endD_ex, semD_1, semD_2, semD_3, semD_4, semD_5, semD_6, semD_7, semD_8, outs_nil, outs_cons, frO_fr, opAdd_i, opAddI_i, opSub_i, opMod_i, opFdiv_i, opMul_r, opMul_l, opPow_i, opEq_i, opNe_i, opLt_i, opGt_i, opLe_i, opGe_i, opNeg_i, opLen_list, opLen_tup, opLen_lst, opIx_list, opIx_tup, opIx_lst, frOp_ap, onlyFr_fr, dat_fr, dat_lst, datL_nil, datL_fr, datL_lst, allFr_nil, allFr_cons, asS_list, asS_tup, opList_ap, opTuple_ap, ixN_nat, atI_0, atI_1, atI_2, atI_3, atI_4, atI_map, atI_int, pV_ap, getAt_ap, getP_nil, getP_ix, setAt_ap, setP_nil, setP_ix, pix_ok, pIx_ap, six_ok, sSetIx_ap, pp0_ok, ePop_ap, par2_ok, sPar_ap, aug1_ok, sAug_ap, opIsN_ap, isNoT_none, isNoT_int, isNoT_list, isNoT_tup, isNoT_lst, typT_fr, typT_lst, typD_none, typD_bool, typD_int, typD_str, typD_list, typD_tuple, isa_NoneType_bool, isa_NoneType_int, isa_NoneType_str, isa_NoneType_list, isa_NoneType_tuple, isa_NoneType_dict, isa_bool_bool, isa_bool_int, isa_bool_str, isa_bool_list, isa_bool_tuple, isa_bool_dict, isa_int_bool, isa_int_int, isa_int_str, isa_int_list, isa_int_tuple, isa_int_dict, isa_str_bool, isa_str_int, isa_str_str, isa_str_list, isa_str_tuple, isa_str_dict, isa_list_bool, isa_list_int, isa_list_str, isa_list_list, isa_list_tuple, isa_list_dict, isa_tuple_bool, isa_tuple_int, isa_tuple_str, isa_tuple_list, isa_tuple_tuple, isa_tuple_dict, isa_dict_bool, isa_dict_int, isa_dict_str, isa_dict_list, isa_dict_tuple, isa_dict_dict, opEq_emp, opEq_fe, opIn_ints, Option.bind_some, Option.map_some, List.map_cons, List.map_nil, List.cons_append, List.nil_append, List.append_nil, List.replicate, List.length_cons, List.length_nil, List.set_cons_succ, List.set_cons_zero, Nat.lt_add_one, if_true, if_false, Nat.reduceAdd, Nat.reduceLT, Nat.reduceLeDiff, List.not_mem_nil, List.mem_cons, Nat.reduceEqDiff, or_false, or_true, false_or, true_or, Bool.not_true, Bool.not_false, Bool.false_eq_true, reduceIte, Option.bind_eq_bind, Int.reduceAdd, Int.reduceSub, Int.reduceMul, Int.reduceLT, Int.reduceLE, Int.reduceNeg, Int.cast_ofNat_Int, Int.natCast_one, Int.natCast_zero, Int.reduceEq, Int.reduceNe, Int.toNat_natCast, Int.reduceToNat, Int.reducePow, List.isEmpty_nil, List.isEmpty_cons, List.getElem?_cons_succ, List.getElem?_cons_zero, reduceCtorEq, Nat.succ_eq_add_one, Nat.add_zero, Nat.zero_add, and_self, and_true, true_and, decide_true, decide_false, List.reverse_cons, List.reverse_nil, Option.map_eq_map, Bool.not_eq_true, Bool.not_eq_false, Bool.xor_false, Bool.xor_true, Bool.false_xor, Bool.true_xor, Nat.reduceSub, List.dropLast_cons₂, List.dropLast_singleton, decide_eq_true_eq, List.length_map, Nat.zero_le]
      simp only [List.length_append, List.length_cons, List.length_nil] at h4
      exact ⟨_, rfl, ms', h3, by omega, rfl⟩
    · simp (disch := omega) only [gsx_ok, gSi_ap, sxf_ok, sxe_ok, sSetIxE_ap, sx0_ok, sExt0_ap, par3_ok, sPar3_ap, kMt_ap, kLenSet_ap, iRange3_ap, opCount_fr, dat_map, opEq_lists, opEq_2, opNe_bl, opEq_bl, datL_map, sTry_ap, tryR_nx, tryR_rt, tryR_ex, hdl_t, hdl_f, handle_nil, handle_ap, asL_list, asL_map, opSum_fr, opSum_lst, opMin_2, opMax_2, opSl_list, opSl_map, opSl_tup, cutL_map, bnd_ok, bnd_ex, ofR_ok, ofR_ex, SZ_eq, kC_ap, slot_c0, slot_cs, kV_ap, frR_ok, kOk_ap, k1_ap, k2_ap, e1_ap, okR_ok, e2a_ok, e2b_ok, e2a_ex, e2b_ex, e2_ap, eMv_ap, cpk_ok, eCp_ap, eFz_ap, kNil_ap, kCons_ap, eNil_ap, ecb_ok, ecb_ex, eca_ok, eca_ex, eCons_ap, eBor_ap, rT_ok, kCall_ap, rE_ok, rE_ex, rA_ok, eCall_ap, takeA_nil, tkc_ok, takeA_own, takeA_bor, putA_nil, putA_own, putA_bor, allF_nil, allF_cons, tV_ap, tVK_ap, tB_ap, tBK_ap, tNot_ap, tan_t, tan_f, tan_ex, tor_t, tor_f, tor_ex, tAnd_ap, tOr_ap, isB_bl, truth_bl, truth_lst, truth_list, truth_int, ean_t, ean_f, eAnd_ap, eor_t, eor_f, eOr_ap, eNot_ap, ifk_t, ifk_f, ifk_ex, eIf_ap, chk_t, chk_f, kCh_ap, kN_ap, eN_ap, ownsA_nil, ownsA_own, kTup_ap, kLst_ap, eTup_ap, eLst_ap, kIsi_ap, kSl_ap, eSl_ap, parI_ok, kPart_ap, kNoPart_ap, kRev_ap, gN_ap, gTp_tup, gCs_cons, gNl_nil, iIt_ap, items_list, items_tuple, iRange1_ap, rg1_ok, iRange2_ap, rg2_ok, tYesF_ap, nxt_nx, nxt_rt, nxt_ex, nxt_bk, nxt_ct, sSeq_ap, sNil_ap, sBk_ap, sCt_ap, sRaise_ap, sExpr_ap, sRet_ap, sRetN_ap, ifs_t, ifs_f, ifs_ex, sIf_ap, sSet_ap, sTgt_ap, kild_nx, kild_ct, kild_rt, kild_bk, kild_ex, kill_ap, wipe_nil, wipe_cons, app0_ok, isLst_ok, sApp0_ap, sFor_ap, sForE_ap, eLc_ap, back_nil, back_cons, bk1_none, bk1_fr, bk1_lst, endD_rt, endD_nx, endD_ex, semD_1, semD_2, semD_3, semD_4, semD_5, semD_6, semD_7, semD_8, outs_nil, outs_cons, frO_fr, opAdd_i, opAddI_i, opSub_i, opMod_i, opFdiv_i, opMul_r, opMul_l, opPow_i, opEq_i, opNe_i, opLt_i, opGt_i, opLe_i, opGe_i, opNeg_i, opLen_list, opLen_tup, opLen_lst, opIx_list, opIx_tup, opIx_lst, frOp_ap, onlyFr_fr, dat_fr, dat_lst, datL_nil, datL_fr, datL_lst, allFr_nil, allFr_cons, asS_list, asS_tup, opList_ap, opTuple_ap, ixN_nat, atI_0, atI_1, atI_2, atI_3, atI_4, atI_map, atI_int, pV_ap, getAt_ap, getP_nil, getP_ix, setAt_ap, setP_nil, setP_ix, pix_ok, pIx_ap, six_ok, sSetIx_ap, pp0_ok, ePop_ap, par2_ok, sPar_ap, aug1_ok, sAug_ap, opIsN_ap, isNoT_none, isNoT_int, isNoT_list, isNoT_tup, isNoT_lst, typT_fr, typT_lst, typD_none, typD_bool, typD_int, typD_str, typD_list, typD_tuple, isa_NoneType_bool, isa_NoneType_int, isa_NoneType_str, isa_NoneType_list, isa_NoneType_tuple, isa_NoneType_dict, isa_bool_bool, isa_bool_int, isa_bool_str, isa_bool_list, isa_bool_tuple, isa_bool_dict, isa_int_bool, isa_int_int, isa_int_str, isa_int_list, isa_int_tuple, isa_int_dict, isa_str_bool, isa_str_int, isa_str_str, isa_str_list, isa_str_tuple, isa_str_dict, isa_list_bool, isa_list_int, isa_list_str, isa_list_list, isa_list_tuple, isa_list_dict, isa_tuple_bool, isa_tuple_int, isa_tuple_str, isa_tuple_list, isa_tuple_tuple, isa_tuple_dict, isa_dict_bool, isa_dict_int, isa_dict_str, isa_dict_list, isa_dict_tuple, isa_dict_dict, opEq_emp, opEq_fe, opIn_ints, Option.bind_some, Option.map_some, List.map_cons, List.map_nil, List.cons_append, List.nil_append, List.append_nil, List.replicate, List.length_cons, List.length_nil, List.set_cons_succ, List.set_cons_zero, Nat.lt_add_one, if_true, if_false, Nat.reduceAdd, Nat.reduceLT, Nat.reduceLeDiff, List.not_mem_nil, List.mem_cons, Nat.reduceEqDiff, or_false, or_true, false_or, true_or, Bool.not_true, Bool.not_false, Bool.false_eq_true, reduceIte, Option.bind_eq_bind, Int.reduceAdd, Int.reduceSub, Int.reduceMul, Int.reduceLT, Int.reduceLE, Int.reduceNeg, Int.cast_ofNat_Int, Int.natCast_one, Int.natCast_zero, Int.reduceEq, Int.reduceNe, Int.toNat_natCast, Int.reduceToNat, Int.reducePow, List.isEmpty_nil, List.isEmpty_cons, List.getElem?_cons_succ, List.getElem?_cons_zero, reduceCtorEq, Nat.succ_eq_add_one, Nat.add_zero, Nat.zero_add, and_self, and_true, true_and, decide_true, decide_false, List.reverse_cons, List.reverse_nil, Option.map_eq_map, Bool.not_eq_true, Bool.not_eq_false, Bool.xor_false, Bool.xor_true, Bool.false_xor, Bool.true_xor, Nat.reduceSub, List.dropLast_cons₂, List.dropLast_singleton, decide_eq_true_eq, List.length_map, Nat.zero_le, h, hsz, il_app, pow18]
      obtain ⟨ρ', e, ms', c', h3, h4, rfl⟩ := numbers_l2 (.fr (.list (ns.map .int))) c ms h1 (by omega)
      rw [e]
      simp only [gsx_ok, gSi_ap, sxf_ok, sxe_ok, sSetIxE_ap, sx0_ok, sExt0_ap, par3_ok, sPar3_ap, kMt_ap, kLenSet_ap, iRange3_ap, opCount_fr, dat_map, opEq_lists, opEq_2, opNe_bl, opEq_bl, datL_map, sTry_ap, tryR_nx, tryR_rt, tryR_ex, hdl_t, hdl_f, handle_nil, handle_ap, asL_list, asL_map, opSum_fr, opSum_lst, opMin_2, opMax_2, opSl_list, opSl_map, opSl_tup, cutL_map, bnd_ok, bnd_ex, ofR_ok, ofR_ex, SZ_eq, kC_ap, slot_c0, slot_cs, kV_ap, frR_ok, kOk_ap, k1_ap, k2_ap, e1_ap, okR_ok, e2a_ok, e2b_ok, e2a_ex, e2b_ex, e2_ap, eMv_ap, cpk_ok, eCp_ap, eFz_ap, kNil_ap, kCons_ap, eNil_ap, ecb_ok, ecb_ex, eca_ok, eca_ex, eCons_ap, eBor_ap, rT_ok, kCall_ap, rE_ok, rE_ex, rA_ok, eCall_ap, takeA_nil, tkc_ok, takeA_own, takeA_bor, putA_nil, putA_own, putA_bor, allF_nil, allF_cons, tV_ap, tVK_ap, tB_ap, tBK_ap, tNot_ap, tan_t, tan_f, tan_ex, tor_t, tor_f, tor_ex, tAnd_ap, tOr_ap, isB_bl, truth_bl, truth_lst, truth_list, truth_int, ean_t, ean_f, eAnd_ap, eor_t, eor_f, eOr_ap, eNot_ap, ifk_t, ifk_f, ifk_ex, eIf_ap, chk_t, chk_f, kCh_ap, kN_ap, eN_ap, ownsA_nil, ownsA_own, kTup_ap, kLst_ap, eTup_ap, eLst_ap, kIsi_ap, kSl_ap, eSl_ap, parI_ok, kPart_ap, kNoPart_ap, kRev_ap, gN_ap, gTp_tup, gCs_cons, gNl_nil, iIt_ap, items_list, items_tuple, iRange1_ap, rg1_ok, iRange2_ap, rg2_ok, tYesF_ap, nxt_nx, nxt_rt, nxt_ex, nxt_bk, nxt_ct, sSeq_ap, sNil_ap, sBk_ap, sCt_ap, sRaise_ap, sExpr_ap, sRet_ap, sRetN_ap, ifs_t, ifs_f, ifs_ex, sIf_ap, sSet_ap, sTgt_ap, kild_nx, kild_ct, kild_rt, kild_bk, kild_ex, kill_ap, wipe_nil, wipe_cons, app0_ok, isLst_ok, sApp0_ap, sFor_ap, sForE_ap, eLc_ap, back_nil, back_cons, bk1_none, bk1_fr, bk1_lst, endD_rt, endD_nx, endD_ex, semD_1, semD_2, semD_3, semD_4, semD_5, semD_6, semD_7, semD_8, outs_nil, outs_cons, frO_fr, opAdd_i, opAddI_i, opSub_i, opMod_i, opFdiv_i, opMul_r, opMul_l, opPow_i, opEq_i, opNe_i, opLt_i, opGt_i, opLe_i, opGe_i, opNeg_i, opLen_list, opLen_tup, opLen_lst, opIx_list, opIx_tup, opIx_lst, frOp_ap, onlyFr_fr, dat_fr, dat_lst, datL_nil, datL_fr, datL_lst, allFr_nil, allFr_cons, asS_list, asS_tup, opList_ap, opTuple_ap, ixN_nat, atI_0, atI_1, atI_2, atI_3, atI_4, atI_map, atI_int, pV_ap, getAt_ap, getP_nil, getP_ix, setAt_ap, setP_nil, setP_ix, pix_ok, pIx_ap, six_ok, sSetIx_ap, pp0_ok, ePop_ap, par2_ok, sPar_ap, aug1_ok, sAug_ap, opIsN_ap, isNoT_none, isNoT_int, isNoT_list, isNoT_tup, isNoT_lst, typT_fr, typT_lst, typD_none, typD_bool, typD_int, typD_str, typD_list, typD_tuple, isa_NoneType_bool, isa_NoneType_int, isa_NoneType_str, isa_NoneType_list, isa_NoneType_tuple, isa_NoneType_dict, isa_bool_bool, isa_bool_int, isa_bool_str, isa_bool_list, isa_bool_tuple, isa_bool_dict, isa_int_bool, isa_int_int, isa_int_str, isa_int_list, isa_int_tuple, isa_int_dict, isa_str_bool, isa_str_int, isa_str_str, isa_str_list, isa_str_tuple, isa_str_dict, isa_list_bool, isa_list_int, isa_list_str, isa_list_list, isa_list_tuple, isa_list_dict, isa_tuple_bool, isa_tuple_int, isa_tuple_str, isa_tuple_list, isa_tuple_tuple, isa_tuple_dict, isa_dict_bool, isa_dict_int, isa_dict_str, isa_dict_list, isa_dict_tuple, isa_dict_dict, opEq_emp, opEq_fe, opIn_ints, Option.bind_some, Option.map_some, List.map_cons, List.map_nil, List.cons_append, List.nil_append, List.append_nil, List.replicate, List.length_cons, List.length_nil, List.set_cons_succ, List.set_cons_zero, Nat.lt_add_one, if_true, if_false, Nat.reduceAdd, Nat.reduceLT, Nat.reduceLeDiff, List.not_mem_nil, List.mem_cons, Nat.reduceEqDiff, or_false, or_true, false_or, true_or, Bool.not_true, Bool.not_false, Bool.false_eq_true, reduceIte, Option.bind_eq_bind, Int.reduceAdd, Int.reduceSub, Int.reduceMul, Int.reduceLT, Int.reduceLE, Int.reduceNeg, Int.cast_ofNat_Int, Int.natCast_one, Int.natCast_zero, Int.reduceEq, Int.reduceNe, Int.toNat_natCast, Int.reduceToNat, Int.reducePow, List.isEmpty_nil, List.isEmpty_cons, List.getElem?_cons_succ, List.getElem?_cons_zero, reduceCtorEq, Nat.succ_eq_add_one, Nat.add_zero, Nat.zero_add, and_self, and_true, true_and, decide_true, decide_false, List.reverse_cons, List.reverse_nil, Option.map_eq_map, Bool.not_eq_true, Bool.not_eq_false, Bool.xor_false, Bool.xor_true, Bool.false_xor, Bool.true_xor, Nat.reduceSub, List.dropLast_cons₂, List.dropLast_singleton, decide_eq_true_eq, List.length_map, Nat.zero_le]
      exact ⟨_, rfl, ms', h3, by omega, rfl⟩
  obtain ⟨ρ', e, ms, h1, _, rfl⟩ := l6
  refine ⟨ms, h1, ?_⟩
  have e0 : T.lst [] = .lst (il []) := rfl
  simp only [gsx_ok, gSi_ap, sxf_ok, sxe_ok, sSetIxE_ap, sx0_ok, sExt0_ap, par3_ok, sPar3_ap, kMt_ap, kLenSet_ap, iRange3_ap, opCount_fr, dat_map, opEq_lists, opEq_2, opNe_bl, opEq_bl, datL_map, sTry_ap, tryR_nx, tryR_rt, tryR_ex, hdl_t, hdl_f, handle_nil, handle_ap, asL_list, asL_map, opSum_fr, opSum_lst, opMin_2, opMax_2, opSl_list, opSl_map, opSl_tup, cutL_map, bnd_ok, bnd_ex, ofR_ok, ofR_ex, SZ_eq, kC_ap, slot_c0, slot_cs, kV_ap, frR_ok, kOk_ap, k1_ap, k2_ap, e1_ap, okR_ok, e2a_ok, e2b_ok, e2a_ex, e2b_ex, e2_ap, eMv_ap, cpk_ok, eCp_ap, eFz_ap, kNil_ap, kCons_ap, eNil_ap, ecb_ok, ecb_ex, eca_ok, eca_ex, eCons_ap, eBor_ap, rT_ok, kCall_ap, rE_ok, rE_ex, rA_ok, eCall_ap, takeA_nil, tkc_ok, takeA_own, takeA_bor, putA_nil, putA_own, putA_bor, allF_nil, allF_cons, tV_ap, tVK_ap, tB_ap, tBK_ap, tNot_ap, tan_t, tan_f, tan_ex, tor_t, tor_f, tor_ex, tAnd_ap, tOr_ap, isB_bl, truth_bl, truth_lst, truth_list, truth_int, ean_t, ean_f, eAnd_ap, eor_t, eor_f, eOr_ap, eNot_ap, ifk_t, ifk_f, ifk_ex, eIf_ap, chk_t, chk_f, kCh_ap, kN_ap, eN_ap, ownsA_nil, ownsA_own, kTup_ap, kLst_ap, eTup_ap, eLst_ap, kIsi_ap, kSl_ap, eSl_ap, parI_ok, kPart_ap, kNoPart_ap, kRev_ap, gN_ap, gTp_tup, gCs_cons, gNl_nil, iIt_ap, items_list, items_tuple, iRange1_ap, rg1_ok, iRange2_ap, rg2_ok, tYesF_ap, nxt_nx, nxt_rt, nxt_ex, nxt_bk, nxt_ct, sSeq_ap, sNil_ap, sBk_ap, sCt_ap, sRaise_ap, sExpr_ap, sRet_ap, sRetN_ap, ifs_t, ifs_f, ifs_ex, sIf_ap, sSet_ap, sTgt_ap, kild_nx, kild_ct, kild_rt, kild_bk, kild_ex, kill_ap, wipe_nil, wipe_cons, app0_ok, isLst_ok, sApp0_ap, sFor_ap, sForE_ap, eLc_ap, back_nil, back_cons, bk1_none, bk1_fr, bk1_lst, endD_rt, endD_nx, endD_ex, semD_1, semD_2, semD_3, semD_4, semD_5, semD_6, semD_7, semD_8, outs_nil, outs_cons, frO_fr, opAdd_i, opAddI_i, opSub_i, opMod_i, opFdiv_i, opMul_r, opMul_l, opPow_i, opEq_i, opNe_i, opLt_i, opGt_i, opLe_i, opGe_i, opNeg_i, opLen_list, opLen_tup, opLen_lst, opIx_list, opIx_tup, opIx_lst, frOp_ap, onlyFr_fr, dat_fr, dat_lst, datL_nil, datL_fr, datL_lst, allFr_nil, allFr_cons, asS_list, asS_tup, opList_ap, opTuple_ap, ixN_nat, atI_0, atI_1, atI_2, atI_3, atI_4, atI_map, atI_int, pV_ap, getAt_ap, getP_nil, getP_ix, setAt_ap, setP_nil, setP_ix, pix_ok, pIx_ap, six_ok, sSetIx_ap, pp0_ok, ePop_ap, par2_ok, sPar_ap, aug1_ok, sAug_ap, opIsN_ap, isNoT_none, isNoT_int, isNoT_list, isNoT_tup, isNoT_lst, typT_fr, typT_lst, typD_none, typD_bool, typD_int, typD_str, typD_list, typD_tuple, isa_NoneType_bool, isa_NoneType_int, isa_NoneType_str, isa_NoneType_list, isa_NoneType_tuple, isa_NoneType_dict, isa_bool_bool, isa_bool_int, isa_bool_str, isa_bool_list, isa_bool_tuple, isa_bool_dict, isa_int_bool, isa_int_int, isa_int_str, isa_int_list, isa_int_tuple, isa_int_dict, isa_str_bool, isa_str_int, isa_str_str, isa_str_list, isa_str_tuple, isa_str_dict, isa_list_bool, isa_list_int, isa_list_str, isa_list_list, isa_list_tuple, isa_list_dict, isa_tuple_bool, isa_tuple_int, isa_tuple_str, isa_tuple_list, isa_tuple_tuple, isa_tuple_dict, isa_dict_bool, isa_dict_int, isa_dict_str, isa_dict_list, isa_dict_tuple, isa_dict_dict, opEq_emp, opEq_fe, opIn_ints, Option.bind_some, Option.map_some, List.map_cons, List.map_nil, List.cons_append, List.nil_append, List.append_nil, List.replicate, List.length_cons, List.length_nil, List.set_cons_succ, List.set_cons_zero, Nat.lt_add_one, if_true, if_false, Nat.reduceAdd, Nat.reduceLT, Nat.reduceLeDiff, List.not_mem_nil, List.mem_cons, Nat.reduceEqDiff, or_false, or_true, false_or, true_or, Bool.not_true, Bool.not_false, Bool.false_eq_true, reduceIte, Option.bind_eq_bind, Int.reduceAdd, Int.reduceSub, Int.reduceMul, Int.reduceLT, Int.reduceLE, Int.reduceNeg, Int.cast_ofNat_Int, Int.natCast_one, Int.natCast_zero, Int.reduceEq, Int.reduceNe, Int.toNat_natCast, Int.reduceToNat, Int.reducePow, List.isEmpty_nil, List.isEmpty_cons, List.getElem?_cons_succ, List.getElem?_cons_zero, reduceCtorEq, Nat.succ_eq_add_one, Nat.add_zero, Nat.zero_add, and_self, and_true, true_and, decide_true, decide_false, List.reverse_cons, List.reverse_nil, Option.map_eq_map, Bool.not_eq_true, Bool.not_eq_false, Bool.xor_false, Bool.xor_true, Bool.false_xor, Bool.true_xor, Nat.reduceSub, List.dropLast_cons₂, List.dropLast_singleton, decide_eq_true_eq, List.length_map, Nat.zero_le, e0, e, il_dat]
def eqb : Nat → D → Bool
  | 0, _ => false
  | n + 1, .list ds => match n with
    | 0 => false
    | m + 1 => ds.all (eqb m) && decide (ds.length ≤ 16777216)
  | n + 1, .tuple ds => match n with
    | 0 => false
    | m + 1 => ds.all (eqb m) && decide (ds.length ≤ 16777216)
  | _ + 1, .dict _ => false
  | _ + 1, _ => true
theorem opEq_self {d : D} (h : okD d = true) : opEq (.fr d) (.fr d) = some (.fr (.bool true)) := by
  show (if okD d = true ∧ okD d = true then (some (PyData.eqv d d)).map fun k => T.fr (.bool k) else none) = _
  rw [if_pos ⟨h, h⟩, PySem.SeqAt.eqv_refl_plain d (by unfold okD at h; simp at h; exact h.1)]; rfl
theorem all_equal_ok {m : Nat} {x : D} {ds : List D} (ih : ∀ d ∈ ds, law_equal_rec m 0 [.fr d, .fr d] = some (.ok (.fr (.bool true)) [some (.fr d), some (.fr d)])) (hl : ds.length ≤ 16777216)
    (hlen : opLen [.fr x] = some (.fr (.int ds.length))) (hix : ∀ k : Int, opIx (.fr x) (.fr (.int k)) = (atI ds k).map .fr) : law_equal_rec (m + 1) 1 [.fr x, .fr x] = some (.ok (.fr (.bool true)) [some (.fr x), some (.fr x)]) := by
  show semD 2 1 [] (law_all_equal_b (law_equal_rec m 0) (law_equal_rec m 1)) [.fr x, .fr x] = _
  unfold law_all_equal_b
  obtain ⟨ρ', e, rfl⟩ : ∃ ρ', law_all_equal_l2 (law_equal_rec m 0) (law_equal_rec m 1) [some (.fr x), some (.fr x), none] = some (.nx ρ') ∧ ρ' = [some (.fr x), some (.fr x), none] := by
    unfold law_all_equal_l2
    refine for_rng (n := ds.length) (ρ1 := [some (.fr x), some (.fr x), none]) ?_ (fun k ρ => ρ = [some (.fr x), some (.fr x), none]) rfl fun k ρ hk e => ?_
    · have h1 : ((ds.length : Nat) : Int) ≤ 16777216 := by omega
      have h2 : (-16777216 : Int) ≤ (ds.length : Nat) := by omega
      simp only [gsx_ok, gSi_ap, sxf_ok, sxe_ok, sSetIxE_ap, sx0_ok, sExt0_ap, par3_ok, sPar3_ap, kMt_ap, kLenSet_ap, iRange3_ap, opCount_fr, dat_map, opEq_lists, opEq_2, opNe_bl, opEq_bl, datL_map, sTry_ap, tryR_nx, tryR_rt, tryR_ex, hdl_t, hdl_f, handle_nil, handle_ap, asL_list, asL_map, opSum_fr, opSum_lst, opMin_2, opMax_2, opSl_list, opSl_map, opSl_tup, cutL_map, bnd_ok, bnd_ex, ofR_ok, ofR_ex, SZ_eq, kC_ap, slot_c0, slot_cs, kV_ap, frR_ok, kOk_ap, k1_ap, k2_ap, e1_ap, okR_ok, e2a_ok, e2b_ok, e2a_ex, e2b_ex, e2_ap, eMv_ap, cpk_ok, eCp_ap, eFz_ap, kNil_ap, kCons_ap, eNil_ap, ecb_ok, ecb_ex, eca_ok, eca_ex, eCons_ap, eBor_ap, rT_ok, kCall_ap, rE_ok, rE_ex, rA_ok, eCall_ap, takeA_nil, tkc_ok, takeA_own, takeA_bor, putA_nil, putA_own, putA_bor, allF_nil, allF_cons, tV_ap, tVK_ap, tB_ap, tBK_ap, tNot_ap, tan_t, tan_f, tan_ex, tor_t, tor_f, tor_ex, tAnd_ap, tOr_ap, isB_bl, truth_bl, truth_lst, truth_list, truth_int, ean_t, ean_f, eAnd_ap, eor_t, eor_f, eOr_ap, eNot_ap, ifk_t, ifk_f, ifk_ex, eIf_ap, chk_t, chk_f, kCh_ap, kN_ap, eN_ap, ownsA_nil, ownsA_own, kTup_ap, kLst_ap, eTup_ap, eLst_ap, kIsi_ap, kSl_ap, eSl_ap, parI_ok, kPart_ap, kNoPart_ap, kRev_ap, gN_ap, gTp_tup, gCs_cons, gNl_nil, iIt_ap, items_list, items_tuple, iRange1_ap, rg1_ok, iRange2_ap, rg2_ok, tYesF_ap, nxt_nx, nxt_rt, nxt_ex, nxt_bk, nxt_ct, sSeq_ap, sNil_ap, sBk_ap, sCt_ap, sRaise_ap, sExpr_ap, sRet_ap, sRetN_ap, ifs_t, ifs_f, ifs_ex, sIf_ap, sSet_ap, sTgt_ap, kild_nx, kild_ct, kild_rt, kild_bk, kild_ex, kill_ap, wipe_nil, wipe_cons, app0_ok, isLst_ok, sApp0_ap, sFor_ap, sForE_ap, eLc_ap, back_nil, back_cons, bk1_none, bk1_fr, bk1_lst, endD_rt, endD_nx, endD_ex, semD_1, semD_2, semD_3, semD_4, semD_5, semD_6, semD_7, semD_8, outs_nil, outs_cons, frO_fr, opAdd_i, opAddI_i, opSub_i, opMod_i, opFdiv_i, opMul_r, opMul_l, opPow_i, opEq_i, opNe_i, opLt_i, opGt_i, opLe_i, opGe_i, opNeg_i, opLen_list, opLen_tup, opLen_lst, opIx_list, opIx_tup, opIx_lst, frOp_ap, onlyFr_fr, dat_fr, dat_lst, datL_nil, datL_fr, datL_lst, allFr_nil, allFr_cons, asS_list, asS_tup, opList_ap, opTuple_ap, ixN_nat, atI_0, atI_1, atI_2, atI_3, atI_4, atI_map, atI_int, pV_ap, getAt_ap, getP_nil, getP_ix, setAt_ap, setP_nil, setP_ix, pix_ok, pIx_ap, six_ok, sSetIx_ap, pp0_ok, ePop_ap, par2_ok, sPar_ap, aug1_ok, sAug_ap, opIsN_ap, isNoT_none, isNoT_int, isNoT_list, isNoT_tup, isNoT_lst, typT_fr, typT_lst, typD_none, typD_bool, typD_int, typD_str, typD_list, typD_tuple, isa_NoneType_bool, isa_NoneType_int, isa_NoneType_str, isa_NoneType_list, isa_NoneType_tuple, isa_NoneType_dict, isa_bool_bool, isa_bool_int, isa_bool_str, isa_bool_list, isa_bool_tuple, isa_bool_dict, isa_int_bool, isa_int_int, isa_int_str, isa_int_list, isa_int_tuple, isa_int_dict, isa_str_bool, isa_str_int, isa_str_str, isa_str_list, isa_str_tuple, isa_str_dict, isa_list_bool, isa_list_int, isa_list_str, isa_list_list, isa_list_tuple, isa_list_dict, isa_tuple_bool, isa_tuple_int, isa_tuple_str, isa_tuple_list, isa_tuple_tuple, isa_tuple_dict, isa_dict_bool, isa_dict_int, isa_dict_str, isa_dict_list, isa_dict_tuple, isa_dict_dict, opEq_emp, opEq_fe, opIn_ints, Option.bind_some, Option.map_some, List.map_cons, List.map_nil, List.cons_append, List.nil_append, List.append_nil, List.replicate, List.length_cons, List.length_nil, List.set_cons_succ, List.set_cons_zero, Nat.lt_add_one, if_true, if_false, Nat.reduceAdd, Nat.reduceLT, Nat.reduceLeDiff, List.not_mem_nil, List.mem_cons, Nat.reduceEqDiff, or_false, or_true, false_or, true_or, Bool.not_true, Bool.not_false, Bool.false_eq_true, reduceIte, Option.bind_eq_bind, Int.reduceAdd, Int.reduceSub, Int.reduceMul, Int.reduceLT, Int.reduceLE, Int.reduceNeg, Int.cast_ofNat_Int, Int.natCast_one, Int.natCast_zero, Int.reduceEq, Int.reduceNe, Int.toNat_natCast, Int.reduceToNat, Int.reducePow, List.isEmpty_nil, List.isEmpty_cons, List.getElem?_cons_succ, List.getElem?_cons_zero, reduceCtorEq, Nat.succ_eq_add_one, Nat.add_zero, Nat.zero_add, and_self, and_true, true_and, decide_true, decide_false, List.reverse_cons, List.reverse_nil, Option.map_eq_map, Bool.not_eq_true, Bool.not_eq_false, Bool.xor_false, Bool.xor_true, Bool.false_xor, Bool.true_xor, Nat.reduceSub, List.dropLast_cons₂, List.dropLast_singleton, decide_eq_true_eq, List.length_map, Nat.zero_le, hlen, h1, h2, Int.toNat_natCast]
    · subst e
      unfold law_all_equal_b1
      have e2 : atI ds (k : Int) = some ds[k] := by
        unfold atI; rw [ixN_nat (by omega) (by omega)]; simp
      simp only [gsx_ok, gSi_ap, sxf_ok, sxe_ok, sSetIxE_ap, sx0_ok, sExt0_ap, par3_ok, sPar3_ap, kMt_ap, kLenSet_ap, iRange3_ap, opCount_fr, dat_map, opEq_lists, opEq_2, opNe_bl, opEq_bl, datL_map, sTry_ap, tryR_nx, tryR_rt, tryR_ex, hdl_t, hdl_f, handle_nil, handle_ap, asL_list, asL_map, opSum_fr, opSum_lst, opMin_2, opMax_2, opSl_list, opSl_map, opSl_tup, cutL_map, bnd_ok, bnd_ex, ofR_ok, ofR_ex, SZ_eq, kC_ap, slot_c0, slot_cs, kV_ap, frR_ok, kOk_ap, k1_ap, k2_ap, e1_ap, okR_ok, e2a_ok, e2b_ok, e2a_ex, e2b_ex, e2_ap, eMv_ap, cpk_ok, eCp_ap, eFz_ap, kNil_ap, kCons_ap, eNil_ap, ecb_ok, ecb_ex, eca_ok, eca_ex, eCons_ap, eBor_ap, rT_ok, kCall_ap, rE_ok, rE_ex, rA_ok, eCall_ap, takeA_nil, tkc_ok, takeA_own, takeA_bor, putA_nil, putA_own, putA_bor, allF_nil, allF_cons, tV_ap, tVK_ap, tB_ap, tBK_ap, tNot_ap, tan_t, tan_f, tan_ex, tor_t, tor_f, tor_ex, tAnd_ap, tOr_ap, isB_bl, truth_bl, truth_lst, truth_list, truth_int, ean_t, ean_f, eAnd_ap, eor_t, eor_f, eOr_ap, eNot_ap, ifk_t, ifk_f, ifk_ex, eIf_ap, chk_t, chk_f, kCh_ap, kN_ap, eN_ap, ownsA_nil, ownsA_own, kTup_ap, kLst_ap, eTup_ap, eLst_ap, kIsi_ap, kSl_ap, eSl_ap, parI_ok, kPart_ap, kNoPart_ap, kRev_ap, gN_ap, gTp_tup, gCs_cons, gNl_nil, iIt_ap, items_list, items_tuple, iRange1_ap, rg1_ok, iRange2_ap, rg2_ok, tYesF_ap, nxt_nx, nxt_rt, nxt_ex, nxt_bk, nxt_ct, sSeq_ap, sNil_ap, sBk_ap, sCt_ap, sRaise_ap, sExpr_ap, sRet_ap, sRetN_ap, ifs_t, ifs_f, ifs_ex, sIf_ap, sSet_ap, sTgt_ap, kild_nx, kild_ct, kild_rt, kild_bk, kild_ex, kill_ap, wipe_nil, wipe_cons, app0_ok, isLst_ok, sApp0_ap, sFor_ap, sForE_ap, eLc_ap, back_nil, back_cons, bk1_none, bk1_fr, bk1_lst, endD_rt, endD_nx, endD_ex, semD_1, semD_2, semD_3, semD_4, semD_5, semD_6, semD_7, semD_8, outs_nil, outs_cons, frO_fr, opAdd_i, opAddI_i, opSub_i, opMod_i, opFdiv_i, opMul_r, opMul_l, opPow_i, opEq_i, opNe_i, opLt_i, opGt_i, opLe_i, opGe_i, opNeg_i, opLen_list, opLen_tup, opLen_lst, opIx_list, opIx_tup, opIx_lst, frOp_ap, onlyFr_fr, dat_fr, dat_lst, datL_nil, datL_fr, datL_lst, allFr_nil, allFr_cons, asS_list, asS_tup, opList_ap, opTuple_ap, ixN_nat, atI_0, atI_1, atI_2, atI_3, atI_4, atI_map, atI_int, pV_ap, getAt_ap, getP_nil, getP_ix, setAt_ap, setP_nil, setP_ix, pix_ok, pIx_ap, six_ok, sSetIx_ap, pp0_ok, ePop_ap, par2_ok, sPar_ap, aug1_ok, sAug_ap, opIsN_ap, isNoT_none, isNoT_int, isNoT_list, isNoT_tup, isNoT_lst, typT_fr, typT_lst, typD_none, typD_bool, typD_int, typD_str, typD_list, typD_tuple, isa_NoneType_bool, isa_NoneType_int, isa_NoneType_str, isa_NoneType_list, isa_NoneType_tuple, isa_NoneType_dict, isa_bool_bool, isa_bool_int, isa_bool_str, isa_bool_list, isa_bool_tuple, isa_bool_dict, isa_int_bool, isa_int_int, isa_int_str, isa_int_list, isa_int_tuple, isa_int_dict, isa_str_bool, isa_str_int, isa_str_str, isa_str_list, isa_str_tuple, isa_str_dict, isa_list_bool, isa_list_int, isa_list_str, isa_list_list, isa_list_tuple, isa_list_dict, isa_tuple_bool, isa_tuple_int, isa_tuple_str, isa_tuple_list, isa_tuple_tuple, isa_tuple_dict, isa_dict_bool, isa_dict_int, isa_dict_str, isa_dict_list, isa_dict_tuple, isa_dict_dict, opEq_emp, opEq_fe, opIn_ints, Option.bind_some, Option.map_some, List.map_cons, List.map_nil, List.cons_append, List.nil_append, List.append_nil, List.replicate, List.length_cons, List.length_nil, List.set_cons_succ, List.set_cons_zero, Nat.lt_add_one, if_true, if_false, Nat.reduceAdd, Nat.reduceLT, Nat.reduceLeDiff, List.not_mem_nil, List.mem_cons, Nat.reduceEqDiff, or_false, or_true, false_or, true_or, Bool.not_true, Bool.not_false, Bool.false_eq_true, reduceIte, Option.bind_eq_bind, Int.reduceAdd, Int.reduceSub, Int.reduceMul, Int.reduceLT, Int.reduceLE, Int.reduceNeg, Int.cast_ofNat_Int, Int.natCast_one, Int.natCast_zero, Int.reduceEq, Int.reduceNe, Int.toNat_natCast, Int.reduceToNat, Int.reducePow, List.isEmpty_nil, List.isEmpty_cons, List.getElem?_cons_succ, List.getElem?_cons_zero, reduceCtorEq, Nat.succ_eq_add_one, Nat.add_zero, Nat.zero_add, and_self, and_true, true_and, decide_true, decide_false, List.reverse_cons, List.reverse_nil, Option.map_eq_map, Bool.not_eq_true, Bool.not_eq_false, Bool.xor_false, Bool.xor_true, Bool.false_xor, Bool.true_xor, Nat.reduceSub, List.dropLast_cons₂, List.dropLast_singleton, decide_eq_true_eq, List.length_map, Nat.zero_le, hix, e2, ih ds[k] (List.getElem_mem hk)]
      exact ⟨_, rfl, rfl⟩
  simp only [gsx_ok, gSi_ap, sxf_ok, sxe_ok, sSetIxE_ap, sx0_ok, sExt0_ap, par3_ok, sPar3_ap, kMt_ap, kLenSet_ap, iRange3_ap, opCount_fr, dat_map, opEq_lists, opEq_2, opNe_bl, opEq_bl, datL_map, sTry_ap, tryR_nx, tryR_rt, tryR_ex, hdl_t, hdl_f, handle_nil, handle_ap, asL_list, asL_map, opSum_fr, opSum_lst, opMin_2, opMax_2, opSl_list, opSl_map, opSl_tup, cutL_map, bnd_ok, bnd_ex, ofR_ok, ofR_ex, SZ_eq, kC_ap, slot_c0, slot_cs, kV_ap, frR_ok, kOk_ap, k1_ap, k2_ap, e1_ap, okR_ok, e2a_ok, e2b_ok, e2a_ex, e2b_ex, e2_ap, eMv_ap, cpk_ok, eCp_ap, eFz_ap, kNil_ap, kCons_ap, eNil_ap, ecb_ok, ecb_ex, eca_ok, eca_ex, eCons_ap, eBor_ap, rT_ok, kCall_ap, rE_ok, rE_ex, rA_ok, eCall_ap, takeA_nil, tkc_ok, takeA_own, takeA_bor, putA_nil, putA_own, putA_bor, allF_nil, allF_cons, tV_ap, tVK_ap, tB_ap, tBK_ap, tNot_ap, tan_t, tan_f, tan_ex, tor_t, tor_f, tor_ex, tAnd_ap, tOr_ap, isB_bl, truth_bl, truth_lst, truth_list, truth_int, ean_t, ean_f, eAnd_ap, eor_t, eor_f, eOr_ap, eNot_ap, ifk_t, ifk_f, ifk_ex, eIf_ap, chk_t, chk_f, kCh_ap, kN_ap, eN_ap, ownsA_nil, ownsA_own, kTup_ap, kLst_ap, eTup_ap, eLst_ap, kIsi_ap, kSl_ap, eSl_ap, parI_ok, kPart_ap, kNoPart_ap, kRev_ap, gN_ap, gTp_tup, gCs_cons, gNl_nil, iIt_ap, items_list, items_tuple, iRange1_ap, rg1_ok, iRange2_ap, rg2_ok, tYesF_ap, nxt_nx, nxt_rt, nxt_ex, nxt_bk, nxt_ct, sSeq_ap, sNil_ap, sBk_ap, sCt_ap, sRaise_ap, sExpr_ap, sRet_ap, sRetN_ap, ifs_t, ifs_f, ifs_ex, sIf_ap, sSet_ap, sTgt_ap, kild_nx, kild_ct, kild_rt, kild_bk, kild_ex, kill_ap, wipe_nil, wipe_cons, app0_ok, isLst_ok, sApp0_ap, sFor_ap, sForE_ap, eLc_ap, back_nil, back_cons, bk1_none, bk1_fr, bk1_lst, endD_rt, endD_nx, endD_ex, semD_1, semD_2, semD_3, semD_4, semD_5, semD_6, semD_7, semD_8, outs_nil, outs_cons, frO_fr, opAdd_i, opAddI_i, opSub_i, opMod_i, opFdiv_i, opMul_r, opMul_l, opPow_i, opEq_i, opNe_i, opLt_i, opGt_i, opLe_i, opGe_i, opNeg_i, opLen_list, opLen_tup, opLen_lst, opIx_list, opIx_tup, opIx_lst, frOp_ap, onlyFr_fr, dat_fr, dat_lst, datL_nil, datL_fr, datL_lst, allFr_nil, allFr_cons, asS_list, asS_tup, opList_ap, opTuple_ap, ixN_nat, atI_0, atI_1, atI_2, atI_3, atI_4, atI_map, atI_int, pV_ap, getAt_ap, getP_nil, getP_ix, setAt_ap, setP_nil, setP_ix, pix_ok, pIx_ap, six_ok, sSetIx_ap, pp0_ok, ePop_ap, par2_ok, sPar_ap, aug1_ok, sAug_ap, opIsN_ap, isNoT_none, isNoT_int, isNoT_list, isNoT_tup, isNoT_lst, typT_fr, typT_lst, typD_none, typD_bool, typD_int, typD_str, typD_list, typD_tuple, isa_NoneType_bool, isa_NoneType_int, isa_NoneType_str, isa_NoneType_list, isa_NoneType_tuple, isa_NoneType_dict, isa_bool_bool, isa_bool_int, isa_bool_str, isa_bool_list, isa_bool_tuple, isa_bool_dict, isa_int_bool, isa_int_int, isa_int_str, isa_int_list, isa_int_tuple, isa_int_dict, isa_str_bool, isa_str_int, isa_str_str, isa_str_list, isa_str_tuple, isa_str_dict, isa_list_bool, isa_list_int, isa_list_str, isa_list_list, isa_list_tuple, isa_list_dict, isa_tuple_bool, isa_tuple_int, isa_tuple_str, isa_tuple_list, isa_tuple_tuple, isa_tuple_dict, isa_dict_bool, isa_dict_int, isa_dict_str, isa_dict_list, isa_dict_tuple, isa_dict_dict, opEq_emp, opEq_fe, opIn_ints, Option.bind_some, Option.map_some, List.map_cons, List.map_nil, List.cons_append, List.nil_append, List.append_nil, List.replicate, List.length_cons, List.length_nil, List.set_cons_succ, List.set_cons_zero, Nat.lt_add_one, if_true, if_false, Nat.reduceAdd, Nat.reduceLT, Nat.reduceLeDiff, List.not_mem_nil, List.mem_cons, Nat.reduceEqDiff, or_false, or_true, false_or, true_or, Bool.not_true, Bool.not_false, Bool.false_eq_true, reduceIte, Option.bind_eq_bind, Int.reduceAdd, Int.reduceSub, Int.reduceMul, Int.reduceLT, Int.reduceLE, Int.reduceNeg, Int.cast_ofNat_Int, Int.natCast_one, Int.natCast_zero, Int.reduceEq, Int.reduceNe, Int.toNat_natCast, Int.reduceToNat, Int.reducePow, List.isEmpty_nil, List.isEmpty_cons, List.getElem?_cons_succ, List.getElem?_cons_zero, reduceCtorEq, Nat.succ_eq_add_one, Nat.add_zero, Nat.zero_add, and_self, and_true, true_and, decide_true, decide_false, List.reverse_cons, List.reverse_nil, Option.map_eq_map, Bool.not_eq_true, Bool.not_eq_false, Bool.xor_false, Bool.xor_true, Bool.false_xor, Bool.true_xor, Nat.reduceSub, List.dropLast_cons₂, List.dropLast_singleton, decide_eq_true_eq, List.length_map, Nat.zero_le, e]
theorem equal_ok : ∀ (n : Nat) (d : D), eqb n d = true → law_equal_rec n 0 [.fr d, .fr d] = some (.ok (.fr (.bool true)) [some (.fr d), some (.fr d)])
  | 0, _, h => by simp [eqb] at h
  | 1, .list ds, h => by simp [eqb] at h
  | 1, .tuple ds, h => by simp [eqb] at h
  | m + 2, .list ds, h => by
    simp only [eqb, Bool.and_eq_true, List.all_eq_true, decide_eq_true_eq] at h
    have e := all_equal_ok (m := m) (x := .list ds) (fun d hd => equal_ok m d (h.1 d hd)) h.2 rfl fun _ => rfl
    show semD 2 0 [] (law_equal_b (law_equal_rec (m + 1) 0) (law_equal_rec (m + 1) 1)) _ = _
    unfold law_equal_b
    simp only [gsx_ok, gSi_ap, sxf_ok, sxe_ok, sSetIxE_ap, sx0_ok, sExt0_ap, par3_ok, sPar3_ap, kMt_ap, kLenSet_ap, iRange3_ap, opCount_fr, dat_map, opEq_lists, opEq_2, opNe_bl, opEq_bl, datL_map, sTry_ap, tryR_nx, tryR_rt, tryR_ex, hdl_t, hdl_f, handle_nil, handle_ap, asL_list, asL_map, opSum_fr, opSum_lst, opMin_2, opMax_2, opSl_list, opSl_map, opSl_tup, cutL_map, bnd_ok, bnd_ex, ofR_ok, ofR_ex, SZ_eq, kC_ap, slot_c0, slot_cs, kV_ap, frR_ok, kOk_ap, k1_ap, k2_ap, e1_ap, okR_ok, e2a_ok, e2b_ok, e2a_ex, e2b_ex, e2_ap, eMv_ap, cpk_ok, eCp_ap, eFz_ap, kNil_ap, kCons_ap, eNil_ap, ecb_ok, ecb_ex, eca_ok, eca_ex, eCons_ap, eBor_ap, rT_ok, kCall_ap, rE_ok, rE_ex, rA_ok, eCall_ap, takeA_nil, tkc_ok, takeA_own, takeA_bor, putA_nil, putA_own, putA_bor, allF_nil, allF_cons, tV_ap, tVK_ap, tB_ap, tBK_ap, tNot_ap, tan_t, tan_f, tan_ex, tor_t, tor_f, tor_ex, tAnd_ap, tOr_ap, isB_bl, truth_bl, truth_lst, truth_list, truth_int, ean_t, ean_f, eAnd_ap, eor_t, eor_f, eOr_ap, eNot_ap, ifk_t, ifk_f, ifk_ex, eIf_ap, chk_t, chk_f, kCh_ap, kN_ap, eN_ap, ownsA_nil, ownsA_own, kTup_ap, kLst_ap, eTup_ap, eLst_ap, kIsi_ap, kSl_ap, eSl_ap, parI_ok, kPart_ap, kNoPart_ap, kRev_ap, gN_ap, gTp_tup, gCs_cons, gNl_nil, iIt_ap, items_list, items_tuple, iRange1_ap, rg1_ok, iRange2_ap, rg2_ok, tYesF_ap, nxt_nx, nxt_rt, nxt_ex, nxt_bk, nxt_ct, sSeq_ap, sNil_ap, sBk_ap, sCt_ap, sRaise_ap, sExpr_ap, sRet_ap, sRetN_ap, ifs_t, ifs_f, ifs_ex, sIf_ap, sSet_ap, sTgt_ap, kild_nx, kild_ct, kild_rt, kild_bk, kild_ex, kill_ap, wipe_nil, wipe_cons, app0_ok, isLst_ok, sApp0_ap, sFor_ap, sForE_ap, eLc_ap, back_nil, back_cons, bk1_none, bk1_fr, bk1_lst, endD_rt, endD_nx, endD_ex, semD_1, semD_2, semD_3, semD_4, semD_5, semD_6, semD_7, semD_8, outs_nil, outs_cons, frO_fr, opAdd_i, opAddI_i, opSub_i, opMod_i, opFdiv_i, opMul_r, opMul_l, opPow_i, opEq_i, opNe_i, opLt_i, opGt_i, opLe_i, opGe_i, opNeg_i, opLen_list, opLen_tup, opLen_lst, opIx_list, opIx_tup, opIx_lst, frOp_ap, onlyFr_fr, dat_fr, dat_lst, datL_nil, datL_fr, datL_lst, allFr_nil, allFr_cons, asS_list, asS_tup, opList_ap, opTuple_ap, ixN_nat, atI_0, atI_1, atI_2, atI_3, atI_4, atI_map, atI_int, pV_ap, getAt_ap, getP_nil, getP_ix, setAt_ap, setP_nil, setP_ix, pix_ok, pIx_ap, six_ok, sSetIx_ap, pp0_ok, ePop_ap, par2_ok, sPar_ap, aug1_ok, sAug_ap, opIsN_ap, isNoT_none, isNoT_int, isNoT_list, isNoT_tup, isNoT_lst, typT_fr, typT_lst, typD_none, typD_bool, typD_int, typD_str, typD_list, typD_tuple, isa_NoneType_bool, isa_NoneType_int, isa_NoneType_str, isa_NoneType_list, isa_NoneType_tuple, isa_NoneType_dict, isa_bool_bool, isa_bool_int, isa_bool_str, isa_bool_list, isa_bool_tuple, isa_bool_dict, isa_int_bool, isa_int_int, isa_int_str, isa_int_list, isa_int_tuple, isa_int_dict, isa_str_bool, isa_str_int, isa_str_str, isa_str_list, isa_str_tuple, isa_str_dict, isa_list_bool, isa_list_int, isa_list_str, isa_list_list, isa_list_tuple, isa_list_dict, isa_tuple_bool, isa_tuple_int, isa_tuple_str, isa_tuple_list, isa_tuple_tuple, isa_tuple_dict, isa_dict_bool, isa_dict_int, isa_dict_str, isa_dict_list, isa_dict_tuple, isa_dict_dict, opEq_emp, opEq_fe, opIn_ints, Option.bind_some, Option.map_some, List.map_cons, List.map_nil, List.cons_append, List.nil_append, List.append_nil, List.replicate, List.length_cons, List.length_nil, List.set_cons_succ, List.set_cons_zero, Nat.lt_add_one, if_true, if_false, Nat.reduceAdd, Nat.reduceLT, Nat.reduceLeDiff, List.not_mem_nil, List.mem_cons, Nat.reduceEqDiff, or_false, or_true, false_or, true_or, Bool.not_true, Bool.not_false, Bool.false_eq_true, reduceIte, Option.bind_eq_bind, Int.reduceAdd, Int.reduceSub, Int.reduceMul, Int.reduceLT, Int.reduceLE, Int.reduceNeg, Int.cast_ofNat_Int, Int.natCast_one, Int.natCast_zero, Int.reduceEq, Int.reduceNe, Int.toNat_natCast, Int.reduceToNat, Int.reducePow, List.isEmpty_nil, List.isEmpty_cons, List.getElem?_cons_succ, List.getElem?_cons_zero, reduceCtorEq, Nat.succ_eq_add_one, Nat.add_zero, Nat.zero_add, and_self, and_true, true_and, decide_true, decide_false, List.reverse_cons, List.reverse_nil, Option.map_eq_map, Bool.not_eq_true, Bool.not_eq_false, Bool.xor_false, Bool.xor_true, Bool.false_xor, Bool.true_xor, Nat.reduceSub, List.dropLast_cons₂, List.dropLast_singleton, decide_eq_true_eq, List.length_map, Nat.zero_le, e]
  | m + 2, .tuple ds, h => by
    simp only [eqb, Bool.and_eq_true, List.all_eq_true, decide_eq_true_eq] at h
    have e := all_equal_ok (m := m) (x := .tuple ds) (fun d hd => equal_ok m d (h.1 d hd)) h.2 rfl fun _ => rfl
    show semD 2 0 [] (law_equal_b (law_equal_rec (m + 1) 0) (law_equal_rec (m + 1) 1)) _ = _
    unfold law_equal_b
    simp only [gsx_ok, gSi_ap, sxf_ok, sxe_ok, sSetIxE_ap, sx0_ok, sExt0_ap, par3_ok, sPar3_ap, kMt_ap, kLenSet_ap, iRange3_ap, opCount_fr, dat_map, opEq_lists, opEq_2, opNe_bl, opEq_bl, datL_map, sTry_ap, tryR_nx, tryR_rt, tryR_ex, hdl_t, hdl_f, handle_nil, handle_ap, asL_list, asL_map, opSum_fr, opSum_lst, opMin_2, opMax_2, opSl_list, opSl_map, opSl_tup, cutL_map, bnd_ok, bnd_ex, ofR_ok, ofR_ex, SZ_eq, kC_ap, slot_c0, slot_cs, kV_ap, frR_ok, kOk_ap, k1_ap, k2_ap, e1_ap, okR_ok, e2a_ok, e2b_ok, e2a_ex, e2b_ex, e2_ap, eMv_ap, cpk_ok, eCp_ap, eFz_ap, kNil_ap, kCons_ap, eNil_ap, ecb_ok, ecb_ex, eca_ok, eca_ex, eCons_ap, eBor_ap, rT_ok, kCall_ap, rE_ok, rE_ex, rA_ok, eCall_ap, takeA_nil, tkc_ok, takeA_own, takeA_bor, putA_nil, putA_own, putA_bor, allF_nil, allF_cons, tV_ap, tVK_ap, tB_ap, tBK_ap, tNot_ap, tan_t, tan_f, tan_ex, tor_t, tor_f, tor_ex, tAnd_ap, tOr_ap, isB_bl, truth_bl, truth_lst, truth_list, truth_int, ean_t, ean_f, eAnd_ap, eor_t, eor_f, eOr_ap, eNot_ap, ifk_t, ifk_f, ifk_ex, eIf_ap, chk_t, chk_f, kCh_ap, kN_ap, eN_ap, ownsA_nil, ownsA_own, kTup_ap, kLst_ap, eTup_ap, eLst_ap, kIsi_ap, kSl_ap, eSl_ap, parI_ok, kPart_ap, kNoPart_ap, kRev_ap, gN_ap, gTp_tup, gCs_cons, gNl_nil, iIt_ap, items_list, items_tuple, iRange1_ap, rg1_ok, iRange2_ap, rg2_ok, tYesF_ap, nxt_nx, nxt_rt, nxt_ex, nxt_bk, nxt_ct, sSeq_ap, sNil_ap, sBk_ap, sCt_ap, sRaise_ap, sExpr_ap, sRet_ap, sRetN_ap, ifs_t, ifs_f, ifs_ex, sIf_ap, sSet_ap, sTgt_ap, kild_nx, kild_ct, kild_rt, kild_bk, kild_ex, kill_ap, wipe_nil, wipe_cons, app0_ok, isLst_ok, sApp0_ap, sFor_ap, sForE_ap, eLc_ap, back_nil, back_cons, bk1_none, bk1_fr, bk1_lst, endD_rt, endD_nx, endD_ex, semD_1, semD_2, semD_3, semD_4, semD_5, semD_6, semD_7, semD_8, outs_nil, outs_cons, frO_fr, opAdd_i, opAddI_i, opSub_i, opMod_i, opFdiv_i, opMul_r, opMul_l, opPow_i, opEq_i, opNe_i, opLt_i, opGt_i, opLe_i, opGe_i, opNeg_i, opLen_list, opLen_tup, opLen_lst, opIx_list, opIx_tup, opIx_lst, frOp_ap, onlyFr_fr, dat_fr, dat_lst, datL_nil, datL_fr, datL_lst, allFr_nil, allFr_cons, asS_list, asS_tup, opList_ap, opTuple_ap, ixN_nat, atI_0, atI_1, atI_2, atI_3, atI_4, atI_map, atI_int, pV_ap, getAt_ap, getP_nil, getP_ix, setAt_ap, setP_nil, setP_ix, pix_ok, pIx_ap, six_ok, sSetIx_ap, pp0_ok, ePop_ap, par2_ok, sPar_ap, aug1_ok, sAug_ap, opIsN_ap, isNoT_none, isNoT_int, isNoT_list, isNoT_tup, isNoT_lst, typT_fr, typT_lst, typD_none, typD_bool, typD_int, typD_str, typD_list, typD_tuple, isa_NoneType_bool, isa_NoneType_int, isa_NoneType_str, isa_NoneType_list, isa_NoneType_tuple, isa_NoneType_dict, isa_bool_bool, isa_bool_int, isa_bool_str, isa_bool_list, isa_bool_tuple, isa_bool_dict, isa_int_bool, isa_int_int, isa_int_str, isa_int_list, isa_int_tuple, isa_int_dict, isa_str_bool, isa_str_int, isa_str_str, isa_str_list, isa_str_tuple, isa_str_dict, isa_list_bool, isa_list_int, isa_list_str, isa_list_list, isa_list_tuple, isa_list_dict, isa_tuple_bool, isa_tuple_int, isa_tuple_str, isa_tuple_list, isa_tuple_tuple, isa_tuple_dict, isa_dict_bool, isa_dict_int, isa_dict_str, isa_dict_list, isa_dict_tuple, isa_dict_dict, opEq_emp, opEq_fe, opIn_ints, Option.bind_some, Option.map_some, List.map_cons, List.map_nil, List.cons_append, List.nil_append, List.append_nil, List.replicate, List.length_cons, List.length_nil, List.set_cons_succ, List.set_cons_zero, Nat.lt_add_one, if_true, if_false, Nat.reduceAdd, Nat.reduceLT, Nat.reduceLeDiff, List.not_mem_nil, List.mem_cons, Nat.reduceEqDiff, or_false, or_true, false_or, true_or, Bool.not_true, Bool.not_false, Bool.false_eq_true, reduceIte, Option.bind_eq_bind, Int.reduceAdd, Int.reduceSub, Int.reduceMul, Int.reduceLT, Int.reduceLE, Int.reduceNeg, Int.cast_ofNat_Int, Int.natCast_one, Int.natCast_zero, Int.reduceEq, Int.reduceNe, Int.toNat_natCast, Int.reduceToNat, Int.reducePow, List.isEmpty_nil, List.isEmpty_cons, List.getElem?_cons_succ, List.getElem?_cons_zero, reduceCtorEq, Nat.succ_eq_add_one, Nat.add_zero, Nat.zero_add, and_self, and_true, true_and, decide_true, decide_false, List.reverse_cons, List.reverse_nil, Option.map_eq_map, Bool.not_eq_true, Bool.not_eq_false, Bool.xor_false, Bool.xor_true, Bool.false_xor, Bool.true_xor, Nat.reduceSub, List.dropLast_cons₂, List.dropLast_singleton, decide_eq_true_eq, List.length_map, Nat.zero_le, e]
  | n + 1, .dict _, h => by simp [eqb] at h
  | n + 1, .none, h => by
    show semD 2 0 [] (law_equal_b (law_equal_rec n 0) (law_equal_rec n 1)) _ = _
    unfold law_equal_b
    simp only [gsx_ok, gSi_ap, sxf_ok, sxe_ok, sSetIxE_ap, sx0_ok, sExt0_ap, par3_ok, sPar3_ap, kMt_ap, kLenSet_ap, iRange3_ap, opCount_fr, dat_map, opEq_lists, opEq_2, opNe_bl, opEq_bl, datL_map, sTry_ap, tryR_nx, tryR_rt, tryR_ex, hdl_t, hdl_f, handle_nil, handle_ap, asL_list, asL_map, opSum_fr, opSum_lst, opMin_2, opMax_2, opSl_list, opSl_map, opSl_tup, cutL_map, bnd_ok, bnd_ex, ofR_ok, ofR_ex, SZ_eq, kC_ap, slot_c0, slot_cs, kV_ap, frR_ok, kOk_ap, k1_ap, k2_ap, e1_ap, okR_ok, e2a_ok, e2b_ok, e2a_ex, e2b_ex, e2_ap, eMv_ap, cpk_ok, eCp_ap, eFz_ap, kNil_ap, kCons_ap, eNil_ap, ecb_ok, ecb_ex, eca_ok, eca_ex, eCons_ap, eBor_ap, rT_ok, kCall_ap, rE_ok, rE_ex, rA_ok, eCall_ap, takeA_nil, tkc_ok, takeA_own, takeA_bor, putA_nil, putA_own, putA_bor, allF_nil, allF_cons, tV_ap, tVK_ap, tB_ap, tBK_ap, tNot_ap, tan_t, tan_f, tan_ex, tor_t, tor_f, tor_ex, tAnd_ap, tOr_ap, isB_bl, truth_bl, truth_lst, truth_list, truth_int, ean_t, ean_f, eAnd_ap, eor_t, eor_f, eOr_ap, eNot_ap, ifk_t, ifk_f, ifk_ex, eIf_ap, chk_t, chk_f, kCh_ap, kN_ap, eN_ap, ownsA_nil, ownsA_own, kTup_ap, kLst_ap, eTup_ap, eLst_ap, kIsi_ap, kSl_ap, eSl_ap, parI_ok, kPart_ap, kNoPart_ap, kRev_ap, gN_ap, gTp_tup, gCs_cons, gNl_nil, iIt_ap, items_list, items_tuple, iRange1_ap, rg1_ok, iRange2_ap, rg2_ok, tYesF_ap, nxt_nx, nxt_rt, nxt_ex, nxt_bk, nxt_ct, sSeq_ap, sNil_ap, sBk_ap, sCt_ap, sRaise_ap, sExpr_ap, sRet_ap, sRetN_ap, ifs_t, ifs_f, ifs_ex, sIf_ap, sSet_ap, sTgt_ap, kild_nx, kild_ct, kild_rt, kild_bk, kild_ex, kill_ap, wipe_nil, wipe_cons, app0_ok, isLst_ok, sApp0_ap, sFor_ap, sForE_ap, eLc_ap, back_nil, back_cons, bk1_none, bk1_fr, bk1_lst, endD_rt, endD_nx, endD_ex, semD_1, semD_2, semD_3, semD_4, semD_5, semD_6, semD_7, semD_8, outs_nil, outs_cons, frO_fr, opAdd_i, opAddI_i, opSub_i, opMod_i, opFdiv_i, opMul_r, opMul_l, opPow_i, opEq_i, opNe_i, opLt_i, opGt_i, opLe_i, opGe_i, opNeg_i, opLen_list, opLen_tup, opLen_lst, opIx_list, opIx_tup, opIx_lst, frOp_ap, onlyFr_fr, dat_fr, dat_lst, datL_nil, datL_fr, datL_lst, allFr_nil, allFr_cons, asS_list, asS_tup, opList_ap, opTuple_ap, ixN_nat, atI_0, atI_1, atI_2, atI_3, atI_4, atI_map, atI_int, pV_ap, getAt_ap, getP_nil, getP_ix, setAt_ap, setP_nil, setP_ix, pix_ok, pIx_ap, six_ok, sSetIx_ap, pp0_ok, ePop_ap, par2_ok, sPar_ap, aug1_ok, sAug_ap, opIsN_ap, isNoT_none, isNoT_int, isNoT_list, isNoT_tup, isNoT_lst, typT_fr, typT_lst, typD_none, typD_bool, typD_int, typD_str, typD_list, typD_tuple, isa_NoneType_bool, isa_NoneType_int, isa_NoneType_str, isa_NoneType_list, isa_NoneType_tuple, isa_NoneType_dict, isa_bool_bool, isa_bool_int, isa_bool_str, isa_bool_list, isa_bool_tuple, isa_bool_dict, isa_int_bool, isa_int_int, isa_int_str, isa_int_list, isa_int_tuple, isa_int_dict, isa_str_bool, isa_str_int, isa_str_str, isa_str_list, isa_str_tuple, isa_str_dict, isa_list_bool, isa_list_int, isa_list_str, isa_list_list, isa_list_tuple, isa_list_dict, isa_tuple_bool, isa_tuple_int, isa_tuple_str, isa_tuple_list, isa_tuple_tuple, isa_tuple_dict, isa_dict_bool, isa_dict_int, isa_dict_str, isa_dict_list, isa_dict_tuple, isa_dict_dict, opEq_emp, opEq_fe, opIn_ints, Option.bind_some, Option.map_some, List.map_cons, List.map_nil, List.cons_append, List.nil_append, List.append_nil, List.replicate, List.length_cons, List.length_nil, List.set_cons_succ, List.set_cons_zero, Nat.lt_add_one, if_true, if_false, Nat.reduceAdd, Nat.reduceLT, Nat.reduceLeDiff, List.not_mem_nil, List.mem_cons, Nat.reduceEqDiff, or_false, or_true, false_or, true_or, Bool.not_true, Bool.not_false, Bool.false_eq_true, reduceIte, Option.bind_eq_bind, Int.reduceAdd, Int.reduceSub, Int.reduceMul, Int.reduceLT, Int.reduceLE, Int.reduceNeg, Int.cast_ofNat_Int, Int.natCast_one, Int.natCast_zero, Int.reduceEq, Int.reduceNe, Int.toNat_natCast, Int.reduceToNat, Int.reducePow, List.isEmpty_nil, List.isEmpty_cons, List.getElem?_cons_succ, List.getElem?_cons_zero, reduceCtorEq, Nat.succ_eq_add_one, Nat.add_zero, Nat.zero_add, and_self, and_true, true_and, decide_true, decide_false, List.reverse_cons, List.reverse_nil, Option.map_eq_map, Bool.not_eq_true, Bool.not_eq_false, Bool.xor_false, Bool.xor_true, Bool.false_xor, Bool.true_xor, Nat.reduceSub, List.dropLast_cons₂, List.dropLast_singleton, decide_eq_true_eq, List.length_map, Nat.zero_le]
  | n + 1, .bool b, h => by
    show semD 2 0 [] (law_equal_b (law_equal_rec n 0) (law_equal_rec n 1)) _ = _
    unfold law_equal_b
    simp only [gsx_ok, gSi_ap, sxf_ok, sxe_ok, sSetIxE_ap, sx0_ok, sExt0_ap, par3_ok, sPar3_ap, kMt_ap, kLenSet_ap, iRange3_ap, opCount_fr, dat_map, opEq_lists, opEq_2, opNe_bl, opEq_bl, datL_map, sTry_ap, tryR_nx, tryR_rt, tryR_ex, hdl_t, hdl_f, handle_nil, handle_ap, asL_list, asL_map, opSum_fr, opSum_lst, opMin_2, opMax_2, opSl_list, opSl_map, opSl_tup, cutL_map, bnd_ok, bnd_ex, ofR_ok, ofR_ex, SZ_eq, kC_ap, slot_c0, slot_cs, kV_ap, frR_ok, kOk_ap, k1_ap, k2_ap, e1_ap, okR_ok, e2a_ok, e2b_ok, e2a_ex, e2b_ex, e2_ap, eMv_ap, cpk_ok, eCp_ap, eFz_ap, kNil_ap, kCons_ap, eNil_ap, ecb_ok, ecb_ex, eca_ok, eca_ex, eCons_ap, eBor_ap, rT_ok, kCall_ap, rE_ok, rE_ex, rA_ok, eCall_ap, takeA_nil, tkc_ok, takeA_own, takeA_bor, putA_nil, putA_own, putA_bor, allF_nil, allF_cons, tV_ap, tVK_ap, tB_ap, tBK_ap, tNot_ap, tan_t, tan_f, tan_ex, tor_t, tor_f, tor_ex, tAnd_ap, tOr_ap, isB_bl, truth_bl, truth_lst, truth_list, truth_int, ean_t, ean_f, eAnd_ap, eor_t, eor_f, eOr_ap, eNot_ap, ifk_t, ifk_f, ifk_ex, eIf_ap, chk_t, chk_f, kCh_ap, kN_ap, eN_ap, ownsA_nil, ownsA_own, kTup_ap, kLst_ap, eTup_ap, eLst_ap, kIsi_ap, kSl_ap, eSl_ap, parI_ok, kPart_ap, kNoPart_ap, kRev_ap, gN_ap, gTp_tup, gCs_cons, gNl_nil, iIt_ap, items_list, items_tuple, iRange1_ap, rg1_ok, iRange2_ap, rg2_ok, tYesF_ap, nxt_nx, nxt_rt, nxt_ex, nxt_bk, nxt_ct, sSeq_ap, sNil_ap, sBk_ap, sCt_ap, sRaise_ap, sExpr_ap, sRet_ap, sRetN_ap, ifs_t, ifs_f, ifs_ex, sIf_ap, sSet_ap, sTgt_ap, kild_nx, kild_ct, kild_rt, kild_bk, kild_ex, kill_ap, wipe_nil, wipe_cons, app0_ok, isLst_ok, sApp0_ap, sFor_ap, sForE_ap, eLc_ap, back_nil, back_cons, bk1_none, bk1_fr, bk1_lst, endD_rt, endD_nx, endD_ex, semD_1, semD_2, semD_3, semD_4, semD_5, semD_6, semD_7, semD_8, outs_nil, outs_cons, frO_fr, opAdd_i, opAddI_i, opSub_i, opMod_i, opFdiv_i, opMul_r, opMul_l, opPow_i, opEq_i, opNe_i, opLt_i, opGt_i, opLe_i, opGe_i, opNeg_i, opLen_list, opLen_tup, opLen_lst, opIx_list, opIx_tup, opIx_lst, frOp_ap, onlyFr_fr, dat_fr, dat_lst, datL_nil, datL_fr, datL_lst, allFr_nil, allFr_cons, asS_list, asS_tup, opList_ap, opTuple_ap, ixN_nat, atI_0, atI_1, atI_2, atI_3, atI_4, atI_map, atI_int, pV_ap, getAt_ap, getP_nil, getP_ix, setAt_ap, setP_nil, setP_ix, pix_ok, pIx_ap, six_ok, sSetIx_ap, pp0_ok, ePop_ap, par2_ok, sPar_ap, aug1_ok, sAug_ap, opIsN_ap, isNoT_none, isNoT_int, isNoT_list, isNoT_tup, isNoT_lst, typT_fr, typT_lst, typD_none, typD_bool, typD_int, typD_str, typD_list, typD_tuple, isa_NoneType_bool, isa_NoneType_int, isa_NoneType_str, isa_NoneType_list, isa_NoneType_tuple, isa_NoneType_dict, isa_bool_bool, isa_bool_int, isa_bool_str, isa_bool_list, isa_bool_tuple, isa_bool_dict, isa_int_bool, isa_int_int, isa_int_str, isa_int_list, isa_int_tuple, isa_int_dict, isa_str_bool, isa_str_int, isa_str_str, isa_str_list, isa_str_tuple, isa_str_dict, isa_list_bool, isa_list_int, isa_list_str, isa_list_list, isa_list_tuple, isa_list_dict, isa_tuple_bool, isa_tuple_int, isa_tuple_str, isa_tuple_list, isa_tuple_tuple, isa_tuple_dict, isa_dict_bool, isa_dict_int, isa_dict_str, isa_dict_list, isa_dict_tuple, isa_dict_dict, opEq_emp, opEq_fe, opIn_ints, Option.bind_some, Option.map_some, List.map_cons, List.map_nil, List.cons_append, List.nil_append, List.append_nil, List.replicate, List.length_cons, List.length_nil, List.set_cons_succ, List.set_cons_zero, Nat.lt_add_one, if_true, if_false, Nat.reduceAdd, Nat.reduceLT, Nat.reduceLeDiff, List.not_mem_nil, List.mem_cons, Nat.reduceEqDiff, or_false, or_true, false_or, true_or, Bool.not_true, Bool.not_false, Bool.false_eq_true, reduceIte, Option.bind_eq_bind, Int.reduceAdd, Int.reduceSub, Int.reduceMul, Int.reduceLT, Int.reduceLE, Int.reduceNeg, Int.cast_ofNat_Int, Int.natCast_one, Int.natCast_zero, Int.reduceEq, Int.reduceNe, Int.toNat_natCast, Int.reduceToNat, Int.reducePow, List.isEmpty_nil, List.isEmpty_cons, List.getElem?_cons_succ, List.getElem?_cons_zero, reduceCtorEq, Nat.succ_eq_add_one, Nat.add_zero, Nat.zero_add, and_self, and_true, true_and, decide_true, decide_false, List.reverse_cons, List.reverse_nil, Option.map_eq_map, Bool.not_eq_true, Bool.not_eq_false, Bool.xor_false, Bool.xor_true, Bool.false_xor, Bool.true_xor, Nat.reduceSub, List.dropLast_cons₂, List.dropLast_singleton, decide_eq_true_eq, List.length_map, Nat.zero_le, opEq_self (show okD (.bool b) = true from rfl)]
  | n + 1, .int b, h => by
    show semD 2 0 [] (law_equal_b (law_equal_rec n 0) (law_equal_rec n 1)) _ = _
    unfold law_equal_b
    simp only [gsx_ok, gSi_ap, sxf_ok, sxe_ok, sSetIxE_ap, sx0_ok, sExt0_ap, par3_ok, sPar3_ap, kMt_ap, kLenSet_ap, iRange3_ap, opCount_fr, dat_map, opEq_lists, opEq_2, opNe_bl, opEq_bl, datL_map, sTry_ap, tryR_nx, tryR_rt, tryR_ex, hdl_t, hdl_f, handle_nil, handle_ap, asL_list, asL_map, opSum_fr, opSum_lst, opMin_2, opMax_2, opSl_list, opSl_map, opSl_tup, cutL_map, bnd_ok, bnd_ex, ofR_ok, ofR_ex, SZ_eq, kC_ap, slot_c0, slot_cs, kV_ap, frR_ok, kOk_ap, k1_ap, k2_ap, e1_ap, okR_ok, e2a_ok, e2b_ok, e2a_ex, e2b_ex, e2_ap, eMv_ap, cpk_ok, eCp_ap, eFz_ap, kNil_ap, kCons_ap, eNil_ap, ecb_ok, ecb_ex, eca_ok, eca_ex, eCons_ap, eBor_ap, rT_ok, kCall_ap, rE_ok, rE_ex, rA_ok, eCall_ap, takeA_nil, tkc_ok, takeA_own, takeA_bor, putA_nil, putA_own, putA_bor, allF_nil, allF_cons, tV_ap, tVK_ap, tB_ap, tBK_ap, tNot_ap, tan_t, tan_f, tan_ex, tor_t, tor_f, tor_ex, tAnd_ap, tOr_ap, isB_bl, truth_bl, truth_lst, truth_list, truth_int, ean_t, ean_f, eAnd_ap, eor_t, eor_f, eOr_ap, eNot_ap, ifk_t, ifk_f, ifk_ex, eIf_ap, chk_t, chk_f, kCh_ap, kN_ap, eN_ap, ownsA_nil, ownsA_own, kTup_ap, kLst_ap, eTup_ap, eLst_ap, kIsi_ap, kSl_ap, eSl_ap, parI_ok, kPart_ap, kNoPart_ap, kRev_ap, gN_ap, gTp_tup, gCs_cons, gNl_nil, iIt_ap, items_list, items_tuple, iRange1_ap, rg1_ok, iRange2_ap, rg2_ok, tYesF_ap, nxt_nx, nxt_rt, nxt_ex, nxt_bk, nxt_ct, sSeq_ap, sNil_ap, sBk_ap, sCt_ap, sRaise_ap, sExpr_ap, sRet_ap, sRetN_ap, ifs_t, ifs_f, ifs_ex, sIf_ap, sSet_ap, sTgt_ap, kild_nx, kild_ct, kild_rt, kild_bk, kild_ex, kill_ap, wipe_nil, wipe_cons, app0_ok, isLst_ok, sApp0_ap, sFor_ap, sForE_ap, eLc_ap, back_nil, back_cons, bk1_none, bk1_fr, bk1_lst, endD_rt, endD_nx, endD_ex, semD_1, semD_2, semD_3, semD_4, semD_5, semD_6, semD_7, semD_8, outs_nil, outs_cons, frO_fr, opAdd_i, opAddI_i, opSub_i, opMod_i, opFdiv_i, opMul_r, opMul_l, opPow_i, opEq_i, opNe_i, opLt_i, opGt_i, opLe_i, opGe_i, opNeg_i, opLen_list, opLen_tup, opLen_lst, opIx_list, opIx_tup, opIx_lst, frOp_ap, onlyFr_fr, dat_fr, dat_lst, datL_nil, datL_fr, datL_lst, allFr_nil, allFr_cons, asS_list, asS_tup, opList_ap, opTuple_ap, ixN_nat, atI_0, atI_1, atI_2, atI_3, atI_4, atI_map, atI_int, pV_ap, getAt_ap, getP_nil, getP_ix, setAt_ap, setP_nil, setP_ix, pix_ok, pIx_ap, six_ok, sSetIx_ap, pp0_ok, ePop_ap, par2_ok, sPar_ap, aug1_ok, sAug_ap, opIsN_ap, isNoT_none, isNoT_int, isNoT_list, isNoT_tup, isNoT_lst, typT_fr, typT_lst, typD_none, typD_bool, typD_int, typD_str, typD_list, typD_tuple, isa_NoneType_bool, isa_NoneType_int, isa_NoneType_str, isa_NoneType_list, isa_NoneType_tuple, isa_NoneType_dict, isa_bool_bool, isa_bool_int, isa_bool_str, isa_bool_list, isa_bool_tuple, isa_bool_dict, isa_int_bool, isa_int_int, isa_int_str, isa_int_list, isa_int_tuple, isa_int_dict, isa_str_bool, isa_str_int, isa_str_str, isa_str_list, isa_str_tuple, isa_str_dict, isa_list_bool, isa_list_int, isa_list_str, isa_list_list, isa_list_tuple, isa_list_dict, isa_tuple_bool, isa_tuple_int, isa_tuple_str, isa_tuple_list, isa_tuple_tuple, isa_tuple_dict, isa_dict_bool, isa_dict_int, isa_dict_str, isa_dict_list, isa_dict_tuple, isa_dict_dict, opEq_emp, opEq_fe, opIn_ints, Option.bind_some, Option.map_some, List.map_cons, List.map_nil, List.cons_append, List.nil_append, List.append_nil, List.replicate, List.length_cons, List.length_nil, List.set_cons_succ, List.set_cons_zero, Nat.lt_add_one, if_true, if_false, Nat.reduceAdd, Nat.reduceLT, Nat.reduceLeDiff, List.not_mem_nil, List.mem_cons, Nat.reduceEqDiff, or_false, or_true, false_or, true_or, Bool.not_true, Bool.not_false, Bool.false_eq_true, reduceIte, Option.bind_eq_bind, Int.reduceAdd, Int.reduceSub, Int.reduceMul, Int.reduceLT, Int.reduceLE, Int.reduceNeg, Int.cast_ofNat_Int, Int.natCast_one, Int.natCast_zero, Int.reduceEq, Int.reduceNe, Int.toNat_natCast, Int.reduceToNat, Int.reducePow, List.isEmpty_nil, List.isEmpty_cons, List.getElem?_cons_succ, List.getElem?_cons_zero, reduceCtorEq, Nat.succ_eq_add_one, Nat.add_zero, Nat.zero_add, and_self, and_true, true_and, decide_true, decide_false, List.reverse_cons, List.reverse_nil, Option.map_eq_map, Bool.not_eq_true, Bool.not_eq_false, Bool.xor_false, Bool.xor_true, Bool.false_xor, Bool.true_xor, Nat.reduceSub, List.dropLast_cons₂, List.dropLast_singleton, decide_eq_true_eq, List.length_map, Nat.zero_le, opEq_self (show okD (.int b) = true from rfl)]
  | n + 1, .str b, h => by
    show semD 2 0 [] (law_equal_b (law_equal_rec n 0) (law_equal_rec n 1)) _ = _
    unfold law_equal_b
    simp only [gsx_ok, gSi_ap, sxf_ok, sxe_ok, sSetIxE_ap, sx0_ok, sExt0_ap, par3_ok, sPar3_ap, kMt_ap, kLenSet_ap, iRange3_ap, opCount_fr, dat_map, opEq_lists, opEq_2, opNe_bl, opEq_bl, datL_map, sTry_ap, tryR_nx, tryR_rt, tryR_ex, hdl_t, hdl_f, handle_nil, handle_ap, asL_list, asL_map, opSum_fr, opSum_lst, opMin_2, opMax_2, opSl_list, opSl_map, opSl_tup, cutL_map, bnd_ok, bnd_ex, ofR_ok, ofR_ex, SZ_eq, kC_ap, slot_c0, slot_cs, kV_ap, frR_ok, kOk_ap, k1_ap, k2_ap, e1_ap, okR_ok, e2a_ok, e2b_ok, e2a_ex, e2b_ex, e2_ap, eMv_ap, cpk_ok, eCp_ap, eFz_ap, kNil_ap, kCons_ap, eNil_ap, ecb_ok, ecb_ex, eca_ok, eca_ex, eCons_ap, eBor_ap, rT_ok, kCall_ap, rE_ok, rE_ex, rA_ok, eCall_ap, takeA_nil, tkc_ok, takeA_own, takeA_bor, putA_nil, putA_own, putA_bor, allF_nil, allF_cons, tV_ap, tVK_ap, tB_ap, tBK_ap, tNot_ap, tan_t, tan_f, tan_ex, tor_t, tor_f, tor_ex, tAnd_ap, tOr_ap, isB_bl, truth_bl, truth_lst, truth_list, truth_int, ean_t, ean_f, eAnd_ap, eor_t, eor_f, eOr_ap, eNot_ap, ifk_t, ifk_f, ifk_ex, eIf_ap, chk_t, chk_f, kCh_ap, kN_ap, eN_ap, ownsA_nil, ownsA_own, kTup_ap, kLst_ap, eTup_ap, eLst_ap, kIsi_ap, kSl_ap, eSl_ap, parI_ok, kPart_ap, kNoPart_ap, kRev_ap, gN_ap, gTp_tup, gCs_cons, gNl_nil, iIt_ap, items_list, items_tuple, iRange1_ap, rg1_ok, iRange2_ap, rg2_ok, tYesF_ap, nxt_nx, nxt_rt, nxt_ex, nxt_bk, nxt_ct, sSeq_ap, sNil_ap, sBk_ap, sCt_ap, sRaise_ap, sExpr_ap, sRet_ap, sRetN_ap, ifs_t, ifs_f, ifs_ex, sIf_ap, sSet_ap, sTgt_ap, kild_nx, kild_ct, kild_rt, kild_bk, kild_ex, kill_ap, wipe_nil, wipe_cons, app0_ok, isLst_ok, sApp0_ap, sFor_ap, sForE_ap, eLc_ap, back_nil, back_cons, bk1_none, bk1_fr, bk1_lst, endD_rt, endD_nx, endD_ex, semD_1, semD_2, semD_3, semD_4, semD_5, semD_6, semD_7, semD_8, outs_nil, outs_cons, frO_fr, opAdd_i, opAddI_i, opSub_i, opMod_i, opFdiv_i, opMul_r, opMul_l, opPow_i, opEq_i, opNe_i, opLt_i, opGt_i, opLe_i, opGe_i, opNeg_i, opLen_list, opLen_tup, opLen_lst, opIx_list, opIx_tup, opIx_lst, frOp_ap, onlyFr_fr, dat_fr, dat_lst, datL_nil, datL_fr, datL_lst, allFr_nil, allFr_cons, asS_list, asS_tup, opList_ap, opTuple_ap, ixN_nat, atI_0, atI_1, atI_2, atI_3, atI_4, atI_map, atI_int, pV_ap, getAt_ap, getP_nil, getP_ix, setAt_ap, setP_nil, setP_ix, pix_ok, pIx_ap, six_ok, sSetIx_ap, pp0_ok, ePop_ap, par2_ok, sPar_ap, aug1_ok, sAug_ap, opIsN_ap, isNoT_none, isNoT_int, isNoT_list, isNoT_tup, isNoT_lst, typT_fr, typT_lst, typD_none, typD_bool, typD_int, typD_str, typD_list, typD_tuple, isa_NoneType_bool, isa_NoneType_int, isa_NoneType_str, isa_NoneType_list, isa_NoneType_tuple, isa_NoneType_dict, isa_bool_bool, isa_bool_int, isa_bool_str, isa_bool_list, isa_bool_tuple, isa_bool_dict, isa_int_bool, isa_int_int, isa_int_str, isa_int_list, isa_int_tuple, isa_int_dict, isa_str_bool, isa_str_int, isa_str_str, isa_str_list, isa_str_tuple, isa_str_dict, isa_list_bool, isa_list_int, isa_list_str, isa_list_list, isa_list_tuple, isa_list_dict, isa_tuple_bool, isa_tuple_int, isa_tuple_str, isa_tuple_list, isa_tuple_tuple, isa_tuple_dict, isa_dict_bool, isa_dict_int, isa_dict_str, isa_dict_list, isa_dict_tuple, isa_dict_dict, opEq_emp, opEq_fe, opIn_ints, Option.bind_some, Option.map_some, List.map_cons, List.map_nil, List.cons_append, List.nil_append, List.append_nil, List.replicate, List.length_cons, List.length_nil, List.set_cons_succ, List.set_cons_zero, Nat.lt_add_one, if_true, if_false, Nat.reduceAdd, Nat.reduceLT, Nat.reduceLeDiff, List.not_mem_nil, List.mem_cons, Nat.reduceEqDiff, or_false, or_true, false_or, true_or, Bool.not_true, Bool.not_false, Bool.false_eq_true, reduceIte, Option.bind_eq_bind, Int.reduceAdd, Int.reduceSub, Int.reduceMul, Int.reduceLT, Int.reduceLE, Int.reduceNeg, Int.cast_ofNat_Int, Int.natCast_one, Int.natCast_zero, Int.reduceEq, Int.reduceNe, Int.toNat_natCast, Int.reduceToNat, Int.reducePow, List.isEmpty_nil, List.isEmpty_cons, List.getElem?_cons_succ, List.getElem?_cons_zero, reduceCtorEq, Nat.succ_eq_add_one, Nat.add_zero, Nat.zero_add, and_self, and_true, true_and, decide_true, decide_false, List.reverse_cons, List.reverse_nil, Option.map_eq_map, Bool.not_eq_true, Bool.not_eq_false, Bool.xor_false, Bool.xor_true, Bool.false_xor, Bool.true_xor, Nat.reduceSub, List.dropLast_cons₂, List.dropLast_singleton, decide_eq_true_eq, List.length_map, Nat.zero_le, opEq_self (show okD (.str b) = true from rfl)]
end K31

namespace K31
open PySem PySem.Spec PyProof.Rows L2 Lv
/-! plain lists -/
def mi (a b : Int) : Int := if b < a then b else a
def F (c t : List Int) : Int := ((List.range 10).map fun i : Nat => mi (c.count (i : Int) : Nat) (t.count (i : Int) : Nat)).sum
theorem sum10 (f : Nat → Int) : ((List.range 10).map f).sum = f 0 + f 1 + f 2 + f 3 + f 4 + f 5 + f 6 + f 7 + f 8 + f 9 := by
  have e : List.range 10 = [0, 1, 2, 3, 4, 5, 6, 7, 8, 9] := rfl
  rw [e]
  simp only [List.map_cons, List.map_nil, List.sum_cons, List.sum_nil]
  omega
theorem bump {f g : Nat → Int} {x : Nat} (hx : x < 10) (h : f x = g x + 1) (ho : ∀ i, i ≠ x → f i = g i) : ((List.range 10).map f).sum = ((List.range 10).map g).sum + 1 := by
  rw [sum10, sum10]
  have : x = 0 ∨ x = 1 ∨ x = 2 ∨ x = 3 ∨ x = 4 ∨ x = 5 ∨ x = 6 ∨ x = 7 ∨ x = 8 ∨ x = 9 := by omega
  have q : ∀ i, f i = g i + (if i = x then 1 else 0) := fun i => by
    by_cases e : i = x
    · subst e; simp [h]
    · simp [e, ho i e]
  rw [q 0, q 1, q 2, q 3, q 4, q 5, q 6, q 7, q 8, q 9]
  rcases this with rfl | rfl | rfl | rfl | rfl | rfl | rfl | rfl | rfl | rfl <;> simp <;> omega
theorem count_all : ∀ {l : List Int}, (∀ x ∈ l, 0 ≤ x ∧ x < 10) → ((List.range 10).map fun i : Nat => ((l.count (i : Int) : Nat) : Int)).sum = l.length
  | [], _ => by rw [sum10]; simp
  | x :: l, h => by
    have hx := h x (by simp)
    have ih := count_all (l := l) fun y hy => h y (by simp [hy])
    rw [bump (g := fun i : Nat => ((l.count (i : Int) : Nat) : Int)) (x := x.toNat) (by omega), ih]
    · simp
    · have : ((x.toNat : Nat) : Int) = x := by omega
      rw [this]; simp
    · intro i hi
      have : x ≠ (i : Int) := fun e => hi (by omega)
      rw [List.count_cons_of_ne this]
def eqs (z : List (Int × Int)) : List (Int × Int) := z.filter fun p => decide (p.1 = p.2)
def nes (z : List (Int × Int)) : List (Int × Int) := z.filter fun p => !decide (p.1 = p.2)
theorem cnt_fst (d : Int) : ∀ z : List (Int × Int), (z.map (·.1)).count d = ((eqs z).map (·.1)).count d + ((nes z).map (·.1)).count d
  | [] => rfl
  | p :: z => by
    have ih := cnt_fst d z
    unfold eqs nes at ih ⊢
    by_cases e : p.1 = p.2
    · simp only [List.filter_cons, e, decide_true, if_true, List.map_cons, List.count_cons, Bool.not_true, Bool.false_eq_true, if_false]; omega
    · simp only [List.filter_cons, e, decide_false, List.map_cons, List.count_cons, Bool.not_false, Bool.false_eq_true, if_false, if_true]; omega
theorem cnt_snd (d : Int) : ∀ z : List (Int × Int), (z.map (·.2)).count d = ((eqs z).map (·.1)).count d + ((nes z).map (·.2)).count d
  | [] => rfl
  | p :: z => by
    have ih := cnt_snd d z
    unfold eqs nes at ih ⊢
    by_cases e : p.1 = p.2
    · simp only [List.filter_cons, e, decide_true, if_true, List.map_cons, List.count_cons, Bool.not_true, Bool.false_eq_true, if_false]; omega
    · simp only [List.filter_cons, e, decide_false, List.map_cons, List.count_cons, Bool.not_false, Bool.false_eq_true, if_false, if_true]; omega
theorem F_split {z : List (Int × Int)} (h : ∀ p ∈ z, 0 ≤ p.1 ∧ p.1 < 10) : F (z.map (·.1)) (z.map (·.2)) = (eqs z).length + F ((nes z).map (·.1)) ((nes z).map (·.2)) := by
  have e1 := count_all (l := (eqs z).map (·.1)) fun x hx => by
    obtain ⟨p, hp, rfl⟩ := List.mem_map.mp hx
    exact h p (List.mem_filter.mp hp).1
  rw [List.length_map] at e1
  rw [← e1]
  unfold F
  have m : ∀ d : Int, mi ((z.map (·.1)).count d : Nat) ((z.map (·.2)).count d : Nat) = (((eqs z).map (·.1)).count d : Nat) + mi (((nes z).map (·.1)).count d : Nat) (((nes z).map (·.2)).count d : Nat) := fun d => by
    rw [cnt_fst, cnt_snd]; unfold mi
    split <;> split <;> omega
  simp only [sum10, m]
  omega
def strike : List Int → List Int → Int
  | [], _ => 0
  | x :: r, t => if x ∈ t then 1 + strike r (t.erase x) else strike r t
theorem strike_F : ∀ {one two : List Int}, (∀ x ∈ one, 0 ≤ x ∧ x < 10) → strike one two = F one two
  | [], two, _ => by
    unfold strike F
    have q : ∀ i : Nat, mi ((([] : List Int).count (i : Int) : Nat) : Int) (two.count (i : Int) : Nat) = 0 := fun i => by
      rw [List.count_nil]; unfold mi
      split <;> omega
    simp only [q, sum10]
    rfl
  | x :: r, two, h => by
    have hx := h x (by simp)
    have hc : ((x.toNat : Nat) : Int) = x := by omega
    unfold strike
    by_cases m : x ∈ two
    · rw [if_pos m, strike_F fun y hy => h y (by simp [hy])]
      unfold F
      rw [bump (f := fun i : Nat => mi ((x :: r).count (i : Int) : Nat) (two.count (i : Int) : Nat)) (g := fun i : Nat => mi (r.count (i : Int) : Nat) ((two.erase x).count (i : Int) : Nat)) (x := x.toNat) (by omega)]
      · omega
      · rw [hc, List.count_cons_self, List.count_erase_self]
        have := List.count_pos_iff.mpr m
        unfold mi
        split <;> split <;> omega
      · intro i hi
        have ne : x ≠ (i : Int) := fun e => hi (by omega)
        rw [List.count_cons_of_ne ne, List.count_erase_of_ne (Ne.symm ne)]
    · rw [if_neg m, strike_F fun y hy => h y (by simp [hy])]
      unfold F
      have q : ∀ i : Nat, mi ((x :: r).count (i : Int) : Nat) (two.count (i : Int) : Nat) = mi (r.count (i : Int) : Nat) (two.count (i : Int) : Nat) := fun i => by
        by_cases e : x = (i : Int)
        · subst e
          rw [List.count_eq_zero_of_not_mem m]
          unfold mi
          split <;> split <;> omega
        · rw [List.count_cons_of_ne e]
      simp only [q]
theorem find_erase (x : Int) : ∀ {t : List Int}, x ∈ t → ∃ j : Nat, j < t.length ∧ ((t.map PyData.int).findIdx? fun z => PyData.eqv z (.int x)) = some j ∧ t.take j ++ t.drop (j + 1) = t.erase x
  | y :: t, h => by
    by_cases e : y = x
    · subst e
      exact ⟨0, by simp, by rw [List.map_cons, List.findIdx?_cons, eqv_int]; simp, by simp⟩
    · have h' : x ∈ t := by
        rcases List.mem_cons.mp h with z | z
        · exact absurd z.symm e
        · exact z
      obtain ⟨j, h1, h2, h3⟩ := find_erase x h'
      refine ⟨j + 1, by simp; omega, ?_, ?_⟩
      · rw [List.map_cons, List.findIdx?_cons, eqv_int]
        simp [e, h2]
      · rw [List.erase_cons_tail (by simpa using e)]
        simp only [List.take_succ_cons, List.drop_succ_cons, List.cons_append, h3]
theorem countP_ints (x : Int) : ∀ t : List Int, ((t.map PyData.int).countP fun z => PyData.eqv z (.int x)) = t.count x
  | [] => rfl
  | y :: t => by
    rw [List.map_cons, List.countP_cons, countP_ints x t, eqv_int, List.count_cons]
    simp
theorem eqv_ints : ∀ {a b : List Int}, PyData.eqvAll (a.map .int) (b.map .int) = decide (a = b)
  | [], [] => by simp [PyData.eqvAll]
  | [], y :: b => by simp [PyData.eqvAll]
  | x :: a, [] => by simp [PyData.eqvAll]
  | x :: a, y :: b => by
    rw [List.map_cons, List.map_cons, PyData.eqvAll, eqv_int, eqv_ints]
    by_cases h : x = y <;> by_cases h2 : a = b <;> simp [h, h2]
end K31

namespace K31
open PySem PySem.Spec PyProof.Rows L2 Lv
theorem is_number_ok (a lo hi : Int) : is_number_sem [.fr (.int a), .fr (.int lo), .fr (.int hi)] = some (.ok (.fr (.bool (decide (lo ≤ a ∧ a ≤ hi)))) [some (.fr (.int a)), some (.fr (.int lo)), some (.fr (.int hi))]) := by
  unfold is_number_sem is_number_b
  by_cases h1 : a < lo
  · have h2 : ¬ (lo ≤ a ∧ a ≤ hi) := by omega
    simp only [gsx_ok, gSi_ap, sxf_ok, sxe_ok, sSetIxE_ap, sx0_ok, sExt0_ap, par3_ok, sPar3_ap, kMt_ap, kLenSet_ap, iRange3_ap, opCount_fr, dat_map, opEq_lists, opEq_2, opNe_bl, opEq_bl, datL_map, sTry_ap, tryR_nx, tryR_rt, tryR_ex, hdl_t, hdl_f, handle_nil, handle_ap, asL_list, asL_map, opSum_fr, opSum_lst, opMin_2, opMax_2, opSl_list, opSl_map, opSl_tup, cutL_map, bnd_ok, bnd_ex, ofR_ok, ofR_ex, SZ_eq, kC_ap, slot_c0, slot_cs, kV_ap, frR_ok, kOk_ap, k1_ap, k2_ap, e1_ap, okR_ok, e2a_ok, e2b_ok, e2a_ex, e2b_ex, e2_ap, eMv_ap, cpk_ok, eCp_ap, eFz_ap, kNil_ap, kCons_ap, eNil_ap, ecb_ok, ecb_ex, eca_ok, eca_ex, eCons_ap, eBor_ap, rT_ok, kCall_ap, rE_ok, rE_ex, rA_ok, eCall_ap, takeA_nil, tkc_ok, takeA_own, takeA_bor, putA_nil, putA_own, putA_bor, allF_nil, allF_cons, tV_ap, tVK_ap, tB_ap, tBK_ap, tNot_ap, tan_t, tan_f, tan_ex, tor_t, tor_f, tor_ex, tAnd_ap, tOr_ap, isB_bl, truth_bl, truth_lst, truth_list, truth_int, ean_t, ean_f, eAnd_ap, eor_t, eor_f, eOr_ap, eNot_ap, ifk_t, ifk_f, ifk_ex, eIf_ap, chk_t, chk_f, kCh_ap, kN_ap, eN_ap, ownsA_nil, ownsA_own, kTup_ap, kLst_ap, eTup_ap, eLst_ap, kIsi_ap, kSl_ap, eSl_ap, parI_ok, kPart_ap, kNoPart_ap, kRev_ap, gN_ap, gTp_tup, gCs_cons, gNl_nil, iIt_ap, items_list, items_tuple, iRange1_ap, rg1_ok, iRange2_ap, rg2_ok, tYesF_ap, nxt_nx, nxt_rt, nxt_ex, nxt_bk, nxt_ct, sSeq_ap, sNil_ap, sBk_ap, sCt_ap, sRaise_ap, sExpr_ap, sRet_ap, sRetN_ap, ifs_t, ifs_f, ifs_ex, sIf_ap, sSet_ap, sTgt_ap, kild_nx, kild_ct, kild_rt, kild_bk, kild_ex, kill_ap, wipe_nil, wipe_cons, app0_ok, isLst_ok, sApp0_ap, sFor_ap, sForE_ap, eLc_ap, back_nil, back_cons, bk1_none, bk1_fr, bk1_lst, endD_rt, endD_nx, endD_ex, semD_1, semD_2, semD_3, semD_4, semD_5, semD_6, semD_7, semD_8, outs_nil, outs_cons, frO_fr, opAdd_i, opAddI_i, opSub_i, opMod_i, opFdiv_i, opMul_r, opMul_l, opPow_i, opEq_i, opNe_i, opLt_i, opGt_i, opLe_i, opGe_i, opNeg_i, opLen_list, opLen_tup, opLen_lst, opIx_list, opIx_tup, opIx_lst, frOp_ap, onlyFr_fr, dat_fr, dat_lst, datL_nil, datL_fr, datL_lst, allFr_nil, allFr_cons, asS_list, asS_tup, opList_ap, opTuple_ap, ixN_nat, atI_0, atI_1, atI_2, atI_3, atI_4, atI_map, atI_int, pV_ap, getAt_ap, getP_nil, getP_ix, setAt_ap, setP_nil, setP_ix, pix_ok, pIx_ap, six_ok, sSetIx_ap, pp0_ok, ePop_ap, par2_ok, sPar_ap, aug1_ok, sAug_ap, opIsN_ap, isNoT_none, isNoT_int, isNoT_list, isNoT_tup, isNoT_lst, typT_fr, typT_lst, typD_none, typD_bool, typD_int, typD_str, typD_list, typD_tuple, isa_NoneType_bool, isa_NoneType_int, isa_NoneType_str, isa_NoneType_list, isa_NoneType_tuple, isa_NoneType_dict, isa_bool_bool, isa_bool_int, isa_bool_str, isa_bool_list, isa_bool_tuple, isa_bool_dict, isa_int_bool, isa_int_int, isa_int_str, isa_int_list, isa_int_tuple, isa_int_dict, isa_str_bool, isa_str_int, isa_str_str, isa_str_list, isa_str_tuple, isa_str_dict, isa_list_bool, isa_list_int, isa_list_str, isa_list_list, isa_list_tuple, isa_list_dict, isa_tuple_bool, isa_tuple_int, isa_tuple_str, isa_tuple_list, isa_tuple_tuple, isa_tuple_dict, isa_dict_bool, isa_dict_int, isa_dict_str, isa_dict_list, isa_dict_tuple, isa_dict_dict, opEq_emp, opEq_fe, opIn_ints, Option.bind_some, Option.map_some, List.map_cons, List.map_nil, List.cons_append, List.nil_append, List.append_nil, List.replicate, List.length_cons, List.length_nil, List.set_cons_succ, List.set_cons_zero, Nat.lt_add_one, if_true, if_false, Nat.reduceAdd, Nat.reduceLT, Nat.reduceLeDiff, List.not_mem_nil, List.mem_cons, Nat.reduceEqDiff, or_false, or_true, false_or, true_or, Bool.not_true, Bool.not_false, Bool.false_eq_true, reduceIte, Option.bind_eq_bind, Int.reduceAdd, Int.reduceSub, Int.reduceMul, Int.reduceLT, Int.reduceLE, Int.reduceNeg, Int.cast_ofNat_Int, Int.natCast_one, Int.natCast_zero, Int.reduceEq, Int.reduceNe, Int.toNat_natCast, Int.reduceToNat, Int.reducePow, List.isEmpty_nil, List.isEmpty_cons, List.getElem?_cons_succ, List.getElem?_cons_zero, reduceCtorEq, Nat.succ_eq_add_one, Nat.add_zero, Nat.zero_add, and_self, and_true, true_and, decide_true, decide_false, List.reverse_cons, List.reverse_nil, Option.map_eq_map, Bool.not_eq_true, Bool.not_eq_false, Bool.xor_false, Bool.xor_true, Bool.false_xor, Bool.true_xor, Nat.reduceSub, List.dropLast_cons₂, List.dropLast_singleton, decide_eq_true_eq, List.length_map, Nat.zero_le, h1, h2]
  · by_cases h3 : hi < a
    · have h2 : ¬ (lo ≤ a ∧ a ≤ hi) := by omega
      simp only [gsx_ok, gSi_ap, sxf_ok, sxe_ok, sSetIxE_ap, sx0_ok, sExt0_ap, par3_ok, sPar3_ap, kMt_ap, kLenSet_ap, iRange3_ap, opCount_fr, dat_map, opEq_lists, opEq_2, opNe_bl, opEq_bl, datL_map, sTry_ap, tryR_nx, tryR_rt, tryR_ex, hdl_t, hdl_f, handle_nil, handle_ap, asL_list, asL_map, opSum_fr, opSum_lst, opMin_2, opMax_2, opSl_list, opSl_map, opSl_tup, cutL_map, bnd_ok, bnd_ex, ofR_ok, ofR_ex, SZ_eq, kC_ap, slot_c0, slot_cs, kV_ap, frR_ok, kOk_ap, k1_ap, k2_ap, e1_ap, okR_ok, e2a_ok, e2b_ok, e2a_ex, e2b_ex, e2_ap, eMv_ap, cpk_ok, eCp_ap, eFz_ap, kNil_ap, kCons_ap, eNil_ap, ecb_ok, ecb_ex, eca_ok, eca_ex, eCons_ap, eBor_ap, rT_ok, kCall_ap, rE_ok, rE_ex, rA_ok, eCall_ap, takeA_nil, tkc_ok, takeA_own, takeA_bor, putA_nil, putA_own, putA_bor, allF_nil, allF_cons, tV_ap, tVK_ap, tB_ap, tBK_ap, tNot_ap, tan_t, tan_f, tan_ex, tor_t, tor_f, tor_ex, tAnd_ap, tOr_ap, isB_bl, truth_bl, truth_lst, truth_list, truth_int, ean_t, ean_f, eAnd_ap, eor_t, eor_f, eOr_ap, eNot_ap, ifk_t, ifk_f, ifk_ex, eIf_ap, chk_t, chk_f, kCh_ap, kN_ap, eN_ap, ownsA_nil, ownsA_own, kTup_ap, kLst_ap, eTup_ap, eLst_ap, kIsi_ap, kSl_ap, eSl_ap, parI_ok, kPart_ap, kNoPart_ap, kRev_ap, gN_ap, gTp_tup, gCs_cons, gNl_nil, iIt_ap, items_list, items_tuple, iRange1_ap, rg1_ok, iRange2_ap, rg2_ok, tYesF_ap, nxt_nx, nxt_rt, nxt_ex, nxt_bk, nxt_ct, sSeq_ap, sNil_ap, sBk_ap, sCt_ap, sRaise_ap, sExpr_ap, sRet_ap, sRetN_ap, ifs_t, ifs_f, ifs_ex, sIf_ap, sSet_ap, sTgt_ap, kild_nx, kild_ct, kild_rt, kild_bk, kild_ex, kill_ap, wipe_nil, wipe_cons, app0_ok, isLst_ok, sApp0_ap, sFor_ap, sForE_ap, eLc_ap, back_nil, back_cons, bk1_none, bk1_fr, bk1_lst, endD_rt, endD_nx, endD_ex, semD_1, semD_2, semD_3, semD_4, semD_5, semD_6, semD_7, semD_8, outs_nil, outs_cons, frO_fr, opAdd_i, opAddI_i, opSub_i, opMod_i, opFdiv_i, opMul_r, opMul_l, opPow_i, opEq_i, opNe_i, opLt_i, opGt_i, opLe_i, opGe_i, opNeg_i, opLen_list, opLen_tup, opLen_lst, opIx_list, opIx_tup, opIx_lst, frOp_ap, onlyFr_fr, dat_fr, dat_lst, datL_nil, datL_fr, datL_lst, allFr_nil, allFr_cons, asS_list, asS_tup, opList_ap, opTuple_ap, ixN_nat, atI_0, atI_1, atI_2, atI_3, atI_4, atI_map, atI_int, pV_ap, getAt_ap, getP_nil, getP_ix, setAt_ap, setP_nil, setP_ix, pix_ok, pIx_ap, six_ok, sSetIx_ap, pp0_ok, ePop_ap, par2_ok, sPar_ap, aug1_ok, sAug_ap, opIsN_ap, isNoT_none, isNoT_int, isNoT_list, isNoT_tup, isNoT_lst, typT_fr, typT_lst, typD_none, typD_bool, typD_int, typD_str, typD_list, typD_tuple, isa_NoneType_bool, isa_NoneType_int, isa_NoneType_str, isa_NoneType_list, isa_NoneType_tuple, isa_NoneType_dict, isa_bool_bool, isa_bool_int, isa_bool_str, isa_bool_list, isa_bool_tuple, isa_bool_dict, isa_int_bool, isa_int_int, isa_int_str, isa_int_list, isa_int_tuple, isa_int_dict, isa_str_bool, isa_str_int, isa_str_str, isa_str_list, isa_str_tuple, isa_str_dict, isa_list_bool, isa_list_int, isa_list_str, isa_list_list, isa_list_tuple, isa_list_dict, isa_tuple_bool, isa_tuple_int, isa_tuple_str, isa_tuple_list, isa_tuple_tuple, isa_tuple_dict, isa_dict_bool, isa_dict_int, isa_dict_str, isa_dict_list, isa_dict_tuple, isa_dict_dict, opEq_emp, opEq_fe, opIn_ints, Option.bind_some, Option.map_some, List.map_cons, List.map_nil, List.cons_append, List.nil_append, List.append_nil, List.replicate, List.length_cons, List.length_nil, List.set_cons_succ, List.set_cons_zero, Nat.lt_add_one, if_true, if_false, Nat.reduceAdd, Nat.reduceLT, Nat.reduceLeDiff, List.not_mem_nil, List.mem_cons, Nat.reduceEqDiff, or_false, or_true, false_or, true_or, Bool.not_true, Bool.not_false, Bool.false_eq_true, reduceIte, Option.bind_eq_bind, Int.reduceAdd, Int.reduceSub, Int.reduceMul, Int.reduceLT, Int.reduceLE, Int.reduceNeg, Int.cast_ofNat_Int, Int.natCast_one, Int.natCast_zero, Int.reduceEq, Int.reduceNe, Int.toNat_natCast, Int.reduceToNat, Int.reducePow, List.isEmpty_nil, List.isEmpty_cons, List.getElem?_cons_succ, List.getElem?_cons_zero, reduceCtorEq, Nat.succ_eq_add_one, Nat.add_zero, Nat.zero_add, and_self, and_true, true_and, decide_true, decide_false, List.reverse_cons, List.reverse_nil, Option.map_eq_map, Bool.not_eq_true, Bool.not_eq_false, Bool.xor_false, Bool.xor_true, Bool.false_xor, Bool.true_xor, Nat.reduceSub, List.dropLast_cons₂, List.dropLast_singleton, decide_eq_true_eq, List.length_map, Nat.zero_le, h1, h2, h3]
    · have h2 : lo ≤ a ∧ a ≤ hi := by omega
      simp only [gsx_ok, gSi_ap, sxf_ok, sxe_ok, sSetIxE_ap, sx0_ok, sExt0_ap, par3_ok, sPar3_ap, kMt_ap, kLenSet_ap, iRange3_ap, opCount_fr, dat_map, opEq_lists, opEq_2, opNe_bl, opEq_bl, datL_map, sTry_ap, tryR_nx, tryR_rt, tryR_ex, hdl_t, hdl_f, handle_nil, handle_ap, asL_list, asL_map, opSum_fr, opSum_lst, opMin_2, opMax_2, opSl_list, opSl_map, opSl_tup, cutL_map, bnd_ok, bnd_ex, ofR_ok, ofR_ex, SZ_eq, kC_ap, slot_c0, slot_cs, kV_ap, frR_ok, kOk_ap, k1_ap, k2_ap, e1_ap, okR_ok, e2a_ok, e2b_ok, e2a_ex, e2b_ex, e2_ap, eMv_ap, cpk_ok, eCp_ap, eFz_ap, kNil_ap, kCons_ap, eNil_ap, ecb_ok, ecb_ex, eca_ok, eca_ex, eCons_ap, eBor_ap, rT_ok, kCall_ap, rE_ok, rE_ex, rA_ok, eCall_ap, takeA_nil, tkc_ok, takeA_own, takeA_bor, putA_nil, putA_own, putA_bor, allF_nil, allF_cons, tV_ap, tVK_ap, tB_ap, tBK_ap, tNot_ap, tan_t, tan_f, tan_ex, tor_t, tor_f, tor_ex, tAnd_ap, tOr_ap, isB_bl, truth_bl, truth_lst, truth_list, truth_int, ean_t, ean_f, eAnd_ap, eor_t, eor_f, eOr_ap, eNot_ap, ifk_t, ifk_f, ifk_ex, eIf_ap, chk_t, chk_f, kCh_ap, kN_ap, eN_ap, ownsA_nil, ownsA_own, kTup_ap, kLst_ap, eTup_ap, eLst_ap, kIsi_ap, kSl_ap, eSl_ap, parI_ok, kPart_ap, kNoPart_ap, kRev_ap, gN_ap, gTp_tup, gCs_cons, gNl_nil, iIt_ap, items_list, items_tuple, iRange1_ap, rg1_ok, iRange2_ap, rg2_ok, tYesF_ap, nxt_nx, nxt_rt, nxt_ex, nxt_bk, nxt_ct, sSeq_ap, sNil_ap, sBk_ap, sCt_ap, sRaise_ap, sExpr_ap, sRet_ap, sRetN_ap, ifs_t, ifs_f, ifs_ex, sIf_ap, sSet_ap, sTgt_ap, kild_nx, kild_ct, kild_rt, kild_bk, kild_ex, kill_ap, wipe_nil, wipe_cons, app0_ok, isLst_ok, sApp0_ap, sFor_ap, sForE_ap, eLc_ap, back_nil, back_cons, bk1_none, bk1_fr, bk1_lst, endD_rt, endD_nx, endD_ex, semD_1, semD_2, semD_3, semD_4, semD_5, semD_6, semD_7, semD_8, outs_nil, outs_cons, frO_fr, opAdd_i, opAddI_i, opSub_i, opMod_i, opFdiv_i, opMul_r, opMul_l, opPow_i, opEq_i, opNe_i, opLt_i, opGt_i, opLe_i, opGe_i, opNeg_i, opLen_list, opLen_tup, opLen_lst, opIx_list, opIx_tup, opIx_lst, frOp_ap, onlyFr_fr, dat_fr, dat_lst, datL_nil, datL_fr, datL_lst, allFr_nil, allFr_cons, asS_list, asS_tup, opList_ap, opTuple_ap, ixN_nat, atI_0, atI_1, atI_2, atI_3, atI_4, atI_map, atI_int, pV_ap, getAt_ap, getP_nil, getP_ix, setAt_ap, setP_nil, setP_ix, pix_ok, pIx_ap, six_ok, sSetIx_ap, pp0_ok, ePop_ap, par2_ok, sPar_ap, aug1_ok, sAug_ap, opIsN_ap, isNoT_none, isNoT_int, isNoT_list, isNoT_tup, isNoT_lst, typT_fr, typT_lst, typD_none, typD_bool, typD_int, typD_str, typD_list, typD_tuple, isa_NoneType_bool, isa_NoneType_int, isa_NoneType_str, isa_NoneType_list, isa_NoneType_tuple, isa_NoneType_dict, isa_bool_bool, isa_bool_int, isa_bool_str, isa_bool_list, isa_bool_tuple, isa_bool_dict, isa_int_bool, isa_int_int, isa_int_str, isa_int_list, isa_int_tuple, isa_int_dict, isa_str_bool, isa_str_int, isa_str_str, isa_str_list, isa_str_tuple, isa_str_dict, isa_list_bool, isa_list_int, isa_list_str, isa_list_list, isa_list_tuple, isa_list_dict, isa_tuple_bool, isa_tuple_int, isa_tuple_str, isa_tuple_list, isa_tuple_tuple, isa_tuple_dict, isa_dict_bool, isa_dict_int, isa_dict_str, isa_dict_list, isa_dict_tuple, isa_dict_dict, opEq_emp, opEq_fe, opIn_ints, Option.bind_some, Option.map_some, List.map_cons, List.map_nil, List.cons_append, List.nil_append, List.append_nil, List.replicate, List.length_cons, List.length_nil, List.set_cons_succ, List.set_cons_zero, Nat.lt_add_one, if_true, if_false, Nat.reduceAdd, Nat.reduceLT, Nat.reduceLeDiff, List.not_mem_nil, List.mem_cons, Nat.reduceEqDiff, or_false, or_true, false_or, true_or, Bool.not_true, Bool.not_false, Bool.false_eq_true, reduceIte, Option.bind_eq_bind, Int.reduceAdd, Int.reduceSub, Int.reduceMul, Int.reduceLT, Int.reduceLE, Int.reduceNeg, Int.cast_ofNat_Int, Int.natCast_one, Int.natCast_zero, Int.reduceEq, Int.reduceNe, Int.toNat_natCast, Int.reduceToNat, Int.reducePow, List.isEmpty_nil, List.isEmpty_cons, List.getElem?_cons_succ, List.getElem?_cons_zero, reduceCtorEq, Nat.succ_eq_add_one, Nat.add_zero, Nat.zero_add, and_self, and_true, true_and, decide_true, decide_false, List.reverse_cons, List.reverse_nil, Option.map_eq_map, Bool.not_eq_true, Bool.not_eq_false, Bool.xor_false, Bool.xor_true, Bool.false_xor, Bool.true_xor, Nat.reduceSub, List.dropLast_cons₂, List.dropLast_singleton, decide_eq_true_eq, List.length_map, Nat.zero_le, h1, h2, h3]
/-- what is within a list's bounds, and what isn't -/
def okDig (b : Int) : D → Bool
  | .int k => decide (0 ≤ k ∧ k ≤ b - 1)
  | _ => false
theorem is_digit (d : D) (b : Int) (hd : ∀ x, d ≠ .dict x) : ∃ os, is_number_sem [.fr d, .fr (.int 0), .fr (.int (b - 1))] = some (.ok (.fr (.bool (okDig b d))) os) := by
  cases d with
  | int k => exact ⟨_, is_number_ok k 0 (b - 1)⟩
  | none => exact ⟨_, by unfold is_number_sem is_number_b; simp only [gsx_ok, gSi_ap, sxf_ok, sxe_ok, sSetIxE_ap, sx0_ok, sExt0_ap, par3_ok, sPar3_ap, kMt_ap, kLenSet_ap, iRange3_ap, opCount_fr, dat_map, opEq_lists, opEq_2, opNe_bl, opEq_bl, datL_map, sTry_ap, tryR_nx, tryR_rt, tryR_ex, hdl_t, hdl_f, handle_nil, handle_ap, asL_list, asL_map, opSum_fr, opSum_lst, opMin_2, opMax_2, opSl_list, opSl_map, opSl_tup, cutL_map, bnd_ok, bnd_ex, ofR_ok, ofR_ex, SZ_eq, kC_ap, slot_c0, slot_cs, kV_ap, frR_ok, kOk_ap, k1_ap, k2_ap, e1_ap, okR_ok, e2a_ok, e2b_ok, e2a_ex, e2b_ex, e2_ap, eMv_ap, cpk_ok, eCp_ap, eFz_ap, kNil_ap, kCons_ap, eNil_ap, ecb_ok, ecb_ex, eca_ok, eca_ex, eCons_ap, eBor_ap, rT_ok, kCall_ap, rE_ok, rE_ex, rA_ok, eCall_ap, takeA_nil, tkc_ok, takeA_own, takeA_bor, putA_nil, putA_own, putA_bor, allF_nil, allF_cons, tV_ap, tVK_ap, tB_ap, tBK_ap, tNot_ap, tan_t, tan_f, tan_ex, tor_t, tor_f, tor_ex, tAnd_ap, tOr_ap, isB_bl, truth_bl, truth_lst, truth_list, truth_int, ean_t, ean_f, eAnd_ap, eor_t, eor_f, eOr_ap, eNot_ap, ifk_t, ifk_f, ifk_ex, eIf_ap, chk_t, chk_f, kCh_ap, kN_ap, eN_ap, ownsA_nil, ownsA_own, kTup_ap, kLst_ap, eTup_ap, eLst_ap, kIsi_ap, kSl_ap, eSl_ap, parI_ok, kPart_ap, kNoPart_ap, kRev_ap, gN_ap, gTp_tup, gCs_cons, gNl_nil, iIt_ap, items_list, items_tuple, iRange1_ap, rg1_ok, iRange2_ap, rg2_ok, tYesF_ap, nxt_nx, nxt_rt, nxt_ex, nxt_bk, nxt_ct, sSeq_ap, sNil_ap, sBk_ap, sCt_ap, sRaise_ap, sExpr_ap, sRet_ap, sRetN_ap, ifs_t, ifs_f, ifs_ex, sIf_ap, sSet_ap, sTgt_ap, kild_nx, kild_ct, kild_rt, kild_bk, kild_ex, kill_ap, wipe_nil, wipe_cons, app0_ok, isLst_ok, sApp0_ap, sFor_ap, sForE_ap, eLc_ap, back_nil, back_cons, bk1_none, bk1_fr, bk1_lst, endD_rt, endD_nx, endD_ex, semD_1, semD_2, semD_3, semD_4, semD_5, semD_6, semD_7, semD_8, outs_nil, outs_cons, frO_fr, opAdd_i, opAddI_i, opSub_i, opMod_i, opFdiv_i, opMul_r, opMul_l, opPow_i, opEq_i, opNe_i, opLt_i, opGt_i, opLe_i, opGe_i, opNeg_i, opLen_list, opLen_tup, opLen_lst, opIx_list, opIx_tup, opIx_lst, frOp_ap, onlyFr_fr, dat_fr, dat_lst, datL_nil, datL_fr, datL_lst, allFr_nil, allFr_cons, asS_list, asS_tup, opList_ap, opTuple_ap, ixN_nat, atI_0, atI_1, atI_2, atI_3, atI_4, atI_map, atI_int, pV_ap, getAt_ap, getP_nil, getP_ix, setAt_ap, setP_nil, setP_ix, pix_ok, pIx_ap, six_ok, sSetIx_ap, pp0_ok, ePop_ap, par2_ok, sPar_ap, aug1_ok, sAug_ap, opIsN_ap, isNoT_none, isNoT_int, isNoT_list, isNoT_tup, isNoT_lst, typT_fr, typT_lst, typD_none, typD_bool, typD_int, typD_str, typD_list, typD_tuple, isa_NoneType_bool, isa_NoneType_int, isa_NoneType_str, isa_NoneType_list, isa_NoneType_tuple, isa_NoneType_dict, isa_bool_bool, isa_bool_int, isa_bool_str, isa_bool_list, isa_bool_tuple, isa_bool_dict, isa_int_bool, isa_int_int, isa_int_str, isa_int_list, isa_int_tuple, isa_int_dict, isa_str_bool, isa_str_int, isa_str_str, isa_str_list, isa_str_tuple, isa_str_dict, isa_list_bool, isa_list_int, isa_list_str, isa_list_list, isa_list_tuple, isa_list_dict, isa_tuple_bool, isa_tuple_int, isa_tuple_str, isa_tuple_list, isa_tuple_tuple, isa_tuple_dict, isa_dict_bool, isa_dict_int, isa_dict_str, isa_dict_list, isa_dict_tuple, isa_dict_dict, opEq_emp, opEq_fe, opIn_ints, Option.bind_some, Option.map_some, List.map_cons, List.map_nil, List.cons_append, List.nil_append, List.append_nil, List.replicate, List.length_cons, List.length_nil, List.set_cons_succ, List.set_cons_zero, Nat.lt_add_one, if_true, if_false, Nat.reduceAdd, Nat.reduceLT, Nat.reduceLeDiff, List.not_mem_nil, List.mem_cons, Nat.reduceEqDiff, or_false, or_true, false_or, true_or, Bool.not_true, Bool.not_false, Bool.false_eq_true, reduceIte, Option.bind_eq_bind, Int.reduceAdd, Int.reduceSub, Int.reduceMul, Int.reduceLT, Int.reduceLE, Int.reduceNeg, Int.cast_ofNat_Int, Int.natCast_one, Int.natCast_zero, Int.reduceEq, Int.reduceNe, Int.toNat_natCast, Int.reduceToNat, Int.reducePow, List.isEmpty_nil, List.isEmpty_cons, List.getElem?_cons_succ, List.getElem?_cons_zero, reduceCtorEq, Nat.succ_eq_add_one, Nat.add_zero, Nat.zero_add, and_self, and_true, true_and, decide_true, decide_false, List.reverse_cons, List.reverse_nil, Option.map_eq_map, Bool.not_eq_true, Bool.not_eq_false, Bool.xor_false, Bool.xor_true, Bool.false_xor, Bool.true_xor, Nat.reduceSub, List.dropLast_cons₂, List.dropLast_singleton, decide_eq_true_eq, List.length_map, Nat.zero_le]; rfl⟩
  | bool c => exact ⟨_, by unfold is_number_sem is_number_b; simp only [gsx_ok, gSi_ap, sxf_ok, sxe_ok, sSetIxE_ap, sx0_ok, sExt0_ap, par3_ok, sPar3_ap, kMt_ap, kLenSet_ap, iRange3_ap, opCount_fr, dat_map, opEq_lists, opEq_2, opNe_bl, opEq_bl, datL_map, sTry_ap, tryR_nx, tryR_rt, tryR_ex, hdl_t, hdl_f, handle_nil, handle_ap, asL_list, asL_map, opSum_fr, opSum_lst, opMin_2, opMax_2, opSl_list, opSl_map, opSl_tup, cutL_map, bnd_ok, bnd_ex, ofR_ok, ofR_ex, SZ_eq, kC_ap, slot_c0, slot_cs, kV_ap, frR_ok, kOk_ap, k1_ap, k2_ap, e1_ap, okR_ok, e2a_ok, e2b_ok, e2a_ex, e2b_ex, e2_ap, eMv_ap, cpk_ok, eCp_ap, eFz_ap, kNil_ap, kCons_ap, eNil_ap, ecb_ok, ecb_ex, eca_ok, eca_ex, eCons_ap, eBor_ap, rT_ok, kCall_ap, rE_ok, rE_ex, rA_ok, eCall_ap, takeA_nil, tkc_ok, takeA_own, takeA_bor, putA_nil, putA_own, putA_bor, allF_nil, allF_cons, tV_ap, tVK_ap, tB_ap, tBK_ap, tNot_ap, tan_t, tan_f, tan_ex, tor_t, tor_f, tor_ex, tAnd_ap, tOr_ap, isB_bl, truth_bl, truth_lst, truth_list, truth_int, ean_t, ean_f, eAnd_ap, eor_t, eor_f, eOr_ap, eNot_ap, ifk_t, ifk_f, ifk_ex, eIf_ap, chk_t, chk_f, kCh_ap, kN_ap, eN_ap, ownsA_nil, ownsA_own, kTup_ap, kLst_ap, eTup_ap, eLst_ap, kIsi_ap, kSl_ap, eSl_ap, parI_ok, kPart_ap, kNoPart_ap, kRev_ap, gN_ap, gTp_tup, gCs_cons, gNl_nil, iIt_ap, items_list, items_tuple, iRange1_ap, rg1_ok, iRange2_ap, rg2_ok, tYesF_ap, nxt_nx, nxt_rt, nxt_ex, nxt_bk, nxt_ct, sSeq_ap, sNil_ap, sBk_ap, sCt_ap, sRaise_ap, sExpr_ap, sRet_ap, sRetN_ap, ifs_t, ifs_f, ifs_ex, sIf_ap, sSet_ap, sTgt_ap, kild_nx, kild_ct, kild_rt, kild_bk, kild_ex, kill_ap, wipe_nil, wipe_cons, app0_ok, isLst_ok, sApp0_ap, sFor_ap, sForE_ap, eLc_ap, back_nil, back_cons, bk1_none, bk1_fr, bk1_lst, endD_rt, endD_nx, endD_ex, semD_1, semD_2, semD_3, semD_4, semD_5, semD_6, semD_7, semD_8, outs_nil, outs_cons, frO_fr, opAdd_i, opAddI_i, opSub_i, opMod_i, opFdiv_i, opMul_r, opMul_l, opPow_i, opEq_i, opNe_i, opLt_i, opGt_i, opLe_i, opGe_i, opNeg_i, opLen_list, opLen_tup, opLen_lst, opIx_list, opIx_tup, opIx_lst, frOp_ap, onlyFr_fr, dat_fr, dat_lst, datL_nil, datL_fr, datL_lst, allFr_nil, allFr_cons, asS_list, asS_tup, opList_ap, opTuple_ap, ixN_nat, atI_0, atI_1, atI_2, atI_3, atI_4, atI_map, atI_int, pV_ap, getAt_ap, getP_nil, getP_ix, setAt_ap, setP_nil, setP_ix, pix_ok, pIx_ap, six_ok, sSetIx_ap, pp0_ok, ePop_ap, par2_ok, sPar_ap, aug1_ok, sAug_ap, opIsN_ap, isNoT_none, isNoT_int, isNoT_list, isNoT_tup, isNoT_lst, typT_fr, typT_lst, typD_none, typD_bool, typD_int, typD_str, typD_list, typD_tuple, isa_NoneType_bool, isa_NoneType_int, isa_NoneType_str, isa_NoneType_list, isa_NoneType_tuple, isa_NoneType_dict, isa_bool_bool, isa_bool_int, isa_bool_str, isa_bool_list, isa_bool_tuple, isa_bool_dict, isa_int_bool, isa_int_int, isa_int_str, isa_int_list, isa_int_tuple, isa_int_dict, isa_str_bool, isa_str_int, isa_str_str, isa_str_list, isa_str_tuple, isa_str_dict, isa_list_bool, isa_list_int, isa_list_str, isa_list_list, isa_list_tuple, isa_list_dict, isa_tuple_bool, isa_tuple_int, isa_tuple_str, isa_tuple_list, isa_tuple_tuple, isa_tuple_dict, isa_dict_bool, isa_dict_int, isa_dict_str, isa_dict_list, isa_dict_tuple, isa_dict_dict, opEq_emp, opEq_fe, opIn_ints, Option.bind_some, Option.map_some, List.map_cons, List.map_nil, List.cons_append, List.nil_append, List.append_nil, List.replicate, List.length_cons, List.length_nil, List.set_cons_succ, List.set_cons_zero, Nat.lt_add_one, if_true, if_false, Nat.reduceAdd, Nat.reduceLT, Nat.reduceLeDiff, List.not_mem_nil, List.mem_cons, Nat.reduceEqDiff, or_false, or_true, false_or, true_or, Bool.not_true, Bool.not_false, Bool.false_eq_true, reduceIte, Option.bind_eq_bind, Int.reduceAdd, Int.reduceSub, Int.reduceMul, Int.reduceLT, Int.reduceLE, Int.reduceNeg, Int.cast_ofNat_Int, Int.natCast_one, Int.natCast_zero, Int.reduceEq, Int.reduceNe, Int.toNat_natCast, Int.reduceToNat, Int.reducePow, List.isEmpty_nil, List.isEmpty_cons, List.getElem?_cons_succ, List.getElem?_cons_zero, reduceCtorEq, Nat.succ_eq_add_one, Nat.add_zero, Nat.zero_add, and_self, and_true, true_and, decide_true, decide_false, List.reverse_cons, List.reverse_nil, Option.map_eq_map, Bool.not_eq_true, Bool.not_eq_false, Bool.xor_false, Bool.xor_true, Bool.false_xor, Bool.true_xor, Nat.reduceSub, List.dropLast_cons₂, List.dropLast_singleton, decide_eq_true_eq, List.length_map, Nat.zero_le]; rfl⟩
  | str c => exact ⟨_, by unfold is_number_sem is_number_b; simp only [gsx_ok, gSi_ap, sxf_ok, sxe_ok, sSetIxE_ap, sx0_ok, sExt0_ap, par3_ok, sPar3_ap, kMt_ap, kLenSet_ap, iRange3_ap, opCount_fr, dat_map, opEq_lists, opEq_2, opNe_bl, opEq_bl, datL_map, sTry_ap, tryR_nx, tryR_rt, tryR_ex, hdl_t, hdl_f, handle_nil, handle_ap, asL_list, asL_map, opSum_fr, opSum_lst, opMin_2, opMax_2, opSl_list, opSl_map, opSl_tup, cutL_map, bnd_ok, bnd_ex, ofR_ok, ofR_ex, SZ_eq, kC_ap, slot_c0, slot_cs, kV_ap, frR_ok, kOk_ap, k1_ap, k2_ap, e1_ap, okR_ok, e2a_ok, e2b_ok, e2a_ex, e2b_ex, e2_ap, eMv_ap, cpk_ok, eCp_ap, eFz_ap, kNil_ap, kCons_ap, eNil_ap, ecb_ok, ecb_ex, eca_ok, eca_ex, eCons_ap, eBor_ap, rT_ok, kCall_ap, rE_ok, rE_ex, rA_ok, eCall_ap, takeA_nil, tkc_ok, takeA_own, takeA_bor, putA_nil, putA_own, putA_bor, allF_nil, allF_cons, tV_ap, tVK_ap, tB_ap, tBK_ap, tNot_ap, tan_t, tan_f, tan_ex, tor_t, tor_f, tor_ex, tAnd_ap, tOr_ap, isB_bl, truth_bl, truth_lst, truth_list, truth_int, ean_t, ean_f, eAnd_ap, eor_t, eor_f, eOr_ap, eNot_ap, ifk_t, ifk_f, ifk_ex, eIf_ap, chk_t, chk_f, kCh_ap, kN_ap, eN_ap, ownsA_nil, ownsA_own, kTup_ap, kLst_ap, eTup_ap, eLst_ap, kIsi_ap, kSl_ap, eSl_ap, parI_ok, kPart_ap, kNoPart_ap, kRev_ap, gN_ap, gTp_tup, gCs_cons, gNl_nil, iIt_ap, items_list, items_tuple, iRange1_ap, rg1_ok, iRange2_ap, rg2_ok, tYesF_ap, nxt_nx, nxt_rt, nxt_ex, nxt_bk, nxt_ct, sSeq_ap, sNil_ap, sBk_ap, sCt_ap, sRaise_ap, sExpr_ap, sRet_ap, sRetN_ap, ifs_t, ifs_f, ifs_ex, sIf_ap, sSet_ap, sTgt_ap, kild_nx, kild_ct, kild_rt, kild_bk, kild_ex, kill_ap, wipe_nil, wipe_cons, app0_ok, isLst_ok, sApp0_ap, sFor_ap, sForE_ap, eLc_ap, back_nil, back_cons, bk1_none, bk1_fr, bk1_lst, endD_rt, endD_nx, endD_ex, semD_1, semD_2, semD_3, semD_4, semD_5, semD_6, semD_7, semD_8, outs_nil, outs_cons, frO_fr, opAdd_i, opAddI_i, opSub_i, opMod_i, opFdiv_i, opMul_r, opMul_l, opPow_i, opEq_i, opNe_i, opLt_i, opGt_i, opLe_i, opGe_i, opNeg_i, opLen_list, opLen_tup, opLen_lst, opIx_list, opIx_tup, opIx_lst, frOp_ap, onlyFr_fr, dat_fr, dat_lst, datL_nil, datL_fr, datL_lst, allFr_nil, allFr_cons, asS_list, asS_tup, opList_ap, opTuple_ap, ixN_nat, atI_0, atI_1, atI_2, atI_3, atI_4, atI_map, atI_int, pV_ap, getAt_ap, getP_nil, getP_ix, setAt_ap, setP_nil, setP_ix, pix_ok, pIx_ap, six_ok, sSetIx_ap, pp0_ok, ePop_ap, par2_ok, sPar_ap, aug1_ok, sAug_ap, opIsN_ap, isNoT_none, isNoT_int, isNoT_list, isNoT_tup, isNoT_lst, typT_fr, typT_lst, typD_none, typD_bool, typD_int, typD_str, typD_list, typD_tuple, isa_NoneType_bool, isa_NoneType_int, isa_NoneType_str, isa_NoneType_list, isa_NoneType_tuple, isa_NoneType_dict, isa_bool_bool, isa_bool_int, isa_bool_str, isa_bool_list, isa_bool_tuple, isa_bool_dict, isa_int_bool, isa_int_int, isa_int_str, isa_int_list, isa_int_tuple, isa_int_dict, isa_str_bool, isa_str_int, isa_str_str, isa_str_list, isa_str_tuple, isa_str_dict, isa_list_bool, isa_list_int, isa_list_str, isa_list_list, isa_list_tuple, isa_list_dict, isa_tuple_bool, isa_tuple_int, isa_tuple_str, isa_tuple_list, isa_tuple_tuple, isa_tuple_dict, isa_dict_bool, isa_dict_int, isa_dict_str, isa_dict_list, isa_dict_tuple, isa_dict_dict, opEq_emp, opEq_fe, opIn_ints, Option.bind_some, Option.map_some, List.map_cons, List.map_nil, List.cons_append, List.nil_append, List.append_nil, List.replicate, List.length_cons, List.length_nil, List.set_cons_succ, List.set_cons_zero, Nat.lt_add_one, if_true, if_false, Nat.reduceAdd, Nat.reduceLT, Nat.reduceLeDiff, List.not_mem_nil, List.mem_cons, Nat.reduceEqDiff, or_false, or_true, false_or, true_or, Bool.not_true, Bool.not_false, Bool.false_eq_true, reduceIte, Option.bind_eq_bind, Int.reduceAdd, Int.reduceSub, Int.reduceMul, Int.reduceLT, Int.reduceLE, Int.reduceNeg, Int.cast_ofNat_Int, Int.natCast_one, Int.natCast_zero, Int.reduceEq, Int.reduceNe, Int.toNat_natCast, Int.reduceToNat, Int.reducePow, List.isEmpty_nil, List.isEmpty_cons, List.getElem?_cons_succ, List.getElem?_cons_zero, reduceCtorEq, Nat.succ_eq_add_one, Nat.add_zero, Nat.zero_add, and_self, and_true, true_and, decide_true, decide_false, List.reverse_cons, List.reverse_nil, Option.map_eq_map, Bool.not_eq_true, Bool.not_eq_false, Bool.xor_false, Bool.xor_true, Bool.false_xor, Bool.true_xor, Nat.reduceSub, List.dropLast_cons₂, List.dropLast_singleton, decide_eq_true_eq, List.length_map, Nat.zero_le]; rfl⟩
  | list c => exact ⟨_, by unfold is_number_sem is_number_b; simp only [gsx_ok, gSi_ap, sxf_ok, sxe_ok, sSetIxE_ap, sx0_ok, sExt0_ap, par3_ok, sPar3_ap, kMt_ap, kLenSet_ap, iRange3_ap, opCount_fr, dat_map, opEq_lists, opEq_2, opNe_bl, opEq_bl, datL_map, sTry_ap, tryR_nx, tryR_rt, tryR_ex, hdl_t, hdl_f, handle_nil, handle_ap, asL_list, asL_map, opSum_fr, opSum_lst, opMin_2, opMax_2, opSl_list, opSl_map, opSl_tup, cutL_map, bnd_ok, bnd_ex, ofR_ok, ofR_ex, SZ_eq, kC_ap, slot_c0, slot_cs, kV_ap, frR_ok, kOk_ap, k1_ap, k2_ap, e1_ap, okR_ok, e2a_ok, e2b_ok, e2a_ex, e2b_ex, e2_ap, eMv_ap, cpk_ok, eCp_ap, eFz_ap, kNil_ap, kCons_ap, eNil_ap, ecb_ok, ecb_ex, eca_ok, eca_ex, eCons_ap, eBor_ap, rT_ok, kCall_ap, rE_ok, rE_ex, rA_ok, eCall_ap, takeA_nil, tkc_ok, takeA_own, takeA_bor, putA_nil, putA_own, putA_bor, allF_nil, allF_cons, tV_ap, tVK_ap, tB_ap, tBK_ap, tNot_ap, tan_t, tan_f, tan_ex, tor_t, tor_f, tor_ex, tAnd_ap, tOr_ap, isB_bl, truth_bl, truth_lst, truth_list, truth_int, ean_t, ean_f, eAnd_ap, eor_t, eor_f, eOr_ap, eNot_ap, ifk_t, ifk_f, ifk_ex, eIf_ap, chk_t, chk_f, kCh_ap, kN_ap, eN_ap, ownsA_nil, ownsA_own, kTup_ap, kLst_ap, eTup_ap, eLst_ap, kIsi_ap, kSl_ap, eSl_ap, parI_ok, kPart_ap, kNoPart_ap, kRev_ap, gN_ap, gTp_tup, gCs_cons, gNl_nil, iIt_ap, items_list, items_tuple, iRange1_ap, rg1_ok, iRange2_ap, rg2_ok, tYesF_ap, nxt_nx, nxt_rt, nxt_ex, nxt_bk, nxt_ct, sSeq_ap, sNil_ap, sBk_ap, sCt_ap, sRaise_ap, sExpr_ap, sRet_ap, sRetN_ap, ifs_t, ifs_f, ifs_ex, sIf_ap, sSet_ap, sTgt_ap, kild_nx, kild_ct, kild_rt, kild_bk, kild_ex, kill_ap, wipe_nil, wipe_cons, app0_ok, isLst_ok, sApp0_ap, sFor_ap, sForE_ap, eLc_ap, back_nil, back_cons, bk1_none, bk1_fr, bk1_lst, endD_rt, endD_nx, endD_ex, semD_1, semD_2, semD_3, semD_4, semD_5, semD_6, semD_7, semD_8, outs_nil, outs_cons, frO_fr, opAdd_i, opAddI_i, opSub_i, opMod_i, opFdiv_i, opMul_r, opMul_l, opPow_i, opEq_i, opNe_i, opLt_i, opGt_i, opLe_i, opGe_i, opNeg_i, opLen_list, opLen_tup, opLen_lst, opIx_list, opIx_tup, opIx_lst, frOp_ap, onlyFr_fr, dat_fr, dat_lst, datL_nil, datL_fr, datL_lst, allFr_nil, allFr_cons, asS_list, asS_tup, opList_ap, opTuple_ap, ixN_nat, atI_0, atI_1, atI_2, atI_3, atI_4, atI_map, atI_int, pV_ap, getAt_ap, getP_nil, getP_ix, setAt_ap, setP_nil, setP_ix, pix_ok, pIx_ap, six_ok, sSetIx_ap, pp0_ok, ePop_ap, par2_ok, sPar_ap, aug1_ok, sAug_ap, opIsN_ap, isNoT_none, isNoT_int, isNoT_list, isNoT_tup, isNoT_lst, typT_fr, typT_lst, typD_none, typD_bool, typD_int, typD_str, typD_list, typD_tuple, isa_NoneType_bool, isa_NoneType_int, isa_NoneType_str, isa_NoneType_list, isa_NoneType_tuple, isa_NoneType_dict, isa_bool_bool, isa_bool_int, isa_bool_str, isa_bool_list, isa_bool_tuple, isa_bool_dict, isa_int_bool, isa_int_int, isa_int_str, isa_int_list, isa_int_tuple, isa_int_dict, isa_str_bool, isa_str_int, isa_str_str, isa_str_list, isa_str_tuple, isa_str_dict, isa_list_bool, isa_list_int, isa_list_str, isa_list_list, isa_list_tuple, isa_list_dict, isa_tuple_bool, isa_tuple_int, isa_tuple_str, isa_tuple_list, isa_tuple_tuple, isa_tuple_dict, isa_dict_bool, isa_dict_int, isa_dict_str, isa_dict_list, isa_dict_tuple, isa_dict_dict, opEq_emp, opEq_fe, opIn_ints, Option.bind_some, Option.map_some, List.map_cons, List.map_nil, List.cons_append, List.nil_append, List.append_nil, List.replicate, List.length_cons, List.length_nil, List.set_cons_succ, List.set_cons_zero, Nat.lt_add_one, if_true, if_false, Nat.reduceAdd, Nat.reduceLT, Nat.reduceLeDiff, List.not_mem_nil, List.mem_cons, Nat.reduceEqDiff, or_false, or_true, false_or, true_or, Bool.not_true, Bool.not_false, Bool.false_eq_true, reduceIte, Option.bind_eq_bind, Int.reduceAdd, Int.reduceSub, Int.reduceMul, Int.reduceLT, Int.reduceLE, Int.reduceNeg, Int.cast_ofNat_Int, Int.natCast_one, Int.natCast_zero, Int.reduceEq, Int.reduceNe, Int.toNat_natCast, Int.reduceToNat, Int.reducePow, List.isEmpty_nil, List.isEmpty_cons, List.getElem?_cons_succ, List.getElem?_cons_zero, reduceCtorEq, Nat.succ_eq_add_one, Nat.add_zero, Nat.zero_add, and_self, and_true, true_and, decide_true, decide_false, List.reverse_cons, List.reverse_nil, Option.map_eq_map, Bool.not_eq_true, Bool.not_eq_false, Bool.xor_false, Bool.xor_true, Bool.false_xor, Bool.true_xor, Nat.reduceSub, List.dropLast_cons₂, List.dropLast_singleton, decide_eq_true_eq, List.length_map, Nat.zero_le]; rfl⟩
  | tuple c => exact ⟨_, by unfold is_number_sem is_number_b; simp only [gsx_ok, gSi_ap, sxf_ok, sxe_ok, sSetIxE_ap, sx0_ok, sExt0_ap, par3_ok, sPar3_ap, kMt_ap, kLenSet_ap, iRange3_ap, opCount_fr, dat_map, opEq_lists, opEq_2, opNe_bl, opEq_bl, datL_map, sTry_ap, tryR_nx, tryR_rt, tryR_ex, hdl_t, hdl_f, handle_nil, handle_ap, asL_list, asL_map, opSum_fr, opSum_lst, opMin_2, opMax_2, opSl_list, opSl_map, opSl_tup, cutL_map, bnd_ok, bnd_ex, ofR_ok, ofR_ex, SZ_eq, kC_ap, slot_c0, slot_cs, kV_ap, frR_ok, kOk_ap, k1_ap, k2_ap, e1_ap, okR_ok, e2a_ok, e2b_ok, e2a_ex, e2b_ex, e2_ap, eMv_ap, cpk_ok, eCp_ap, eFz_ap, kNil_ap, kCons_ap, eNil_ap, ecb_ok, ecb_ex, eca_ok, eca_ex, eCons_ap, eBor_ap, rT_ok, kCall_ap, rE_ok, rE_ex, rA_ok, eCall_ap, takeA_nil, tkc_ok, takeA_own, takeA_bor, putA_nil, putA_own, putA_bor, allF_nil, allF_cons, tV_ap, tVK_ap, tB_ap, tBK_ap, tNot_ap, tan_t, tan_f, tan_ex, tor_t, tor_f, tor_ex, tAnd_ap, tOr_ap, isB_bl, truth_bl, truth_lst, truth_list, truth_int, ean_t, ean_f, eAnd_ap, eor_t, eor_f, eOr_ap, eNot_ap, ifk_t, ifk_f, ifk_ex, eIf_ap, chk_t, chk_f, kCh_ap, kN_ap, eN_ap, ownsA_nil, ownsA_own, kTup_ap, kLst_ap, eTup_ap, eLst_ap, kIsi_ap, kSl_ap, eSl_ap, parI_ok, kPart_ap, kNoPart_ap, kRev_ap, gN_ap, gTp_tup, gCs_cons, gNl_nil, iIt_ap, items_list, items_tuple, iRange1_ap, rg1_ok, iRange2_ap, rg2_ok, tYesF_ap, nxt_nx, nxt_rt, nxt_ex, nxt_bk, nxt_ct, sSeq_ap, sNil_ap, sBk_ap, sCt_ap, sRaise_ap, sExpr_ap, sRet_ap, sRetN_ap, ifs_t, ifs_f, ifs_ex, sIf_ap, sSet_ap, sTgt_ap, kild_nx, kild_ct, kild_rt, kild_bk, kild_ex, kill_ap, wipe_nil, wipe_cons, app0_ok, isLst_ok, sApp0_ap, sFor_ap, sForE_ap, eLc_ap, back_nil, back_cons, bk1_none, bk1_fr, bk1_lst, endD_rt, endD_nx, endD_ex, semD_1, semD_2, semD_3, semD_4, semD_5, semD_6, semD_7, semD_8, outs_nil, outs_cons, frO_fr, opAdd_i, opAddI_i, opSub_i, opMod_i, opFdiv_i, opMul_r, opMul_l, opPow_i, opEq_i, opNe_i, opLt_i, opGt_i, opLe_i, opGe_i, opNeg_i, opLen_list, opLen_tup, opLen_lst, opIx_list, opIx_tup, opIx_lst, frOp_ap, onlyFr_fr, dat_fr, dat_lst, datL_nil, datL_fr, datL_lst, allFr_nil, allFr_cons, asS_list, asS_tup, opList_ap, opTuple_ap, ixN_nat, atI_0, atI_1, atI_2, atI_3, atI_4, atI_map, atI_int, pV_ap, getAt_ap, getP_nil, getP_ix, setAt_ap, setP_nil, setP_ix, pix_ok, pIx_ap, six_ok, sSetIx_ap, pp0_ok, ePop_ap, par2_ok, sPar_ap, aug1_ok, sAug_ap, opIsN_ap, isNoT_none, isNoT_int, isNoT_list, isNoT_tup, isNoT_lst, typT_fr, typT_lst, typD_none, typD_bool, typD_int, typD_str, typD_list, typD_tuple, isa_NoneType_bool, isa_NoneType_int, isa_NoneType_str, isa_NoneType_list, isa_NoneType_tuple, isa_NoneType_dict, isa_bool_bool, isa_bool_int, isa_bool_str, isa_bool_list, isa_bool_tuple, isa_bool_dict, isa_int_bool, isa_int_int, isa_int_str, isa_int_list, isa_int_tuple, isa_int_dict, isa_str_bool, isa_str_int, isa_str_str, isa_str_list, isa_str_tuple, isa_str_dict, isa_list_bool, isa_list_int, isa_list_str, isa_list_list, isa_list_tuple, isa_list_dict, isa_tuple_bool, isa_tuple_int, isa_tuple_str, isa_tuple_list, isa_tuple_tuple, isa_tuple_dict, isa_dict_bool, isa_dict_int, isa_dict_str, isa_dict_list, isa_dict_tuple, isa_dict_dict, opEq_emp, opEq_fe, opIn_ints, Option.bind_some, Option.map_some, List.map_cons, List.map_nil, List.cons_append, List.nil_append, List.append_nil, List.replicate, List.length_cons, List.length_nil, List.set_cons_succ, List.set_cons_zero, Nat.lt_add_one, if_true, if_false, Nat.reduceAdd, Nat.reduceLT, Nat.reduceLeDiff, List.not_mem_nil, List.mem_cons, Nat.reduceEqDiff, or_false, or_true, false_or, true_or, Bool.not_true, Bool.not_false, Bool.false_eq_true, reduceIte, Option.bind_eq_bind, Int.reduceAdd, Int.reduceSub, Int.reduceMul, Int.reduceLT, Int.reduceLE, Int.reduceNeg, Int.cast_ofNat_Int, Int.natCast_one, Int.natCast_zero, Int.reduceEq, Int.reduceNe, Int.toNat_natCast, Int.reduceToNat, Int.reducePow, List.isEmpty_nil, List.isEmpty_cons, List.getElem?_cons_succ, List.getElem?_cons_zero, reduceCtorEq, Nat.succ_eq_add_one, Nat.add_zero, Nat.zero_add, and_self, and_true, true_and, decide_true, decide_false, List.reverse_cons, List.reverse_nil, Option.map_eq_map, Bool.not_eq_true, Bool.not_eq_false, Bool.xor_false, Bool.xor_true, Bool.false_xor, Bool.true_xor, Nat.reduceSub, List.dropLast_cons₂, List.dropLast_singleton, decide_eq_true_eq, List.length_map, Nat.zero_le]; rfl⟩
  | dict c => exact absurd rfl (hd c)
theorem filter_emp {α : Type} {p : α → Bool} : ∀ l : List α, (l.filter fun d => !p d).isEmpty = l.all p
  | [] => rfl
  | d :: l => by
    simp only [List.filter_cons, List.all_cons]
    cases h : p d with
    | true => simpa using filter_emp l
    | false => rfl
abbrev lk (p b : Int) : D := .tuple [.int p, .int b]
theorem check_lock_ok (p b : Int) (h : 1 ≤ p) (h1 : p ≤ 5) (h2 : 2 ≤ b) (h3 : b ≤ 10) : check_lock_sem [.fr (lk p b)] = some (.ok (.fr .none) [some (.fr (lk p b))]) := by
  unfold check_lock_sem check_lock_b
  simp only [gsx_ok, gSi_ap, sxf_ok, sxe_ok, sSetIxE_ap, sx0_ok, sExt0_ap, par3_ok, sPar3_ap, kMt_ap, kLenSet_ap, iRange3_ap, opCount_fr, dat_map, opEq_lists, opEq_2, opNe_bl, opEq_bl, datL_map, sTry_ap, tryR_nx, tryR_rt, tryR_ex, hdl_t, hdl_f, handle_nil, handle_ap, asL_list, asL_map, opSum_fr, opSum_lst, opMin_2, opMax_2, opSl_list, opSl_map, opSl_tup, cutL_map, bnd_ok, bnd_ex, ofR_ok, ofR_ex, SZ_eq, kC_ap, slot_c0, slot_cs, kV_ap, frR_ok, kOk_ap, k1_ap, k2_ap, e1_ap, okR_ok, e2a_ok, e2b_ok, e2a_ex, e2b_ex, e2_ap, eMv_ap, cpk_ok, eCp_ap, eFz_ap, kNil_ap, kCons_ap, eNil_ap, ecb_ok, ecb_ex, eca_ok, eca_ex, eCons_ap, eBor_ap, rT_ok, kCall_ap, rE_ok, rE_ex, rA_ok, eCall_ap, takeA_nil, tkc_ok, takeA_own, takeA_bor, putA_nil, putA_own, putA_bor, allF_nil, allF_cons, tV_ap, tVK_ap, tB_ap, tBK_ap, tNot_ap, tan_t, tan_f, tan_ex, tor_t, tor_f, tor_ex, tAnd_ap, tOr_ap, isB_bl, truth_bl, truth_lst, truth_list, truth_int, ean_t, ean_f, eAnd_ap, eor_t, eor_f, eOr_ap, eNot_ap, ifk_t, ifk_f, ifk_ex, eIf_ap, chk_t, chk_f, kCh_ap, kN_ap, eN_ap, ownsA_nil, ownsA_own, kTup_ap, kLst_ap, eTup_ap, eLst_ap, kIsi_ap, kSl_ap, eSl_ap, parI_ok, kPart_ap, kNoPart_ap, kRev_ap, gN_ap, gTp_tup, gCs_cons, gNl_nil, iIt_ap, items_list, items_tuple, iRange1_ap, rg1_ok, iRange2_ap, rg2_ok, tYesF_ap, nxt_nx, nxt_rt, nxt_ex, nxt_bk, nxt_ct, sSeq_ap, sNil_ap, sBk_ap, sCt_ap, sRaise_ap, sExpr_ap, sRet_ap, sRetN_ap, ifs_t, ifs_f, ifs_ex, sIf_ap, sSet_ap, sTgt_ap, kild_nx, kild_ct, kild_rt, kild_bk, kild_ex, kill_ap, wipe_nil, wipe_cons, app0_ok, isLst_ok, sApp0_ap, sFor_ap, sForE_ap, eLc_ap, back_nil, back_cons, bk1_none, bk1_fr, bk1_lst, endD_rt, endD_nx, endD_ex, semD_1, semD_2, semD_3, semD_4, semD_5, semD_6, semD_7, semD_8, outs_nil, outs_cons, frO_fr, opAdd_i, opAddI_i, opSub_i, opMod_i, opFdiv_i, opMul_r, opMul_l, opPow_i, opEq_i, opNe_i, opLt_i, opGt_i, opLe_i, opGe_i, opNeg_i, opLen_list, opLen_tup, opLen_lst, opIx_list, opIx_tup, opIx_lst, frOp_ap, onlyFr_fr, dat_fr, dat_lst, datL_nil, datL_fr, datL_lst, allFr_nil, allFr_cons, asS_list, asS_tup, opList_ap, opTuple_ap, ixN_nat, atI_0, atI_1, atI_2, atI_3, atI_4, atI_map, atI_int, pV_ap, getAt_ap, getP_nil, getP_ix, setAt_ap, setP_nil, setP_ix, pix_ok, pIx_ap, six_ok, sSetIx_ap, pp0_ok, ePop_ap, par2_ok, sPar_ap, aug1_ok, sAug_ap, opIsN_ap, isNoT_none, isNoT_int, isNoT_list, isNoT_tup, isNoT_lst, typT_fr, typT_lst, typD_none, typD_bool, typD_int, typD_str, typD_list, typD_tuple, isa_NoneType_bool, isa_NoneType_int, isa_NoneType_str, isa_NoneType_list, isa_NoneType_tuple, isa_NoneType_dict, isa_bool_bool, isa_bool_int, isa_bool_str, isa_bool_list, isa_bool_tuple, isa_bool_dict, isa_int_bool, isa_int_int, isa_int_str, isa_int_list, isa_int_tuple, isa_int_dict, isa_str_bool, isa_str_int, isa_str_str, isa_str_list, isa_str_tuple, isa_str_dict, isa_list_bool, isa_list_int, isa_list_str, isa_list_list, isa_list_tuple, isa_list_dict, isa_tuple_bool, isa_tuple_int, isa_tuple_str, isa_tuple_list, isa_tuple_tuple, isa_tuple_dict, isa_dict_bool, isa_dict_int, isa_dict_str, isa_dict_list, isa_dict_tuple, isa_dict_dict, opEq_emp, opEq_fe, opIn_ints, Option.bind_some, Option.map_some, List.map_cons, List.map_nil, List.cons_append, List.nil_append, List.append_nil, List.replicate, List.length_cons, List.length_nil, List.set_cons_succ, List.set_cons_zero, Nat.lt_add_one, if_true, if_false, Nat.reduceAdd, Nat.reduceLT, Nat.reduceLeDiff, List.not_mem_nil, List.mem_cons, Nat.reduceEqDiff, or_false, or_true, false_or, true_or, Bool.not_true, Bool.not_false, Bool.false_eq_true, reduceIte, Option.bind_eq_bind, Int.reduceAdd, Int.reduceSub, Int.reduceMul, Int.reduceLT, Int.reduceLE, Int.reduceNeg, Int.cast_ofNat_Int, Int.natCast_one, Int.natCast_zero, Int.reduceEq, Int.reduceNe, Int.toNat_natCast, Int.reduceToNat, Int.reducePow, List.isEmpty_nil, List.isEmpty_cons, List.getElem?_cons_succ, List.getElem?_cons_zero, reduceCtorEq, Nat.succ_eq_add_one, Nat.add_zero, Nat.zero_add, and_self, and_true, true_and, decide_true, decide_false, List.reverse_cons, List.reverse_nil, Option.map_eq_map, Bool.not_eq_true, Bool.not_eq_false, Bool.xor_false, Bool.xor_true, Bool.false_xor, Bool.true_xor, Nat.reduceSub, List.dropLast_cons₂, List.dropLast_singleton, decide_eq_true_eq, List.length_map, Nat.zero_le, is_number_ok, h, h1, h2, h3]
theorem is_code_ok (p b : Int) (ds : List D) (hd : ∀ d ∈ ds, ∀ x, d ≠ .dict x) : ∃ os, is_code_sem [.fr (lk p b), .fr (.list ds)] = some (.ok (.fr (.bool (decide ((ds.length : Int) = p) && ds.all (okDig b)))) os) := by
  unfold is_code_sem is_code_b
  have c1 : is_code_c1 [some (.fr (lk p b)), some (.fr (.list ds)), none] = some (.ok (.lst ((ds.filter fun d => !okDig b d).map .fr)) [some (.fr (lk p b)), some (.fr (.list ds)), none]) := by
    unfold is_code_c1
    simp only [gsx_ok, gSi_ap, sxf_ok, sxe_ok, sSetIxE_ap, sx0_ok, sExt0_ap, par3_ok, sPar3_ap, kMt_ap, kLenSet_ap, iRange3_ap, opCount_fr, dat_map, opEq_lists, opEq_2, opNe_bl, opEq_bl, datL_map, sTry_ap, tryR_nx, tryR_rt, tryR_ex, hdl_t, hdl_f, handle_nil, handle_ap, asL_list, asL_map, opSum_fr, opSum_lst, opMin_2, opMax_2, opSl_list, opSl_map, opSl_tup, cutL_map, bnd_ok, bnd_ex, ofR_ok, ofR_ex, SZ_eq, kC_ap, slot_c0, slot_cs, kV_ap, frR_ok, kOk_ap, k1_ap, k2_ap, e1_ap, okR_ok, e2a_ok, e2b_ok, e2a_ex, e2b_ex, e2_ap, eMv_ap, cpk_ok, eCp_ap, eFz_ap, kNil_ap, kCons_ap, eNil_ap, ecb_ok, ecb_ex, eca_ok, eca_ex, eCons_ap, eBor_ap, rT_ok, kCall_ap, rE_ok, rE_ex, rA_ok, eCall_ap, takeA_nil, tkc_ok, takeA_own, takeA_bor, putA_nil, putA_own, putA_bor, allF_nil, allF_cons, tV_ap, tVK_ap, tB_ap, tBK_ap, tNot_ap, tan_t, tan_f, tan_ex, tor_t, tor_f, tor_ex, tAnd_ap, tOr_ap, isB_bl, truth_bl, truth_lst, truth_list, truth_int, ean_t, ean_f, eAnd_ap, eor_t, eor_f, eOr_ap, eNot_ap, ifk_t, ifk_f, ifk_ex, eIf_ap, chk_t, chk_f, kCh_ap, kN_ap, eN_ap, ownsA_nil, ownsA_own, kTup_ap, kLst_ap, eTup_ap, eLst_ap, kIsi_ap, kSl_ap, eSl_ap, parI_ok, kPart_ap, kNoPart_ap, kRev_ap, gN_ap, gTp_tup, gCs_cons, gNl_nil, iIt_ap, items_list, items_tuple, iRange1_ap, rg1_ok, iRange2_ap, rg2_ok, tYesF_ap, nxt_nx, nxt_rt, nxt_ex, nxt_bk, nxt_ct, sSeq_ap, sNil_ap, sBk_ap, sCt_ap, sRaise_ap, sExpr_ap, sRet_ap, sRetN_ap, ifs_t, ifs_f, ifs_ex, sIf_ap, sSet_ap, sTgt_ap, kild_nx, kild_ct, kild_rt, kild_bk, kild_ex, kill_ap, wipe_nil, wipe_cons, app0_ok, isLst_ok, sApp0_ap, sFor_ap, sForE_ap, eLc_ap, back_nil, back_cons, bk1_none, bk1_fr, bk1_lst, endD_rt, endD_nx, endD_ex, semD_1, semD_2, semD_3, semD_4, semD_5, semD_6, semD_7, semD_8, outs_nil, outs_cons, frO_fr, opAdd_i, opAddI_i, opSub_i, opMod_i, opFdiv_i, opMul_r, opMul_l, opPow_i, opEq_i, opNe_i, opLt_i, opGt_i, opLe_i, opGe_i, opNeg_i, opLen_list, opLen_tup, opLen_lst, opIx_list, opIx_tup, opIx_lst, frOp_ap, onlyFr_fr, dat_fr, dat_lst, datL_nil, datL_fr, datL_lst, allFr_nil, allFr_cons, asS_list, asS_tup, opList_ap, opTuple_ap, ixN_nat, atI_0, atI_1, atI_2, atI_3, atI_4, atI_map, atI_int, pV_ap, getAt_ap, getP_nil, getP_ix, setAt_ap, setP_nil, setP_ix, pix_ok, pIx_ap, six_ok, sSetIx_ap, pp0_ok, ePop_ap, par2_ok, sPar_ap, aug1_ok, sAug_ap, opIsN_ap, isNoT_none, isNoT_int, isNoT_list, isNoT_tup, isNoT_lst, typT_fr, typT_lst, typD_none, typD_bool, typD_int, typD_str, typD_list, typD_tuple, isa_NoneType_bool, isa_NoneType_int, isa_NoneType_str, isa_NoneType_list, isa_NoneType_tuple, isa_NoneType_dict, isa_bool_bool, isa_bool_int, isa_bool_str, isa_bool_list, isa_bool_tuple, isa_bool_dict, isa_int_bool, isa_int_int, isa_int_str, isa_int_list, isa_int_tuple, isa_int_dict, isa_str_bool, isa_str_int, isa_str_str, isa_str_list, isa_str_tuple, isa_str_dict, isa_list_bool, isa_list_int, isa_list_str, isa_list_list, isa_list_tuple, isa_list_dict, isa_tuple_bool, isa_tuple_int, isa_tuple_str, isa_tuple_list, isa_tuple_tuple, isa_tuple_dict, isa_dict_bool, isa_dict_int, isa_dict_str, isa_dict_list, isa_dict_tuple, isa_dict_dict, opEq_emp, opEq_fe, opIn_ints, Option.bind_some, Option.map_some, List.map_cons, List.map_nil, List.cons_append, List.nil_append, List.append_nil, List.replicate, List.length_cons, List.length_nil, List.set_cons_succ, List.set_cons_zero, Nat.lt_add_one, if_true, if_false, Nat.reduceAdd, Nat.reduceLT, Nat.reduceLeDiff, List.not_mem_nil, List.mem_cons, Nat.reduceEqDiff, or_false, or_true, false_or, true_or, Bool.not_true, Bool.not_false, Bool.false_eq_true, reduceIte, Option.bind_eq_bind, Int.reduceAdd, Int.reduceSub, Int.reduceMul, Int.reduceLT, Int.reduceLE, Int.reduceNeg, Int.cast_ofNat_Int, Int.natCast_one, Int.natCast_zero, Int.reduceEq, Int.reduceNe, Int.toNat_natCast, Int.reduceToNat, Int.reducePow, List.isEmpty_nil, List.isEmpty_cons, List.getElem?_cons_succ, List.getElem?_cons_zero, reduceCtorEq, Nat.succ_eq_add_one, Nat.add_zero, Nat.zero_add, and_self, and_true, true_and, decide_true, decide_false, List.reverse_cons, List.reverse_nil, Option.map_eq_map, Bool.not_eq_true, Bool.not_eq_false, Bool.xor_false, Bool.xor_true, Bool.false_xor, Bool.true_xor, Nat.reduceSub, List.dropLast_cons₂, List.dropLast_singleton, decide_eq_true_eq, List.length_map, Nat.zero_le]
    rw [cLoop_map1 (p := fun d => !okDig b d) (v := .fr) (fun d h => by
      obtain ⟨os, e⟩ := is_digit d b (hd d h)
      simp only [gsx_ok, gSi_ap, sxf_ok, sxe_ok, sSetIxE_ap, sx0_ok, sExt0_ap, par3_ok, sPar3_ap, kMt_ap, kLenSet_ap, iRange3_ap, opCount_fr, dat_map, opEq_lists, opEq_2, opNe_bl, opEq_bl, datL_map, sTry_ap, tryR_nx, tryR_rt, tryR_ex, hdl_t, hdl_f, handle_nil, handle_ap, asL_list, asL_map, opSum_fr, opSum_lst, opMin_2, opMax_2, opSl_list, opSl_map, opSl_tup, cutL_map, bnd_ok, bnd_ex, ofR_ok, ofR_ex, SZ_eq, kC_ap, slot_c0, slot_cs, kV_ap, frR_ok, kOk_ap, k1_ap, k2_ap, e1_ap, okR_ok, e2a_ok, e2b_ok, e2a_ex, e2b_ex, e2_ap, eMv_ap, cpk_ok, eCp_ap, eFz_ap, kNil_ap, kCons_ap, eNil_ap, ecb_ok, ecb_ex, eca_ok, eca_ex, eCons_ap, eBor_ap, rT_ok, kCall_ap, rE_ok, rE_ex, rA_ok, eCall_ap, takeA_nil, tkc_ok, takeA_own, takeA_bor, putA_nil, putA_own, putA_bor, allF_nil, allF_cons, tV_ap, tVK_ap, tB_ap, tBK_ap, tNot_ap, tan_t, tan_f, tan_ex, tor_t, tor_f, tor_ex, tAnd_ap, tOr_ap, isB_bl, truth_bl, truth_lst, truth_list, truth_int, ean_t, ean_f, eAnd_ap, eor_t, eor_f, eOr_ap, eNot_ap, ifk_t, ifk_f, ifk_ex, eIf_ap, chk_t, chk_f, kCh_ap, kN_ap, eN_ap, ownsA_nil, ownsA_own, kTup_ap, kLst_ap, eTup_ap, eLst_ap, kIsi_ap, kSl_ap, eSl_ap, parI_ok, kPart_ap, kNoPart_ap, kRev_ap, gN_ap, gTp_tup, gCs_cons, gNl_nil, iIt_ap, items_list, items_tuple, iRange1_ap, rg1_ok, iRange2_ap, rg2_ok, tYesF_ap, nxt_nx, nxt_rt, nxt_ex, nxt_bk, nxt_ct, sSeq_ap, sNil_ap, sBk_ap, sCt_ap, sRaise_ap, sExpr_ap, sRet_ap, sRetN_ap, ifs_t, ifs_f, ifs_ex, sIf_ap, sSet_ap, sTgt_ap, kild_nx, kild_ct, kild_rt, kild_bk, kild_ex, kill_ap, wipe_nil, wipe_cons, app0_ok, isLst_ok, sApp0_ap, sFor_ap, sForE_ap, eLc_ap, back_nil, back_cons, bk1_none, bk1_fr, bk1_lst, endD_rt, endD_nx, endD_ex, semD_1, semD_2, semD_3, semD_4, semD_5, semD_6, semD_7, semD_8, outs_nil, outs_cons, frO_fr, opAdd_i, opAddI_i, opSub_i, opMod_i, opFdiv_i, opMul_r, opMul_l, opPow_i, opEq_i, opNe_i, opLt_i, opGt_i, opLe_i, opGe_i, opNeg_i, opLen_list, opLen_tup, opLen_lst, opIx_list, opIx_tup, opIx_lst, frOp_ap, onlyFr_fr, dat_fr, dat_lst, datL_nil, datL_fr, datL_lst, allFr_nil, allFr_cons, asS_list, asS_tup, opList_ap, opTuple_ap, ixN_nat, atI_0, atI_1, atI_2, atI_3, atI_4, atI_map, atI_int, pV_ap, getAt_ap, getP_nil, getP_ix, setAt_ap, setP_nil, setP_ix, pix_ok, pIx_ap, six_ok, sSetIx_ap, pp0_ok, ePop_ap, par2_ok, sPar_ap, aug1_ok, sAug_ap, opIsN_ap, isNoT_none, isNoT_int, isNoT_list, isNoT_tup, isNoT_lst, typT_fr, typT_lst, typD_none, typD_bool, typD_int, typD_str, typD_list, typD_tuple, isa_NoneType_bool, isa_NoneType_int, isa_NoneType_str, isa_NoneType_list, isa_NoneType_tuple, isa_NoneType_dict, isa_bool_bool, isa_bool_int, isa_bool_str, isa_bool_list, isa_bool_tuple, isa_bool_dict, isa_int_bool, isa_int_int, isa_int_str, isa_int_list, isa_int_tuple, isa_int_dict, isa_str_bool, isa_str_int, isa_str_str, isa_str_list, isa_str_tuple, isa_str_dict, isa_list_bool, isa_list_int, isa_list_str, isa_list_list, isa_list_tuple, isa_list_dict, isa_tuple_bool, isa_tuple_int, isa_tuple_str, isa_tuple_list, isa_tuple_tuple, isa_tuple_dict, isa_dict_bool, isa_dict_int, isa_dict_str, isa_dict_list, isa_dict_tuple, isa_dict_dict, opEq_emp, opEq_fe, opIn_ints, Option.bind_some, Option.map_some, List.map_cons, List.map_nil, List.cons_append, List.nil_append, List.append_nil, List.replicate, List.length_cons, List.length_nil, List.set_cons_succ, List.set_cons_zero, Nat.lt_add_one, if_true, if_false, Nat.reduceAdd, Nat.reduceLT, Nat.reduceLeDiff, List.not_mem_nil, List.mem_cons, Nat.reduceEqDiff, or_false, or_true, false_or, true_or, Bool.not_true, Bool.not_false, Bool.false_eq_true, reduceIte, Option.bind_eq_bind, Int.reduceAdd, Int.reduceSub, Int.reduceMul, Int.reduceLT, Int.reduceLE, Int.reduceNeg, Int.cast_ofNat_Int, Int.natCast_one, Int.natCast_zero, Int.reduceEq, Int.reduceNe, Int.toNat_natCast, Int.reduceToNat, Int.reducePow, List.isEmpty_nil, List.isEmpty_cons, List.getElem?_cons_succ, List.getElem?_cons_zero, reduceCtorEq, Nat.succ_eq_add_one, Nat.add_zero, Nat.zero_add, and_self, and_true, true_and, decide_true, decide_false, List.reverse_cons, List.reverse_nil, Option.map_eq_map, Bool.not_eq_true, Bool.not_eq_false, Bool.xor_false, Bool.xor_true, Bool.false_xor, Bool.true_xor, Nat.reduceSub, List.dropLast_cons₂, List.dropLast_singleton, decide_eq_true_eq, List.length_map, Nat.zero_le, e]
      exact ⟨_, rfl, fun _ => ⟨_, rfl, rfl⟩, fun _ => rfl⟩)]
    simp only [gsx_ok, gSi_ap, sxf_ok, sxe_ok, sSetIxE_ap, sx0_ok, sExt0_ap, par3_ok, sPar3_ap, kMt_ap, kLenSet_ap, iRange3_ap, opCount_fr, dat_map, opEq_lists, opEq_2, opNe_bl, opEq_bl, datL_map, sTry_ap, tryR_nx, tryR_rt, tryR_ex, hdl_t, hdl_f, handle_nil, handle_ap, asL_list, asL_map, opSum_fr, opSum_lst, opMin_2, opMax_2, opSl_list, opSl_map, opSl_tup, cutL_map, bnd_ok, bnd_ex, ofR_ok, ofR_ex, SZ_eq, kC_ap, slot_c0, slot_cs, kV_ap, frR_ok, kOk_ap, k1_ap, k2_ap, e1_ap, okR_ok, e2a_ok, e2b_ok, e2a_ex, e2b_ex, e2_ap, eMv_ap, cpk_ok, eCp_ap, eFz_ap, kNil_ap, kCons_ap, eNil_ap, ecb_ok, ecb_ex, eca_ok, eca_ex, eCons_ap, eBor_ap, rT_ok, kCall_ap, rE_ok, rE_ex, rA_ok, eCall_ap, takeA_nil, tkc_ok, takeA_own, takeA_bor, putA_nil, putA_own, putA_bor, allF_nil, allF_cons, tV_ap, tVK_ap, tB_ap, tBK_ap, tNot_ap, tan_t, tan_f, tan_ex, tor_t, tor_f, tor_ex, tAnd_ap, tOr_ap, isB_bl, truth_bl, truth_lst, truth_list, truth_int, ean_t, ean_f, eAnd_ap, eor_t, eor_f, eOr_ap, eNot_ap, ifk_t, ifk_f, ifk_ex, eIf_ap, chk_t, chk_f, kCh_ap, kN_ap, eN_ap, ownsA_nil, ownsA_own, kTup_ap, kLst_ap, eTup_ap, eLst_ap, kIsi_ap, kSl_ap, eSl_ap, parI_ok, kPart_ap, kNoPart_ap, kRev_ap, gN_ap, gTp_tup, gCs_cons, gNl_nil, iIt_ap, items_list, items_tuple, iRange1_ap, rg1_ok, iRange2_ap, rg2_ok, tYesF_ap, nxt_nx, nxt_rt, nxt_ex, nxt_bk, nxt_ct, sSeq_ap, sNil_ap, sBk_ap, sCt_ap, sRaise_ap, sExpr_ap, sRet_ap, sRetN_ap, ifs_t, ifs_f, ifs_ex, sIf_ap, sSet_ap, sTgt_ap, kild_nx, kild_ct, kild_rt, kild_bk, kild_ex, kill_ap, wipe_nil, wipe_cons, app0_ok, isLst_ok, sApp0_ap, sFor_ap, sForE_ap, eLc_ap, back_nil, back_cons, bk1_none, bk1_fr, bk1_lst, endD_rt, endD_nx, endD_ex, semD_1, semD_2, semD_3, semD_4, semD_5, semD_6, semD_7, semD_8, outs_nil, outs_cons, frO_fr, opAdd_i, opAddI_i, opSub_i, opMod_i, opFdiv_i, opMul_r, opMul_l, opPow_i, opEq_i, opNe_i, opLt_i, opGt_i, opLe_i, opGe_i, opNeg_i, opLen_list, opLen_tup, opLen_lst, opIx_list, opIx_tup, opIx_lst, frOp_ap, onlyFr_fr, dat_fr, dat_lst, datL_nil, datL_fr, datL_lst, allFr_nil, allFr_cons, asS_list, asS_tup, opList_ap, opTuple_ap, ixN_nat, atI_0, atI_1, atI_2, atI_3, atI_4, atI_map, atI_int, pV_ap, getAt_ap, getP_nil, getP_ix, setAt_ap, setP_nil, setP_ix, pix_ok, pIx_ap, six_ok, sSetIx_ap, pp0_ok, ePop_ap, par2_ok, sPar_ap, aug1_ok, sAug_ap, opIsN_ap, isNoT_none, isNoT_int, isNoT_list, isNoT_tup, isNoT_lst, typT_fr, typT_lst, typD_none, typD_bool, typD_int, typD_str, typD_list, typD_tuple, isa_NoneType_bool, isa_NoneType_int, isa_NoneType_str, isa_NoneType_list, isa_NoneType_tuple, isa_NoneType_dict, isa_bool_bool, isa_bool_int, isa_bool_str, isa_bool_list, isa_bool_tuple, isa_bool_dict, isa_int_bool, isa_int_int, isa_int_str, isa_int_list, isa_int_tuple, isa_int_dict, isa_str_bool, isa_str_int, isa_str_str, isa_str_list, isa_str_tuple, isa_str_dict, isa_list_bool, isa_list_int, isa_list_str, isa_list_list, isa_list_tuple, isa_list_dict, isa_tuple_bool, isa_tuple_int, isa_tuple_str, isa_tuple_list, isa_tuple_tuple, isa_tuple_dict, isa_dict_bool, isa_dict_int, isa_dict_str, isa_dict_list, isa_dict_tuple, isa_dict_dict, opEq_emp, opEq_fe, opIn_ints, Option.bind_some, Option.map_some, List.map_cons, List.map_nil, List.cons_append, List.nil_append, List.append_nil, List.replicate, List.length_cons, List.length_nil, List.set_cons_succ, List.set_cons_zero, Nat.lt_add_one, if_true, if_false, Nat.reduceAdd, Nat.reduceLT, Nat.reduceLeDiff, List.not_mem_nil, List.mem_cons, Nat.reduceEqDiff, or_false, or_true, false_or, true_or, Bool.not_true, Bool.not_false, Bool.false_eq_true, reduceIte, Option.bind_eq_bind, Int.reduceAdd, Int.reduceSub, Int.reduceMul, Int.reduceLT, Int.reduceLE, Int.reduceNeg, Int.cast_ofNat_Int, Int.natCast_one, Int.natCast_zero, Int.reduceEq, Int.reduceNe, Int.toNat_natCast, Int.reduceToNat, Int.reducePow, List.isEmpty_nil, List.isEmpty_cons, List.getElem?_cons_succ, List.getElem?_cons_zero, reduceCtorEq, Nat.succ_eq_add_one, Nat.add_zero, Nat.zero_add, and_self, and_true, true_and, decide_true, decide_false, List.reverse_cons, List.reverse_nil, Option.map_eq_map, Bool.not_eq_true, Bool.not_eq_false, Bool.xor_false, Bool.xor_true, Bool.false_xor, Bool.true_xor, Nat.reduceSub, List.dropLast_cons₂, List.dropLast_singleton, decide_eq_true_eq, List.length_map, Nat.zero_le]
  have em : (!((ds.filter fun d => !okDig b d).map T.fr).isEmpty) = !(ds.all (okDig b)) := by
    rw [List.isEmpty_map, filter_emp]
  by_cases h : (ds.length : Int) = p
  · simp only [gsx_ok, gSi_ap, sxf_ok, sxe_ok, sSetIxE_ap, sx0_ok, sExt0_ap, par3_ok, sPar3_ap, kMt_ap, kLenSet_ap, iRange3_ap, opCount_fr, dat_map, opEq_lists, opEq_2, opNe_bl, opEq_bl, datL_map, sTry_ap, tryR_nx, tryR_rt, tryR_ex, hdl_t, hdl_f, handle_nil, handle_ap, asL_list, asL_map, opSum_fr, opSum_lst, opMin_2, opMax_2, opSl_list, opSl_map, opSl_tup, cutL_map, bnd_ok, bnd_ex, ofR_ok, ofR_ex, SZ_eq, kC_ap, slot_c0, slot_cs, kV_ap, frR_ok, kOk_ap, k1_ap, k2_ap, e1_ap, okR_ok, e2a_ok, e2b_ok, e2a_ex, e2b_ex, e2_ap, eMv_ap, cpk_ok, eCp_ap, eFz_ap, kNil_ap, kCons_ap, eNil_ap, ecb_ok, ecb_ex, eca_ok, eca_ex, eCons_ap, eBor_ap, rT_ok, kCall_ap, rE_ok, rE_ex, rA_ok, eCall_ap, takeA_nil, tkc_ok, takeA_own, takeA_bor, putA_nil, putA_own, putA_bor, allF_nil, allF_cons, tV_ap, tVK_ap, tB_ap, tBK_ap, tNot_ap, tan_t, tan_f, tan_ex, tor_t, tor_f, tor_ex, tAnd_ap, tOr_ap, isB_bl, truth_bl, truth_lst, truth_list, truth_int, ean_t, ean_f, eAnd_ap, eor_t, eor_f, eOr_ap, eNot_ap, ifk_t, ifk_f, ifk_ex, eIf_ap, chk_t, chk_f, kCh_ap, kN_ap, eN_ap, ownsA_nil, ownsA_own, kTup_ap, kLst_ap, eTup_ap, eLst_ap, kIsi_ap, kSl_ap, eSl_ap, parI_ok, kPart_ap, kNoPart_ap, kRev_ap, gN_ap, gTp_tup, gCs_cons, gNl_nil, iIt_ap, items_list, items_tuple, iRange1_ap, rg1_ok, iRange2_ap, rg2_ok, tYesF_ap, nxt_nx, nxt_rt, nxt_ex, nxt_bk, nxt_ct, sSeq_ap, sNil_ap, sBk_ap, sCt_ap, sRaise_ap, sExpr_ap, sRet_ap, sRetN_ap, ifs_t, ifs_f, ifs_ex, sIf_ap, sSet_ap, sTgt_ap, kild_nx, kild_ct, kild_rt, kild_bk, kild_ex, kill_ap, wipe_nil, wipe_cons, app0_ok, isLst_ok, sApp0_ap, sFor_ap, sForE_ap, eLc_ap, back_nil, back_cons, bk1_none, bk1_fr, bk1_lst, endD_rt, endD_nx, endD_ex, semD_1, semD_2, semD_3, semD_4, semD_5, semD_6, semD_7, semD_8, outs_nil, outs_cons, frO_fr, opAdd_i, opAddI_i, opSub_i, opMod_i, opFdiv_i, opMul_r, opMul_l, opPow_i, opEq_i, opNe_i, opLt_i, opGt_i, opLe_i, opGe_i, opNeg_i, opLen_list, opLen_tup, opLen_lst, opIx_list, opIx_tup, opIx_lst, frOp_ap, onlyFr_fr, dat_fr, dat_lst, datL_nil, datL_fr, datL_lst, allFr_nil, allFr_cons, asS_list, asS_tup, opList_ap, opTuple_ap, ixN_nat, atI_0, atI_1, atI_2, atI_3, atI_4, atI_map, atI_int, pV_ap, getAt_ap, getP_nil, getP_ix, setAt_ap, setP_nil, setP_ix, pix_ok, pIx_ap, six_ok, sSetIx_ap, pp0_ok, ePop_ap, par2_ok, sPar_ap, aug1_ok, sAug_ap, opIsN_ap, isNoT_none, isNoT_int, isNoT_list, isNoT_tup, isNoT_lst, typT_fr, typT_lst, typD_none, typD_bool, typD_int, typD_str, typD_list, typD_tuple, isa_NoneType_bool, isa_NoneType_int, isa_NoneType_str, isa_NoneType_list, isa_NoneType_tuple, isa_NoneType_dict, isa_bool_bool, isa_bool_int, isa_bool_str, isa_bool_list, isa_bool_tuple, isa_bool_dict, isa_int_bool, isa_int_int, isa_int_str, isa_int_list, isa_int_tuple, isa_int_dict, isa_str_bool, isa_str_int, isa_str_str, isa_str_list, isa_str_tuple, isa_str_dict, isa_list_bool, isa_list_int, isa_list_str, isa_list_list, isa_list_tuple, isa_list_dict, isa_tuple_bool, isa_tuple_int, isa_tuple_str, isa_tuple_list, isa_tuple_tuple, isa_tuple_dict, isa_dict_bool, isa_dict_int, isa_dict_str, isa_dict_list, isa_dict_tuple, isa_dict_dict, opEq_emp, opEq_fe, opIn_ints, Option.bind_some, Option.map_some, List.map_cons, List.map_nil, List.cons_append, List.nil_append, List.append_nil, List.replicate, List.length_cons, List.length_nil, List.set_cons_succ, List.set_cons_zero, Nat.lt_add_one, if_true, if_false, Nat.reduceAdd, Nat.reduceLT, Nat.reduceLeDiff, List.not_mem_nil, List.mem_cons, Nat.reduceEqDiff, or_false, or_true, false_or, true_or, Bool.not_true, Bool.not_false, Bool.false_eq_true, reduceIte, Option.bind_eq_bind, Int.reduceAdd, Int.reduceSub, Int.reduceMul, Int.reduceLT, Int.reduceLE, Int.reduceNeg, Int.cast_ofNat_Int, Int.natCast_one, Int.natCast_zero, Int.reduceEq, Int.reduceNe, Int.toNat_natCast, Int.reduceToNat, Int.reducePow, List.isEmpty_nil, List.isEmpty_cons, List.getElem?_cons_succ, List.getElem?_cons_zero, reduceCtorEq, Nat.succ_eq_add_one, Nat.add_zero, Nat.zero_add, and_self, and_true, true_and, decide_true, decide_false, List.reverse_cons, List.reverse_nil, Option.map_eq_map, Bool.not_eq_true, Bool.not_eq_false, Bool.xor_false, Bool.xor_true, Bool.false_xor, Bool.true_xor, Nat.reduceSub, List.dropLast_cons₂, List.dropLast_singleton, decide_eq_true_eq, List.length_map, Nat.zero_le, h, c1, em]
    exact ⟨_, by simp; rfl⟩
  · simp only [gsx_ok, gSi_ap, sxf_ok, sxe_ok, sSetIxE_ap, sx0_ok, sExt0_ap, par3_ok, sPar3_ap, kMt_ap, kLenSet_ap, iRange3_ap, opCount_fr, dat_map, opEq_lists, opEq_2, opNe_bl, opEq_bl, datL_map, sTry_ap, tryR_nx, tryR_rt, tryR_ex, hdl_t, hdl_f, handle_nil, handle_ap, asL_list, asL_map, opSum_fr, opSum_lst, opMin_2, opMax_2, opSl_list, opSl_map, opSl_tup, cutL_map, bnd_ok, bnd_ex, ofR_ok, ofR_ex, SZ_eq, kC_ap, slot_c0, slot_cs, kV_ap, frR_ok, kOk_ap, k1_ap, k2_ap, e1_ap, okR_ok, e2a_ok, e2b_ok, e2a_ex, e2b_ex, e2_ap, eMv_ap, cpk_ok, eCp_ap, eFz_ap, kNil_ap, kCons_ap, eNil_ap, ecb_ok, ecb_ex, eca_ok, eca_ex, eCons_ap, eBor_ap, rT_ok, kCall_ap, rE_ok, rE_ex, rA_ok, eCall_ap, takeA_nil, tkc_ok, takeA_own, takeA_bor, putA_nil, putA_own, putA_bor, allF_nil, allF_cons, tV_ap, tVK_ap, tB_ap, tBK_ap, tNot_ap, tan_t, tan_f, tan_ex, tor_t, tor_f, tor_ex, tAnd_ap, tOr_ap, isB_bl, truth_bl, truth_lst, truth_list, truth_int, ean_t, ean_f, eAnd_ap, eor_t, eor_f, eOr_ap, eNot_ap, ifk_t, ifk_f, ifk_ex, eIf_ap, chk_t, chk_f, kCh_ap, kN_ap, eN_ap, ownsA_nil, ownsA_own, kTup_ap, kLst_ap, eTup_ap, eLst_ap, kIsi_ap, kSl_ap, eSl_ap, parI_ok, kPart_ap, kNoPart_ap, kRev_ap, gN_ap, gTp_tup, gCs_cons, gNl_nil, iIt_ap, items_list, items_tuple, iRange1_ap, rg1_ok, iRange2_ap, rg2_ok, tYesF_ap, nxt_nx, nxt_rt, nxt_ex, nxt_bk, nxt_ct, sSeq_ap, sNil_ap, sBk_ap, sCt_ap, sRaise_ap, sExpr_ap, sRet_ap, sRetN_ap, ifs_t, ifs_f, ifs_ex, sIf_ap, sSet_ap, sTgt_ap, kild_nx, kild_ct, kild_rt, kild_bk, kild_ex, kill_ap, wipe_nil, wipe_cons, app0_ok, isLst_ok, sApp0_ap, sFor_ap, sForE_ap, eLc_ap, back_nil, back_cons, bk1_none, bk1_fr, bk1_lst, endD_rt, endD_nx, endD_ex, semD_1, semD_2, semD_3, semD_4, semD_5, semD_6, semD_7, semD_8, outs_nil, outs_cons, frO_fr, opAdd_i, opAddI_i, opSub_i, opMod_i, opFdiv_i, opMul_r, opMul_l, opPow_i, opEq_i, opNe_i, opLt_i, opGt_i, opLe_i, opGe_i, opNeg_i, opLen_list, opLen_tup, opLen_lst, opIx_list, opIx_tup, opIx_lst, frOp_ap, onlyFr_fr, dat_fr, dat_lst, datL_nil, datL_fr, datL_lst, allFr_nil, allFr_cons, asS_list, asS_tup, opList_ap, opTuple_ap, ixN_nat, atI_0, atI_1, atI_2, atI_3, atI_4, atI_map, atI_int, pV_ap, getAt_ap, getP_nil, getP_ix, setAt_ap, setP_nil, setP_ix, pix_ok, pIx_ap, six_ok, sSetIx_ap, pp0_ok, ePop_ap, par2_ok, sPar_ap, aug1_ok, sAug_ap, opIsN_ap, isNoT_none, isNoT_int, isNoT_list, isNoT_tup, isNoT_lst, typT_fr, typT_lst, typD_none, typD_bool, typD_int, typD_str, typD_list, typD_tuple, isa_NoneType_bool, isa_NoneType_int, isa_NoneType_str, isa_NoneType_list, isa_NoneType_tuple, isa_NoneType_dict, isa_bool_bool, isa_bool_int, isa_bool_str, isa_bool_list, isa_bool_tuple, isa_bool_dict, isa_int_bool, isa_int_int, isa_int_str, isa_int_list, isa_int_tuple, isa_int_dict, isa_str_bool, isa_str_int, isa_str_str, isa_str_list, isa_str_tuple, isa_str_dict, isa_list_bool, isa_list_int, isa_list_str, isa_list_list, isa_list_tuple, isa_list_dict, isa_tuple_bool, isa_tuple_int, isa_tuple_str, isa_tuple_list, isa_tuple_tuple, isa_tuple_dict, isa_dict_bool, isa_dict_int, isa_dict_str, isa_dict_list, isa_dict_tuple, isa_dict_dict, opEq_emp, opEq_fe, opIn_ints, Option.bind_some, Option.map_some, List.map_cons, List.map_nil, List.cons_append, List.nil_append, List.append_nil, List.replicate, List.length_cons, List.length_nil, List.set_cons_succ, List.set_cons_zero, Nat.lt_add_one, if_true, if_false, Nat.reduceAdd, Nat.reduceLT, Nat.reduceLeDiff, List.not_mem_nil, List.mem_cons, Nat.reduceEqDiff, or_false, or_true, false_or, true_or, Bool.not_true, Bool.not_false, Bool.false_eq_true, reduceIte, Option.bind_eq_bind, Int.reduceAdd, Int.reduceSub, Int.reduceMul, Int.reduceLT, Int.reduceLE, Int.reduceNeg, Int.cast_ofNat_Int, Int.natCast_one, Int.natCast_zero, Int.reduceEq, Int.reduceNe, Int.toNat_natCast, Int.reduceToNat, Int.reducePow, List.isEmpty_nil, List.isEmpty_cons, List.getElem?_cons_succ, List.getElem?_cons_zero, reduceCtorEq, Nat.succ_eq_add_one, Nat.add_zero, Nat.zero_add, and_self, and_true, true_and, decide_true, decide_false, List.reverse_cons, List.reverse_nil, Option.map_eq_map, Bool.not_eq_true, Bool.not_eq_false, Bool.xor_false, Bool.xor_true, Bool.false_xor, Bool.true_xor, Nat.reduceSub, List.dropLast_cons₂, List.dropLast_singleton, decide_eq_true_eq, List.length_map, Nat.zero_le, h]
    exact ⟨_, by simp; rfl⟩
structure Cd (p b : Int) (c : List Int) : Prop where
  len : (c.length : Int) = p
  dig : ∀ x ∈ c, 0 ≤ x ∧ x < b
theorem nodict_ints (c : List Int) : ∀ d ∈ c.map PyData.int, ∀ x, d ≠ .dict x := fun d hd x e => by
  obtain ⟨k, _, rfl⟩ := List.mem_map.mp hd
  cases e
theorem check_code_ok {p b : Int} {c : List Int} (h : Cd p b c) : check_code_sem [.fr (lk p b), .fr (.list (c.map .int))] = some (.ok (.fr .none) [some (.fr (lk p b)), some (.fr (.list (c.map .int)))]) := by
  obtain ⟨os, e⟩ := is_code_ok p b (c.map .int) (nodict_ints c)
  have e1 : (decide (((c.map PyData.int).length : Int) = p) && (c.map PyData.int).all (okDig b)) = true := by
    rw [List.length_map]
    simp only [h.len, decide_true, Bool.true_and, List.all_eq_true]
    intro d hd
    obtain ⟨k, hk, rfl⟩ := List.mem_map.mp hd
    have := h.dig k hk
    simp only [okDig, decide_eq_true_eq]; omega
  rw [e1] at e
  unfold check_code_sem check_code_b
  simp only [gsx_ok, gSi_ap, sxf_ok, sxe_ok, sSetIxE_ap, sx0_ok, sExt0_ap, par3_ok, sPar3_ap, kMt_ap, kLenSet_ap, iRange3_ap, opCount_fr, dat_map, opEq_lists, opEq_2, opNe_bl, opEq_bl, datL_map, sTry_ap, tryR_nx, tryR_rt, tryR_ex, hdl_t, hdl_f, handle_nil, handle_ap, asL_list, asL_map, opSum_fr, opSum_lst, opMin_2, opMax_2, opSl_list, opSl_map, opSl_tup, cutL_map, bnd_ok, bnd_ex, ofR_ok, ofR_ex, SZ_eq, kC_ap, slot_c0, slot_cs, kV_ap, frR_ok, kOk_ap, k1_ap, k2_ap, e1_ap, okR_ok, e2a_ok, e2b_ok, e2a_ex, e2b_ex, e2_ap, eMv_ap, cpk_ok, eCp_ap, eFz_ap, kNil_ap, kCons_ap, eNil_ap, ecb_ok, ecb_ex, eca_ok, eca_ex, eCons_ap, eBor_ap, rT_ok, kCall_ap, rE_ok, rE_ex, rA_ok, eCall_ap, takeA_nil, tkc_ok, takeA_own, takeA_bor, putA_nil, putA_own, putA_bor, allF_nil, allF_cons, tV_ap, tVK_ap, tB_ap, tBK_ap, tNot_ap, tan_t, tan_f, tan_ex, tor_t, tor_f, tor_ex, tAnd_ap, tOr_ap, isB_bl, truth_bl, truth_lst, truth_list, truth_int, ean_t, ean_f, eAnd_ap, eor_t, eor_f, eOr_ap, eNot_ap, ifk_t, ifk_f, ifk_ex, eIf_ap, chk_t, chk_f, kCh_ap, kN_ap, eN_ap, ownsA_nil, ownsA_own, kTup_ap, kLst_ap, eTup_ap, eLst_ap, kIsi_ap, kSl_ap, eSl_ap, parI_ok, kPart_ap, kNoPart_ap, kRev_ap, gN_ap, gTp_tup, gCs_cons, gNl_nil, iIt_ap, items_list, items_tuple, iRange1_ap, rg1_ok, iRange2_ap, rg2_ok, tYesF_ap, nxt_nx, nxt_rt, nxt_ex, nxt_bk, nxt_ct, sSeq_ap, sNil_ap, sBk_ap, sCt_ap, sRaise_ap, sExpr_ap, sRet_ap, sRetN_ap, ifs_t, ifs_f, ifs_ex, sIf_ap, sSet_ap, sTgt_ap, kild_nx, kild_ct, kild_rt, kild_bk, kild_ex, kill_ap, wipe_nil, wipe_cons, app0_ok, isLst_ok, sApp0_ap, sFor_ap, sForE_ap, eLc_ap, back_nil, back_cons, bk1_none, bk1_fr, bk1_lst, endD_rt, endD_nx, endD_ex, semD_1, semD_2, semD_3, semD_4, semD_5, semD_6, semD_7, semD_8, outs_nil, outs_cons, frO_fr, opAdd_i, opAddI_i, opSub_i, opMod_i, opFdiv_i, opMul_r, opMul_l, opPow_i, opEq_i, opNe_i, opLt_i, opGt_i, opLe_i, opGe_i, opNeg_i, opLen_list, opLen_tup, opLen_lst, opIx_list, opIx_tup, opIx_lst, frOp_ap, onlyFr_fr, dat_fr, dat_lst, datL_nil, datL_fr, datL_lst, allFr_nil, allFr_cons, asS_list, asS_tup, opList_ap, opTuple_ap, ixN_nat, atI_0, atI_1, atI_2, atI_3, atI_4, atI_map, atI_int, pV_ap, getAt_ap, getP_nil, getP_ix, setAt_ap, setP_nil, setP_ix, pix_ok, pIx_ap, six_ok, sSetIx_ap, pp0_ok, ePop_ap, par2_ok, sPar_ap, aug1_ok, sAug_ap, opIsN_ap, isNoT_none, isNoT_int, isNoT_list, isNoT_tup, isNoT_lst, typT_fr, typT_lst, typD_none, typD_bool, typD_int, typD_str, typD_list, typD_tuple, isa_NoneType_bool, isa_NoneType_int, isa_NoneType_str, isa_NoneType_list, isa_NoneType_tuple, isa_NoneType_dict, isa_bool_bool, isa_bool_int, isa_bool_str, isa_bool_list, isa_bool_tuple, isa_bool_dict, isa_int_bool, isa_int_int, isa_int_str, isa_int_list, isa_int_tuple, isa_int_dict, isa_str_bool, isa_str_int, isa_str_str, isa_str_list, isa_str_tuple, isa_str_dict, isa_list_bool, isa_list_int, isa_list_str, isa_list_list, isa_list_tuple, isa_list_dict, isa_tuple_bool, isa_tuple_int, isa_tuple_str, isa_tuple_list, isa_tuple_tuple, isa_tuple_dict, isa_dict_bool, isa_dict_int, isa_dict_str, isa_dict_list, isa_dict_tuple, isa_dict_dict, opEq_emp, opEq_fe, opIn_ints, Option.bind_some, Option.map_some, List.map_cons, List.map_nil, List.cons_append, List.nil_append, List.append_nil, List.replicate, List.length_cons, List.length_nil, List.set_cons_succ, List.set_cons_zero, Nat.lt_add_one, if_true, if_false, Nat.reduceAdd, Nat.reduceLT, Nat.reduceLeDiff, List.not_mem_nil, List.mem_cons, Nat.reduceEqDiff, or_false, or_true, false_or, true_or, Bool.not_true, Bool.not_false, Bool.false_eq_true, reduceIte, Option.bind_eq_bind, Int.reduceAdd, Int.reduceSub, Int.reduceMul, Int.reduceLT, Int.reduceLE, Int.reduceNeg, Int.cast_ofNat_Int, Int.natCast_one, Int.natCast_zero, Int.reduceEq, Int.reduceNe, Int.toNat_natCast, Int.reduceToNat, Int.reducePow, List.isEmpty_nil, List.isEmpty_cons, List.getElem?_cons_succ, List.getElem?_cons_zero, reduceCtorEq, Nat.succ_eq_add_one, Nat.add_zero, Nat.zero_add, and_self, and_true, true_and, decide_true, decide_false, List.reverse_cons, List.reverse_nil, Option.map_eq_map, Bool.not_eq_true, Bool.not_eq_false, Bool.xor_false, Bool.xor_true, Bool.false_xor, Bool.true_xor, Nat.reduceSub, List.dropLast_cons₂, List.dropLast_singleton, decide_eq_true_eq, List.length_map, Nat.zero_le, e]
theorem check_code_no (p b : Int) (w : D) (h : ∃ os, is_code_sem [.fr (lk p b), .fr w] = some (.ok (.fr (.bool false)) os)) : check_code_sem [.fr (lk p b), .fr w] = some (.ex "BadCode") := by
  obtain ⟨os, e⟩ := h
  unfold check_code_sem check_code_b
  simp only [gsx_ok, gSi_ap, sxf_ok, sxe_ok, sSetIxE_ap, sx0_ok, sExt0_ap, par3_ok, sPar3_ap, kMt_ap, kLenSet_ap, iRange3_ap, opCount_fr, dat_map, opEq_lists, opEq_2, opNe_bl, opEq_bl, datL_map, sTry_ap, tryR_nx, tryR_rt, tryR_ex, hdl_t, hdl_f, handle_nil, handle_ap, asL_list, asL_map, opSum_fr, opSum_lst, opMin_2, opMax_2, opSl_list, opSl_map, opSl_tup, cutL_map, bnd_ok, bnd_ex, ofR_ok, ofR_ex, SZ_eq, kC_ap, slot_c0, slot_cs, kV_ap, frR_ok, kOk_ap, k1_ap, k2_ap, e1_ap, okR_ok, e2a_ok, e2b_ok, e2a_ex, e2b_ex, e2_ap, eMv_ap, cpk_ok, eCp_ap, eFz_ap, kNil_ap, kCons_ap, eNil_ap, ecb_ok, ecb_ex, eca_ok, eca_ex, eCons_ap, eBor_ap, rT_ok, kCall_ap, rE_ok, rE_ex, rA_ok, eCall_ap, takeA_nil, tkc_ok, takeA_own, takeA_bor, putA_nil, putA_own, putA_bor, allF_nil, allF_cons, tV_ap, tVK_ap, tB_ap, tBK_ap, tNot_ap, tan_t, tan_f, tan_ex, tor_t, tor_f, tor_ex, tAnd_ap, tOr_ap, isB_bl, truth_bl, truth_lst, truth_list, truth_int, ean_t, ean_f, eAnd_ap, eor_t, eor_f, eOr_ap, eNot_ap, ifk_t, ifk_f, ifk_ex, eIf_ap, chk_t, chk_f, kCh_ap, kN_ap, eN_ap, ownsA_nil, ownsA_own, kTup_ap, kLst_ap, eTup_ap, eLst_ap, kIsi_ap, kSl_ap, eSl_ap, parI_ok, kPart_ap, kNoPart_ap, kRev_ap, gN_ap, gTp_tup, gCs_cons, gNl_nil, iIt_ap, items_list, items_tuple, iRange1_ap, rg1_ok, iRange2_ap, rg2_ok, tYesF_ap, nxt_nx, nxt_rt, nxt_ex, nxt_bk, nxt_ct, sSeq_ap, sNil_ap, sBk_ap, sCt_ap, sRaise_ap, sExpr_ap, sRet_ap, sRetN_ap, ifs_t, ifs_f, ifs_ex, sIf_ap, sSet_ap, sTgt_ap, kild_nx, kild_ct, kild_rt, kild_bk, kild_ex, kill_ap, wipe_nil, wipe_cons, app0_ok, isLst_ok, sApp0_ap, sFor_ap, sForE_ap, eLc_ap, back_nil, back_cons, bk1_none, bk1_fr, bk1_lst, endD_rt, endD_nx, endD_ex, semD_1, semD_2, semD_3, semD_4, semD_5, semD_6, semD_7, semD_8, outs_nil, outs_cons, frO_fr, opAdd_i, opAddI_i, opSub_i, opMod_i, opFdiv_i, opMul_r, opMul_l, opPow_i, opEq_i, opNe_i, opLt_i, opGt_i, opLe_i, opGe_i, opNeg_i, opLen_list, opLen_tup, opLen_lst, opIx_list, opIx_tup, opIx_lst, frOp_ap, onlyFr_fr, dat_fr, dat_lst, datL_nil, datL_fr, datL_lst, allFr_nil, allFr_cons, asS_list, asS_tup, opList_ap, opTuple_ap, ixN_nat, atI_0, atI_1, atI_2, atI_3, atI_4, atI_map, atI_int, pV_ap, getAt_ap, getP_nil, getP_ix, setAt_ap, setP_nil, setP_ix, pix_ok, pIx_ap, six_ok, sSetIx_ap, pp0_ok, ePop_ap, par2_ok, sPar_ap, aug1_ok, sAug_ap, opIsN_ap, isNoT_none, isNoT_int, isNoT_list, isNoT_tup, isNoT_lst, typT_fr, typT_lst, typD_none, typD_bool, typD_int, typD_str, typD_list, typD_tuple, isa_NoneType_bool, isa_NoneType_int, isa_NoneType_str, isa_NoneType_list, isa_NoneType_tuple, isa_NoneType_dict, isa_bool_bool, isa_bool_int, isa_bool_str, isa_bool_list, isa_bool_tuple, isa_bool_dict, isa_int_bool, isa_int_int, isa_int_str, isa_int_list, isa_int_tuple, isa_int_dict, isa_str_bool, isa_str_int, isa_str_str, isa_str_list, isa_str_tuple, isa_str_dict, isa_list_bool, isa_list_int, isa_list_str, isa_list_list, isa_list_tuple, isa_list_dict, isa_tuple_bool, isa_tuple_int, isa_tuple_str, isa_tuple_list, isa_tuple_tuple, isa_tuple_dict, isa_dict_bool, isa_dict_int, isa_dict_str, isa_dict_list, isa_dict_tuple, isa_dict_dict, opEq_emp, opEq_fe, opIn_ints, Option.bind_some, Option.map_some, List.map_cons, List.map_nil, List.cons_append, List.nil_append, List.append_nil, List.replicate, List.length_cons, List.length_nil, List.set_cons_succ, List.set_cons_zero, Nat.lt_add_one, if_true, if_false, Nat.reduceAdd, Nat.reduceLT, Nat.reduceLeDiff, List.not_mem_nil, List.mem_cons, Nat.reduceEqDiff, or_false, or_true, false_or, true_or, Bool.not_true, Bool.not_false, Bool.false_eq_true, reduceIte, Option.bind_eq_bind, Int.reduceAdd, Int.reduceSub, Int.reduceMul, Int.reduceLT, Int.reduceLE, Int.reduceNeg, Int.cast_ofNat_Int, Int.natCast_one, Int.natCast_zero, Int.reduceEq, Int.reduceNe, Int.toNat_natCast, Int.reduceToNat, Int.reducePow, List.isEmpty_nil, List.isEmpty_cons, List.getElem?_cons_succ, List.getElem?_cons_zero, reduceCtorEq, Nat.succ_eq_add_one, Nat.add_zero, Nat.zero_add, and_self, and_true, true_and, decide_true, decide_false, List.reverse_cons, List.reverse_nil, Option.map_eq_map, Bool.not_eq_true, Bool.not_eq_false, Bool.xor_false, Bool.xor_true, Bool.false_xor, Bool.true_xor, Nat.reduceSub, List.dropLast_cons₂, List.dropLast_singleton, decide_eq_true_eq, List.length_map, Nat.zero_le, e]
theorem is_code_no {p b : Int} {w : D} (h : (∀ ds, w = .list ds → (∀ d ∈ ds, ∀ x, d ≠ .dict x) ∧ (decide ((ds.length : Int) = p) && ds.all (okDig b)) = false)) (hw : ∀ x, w ≠ .dict x) : ∃ os, is_code_sem [.fr (lk p b), .fr w] = some (.ok (.fr (.bool false)) os) := by
  cases w with
  | list ds =>
    obtain ⟨h1, h2⟩ := h ds rfl
    obtain ⟨os, e⟩ := is_code_ok p b ds h1
    rw [h2] at e
    exact ⟨os, e⟩
  | dict x => exact absurd rfl (hw x)
  | none => exact ⟨_, by unfold is_code_sem is_code_b; simp only [gsx_ok, gSi_ap, sxf_ok, sxe_ok, sSetIxE_ap, sx0_ok, sExt0_ap, par3_ok, sPar3_ap, kMt_ap, kLenSet_ap, iRange3_ap, opCount_fr, dat_map, opEq_lists, opEq_2, opNe_bl, opEq_bl, datL_map, sTry_ap, tryR_nx, tryR_rt, tryR_ex, hdl_t, hdl_f, handle_nil, handle_ap, asL_list, asL_map, opSum_fr, opSum_lst, opMin_2, opMax_2, opSl_list, opSl_map, opSl_tup, cutL_map, bnd_ok, bnd_ex, ofR_ok, ofR_ex, SZ_eq, kC_ap, slot_c0, slot_cs, kV_ap, frR_ok, kOk_ap, k1_ap, k2_ap, e1_ap, okR_ok, e2a_ok, e2b_ok, e2a_ex, e2b_ex, e2_ap, eMv_ap, cpk_ok, eCp_ap, eFz_ap, kNil_ap, kCons_ap, eNil_ap, ecb_ok, ecb_ex, eca_ok, eca_ex, eCons_ap, eBor_ap, rT_ok, kCall_ap, rE_ok, rE_ex, rA_ok, eCall_ap, takeA_nil, tkc_ok, takeA_own, takeA_bor, putA_nil, putA_own, putA_bor, allF_nil, allF_cons, tV_ap, tVK_ap, tB_ap, tBK_ap, tNot_ap, tan_t, tan_f, tan_ex, tor_t, tor_f, tor_ex, tAnd_ap, tOr_ap, isB_bl, truth_bl, truth_lst, truth_list, truth_int, ean_t, ean_f, eAnd_ap, eor_t, eor_f, eOr_ap, eNot_ap, ifk_t, ifk_f, ifk_ex, eIf_ap, chk_t, chk_f, kCh_ap, kN_ap, eN_ap, ownsA_nil, ownsA_own, kTup_ap, kLst_ap, eTup_ap, eLst_ap, kIsi_ap, kSl_ap, eSl_ap, parI_ok, kPart_ap, kNoPart_ap, kRev_ap, gN_ap, gTp_tup, gCs_cons, gNl_nil, iIt_ap, items_list, items_tuple, iRange1_ap, rg1_ok, iRange2_ap, rg2_ok, tYesF_ap, nxt_nx, nxt_rt, nxt_ex, nxt_bk, nxt_ct, sSeq_ap, sNil_ap, sBk_ap, sCt_ap, sRaise_ap, sExpr_ap, sRet_ap, sRetN_ap, ifs_t, ifs_f, ifs_ex, sIf_ap, sSet_ap, sTgt_ap, kild_nx, kild_ct, kild_rt, kild_bk, kild_ex, kill_ap, wipe_nil, wipe_cons, app0_ok, isLst_ok, sApp0_ap, sFor_ap, sForE_ap, eLc_ap, back_nil, back_cons, bk1_none, bk1_fr, bk1_lst, endD_rt, endD_nx, endD_ex, semD_1, semD_2, semD_3, semD_4, semD_5, semD_6, semD_7, semD_8, outs_nil, outs_cons, frO_fr, opAdd_i, opAddI_i, opSub_i, opMod_i, opFdiv_i, opMul_r, opMul_l, opPow_i, opEq_i, opNe_i, opLt_i, opGt_i, opLe_i, opGe_i, opNeg_i, opLen_list, opLen_tup, opLen_lst, opIx_list, opIx_tup, opIx_lst, frOp_ap, onlyFr_fr, dat_fr, dat_lst, datL_nil, datL_fr, datL_lst, allFr_nil, allFr_cons, asS_list, asS_tup, opList_ap, opTuple_ap, ixN_nat, atI_0, atI_1, atI_2, atI_3, atI_4, atI_map, atI_int, pV_ap, getAt_ap, getP_nil, getP_ix, setAt_ap, setP_nil, setP_ix, pix_ok, pIx_ap, six_ok, sSetIx_ap, pp0_ok, ePop_ap, par2_ok, sPar_ap, aug1_ok, sAug_ap, opIsN_ap, isNoT_none, isNoT_int, isNoT_list, isNoT_tup, isNoT_lst, typT_fr, typT_lst, typD_none, typD_bool, typD_int, typD_str, typD_list, typD_tuple, isa_NoneType_bool, isa_NoneType_int, isa_NoneType_str, isa_NoneType_list, isa_NoneType_tuple, isa_NoneType_dict, isa_bool_bool, isa_bool_int, isa_bool_str, isa_bool_list, isa_bool_tuple, isa_bool_dict, isa_int_bool, isa_int_int, isa_int_str, isa_int_list, isa_int_tuple, isa_int_dict, isa_str_bool, isa_str_int, isa_str_str, isa_str_list, isa_str_tuple, isa_str_dict, isa_list_bool, isa_list_int, isa_list_str, isa_list_list, isa_list_tuple, isa_list_dict, isa_tuple_bool, isa_tuple_int, isa_tuple_str, isa_tuple_list, isa_tuple_tuple, isa_tuple_dict, isa_dict_bool, isa_dict_int, isa_dict_str, isa_dict_list, isa_dict_tuple, isa_dict_dict, opEq_emp, opEq_fe, opIn_ints, Option.bind_some, Option.map_some, List.map_cons, List.map_nil, List.cons_append, List.nil_append, List.append_nil, List.replicate, List.length_cons, List.length_nil, List.set_cons_succ, List.set_cons_zero, Nat.lt_add_one, if_true, if_false, Nat.reduceAdd, Nat.reduceLT, Nat.reduceLeDiff, List.not_mem_nil, List.mem_cons, Nat.reduceEqDiff, or_false, or_true, false_or, true_or, Bool.not_true, Bool.not_false, Bool.false_eq_true, reduceIte, Option.bind_eq_bind, Int.reduceAdd, Int.reduceSub, Int.reduceMul, Int.reduceLT, Int.reduceLE, Int.reduceNeg, Int.cast_ofNat_Int, Int.natCast_one, Int.natCast_zero, Int.reduceEq, Int.reduceNe, Int.toNat_natCast, Int.reduceToNat, Int.reducePow, List.isEmpty_nil, List.isEmpty_cons, List.getElem?_cons_succ, List.getElem?_cons_zero, reduceCtorEq, Nat.succ_eq_add_one, Nat.add_zero, Nat.zero_add, and_self, and_true, true_and, decide_true, decide_false, List.reverse_cons, List.reverse_nil, Option.map_eq_map, Bool.not_eq_true, Bool.not_eq_false, Bool.xor_false, Bool.xor_true, Bool.false_xor, Bool.true_xor, Nat.reduceSub, List.dropLast_cons₂, List.dropLast_singleton, decide_eq_true_eq, List.length_map, Nat.zero_le]; rfl⟩
  | bool c => exact ⟨_, by unfold is_code_sem is_code_b; simp only [gsx_ok, gSi_ap, sxf_ok, sxe_ok, sSetIxE_ap, sx0_ok, sExt0_ap, par3_ok, sPar3_ap, kMt_ap, kLenSet_ap, iRange3_ap, opCount_fr, dat_map, opEq_lists, opEq_2, opNe_bl, opEq_bl, datL_map, sTry_ap, tryR_nx, tryR_rt, tryR_ex, hdl_t, hdl_f, handle_nil, handle_ap, asL_list, asL_map, opSum_fr, opSum_lst, opMin_2, opMax_2, opSl_list, opSl_map, opSl_tup, cutL_map, bnd_ok, bnd_ex, ofR_ok, ofR_ex, SZ_eq, kC_ap, slot_c0, slot_cs, kV_ap, frR_ok, kOk_ap, k1_ap, k2_ap, e1_ap, okR_ok, e2a_ok, e2b_ok, e2a_ex, e2b_ex, e2_ap, eMv_ap, cpk_ok, eCp_ap, eFz_ap, kNil_ap, kCons_ap, eNil_ap, ecb_ok, ecb_ex, eca_ok, eca_ex, eCons_ap, eBor_ap, rT_ok, kCall_ap, rE_ok, rE_ex, rA_ok, eCall_ap, takeA_nil, tkc_ok, takeA_own, takeA_bor, putA_nil, putA_own, putA_bor, allF_nil, allF_cons, tV_ap, tVK_ap, tB_ap, tBK_ap, tNot_ap, tan_t, tan_f, tan_ex, tor_t, tor_f, tor_ex, tAnd_ap, tOr_ap, isB_bl, truth_bl, truth_lst, truth_list, truth_int, ean_t, ean_f, eAnd_ap, eor_t, eor_f, eOr_ap, eNot_ap, ifk_t, ifk_f, ifk_ex, eIf_ap, chk_t, chk_f, kCh_ap, kN_ap, eN_ap, ownsA_nil, ownsA_own, kTup_ap, kLst_ap, eTup_ap, eLst_ap, kIsi_ap, kSl_ap, eSl_ap, parI_ok, kPart_ap, kNoPart_ap, kRev_ap, gN_ap, gTp_tup, gCs_cons, gNl_nil, iIt_ap, items_list, items_tuple, iRange1_ap, rg1_ok, iRange2_ap, rg2_ok, tYesF_ap, nxt_nx, nxt_rt, nxt_ex, nxt_bk, nxt_ct, sSeq_ap, sNil_ap, sBk_ap, sCt_ap, sRaise_ap, sExpr_ap, sRet_ap, sRetN_ap, ifs_t, ifs_f, ifs_ex, sIf_ap, sSet_ap, sTgt_ap, kild_nx, kild_ct, kild_rt, kild_bk, kild_ex, kill_ap, wipe_nil, wipe_cons, app0_ok, isLst_ok, sApp0_ap, sFor_ap, sForE_ap, eLc_ap, back_nil, back_cons, bk1_none, bk1_fr, bk1_lst, endD_rt, endD_nx, endD_ex, semD_1, semD_2, semD_3, semD_4, semD_5, semD_6, semD_7, semD_8, outs_nil, outs_cons, frO_fr, opAdd_i, opAddI_i, opSub_i, opMod_i, opFdiv_i, opMul_r, opMul_l, opPow_i, opEq_i, opNe_i, opLt_i, opGt_i, opLe_i, opGe_i, opNeg_i, opLen_list, opLen_tup, opLen_lst, opIx_list, opIx_tup, opIx_lst, frOp_ap, onlyFr_fr, dat_fr, dat_lst, datL_nil, datL_fr, datL_lst, allFr_nil, allFr_cons, asS_list, asS_tup, opList_ap, opTuple_ap, ixN_nat, atI_0, atI_1, atI_2, atI_3, atI_4, atI_map, atI_int, pV_ap, getAt_ap, getP_nil, getP_ix, setAt_ap, setP_nil, setP_ix, pix_ok, pIx_ap, six_ok, sSetIx_ap, pp0_ok, ePop_ap, par2_ok, sPar_ap, aug1_ok, sAug_ap, opIsN_ap, isNoT_none, isNoT_int, isNoT_list, isNoT_tup, isNoT_lst, typT_fr, typT_lst, typD_none, typD_bool, typD_int, typD_str, typD_list, typD_tuple, isa_NoneType_bool, isa_NoneType_int, isa_NoneType_str, isa_NoneType_list, isa_NoneType_tuple, isa_NoneType_dict, isa_bool_bool, isa_bool_int, isa_bool_str, isa_bool_list, isa_bool_tuple, isa_bool_dict, isa_int_bool, isa_int_int, isa_int_str, isa_int_list, isa_int_tuple, isa_int_dict, isa_str_bool, isa_str_int, isa_str_str, isa_str_list, isa_str_tuple, isa_str_dict, isa_list_bool, isa_list_int, isa_list_str, isa_list_list, isa_list_tuple, isa_list_dict, isa_tuple_bool, isa_tuple_int, isa_tuple_str, isa_tuple_list, isa_tuple_tuple, isa_tuple_dict, isa_dict_bool, isa_dict_int, isa_dict_str, isa_dict_list, isa_dict_tuple, isa_dict_dict, opEq_emp, opEq_fe, opIn_ints, Option.bind_some, Option.map_some, List.map_cons, List.map_nil, List.cons_append, List.nil_append, List.append_nil, List.replicate, List.length_cons, List.length_nil, List.set_cons_succ, List.set_cons_zero, Nat.lt_add_one, if_true, if_false, Nat.reduceAdd, Nat.reduceLT, Nat.reduceLeDiff, List.not_mem_nil, List.mem_cons, Nat.reduceEqDiff, or_false, or_true, false_or, true_or, Bool.not_true, Bool.not_false, Bool.false_eq_true, reduceIte, Option.bind_eq_bind, Int.reduceAdd, Int.reduceSub, Int.reduceMul, Int.reduceLT, Int.reduceLE, Int.reduceNeg, Int.cast_ofNat_Int, Int.natCast_one, Int.natCast_zero, Int.reduceEq, Int.reduceNe, Int.toNat_natCast, Int.reduceToNat, Int.reducePow, List.isEmpty_nil, List.isEmpty_cons, List.getElem?_cons_succ, List.getElem?_cons_zero, reduceCtorEq, Nat.succ_eq_add_one, Nat.add_zero, Nat.zero_add, and_self, and_true, true_and, decide_true, decide_false, List.reverse_cons, List.reverse_nil, Option.map_eq_map, Bool.not_eq_true, Bool.not_eq_false, Bool.xor_false, Bool.xor_true, Bool.false_xor, Bool.true_xor, Nat.reduceSub, List.dropLast_cons₂, List.dropLast_singleton, decide_eq_true_eq, List.length_map, Nat.zero_le]; rfl⟩
  | int c => exact ⟨_, by unfold is_code_sem is_code_b; simp only [gsx_ok, gSi_ap, sxf_ok, sxe_ok, sSetIxE_ap, sx0_ok, sExt0_ap, par3_ok, sPar3_ap, kMt_ap, kLenSet_ap, iRange3_ap, opCount_fr, dat_map, opEq_lists, opEq_2, opNe_bl, opEq_bl, datL_map, sTry_ap, tryR_nx, tryR_rt, tryR_ex, hdl_t, hdl_f, handle_nil, handle_ap, asL_list, asL_map, opSum_fr, opSum_lst, opMin_2, opMax_2, opSl_list, opSl_map, opSl_tup, cutL_map, bnd_ok, bnd_ex, ofR_ok, ofR_ex, SZ_eq, kC_ap, slot_c0, slot_cs, kV_ap, frR_ok, kOk_ap, k1_ap, k2_ap, e1_ap, okR_ok, e2a_ok, e2b_ok, e2a_ex, e2b_ex, e2_ap, eMv_ap, cpk_ok, eCp_ap, eFz_ap, kNil_ap, kCons_ap, eNil_ap, ecb_ok, ecb_ex, eca_ok, eca_ex, eCons_ap, eBor_ap, rT_ok, kCall_ap, rE_ok, rE_ex, rA_ok, eCall_ap, takeA_nil, tkc_ok, takeA_own, takeA_bor, putA_nil, putA_own, putA_bor, allF_nil, allF_cons, tV_ap, tVK_ap, tB_ap, tBK_ap, tNot_ap, tan_t, tan_f, tan_ex, tor_t, tor_f, tor_ex, tAnd_ap, tOr_ap, isB_bl, truth_bl, truth_lst, truth_list, truth_int, ean_t, ean_f, eAnd_ap, eor_t, eor_f, eOr_ap, eNot_ap, ifk_t, ifk_f, ifk_ex, eIf_ap, chk_t, chk_f, kCh_ap, kN_ap, eN_ap, ownsA_nil, ownsA_own, kTup_ap, kLst_ap, eTup_ap, eLst_ap, kIsi_ap, kSl_ap, eSl_ap, parI_ok, kPart_ap, kNoPart_ap, kRev_ap, gN_ap, gTp_tup, gCs_cons, gNl_nil, iIt_ap, items_list, items_tuple, iRange1_ap, rg1_ok, iRange2_ap, rg2_ok, tYesF_ap, nxt_nx, nxt_rt, nxt_ex, nxt_bk, nxt_ct, sSeq_ap, sNil_ap, sBk_ap, sCt_ap, sRaise_ap, sExpr_ap, sRet_ap, sRetN_ap, ifs_t, ifs_f, ifs_ex, sIf_ap, sSet_ap, sTgt_ap, kild_nx, kild_ct, kild_rt, kild_bk, kild_ex, kill_ap, wipe_nil, wipe_cons, app0_ok, isLst_ok, sApp0_ap, sFor_ap, sForE_ap, eLc_ap, back_nil, back_cons, bk1_none, bk1_fr, bk1_lst, endD_rt, endD_nx, endD_ex, semD_1, semD_2, semD_3, semD_4, semD_5, semD_6, semD_7, semD_8, outs_nil, outs_cons, frO_fr, opAdd_i, opAddI_i, opSub_i, opMod_i, opFdiv_i, opMul_r, opMul_l, opPow_i, opEq_i, opNe_i, opLt_i, opGt_i, opLe_i, opGe_i, opNeg_i, opLen_list, opLen_tup, opLen_lst, opIx_list, opIx_tup, opIx_lst, frOp_ap, onlyFr_fr, dat_fr, dat_lst, datL_nil, datL_fr, datL_lst, allFr_nil, allFr_cons, asS_list, asS_tup, opList_ap, opTuple_ap, ixN_nat, atI_0, atI_1, atI_2, atI_3, atI_4, atI_map, atI_int, pV_ap, getAt_ap, getP_nil, getP_ix, setAt_ap, setP_nil, setP_ix, pix_ok, pIx_ap, six_ok, sSetIx_ap, pp0_ok, ePop_ap, par2_ok, sPar_ap, aug1_ok, sAug_ap, opIsN_ap, isNoT_none, isNoT_int, isNoT_list, isNoT_tup, isNoT_lst, typT_fr, typT_lst, typD_none, typD_bool, typD_int, typD_str, typD_list, typD_tuple, isa_NoneType_bool, isa_NoneType_int, isa_NoneType_str, isa_NoneType_list, isa_NoneType_tuple, isa_NoneType_dict, isa_bool_bool, isa_bool_int, isa_bool_str, isa_bool_list, isa_bool_tuple, isa_bool_dict, isa_int_bool, isa_int_int, isa_int_str, isa_int_list, isa_int_tuple, isa_int_dict, isa_str_bool, isa_str_int, isa_str_str, isa_str_list, isa_str_tuple, isa_str_dict, isa_list_bool, isa_list_int, isa_list_str, isa_list_list, isa_list_tuple, isa_list_dict, isa_tuple_bool, isa_tuple_int, isa_tuple_str, isa_tuple_list, isa_tuple_tuple, isa_tuple_dict, isa_dict_bool, isa_dict_int, isa_dict_str, isa_dict_list, isa_dict_tuple, isa_dict_dict, opEq_emp, opEq_fe, opIn_ints, Option.bind_some, Option.map_some, List.map_cons, List.map_nil, List.cons_append, List.nil_append, List.append_nil, List.replicate, List.length_cons, List.length_nil, List.set_cons_succ, List.set_cons_zero, Nat.lt_add_one, if_true, if_false, Nat.reduceAdd, Nat.reduceLT, Nat.reduceLeDiff, List.not_mem_nil, List.mem_cons, Nat.reduceEqDiff, or_false, or_true, false_or, true_or, Bool.not_true, Bool.not_false, Bool.false_eq_true, reduceIte, Option.bind_eq_bind, Int.reduceAdd, Int.reduceSub, Int.reduceMul, Int.reduceLT, Int.reduceLE, Int.reduceNeg, Int.cast_ofNat_Int, Int.natCast_one, Int.natCast_zero, Int.reduceEq, Int.reduceNe, Int.toNat_natCast, Int.reduceToNat, Int.reducePow, List.isEmpty_nil, List.isEmpty_cons, List.getElem?_cons_succ, List.getElem?_cons_zero, reduceCtorEq, Nat.succ_eq_add_one, Nat.add_zero, Nat.zero_add, and_self, and_true, true_and, decide_true, decide_false, List.reverse_cons, List.reverse_nil, Option.map_eq_map, Bool.not_eq_true, Bool.not_eq_false, Bool.xor_false, Bool.xor_true, Bool.false_xor, Bool.true_xor, Nat.reduceSub, List.dropLast_cons₂, List.dropLast_singleton, decide_eq_true_eq, List.length_map, Nat.zero_le]; rfl⟩
  | str c => exact ⟨_, by unfold is_code_sem is_code_b; simp only [gsx_ok, gSi_ap, sxf_ok, sxe_ok, sSetIxE_ap, sx0_ok, sExt0_ap, par3_ok, sPar3_ap, kMt_ap, kLenSet_ap, iRange3_ap, opCount_fr, dat_map, opEq_lists, opEq_2, opNe_bl, opEq_bl, datL_map, sTry_ap, tryR_nx, tryR_rt, tryR_ex, hdl_t, hdl_f, handle_nil, handle_ap, asL_list, asL_map, opSum_fr, opSum_lst, opMin_2, opMax_2, opSl_list, opSl_map, opSl_tup, cutL_map, bnd_ok, bnd_ex, ofR_ok, ofR_ex, SZ_eq, kC_ap, slot_c0, slot_cs, kV_ap, frR_ok, kOk_ap, k1_ap, k2_ap, e1_ap, okR_ok, e2a_ok, e2b_ok, e2a_ex, e2b_ex, e2_ap, eMv_ap, cpk_ok, eCp_ap, eFz_ap, kNil_ap, kCons_ap, eNil_ap, ecb_ok, ecb_ex, eca_ok, eca_ex, eCons_ap, eBor_ap, rT_ok, kCall_ap, rE_ok, rE_ex, rA_ok, eCall_ap, takeA_nil, tkc_ok, takeA_own, takeA_bor, putA_nil, putA_own, putA_bor, allF_nil, allF_cons, tV_ap, tVK_ap, tB_ap, tBK_ap, tNot_ap, tan_t, tan_f, tan_ex, tor_t, tor_f, tor_ex, tAnd_ap, tOr_ap, isB_bl, truth_bl, truth_lst, truth_list, truth_int, ean_t, ean_f, eAnd_ap, eor_t, eor_f, eOr_ap, eNot_ap, ifk_t, ifk_f, ifk_ex, eIf_ap, chk_t, chk_f, kCh_ap, kN_ap, eN_ap, ownsA_nil, ownsA_own, kTup_ap, kLst_ap, eTup_ap, eLst_ap, kIsi_ap, kSl_ap, eSl_ap, parI_ok, kPart_ap, kNoPart_ap, kRev_ap, gN_ap, gTp_tup, gCs_cons, gNl_nil, iIt_ap, items_list, items_tuple, iRange1_ap, rg1_ok, iRange2_ap, rg2_ok, tYesF_ap, nxt_nx, nxt_rt, nxt_ex, nxt_bk, nxt_ct, sSeq_ap, sNil_ap, sBk_ap, sCt_ap, sRaise_ap, sExpr_ap, sRet_ap, sRetN_ap, ifs_t, ifs_f, ifs_ex, sIf_ap, sSet_ap, sTgt_ap, kild_nx, kild_ct, kild_rt, kild_bk, kild_ex, kill_ap, wipe_nil, wipe_cons, app0_ok, isLst_ok, sApp0_ap, sFor_ap, sForE_ap, eLc_ap, back_nil, back_cons, bk1_none, bk1_fr, bk1_lst, endD_rt, endD_nx, endD_ex, semD_1, semD_2, semD_3, semD_4, semD_5, semD_6, semD_7, semD_8, outs_nil, outs_cons, frO_fr, opAdd_i, opAddI_i, opSub_i, opMod_i, opFdiv_i, opMul_r, opMul_l, opPow_i, opEq_i, opNe_i, opLt_i, opGt_i, opLe_i, opGe_i, opNeg_i, opLen_list, opLen_tup, opLen_lst, opIx_list, opIx_tup, opIx_lst, frOp_ap, onlyFr_fr, dat_fr, dat_lst, datL_nil, datL_fr, datL_lst, allFr_nil, allFr_cons, asS_list, asS_tup, opList_ap, opTuple_ap, ixN_nat, atI_0, atI_1, atI_2, atI_3, atI_4, atI_map, atI_int, pV_ap, getAt_ap, getP_nil, getP_ix, setAt_ap, setP_nil, setP_ix, pix_ok, pIx_ap, six_ok, sSetIx_ap, pp0_ok, ePop_ap, par2_ok, sPar_ap, aug1_ok, sAug_ap, opIsN_ap, isNoT_none, isNoT_int, isNoT_list, isNoT_tup, isNoT_lst, typT_fr, typT_lst, typD_none, typD_bool, typD_int, typD_str, typD_list, typD_tuple, isa_NoneType_bool, isa_NoneType_int, isa_NoneType_str, isa_NoneType_list, isa_NoneType_tuple, isa_NoneType_dict, isa_bool_bool, isa_bool_int, isa_bool_str, isa_bool_list, isa_bool_tuple, isa_bool_dict, isa_int_bool, isa_int_int, isa_int_str, isa_int_list, isa_int_tuple, isa_int_dict, isa_str_bool, isa_str_int, isa_str_str, isa_str_list, isa_str_tuple, isa_str_dict, isa_list_bool, isa_list_int, isa_list_str, isa_list_list, isa_list_tuple, isa_list_dict, isa_tuple_bool, isa_tuple_int, isa_tuple_str, isa_tuple_list, isa_tuple_tuple, isa_tuple_dict, isa_dict_bool, isa_dict_int, isa_dict_str, isa_dict_list, isa_dict_tuple, isa_dict_dict, opEq_emp, opEq_fe, opIn_ints, Option.bind_some, Option.map_some, List.map_cons, List.map_nil, List.cons_append, List.nil_append, List.append_nil, List.replicate, List.length_cons, List.length_nil, List.set_cons_succ, List.set_cons_zero, Nat.lt_add_one, if_true, if_false, Nat.reduceAdd, Nat.reduceLT, Nat.reduceLeDiff, List.not_mem_nil, List.mem_cons, Nat.reduceEqDiff, or_false, or_true, false_or, true_or, Bool.not_true, Bool.not_false, Bool.false_eq_true, reduceIte, Option.bind_eq_bind, Int.reduceAdd, Int.reduceSub, Int.reduceMul, Int.reduceLT, Int.reduceLE, Int.reduceNeg, Int.cast_ofNat_Int, Int.natCast_one, Int.natCast_zero, Int.reduceEq, Int.reduceNe, Int.toNat_natCast, Int.reduceToNat, Int.reducePow, List.isEmpty_nil, List.isEmpty_cons, List.getElem?_cons_succ, List.getElem?_cons_zero, reduceCtorEq, Nat.succ_eq_add_one, Nat.add_zero, Nat.zero_add, and_self, and_true, true_and, decide_true, decide_false, List.reverse_cons, List.reverse_nil, Option.map_eq_map, Bool.not_eq_true, Bool.not_eq_false, Bool.xor_false, Bool.xor_true, Bool.false_xor, Bool.true_xor, Nat.reduceSub, List.dropLast_cons₂, List.dropLast_singleton, decide_eq_true_eq, List.length_map, Nat.zero_le]; rfl⟩
  | tuple c => exact ⟨_, by unfold is_code_sem is_code_b; simp only [gsx_ok, gSi_ap, sxf_ok, sxe_ok, sSetIxE_ap, sx0_ok, sExt0_ap, par3_ok, sPar3_ap, kMt_ap, kLenSet_ap, iRange3_ap, opCount_fr, dat_map, opEq_lists, opEq_2, opNe_bl, opEq_bl, datL_map, sTry_ap, tryR_nx, tryR_rt, tryR_ex, hdl_t, hdl_f, handle_nil, handle_ap, asL_list, asL_map, opSum_fr, opSum_lst, opMin_2, opMax_2, opSl_list, opSl_map, opSl_tup, cutL_map, bnd_ok, bnd_ex, ofR_ok, ofR_ex, SZ_eq, kC_ap, slot_c0, slot_cs, kV_ap, frR_ok, kOk_ap, k1_ap, k2_ap, e1_ap, okR_ok, e2a_ok, e2b_ok, e2a_ex, e2b_ex, e2_ap, eMv_ap, cpk_ok, eCp_ap, eFz_ap, kNil_ap, kCons_ap, eNil_ap, ecb_ok, ecb_ex, eca_ok, eca_ex, eCons_ap, eBor_ap, rT_ok, kCall_ap, rE_ok, rE_ex, rA_ok, eCall_ap, takeA_nil, tkc_ok, takeA_own, takeA_bor, putA_nil, putA_own, putA_bor, allF_nil, allF_cons, tV_ap, tVK_ap, tB_ap, tBK_ap, tNot_ap, tan_t, tan_f, tan_ex, tor_t, tor_f, tor_ex, tAnd_ap, tOr_ap, isB_bl, truth_bl, truth_lst, truth_list, truth_int, ean_t, ean_f, eAnd_ap, eor_t, eor_f, eOr_ap, eNot_ap, ifk_t, ifk_f, ifk_ex, eIf_ap, chk_t, chk_f, kCh_ap, kN_ap, eN_ap, ownsA_nil, ownsA_own, kTup_ap, kLst_ap, eTup_ap, eLst_ap, kIsi_ap, kSl_ap, eSl_ap, parI_ok, kPart_ap, kNoPart_ap, kRev_ap, gN_ap, gTp_tup, gCs_cons, gNl_nil, iIt_ap, items_list, items_tuple, iRange1_ap, rg1_ok, iRange2_ap, rg2_ok, tYesF_ap, nxt_nx, nxt_rt, nxt_ex, nxt_bk, nxt_ct, sSeq_ap, sNil_ap, sBk_ap, sCt_ap, sRaise_ap, sExpr_ap, sRet_ap, sRetN_ap, ifs_t, ifs_f, ifs_ex, sIf_ap, sSet_ap, sTgt_ap, kild_nx, kild_ct, kild_rt, kild_bk, kild_ex, kill_ap, wipe_nil, wipe_cons, app0_ok, isLst_ok, sApp0_ap, sFor_ap, sForE_ap, eLc_ap, back_nil, back_cons, bk1_none, bk1_fr, bk1_lst, endD_rt, endD_nx, endD_ex, semD_1, semD_2, semD_3, semD_4, semD_5, semD_6, semD_7, semD_8, outs_nil, outs_cons, frO_fr, opAdd_i, opAddI_i, opSub_i, opMod_i, opFdiv_i, opMul_r, opMul_l, opPow_i, opEq_i, opNe_i, opLt_i, opGt_i, opLe_i, opGe_i, opNeg_i, opLen_list, opLen_tup, opLen_lst, opIx_list, opIx_tup, opIx_lst, frOp_ap, onlyFr_fr, dat_fr, dat_lst, datL_nil, datL_fr, datL_lst, allFr_nil, allFr_cons, asS_list, asS_tup, opList_ap, opTuple_ap, ixN_nat, atI_0, atI_1, atI_2, atI_3, atI_4, atI_map, atI_int, pV_ap, getAt_ap, getP_nil, getP_ix, setAt_ap, setP_nil, setP_ix, pix_ok, pIx_ap, six_ok, sSetIx_ap, pp0_ok, ePop_ap, par2_ok, sPar_ap, aug1_ok, sAug_ap, opIsN_ap, isNoT_none, isNoT_int, isNoT_list, isNoT_tup, isNoT_lst, typT_fr, typT_lst, typD_none, typD_bool, typD_int, typD_str, typD_list, typD_tuple, isa_NoneType_bool, isa_NoneType_int, isa_NoneType_str, isa_NoneType_list, isa_NoneType_tuple, isa_NoneType_dict, isa_bool_bool, isa_bool_int, isa_bool_str, isa_bool_list, isa_bool_tuple, isa_bool_dict, isa_int_bool, isa_int_int, isa_int_str, isa_int_list, isa_int_tuple, isa_int_dict, isa_str_bool, isa_str_int, isa_str_str, isa_str_list, isa_str_tuple, isa_str_dict, isa_list_bool, isa_list_int, isa_list_str, isa_list_list, isa_list_tuple, isa_list_dict, isa_tuple_bool, isa_tuple_int, isa_tuple_str, isa_tuple_list, isa_tuple_tuple, isa_tuple_dict, isa_dict_bool, isa_dict_int, isa_dict_str, isa_dict_list, isa_dict_tuple, isa_dict_dict, opEq_emp, opEq_fe, opIn_ints, Option.bind_some, Option.map_some, List.map_cons, List.map_nil, List.cons_append, List.nil_append, List.append_nil, List.replicate, List.length_cons, List.length_nil, List.set_cons_succ, List.set_cons_zero, Nat.lt_add_one, if_true, if_false, Nat.reduceAdd, Nat.reduceLT, Nat.reduceLeDiff, List.not_mem_nil, List.mem_cons, Nat.reduceEqDiff, or_false, or_true, false_or, true_or, Bool.not_true, Bool.not_false, Bool.false_eq_true, reduceIte, Option.bind_eq_bind, Int.reduceAdd, Int.reduceSub, Int.reduceMul, Int.reduceLT, Int.reduceLE, Int.reduceNeg, Int.cast_ofNat_Int, Int.natCast_one, Int.natCast_zero, Int.reduceEq, Int.reduceNe, Int.toNat_natCast, Int.reduceToNat, Int.reducePow, List.isEmpty_nil, List.isEmpty_cons, List.getElem?_cons_succ, List.getElem?_cons_zero, reduceCtorEq, Nat.succ_eq_add_one, Nat.add_zero, Nat.zero_add, and_self, and_true, true_and, decide_true, decide_false, List.reverse_cons, List.reverse_nil, Option.map_eq_map, Bool.not_eq_true, Bool.not_eq_false, Bool.xor_false, Bool.xor_true, Bool.false_xor, Bool.true_xor, Nat.reduceSub, List.dropLast_cons₂, List.dropLast_singleton, decide_eq_true_eq, List.length_map, Nat.zero_le]; rfl⟩
/-! how many codes -/
def nm (b : Int) : Nat → Int
  | 0 => 1
  | k + 1 => nm b k * b
def hm (b : Int) : Nat → Int
  | 0 => 1
  | k + 1 => if 10000 + 1 < hm b k * b then 10000 + 1 else hm b k * b
theorem number_ok (p b : Int) (h0 : 0 ≤ p) (h1 : p ≤ 5) (h2 : 2 ≤ b) (h3 : b ≤ 10) : number_of_codes_sem [.fr (lk p b)] = some (.ok (.fr (.int (nm b p.toNat))) [some (.fr (lk p b))]) := by
  unfold number_of_codes_sem number_of_codes_b
  have q1 : p ≤ 16777216 := by omega
  have q2 : -16777216 ≤ p := by omega
  have m1 : -18446744073709551616 < b := by omega
  have m2 : b < 18446744073709551616 := by omega
  obtain ⟨ρ', e, rfl⟩ : ∃ ρ', number_of_codes_l2 [some (.fr (lk p b)), some (.fr (.int 1)), none] = some (.nx ρ') ∧ ρ' = [some (.fr (lk p b)), some (.fr (.int (nm b p.toNat))), none] := by
    unfold number_of_codes_l2
    refine for_rng (n := p.toNat) (ρ1 := [some (.fr (lk p b)), some (.fr (.int 1)), none]) (by simp only [gsx_ok, gSi_ap, sxf_ok, sxe_ok, sSetIxE_ap, sx0_ok, sExt0_ap, par3_ok, sPar3_ap, kMt_ap, kLenSet_ap, iRange3_ap, opCount_fr, dat_map, opEq_lists, opEq_2, opNe_bl, opEq_bl, datL_map, sTry_ap, tryR_nx, tryR_rt, tryR_ex, hdl_t, hdl_f, handle_nil, handle_ap, asL_list, asL_map, opSum_fr, opSum_lst, opMin_2, opMax_2, opSl_list, opSl_map, opSl_tup, cutL_map, bnd_ok, bnd_ex, ofR_ok, ofR_ex, SZ_eq, kC_ap, slot_c0, slot_cs, kV_ap, frR_ok, kOk_ap, k1_ap, k2_ap, e1_ap, okR_ok, e2a_ok, e2b_ok, e2a_ex, e2b_ex, e2_ap, eMv_ap, cpk_ok, eCp_ap, eFz_ap, kNil_ap, kCons_ap, eNil_ap, ecb_ok, ecb_ex, eca_ok, eca_ex, eCons_ap, eBor_ap, rT_ok, kCall_ap, rE_ok, rE_ex, rA_ok, eCall_ap, takeA_nil, tkc_ok, takeA_own, takeA_bor, putA_nil, putA_own, putA_bor, allF_nil, allF_cons, tV_ap, tVK_ap, tB_ap, tBK_ap, tNot_ap, tan_t, tan_f, tan_ex, tor_t, tor_f, tor_ex, tAnd_ap, tOr_ap, isB_bl, truth_bl, truth_lst, truth_list, truth_int, ean_t, ean_f, eAnd_ap, eor_t, eor_f, eOr_ap, eNot_ap, ifk_t, ifk_f, ifk_ex, eIf_ap, chk_t, chk_f, kCh_ap, kN_ap, eN_ap, ownsA_nil, ownsA_own, kTup_ap, kLst_ap, eTup_ap, eLst_ap, kIsi_ap, kSl_ap, eSl_ap, parI_ok, kPart_ap, kNoPart_ap, kRev_ap, gN_ap, gTp_tup, gCs_cons, gNl_nil, iIt_ap, items_list, items_tuple, iRange1_ap, rg1_ok, iRange2_ap, rg2_ok, tYesF_ap, nxt_nx, nxt_rt, nxt_ex, nxt_bk, nxt_ct, sSeq_ap, sNil_ap, sBk_ap, sCt_ap, sRaise_ap, sExpr_ap, sRet_ap, sRetN_ap, ifs_t, ifs_f, ifs_ex, sIf_ap, sSet_ap, sTgt_ap, kild_nx, kild_ct, kild_rt, kild_bk, kild_ex, kill_ap, wipe_nil, wipe_cons, app0_ok, isLst_ok, sApp0_ap, sFor_ap, sForE_ap, eLc_ap, back_nil, back_cons, bk1_none, bk1_fr, bk1_lst, endD_rt, endD_nx, endD_ex, semD_1, semD_2, semD_3, semD_4, semD_5, semD_6, semD_7, semD_8, outs_nil, outs_cons, frO_fr, opAdd_i, opAddI_i, opSub_i, opMod_i, opFdiv_i, opMul_r, opMul_l, opPow_i, opEq_i, opNe_i, opLt_i, opGt_i, opLe_i, opGe_i, opNeg_i, opLen_list, opLen_tup, opLen_lst, opIx_list, opIx_tup, opIx_lst, frOp_ap, onlyFr_fr, dat_fr, dat_lst, datL_nil, datL_fr, datL_lst, allFr_nil, allFr_cons, asS_list, asS_tup, opList_ap, opTuple_ap, ixN_nat, atI_0, atI_1, atI_2, atI_3, atI_4, atI_map, atI_int, pV_ap, getAt_ap, getP_nil, getP_ix, setAt_ap, setP_nil, setP_ix, pix_ok, pIx_ap, six_ok, sSetIx_ap, pp0_ok, ePop_ap, par2_ok, sPar_ap, aug1_ok, sAug_ap, opIsN_ap, isNoT_none, isNoT_int, isNoT_list, isNoT_tup, isNoT_lst, typT_fr, typT_lst, typD_none, typD_bool, typD_int, typD_str, typD_list, typD_tuple, isa_NoneType_bool, isa_NoneType_int, isa_NoneType_str, isa_NoneType_list, isa_NoneType_tuple, isa_NoneType_dict, isa_bool_bool, isa_bool_int, isa_bool_str, isa_bool_list, isa_bool_tuple, isa_bool_dict, isa_int_bool, isa_int_int, isa_int_str, isa_int_list, isa_int_tuple, isa_int_dict, isa_str_bool, isa_str_int, isa_str_str, isa_str_list, isa_str_tuple, isa_str_dict, isa_list_bool, isa_list_int, isa_list_str, isa_list_list, isa_list_tuple, isa_list_dict, isa_tuple_bool, isa_tuple_int, isa_tuple_str, isa_tuple_list, isa_tuple_tuple, isa_tuple_dict, isa_dict_bool, isa_dict_int, isa_dict_str, isa_dict_list, isa_dict_tuple, isa_dict_dict, opEq_emp, opEq_fe, opIn_ints, Option.bind_some, Option.map_some, List.map_cons, List.map_nil, List.cons_append, List.nil_append, List.append_nil, List.replicate, List.length_cons, List.length_nil, List.set_cons_succ, List.set_cons_zero, Nat.lt_add_one, if_true, if_false, Nat.reduceAdd, Nat.reduceLT, Nat.reduceLeDiff, List.not_mem_nil, List.mem_cons, Nat.reduceEqDiff, or_false, or_true, false_or, true_or, Bool.not_true, Bool.not_false, Bool.false_eq_true, reduceIte, Option.bind_eq_bind, Int.reduceAdd, Int.reduceSub, Int.reduceMul, Int.reduceLT, Int.reduceLE, Int.reduceNeg, Int.cast_ofNat_Int, Int.natCast_one, Int.natCast_zero, Int.reduceEq, Int.reduceNe, Int.toNat_natCast, Int.reduceToNat, Int.reducePow, List.isEmpty_nil, List.isEmpty_cons, List.getElem?_cons_succ, List.getElem?_cons_zero, reduceCtorEq, Nat.succ_eq_add_one, Nat.add_zero, Nat.zero_add, and_self, and_true, true_and, decide_true, decide_false, List.reverse_cons, List.reverse_nil, Option.map_eq_map, Bool.not_eq_true, Bool.not_eq_false, Bool.xor_false, Bool.xor_true, Bool.false_xor, Bool.true_xor, Nat.reduceSub, List.dropLast_cons₂, List.dropLast_singleton, decide_eq_true_eq, List.length_map, Nat.zero_le, q1, q2]) (fun k ρ => ρ = [some (.fr (lk p b)), some (.fr (.int (nm b k))), none]) rfl fun k ρ hk e => ?_
    subst e
    unfold number_of_codes_b1
    simp only [gsx_ok, gSi_ap, sxf_ok, sxe_ok, sSetIxE_ap, sx0_ok, sExt0_ap, par3_ok, sPar3_ap, kMt_ap, kLenSet_ap, iRange3_ap, opCount_fr, dat_map, opEq_lists, opEq_2, opNe_bl, opEq_bl, datL_map, sTry_ap, tryR_nx, tryR_rt, tryR_ex, hdl_t, hdl_f, handle_nil, handle_ap, asL_list, asL_map, opSum_fr, opSum_lst, opMin_2, opMax_2, opSl_list, opSl_map, opSl_tup, cutL_map, bnd_ok, bnd_ex, ofR_ok, ofR_ex, SZ_eq, kC_ap, slot_c0, slot_cs, kV_ap, frR_ok, kOk_ap, k1_ap, k2_ap, e1_ap, okR_ok, e2a_ok, e2b_ok, e2a_ex, e2b_ex, e2_ap, eMv_ap, cpk_ok, eCp_ap, eFz_ap, kNil_ap, kCons_ap, eNil_ap, ecb_ok, ecb_ex, eca_ok, eca_ex, eCons_ap, eBor_ap, rT_ok, kCall_ap, rE_ok, rE_ex, rA_ok, eCall_ap, takeA_nil, tkc_ok, takeA_own, takeA_bor, putA_nil, putA_own, putA_bor, allF_nil, allF_cons, tV_ap, tVK_ap, tB_ap, tBK_ap, tNot_ap, tan_t, tan_f, tan_ex, tor_t, tor_f, tor_ex, tAnd_ap, tOr_ap, isB_bl, truth_bl, truth_lst, truth_list, truth_int, ean_t, ean_f, eAnd_ap, eor_t, eor_f, eOr_ap, eNot_ap, ifk_t, ifk_f, ifk_ex, eIf_ap, chk_t, chk_f, kCh_ap, kN_ap, eN_ap, ownsA_nil, ownsA_own, kTup_ap, kLst_ap, eTup_ap, eLst_ap, kIsi_ap, kSl_ap, eSl_ap, parI_ok, kPart_ap, kNoPart_ap, kRev_ap, gN_ap, gTp_tup, gCs_cons, gNl_nil, iIt_ap, items_list, items_tuple, iRange1_ap, rg1_ok, iRange2_ap, rg2_ok, tYesF_ap, nxt_nx, nxt_rt, nxt_ex, nxt_bk, nxt_ct, sSeq_ap, sNil_ap, sBk_ap, sCt_ap, sRaise_ap, sExpr_ap, sRet_ap, sRetN_ap, ifs_t, ifs_f, ifs_ex, sIf_ap, sSet_ap, sTgt_ap, kild_nx, kild_ct, kild_rt, kild_bk, kild_ex, kill_ap, wipe_nil, wipe_cons, app0_ok, isLst_ok, sApp0_ap, sFor_ap, sForE_ap, eLc_ap, back_nil, back_cons, bk1_none, bk1_fr, bk1_lst, endD_rt, endD_nx, endD_ex, semD_1, semD_2, semD_3, semD_4, semD_5, semD_6, semD_7, semD_8, outs_nil, outs_cons, frO_fr, opAdd_i, opAddI_i, opSub_i, opMod_i, opFdiv_i, opMul_r, opMul_l, opPow_i, opEq_i, opNe_i, opLt_i, opGt_i, opLe_i, opGe_i, opNeg_i, opLen_list, opLen_tup, opLen_lst, opIx_list, opIx_tup, opIx_lst, frOp_ap, onlyFr_fr, dat_fr, dat_lst, datL_nil, datL_fr, datL_lst, allFr_nil, allFr_cons, asS_list, asS_tup, opList_ap, opTuple_ap, ixN_nat, atI_0, atI_1, atI_2, atI_3, atI_4, atI_map, atI_int, pV_ap, getAt_ap, getP_nil, getP_ix, setAt_ap, setP_nil, setP_ix, pix_ok, pIx_ap, six_ok, sSetIx_ap, pp0_ok, ePop_ap, par2_ok, sPar_ap, aug1_ok, sAug_ap, opIsN_ap, isNoT_none, isNoT_int, isNoT_list, isNoT_tup, isNoT_lst, typT_fr, typT_lst, typD_none, typD_bool, typD_int, typD_str, typD_list, typD_tuple, isa_NoneType_bool, isa_NoneType_int, isa_NoneType_str, isa_NoneType_list, isa_NoneType_tuple, isa_NoneType_dict, isa_bool_bool, isa_bool_int, isa_bool_str, isa_bool_list, isa_bool_tuple, isa_bool_dict, isa_int_bool, isa_int_int, isa_int_str, isa_int_list, isa_int_tuple, isa_int_dict, isa_str_bool, isa_str_int, isa_str_str, isa_str_list, isa_str_tuple, isa_str_dict, isa_list_bool, isa_list_int, isa_list_str, isa_list_list, isa_list_tuple, isa_list_dict, isa_tuple_bool, isa_tuple_int, isa_tuple_str, isa_tuple_list, isa_tuple_tuple, isa_tuple_dict, isa_dict_bool, isa_dict_int, isa_dict_str, isa_dict_list, isa_dict_tuple, isa_dict_dict, opEq_emp, opEq_fe, opIn_ints, Option.bind_some, Option.map_some, List.map_cons, List.map_nil, List.cons_append, List.nil_append, List.append_nil, List.replicate, List.length_cons, List.length_nil, List.set_cons_succ, List.set_cons_zero, Nat.lt_add_one, if_true, if_false, Nat.reduceAdd, Nat.reduceLT, Nat.reduceLeDiff, List.not_mem_nil, List.mem_cons, Nat.reduceEqDiff, or_false, or_true, false_or, true_or, Bool.not_true, Bool.not_false, Bool.false_eq_true, reduceIte, Option.bind_eq_bind, Int.reduceAdd, Int.reduceSub, Int.reduceMul, Int.reduceLT, Int.reduceLE, Int.reduceNeg, Int.cast_ofNat_Int, Int.natCast_one, Int.natCast_zero, Int.reduceEq, Int.reduceNe, Int.toNat_natCast, Int.reduceToNat, Int.reducePow, List.isEmpty_nil, List.isEmpty_cons, List.getElem?_cons_succ, List.getElem?_cons_zero, reduceCtorEq, Nat.succ_eq_add_one, Nat.add_zero, Nat.zero_add, and_self, and_true, true_and, decide_true, decide_false, List.reverse_cons, List.reverse_nil, Option.map_eq_map, Bool.not_eq_true, Bool.not_eq_false, Bool.xor_false, Bool.xor_true, Bool.false_xor, Bool.true_xor, Nat.reduceSub, List.dropLast_cons₂, List.dropLast_singleton, decide_eq_true_eq, List.length_map, Nat.zero_le, opMul_r m1 m2]
    exact ⟨_, rfl, rfl⟩
  simp only [gsx_ok, gSi_ap, sxf_ok, sxe_ok, sSetIxE_ap, sx0_ok, sExt0_ap, par3_ok, sPar3_ap, kMt_ap, kLenSet_ap, iRange3_ap, opCount_fr, dat_map, opEq_lists, opEq_2, opNe_bl, opEq_bl, datL_map, sTry_ap, tryR_nx, tryR_rt, tryR_ex, hdl_t, hdl_f, handle_nil, handle_ap, asL_list, asL_map, opSum_fr, opSum_lst, opMin_2, opMax_2, opSl_list, opSl_map, opSl_tup, cutL_map, bnd_ok, bnd_ex, ofR_ok, ofR_ex, SZ_eq, kC_ap, slot_c0, slot_cs, kV_ap, frR_ok, kOk_ap, k1_ap, k2_ap, e1_ap, okR_ok, e2a_ok, e2b_ok, e2a_ex, e2b_ex, e2_ap, eMv_ap, cpk_ok, eCp_ap, eFz_ap, kNil_ap, kCons_ap, eNil_ap, ecb_ok, ecb_ex, eca_ok, eca_ex, eCons_ap, eBor_ap, rT_ok, kCall_ap, rE_ok, rE_ex, rA_ok, eCall_ap, takeA_nil, tkc_ok, takeA_own, takeA_bor, putA_nil, putA_own, putA_bor, allF_nil, allF_cons, tV_ap, tVK_ap, tB_ap, tBK_ap, tNot_ap, tan_t, tan_f, tan_ex, tor_t, tor_f, tor_ex, tAnd_ap, tOr_ap, isB_bl, truth_bl, truth_lst, truth_list, truth_int, ean_t, ean_f, eAnd_ap, eor_t, eor_f, eOr_ap, eNot_ap, ifk_t, ifk_f, ifk_ex, eIf_ap, chk_t, chk_f, kCh_ap, kN_ap, eN_ap, ownsA_nil, ownsA_own, kTup_ap, kLst_ap, eTup_ap, eLst_ap, kIsi_ap, kSl_ap, eSl_ap, parI_ok, kPart_ap, kNoPart_ap, kRev_ap, gN_ap, gTp_tup, gCs_cons, gNl_nil, iIt_ap, items_list, items_tuple, iRange1_ap, rg1_ok, iRange2_ap, rg2_ok, tYesF_ap, nxt_nx, nxt_rt, nxt_ex, nxt_bk, nxt_ct, sSeq_ap, sNil_ap, sBk_ap, sCt_ap, sRaise_ap, sExpr_ap, sRet_ap, sRetN_ap, ifs_t, ifs_f, ifs_ex, sIf_ap, sSet_ap, sTgt_ap, kild_nx, kild_ct, kild_rt, kild_bk, kild_ex, kill_ap, wipe_nil, wipe_cons, app0_ok, isLst_ok, sApp0_ap, sFor_ap, sForE_ap, eLc_ap, back_nil, back_cons, bk1_none, bk1_fr, bk1_lst, endD_rt, endD_nx, endD_ex, semD_1, semD_2, semD_3, semD_4, semD_5, semD_6, semD_7, semD_8, outs_nil, outs_cons, frO_fr, opAdd_i, opAddI_i, opSub_i, opMod_i, opFdiv_i, opMul_r, opMul_l, opPow_i, opEq_i, opNe_i, opLt_i, opGt_i, opLe_i, opGe_i, opNeg_i, opLen_list, opLen_tup, opLen_lst, opIx_list, opIx_tup, opIx_lst, frOp_ap, onlyFr_fr, dat_fr, dat_lst, datL_nil, datL_fr, datL_lst, allFr_nil, allFr_cons, asS_list, asS_tup, opList_ap, opTuple_ap, ixN_nat, atI_0, atI_1, atI_2, atI_3, atI_4, atI_map, atI_int, pV_ap, getAt_ap, getP_nil, getP_ix, setAt_ap, setP_nil, setP_ix, pix_ok, pIx_ap, six_ok, sSetIx_ap, pp0_ok, ePop_ap, par2_ok, sPar_ap, aug1_ok, sAug_ap, opIsN_ap, isNoT_none, isNoT_int, isNoT_list, isNoT_tup, isNoT_lst, typT_fr, typT_lst, typD_none, typD_bool, typD_int, typD_str, typD_list, typD_tuple, isa_NoneType_bool, isa_NoneType_int, isa_NoneType_str, isa_NoneType_list, isa_NoneType_tuple, isa_NoneType_dict, isa_bool_bool, isa_bool_int, isa_bool_str, isa_bool_list, isa_bool_tuple, isa_bool_dict, isa_int_bool, isa_int_int, isa_int_str, isa_int_list, isa_int_tuple, isa_int_dict, isa_str_bool, isa_str_int, isa_str_str, isa_str_list, isa_str_tuple, isa_str_dict, isa_list_bool, isa_list_int, isa_list_str, isa_list_list, isa_list_tuple, isa_list_dict, isa_tuple_bool, isa_tuple_int, isa_tuple_str, isa_tuple_list, isa_tuple_tuple, isa_tuple_dict, isa_dict_bool, isa_dict_int, isa_dict_str, isa_dict_list, isa_dict_tuple, isa_dict_dict, opEq_emp, opEq_fe, opIn_ints, Option.bind_some, Option.map_some, List.map_cons, List.map_nil, List.cons_append, List.nil_append, List.append_nil, List.replicate, List.length_cons, List.length_nil, List.set_cons_succ, List.set_cons_zero, Nat.lt_add_one, if_true, if_false, Nat.reduceAdd, Nat.reduceLT, Nat.reduceLeDiff, List.not_mem_nil, List.mem_cons, Nat.reduceEqDiff, or_false, or_true, false_or, true_or, Bool.not_true, Bool.not_false, Bool.false_eq_true, reduceIte, Option.bind_eq_bind, Int.reduceAdd, Int.reduceSub, Int.reduceMul, Int.reduceLT, Int.reduceLE, Int.reduceNeg, Int.cast_ofNat_Int, Int.natCast_one, Int.natCast_zero, Int.reduceEq, Int.reduceNe, Int.toNat_natCast, Int.reduceToNat, Int.reducePow, List.isEmpty_nil, List.isEmpty_cons, List.getElem?_cons_succ, List.getElem?_cons_zero, reduceCtorEq, Nat.succ_eq_add_one, Nat.add_zero, Nat.zero_add, and_self, and_true, true_and, decide_true, decide_false, List.reverse_cons, List.reverse_nil, Option.map_eq_map, Bool.not_eq_true, Bool.not_eq_false, Bool.xor_false, Bool.xor_true, Bool.false_xor, Bool.true_xor, Nat.reduceSub, List.dropLast_cons₂, List.dropLast_singleton, decide_eq_true_eq, List.length_map, Nat.zero_le, e]
theorem how_ok (p b : Int) (h0 : 0 ≤ p) (h1 : p ≤ 5) (h2 : 2 ≤ b) (h3 : b ≤ 10) : law_how_many_sem [.fr (lk p b), .fr (.int 10000)] = some (.ok (.fr (.int (hm b p.toNat))) [some (.fr (lk p b)), some (.fr (.int 10000))]) := by
  unfold law_how_many_sem law_how_many_b
  have q1 : p ≤ 16777216 := by omega
  have q2 : -16777216 ≤ p := by omega
  have m1 : -18446744073709551616 < b := by omega
  have m2 : b < 18446744073709551616 := by omega
  obtain ⟨ρ', e, rfl⟩ : ∃ ρ', law_how_many_l2 [some (.fr (lk p b)), some (.fr (.int 10000)), some (.fr (.int 1)), none] = some (.nx ρ') ∧ ρ' = [some (.fr (lk p b)), some (.fr (.int 10000)), some (.fr (.int (hm b p.toNat))), none] := by
    unfold law_how_many_l2
    refine for_rng (n := p.toNat) (ρ1 := [some (.fr (lk p b)), some (.fr (.int 10000)), some (.fr (.int 1)), none]) (by simp only [gsx_ok, gSi_ap, sxf_ok, sxe_ok, sSetIxE_ap, sx0_ok, sExt0_ap, par3_ok, sPar3_ap, kMt_ap, kLenSet_ap, iRange3_ap, opCount_fr, dat_map, opEq_lists, opEq_2, opNe_bl, opEq_bl, datL_map, sTry_ap, tryR_nx, tryR_rt, tryR_ex, hdl_t, hdl_f, handle_nil, handle_ap, asL_list, asL_map, opSum_fr, opSum_lst, opMin_2, opMax_2, opSl_list, opSl_map, opSl_tup, cutL_map, bnd_ok, bnd_ex, ofR_ok, ofR_ex, SZ_eq, kC_ap, slot_c0, slot_cs, kV_ap, frR_ok, kOk_ap, k1_ap, k2_ap, e1_ap, okR_ok, e2a_ok, e2b_ok, e2a_ex, e2b_ex, e2_ap, eMv_ap, cpk_ok, eCp_ap, eFz_ap, kNil_ap, kCons_ap, eNil_ap, ecb_ok, ecb_ex, eca_ok, eca_ex, eCons_ap, eBor_ap, rT_ok, kCall_ap, rE_ok, rE_ex, rA_ok, eCall_ap, takeA_nil, tkc_ok, takeA_own, takeA_bor, putA_nil, putA_own, putA_bor, allF_nil, allF_cons, tV_ap, tVK_ap, tB_ap, tBK_ap, tNot_ap, tan_t, tan_f, tan_ex, tor_t, tor_f, tor_ex, tAnd_ap, tOr_ap, isB_bl, truth_bl, truth_lst, truth_list, truth_int, ean_t, ean_f, eAnd_ap, eor_t, eor_f, eOr_ap, eNot_ap, ifk_t, ifk_f, ifk_ex, eIf_ap, chk_t, chk_f, kCh_ap, kN_ap, eN_ap, ownsA_nil, ownsA_own, kTup_ap, kLst_ap, eTup_ap, eLst_ap, kIsi_ap, kSl_ap, eSl_ap, parI_ok, kPart_ap, kNoPart_ap, kRev_ap, gN_ap, gTp_tup, gCs_cons, gNl_nil, iIt_ap, items_list, items_tuple, iRange1_ap, rg1_ok, iRange2_ap, rg2_ok, tYesF_ap, nxt_nx, nxt_rt, nxt_ex, nxt_bk, nxt_ct, sSeq_ap, sNil_ap, sBk_ap, sCt_ap, sRaise_ap, sExpr_ap, sRet_ap, sRetN_ap, ifs_t, ifs_f, ifs_ex, sIf_ap, sSet_ap, sTgt_ap, kild_nx, kild_ct, kild_rt, kild_bk, kild_ex, kill_ap, wipe_nil, wipe_cons, app0_ok, isLst_ok, sApp0_ap, sFor_ap, sForE_ap, eLc_ap, back_nil, back_cons, bk1_none, bk1_fr, bk1_lst, endD_rt, endD_nx, endD_ex, semD_1, semD_2, semD_3, semD_4, semD_5, semD_6, semD_7, semD_8, outs_nil, outs_cons, frO_fr, opAdd_i, opAddI_i, opSub_i, opMod_i, opFdiv_i, opMul_r, opMul_l, opPow_i, opEq_i, opNe_i, opLt_i, opGt_i, opLe_i, opGe_i, opNeg_i, opLen_list, opLen_tup, opLen_lst, opIx_list, opIx_tup, opIx_lst, frOp_ap, onlyFr_fr, dat_fr, dat_lst, datL_nil, datL_fr, datL_lst, allFr_nil, allFr_cons, asS_list, asS_tup, opList_ap, opTuple_ap, ixN_nat, atI_0, atI_1, atI_2, atI_3, atI_4, atI_map, atI_int, pV_ap, getAt_ap, getP_nil, getP_ix, setAt_ap, setP_nil, setP_ix, pix_ok, pIx_ap, six_ok, sSetIx_ap, pp0_ok, ePop_ap, par2_ok, sPar_ap, aug1_ok, sAug_ap, opIsN_ap, isNoT_none, isNoT_int, isNoT_list, isNoT_tup, isNoT_lst, typT_fr, typT_lst, typD_none, typD_bool, typD_int, typD_str, typD_list, typD_tuple, isa_NoneType_bool, isa_NoneType_int, isa_NoneType_str, isa_NoneType_list, isa_NoneType_tuple, isa_NoneType_dict, isa_bool_bool, isa_bool_int, isa_bool_str, isa_bool_list, isa_bool_tuple, isa_bool_dict, isa_int_bool, isa_int_int, isa_int_str, isa_int_list, isa_int_tuple, isa_int_dict, isa_str_bool, isa_str_int, isa_str_str, isa_str_list, isa_str_tuple, isa_str_dict, isa_list_bool, isa_list_int, isa_list_str, isa_list_list, isa_list_tuple, isa_list_dict, isa_tuple_bool, isa_tuple_int, isa_tuple_str, isa_tuple_list, isa_tuple_tuple, isa_tuple_dict, isa_dict_bool, isa_dict_int, isa_dict_str, isa_dict_list, isa_dict_tuple, isa_dict_dict, opEq_emp, opEq_fe, opIn_ints, Option.bind_some, Option.map_some, List.map_cons, List.map_nil, List.cons_append, List.nil_append, List.append_nil, List.replicate, List.length_cons, List.length_nil, List.set_cons_succ, List.set_cons_zero, Nat.lt_add_one, if_true, if_false, Nat.reduceAdd, Nat.reduceLT, Nat.reduceLeDiff, List.not_mem_nil, List.mem_cons, Nat.reduceEqDiff, or_false, or_true, false_or, true_or, Bool.not_true, Bool.not_false, Bool.false_eq_true, reduceIte, Option.bind_eq_bind, Int.reduceAdd, Int.reduceSub, Int.reduceMul, Int.reduceLT, Int.reduceLE, Int.reduceNeg, Int.cast_ofNat_Int, Int.natCast_one, Int.natCast_zero, Int.reduceEq, Int.reduceNe, Int.toNat_natCast, Int.reduceToNat, Int.reducePow, List.isEmpty_nil, List.isEmpty_cons, List.getElem?_cons_succ, List.getElem?_cons_zero, reduceCtorEq, Nat.succ_eq_add_one, Nat.add_zero, Nat.zero_add, and_self, and_true, true_and, decide_true, decide_false, List.reverse_cons, List.reverse_nil, Option.map_eq_map, Bool.not_eq_true, Bool.not_eq_false, Bool.xor_false, Bool.xor_true, Bool.false_xor, Bool.true_xor, Nat.reduceSub, List.dropLast_cons₂, List.dropLast_singleton, decide_eq_true_eq, List.length_map, Nat.zero_le, q1, q2]) (fun k ρ => ρ = [some (.fr (lk p b)), some (.fr (.int 10000)), some (.fr (.int (hm b k))), none]) rfl fun k ρ hk e => ?_
    subst e
    unfold law_how_many_b1
    simp only [gsx_ok, gSi_ap, sxf_ok, sxe_ok, sSetIxE_ap, sx0_ok, sExt0_ap, par3_ok, sPar3_ap, kMt_ap, kLenSet_ap, iRange3_ap, opCount_fr, dat_map, opEq_lists, opEq_2, opNe_bl, opEq_bl, datL_map, sTry_ap, tryR_nx, tryR_rt, tryR_ex, hdl_t, hdl_f, handle_nil, handle_ap, asL_list, asL_map, opSum_fr, opSum_lst, opMin_2, opMax_2, opSl_list, opSl_map, opSl_tup, cutL_map, bnd_ok, bnd_ex, ofR_ok, ofR_ex, SZ_eq, kC_ap, slot_c0, slot_cs, kV_ap, frR_ok, kOk_ap, k1_ap, k2_ap, e1_ap, okR_ok, e2a_ok, e2b_ok, e2a_ex, e2b_ex, e2_ap, eMv_ap, cpk_ok, eCp_ap, eFz_ap, kNil_ap, kCons_ap, eNil_ap, ecb_ok, ecb_ex, eca_ok, eca_ex, eCons_ap, eBor_ap, rT_ok, kCall_ap, rE_ok, rE_ex, rA_ok, eCall_ap, takeA_nil, tkc_ok, takeA_own, takeA_bor, putA_nil, putA_own, putA_bor, allF_nil, allF_cons, tV_ap, tVK_ap, tB_ap, tBK_ap, tNot_ap, tan_t, tan_f, tan_ex, tor_t, tor_f, tor_ex, tAnd_ap, tOr_ap, isB_bl, truth_bl, truth_lst, truth_list, truth_int, ean_t, ean_f, eAnd_ap, eor_t, eor_f, eOr_ap, eNot_ap, ifk_t, ifk_f, ifk_ex, eIf_ap, chk_t, chk_f, kCh_ap, kN_ap, eN_ap, ownsA_nil, ownsA_own, kTup_ap, kLst_ap, eTup_ap, eLst_ap, kIsi_ap, kSl_ap, eSl_ap, parI_ok, kPart_ap, kNoPart_ap, kRev_ap, gN_ap, gTp_tup, gCs_cons, gNl_nil, iIt_ap, items_list, items_tuple, iRange1_ap, rg1_ok, iRange2_ap, rg2_ok, tYesF_ap, nxt_nx, nxt_rt, nxt_ex, nxt_bk, nxt_ct, sSeq_ap, sNil_ap, sBk_ap, sCt_ap, sRaise_ap, sExpr_ap, sRet_ap, sRetN_ap, ifs_t, ifs_f, ifs_ex, sIf_ap, sSet_ap, sTgt_ap, kild_nx, kild_ct, kild_rt, kild_bk, kild_ex, kill_ap, wipe_nil, wipe_cons, app0_ok, isLst_ok, sApp0_ap, sFor_ap, sForE_ap, eLc_ap, back_nil, back_cons, bk1_none, bk1_fr, bk1_lst, endD_rt, endD_nx, endD_ex, semD_1, semD_2, semD_3, semD_4, semD_5, semD_6, semD_7, semD_8, outs_nil, outs_cons, frO_fr, opAdd_i, opAddI_i, opSub_i, opMod_i, opFdiv_i, opMul_r, opMul_l, opPow_i, opEq_i, opNe_i, opLt_i, opGt_i, opLe_i, opGe_i, opNeg_i, opLen_list, opLen_tup, opLen_lst, opIx_list, opIx_tup, opIx_lst, frOp_ap, onlyFr_fr, dat_fr, dat_lst, datL_nil, datL_fr, datL_lst, allFr_nil, allFr_cons, asS_list, asS_tup, opList_ap, opTuple_ap, ixN_nat, atI_0, atI_1, atI_2, atI_3, atI_4, atI_map, atI_int, pV_ap, getAt_ap, getP_nil, getP_ix, setAt_ap, setP_nil, setP_ix, pix_ok, pIx_ap, six_ok, sSetIx_ap, pp0_ok, ePop_ap, par2_ok, sPar_ap, aug1_ok, sAug_ap, opIsN_ap, isNoT_none, isNoT_int, isNoT_list, isNoT_tup, isNoT_lst, typT_fr, typT_lst, typD_none, typD_bool, typD_int, typD_str, typD_list, typD_tuple, isa_NoneType_bool, isa_NoneType_int, isa_NoneType_str, isa_NoneType_list, isa_NoneType_tuple, isa_NoneType_dict, isa_bool_bool, isa_bool_int, isa_bool_str, isa_bool_list, isa_bool_tuple, isa_bool_dict, isa_int_bool, isa_int_int, isa_int_str, isa_int_list, isa_int_tuple, isa_int_dict, isa_str_bool, isa_str_int, isa_str_str, isa_str_list, isa_str_tuple, isa_str_dict, isa_list_bool, isa_list_int, isa_list_str, isa_list_list, isa_list_tuple, isa_list_dict, isa_tuple_bool, isa_tuple_int, isa_tuple_str, isa_tuple_list, isa_tuple_tuple, isa_tuple_dict, isa_dict_bool, isa_dict_int, isa_dict_str, isa_dict_list, isa_dict_tuple, isa_dict_dict, opEq_emp, opEq_fe, opIn_ints, Option.bind_some, Option.map_some, List.map_cons, List.map_nil, List.cons_append, List.nil_append, List.append_nil, List.replicate, List.length_cons, List.length_nil, List.set_cons_succ, List.set_cons_zero, Nat.lt_add_one, if_true, if_false, Nat.reduceAdd, Nat.reduceLT, Nat.reduceLeDiff, List.not_mem_nil, List.mem_cons, Nat.reduceEqDiff, or_false, or_true, false_or, true_or, Bool.not_true, Bool.not_false, Bool.false_eq_true, reduceIte, Option.bind_eq_bind, Int.reduceAdd, Int.reduceSub, Int.reduceMul, Int.reduceLT, Int.reduceLE, Int.reduceNeg, Int.cast_ofNat_Int, Int.natCast_one, Int.natCast_zero, Int.reduceEq, Int.reduceNe, Int.toNat_natCast, Int.reduceToNat, Int.reducePow, List.isEmpty_nil, List.isEmpty_cons, List.getElem?_cons_succ, List.getElem?_cons_zero, reduceCtorEq, Nat.succ_eq_add_one, Nat.add_zero, Nat.zero_add, and_self, and_true, true_and, decide_true, decide_false, List.reverse_cons, List.reverse_nil, Option.map_eq_map, Bool.not_eq_true, Bool.not_eq_false, Bool.xor_false, Bool.xor_true, Bool.false_xor, Bool.true_xor, Nat.reduceSub, List.dropLast_cons₂, List.dropLast_singleton, decide_eq_true_eq, List.length_map, Nat.zero_le, opMul_r m1 m2]
    exact ⟨_, rfl, rfl⟩
  simp only [gsx_ok, gSi_ap, sxf_ok, sxe_ok, sSetIxE_ap, sx0_ok, sExt0_ap, par3_ok, sPar3_ap, kMt_ap, kLenSet_ap, iRange3_ap, opCount_fr, dat_map, opEq_lists, opEq_2, opNe_bl, opEq_bl, datL_map, sTry_ap, tryR_nx, tryR_rt, tryR_ex, hdl_t, hdl_f, handle_nil, handle_ap, asL_list, asL_map, opSum_fr, opSum_lst, opMin_2, opMax_2, opSl_list, opSl_map, opSl_tup, cutL_map, bnd_ok, bnd_ex, ofR_ok, ofR_ex, SZ_eq, kC_ap, slot_c0, slot_cs, kV_ap, frR_ok, kOk_ap, k1_ap, k2_ap, e1_ap, okR_ok, e2a_ok, e2b_ok, e2a_ex, e2b_ex, e2_ap, eMv_ap, cpk_ok, eCp_ap, eFz_ap, kNil_ap, kCons_ap, eNil_ap, ecb_ok, ecb_ex, eca_ok, eca_ex, eCons_ap, eBor_ap, rT_ok, kCall_ap, rE_ok, rE_ex, rA_ok, eCall_ap, takeA_nil, tkc_ok, takeA_own, takeA_bor, putA_nil, putA_own, putA_bor, allF_nil, allF_cons, tV_ap, tVK_ap, tB_ap, tBK_ap, tNot_ap, tan_t, tan_f, tan_ex, tor_t, tor_f, tor_ex, tAnd_ap, tOr_ap, isB_bl, truth_bl, truth_lst, truth_list, truth_int, ean_t, ean_f, eAnd_ap, eor_t, eor_f, eOr_ap, eNot_ap, ifk_t, ifk_f, ifk_ex, eIf_ap, chk_t, chk_f, kCh_ap, kN_ap, eN_ap, ownsA_nil, ownsA_own, kTup_ap, kLst_ap, eTup_ap, eLst_ap, kIsi_ap, kSl_ap, eSl_ap, parI_ok, kPart_ap, kNoPart_ap, kRev_ap, gN_ap, gTp_tup, gCs_cons, gNl_nil, iIt_ap, items_list, items_tuple, iRange1_ap, rg1_ok, iRange2_ap, rg2_ok, tYesF_ap, nxt_nx, nxt_rt, nxt_ex, nxt_bk, nxt_ct, sSeq_ap, sNil_ap, sBk_ap, sCt_ap, sRaise_ap, sExpr_ap, sRet_ap, sRetN_ap, ifs_t, ifs_f, ifs_ex, sIf_ap, sSet_ap, sTgt_ap, kild_nx, kild_ct, kild_rt, kild_bk, kild_ex, kill_ap, wipe_nil, wipe_cons, app0_ok, isLst_ok, sApp0_ap, sFor_ap, sForE_ap, eLc_ap, back_nil, back_cons, bk1_none, bk1_fr, bk1_lst, endD_rt, endD_nx, endD_ex, semD_1, semD_2, semD_3, semD_4, semD_5, semD_6, semD_7, semD_8, outs_nil, outs_cons, frO_fr, opAdd_i, opAddI_i, opSub_i, opMod_i, opFdiv_i, opMul_r, opMul_l, opPow_i, opEq_i, opNe_i, opLt_i, opGt_i, opLe_i, opGe_i, opNeg_i, opLen_list, opLen_tup, opLen_lst, opIx_list, opIx_tup, opIx_lst, frOp_ap, onlyFr_fr, dat_fr, dat_lst, datL_nil, datL_fr, datL_lst, allFr_nil, allFr_cons, asS_list, asS_tup, opList_ap, opTuple_ap, ixN_nat, atI_0, atI_1, atI_2, atI_3, atI_4, atI_map, atI_int, pV_ap, getAt_ap, getP_nil, getP_ix, setAt_ap, setP_nil, setP_ix, pix_ok, pIx_ap, six_ok, sSetIx_ap, pp0_ok, ePop_ap, par2_ok, sPar_ap, aug1_ok, sAug_ap, opIsN_ap, isNoT_none, isNoT_int, isNoT_list, isNoT_tup, isNoT_lst, typT_fr, typT_lst, typD_none, typD_bool, typD_int, typD_str, typD_list, typD_tuple, isa_NoneType_bool, isa_NoneType_int, isa_NoneType_str, isa_NoneType_list, isa_NoneType_tuple, isa_NoneType_dict, isa_bool_bool, isa_bool_int, isa_bool_str, isa_bool_list, isa_bool_tuple, isa_bool_dict, isa_int_bool, isa_int_int, isa_int_str, isa_int_list, isa_int_tuple, isa_int_dict, isa_str_bool, isa_str_int, isa_str_str, isa_str_list, isa_str_tuple, isa_str_dict, isa_list_bool, isa_list_int, isa_list_str, isa_list_list, isa_list_tuple, isa_list_dict, isa_tuple_bool, isa_tuple_int, isa_tuple_str, isa_tuple_list, isa_tuple_tuple, isa_tuple_dict, isa_dict_bool, isa_dict_int, isa_dict_str, isa_dict_list, isa_dict_tuple, isa_dict_dict, opEq_emp, opEq_fe, opIn_ints, Option.bind_some, Option.map_some, List.map_cons, List.map_nil, List.cons_append, List.nil_append, List.append_nil, List.replicate, List.length_cons, List.length_nil, List.set_cons_succ, List.set_cons_zero, Nat.lt_add_one, if_true, if_false, Nat.reduceAdd, Nat.reduceLT, Nat.reduceLeDiff, List.not_mem_nil, List.mem_cons, Nat.reduceEqDiff, or_false, or_true, false_or, true_or, Bool.not_true, Bool.not_false, Bool.false_eq_true, reduceIte, Option.bind_eq_bind, Int.reduceAdd, Int.reduceSub, Int.reduceMul, Int.reduceLT, Int.reduceLE, Int.reduceNeg, Int.cast_ofNat_Int, Int.natCast_one, Int.natCast_zero, Int.reduceEq, Int.reduceNe, Int.toNat_natCast, Int.reduceToNat, Int.reducePow, List.isEmpty_nil, List.isEmpty_cons, List.getElem?_cons_succ, List.getElem?_cons_zero, reduceCtorEq, Nat.succ_eq_add_one, Nat.add_zero, Nat.zero_add, and_self, and_true, true_and, decide_true, decide_false, List.reverse_cons, List.reverse_nil, Option.map_eq_map, Bool.not_eq_true, Bool.not_eq_false, Bool.xor_false, Bool.xor_true, Bool.false_xor, Bool.true_xor, Nat.reduceSub, List.dropLast_cons₂, List.dropLast_singleton, decide_eq_true_eq, List.length_map, Nat.zero_le, e]
theorem few (p b : Int) (h0 : 1 ≤ p) (h1 : p ≤ 5) (h2 : 2 ≤ b) (h3 : b ≤ 10) : (10000 < hm b p.toNat → 1 < p ∧ ¬ 10000 < hm b (p - 1).toNat) ∧ (¬ 10000 < hm b p.toNat → ¬ 10000 < nm b p.toNat) := by
  have hp : p = 1 ∨ p = 2 ∨ p = 3 ∨ p = 4 ∨ p = 5 := by omega
  have hb : b = 2 ∨ b = 3 ∨ b = 4 ∨ b = 5 ∨ b = 6 ∨ b = 7 ∨ b = 8 ∨ b = 9 ∨ b = 10 := by omega
  rcases hp with rfl | rfl | rfl | rfl | rfl <;> rcases hb with rfl | rfl | rfl | rfl | rfl | rfl | rfl | rfl | rfl <;> decide
theorem check_size_ok (p b : Int) (h0 : 0 ≤ p) (h1 : p ≤ 5) (h2 : 2 ≤ b) (h3 : b ≤ 10) (h4 : ¬ 10000 < nm b p.toNat) : check_size_sem [.fr (lk p b)] = some (.ok (.fr .none) [some (.fr (lk p b))]) := by
  unfold check_size_sem check_size_b
  simp only [gsx_ok, gSi_ap, sxf_ok, sxe_ok, sSetIxE_ap, sx0_ok, sExt0_ap, par3_ok, sPar3_ap, kMt_ap, kLenSet_ap, iRange3_ap, opCount_fr, dat_map, opEq_lists, opEq_2, opNe_bl, opEq_bl, datL_map, sTry_ap, tryR_nx, tryR_rt, tryR_ex, hdl_t, hdl_f, handle_nil, handle_ap, asL_list, asL_map, opSum_fr, opSum_lst, opMin_2, opMax_2, opSl_list, opSl_map, opSl_tup, cutL_map, bnd_ok, bnd_ex, ofR_ok, ofR_ex, SZ_eq, kC_ap, slot_c0, slot_cs, kV_ap, frR_ok, kOk_ap, k1_ap, k2_ap, e1_ap, okR_ok, e2a_ok, e2b_ok, e2a_ex, e2b_ex, e2_ap, eMv_ap, cpk_ok, eCp_ap, eFz_ap, kNil_ap, kCons_ap, eNil_ap, ecb_ok, ecb_ex, eca_ok, eca_ex, eCons_ap, eBor_ap, rT_ok, kCall_ap, rE_ok, rE_ex, rA_ok, eCall_ap, takeA_nil, tkc_ok, takeA_own, takeA_bor, putA_nil, putA_own, putA_bor, allF_nil, allF_cons, tV_ap, tVK_ap, tB_ap, tBK_ap, tNot_ap, tan_t, tan_f, tan_ex, tor_t, tor_f, tor_ex, tAnd_ap, tOr_ap, isB_bl, truth_bl, truth_lst, truth_list, truth_int, ean_t, ean_f, eAnd_ap, eor_t, eor_f, eOr_ap, eNot_ap, ifk_t, ifk_f, ifk_ex, eIf_ap, chk_t, chk_f, kCh_ap, kN_ap, eN_ap, ownsA_nil, ownsA_own, kTup_ap, kLst_ap, eTup_ap, eLst_ap, kIsi_ap, kSl_ap, eSl_ap, parI_ok, kPart_ap, kNoPart_ap, kRev_ap, gN_ap, gTp_tup, gCs_cons, gNl_nil, iIt_ap, items_list, items_tuple, iRange1_ap, rg1_ok, iRange2_ap, rg2_ok, tYesF_ap, nxt_nx, nxt_rt, nxt_ex, nxt_bk, nxt_ct, sSeq_ap, sNil_ap, sBk_ap, sCt_ap, sRaise_ap, sExpr_ap, sRet_ap, sRetN_ap, ifs_t, ifs_f, ifs_ex, sIf_ap, sSet_ap, sTgt_ap, kild_nx, kild_ct, kild_rt, kild_bk, kild_ex, kill_ap, wipe_nil, wipe_cons, app0_ok, isLst_ok, sApp0_ap, sFor_ap, sForE_ap, eLc_ap, back_nil, back_cons, bk1_none, bk1_fr, bk1_lst, endD_rt, endD_nx, endD_ex, semD_1, semD_2, semD_3, semD_4, semD_5, semD_6, semD_7, semD_8, outs_nil, outs_cons, frO_fr, opAdd_i, opAddI_i, opSub_i, opMod_i, opFdiv_i, opMul_r, opMul_l, opPow_i, opEq_i, opNe_i, opLt_i, opGt_i, opLe_i, opGe_i, opNeg_i, opLen_list, opLen_tup, opLen_lst, opIx_list, opIx_tup, opIx_lst, frOp_ap, onlyFr_fr, dat_fr, dat_lst, datL_nil, datL_fr, datL_lst, allFr_nil, allFr_cons, asS_list, asS_tup, opList_ap, opTuple_ap, ixN_nat, atI_0, atI_1, atI_2, atI_3, atI_4, atI_map, atI_int, pV_ap, getAt_ap, getP_nil, getP_ix, setAt_ap, setP_nil, setP_ix, pix_ok, pIx_ap, six_ok, sSetIx_ap, pp0_ok, ePop_ap, par2_ok, sPar_ap, aug1_ok, sAug_ap, opIsN_ap, isNoT_none, isNoT_int, isNoT_list, isNoT_tup, isNoT_lst, typT_fr, typT_lst, typD_none, typD_bool, typD_int, typD_str, typD_list, typD_tuple, isa_NoneType_bool, isa_NoneType_int, isa_NoneType_str, isa_NoneType_list, isa_NoneType_tuple, isa_NoneType_dict, isa_bool_bool, isa_bool_int, isa_bool_str, isa_bool_list, isa_bool_tuple, isa_bool_dict, isa_int_bool, isa_int_int, isa_int_str, isa_int_list, isa_int_tuple, isa_int_dict, isa_str_bool, isa_str_int, isa_str_str, isa_str_list, isa_str_tuple, isa_str_dict, isa_list_bool, isa_list_int, isa_list_str, isa_list_list, isa_list_tuple, isa_list_dict, isa_tuple_bool, isa_tuple_int, isa_tuple_str, isa_tuple_list, isa_tuple_tuple, isa_tuple_dict, isa_dict_bool, isa_dict_int, isa_dict_str, isa_dict_list, isa_dict_tuple, isa_dict_dict, opEq_emp, opEq_fe, opIn_ints, Option.bind_some, Option.map_some, List.map_cons, List.map_nil, List.cons_append, List.nil_append, List.append_nil, List.replicate, List.length_cons, List.length_nil, List.set_cons_succ, List.set_cons_zero, Nat.lt_add_one, if_true, if_false, Nat.reduceAdd, Nat.reduceLT, Nat.reduceLeDiff, List.not_mem_nil, List.mem_cons, Nat.reduceEqDiff, or_false, or_true, false_or, true_or, Bool.not_true, Bool.not_false, Bool.false_eq_true, reduceIte, Option.bind_eq_bind, Int.reduceAdd, Int.reduceSub, Int.reduceMul, Int.reduceLT, Int.reduceLE, Int.reduceNeg, Int.cast_ofNat_Int, Int.natCast_one, Int.natCast_zero, Int.reduceEq, Int.reduceNe, Int.toNat_natCast, Int.reduceToNat, Int.reducePow, List.isEmpty_nil, List.isEmpty_cons, List.getElem?_cons_succ, List.getElem?_cons_zero, reduceCtorEq, Nat.succ_eq_add_one, Nat.add_zero, Nat.zero_add, and_self, and_true, true_and, decide_true, decide_false, List.reverse_cons, List.reverse_nil, Option.map_eq_map, Bool.not_eq_true, Bool.not_eq_false, Bool.xor_false, Bool.xor_true, Bool.false_xor, Bool.true_xor, Nat.reduceSub, List.dropLast_cons₂, List.dropLast_singleton, decide_eq_true_eq, List.length_map, Nat.zero_le, number_ok p b h0 h1 h2 h3, h4]
theorem big_add (k : Nat) (h : k ≤ 1000) : ∃ n, big = n + k := ⟨big - k, by
  have : big = 1000000000000 := by delta big; rfl
  omega⟩
theorem lock_w (p b : Int) (o0 : Option T) (h0 : 1 ≤ p) (h1 : p ≤ 5) (h2 : 2 ≤ b) (h3 : b ≤ 10) : ∃ p', 1 ≤ p' ∧ p' ≤ 5 ∧ ¬ 10000 < nm b p'.toNat ∧ law_lock_w3 [o0, some (.fr (.int 10000)), some (.fr (lk p b))] = some (.nx [o0, some (.fr (.int 10000)), some (.fr (lk p' b))]) := by
  obtain ⟨f1, f2⟩ := few p b h0 h1 h2 h3
  obtain ⟨n, hn⟩ := big_add 3 (by omega)
  unfold law_lock_w3 sWhile
  rw [hn]
  by_cases c : 10000 < hm b p.toNat
  · obtain ⟨c1, c2⟩ := f1 c
    have e1 : law_lock_t1 [o0, some (.fr (.int 10000)), some (.fr (lk p b))] = some (.ok true [o0, some (.fr (.int 10000)), some (.fr (lk p b))]) := by
      unfold law_lock_t1
      simp only [gsx_ok, gSi_ap, sxf_ok, sxe_ok, sSetIxE_ap, sx0_ok, sExt0_ap, par3_ok, sPar3_ap, kMt_ap, kLenSet_ap, iRange3_ap, opCount_fr, dat_map, opEq_lists, opEq_2, opNe_bl, opEq_bl, datL_map, sTry_ap, tryR_nx, tryR_rt, tryR_ex, hdl_t, hdl_f, handle_nil, handle_ap, asL_list, asL_map, opSum_fr, opSum_lst, opMin_2, opMax_2, opSl_list, opSl_map, opSl_tup, cutL_map, bnd_ok, bnd_ex, ofR_ok, ofR_ex, SZ_eq, kC_ap, slot_c0, slot_cs, kV_ap, frR_ok, kOk_ap, k1_ap, k2_ap, e1_ap, okR_ok, e2a_ok, e2b_ok, e2a_ex, e2b_ex, e2_ap, eMv_ap, cpk_ok, eCp_ap, eFz_ap, kNil_ap, kCons_ap, eNil_ap, ecb_ok, ecb_ex, eca_ok, eca_ex, eCons_ap, eBor_ap, rT_ok, kCall_ap, rE_ok, rE_ex, rA_ok, eCall_ap, takeA_nil, tkc_ok, takeA_own, takeA_bor, putA_nil, putA_own, putA_bor, allF_nil, allF_cons, tV_ap, tVK_ap, tB_ap, tBK_ap, tNot_ap, tan_t, tan_f, tan_ex, tor_t, tor_f, tor_ex, tAnd_ap, tOr_ap, isB_bl, truth_bl, truth_lst, truth_list, truth_int, ean_t, ean_f, eAnd_ap, eor_t, eor_f, eOr_ap, eNot_ap, ifk_t, ifk_f, ifk_ex, eIf_ap, chk_t, chk_f, kCh_ap, kN_ap, eN_ap, ownsA_nil, ownsA_own, kTup_ap, kLst_ap, eTup_ap, eLst_ap, kIsi_ap, kSl_ap, eSl_ap, parI_ok, kPart_ap, kNoPart_ap, kRev_ap, gN_ap, gTp_tup, gCs_cons, gNl_nil, iIt_ap, items_list, items_tuple, iRange1_ap, rg1_ok, iRange2_ap, rg2_ok, tYesF_ap, nxt_nx, nxt_rt, nxt_ex, nxt_bk, nxt_ct, sSeq_ap, sNil_ap, sBk_ap, sCt_ap, sRaise_ap, sExpr_ap, sRet_ap, sRetN_ap, ifs_t, ifs_f, ifs_ex, sIf_ap, sSet_ap, sTgt_ap, kild_nx, kild_ct, kild_rt, kild_bk, kild_ex, kill_ap, wipe_nil, wipe_cons, app0_ok, isLst_ok, sApp0_ap, sFor_ap, sForE_ap, eLc_ap, back_nil, back_cons, bk1_none, bk1_fr, bk1_lst, endD_rt, endD_nx, endD_ex, semD_1, semD_2, semD_3, semD_4, semD_5, semD_6, semD_7, semD_8, outs_nil, outs_cons, frO_fr, opAdd_i, opAddI_i, opSub_i, opMod_i, opFdiv_i, opMul_r, opMul_l, opPow_i, opEq_i, opNe_i, opLt_i, opGt_i, opLe_i, opGe_i, opNeg_i, opLen_list, opLen_tup, opLen_lst, opIx_list, opIx_tup, opIx_lst, frOp_ap, onlyFr_fr, dat_fr, dat_lst, datL_nil, datL_fr, datL_lst, allFr_nil, allFr_cons, asS_list, asS_tup, opList_ap, opTuple_ap, ixN_nat, atI_0, atI_1, atI_2, atI_3, atI_4, atI_map, atI_int, pV_ap, getAt_ap, getP_nil, getP_ix, setAt_ap, setP_nil, setP_ix, pix_ok, pIx_ap, six_ok, sSetIx_ap, pp0_ok, ePop_ap, par2_ok, sPar_ap, aug1_ok, sAug_ap, opIsN_ap, isNoT_none, isNoT_int, isNoT_list, isNoT_tup, isNoT_lst, typT_fr, typT_lst, typD_none, typD_bool, typD_int, typD_str, typD_list, typD_tuple, isa_NoneType_bool, isa_NoneType_int, isa_NoneType_str, isa_NoneType_list, isa_NoneType_tuple, isa_NoneType_dict, isa_bool_bool, isa_bool_int, isa_bool_str, isa_bool_list, isa_bool_tuple, isa_bool_dict, isa_int_bool, isa_int_int, isa_int_str, isa_int_list, isa_int_tuple, isa_int_dict, isa_str_bool, isa_str_int, isa_str_str, isa_str_list, isa_str_tuple, isa_str_dict, isa_list_bool, isa_list_int, isa_list_str, isa_list_list, isa_list_tuple, isa_list_dict, isa_tuple_bool, isa_tuple_int, isa_tuple_str, isa_tuple_list, isa_tuple_tuple, isa_tuple_dict, isa_dict_bool, isa_dict_int, isa_dict_str, isa_dict_list, isa_dict_tuple, isa_dict_dict, opEq_emp, opEq_fe, opIn_ints, Option.bind_some, Option.map_some, List.map_cons, List.map_nil, List.cons_append, List.nil_append, List.append_nil, List.replicate, List.length_cons, List.length_nil, List.set_cons_succ, List.set_cons_zero, Nat.lt_add_one, if_true, if_false, Nat.reduceAdd, Nat.reduceLT, Nat.reduceLeDiff, List.not_mem_nil, List.mem_cons, Nat.reduceEqDiff, or_false, or_true, false_or, true_or, Bool.not_true, Bool.not_false, Bool.false_eq_true, reduceIte, Option.bind_eq_bind, Int.reduceAdd, Int.reduceSub, Int.reduceMul, Int.reduceLT, Int.reduceLE, Int.reduceNeg, Int.cast_ofNat_Int, Int.natCast_one, Int.natCast_zero, Int.reduceEq, Int.reduceNe, Int.toNat_natCast, Int.reduceToNat, Int.reducePow, List.isEmpty_nil, List.isEmpty_cons, List.getElem?_cons_succ, List.getElem?_cons_zero, reduceCtorEq, Nat.succ_eq_add_one, Nat.add_zero, Nat.zero_add, and_self, and_true, true_and, decide_true, decide_false, List.reverse_cons, List.reverse_nil, Option.map_eq_map, Bool.not_eq_true, Bool.not_eq_false, Bool.xor_false, Bool.xor_true, Bool.false_xor, Bool.true_xor, Nat.reduceSub, List.dropLast_cons₂, List.dropLast_singleton, decide_eq_true_eq, List.length_map, Nat.zero_le, how_ok p b (by omega) h1 h2 h3, c]
    have e2 : law_lock_b2 [o0, some (.fr (.int 10000)), some (.fr (lk p b))] = some (.nx [o0, some (.fr (.int 10000)), some (.fr (lk (p - 1) b))]) := by
      unfold law_lock_b2
      simp only [gsx_ok, gSi_ap, sxf_ok, sxe_ok, sSetIxE_ap, sx0_ok, sExt0_ap, par3_ok, sPar3_ap, kMt_ap, kLenSet_ap, iRange3_ap, opCount_fr, dat_map, opEq_lists, opEq_2, opNe_bl, opEq_bl, datL_map, sTry_ap, tryR_nx, tryR_rt, tryR_ex, hdl_t, hdl_f, handle_nil, handle_ap, asL_list, asL_map, opSum_fr, opSum_lst, opMin_2, opMax_2, opSl_list, opSl_map, opSl_tup, cutL_map, bnd_ok, bnd_ex, ofR_ok, ofR_ex, SZ_eq, kC_ap, slot_c0, slot_cs, kV_ap, frR_ok, kOk_ap, k1_ap, k2_ap, e1_ap, okR_ok, e2a_ok, e2b_ok, e2a_ex, e2b_ex, e2_ap, eMv_ap, cpk_ok, eCp_ap, eFz_ap, kNil_ap, kCons_ap, eNil_ap, ecb_ok, ecb_ex, eca_ok, eca_ex, eCons_ap, eBor_ap, rT_ok, kCall_ap, rE_ok, rE_ex, rA_ok, eCall_ap, takeA_nil, tkc_ok, takeA_own, takeA_bor, putA_nil, putA_own, putA_bor, allF_nil, allF_cons, tV_ap, tVK_ap, tB_ap, tBK_ap, tNot_ap, tan_t, tan_f, tan_ex, tor_t, tor_f, tor_ex, tAnd_ap, tOr_ap, isB_bl, truth_bl, truth_lst, truth_list, truth_int, ean_t, ean_f, eAnd_ap, eor_t, eor_f, eOr_ap, eNot_ap, ifk_t, ifk_f, ifk_ex, eIf_ap, chk_t, chk_f, kCh_ap, kN_ap, eN_ap, ownsA_nil, ownsA_own, kTup_ap, kLst_ap, eTup_ap, eLst_ap, kIsi_ap, kSl_ap, eSl_ap, parI_ok, kPart_ap, kNoPart_ap, kRev_ap, gN_ap, gTp_tup, gCs_cons, gNl_nil, iIt_ap, items_list, items_tuple, iRange1_ap, rg1_ok, iRange2_ap, rg2_ok, tYesF_ap, nxt_nx, nxt_rt, nxt_ex, nxt_bk, nxt_ct, sSeq_ap, sNil_ap, sBk_ap, sCt_ap, sRaise_ap, sExpr_ap, sRet_ap, sRetN_ap, ifs_t, ifs_f, ifs_ex, sIf_ap, sSet_ap, sTgt_ap, kild_nx, kild_ct, kild_rt, kild_bk, kild_ex, kill_ap, wipe_nil, wipe_cons, app0_ok, isLst_ok, sApp0_ap, sFor_ap, sForE_ap, eLc_ap, back_nil, back_cons, bk1_none, bk1_fr, bk1_lst, endD_rt, endD_nx, endD_ex, semD_1, semD_2, semD_3, semD_4, semD_5, semD_6, semD_7, semD_8, outs_nil, outs_cons, frO_fr, opAdd_i, opAddI_i, opSub_i, opMod_i, opFdiv_i, opMul_r, opMul_l, opPow_i, opEq_i, opNe_i, opLt_i, opGt_i, opLe_i, opGe_i, opNeg_i, opLen_list, opLen_tup, opLen_lst, opIx_list, opIx_tup, opIx_lst, frOp_ap, onlyFr_fr, dat_fr, dat_lst, datL_nil, datL_fr, datL_lst, allFr_nil, allFr_cons, asS_list, asS_tup, opList_ap, opTuple_ap, ixN_nat, atI_0, atI_1, atI_2, atI_3, atI_4, atI_map, atI_int, pV_ap, getAt_ap, getP_nil, getP_ix, setAt_ap, setP_nil, setP_ix, pix_ok, pIx_ap, six_ok, sSetIx_ap, pp0_ok, ePop_ap, par2_ok, sPar_ap, aug1_ok, sAug_ap, opIsN_ap, isNoT_none, isNoT_int, isNoT_list, isNoT_tup, isNoT_lst, typT_fr, typT_lst, typD_none, typD_bool, typD_int, typD_str, typD_list, typD_tuple, isa_NoneType_bool, isa_NoneType_int, isa_NoneType_str, isa_NoneType_list, isa_NoneType_tuple, isa_NoneType_dict, isa_bool_bool, isa_bool_int, isa_bool_str, isa_bool_list, isa_bool_tuple, isa_bool_dict, isa_int_bool, isa_int_int, isa_int_str, isa_int_list, isa_int_tuple, isa_int_dict, isa_str_bool, isa_str_int, isa_str_str, isa_str_list, isa_str_tuple, isa_str_dict, isa_list_bool, isa_list_int, isa_list_str, isa_list_list, isa_list_tuple, isa_list_dict, isa_tuple_bool, isa_tuple_int, isa_tuple_str, isa_tuple_list, isa_tuple_tuple, isa_tuple_dict, isa_dict_bool, isa_dict_int, isa_dict_str, isa_dict_list, isa_dict_tuple, isa_dict_dict, opEq_emp, opEq_fe, opIn_ints, Option.bind_some, Option.map_some, List.map_cons, List.map_nil, List.cons_append, List.nil_append, List.append_nil, List.replicate, List.length_cons, List.length_nil, List.set_cons_succ, List.set_cons_zero, Nat.lt_add_one, if_true, if_false, Nat.reduceAdd, Nat.reduceLT, Nat.reduceLeDiff, List.not_mem_nil, List.mem_cons, Nat.reduceEqDiff, or_false, or_true, false_or, true_or, Bool.not_true, Bool.not_false, Bool.false_eq_true, reduceIte, Option.bind_eq_bind, Int.reduceAdd, Int.reduceSub, Int.reduceMul, Int.reduceLT, Int.reduceLE, Int.reduceNeg, Int.cast_ofNat_Int, Int.natCast_one, Int.natCast_zero, Int.reduceEq, Int.reduceNe, Int.toNat_natCast, Int.reduceToNat, Int.reducePow, List.isEmpty_nil, List.isEmpty_cons, List.getElem?_cons_succ, List.getElem?_cons_zero, reduceCtorEq, Nat.succ_eq_add_one, Nat.add_zero, Nat.zero_add, and_self, and_true, true_and, decide_true, decide_false, List.reverse_cons, List.reverse_nil, Option.map_eq_map, Bool.not_eq_true, Bool.not_eq_false, Bool.xor_false, Bool.xor_true, Bool.false_xor, Bool.true_xor, Nat.reduceSub, List.dropLast_cons₂, List.dropLast_singleton, decide_eq_true_eq, List.length_map, Nat.zero_le, c1]
    have e3 : law_lock_t1 [o0, some (.fr (.int 10000)), some (.fr (lk (p - 1) b))] = some (.ok false [o0, some (.fr (.int 10000)), some (.fr (lk (p - 1) b))]) := by
      unfold law_lock_t1
      simp only [gsx_ok, gSi_ap, sxf_ok, sxe_ok, sSetIxE_ap, sx0_ok, sExt0_ap, par3_ok, sPar3_ap, kMt_ap, kLenSet_ap, iRange3_ap, opCount_fr, dat_map, opEq_lists, opEq_2, opNe_bl, opEq_bl, datL_map, sTry_ap, tryR_nx, tryR_rt, tryR_ex, hdl_t, hdl_f, handle_nil, handle_ap, asL_list, asL_map, opSum_fr, opSum_lst, opMin_2, opMax_2, opSl_list, opSl_map, opSl_tup, cutL_map, bnd_ok, bnd_ex, ofR_ok, ofR_ex, SZ_eq, kC_ap, slot_c0, slot_cs, kV_ap, frR_ok, kOk_ap, k1_ap, k2_ap, e1_ap, okR_ok, e2a_ok, e2b_ok, e2a_ex, e2b_ex, e2_ap, eMv_ap, cpk_ok, eCp_ap, eFz_ap, kNil_ap, kCons_ap, eNil_ap, ecb_ok, ecb_ex, eca_ok, eca_ex, eCons_ap, eBor_ap, rT_ok, kCall_ap, rE_ok, rE_ex, rA_ok, eCall_ap, takeA_nil, tkc_ok, takeA_own, takeA_bor, putA_nil, putA_own, putA_bor, allF_nil, allF_cons, tV_ap, tVK_ap, tB_ap, tBK_ap, tNot_ap, tan_t, tan_f, tan_ex, tor_t, tor_f, tor_ex, tAnd_ap, tOr_ap, isB_bl, truth_bl, truth_lst, truth_list, truth_int, ean_t, ean_f, eAnd_ap, eor_t, eor_f, eOr_ap, eNot_ap, ifk_t, ifk_f, ifk_ex, eIf_ap, chk_t, chk_f, kCh_ap, kN_ap, eN_ap, ownsA_nil, ownsA_own, kTup_ap, kLst_ap, eTup_ap, eLst_ap, kIsi_ap, kSl_ap, eSl_ap, parI_ok, kPart_ap, kNoPart_ap, kRev_ap, gN_ap, gTp_tup, gCs_cons, gNl_nil, iIt_ap, items_list, items_tuple, iRange1_ap, rg1_ok, iRange2_ap, rg2_ok, tYesF_ap, nxt_nx, nxt_rt, nxt_ex, nxt_bk, nxt_ct, sSeq_ap, sNil_ap, sBk_ap, sCt_ap, sRaise_ap, sExpr_ap, sRet_ap, sRetN_ap, ifs_t, ifs_f, ifs_ex, sIf_ap, sSet_ap, sTgt_ap, kild_nx, kild_ct, kild_rt, kild_bk, kild_ex, kill_ap, wipe_nil, wipe_cons, app0_ok, isLst_ok, sApp0_ap, sFor_ap, sForE_ap, eLc_ap, back_nil, back_cons, bk1_none, bk1_fr, bk1_lst, endD_rt, endD_nx, endD_ex, semD_1, semD_2, semD_3, semD_4, semD_5, semD_6, semD_7, semD_8, outs_nil, outs_cons, frO_fr, opAdd_i, opAddI_i, opSub_i, opMod_i, opFdiv_i, opMul_r, opMul_l, opPow_i, opEq_i, opNe_i, opLt_i, opGt_i, opLe_i, opGe_i, opNeg_i, opLen_list, opLen_tup, opLen_lst, opIx_list, opIx_tup, opIx_lst, frOp_ap, onlyFr_fr, dat_fr, dat_lst, datL_nil, datL_fr, datL_lst, allFr_nil, allFr_cons, asS_list, asS_tup, opList_ap, opTuple_ap, ixN_nat, atI_0, atI_1, atI_2, atI_3, atI_4, atI_map, atI_int, pV_ap, getAt_ap, getP_nil, getP_ix, setAt_ap, setP_nil, setP_ix, pix_ok, pIx_ap, six_ok, sSetIx_ap, pp0_ok, ePop_ap, par2_ok, sPar_ap, aug1_ok, sAug_ap, opIsN_ap, isNoT_none, isNoT_int, isNoT_list, isNoT_tup, isNoT_lst, typT_fr, typT_lst, typD_none, typD_bool, typD_int, typD_str, typD_list, typD_tuple, isa_NoneType_bool, isa_NoneType_int, isa_NoneType_str, isa_NoneType_list, isa_NoneType_tuple, isa_NoneType_dict, isa_bool_bool, isa_bool_int, isa_bool_str, isa_bool_list, isa_bool_tuple, isa_bool_dict, isa_int_bool, isa_int_int, isa_int_str, isa_int_list, isa_int_tuple, isa_int_dict, isa_str_bool, isa_str_int, isa_str_str, isa_str_list, isa_str_tuple, isa_str_dict, isa_list_bool, isa_list_int, isa_list_str, isa_list_list, isa_list_tuple, isa_list_dict, isa_tuple_bool, isa_tuple_int, isa_tuple_str, isa_tuple_list, isa_tuple_tuple, isa_tuple_dict, isa_dict_bool, isa_dict_int, isa_dict_str, isa_dict_list, isa_dict_tuple, isa_dict_dict, opEq_emp, opEq_fe, opIn_ints, Option.bind_some, Option.map_some, List.map_cons, List.map_nil, List.cons_append, List.nil_append, List.append_nil, List.replicate, List.length_cons, List.length_nil, List.set_cons_succ, List.set_cons_zero, Nat.lt_add_one, if_true, if_false, Nat.reduceAdd, Nat.reduceLT, Nat.reduceLeDiff, List.not_mem_nil, List.mem_cons, Nat.reduceEqDiff, or_false, or_true, false_or, true_or, Bool.not_true, Bool.not_false, Bool.false_eq_true, reduceIte, Option.bind_eq_bind, Int.reduceAdd, Int.reduceSub, Int.reduceMul, Int.reduceLT, Int.reduceLE, Int.reduceNeg, Int.cast_ofNat_Int, Int.natCast_one, Int.natCast_zero, Int.reduceEq, Int.reduceNe, Int.toNat_natCast, Int.reduceToNat, Int.reducePow, List.isEmpty_nil, List.isEmpty_cons, List.getElem?_cons_succ, List.getElem?_cons_zero, reduceCtorEq, Nat.succ_eq_add_one, Nat.add_zero, Nat.zero_add, and_self, and_true, true_and, decide_true, decide_false, List.reverse_cons, List.reverse_nil, Option.map_eq_map, Bool.not_eq_true, Bool.not_eq_false, Bool.xor_false, Bool.xor_true, Bool.false_xor, Bool.true_xor, Nat.reduceSub, List.dropLast_cons₂, List.dropLast_singleton, decide_eq_true_eq, List.length_map, Nat.zero_le, how_ok (p - 1) b (by omega) (by omega) h2 h3, c2]
    exact ⟨p - 1, by omega, by omega, (few (p - 1) b (by omega) (by omega) h2 h3).2 c2, by simp only [loopW, e1, e2, e3]⟩
  · have e1 : law_lock_t1 [o0, some (.fr (.int 10000)), some (.fr (lk p b))] = some (.ok false [o0, some (.fr (.int 10000)), some (.fr (lk p b))]) := by
      unfold law_lock_t1
      simp only [gsx_ok, gSi_ap, sxf_ok, sxe_ok, sSetIxE_ap, sx0_ok, sExt0_ap, par3_ok, sPar3_ap, kMt_ap, kLenSet_ap, iRange3_ap, opCount_fr, dat_map, opEq_lists, opEq_2, opNe_bl, opEq_bl, datL_map, sTry_ap, tryR_nx, tryR_rt, tryR_ex, hdl_t, hdl_f, handle_nil, handle_ap, asL_list, asL_map, opSum_fr, opSum_lst, opMin_2, opMax_2, opSl_list, opSl_map, opSl_tup, cutL_map, bnd_ok, bnd_ex, ofR_ok, ofR_ex, SZ_eq, kC_ap, slot_c0, slot_cs, kV_ap, frR_ok, kOk_ap, k1_ap, k2_ap, e1_ap, okR_ok, e2a_ok, e2b_ok, e2a_ex, e2b_ex, e2_ap, eMv_ap, cpk_ok, eCp_ap, eFz_ap, kNil_ap, kCons_ap, eNil_ap, ecb_ok, ecb_ex, eca_ok, eca_ex, eCons_ap, eBor_ap, rT_ok, kCall_ap, rE_ok, rE_ex, rA_ok, eCall_ap, takeA_nil, tkc_ok, takeA_own, takeA_bor, putA_nil, putA_own, putA_bor, allF_nil, allF_cons, tV_ap, tVK_ap, tB_ap, tBK_ap, tNot_ap, tan_t, tan_f, tan_ex, tor_t, tor_f, tor_ex, tAnd_ap, tOr_ap, isB_bl, truth_bl, truth_lst, truth_list, truth_int, ean_t, ean_f, eAnd_ap, eor_t, eor_f, eOr_ap, eNot_ap, ifk_t, ifk_f, ifk_ex, eIf_ap, chk_t, chk_f, kCh_ap, kN_ap, eN_ap, ownsA_nil, ownsA_own, kTup_ap, kLst_ap, eTup_ap, eLst_ap, kIsi_ap, kSl_ap, eSl_ap, parI_ok, kPart_ap, kNoPart_ap, kRev_ap, gN_ap, gTp_tup, gCs_cons, gNl_nil, iIt_ap, items_list, items_tuple, iRange1_ap, rg1_ok, iRange2_ap, rg2_ok, tYesF_ap, nxt_nx, nxt_rt, nxt_ex, nxt_bk, nxt_ct, sSeq_ap, sNil_ap, sBk_ap, sCt_ap, sRaise_ap, sExpr_ap, sRet_ap, sRetN_ap, ifs_t, ifs_f, ifs_ex, sIf_ap, sSet_ap, sTgt_ap, kild_nx, kild_ct, kild_rt, kild_bk, kild_ex, kill_ap, wipe_nil, wipe_cons, app0_ok, isLst_ok, sApp0_ap, sFor_ap, sForE_ap, eLc_ap, back_nil, back_cons, bk1_none, bk1_fr, bk1_lst, endD_rt, endD_nx, endD_ex, semD_1, semD_2, semD_3, semD_4, semD_5, semD_6, semD_7, semD_8, outs_nil, outs_cons, frO_fr, opAdd_i, opAddI_i, opSub_i, opMod_i, opFdiv_i, opMul_r, opMul_l, opPow_i, opEq_i, opNe_i, opLt_i, opGt_i, opLe_i, opGe_i, opNeg_i, opLen_list, opLen_tup, opLen_lst, opIx_list, opIx_tup, opIx_lst, frOp_ap, onlyFr_fr, dat_fr, dat_lst, datL_nil, datL_fr, datL_lst, allFr_nil, allFr_cons, asS_list, asS_tup, opList_ap, opTuple_ap, ixN_nat, atI_0, atI_1, atI_2, atI_3, atI_4, atI_map, atI_int, pV_ap, getAt_ap, getP_nil, getP_ix, setAt_ap, setP_nil, setP_ix, pix_ok, pIx_ap, six_ok, sSetIx_ap, pp0_ok, ePop_ap, par2_ok, sPar_ap, aug1_ok, sAug_ap, opIsN_ap, isNoT_none, isNoT_int, isNoT_list, isNoT_tup, isNoT_lst, typT_fr, typT_lst, typD_none, typD_bool, typD_int, typD_str, typD_list, typD_tuple, isa_NoneType_bool, isa_NoneType_int, isa_NoneType_str, isa_NoneType_list, isa_NoneType_tuple, isa_NoneType_dict, isa_bool_bool, isa_bool_int, isa_bool_str, isa_bool_list, isa_bool_tuple, isa_bool_dict, isa_int_bool, isa_int_int, isa_int_str, isa_int_list, isa_int_tuple, isa_int_dict, isa_str_bool, isa_str_int, isa_str_str, isa_str_list, isa_str_tuple, isa_str_dict, isa_list_bool, isa_list_int, isa_list_str, isa_list_list, isa_list_tuple, isa_list_dict, isa_tuple_bool, isa_tuple_int, isa_tuple_str, isa_tuple_list, isa_tuple_tuple, isa_tuple_dict, isa_dict_bool, isa_dict_int, isa_dict_str, isa_dict_list, isa_dict_tuple, isa_dict_dict, opEq_emp, opEq_fe, opIn_ints, Option.bind_some, Option.map_some, List.map_cons, List.map_nil, List.cons_append, List.nil_append, List.append_nil, List.replicate, List.length_cons, List.length_nil, List.set_cons_succ, List.set_cons_zero, Nat.lt_add_one, if_true, if_false, Nat.reduceAdd, Nat.reduceLT, Nat.reduceLeDiff, List.not_mem_nil, List.mem_cons, Nat.reduceEqDiff, or_false, or_true, false_or, true_or, Bool.not_true, Bool.not_false, Bool.false_eq_true, reduceIte, Option.bind_eq_bind, Int.reduceAdd, Int.reduceSub, Int.reduceMul, Int.reduceLT, Int.reduceLE, Int.reduceNeg, Int.cast_ofNat_Int, Int.natCast_one, Int.natCast_zero, Int.reduceEq, Int.reduceNe, Int.toNat_natCast, Int.reduceToNat, Int.reducePow, List.isEmpty_nil, List.isEmpty_cons, List.getElem?_cons_succ, List.getElem?_cons_zero, reduceCtorEq, Nat.succ_eq_add_one, Nat.add_zero, Nat.zero_add, and_self, and_true, true_and, decide_true, decide_false, List.reverse_cons, List.reverse_nil, Option.map_eq_map, Bool.not_eq_true, Bool.not_eq_false, Bool.xor_false, Bool.xor_true, Bool.false_xor, Bool.true_xor, Nat.reduceSub, List.dropLast_cons₂, List.dropLast_singleton, decide_eq_true_eq, List.length_map, Nat.zero_le, how_ok p b (by omega) h1 h2 h3, c]
    exact ⟨p, h0, h1, f2 c, by simp only [loopW, e1]⟩
theorem lock_ok (ms : List Int) (hm' : ∀ m ∈ ms, 0 ≤ m ∧ m < 1000000) (i : Int) (hi : 0 ≤ i) : ∃ p b i', 1 ≤ p ∧ p ≤ 5 ∧ 2 ≤ b ∧ b ≤ 10 ∧ ¬ 10000 < nm b p.toNat ∧ 0 ≤ i' ∧ law_lock_sem [Dr ms i, .fr (.int 10000)] = some (.ok (.fr (lk p b)) [some (Dr ms i'), some (.fr (.int 10000))]) := by
  have b0 := dv_nn (i := i) hm'
  have b1 := dv_nn (i := i + 1) hm'
  obtain ⟨p', h1, h2, h3, e⟩ := lock_w (1 + dv ms i % 5) (2 + dv ms (i + 1) % 9) (some (Dr ms (i + 1 + 1))) (by omega) (by omega) (by omega) (by omega)
  refine ⟨p', 2 + dv ms (i + 1) % 9, i + 1 + 1, h1, h2, by omega, by omega, h3, by omega, ?_⟩
  unfold law_lock_sem law_lock_b
  simp (disch := omega) only [gsx_ok, gSi_ap, sxf_ok, sxe_ok, sSetIxE_ap, sx0_ok, sExt0_ap, par3_ok, sPar3_ap, kMt_ap, kLenSet_ap, iRange3_ap, opCount_fr, dat_map, opEq_lists, opEq_2, opNe_bl, opEq_bl, datL_map, sTry_ap, tryR_nx, tryR_rt, tryR_ex, hdl_t, hdl_f, handle_nil, handle_ap, asL_list, asL_map, opSum_fr, opSum_lst, opMin_2, opMax_2, opSl_list, opSl_map, opSl_tup, cutL_map, bnd_ok, bnd_ex, ofR_ok, ofR_ex, SZ_eq, kC_ap, slot_c0, slot_cs, kV_ap, frR_ok, kOk_ap, k1_ap, k2_ap, e1_ap, okR_ok, e2a_ok, e2b_ok, e2a_ex, e2b_ex, e2_ap, eMv_ap, cpk_ok, eCp_ap, eFz_ap, kNil_ap, kCons_ap, eNil_ap, ecb_ok, ecb_ex, eca_ok, eca_ex, eCons_ap, eBor_ap, rT_ok, kCall_ap, rE_ok, rE_ex, rA_ok, eCall_ap, takeA_nil, tkc_ok, takeA_own, takeA_bor, putA_nil, putA_own, putA_bor, allF_nil, allF_cons, tV_ap, tVK_ap, tB_ap, tBK_ap, tNot_ap, tan_t, tan_f, tan_ex, tor_t, tor_f, tor_ex, tAnd_ap, tOr_ap, isB_bl, truth_bl, truth_lst, truth_list, truth_int, ean_t, ean_f, eAnd_ap, eor_t, eor_f, eOr_ap, eNot_ap, ifk_t, ifk_f, ifk_ex, eIf_ap, chk_t, chk_f, kCh_ap, kN_ap, eN_ap, ownsA_nil, ownsA_own, kTup_ap, kLst_ap, eTup_ap, eLst_ap, kIsi_ap, kSl_ap, eSl_ap, parI_ok, kPart_ap, kNoPart_ap, kRev_ap, gN_ap, gTp_tup, gCs_cons, gNl_nil, iIt_ap, items_list, items_tuple, iRange1_ap, rg1_ok, iRange2_ap, rg2_ok, tYesF_ap, nxt_nx, nxt_rt, nxt_ex, nxt_bk, nxt_ct, sSeq_ap, sNil_ap, sBk_ap, sCt_ap, sRaise_ap, sExpr_ap, sRet_ap, sRetN_ap, ifs_t, ifs_f, ifs_ex, sIf_ap, sSet_ap, sTgt_ap, kild_nx, kild_ct, kild_rt, kild_bk, kild_ex, kill_ap, wipe_nil, wipe_cons, app0_ok, isLst_ok, sApp0_ap, sFor_ap, sForE_ap, eLc_ap, back_nil, back_cons, bk1_none, bk1_fr, bk1_lst, endD_rt, endD_nx, endD_ex, semD_1, semD_2, semD_3, semD_4, semD_5, semD_6, semD_7, semD_8, outs_nil, outs_cons, frO_fr, opAdd_i, opAddI_i, opSub_i, opMod_i, opFdiv_i, opMul_r, opMul_l, opPow_i, opEq_i, opNe_i, opLt_i, opGt_i, opLe_i, opGe_i, opNeg_i, opLen_list, opLen_tup, opLen_lst, opIx_list, opIx_tup, opIx_lst, frOp_ap, onlyFr_fr, dat_fr, dat_lst, datL_nil, datL_fr, datL_lst, allFr_nil, allFr_cons, asS_list, asS_tup, opList_ap, opTuple_ap, ixN_nat, atI_0, atI_1, atI_2, atI_3, atI_4, atI_map, atI_int, pV_ap, getAt_ap, getP_nil, getP_ix, setAt_ap, setP_nil, setP_ix, pix_ok, pIx_ap, six_ok, sSetIx_ap, pp0_ok, ePop_ap, par2_ok, sPar_ap, aug1_ok, sAug_ap, opIsN_ap, isNoT_none, isNoT_int, isNoT_list, isNoT_tup, isNoT_lst, typT_fr, typT_lst, typD_none, typD_bool, typD_int, typD_str, typD_list, typD_tuple, isa_NoneType_bool, isa_NoneType_int, isa_NoneType_str, isa_NoneType_list, isa_NoneType_tuple, isa_NoneType_dict, isa_bool_bool, isa_bool_int, isa_bool_str, isa_bool_list, isa_bool_tuple, isa_bool_dict, isa_int_bool, isa_int_int, isa_int_str, isa_int_list, isa_int_tuple, isa_int_dict, isa_str_bool, isa_str_int, isa_str_str, isa_str_list, isa_str_tuple, isa_str_dict, isa_list_bool, isa_list_int, isa_list_str, isa_list_list, isa_list_tuple, isa_list_dict, isa_tuple_bool, isa_tuple_int, isa_tuple_str, isa_tuple_list, isa_tuple_tuple, isa_tuple_dict, isa_dict_bool, isa_dict_int, isa_dict_str, isa_dict_list, isa_dict_tuple, isa_dict_dict, opEq_emp, opEq_fe, opIn_ints, Option.bind_some, Option.map_some, List.map_cons, List.map_nil, List.cons_append, List.nil_append, List.append_nil, List.replicate, List.length_cons, List.length_nil, List.set_cons_succ, List.set_cons_zero, Nat.lt_add_one, if_true, if_false, Nat.reduceAdd, Nat.reduceLT, Nat.reduceLeDiff, List.not_mem_nil, List.mem_cons, Nat.reduceEqDiff, or_false, or_true, false_or, true_or, Bool.not_true, Bool.not_false, Bool.false_eq_true, reduceIte, Option.bind_eq_bind, Int.reduceAdd, Int.reduceSub, Int.reduceMul, Int.reduceLT, Int.reduceLE, Int.reduceNeg, Int.cast_ofNat_Int, Int.natCast_one, Int.natCast_zero, Int.reduceEq, Int.reduceNe, Int.toNat_natCast, Int.reduceToNat, Int.reducePow, List.isEmpty_nil, List.isEmpty_cons, List.getElem?_cons_succ, List.getElem?_cons_zero, reduceCtorEq, Nat.succ_eq_add_one, Nat.add_zero, Nat.zero_add, and_self, and_true, true_and, decide_true, decide_false, List.reverse_cons, List.reverse_nil, Option.map_eq_map, Bool.not_eq_true, Bool.not_eq_false, Bool.xor_false, Bool.xor_true, Bool.false_xor, Bool.true_xor, Nat.reduceSub, List.dropLast_cons₂, List.dropLast_singleton, decide_eq_true_eq, List.length_map, Nat.zero_le, draw_ok, e]
theorem code_ok (ms : List Int) (hm' : ∀ m ∈ ms, 0 ≤ m ∧ m < 1000000) (i p b : Int) (hi : 0 ≤ i) (h0 : 1 ≤ p) (h1 : p ≤ 5) (h2 : 2 ≤ b) (h3 : b ≤ 10) : ∃ c i', Cd p b c ∧ 0 ≤ i' ∧ law_code_sem [Dr ms i, .fr (lk p b)] = some (.ok (.lst ((c.map PyData.int).map .fr)) [some (Dr ms i'), some (.fr (lk p b))]) := by
  unfold law_code_sem law_code_b
  have q1 : p ≤ 16777216 := by omega
  have q2 : -16777216 ≤ p := by omega
  have p0 : 0 < b := by omega
  obtain ⟨c, ρ', hl, hp, e, i', hi', rfl⟩ := cLoop_eff (own := [2]) (g := gN 2) (fe := eFz (e2 opMod (eCall law_draw_sem (eBor 0 eNil)) (kOk (k2 opIx (kV 1) (kC (.int 1))))))
    (v := fun k : Int => T.fr (.int k)) (P := fun k : Int => 0 ≤ k ∧ k < b) (fun ρ => ∃ i' : Int, 0 ≤ i' ∧ ρ = [some (Dr ms i'), some (.fr (lk p b)), none]) (ds := rngD 0 p.toNat) (ρ := [some (Dr ms i), some (.fr (lk p b)), none]) ⟨i, hi, rfl⟩
    (fun d hd ρ ⟨j, hj, e⟩ => by
      subst e
      refine ⟨dv ms j % b, [some (Dr ms (j + 1)), some (.fr (lk p b)), some (.fr d)], ?_, ⟨Int.emod_nonneg _ (by omega), Int.emod_lt_of_pos _ p0⟩, j + 1, by omega, rfl⟩
      simp (disch := omega) only [gsx_ok, gSi_ap, sxf_ok, sxe_ok, sSetIxE_ap, sx0_ok, sExt0_ap, par3_ok, sPar3_ap, kMt_ap, kLenSet_ap, iRange3_ap, opCount_fr, dat_map, opEq_lists, opEq_2, opNe_bl, opEq_bl, datL_map, sTry_ap, tryR_nx, tryR_rt, tryR_ex, hdl_t, hdl_f, handle_nil, handle_ap, asL_list, asL_map, opSum_fr, opSum_lst, opMin_2, opMax_2, opSl_list, opSl_map, opSl_tup, cutL_map, bnd_ok, bnd_ex, ofR_ok, ofR_ex, SZ_eq, kC_ap, slot_c0, slot_cs, kV_ap, frR_ok, kOk_ap, k1_ap, k2_ap, e1_ap, okR_ok, e2a_ok, e2b_ok, e2a_ex, e2b_ex, e2_ap, eMv_ap, cpk_ok, eCp_ap, eFz_ap, kNil_ap, kCons_ap, eNil_ap, ecb_ok, ecb_ex, eca_ok, eca_ex, eCons_ap, eBor_ap, rT_ok, kCall_ap, rE_ok, rE_ex, rA_ok, eCall_ap, takeA_nil, tkc_ok, takeA_own, takeA_bor, putA_nil, putA_own, putA_bor, allF_nil, allF_cons, tV_ap, tVK_ap, tB_ap, tBK_ap, tNot_ap, tan_t, tan_f, tan_ex, tor_t, tor_f, tor_ex, tAnd_ap, tOr_ap, isB_bl, truth_bl, truth_lst, truth_list, truth_int, ean_t, ean_f, eAnd_ap, eor_t, eor_f, eOr_ap, eNot_ap, ifk_t, ifk_f, ifk_ex, eIf_ap, chk_t, chk_f, kCh_ap, kN_ap, eN_ap, ownsA_nil, ownsA_own, kTup_ap, kLst_ap, eTup_ap, eLst_ap, kIsi_ap, kSl_ap, eSl_ap, parI_ok, kPart_ap, kNoPart_ap, kRev_ap, gN_ap, gTp_tup, gCs_cons, gNl_nil, iIt_ap, items_list, items_tuple, iRange1_ap, rg1_ok, iRange2_ap, rg2_ok, tYesF_ap, nxt_nx, nxt_rt, nxt_ex, nxt_bk, nxt_ct, sSeq_ap, sNil_ap, sBk_ap, sCt_ap, sRaise_ap, sExpr_ap, sRet_ap, sRetN_ap, ifs_t, ifs_f, ifs_ex, sIf_ap, sSet_ap, sTgt_ap, kild_nx, kild_ct, kild_rt, kild_bk, kild_ex, kill_ap, wipe_nil, wipe_cons, app0_ok, isLst_ok, sApp0_ap, sFor_ap, sForE_ap, eLc_ap, back_nil, back_cons, bk1_none, bk1_fr, bk1_lst, endD_rt, endD_nx, endD_ex, semD_1, semD_2, semD_3, semD_4, semD_5, semD_6, semD_7, semD_8, outs_nil, outs_cons, frO_fr, opAdd_i, opAddI_i, opSub_i, opMod_i, opFdiv_i, opMul_r, opMul_l, opPow_i, opEq_i, opNe_i, opLt_i, opGt_i, opLe_i, opGe_i, opNeg_i, opLen_list, opLen_tup, opLen_lst, opIx_list, opIx_tup, opIx_lst, frOp_ap, onlyFr_fr, dat_fr, dat_lst, datL_nil, datL_fr, datL_lst, allFr_nil, allFr_cons, asS_list, asS_tup, opList_ap, opTuple_ap, ixN_nat, atI_0, atI_1, atI_2, atI_3, atI_4, atI_map, atI_int, pV_ap, getAt_ap, getP_nil, getP_ix, setAt_ap, setP_nil, setP_ix, pix_ok, pIx_ap, six_ok, sSetIx_ap, pp0_ok, ePop_ap, par2_ok, sPar_ap, aug1_ok, sAug_ap, opIsN_ap, isNoT_none, isNoT_int, isNoT_list, isNoT_tup, isNoT_lst, typT_fr, typT_lst, typD_none, typD_bool, typD_int, typD_str, typD_list, typD_tuple, isa_NoneType_bool, isa_NoneType_int, isa_NoneType_str, isa_NoneType_list, isa_NoneType_tuple, isa_NoneType_dict, isa_bool_bool, isa_bool_int, isa_bool_str, isa_bool_list, isa_bool_tuple, isa_bool_dict, isa_int_bool, isa_int_int, isa_int_str, isa_int_list, isa_int_tuple, isa_int_dict, isa_str_bool, isa_str_int, isa_str_str, isa_str_list, isa_str_tuple, isa_str_dict, isa_list_bool, isa_list_int, isa_list_str, isa_list_list, isa_list_tuple, isa_list_dict, isa_tuple_bool, isa_tuple_int, isa_tuple_str, isa_tuple_list, isa_tuple_tuple, isa_tuple_dict, isa_dict_bool, isa_dict_int, isa_dict_str, isa_dict_list, isa_dict_tuple, isa_dict_dict, opEq_emp, opEq_fe, opIn_ints, Option.bind_some, Option.map_some, List.map_cons, List.map_nil, List.cons_append, List.nil_append, List.append_nil, List.replicate, List.length_cons, List.length_nil, List.set_cons_succ, List.set_cons_zero, Nat.lt_add_one, if_true, if_false, Nat.reduceAdd, Nat.reduceLT, Nat.reduceLeDiff, List.not_mem_nil, List.mem_cons, Nat.reduceEqDiff, or_false, or_true, false_or, true_or, Bool.not_true, Bool.not_false, Bool.false_eq_true, reduceIte, Option.bind_eq_bind, Int.reduceAdd, Int.reduceSub, Int.reduceMul, Int.reduceLT, Int.reduceLE, Int.reduceNeg, Int.cast_ofNat_Int, Int.natCast_one, Int.natCast_zero, Int.reduceEq, Int.reduceNe, Int.toNat_natCast, Int.reduceToNat, Int.reducePow, List.isEmpty_nil, List.isEmpty_cons, List.getElem?_cons_succ, List.getElem?_cons_zero, reduceCtorEq, Nat.succ_eq_add_one, Nat.add_zero, Nat.zero_add, and_self, and_true, true_and, decide_true, decide_false, List.reverse_cons, List.reverse_nil, Option.map_eq_map, Bool.not_eq_true, Bool.not_eq_false, Bool.xor_false, Bool.xor_true, Bool.false_xor, Bool.true_xor, Nat.reduceSub, List.dropLast_cons₂, List.dropLast_singleton, decide_eq_true_eq, List.length_map, Nat.zero_le, draw_ok, opMod_i p0])
  rw [rngD_len] at hl
  refine ⟨c, i', ⟨by omega, hp⟩, hi', ?_⟩
  have c1 : law_code_c1 [some (Dr ms i), some (.fr (lk p b)), none] = some (.ok (.lst ((c.map PyData.int).map .fr)) [some (Dr ms i'), some (.fr (lk p b)), none]) := by
    unfold law_code_c1
    simp only [gsx_ok, gSi_ap, sxf_ok, sxe_ok, sSetIxE_ap, sx0_ok, sExt0_ap, par3_ok, sPar3_ap, kMt_ap, kLenSet_ap, iRange3_ap, opCount_fr, dat_map, opEq_lists, opEq_2, opNe_bl, opEq_bl, datL_map, sTry_ap, tryR_nx, tryR_rt, tryR_ex, hdl_t, hdl_f, handle_nil, handle_ap, asL_list, asL_map, opSum_fr, opSum_lst, opMin_2, opMax_2, opSl_list, opSl_map, opSl_tup, cutL_map, bnd_ok, bnd_ex, ofR_ok, ofR_ex, SZ_eq, kC_ap, slot_c0, slot_cs, kV_ap, frR_ok, kOk_ap, k1_ap, k2_ap, e1_ap, okR_ok, e2a_ok, e2b_ok, e2a_ex, e2b_ex, e2_ap, eMv_ap, cpk_ok, eCp_ap, eFz_ap, kNil_ap, kCons_ap, eNil_ap, ecb_ok, ecb_ex, eca_ok, eca_ex, eCons_ap, eBor_ap, rT_ok, kCall_ap, rE_ok, rE_ex, rA_ok, eCall_ap, takeA_nil, tkc_ok, takeA_own, takeA_bor, putA_nil, putA_own, putA_bor, allF_nil, allF_cons, tV_ap, tVK_ap, tB_ap, tBK_ap, tNot_ap, tan_t, tan_f, tan_ex, tor_t, tor_f, tor_ex, tAnd_ap, tOr_ap, isB_bl, truth_bl, truth_lst, truth_list, truth_int, ean_t, ean_f, eAnd_ap, eor_t, eor_f, eOr_ap, eNot_ap, ifk_t, ifk_f, ifk_ex, eIf_ap, chk_t, chk_f, kCh_ap, kN_ap, eN_ap, ownsA_nil, ownsA_own, kTup_ap, kLst_ap, eTup_ap, eLst_ap, kIsi_ap, kSl_ap, eSl_ap, parI_ok, kPart_ap, kNoPart_ap, kRev_ap, gN_ap, gTp_tup, gCs_cons, gNl_nil, iIt_ap, items_list, items_tuple, iRange1_ap, rg1_ok, iRange2_ap, rg2_ok, tYesF_ap, nxt_nx, nxt_rt, nxt_ex, nxt_bk, nxt_ct, sSeq_ap, sNil_ap, sBk_ap, sCt_ap, sRaise_ap, sExpr_ap, sRet_ap, sRetN_ap, ifs_t, ifs_f, ifs_ex, sIf_ap, sSet_ap, sTgt_ap, kild_nx, kild_ct, kild_rt, kild_bk, kild_ex, kill_ap, wipe_nil, wipe_cons, app0_ok, isLst_ok, sApp0_ap, sFor_ap, sForE_ap, eLc_ap, back_nil, back_cons, bk1_none, bk1_fr, bk1_lst, endD_rt, endD_nx, endD_ex, semD_1, semD_2, semD_3, semD_4, semD_5, semD_6, semD_7, semD_8, outs_nil, outs_cons, frO_fr, opAdd_i, opAddI_i, opSub_i, opMod_i, opFdiv_i, opMul_r, opMul_l, opPow_i, opEq_i, opNe_i, opLt_i, opGt_i, opLe_i, opGe_i, opNeg_i, opLen_list, opLen_tup, opLen_lst, opIx_list, opIx_tup, opIx_lst, frOp_ap, onlyFr_fr, dat_fr, dat_lst, datL_nil, datL_fr, datL_lst, allFr_nil, allFr_cons, asS_list, asS_tup, opList_ap, opTuple_ap, ixN_nat, atI_0, atI_1, atI_2, atI_3, atI_4, atI_map, atI_int, pV_ap, getAt_ap, getP_nil, getP_ix, setAt_ap, setP_nil, setP_ix, pix_ok, pIx_ap, six_ok, sSetIx_ap, pp0_ok, ePop_ap, par2_ok, sPar_ap, aug1_ok, sAug_ap, opIsN_ap, isNoT_none, isNoT_int, isNoT_list, isNoT_tup, isNoT_lst, typT_fr, typT_lst, typD_none, typD_bool, typD_int, typD_str, typD_list, typD_tuple, isa_NoneType_bool, isa_NoneType_int, isa_NoneType_str, isa_NoneType_list, isa_NoneType_tuple, isa_NoneType_dict, isa_bool_bool, isa_bool_int, isa_bool_str, isa_bool_list, isa_bool_tuple, isa_bool_dict, isa_int_bool, isa_int_int, isa_int_str, isa_int_list, isa_int_tuple, isa_int_dict, isa_str_bool, isa_str_int, isa_str_str, isa_str_list, isa_str_tuple, isa_str_dict, isa_list_bool, isa_list_int, isa_list_str, isa_list_list, isa_list_tuple, isa_list_dict, isa_tuple_bool, isa_tuple_int, isa_tuple_str, isa_tuple_list, isa_tuple_tuple, isa_tuple_dict, isa_dict_bool, isa_dict_int, isa_dict_str, isa_dict_list, isa_dict_tuple, isa_dict_dict, opEq_emp, opEq_fe, opIn_ints, Option.bind_some, Option.map_some, List.map_cons, List.map_nil, List.cons_append, List.nil_append, List.append_nil, List.replicate, List.length_cons, List.length_nil, List.set_cons_succ, List.set_cons_zero, Nat.lt_add_one, if_true, if_false, Nat.reduceAdd, Nat.reduceLT, Nat.reduceLeDiff, List.not_mem_nil, List.mem_cons, Nat.reduceEqDiff, or_false, or_true, false_or, true_or, Bool.not_true, Bool.not_false, Bool.false_eq_true, reduceIte, Option.bind_eq_bind, Int.reduceAdd, Int.reduceSub, Int.reduceMul, Int.reduceLT, Int.reduceLE, Int.reduceNeg, Int.cast_ofNat_Int, Int.natCast_one, Int.natCast_zero, Int.reduceEq, Int.reduceNe, Int.toNat_natCast, Int.reduceToNat, Int.reducePow, List.isEmpty_nil, List.isEmpty_cons, List.getElem?_cons_succ, List.getElem?_cons_zero, reduceCtorEq, Nat.succ_eq_add_one, Nat.add_zero, Nat.zero_add, and_self, and_true, true_and, decide_true, decide_false, List.reverse_cons, List.reverse_nil, Option.map_eq_map, Bool.not_eq_true, Bool.not_eq_false, Bool.xor_false, Bool.xor_true, Bool.false_xor, Bool.true_xor, Nat.reduceSub, List.dropLast_cons₂, List.dropLast_singleton, decide_eq_true_eq, List.length_map, Nat.zero_le, q1, q2, e]
    simp [gsx_ok, gSi_ap, sxf_ok, sxe_ok, sSetIxE_ap, sx0_ok, sExt0_ap, par3_ok, sPar3_ap, kMt_ap, kLenSet_ap, iRange3_ap, opCount_fr, dat_map, opEq_lists, opEq_2, opNe_bl, opEq_bl, datL_map, sTry_ap, tryR_nx, tryR_rt, tryR_ex, hdl_t, hdl_f, handle_nil, handle_ap, asL_list, asL_map, opSum_fr, opSum_lst, opMin_2, opMax_2, opSl_list, opSl_map, opSl_tup, cutL_map, bnd_ok, bnd_ex, ofR_ok, ofR_ex, SZ_eq, kC_ap, slot_c0, slot_cs, kV_ap, frR_ok, kOk_ap, k1_ap, k2_ap, e1_ap, okR_ok, e2a_ok, e2b_ok, e2a_ex, e2b_ex, e2_ap, eMv_ap, cpk_ok, eCp_ap, eFz_ap, kNil_ap, kCons_ap, eNil_ap, ecb_ok, ecb_ex, eca_ok, eca_ex, eCons_ap, eBor_ap, rT_ok, kCall_ap, rE_ok, rE_ex, rA_ok, eCall_ap, takeA_nil, tkc_ok, takeA_own, takeA_bor, putA_nil, putA_own, putA_bor, allF_nil, allF_cons, tV_ap, tVK_ap, tB_ap, tBK_ap, tNot_ap, tan_t, tan_f, tan_ex, tor_t, tor_f, tor_ex, tAnd_ap, tOr_ap, isB_bl, truth_bl, truth_lst, truth_list, truth_int, ean_t, ean_f, eAnd_ap, eor_t, eor_f, eOr_ap, eNot_ap, ifk_t, ifk_f, ifk_ex, eIf_ap, chk_t, chk_f, kCh_ap, kN_ap, eN_ap, ownsA_nil, ownsA_own, kTup_ap, kLst_ap, eTup_ap, eLst_ap, kIsi_ap, kSl_ap, eSl_ap, parI_ok, kPart_ap, kNoPart_ap, kRev_ap, gN_ap, gTp_tup, gCs_cons, gNl_nil, iIt_ap, items_list, items_tuple, iRange1_ap, rg1_ok, iRange2_ap, rg2_ok, tYesF_ap, nxt_nx, nxt_rt, nxt_ex, nxt_bk, nxt_ct, sSeq_ap, sNil_ap, sBk_ap, sCt_ap, sRaise_ap, sExpr_ap, sRet_ap, sRetN_ap, ifs_t, ifs_f, ifs_ex, sIf_ap, sSet_ap, sTgt_ap, kild_nx, kild_ct, kild_rt, kild_bk, kild_ex, kill_ap, wipe_nil, wipe_cons, app0_ok, isLst_ok, sApp0_ap, sFor_ap, sForE_ap, eLc_ap, back_nil, back_cons, bk1_none, bk1_fr, bk1_lst, endD_rt, endD_nx, endD_ex, semD_1, semD_2, semD_3, semD_4, semD_5, semD_6, semD_7, semD_8, outs_nil, outs_cons, frO_fr, opAdd_i, opAddI_i, opSub_i, opMod_i, opFdiv_i, opMul_r, opMul_l, opPow_i, opEq_i, opNe_i, opLt_i, opGt_i, opLe_i, opGe_i, opNeg_i, opLen_list, opLen_tup, opLen_lst, opIx_list, opIx_tup, opIx_lst, frOp_ap, onlyFr_fr, dat_fr, dat_lst, datL_nil, datL_fr, datL_lst, allFr_nil, allFr_cons, asS_list, asS_tup, opList_ap, opTuple_ap, ixN_nat, atI_0, atI_1, atI_2, atI_3, atI_4, atI_map, atI_int, pV_ap, getAt_ap, getP_nil, getP_ix, setAt_ap, setP_nil, setP_ix, pix_ok, pIx_ap, six_ok, sSetIx_ap, pp0_ok, ePop_ap, par2_ok, sPar_ap, aug1_ok, sAug_ap, opIsN_ap, isNoT_none, isNoT_int, isNoT_list, isNoT_tup, isNoT_lst, typT_fr, typT_lst, typD_none, typD_bool, typD_int, typD_str, typD_list, typD_tuple, isa_NoneType_bool, isa_NoneType_int, isa_NoneType_str, isa_NoneType_list, isa_NoneType_tuple, isa_NoneType_dict, isa_bool_bool, isa_bool_int, isa_bool_str, isa_bool_list, isa_bool_tuple, isa_bool_dict, isa_int_bool, isa_int_int, isa_int_str, isa_int_list, isa_int_tuple, isa_int_dict, isa_str_bool, isa_str_int, isa_str_str, isa_str_list, isa_str_tuple, isa_str_dict, isa_list_bool, isa_list_int, isa_list_str, isa_list_list, isa_list_tuple, isa_list_dict, isa_tuple_bool, isa_tuple_int, isa_tuple_str, isa_tuple_list, isa_tuple_tuple, isa_tuple_dict, isa_dict_bool, isa_dict_int, isa_dict_str, isa_dict_list, isa_dict_tuple, isa_dict_dict, opEq_emp, opEq_fe, opIn_ints, Option.bind_some, Option.map_some, List.map_cons, List.map_nil, List.cons_append, List.nil_append, List.append_nil, List.replicate, List.length_cons, List.length_nil, List.set_cons_succ, List.set_cons_zero, Nat.lt_add_one, if_true, if_false, Nat.reduceAdd, Nat.reduceLT, Nat.reduceLeDiff, List.not_mem_nil, List.mem_cons, Nat.reduceEqDiff, or_false, or_true, false_or, true_or, Bool.not_true, Bool.not_false, Bool.false_eq_true, reduceIte, Option.bind_eq_bind, Int.reduceAdd, Int.reduceSub, Int.reduceMul, Int.reduceLT, Int.reduceLE, Int.reduceNeg, Int.cast_ofNat_Int, Int.natCast_one, Int.natCast_zero, Int.reduceEq, Int.reduceNe, Int.toNat_natCast, Int.reduceToNat, Int.reducePow, List.isEmpty_nil, List.isEmpty_cons, List.getElem?_cons_succ, List.getElem?_cons_zero, reduceCtorEq, Nat.succ_eq_add_one, Nat.add_zero, Nat.zero_add, and_self, and_true, true_and, decide_true, decide_false, List.reverse_cons, List.reverse_nil, Option.map_eq_map, Bool.not_eq_true, Bool.not_eq_false, Bool.xor_false, Bool.xor_true, Bool.false_xor, Bool.true_xor, Nat.reduceSub, List.dropLast_cons₂, List.dropLast_singleton, decide_eq_true_eq, List.length_map, Nat.zero_le]
  simp only [gsx_ok, gSi_ap, sxf_ok, sxe_ok, sSetIxE_ap, sx0_ok, sExt0_ap, par3_ok, sPar3_ap, kMt_ap, kLenSet_ap, iRange3_ap, opCount_fr, dat_map, opEq_lists, opEq_2, opNe_bl, opEq_bl, datL_map, sTry_ap, tryR_nx, tryR_rt, tryR_ex, hdl_t, hdl_f, handle_nil, handle_ap, asL_list, asL_map, opSum_fr, opSum_lst, opMin_2, opMax_2, opSl_list, opSl_map, opSl_tup, cutL_map, bnd_ok, bnd_ex, ofR_ok, ofR_ex, SZ_eq, kC_ap, slot_c0, slot_cs, kV_ap, frR_ok, kOk_ap, k1_ap, k2_ap, e1_ap, okR_ok, e2a_ok, e2b_ok, e2a_ex, e2b_ex, e2_ap, eMv_ap, cpk_ok, eCp_ap, eFz_ap, kNil_ap, kCons_ap, eNil_ap, ecb_ok, ecb_ex, eca_ok, eca_ex, eCons_ap, eBor_ap, rT_ok, kCall_ap, rE_ok, rE_ex, rA_ok, eCall_ap, takeA_nil, tkc_ok, takeA_own, takeA_bor, putA_nil, putA_own, putA_bor, allF_nil, allF_cons, tV_ap, tVK_ap, tB_ap, tBK_ap, tNot_ap, tan_t, tan_f, tan_ex, tor_t, tor_f, tor_ex, tAnd_ap, tOr_ap, isB_bl, truth_bl, truth_lst, truth_list, truth_int, ean_t, ean_f, eAnd_ap, eor_t, eor_f, eOr_ap, eNot_ap, ifk_t, ifk_f, ifk_ex, eIf_ap, chk_t, chk_f, kCh_ap, kN_ap, eN_ap, ownsA_nil, ownsA_own, kTup_ap, kLst_ap, eTup_ap, eLst_ap, kIsi_ap, kSl_ap, eSl_ap, parI_ok, kPart_ap, kNoPart_ap, kRev_ap, gN_ap, gTp_tup, gCs_cons, gNl_nil, iIt_ap, items_list, items_tuple, iRange1_ap, rg1_ok, iRange2_ap, rg2_ok, tYesF_ap, nxt_nx, nxt_rt, nxt_ex, nxt_bk, nxt_ct, sSeq_ap, sNil_ap, sBk_ap, sCt_ap, sRaise_ap, sExpr_ap, sRet_ap, sRetN_ap, ifs_t, ifs_f, ifs_ex, sIf_ap, sSet_ap, sTgt_ap, kild_nx, kild_ct, kild_rt, kild_bk, kild_ex, kill_ap, wipe_nil, wipe_cons, app0_ok, isLst_ok, sApp0_ap, sFor_ap, sForE_ap, eLc_ap, back_nil, back_cons, bk1_none, bk1_fr, bk1_lst, endD_rt, endD_nx, endD_ex, semD_1, semD_2, semD_3, semD_4, semD_5, semD_6, semD_7, semD_8, outs_nil, outs_cons, frO_fr, opAdd_i, opAddI_i, opSub_i, opMod_i, opFdiv_i, opMul_r, opMul_l, opPow_i, opEq_i, opNe_i, opLt_i, opGt_i, opLe_i, opGe_i, opNeg_i, opLen_list, opLen_tup, opLen_lst, opIx_list, opIx_tup, opIx_lst, frOp_ap, onlyFr_fr, dat_fr, dat_lst, datL_nil, datL_fr, datL_lst, allFr_nil, allFr_cons, asS_list, asS_tup, opList_ap, opTuple_ap, ixN_nat, atI_0, atI_1, atI_2, atI_3, atI_4, atI_map, atI_int, pV_ap, getAt_ap, getP_nil, getP_ix, setAt_ap, setP_nil, setP_ix, pix_ok, pIx_ap, six_ok, sSetIx_ap, pp0_ok, ePop_ap, par2_ok, sPar_ap, aug1_ok, sAug_ap, opIsN_ap, isNoT_none, isNoT_int, isNoT_list, isNoT_tup, isNoT_lst, typT_fr, typT_lst, typD_none, typD_bool, typD_int, typD_str, typD_list, typD_tuple, isa_NoneType_bool, isa_NoneType_int, isa_NoneType_str, isa_NoneType_list, isa_NoneType_tuple, isa_NoneType_dict, isa_bool_bool, isa_bool_int, isa_bool_str, isa_bool_list, isa_bool_tuple, isa_bool_dict, isa_int_bool, isa_int_int, isa_int_str, isa_int_list, isa_int_tuple, isa_int_dict, isa_str_bool, isa_str_int, isa_str_str, isa_str_list, isa_str_tuple, isa_str_dict, isa_list_bool, isa_list_int, isa_list_str, isa_list_list, isa_list_tuple, isa_list_dict, isa_tuple_bool, isa_tuple_int, isa_tuple_str, isa_tuple_list, isa_tuple_tuple, isa_tuple_dict, isa_dict_bool, isa_dict_int, isa_dict_str, isa_dict_list, isa_dict_tuple, isa_dict_dict, opEq_emp, opEq_fe, opIn_ints, Option.bind_some, Option.map_some, List.map_cons, List.map_nil, List.cons_append, List.nil_append, List.append_nil, List.replicate, List.length_cons, List.length_nil, List.set_cons_succ, List.set_cons_zero, Nat.lt_add_one, if_true, if_false, Nat.reduceAdd, Nat.reduceLT, Nat.reduceLeDiff, List.not_mem_nil, List.mem_cons, Nat.reduceEqDiff, or_false, or_true, false_or, true_or, Bool.not_true, Bool.not_false, Bool.false_eq_true, reduceIte, Option.bind_eq_bind, Int.reduceAdd, Int.reduceSub, Int.reduceMul, Int.reduceLT, Int.reduceLE, Int.reduceNeg, Int.cast_ofNat_Int, Int.natCast_one, Int.natCast_zero, Int.reduceEq, Int.reduceNe, Int.toNat_natCast, Int.reduceToNat, Int.reducePow, List.isEmpty_nil, List.isEmpty_cons, List.getElem?_cons_succ, List.getElem?_cons_zero, reduceCtorEq, Nat.succ_eq_add_one, Nat.add_zero, Nat.zero_add, and_self, and_true, true_and, decide_true, decide_false, List.reverse_cons, List.reverse_nil, Option.map_eq_map, Bool.not_eq_true, Bool.not_eq_false, Bool.xor_false, Bool.xor_true, Bool.false_xor, Bool.true_xor, Nat.reduceSub, List.dropLast_cons₂, List.dropLast_singleton, decide_eq_true_eq, List.length_map, Nat.zero_le, c1]
end K31

namespace K31
open PySem PySem.Spec PyProof.Rows L2 Lv
def zz (c t : List Int) (n : Nat) : List (Int × Int) := (List.range n).map fun i => (c[i]?.getD 0, t[i]?.getD 0)
theorem zz_fst {c t : List Int} : (zz c t c.length).map (·.1) = c := by
  unfold zz
  rw [List.map_map]
  apply List.ext_getElem
  · simp
  · intro i h1 h2
    simp [h2]
theorem zz_snd {c t : List Int} (h : c.length = t.length) : (zz c t c.length).map (·.2) = t := by
  unfold zz
  rw [List.map_map]
  apply List.ext_getElem
  · simp [h]
  · intro i h1 h2
    simp [h2]
theorem zz_s {c t : List Int} {n : Nat} : zz c t (n + 1) = zz c t n ++ [(c[n]?.getD 0, t[n]?.getD 0)] := by
  unfold zz
  rw [List.range_succ, List.map_append]; rfl
theorem zz_mem {p b : Int} {c t : List Int} (h : Cd p b c) (h2 : b ≤ 10) : ∀ q ∈ zz c t c.length, 0 ≤ q.1 ∧ q.1 < 10 := by
  intro q hq
  have : q.1 ∈ (zz c t c.length).map (·.1) := List.mem_map.mpr ⟨q, hq, rfl⟩
  rw [zz_fst] at this
  have := h.dig _ this
  omega
def Rg (c t : List Int) : Int := (eqs (zz c t c.length)).length
theorem ans_F {p b : Int} {c t : List Int} (h : Cd p b c) (ht : Cd p b t) (h2 : b ≤ 10) : F c t = Rg c t + strike ((nes (zz c t c.length)).map (·.1)) ((nes (zz c t c.length)).map (·.2)) := by
  have hl : c.length = t.length := by have := h.len; have := ht.len; omega
  have e := F_split (zz_mem (t := t) h h2)
  rw [zz_fst, zz_snd hl] at e
  rw [strike_F, e]
  · rfl
  · intro x hx
    obtain ⟨q, hq, rfl⟩ := List.mem_map.mp hx
    exact zz_mem h h2 q (List.mem_filter.mp hq).1
theorem at_c {c : List Int} {k : Int} (h : 0 ≤ k) (h2 : k < c.length) : atI (c.map PyData.int) k = some (.int (c[k.toNat]?.getD 0)) := by
  rw [atI_map, atI_int h h2]; rfl
abbrev li (c : List Int) : D := .list (c.map .int)
theorem answer_of_ok {p b : Int} {c t : List Int} (h : Cd p b c) (ht : Cd p b t) (hp : p ≤ 5) : answer_of_sem [.fr (li c), .fr (li t)] = some (.ok (.fr (.tuple [.int (Rg c t), .int (F c t - Rg c t)])) [some (.fr (li c)), some (.fr (li t))]) := by
  have hl : c.length = t.length := by have := h.len; have := ht.len; omega
  have hlen := h.len
  have q1 : ((c.length : Nat) : Int) ≤ 16777216 := by omega
  have q2 : (-16777216 : Int) ≤ (c.length : Nat) := by omega
  unfold answer_of_sem answer_of_b
  have c1 : ∃ xs : List T, xs.length = (eqs (zz c t c.length)).length ∧ answer_of_c1 [some (.fr (li c)), some (.fr (li t)), none, none, none, none] = some (.ok (.lst xs) [some (.fr (li c)), some (.fr (li t)), none, none, none, none]) := by
    unfold answer_of_c1
    refine ⟨_, ?_, by
      simp only [gsx_ok, gSi_ap, sxf_ok, sxe_ok, sSetIxE_ap, sx0_ok, sExt0_ap, par3_ok, sPar3_ap, kMt_ap, kLenSet_ap, iRange3_ap, opCount_fr, dat_map, opEq_lists, opEq_2, opNe_bl, opEq_bl, datL_map, sTry_ap, tryR_nx, tryR_rt, tryR_ex, hdl_t, hdl_f, handle_nil, handle_ap, asL_list, asL_map, opSum_fr, opSum_lst, opMin_2, opMax_2, opSl_list, opSl_map, opSl_tup, cutL_map, bnd_ok, bnd_ex, ofR_ok, ofR_ex, SZ_eq, kC_ap, slot_c0, slot_cs, kV_ap, frR_ok, kOk_ap, k1_ap, k2_ap, e1_ap, okR_ok, e2a_ok, e2b_ok, e2a_ex, e2b_ex, e2_ap, eMv_ap, cpk_ok, eCp_ap, eFz_ap, kNil_ap, kCons_ap, eNil_ap, ecb_ok, ecb_ex, eca_ok, eca_ex, eCons_ap, eBor_ap, rT_ok, kCall_ap, rE_ok, rE_ex, rA_ok, eCall_ap, takeA_nil, tkc_ok, takeA_own, takeA_bor, putA_nil, putA_own, putA_bor, allF_nil, allF_cons, tV_ap, tVK_ap, tB_ap, tBK_ap, tNot_ap, tan_t, tan_f, tan_ex, tor_t, tor_f, tor_ex, tAnd_ap, tOr_ap, isB_bl, truth_bl, truth_lst, truth_list, truth_int, ean_t, ean_f, eAnd_ap, eor_t, eor_f, eOr_ap, eNot_ap, ifk_t, ifk_f, ifk_ex, eIf_ap, chk_t, chk_f, kCh_ap, kN_ap, eN_ap, ownsA_nil, ownsA_own, kTup_ap, kLst_ap, eTup_ap, eLst_ap, kIsi_ap, kSl_ap, eSl_ap, parI_ok, kPart_ap, kNoPart_ap, kRev_ap, gN_ap, gTp_tup, gCs_cons, gNl_nil, iIt_ap, items_list, items_tuple, iRange1_ap, rg1_ok, iRange2_ap, rg2_ok, tYesF_ap, nxt_nx, nxt_rt, nxt_ex, nxt_bk, nxt_ct, sSeq_ap, sNil_ap, sBk_ap, sCt_ap, sRaise_ap, sExpr_ap, sRet_ap, sRetN_ap, ifs_t, ifs_f, ifs_ex, sIf_ap, sSet_ap, sTgt_ap, kild_nx, kild_ct, kild_rt, kild_bk, kild_ex, kill_ap, wipe_nil, wipe_cons, app0_ok, isLst_ok, sApp0_ap, sFor_ap, sForE_ap, eLc_ap, back_nil, back_cons, bk1_none, bk1_fr, bk1_lst, endD_rt, endD_nx, endD_ex, semD_1, semD_2, semD_3, semD_4, semD_5, semD_6, semD_7, semD_8, outs_nil, outs_cons, frO_fr, opAdd_i, opAddI_i, opSub_i, opMod_i, opFdiv_i, opMul_r, opMul_l, opPow_i, opEq_i, opNe_i, opLt_i, opGt_i, opLe_i, opGe_i, opNeg_i, opLen_list, opLen_tup, opLen_lst, opIx_list, opIx_tup, opIx_lst, frOp_ap, onlyFr_fr, dat_fr, dat_lst, datL_nil, datL_fr, datL_lst, allFr_nil, allFr_cons, asS_list, asS_tup, opList_ap, opTuple_ap, ixN_nat, atI_0, atI_1, atI_2, atI_3, atI_4, atI_map, atI_int, pV_ap, getAt_ap, getP_nil, getP_ix, setAt_ap, setP_nil, setP_ix, pix_ok, pIx_ap, six_ok, sSetIx_ap, pp0_ok, ePop_ap, par2_ok, sPar_ap, aug1_ok, sAug_ap, opIsN_ap, isNoT_none, isNoT_int, isNoT_list, isNoT_tup, isNoT_lst, typT_fr, typT_lst, typD_none, typD_bool, typD_int, typD_str, typD_list, typD_tuple, isa_NoneType_bool, isa_NoneType_int, isa_NoneType_str, isa_NoneType_list, isa_NoneType_tuple, isa_NoneType_dict, isa_bool_bool, isa_bool_int, isa_bool_str, isa_bool_list, isa_bool_tuple, isa_bool_dict, isa_int_bool, isa_int_int, isa_int_str, isa_int_list, isa_int_tuple, isa_int_dict, isa_str_bool, isa_str_int, isa_str_str, isa_str_list, isa_str_tuple, isa_str_dict, isa_list_bool, isa_list_int, isa_list_str, isa_list_list, isa_list_tuple, isa_list_dict, isa_tuple_bool, isa_tuple_int, isa_tuple_str, isa_tuple_list, isa_tuple_tuple, isa_tuple_dict, isa_dict_bool, isa_dict_int, isa_dict_str, isa_dict_list, isa_dict_tuple, isa_dict_dict, opEq_emp, opEq_fe, opIn_ints, Option.bind_some, Option.map_some, List.map_cons, List.map_nil, List.cons_append, List.nil_append, List.append_nil, List.replicate, List.length_cons, List.length_nil, List.set_cons_succ, List.set_cons_zero, Nat.lt_add_one, if_true, if_false, Nat.reduceAdd, Nat.reduceLT, Nat.reduceLeDiff, List.not_mem_nil, List.mem_cons, Nat.reduceEqDiff, or_false, or_true, false_or, true_or, Bool.not_true, Bool.not_false, Bool.false_eq_true, reduceIte, Option.bind_eq_bind, Int.reduceAdd, Int.reduceSub, Int.reduceMul, Int.reduceLT, Int.reduceLE, Int.reduceNeg, Int.cast_ofNat_Int, Int.natCast_one, Int.natCast_zero, Int.reduceEq, Int.reduceNe, Int.toNat_natCast, Int.reduceToNat, Int.reducePow, List.isEmpty_nil, List.isEmpty_cons, List.getElem?_cons_succ, List.getElem?_cons_zero, reduceCtorEq, Nat.succ_eq_add_one, Nat.add_zero, Nat.zero_add, and_self, and_true, true_and, decide_true, decide_false, List.reverse_cons, List.reverse_nil, Option.map_eq_map, Bool.not_eq_true, Bool.not_eq_false, Bool.xor_false, Bool.xor_true, Bool.false_xor, Bool.true_xor, Nat.reduceSub, List.dropLast_cons₂, List.dropLast_singleton, decide_eq_true_eq, List.length_map, Nat.zero_le, q1, q2]
      rw [cLoop_rng (p := fun k => decide (c[k.toNat]?.getD 0 = t[k.toNat]?.getD 0)) (v := .int) (fun k hk0 hk => by
        have a1 := at_c (c := c) hk0 (by omega)
        have a2 := at_c (c := t) hk0 (by omega)
        rw [atI_map] at a1 a2
        simp only [gsx_ok, gSi_ap, sxf_ok, sxe_ok, sSetIxE_ap, sx0_ok, sExt0_ap, par3_ok, sPar3_ap, kMt_ap, kLenSet_ap, iRange3_ap, opCount_fr, dat_map, opEq_lists, opEq_2, opNe_bl, opEq_bl, datL_map, sTry_ap, tryR_nx, tryR_rt, tryR_ex, hdl_t, hdl_f, handle_nil, handle_ap, asL_list, asL_map, opSum_fr, opSum_lst, opMin_2, opMax_2, opSl_list, opSl_map, opSl_tup, cutL_map, bnd_ok, bnd_ex, ofR_ok, ofR_ex, SZ_eq, kC_ap, slot_c0, slot_cs, kV_ap, frR_ok, kOk_ap, k1_ap, k2_ap, e1_ap, okR_ok, e2a_ok, e2b_ok, e2a_ex, e2b_ex, e2_ap, eMv_ap, cpk_ok, eCp_ap, eFz_ap, kNil_ap, kCons_ap, eNil_ap, ecb_ok, ecb_ex, eca_ok, eca_ex, eCons_ap, eBor_ap, rT_ok, kCall_ap, rE_ok, rE_ex, rA_ok, eCall_ap, takeA_nil, tkc_ok, takeA_own, takeA_bor, putA_nil, putA_own, putA_bor, allF_nil, allF_cons, tV_ap, tVK_ap, tB_ap, tBK_ap, tNot_ap, tan_t, tan_f, tan_ex, tor_t, tor_f, tor_ex, tAnd_ap, tOr_ap, isB_bl, truth_bl, truth_lst, truth_list, truth_int, ean_t, ean_f, eAnd_ap, eor_t, eor_f, eOr_ap, eNot_ap, ifk_t, ifk_f, ifk_ex, eIf_ap, chk_t, chk_f, kCh_ap, kN_ap, eN_ap, ownsA_nil, ownsA_own, kTup_ap, kLst_ap, eTup_ap, eLst_ap, kIsi_ap, kSl_ap, eSl_ap, parI_ok, kPart_ap, kNoPart_ap, kRev_ap, gN_ap, gTp_tup, gCs_cons, gNl_nil, iIt_ap, items_list, items_tuple, iRange1_ap, rg1_ok, iRange2_ap, rg2_ok, tYesF_ap, nxt_nx, nxt_rt, nxt_ex, nxt_bk, nxt_ct, sSeq_ap, sNil_ap, sBk_ap, sCt_ap, sRaise_ap, sExpr_ap, sRet_ap, sRetN_ap, ifs_t, ifs_f, ifs_ex, sIf_ap, sSet_ap, sTgt_ap, kild_nx, kild_ct, kild_rt, kild_bk, kild_ex, kill_ap, wipe_nil, wipe_cons, app0_ok, isLst_ok, sApp0_ap, sFor_ap, sForE_ap, eLc_ap, back_nil, back_cons, bk1_none, bk1_fr, bk1_lst, endD_rt, endD_nx, endD_ex, semD_1, semD_2, semD_3, semD_4, semD_5, semD_6, semD_7, semD_8, outs_nil, outs_cons, frO_fr, opAdd_i, opAddI_i, opSub_i, opMod_i, opFdiv_i, opMul_r, opMul_l, opPow_i, opEq_i, opNe_i, opLt_i, opGt_i, opLe_i, opGe_i, opNeg_i, opLen_list, opLen_tup, opLen_lst, opIx_list, opIx_tup, opIx_lst, frOp_ap, onlyFr_fr, dat_fr, dat_lst, datL_nil, datL_fr, datL_lst, allFr_nil, allFr_cons, asS_list, asS_tup, opList_ap, opTuple_ap, ixN_nat, atI_0, atI_1, atI_2, atI_3, atI_4, atI_map, atI_int, pV_ap, getAt_ap, getP_nil, getP_ix, setAt_ap, setP_nil, setP_ix, pix_ok, pIx_ap, six_ok, sSetIx_ap, pp0_ok, ePop_ap, par2_ok, sPar_ap, aug1_ok, sAug_ap, opIsN_ap, isNoT_none, isNoT_int, isNoT_list, isNoT_tup, isNoT_lst, typT_fr, typT_lst, typD_none, typD_bool, typD_int, typD_str, typD_list, typD_tuple, isa_NoneType_bool, isa_NoneType_int, isa_NoneType_str, isa_NoneType_list, isa_NoneType_tuple, isa_NoneType_dict, isa_bool_bool, isa_bool_int, isa_bool_str, isa_bool_list, isa_bool_tuple, isa_bool_dict, isa_int_bool, isa_int_int, isa_int_str, isa_int_list, isa_int_tuple, isa_int_dict, isa_str_bool, isa_str_int, isa_str_str, isa_str_list, isa_str_tuple, isa_str_dict, isa_list_bool, isa_list_int, isa_list_str, isa_list_list, isa_list_tuple, isa_list_dict, isa_tuple_bool, isa_tuple_int, isa_tuple_str, isa_tuple_list, isa_tuple_tuple, isa_tuple_dict, isa_dict_bool, isa_dict_int, isa_dict_str, isa_dict_list, isa_dict_tuple, isa_dict_dict, opEq_emp, opEq_fe, opIn_ints, Option.bind_some, Option.map_some, List.map_cons, List.map_nil, List.cons_append, List.nil_append, List.append_nil, List.replicate, List.length_cons, List.length_nil, List.set_cons_succ, List.set_cons_zero, Nat.lt_add_one, if_true, if_false, Nat.reduceAdd, Nat.reduceLT, Nat.reduceLeDiff, List.not_mem_nil, List.mem_cons, Nat.reduceEqDiff, or_false, or_true, false_or, true_or, Bool.not_true, Bool.not_false, Bool.false_eq_true, reduceIte, Option.bind_eq_bind, Int.reduceAdd, Int.reduceSub, Int.reduceMul, Int.reduceLT, Int.reduceLE, Int.reduceNeg, Int.cast_ofNat_Int, Int.natCast_one, Int.natCast_zero, Int.reduceEq, Int.reduceNe, Int.toNat_natCast, Int.reduceToNat, Int.reducePow, List.isEmpty_nil, List.isEmpty_cons, List.getElem?_cons_succ, List.getElem?_cons_zero, reduceCtorEq, Nat.succ_eq_add_one, Nat.add_zero, Nat.zero_add, and_self, and_true, true_and, decide_true, decide_false, List.reverse_cons, List.reverse_nil, Option.map_eq_map, Bool.not_eq_true, Bool.not_eq_false, Bool.xor_false, Bool.xor_true, Bool.false_xor, Bool.true_xor, Nat.reduceSub, List.dropLast_cons₂, List.dropLast_singleton, decide_eq_true_eq, List.length_map, Nat.zero_le, a1, a2]
        exact ⟨_, rfl, fun _ => ⟨_, rfl, rfl⟩, fun _ => rfl⟩)]
      simp only [gsx_ok, gSi_ap, sxf_ok, sxe_ok, sSetIxE_ap, sx0_ok, sExt0_ap, par3_ok, sPar3_ap, kMt_ap, kLenSet_ap, iRange3_ap, opCount_fr, dat_map, opEq_lists, opEq_2, opNe_bl, opEq_bl, datL_map, sTry_ap, tryR_nx, tryR_rt, tryR_ex, hdl_t, hdl_f, handle_nil, handle_ap, asL_list, asL_map, opSum_fr, opSum_lst, opMin_2, opMax_2, opSl_list, opSl_map, opSl_tup, cutL_map, bnd_ok, bnd_ex, ofR_ok, ofR_ex, SZ_eq, kC_ap, slot_c0, slot_cs, kV_ap, frR_ok, kOk_ap, k1_ap, k2_ap, e1_ap, okR_ok, e2a_ok, e2b_ok, e2a_ex, e2b_ex, e2_ap, eMv_ap, cpk_ok, eCp_ap, eFz_ap, kNil_ap, kCons_ap, eNil_ap, ecb_ok, ecb_ex, eca_ok, eca_ex, eCons_ap, eBor_ap, rT_ok, kCall_ap, rE_ok, rE_ex, rA_ok, eCall_ap, takeA_nil, tkc_ok, takeA_own, takeA_bor, putA_nil, putA_own, putA_bor, allF_nil, allF_cons, tV_ap, tVK_ap, tB_ap, tBK_ap, tNot_ap, tan_t, tan_f, tan_ex, tor_t, tor_f, tor_ex, tAnd_ap, tOr_ap, isB_bl, truth_bl, truth_lst, truth_list, truth_int, ean_t, ean_f, eAnd_ap, eor_t, eor_f, eOr_ap, eNot_ap, ifk_t, ifk_f, ifk_ex, eIf_ap, chk_t, chk_f, kCh_ap, kN_ap, eN_ap, ownsA_nil, ownsA_own, kTup_ap, kLst_ap, eTup_ap, eLst_ap, kIsi_ap, kSl_ap, eSl_ap, parI_ok, kPart_ap, kNoPart_ap, kRev_ap, gN_ap, gTp_tup, gCs_cons, gNl_nil, iIt_ap, items_list, items_tuple, iRange1_ap, rg1_ok, iRange2_ap, rg2_ok, tYesF_ap, nxt_nx, nxt_rt, nxt_ex, nxt_bk, nxt_ct, sSeq_ap, sNil_ap, sBk_ap, sCt_ap, sRaise_ap, sExpr_ap, sRet_ap, sRetN_ap, ifs_t, ifs_f, ifs_ex, sIf_ap, sSet_ap, sTgt_ap, kild_nx, kild_ct, kild_rt, kild_bk, kild_ex, kill_ap, wipe_nil, wipe_cons, app0_ok, isLst_ok, sApp0_ap, sFor_ap, sForE_ap, eLc_ap, back_nil, back_cons, bk1_none, bk1_fr, bk1_lst, endD_rt, endD_nx, endD_ex, semD_1, semD_2, semD_3, semD_4, semD_5, semD_6, semD_7, semD_8, outs_nil, outs_cons, frO_fr, opAdd_i, opAddI_i, opSub_i, opMod_i, opFdiv_i, opMul_r, opMul_l, opPow_i, opEq_i, opNe_i, opLt_i, opGt_i, opLe_i, opGe_i, opNeg_i, opLen_list, opLen_tup, opLen_lst, opIx_list, opIx_tup, opIx_lst, frOp_ap, onlyFr_fr, dat_fr, dat_lst, datL_nil, datL_fr, datL_lst, allFr_nil, allFr_cons, asS_list, asS_tup, opList_ap, opTuple_ap, ixN_nat, atI_0, atI_1, atI_2, atI_3, atI_4, atI_map, atI_int, pV_ap, getAt_ap, getP_nil, getP_ix, setAt_ap, setP_nil, setP_ix, pix_ok, pIx_ap, six_ok, sSetIx_ap, pp0_ok, ePop_ap, par2_ok, sPar_ap, aug1_ok, sAug_ap, opIsN_ap, isNoT_none, isNoT_int, isNoT_list, isNoT_tup, isNoT_lst, typT_fr, typT_lst, typD_none, typD_bool, typD_int, typD_str, typD_list, typD_tuple, isa_NoneType_bool, isa_NoneType_int, isa_NoneType_str, isa_NoneType_list, isa_NoneType_tuple, isa_NoneType_dict, isa_bool_bool, isa_bool_int, isa_bool_str, isa_bool_list, isa_bool_tuple, isa_bool_dict, isa_int_bool, isa_int_int, isa_int_str, isa_int_list, isa_int_tuple, isa_int_dict, isa_str_bool, isa_str_int, isa_str_str, isa_str_list, isa_str_tuple, isa_str_dict, isa_list_bool, isa_list_int, isa_list_str, isa_list_list, isa_list_tuple, isa_list_dict, isa_tuple_bool, isa_tuple_int, isa_tuple_str, isa_tuple_list, isa_tuple_tuple, isa_tuple_dict, isa_dict_bool, isa_dict_int, isa_dict_str, isa_dict_list, isa_dict_tuple, isa_dict_dict, opEq_emp, opEq_fe, opIn_ints, Option.bind_some, Option.map_some, List.map_cons, List.map_nil, List.cons_append, List.nil_append, List.append_nil, List.replicate, List.length_cons, List.length_nil, List.set_cons_succ, List.set_cons_zero, Nat.lt_add_one, if_true, if_false, Nat.reduceAdd, Nat.reduceLT, Nat.reduceLeDiff, List.not_mem_nil, List.mem_cons, Nat.reduceEqDiff, or_false, or_true, false_or, true_or, Bool.not_true, Bool.not_false, Bool.false_eq_true, reduceIte, Option.bind_eq_bind, Int.reduceAdd, Int.reduceSub, Int.reduceMul, Int.reduceLT, Int.reduceLE, Int.reduceNeg, Int.cast_ofNat_Int, Int.natCast_one, Int.natCast_zero, Int.reduceEq, Int.reduceNe, Int.toNat_natCast, Int.reduceToNat, Int.reducePow, List.isEmpty_nil, List.isEmpty_cons, List.getElem?_cons_succ, List.getElem?_cons_zero, reduceCtorEq, Nat.succ_eq_add_one, Nat.add_zero, Nat.zero_add, and_self, and_true, true_and, decide_true, decide_false, List.reverse_cons, List.reverse_nil, Option.map_eq_map, Bool.not_eq_true, Bool.not_eq_false, Bool.xor_false, Bool.xor_true, Bool.false_xor, Bool.true_xor, Nat.reduceSub, List.dropLast_cons₂, List.dropLast_singleton, decide_eq_true_eq, List.length_map, Nat.zero_le]
      rfl⟩
    rw [rng_map]
    unfold eqs zz
    rw [List.filter_map, List.length_map, List.length_map, List.length_map]
    rfl
  obtain ⟨xs, hxs, c1⟩ := c1
  have c2 : answer_of_c2 [some (.fr (li c)), some (.fr (li t)), some (.fr (.int (Rg c t))), none, none, none] = some (.ok (.lst ((((List.range 10).map fun i : Nat => mi (c.count (i : Int) : Nat) (t.count (i : Int) : Nat)).map PyData.int).map .fr)) [some (.fr (li c)), some (.fr (li t)), some (.fr (.int (Rg c t))), none, none, none]) := by
    unfold answer_of_c2
    simp only [gsx_ok, gSi_ap, sxf_ok, sxe_ok, sSetIxE_ap, sx0_ok, sExt0_ap, par3_ok, sPar3_ap, kMt_ap, kLenSet_ap, iRange3_ap, opCount_fr, dat_map, opEq_lists, opEq_2, opNe_bl, opEq_bl, datL_map, sTry_ap, tryR_nx, tryR_rt, tryR_ex, hdl_t, hdl_f, handle_nil, handle_ap, asL_list, asL_map, opSum_fr, opSum_lst, opMin_2, opMax_2, opSl_list, opSl_map, opSl_tup, cutL_map, bnd_ok, bnd_ex, ofR_ok, ofR_ex, SZ_eq, kC_ap, slot_c0, slot_cs, kV_ap, frR_ok, kOk_ap, k1_ap, k2_ap, e1_ap, okR_ok, e2a_ok, e2b_ok, e2a_ex, e2b_ex, e2_ap, eMv_ap, cpk_ok, eCp_ap, eFz_ap, kNil_ap, kCons_ap, eNil_ap, ecb_ok, ecb_ex, eca_ok, eca_ex, eCons_ap, eBor_ap, rT_ok, kCall_ap, rE_ok, rE_ex, rA_ok, eCall_ap, takeA_nil, tkc_ok, takeA_own, takeA_bor, putA_nil, putA_own, putA_bor, allF_nil, allF_cons, tV_ap, tVK_ap, tB_ap, tBK_ap, tNot_ap, tan_t, tan_f, tan_ex, tor_t, tor_f, tor_ex, tAnd_ap, tOr_ap, isB_bl, truth_bl, truth_lst, truth_list, truth_int, ean_t, ean_f, eAnd_ap, eor_t, eor_f, eOr_ap, eNot_ap, ifk_t, ifk_f, ifk_ex, eIf_ap, chk_t, chk_f, kCh_ap, kN_ap, eN_ap, ownsA_nil, ownsA_own, kTup_ap, kLst_ap, eTup_ap, eLst_ap, kIsi_ap, kSl_ap, eSl_ap, parI_ok, kPart_ap, kNoPart_ap, kRev_ap, gN_ap, gTp_tup, gCs_cons, gNl_nil, iIt_ap, items_list, items_tuple, iRange1_ap, rg1_ok, iRange2_ap, rg2_ok, tYesF_ap, nxt_nx, nxt_rt, nxt_ex, nxt_bk, nxt_ct, sSeq_ap, sNil_ap, sBk_ap, sCt_ap, sRaise_ap, sExpr_ap, sRet_ap, sRetN_ap, ifs_t, ifs_f, ifs_ex, sIf_ap, sSet_ap, sTgt_ap, kild_nx, kild_ct, kild_rt, kild_bk, kild_ex, kill_ap, wipe_nil, wipe_cons, app0_ok, isLst_ok, sApp0_ap, sFor_ap, sForE_ap, eLc_ap, back_nil, back_cons, bk1_none, bk1_fr, bk1_lst, endD_rt, endD_nx, endD_ex, semD_1, semD_2, semD_3, semD_4, semD_5, semD_6, semD_7, semD_8, outs_nil, outs_cons, frO_fr, opAdd_i, opAddI_i, opSub_i, opMod_i, opFdiv_i, opMul_r, opMul_l, opPow_i, opEq_i, opNe_i, opLt_i, opGt_i, opLe_i, opGe_i, opNeg_i, opLen_list, opLen_tup, opLen_lst, opIx_list, opIx_tup, opIx_lst, frOp_ap, onlyFr_fr, dat_fr, dat_lst, datL_nil, datL_fr, datL_lst, allFr_nil, allFr_cons, asS_list, asS_tup, opList_ap, opTuple_ap, ixN_nat, atI_0, atI_1, atI_2, atI_3, atI_4, atI_map, atI_int, pV_ap, getAt_ap, getP_nil, getP_ix, setAt_ap, setP_nil, setP_ix, pix_ok, pIx_ap, six_ok, sSetIx_ap, pp0_ok, ePop_ap, par2_ok, sPar_ap, aug1_ok, sAug_ap, opIsN_ap, isNoT_none, isNoT_int, isNoT_list, isNoT_tup, isNoT_lst, typT_fr, typT_lst, typD_none, typD_bool, typD_int, typD_str, typD_list, typD_tuple, isa_NoneType_bool, isa_NoneType_int, isa_NoneType_str, isa_NoneType_list, isa_NoneType_tuple, isa_NoneType_dict, isa_bool_bool, isa_bool_int, isa_bool_str, isa_bool_list, isa_bool_tuple, isa_bool_dict, isa_int_bool, isa_int_int, isa_int_str, isa_int_list, isa_int_tuple, isa_int_dict, isa_str_bool, isa_str_int, isa_str_str, isa_str_list, isa_str_tuple, isa_str_dict, isa_list_bool, isa_list_int, isa_list_str, isa_list_list, isa_list_tuple, isa_list_dict, isa_tuple_bool, isa_tuple_int, isa_tuple_str, isa_tuple_list, isa_tuple_tuple, isa_tuple_dict, isa_dict_bool, isa_dict_int, isa_dict_str, isa_dict_list, isa_dict_tuple, isa_dict_dict, opEq_emp, opEq_fe, opIn_ints, Option.bind_some, Option.map_some, List.map_cons, List.map_nil, List.cons_append, List.nil_append, List.append_nil, List.replicate, List.length_cons, List.length_nil, List.set_cons_succ, List.set_cons_zero, Nat.lt_add_one, if_true, if_false, Nat.reduceAdd, Nat.reduceLT, Nat.reduceLeDiff, List.not_mem_nil, List.mem_cons, Nat.reduceEqDiff, or_false, or_true, false_or, true_or, Bool.not_true, Bool.not_false, Bool.false_eq_true, reduceIte, Option.bind_eq_bind, Int.reduceAdd, Int.reduceSub, Int.reduceMul, Int.reduceLT, Int.reduceLE, Int.reduceNeg, Int.cast_ofNat_Int, Int.natCast_one, Int.natCast_zero, Int.reduceEq, Int.reduceNe, Int.toNat_natCast, Int.reduceToNat, Int.reducePow, List.isEmpty_nil, List.isEmpty_cons, List.getElem?_cons_succ, List.getElem?_cons_zero, reduceCtorEq, Nat.succ_eq_add_one, Nat.add_zero, Nat.zero_add, and_self, and_true, true_and, decide_true, decide_false, List.reverse_cons, List.reverse_nil, Option.map_eq_map, Bool.not_eq_true, Bool.not_eq_false, Bool.xor_false, Bool.xor_true, Bool.false_xor, Bool.true_xor, Nat.reduceSub, List.dropLast_cons₂, List.dropLast_singleton, decide_eq_true_eq, List.length_map, Nat.zero_le]
    rw [cLoop_rng (p := fun _ => true) (v := fun k => .int (mi (c.count k : Nat) (t.count k : Nat))) (fun k hk0 hk => by
      simp only [gsx_ok, gSi_ap, sxf_ok, sxe_ok, sSetIxE_ap, sx0_ok, sExt0_ap, par3_ok, sPar3_ap, kMt_ap, kLenSet_ap, iRange3_ap, opCount_fr, dat_map, opEq_lists, opEq_2, opNe_bl, opEq_bl, datL_map, sTry_ap, tryR_nx, tryR_rt, tryR_ex, hdl_t, hdl_f, handle_nil, handle_ap, asL_list, asL_map, opSum_fr, opSum_lst, opMin_2, opMax_2, opSl_list, opSl_map, opSl_tup, cutL_map, bnd_ok, bnd_ex, ofR_ok, ofR_ex, SZ_eq, kC_ap, slot_c0, slot_cs, kV_ap, frR_ok, kOk_ap, k1_ap, k2_ap, e1_ap, okR_ok, e2a_ok, e2b_ok, e2a_ex, e2b_ex, e2_ap, eMv_ap, cpk_ok, eCp_ap, eFz_ap, kNil_ap, kCons_ap, eNil_ap, ecb_ok, ecb_ex, eca_ok, eca_ex, eCons_ap, eBor_ap, rT_ok, kCall_ap, rE_ok, rE_ex, rA_ok, eCall_ap, takeA_nil, tkc_ok, takeA_own, takeA_bor, putA_nil, putA_own, putA_bor, allF_nil, allF_cons, tV_ap, tVK_ap, tB_ap, tBK_ap, tNot_ap, tan_t, tan_f, tan_ex, tor_t, tor_f, tor_ex, tAnd_ap, tOr_ap, isB_bl, truth_bl, truth_lst, truth_list, truth_int, ean_t, ean_f, eAnd_ap, eor_t, eor_f, eOr_ap, eNot_ap, ifk_t, ifk_f, ifk_ex, eIf_ap, chk_t, chk_f, kCh_ap, kN_ap, eN_ap, ownsA_nil, ownsA_own, kTup_ap, kLst_ap, eTup_ap, eLst_ap, kIsi_ap, kSl_ap, eSl_ap, parI_ok, kPart_ap, kNoPart_ap, kRev_ap, gN_ap, gTp_tup, gCs_cons, gNl_nil, iIt_ap, items_list, items_tuple, iRange1_ap, rg1_ok, iRange2_ap, rg2_ok, tYesF_ap, nxt_nx, nxt_rt, nxt_ex, nxt_bk, nxt_ct, sSeq_ap, sNil_ap, sBk_ap, sCt_ap, sRaise_ap, sExpr_ap, sRet_ap, sRetN_ap, ifs_t, ifs_f, ifs_ex, sIf_ap, sSet_ap, sTgt_ap, kild_nx, kild_ct, kild_rt, kild_bk, kild_ex, kill_ap, wipe_nil, wipe_cons, app0_ok, isLst_ok, sApp0_ap, sFor_ap, sForE_ap, eLc_ap, back_nil, back_cons, bk1_none, bk1_fr, bk1_lst, endD_rt, endD_nx, endD_ex, semD_1, semD_2, semD_3, semD_4, semD_5, semD_6, semD_7, semD_8, outs_nil, outs_cons, frO_fr, opAdd_i, opAddI_i, opSub_i, opMod_i, opFdiv_i, opMul_r, opMul_l, opPow_i, opEq_i, opNe_i, opLt_i, opGt_i, opLe_i, opGe_i, opNeg_i, opLen_list, opLen_tup, opLen_lst, opIx_list, opIx_tup, opIx_lst, frOp_ap, onlyFr_fr, dat_fr, dat_lst, datL_nil, datL_fr, datL_lst, allFr_nil, allFr_cons, asS_list, asS_tup, opList_ap, opTuple_ap, ixN_nat, atI_0, atI_1, atI_2, atI_3, atI_4, atI_map, atI_int, pV_ap, getAt_ap, getP_nil, getP_ix, setAt_ap, setP_nil, setP_ix, pix_ok, pIx_ap, six_ok, sSetIx_ap, pp0_ok, ePop_ap, par2_ok, sPar_ap, aug1_ok, sAug_ap, opIsN_ap, isNoT_none, isNoT_int, isNoT_list, isNoT_tup, isNoT_lst, typT_fr, typT_lst, typD_none, typD_bool, typD_int, typD_str, typD_list, typD_tuple, isa_NoneType_bool, isa_NoneType_int, isa_NoneType_str, isa_NoneType_list, isa_NoneType_tuple, isa_NoneType_dict, isa_bool_bool, isa_bool_int, isa_bool_str, isa_bool_list, isa_bool_tuple, isa_bool_dict, isa_int_bool, isa_int_int, isa_int_str, isa_int_list, isa_int_tuple, isa_int_dict, isa_str_bool, isa_str_int, isa_str_str, isa_str_list, isa_str_tuple, isa_str_dict, isa_list_bool, isa_list_int, isa_list_str, isa_list_list, isa_list_tuple, isa_list_dict, isa_tuple_bool, isa_tuple_int, isa_tuple_str, isa_tuple_list, isa_tuple_tuple, isa_tuple_dict, isa_dict_bool, isa_dict_int, isa_dict_str, isa_dict_list, isa_dict_tuple, isa_dict_dict, opEq_emp, opEq_fe, opIn_ints, Option.bind_some, Option.map_some, List.map_cons, List.map_nil, List.cons_append, List.nil_append, List.append_nil, List.replicate, List.length_cons, List.length_nil, List.set_cons_succ, List.set_cons_zero, Nat.lt_add_one, if_true, if_false, Nat.reduceAdd, Nat.reduceLT, Nat.reduceLeDiff, List.not_mem_nil, List.mem_cons, Nat.reduceEqDiff, or_false, or_true, false_or, true_or, Bool.not_true, Bool.not_false, Bool.false_eq_true, reduceIte, Option.bind_eq_bind, Int.reduceAdd, Int.reduceSub, Int.reduceMul, Int.reduceLT, Int.reduceLE, Int.reduceNeg, Int.cast_ofNat_Int, Int.natCast_one, Int.natCast_zero, Int.reduceEq, Int.reduceNe, Int.toNat_natCast, Int.reduceToNat, Int.reducePow, List.isEmpty_nil, List.isEmpty_cons, List.getElem?_cons_succ, List.getElem?_cons_zero, reduceCtorEq, Nat.succ_eq_add_one, Nat.add_zero, Nat.zero_add, and_self, and_true, true_and, decide_true, decide_false, List.reverse_cons, List.reverse_nil, Option.map_eq_map, Bool.not_eq_true, Bool.not_eq_false, Bool.xor_false, Bool.xor_true, Bool.false_xor, Bool.true_xor, Nat.reduceSub, List.dropLast_cons₂, List.dropLast_singleton, decide_eq_true_eq, List.length_map, Nat.zero_le]
      refine ⟨_, rfl, fun _ => ⟨[some (.fr (li c)), some (.fr (li t)), some (.fr (.int (Rg c t))), none, none, some (.fr (.int k))], ?_, rfl⟩, fun e => by simp at e⟩
      simp only [gsx_ok, gSi_ap, sxf_ok, sxe_ok, sSetIxE_ap, sx0_ok, sExt0_ap, par3_ok, sPar3_ap, kMt_ap, kLenSet_ap, iRange3_ap, opCount_fr, dat_map, opEq_lists, opEq_2, opNe_bl, opEq_bl, datL_map, sTry_ap, tryR_nx, tryR_rt, tryR_ex, hdl_t, hdl_f, handle_nil, handle_ap, asL_list, asL_map, opSum_fr, opSum_lst, opMin_2, opMax_2, opSl_list, opSl_map, opSl_tup, cutL_map, bnd_ok, bnd_ex, ofR_ok, ofR_ex, SZ_eq, kC_ap, slot_c0, slot_cs, kV_ap, frR_ok, kOk_ap, k1_ap, k2_ap, e1_ap, okR_ok, e2a_ok, e2b_ok, e2a_ex, e2b_ex, e2_ap, eMv_ap, cpk_ok, eCp_ap, eFz_ap, kNil_ap, kCons_ap, eNil_ap, ecb_ok, ecb_ex, eca_ok, eca_ex, eCons_ap, eBor_ap, rT_ok, kCall_ap, rE_ok, rE_ex, rA_ok, eCall_ap, takeA_nil, tkc_ok, takeA_own, takeA_bor, putA_nil, putA_own, putA_bor, allF_nil, allF_cons, tV_ap, tVK_ap, tB_ap, tBK_ap, tNot_ap, tan_t, tan_f, tan_ex, tor_t, tor_f, tor_ex, tAnd_ap, tOr_ap, isB_bl, truth_bl, truth_lst, truth_list, truth_int, ean_t, ean_f, eAnd_ap, eor_t, eor_f, eOr_ap, eNot_ap, ifk_t, ifk_f, ifk_ex, eIf_ap, chk_t, chk_f, kCh_ap, kN_ap, eN_ap, ownsA_nil, ownsA_own, kTup_ap, kLst_ap, eTup_ap, eLst_ap, kIsi_ap, kSl_ap, eSl_ap, parI_ok, kPart_ap, kNoPart_ap, kRev_ap, gN_ap, gTp_tup, gCs_cons, gNl_nil, iIt_ap, items_list, items_tuple, iRange1_ap, rg1_ok, iRange2_ap, rg2_ok, tYesF_ap, nxt_nx, nxt_rt, nxt_ex, nxt_bk, nxt_ct, sSeq_ap, sNil_ap, sBk_ap, sCt_ap, sRaise_ap, sExpr_ap, sRet_ap, sRetN_ap, ifs_t, ifs_f, ifs_ex, sIf_ap, sSet_ap, sTgt_ap, kild_nx, kild_ct, kild_rt, kild_bk, kild_ex, kill_ap, wipe_nil, wipe_cons, app0_ok, isLst_ok, sApp0_ap, sFor_ap, sForE_ap, eLc_ap, back_nil, back_cons, bk1_none, bk1_fr, bk1_lst, endD_rt, endD_nx, endD_ex, semD_1, semD_2, semD_3, semD_4, semD_5, semD_6, semD_7, semD_8, outs_nil, outs_cons, frO_fr, opAdd_i, opAddI_i, opSub_i, opMod_i, opFdiv_i, opMul_r, opMul_l, opPow_i, opEq_i, opNe_i, opLt_i, opGt_i, opLe_i, opGe_i, opNeg_i, opLen_list, opLen_tup, opLen_lst, opIx_list, opIx_tup, opIx_lst, frOp_ap, onlyFr_fr, dat_fr, dat_lst, datL_nil, datL_fr, datL_lst, allFr_nil, allFr_cons, asS_list, asS_tup, opList_ap, opTuple_ap, ixN_nat, atI_0, atI_1, atI_2, atI_3, atI_4, atI_map, atI_int, pV_ap, getAt_ap, getP_nil, getP_ix, setAt_ap, setP_nil, setP_ix, pix_ok, pIx_ap, six_ok, sSetIx_ap, pp0_ok, ePop_ap, par2_ok, sPar_ap, aug1_ok, sAug_ap, opIsN_ap, isNoT_none, isNoT_int, isNoT_list, isNoT_tup, isNoT_lst, typT_fr, typT_lst, typD_none, typD_bool, typD_int, typD_str, typD_list, typD_tuple, isa_NoneType_bool, isa_NoneType_int, isa_NoneType_str, isa_NoneType_list, isa_NoneType_tuple, isa_NoneType_dict, isa_bool_bool, isa_bool_int, isa_bool_str, isa_bool_list, isa_bool_tuple, isa_bool_dict, isa_int_bool, isa_int_int, isa_int_str, isa_int_list, isa_int_tuple, isa_int_dict, isa_str_bool, isa_str_int, isa_str_str, isa_str_list, isa_str_tuple, isa_str_dict, isa_list_bool, isa_list_int, isa_list_str, isa_list_list, isa_list_tuple, isa_list_dict, isa_tuple_bool, isa_tuple_int, isa_tuple_str, isa_tuple_list, isa_tuple_tuple, isa_tuple_dict, isa_dict_bool, isa_dict_int, isa_dict_str, isa_dict_list, isa_dict_tuple, isa_dict_dict, opEq_emp, opEq_fe, opIn_ints, Option.bind_some, Option.map_some, List.map_cons, List.map_nil, List.cons_append, List.nil_append, List.append_nil, List.replicate, List.length_cons, List.length_nil, List.set_cons_succ, List.set_cons_zero, Nat.lt_add_one, if_true, if_false, Nat.reduceAdd, Nat.reduceLT, Nat.reduceLeDiff, List.not_mem_nil, List.mem_cons, Nat.reduceEqDiff, or_false, or_true, false_or, true_or, Bool.not_true, Bool.not_false, Bool.false_eq_true, reduceIte, Option.bind_eq_bind, Int.reduceAdd, Int.reduceSub, Int.reduceMul, Int.reduceLT, Int.reduceLE, Int.reduceNeg, Int.cast_ofNat_Int, Int.natCast_one, Int.natCast_zero, Int.reduceEq, Int.reduceNe, Int.toNat_natCast, Int.reduceToNat, Int.reducePow, List.isEmpty_nil, List.isEmpty_cons, List.getElem?_cons_succ, List.getElem?_cons_zero, reduceCtorEq, Nat.succ_eq_add_one, Nat.add_zero, Nat.zero_add, and_self, and_true, true_and, decide_true, decide_false, List.reverse_cons, List.reverse_nil, Option.map_eq_map, Bool.not_eq_true, Bool.not_eq_false, Bool.xor_false, Bool.xor_true, Bool.false_xor, Bool.true_xor, Nat.reduceSub, List.dropLast_cons₂, List.dropLast_singleton, decide_eq_true_eq, List.length_map, Nat.zero_le]
      rfl)]
    rw [rng_map, List.filter_eq_self.mpr (fun _ _ => rfl)]
    simp only [gsx_ok, gSi_ap, sxf_ok, sxe_ok, sSetIxE_ap, sx0_ok, sExt0_ap, par3_ok, sPar3_ap, kMt_ap, kLenSet_ap, iRange3_ap, opCount_fr, dat_map, opEq_lists, opEq_2, opNe_bl, opEq_bl, datL_map, sTry_ap, tryR_nx, tryR_rt, tryR_ex, hdl_t, hdl_f, handle_nil, handle_ap, asL_list, asL_map, opSum_fr, opSum_lst, opMin_2, opMax_2, opSl_list, opSl_map, opSl_tup, cutL_map, bnd_ok, bnd_ex, ofR_ok, ofR_ex, SZ_eq, kC_ap, slot_c0, slot_cs, kV_ap, frR_ok, kOk_ap, k1_ap, k2_ap, e1_ap, okR_ok, e2a_ok, e2b_ok, e2a_ex, e2b_ex, e2_ap, eMv_ap, cpk_ok, eCp_ap, eFz_ap, kNil_ap, kCons_ap, eNil_ap, ecb_ok, ecb_ex, eca_ok, eca_ex, eCons_ap, eBor_ap, rT_ok, kCall_ap, rE_ok, rE_ex, rA_ok, eCall_ap, takeA_nil, tkc_ok, takeA_own, takeA_bor, putA_nil, putA_own, putA_bor, allF_nil, allF_cons, tV_ap, tVK_ap, tB_ap, tBK_ap, tNot_ap, tan_t, tan_f, tan_ex, tor_t, tor_f, tor_ex, tAnd_ap, tOr_ap, isB_bl, truth_bl, truth_lst, truth_list, truth_int, ean_t, ean_f, eAnd_ap, eor_t, eor_f, eOr_ap, eNot_ap, ifk_t, ifk_f, ifk_ex, eIf_ap, chk_t, chk_f, kCh_ap, kN_ap, eN_ap, ownsA_nil, ownsA_own, kTup_ap, kLst_ap, eTup_ap, eLst_ap, kIsi_ap, kSl_ap, eSl_ap, parI_ok, kPart_ap, kNoPart_ap, kRev_ap, gN_ap, gTp_tup, gCs_cons, gNl_nil, iIt_ap, items_list, items_tuple, iRange1_ap, rg1_ok, iRange2_ap, rg2_ok, tYesF_ap, nxt_nx, nxt_rt, nxt_ex, nxt_bk, nxt_ct, sSeq_ap, sNil_ap, sBk_ap, sCt_ap, sRaise_ap, sExpr_ap, sRet_ap, sRetN_ap, ifs_t, ifs_f, ifs_ex, sIf_ap, sSet_ap, sTgt_ap, kild_nx, kild_ct, kild_rt, kild_bk, kild_ex, kill_ap, wipe_nil, wipe_cons, app0_ok, isLst_ok, sApp0_ap, sFor_ap, sForE_ap, eLc_ap, back_nil, back_cons, bk1_none, bk1_fr, bk1_lst, endD_rt, endD_nx, endD_ex, semD_1, semD_2, semD_3, semD_4, semD_5, semD_6, semD_7, semD_8, outs_nil, outs_cons, frO_fr, opAdd_i, opAddI_i, opSub_i, opMod_i, opFdiv_i, opMul_r, opMul_l, opPow_i, opEq_i, opNe_i, opLt_i, opGt_i, opLe_i, opGe_i, opNeg_i, opLen_list, opLen_tup, opLen_lst, opIx_list, opIx_tup, opIx_lst, frOp_ap, onlyFr_fr, dat_fr, dat_lst, datL_nil, datL_fr, datL_lst, allFr_nil, allFr_cons, asS_list, asS_tup, opList_ap, opTuple_ap, ixN_nat, atI_0, atI_1, atI_2, atI_3, atI_4, atI_map, atI_int, pV_ap, getAt_ap, getP_nil, getP_ix, setAt_ap, setP_nil, setP_ix, pix_ok, pIx_ap, six_ok, sSetIx_ap, pp0_ok, ePop_ap, par2_ok, sPar_ap, aug1_ok, sAug_ap, opIsN_ap, isNoT_none, isNoT_int, isNoT_list, isNoT_tup, isNoT_lst, typT_fr, typT_lst, typD_none, typD_bool, typD_int, typD_str, typD_list, typD_tuple, isa_NoneType_bool, isa_NoneType_int, isa_NoneType_str, isa_NoneType_list, isa_NoneType_tuple, isa_NoneType_dict, isa_bool_bool, isa_bool_int, isa_bool_str, isa_bool_list, isa_bool_tuple, isa_bool_dict, isa_int_bool, isa_int_int, isa_int_str, isa_int_list, isa_int_tuple, isa_int_dict, isa_str_bool, isa_str_int, isa_str_str, isa_str_list, isa_str_tuple, isa_str_dict, isa_list_bool, isa_list_int, isa_list_str, isa_list_list, isa_list_tuple, isa_list_dict, isa_tuple_bool, isa_tuple_int, isa_tuple_str, isa_tuple_list, isa_tuple_tuple, isa_tuple_dict, isa_dict_bool, isa_dict_int, isa_dict_str, isa_dict_list, isa_dict_tuple, isa_dict_dict, opEq_emp, opEq_fe, opIn_ints, Option.bind_some, Option.map_some, List.map_cons, List.map_nil, List.cons_append, List.nil_append, List.append_nil, List.replicate, List.length_cons, List.length_nil, List.set_cons_succ, List.set_cons_zero, Nat.lt_add_one, if_true, if_false, Nat.reduceAdd, Nat.reduceLT, Nat.reduceLeDiff, List.not_mem_nil, List.mem_cons, Nat.reduceEqDiff, or_false, or_true, false_or, true_or, Bool.not_true, Bool.not_false, Bool.false_eq_true, reduceIte, Option.bind_eq_bind, Int.reduceAdd, Int.reduceSub, Int.reduceMul, Int.reduceLT, Int.reduceLE, Int.reduceNeg, Int.cast_ofNat_Int, Int.natCast_one, Int.natCast_zero, Int.reduceEq, Int.reduceNe, Int.toNat_natCast, Int.reduceToNat, Int.reducePow, List.isEmpty_nil, List.isEmpty_cons, List.getElem?_cons_succ, List.getElem?_cons_zero, reduceCtorEq, Nat.succ_eq_add_one, Nat.add_zero, Nat.zero_add, and_self, and_true, true_and, decide_true, decide_false, List.reverse_cons, List.reverse_nil, Option.map_eq_map, Bool.not_eq_true, Bool.not_eq_false, Bool.xor_false, Bool.xor_true, Bool.false_xor, Bool.true_xor, Nat.reduceSub, List.dropLast_cons₂, List.dropLast_singleton, decide_eq_true_eq, List.length_map, Nat.zero_le, List.map_map, Function.comp_def]
  have e3 : ((xs.length : Nat) : Int) = Rg c t := by rw [hxs]; rfl
  have eF : ((List.range 10).map fun i : Nat => mi (c.count (i : Int) : Nat) (t.count (i : Int) : Nat)).sum = F c t := rfl
  simp only [gsx_ok, gSi_ap, sxf_ok, sxe_ok, sSetIxE_ap, sx0_ok, sExt0_ap, par3_ok, sPar3_ap, kMt_ap, kLenSet_ap, iRange3_ap, opCount_fr, dat_map, opEq_lists, opEq_2, opNe_bl, opEq_bl, datL_map, sTry_ap, tryR_nx, tryR_rt, tryR_ex, hdl_t, hdl_f, handle_nil, handle_ap, asL_list, asL_map, opSum_fr, opSum_lst, opMin_2, opMax_2, opSl_list, opSl_map, opSl_tup, cutL_map, bnd_ok, bnd_ex, ofR_ok, ofR_ex, SZ_eq, kC_ap, slot_c0, slot_cs, kV_ap, frR_ok, kOk_ap, k1_ap, k2_ap, e1_ap, okR_ok, e2a_ok, e2b_ok, e2a_ex, e2b_ex, e2_ap, eMv_ap, cpk_ok, eCp_ap, eFz_ap, kNil_ap, kCons_ap, eNil_ap, ecb_ok, ecb_ex, eca_ok, eca_ex, eCons_ap, eBor_ap, rT_ok, kCall_ap, rE_ok, rE_ex, rA_ok, eCall_ap, takeA_nil, tkc_ok, takeA_own, takeA_bor, putA_nil, putA_own, putA_bor, allF_nil, allF_cons, tV_ap, tVK_ap, tB_ap, tBK_ap, tNot_ap, tan_t, tan_f, tan_ex, tor_t, tor_f, tor_ex, tAnd_ap, tOr_ap, isB_bl, truth_bl, truth_lst, truth_list, truth_int, ean_t, ean_f, eAnd_ap, eor_t, eor_f, eOr_ap, eNot_ap, ifk_t, ifk_f, ifk_ex, eIf_ap, chk_t, chk_f, kCh_ap, kN_ap, eN_ap, ownsA_nil, ownsA_own, kTup_ap, kLst_ap, eTup_ap, eLst_ap, kIsi_ap, kSl_ap, eSl_ap, parI_ok, kPart_ap, kNoPart_ap, kRev_ap, gN_ap, gTp_tup, gCs_cons, gNl_nil, iIt_ap, items_list, items_tuple, iRange1_ap, rg1_ok, iRange2_ap, rg2_ok, tYesF_ap, nxt_nx, nxt_rt, nxt_ex, nxt_bk, nxt_ct, sSeq_ap, sNil_ap, sBk_ap, sCt_ap, sRaise_ap, sExpr_ap, sRet_ap, sRetN_ap, ifs_t, ifs_f, ifs_ex, sIf_ap, sSet_ap, sTgt_ap, kild_nx, kild_ct, kild_rt, kild_bk, kild_ex, kill_ap, wipe_nil, wipe_cons, app0_ok, isLst_ok, sApp0_ap, sFor_ap, sForE_ap, eLc_ap, back_nil, back_cons, bk1_none, bk1_fr, bk1_lst, endD_rt, endD_nx, endD_ex, semD_1, semD_2, semD_3, semD_4, semD_5, semD_6, semD_7, semD_8, outs_nil, outs_cons, frO_fr, opAdd_i, opAddI_i, opSub_i, opMod_i, opFdiv_i, opMul_r, opMul_l, opPow_i, opEq_i, opNe_i, opLt_i, opGt_i, opLe_i, opGe_i, opNeg_i, opLen_list, opLen_tup, opLen_lst, opIx_list, opIx_tup, opIx_lst, frOp_ap, onlyFr_fr, dat_fr, dat_lst, datL_nil, datL_fr, datL_lst, allFr_nil, allFr_cons, asS_list, asS_tup, opList_ap, opTuple_ap, ixN_nat, atI_0, atI_1, atI_2, atI_3, atI_4, atI_map, atI_int, pV_ap, getAt_ap, getP_nil, getP_ix, setAt_ap, setP_nil, setP_ix, pix_ok, pIx_ap, six_ok, sSetIx_ap, pp0_ok, ePop_ap, par2_ok, sPar_ap, aug1_ok, sAug_ap, opIsN_ap, isNoT_none, isNoT_int, isNoT_list, isNoT_tup, isNoT_lst, typT_fr, typT_lst, typD_none, typD_bool, typD_int, typD_str, typD_list, typD_tuple, isa_NoneType_bool, isa_NoneType_int, isa_NoneType_str, isa_NoneType_list, isa_NoneType_tuple, isa_NoneType_dict, isa_bool_bool, isa_bool_int, isa_bool_str, isa_bool_list, isa_bool_tuple, isa_bool_dict, isa_int_bool, isa_int_int, isa_int_str, isa_int_list, isa_int_tuple, isa_int_dict, isa_str_bool, isa_str_int, isa_str_str, isa_str_list, isa_str_tuple, isa_str_dict, isa_list_bool, isa_list_int, isa_list_str, isa_list_list, isa_list_tuple, isa_list_dict, isa_tuple_bool, isa_tuple_int, isa_tuple_str, isa_tuple_list, isa_tuple_tuple, isa_tuple_dict, isa_dict_bool, isa_dict_int, isa_dict_str, isa_dict_list, isa_dict_tuple, isa_dict_dict, opEq_emp, opEq_fe, opIn_ints, Option.bind_some, Option.map_some, List.map_cons, List.map_nil, List.cons_append, List.nil_append, List.append_nil, List.replicate, List.length_cons, List.length_nil, List.set_cons_succ, List.set_cons_zero, Nat.lt_add_one, if_true, if_false, Nat.reduceAdd, Nat.reduceLT, Nat.reduceLeDiff, List.not_mem_nil, List.mem_cons, Nat.reduceEqDiff, or_false, or_true, false_or, true_or, Bool.not_true, Bool.not_false, Bool.false_eq_true, reduceIte, Option.bind_eq_bind, Int.reduceAdd, Int.reduceSub, Int.reduceMul, Int.reduceLT, Int.reduceLE, Int.reduceNeg, Int.cast_ofNat_Int, Int.natCast_one, Int.natCast_zero, Int.reduceEq, Int.reduceNe, Int.toNat_natCast, Int.reduceToNat, Int.reducePow, List.isEmpty_nil, List.isEmpty_cons, List.getElem?_cons_succ, List.getElem?_cons_zero, reduceCtorEq, Nat.succ_eq_add_one, Nat.add_zero, Nat.zero_add, and_self, and_true, true_and, decide_true, decide_false, List.reverse_cons, List.reverse_nil, Option.map_eq_map, Bool.not_eq_true, Bool.not_eq_false, Bool.xor_false, Bool.xor_true, Bool.false_xor, Bool.true_xor, Nat.reduceSub, List.dropLast_cons₂, List.dropLast_singleton, decide_eq_true_eq, List.length_map, Nat.zero_le, c1, e3, c2, opSum_lst, eF]
theorem law_answer_ok {p b : Int} {c t : List Int} (h : Cd p b c) (ht : Cd p b t) (hp : p ≤ 5) (hb : b ≤ 10) : law_answer_sem [.fr (li c), .fr (li t)] = some (.ok (.fr (.tuple [.int (Rg c t), .int (F c t - Rg c t)])) [some (.fr (li c)), some (.fr (li t))]) := by
  have hl : c.length = t.length := by have := h.len; have := ht.len; omega
  have hlen := h.len
  have q1 : ((c.length : Nat) : Int) ≤ 16777216 := by omega
  have q2 : (-16777216 : Int) ≤ (c.length : Nat) := by omega
  unfold law_answer_sem law_answer_b
  let tl : List Int → T := fun l => .lst ((l.map PyData.int).map .fr)
  obtain ⟨ρ', e, rfl⟩ : ∃ ρ', law_answer_l2 [some (.fr (li c)), some (.fr (li t)), some (.fr (.int 0)), some (.lst []), some (.lst []), none, none, none, none] = some (.nx ρ') ∧
      ρ' = [some (.fr (li c)), some (.fr (li t)), some (.fr (.int (eqs (zz c t c.length)).length)), some (tl ((nes (zz c t c.length)).map (·.1))), some (tl ((nes (zz c t c.length)).map (·.2))), none, none, none, none] := by
    unfold law_answer_l2
    refine for_rng (n := c.length) (ρ1 := [some (.fr (li c)), some (.fr (li t)), some (.fr (.int 0)), some (.lst []), some (.lst []), none, none, none, none]) (by simp only [gsx_ok, gSi_ap, sxf_ok, sxe_ok, sSetIxE_ap, sx0_ok, sExt0_ap, par3_ok, sPar3_ap, kMt_ap, kLenSet_ap, iRange3_ap, opCount_fr, dat_map, opEq_lists, opEq_2, opNe_bl, opEq_bl, datL_map, sTry_ap, tryR_nx, tryR_rt, tryR_ex, hdl_t, hdl_f, handle_nil, handle_ap, asL_list, asL_map, opSum_fr, opSum_lst, opMin_2, opMax_2, opSl_list, opSl_map, opSl_tup, cutL_map, bnd_ok, bnd_ex, ofR_ok, ofR_ex, SZ_eq, kC_ap, slot_c0, slot_cs, kV_ap, frR_ok, kOk_ap, k1_ap, k2_ap, e1_ap, okR_ok, e2a_ok, e2b_ok, e2a_ex, e2b_ex, e2_ap, eMv_ap, cpk_ok, eCp_ap, eFz_ap, kNil_ap, kCons_ap, eNil_ap, ecb_ok, ecb_ex, eca_ok, eca_ex, eCons_ap, eBor_ap, rT_ok, kCall_ap, rE_ok, rE_ex, rA_ok, eCall_ap, takeA_nil, tkc_ok, takeA_own, takeA_bor, putA_nil, putA_own, putA_bor, allF_nil, allF_cons, tV_ap, tVK_ap, tB_ap, tBK_ap, tNot_ap, tan_t, tan_f, tan_ex, tor_t, tor_f, tor_ex, tAnd_ap, tOr_ap, isB_bl, truth_bl, truth_lst, truth_list, truth_int, ean_t, ean_f, eAnd_ap, eor_t, eor_f, eOr_ap, eNot_ap, ifk_t, ifk_f, ifk_ex, eIf_ap, chk_t, chk_f, kCh_ap, kN_ap, eN_ap, ownsA_nil, ownsA_own, kTup_ap, kLst_ap, eTup_ap, eLst_ap, kIsi_ap, kSl_ap, eSl_ap, parI_ok, kPart_ap, kNoPart_ap, kRev_ap, gN_ap, gTp_tup, gCs_cons, gNl_nil, iIt_ap, items_list, items_tuple, iRange1_ap, rg1_ok, iRange2_ap, rg2_ok, tYesF_ap, nxt_nx, nxt_rt, nxt_ex, nxt_bk, nxt_ct, sSeq_ap, sNil_ap, sBk_ap, sCt_ap, sRaise_ap, sExpr_ap, sRet_ap, sRetN_ap, ifs_t, ifs_f, ifs_ex, sIf_ap, sSet_ap, sTgt_ap, kild_nx, kild_ct, kild_rt, kild_bk, kild_ex, kill_ap, wipe_nil, wipe_cons, app0_ok, isLst_ok, sApp0_ap, sFor_ap, sForE_ap, eLc_ap, back_nil, back_cons, bk1_none, bk1_fr, bk1_lst, endD_rt, endD_nx, endD_ex, semD_1, semD_2, semD_3, semD_4, semD_5, semD_6, semD_7, semD_8, outs_nil, outs_cons, frO_fr, opAdd_i, opAddI_i, opSub_i, opMod_i, opFdiv_i, opMul_r, opMul_l, opPow_i, opEq_i, opNe_i, opLt_i, opGt_i, opLe_i, opGe_i, opNeg_i, opLen_list, opLen_tup, opLen_lst, opIx_list, opIx_tup, opIx_lst, frOp_ap, onlyFr_fr, dat_fr, dat_lst, datL_nil, datL_fr, datL_lst, allFr_nil, allFr_cons, asS_list, asS_tup, opList_ap, opTuple_ap, ixN_nat, atI_0, atI_1, atI_2, atI_3, atI_4, atI_map, atI_int, pV_ap, getAt_ap, getP_nil, getP_ix, setAt_ap, setP_nil, setP_ix, pix_ok, pIx_ap, six_ok, sSetIx_ap, pp0_ok, ePop_ap, par2_ok, sPar_ap, aug1_ok, sAug_ap, opIsN_ap, isNoT_none, isNoT_int, isNoT_list, isNoT_tup, isNoT_lst, typT_fr, typT_lst, typD_none, typD_bool, typD_int, typD_str, typD_list, typD_tuple, isa_NoneType_bool, isa_NoneType_int, isa_NoneType_str, isa_NoneType_list, isa_NoneType_tuple, isa_NoneType_dict, isa_bool_bool, isa_bool_int, isa_bool_str, isa_bool_list, isa_bool_tuple, isa_bool_dict, isa_int_bool, isa_int_int, isa_int_str, isa_int_list, isa_int_tuple, isa_int_dict, isa_str_bool, isa_str_int, isa_str_str, isa_str_list, isa_str_tuple, isa_str_dict, isa_list_bool, isa_list_int, isa_list_str, isa_list_list, isa_list_tuple, isa_list_dict, isa_tuple_bool, isa_tuple_int, isa_tuple_str, isa_tuple_list, isa_tuple_tuple, isa_tuple_dict, isa_dict_bool, isa_dict_int, isa_dict_str, isa_dict_list, isa_dict_tuple, isa_dict_dict, opEq_emp, opEq_fe, opIn_ints, Option.bind_some, Option.map_some, List.map_cons, List.map_nil, List.cons_append, List.nil_append, List.append_nil, List.replicate, List.length_cons, List.length_nil, List.set_cons_succ, List.set_cons_zero, Nat.lt_add_one, if_true, if_false, Nat.reduceAdd, Nat.reduceLT, Nat.reduceLeDiff, List.not_mem_nil, List.mem_cons, Nat.reduceEqDiff, or_false, or_true, false_or, true_or, Bool.not_true, Bool.not_false, Bool.false_eq_true, reduceIte, Option.bind_eq_bind, Int.reduceAdd, Int.reduceSub, Int.reduceMul, Int.reduceLT, Int.reduceLE, Int.reduceNeg, Int.cast_ofNat_Int, Int.natCast_one, Int.natCast_zero, Int.reduceEq, Int.reduceNe, Int.toNat_natCast, Int.reduceToNat, Int.reducePow, List.isEmpty_nil, List.isEmpty_cons, List.getElem?_cons_succ, List.getElem?_cons_zero, reduceCtorEq, Nat.succ_eq_add_one, Nat.add_zero, Nat.zero_add, and_self, and_true, true_and, decide_true, decide_false, List.reverse_cons, List.reverse_nil, Option.map_eq_map, Bool.not_eq_true, Bool.not_eq_false, Bool.xor_false, Bool.xor_true, Bool.false_xor, Bool.true_xor, Nat.reduceSub, List.dropLast_cons₂, List.dropLast_singleton, decide_eq_true_eq, List.length_map, Nat.zero_le, q1, q2]) (fun k ρ => ρ = [some (.fr (li c)), some (.fr (li t)), some (.fr (.int (eqs (zz c t k)).length)), some (tl ((nes (zz c t k)).map (·.1))), some (tl ((nes (zz c t k)).map (·.2))), none, none, none, none]) rfl fun k ρ hk e => ?_
    subst e
    have a1 := at_c (c := c) (k := (k : Int)) (by omega) (by omega)
    have a2 := at_c (c := t) (k := (k : Int)) (by omega) (by omega)
    rw [atI_map] at a1 a2
    simp only [Int.toNat_natCast] at a1 a2
    have l1 : (nes (zz c t k)).length < 16777216 := by
      have := List.length_filter_le (fun p : Int × Int => !decide (p.1 = p.2)) (zz c t k)
      unfold nes
      have : (zz c t k).length = k := by simp [zz]
      omega
    refine ⟨_, ?_, rfl⟩
    rw [zz_s]
    unfold law_answer_b1 eqs nes at *
    simp only [tl]
    by_cases q : c[k]?.getD 0 = t[k]?.getD 0
    · simp only [gsx_ok, gSi_ap, sxf_ok, sxe_ok, sSetIxE_ap, sx0_ok, sExt0_ap, par3_ok, sPar3_ap, kMt_ap, kLenSet_ap, iRange3_ap, opCount_fr, dat_map, opEq_lists, opEq_2, opNe_bl, opEq_bl, datL_map, sTry_ap, tryR_nx, tryR_rt, tryR_ex, hdl_t, hdl_f, handle_nil, handle_ap, asL_list, asL_map, opSum_fr, opSum_lst, opMin_2, opMax_2, opSl_list, opSl_map, opSl_tup, cutL_map, bnd_ok, bnd_ex, ofR_ok, ofR_ex, SZ_eq, kC_ap, slot_c0, slot_cs, kV_ap, frR_ok, kOk_ap, k1_ap, k2_ap, e1_ap, okR_ok, e2a_ok, e2b_ok, e2a_ex, e2b_ex, e2_ap, eMv_ap, cpk_ok, eCp_ap, eFz_ap, kNil_ap, kCons_ap, eNil_ap, ecb_ok, ecb_ex, eca_ok, eca_ex, eCons_ap, eBor_ap, rT_ok, kCall_ap, rE_ok, rE_ex, rA_ok, eCall_ap, takeA_nil, tkc_ok, takeA_own, takeA_bor, putA_nil, putA_own, putA_bor, allF_nil, allF_cons, tV_ap, tVK_ap, tB_ap, tBK_ap, tNot_ap, tan_t, tan_f, tan_ex, tor_t, tor_f, tor_ex, tAnd_ap, tOr_ap, isB_bl, truth_bl, truth_lst, truth_list, truth_int, ean_t, ean_f, eAnd_ap, eor_t, eor_f, eOr_ap, eNot_ap, ifk_t, ifk_f, ifk_ex, eIf_ap, chk_t, chk_f, kCh_ap, kN_ap, eN_ap, ownsA_nil, ownsA_own, kTup_ap, kLst_ap, eTup_ap, eLst_ap, kIsi_ap, kSl_ap, eSl_ap, parI_ok, kPart_ap, kNoPart_ap, kRev_ap, gN_ap, gTp_tup, gCs_cons, gNl_nil, iIt_ap, items_list, items_tuple, iRange1_ap, rg1_ok, iRange2_ap, rg2_ok, tYesF_ap, nxt_nx, nxt_rt, nxt_ex, nxt_bk, nxt_ct, sSeq_ap, sNil_ap, sBk_ap, sCt_ap, sRaise_ap, sExpr_ap, sRet_ap, sRetN_ap, ifs_t, ifs_f, ifs_ex, sIf_ap, sSet_ap, sTgt_ap, kild_nx, kild_ct, kild_rt, kild_bk, kild_ex, kill_ap, wipe_nil, wipe_cons, app0_ok, isLst_ok, sApp0_ap, sFor_ap, sForE_ap, eLc_ap, back_nil, back_cons, bk1_none, bk1_fr, bk1_lst, endD_rt, endD_nx, endD_ex, semD_1, semD_2, semD_3, semD_4, semD_5, semD_6, semD_7, semD_8, outs_nil, outs_cons, frO_fr, opAdd_i, opAddI_i, opSub_i, opMod_i, opFdiv_i, opMul_r, opMul_l, opPow_i, opEq_i, opNe_i, opLt_i, opGt_i, opLe_i, opGe_i, opNeg_i, opLen_list, opLen_tup, opLen_lst, opIx_list, opIx_tup, opIx_lst, frOp_ap, onlyFr_fr, dat_fr, dat_lst, datL_nil, datL_fr, datL_lst, allFr_nil, allFr_cons, asS_list, asS_tup, opList_ap, opTuple_ap, ixN_nat, atI_0, atI_1, atI_2, atI_3, atI_4, atI_map, atI_int, pV_ap, getAt_ap, getP_nil, getP_ix, setAt_ap, setP_nil, setP_ix, pix_ok, pIx_ap, six_ok, sSetIx_ap, pp0_ok, ePop_ap, par2_ok, sPar_ap, aug1_ok, sAug_ap, opIsN_ap, isNoT_none, isNoT_int, isNoT_list, isNoT_tup, isNoT_lst, typT_fr, typT_lst, typD_none, typD_bool, typD_int, typD_str, typD_list, typD_tuple, isa_NoneType_bool, isa_NoneType_int, isa_NoneType_str, isa_NoneType_list, isa_NoneType_tuple, isa_NoneType_dict, isa_bool_bool, isa_bool_int, isa_bool_str, isa_bool_list, isa_bool_tuple, isa_bool_dict, isa_int_bool, isa_int_int, isa_int_str, isa_int_list, isa_int_tuple, isa_int_dict, isa_str_bool, isa_str_int, isa_str_str, isa_str_list, isa_str_tuple, isa_str_dict, isa_list_bool, isa_list_int, isa_list_str, isa_list_list, isa_list_tuple, isa_list_dict, isa_tuple_bool, isa_tuple_int, isa_tuple_str, isa_tuple_list, isa_tuple_tuple, isa_tuple_dict, isa_dict_bool, isa_dict_int, isa_dict_str, isa_dict_list, isa_dict_tuple, isa_dict_dict, opEq_emp, opEq_fe, opIn_ints, Option.bind_some, Option.map_some, List.map_cons, List.map_nil, List.cons_append, List.nil_append, List.append_nil, List.replicate, List.length_cons, List.length_nil, List.set_cons_succ, List.set_cons_zero, Nat.lt_add_one, if_true, if_false, Nat.reduceAdd, Nat.reduceLT, Nat.reduceLeDiff, List.not_mem_nil, List.mem_cons, Nat.reduceEqDiff, or_false, or_true, false_or, true_or, Bool.not_true, Bool.not_false, Bool.false_eq_true, reduceIte, Option.bind_eq_bind, Int.reduceAdd, Int.reduceSub, Int.reduceMul, Int.reduceLT, Int.reduceLE, Int.reduceNeg, Int.cast_ofNat_Int, Int.natCast_one, Int.natCast_zero, Int.reduceEq, Int.reduceNe, Int.toNat_natCast, Int.reduceToNat, Int.reducePow, List.isEmpty_nil, List.isEmpty_cons, List.getElem?_cons_succ, List.getElem?_cons_zero, reduceCtorEq, Nat.succ_eq_add_one, Nat.add_zero, Nat.zero_add, and_self, and_true, true_and, decide_true, decide_false, List.reverse_cons, List.reverse_nil, Option.map_eq_map, Bool.not_eq_true, Bool.not_eq_false, Bool.xor_false, Bool.xor_true, Bool.false_xor, Bool.true_xor, Nat.reduceSub, List.dropLast_cons₂, List.dropLast_singleton, decide_eq_true_eq, List.length_map, Nat.zero_le, a1, a2, q, List.filter_append, List.filter_cons, List.filter_nil, List.length_append]
      rfl
    · simp only [gsx_ok, gSi_ap, sxf_ok, sxe_ok, sSetIxE_ap, sx0_ok, sExt0_ap, par3_ok, sPar3_ap, kMt_ap, kLenSet_ap, iRange3_ap, opCount_fr, dat_map, opEq_lists, opEq_2, opNe_bl, opEq_bl, datL_map, sTry_ap, tryR_nx, tryR_rt, tryR_ex, hdl_t, hdl_f, handle_nil, handle_ap, asL_list, asL_map, opSum_fr, opSum_lst, opMin_2, opMax_2, opSl_list, opSl_map, opSl_tup, cutL_map, bnd_ok, bnd_ex, ofR_ok, ofR_ex, SZ_eq, kC_ap, slot_c0, slot_cs, kV_ap, frR_ok, kOk_ap, k1_ap, k2_ap, e1_ap, okR_ok, e2a_ok, e2b_ok, e2a_ex, e2b_ex, e2_ap, eMv_ap, cpk_ok, eCp_ap, eFz_ap, kNil_ap, kCons_ap, eNil_ap, ecb_ok, ecb_ex, eca_ok, eca_ex, eCons_ap, eBor_ap, rT_ok, kCall_ap, rE_ok, rE_ex, rA_ok, eCall_ap, takeA_nil, tkc_ok, takeA_own, takeA_bor, putA_nil, putA_own, putA_bor, allF_nil, allF_cons, tV_ap, tVK_ap, tB_ap, tBK_ap, tNot_ap, tan_t, tan_f, tan_ex, tor_t, tor_f, tor_ex, tAnd_ap, tOr_ap, isB_bl, truth_bl, truth_lst, truth_list, truth_int, ean_t, ean_f, eAnd_ap, eor_t, eor_f, eOr_ap, eNot_ap, ifk_t, ifk_f, ifk_ex, eIf_ap, chk_t, chk_f, kCh_ap, kN_ap, eN_ap, ownsA_nil, ownsA_own, kTup_ap, kLst_ap, eTup_ap, eLst_ap, kIsi_ap, kSl_ap, eSl_ap, parI_ok, kPart_ap, kNoPart_ap, kRev_ap, gN_ap, gTp_tup, gCs_cons, gNl_nil, iIt_ap, items_list, items_tuple, iRange1_ap, rg1_ok, iRange2_ap, rg2_ok, tYesF_ap, nxt_nx, nxt_rt, nxt_ex, nxt_bk, nxt_ct, sSeq_ap, sNil_ap, sBk_ap, sCt_ap, sRaise_ap, sExpr_ap, sRet_ap, sRetN_ap, ifs_t, ifs_f, ifs_ex, sIf_ap, sSet_ap, sTgt_ap, kild_nx, kild_ct, kild_rt, kild_bk, kild_ex, kill_ap, wipe_nil, wipe_cons, app0_ok, isLst_ok, sApp0_ap, sFor_ap, sForE_ap, eLc_ap, back_nil, back_cons, bk1_none, bk1_fr, bk1_lst, endD_rt, endD_nx, endD_ex, semD_1, semD_2, semD_3, semD_4, semD_5, semD_6, semD_7, semD_8, outs_nil, outs_cons, frO_fr, opAdd_i, opAddI_i, opSub_i, opMod_i, opFdiv_i, opMul_r, opMul_l, opPow_i, opEq_i, opNe_i, opLt_i, opGt_i, opLe_i, opGe_i, opNeg_i, opLen_list, opLen_tup, opLen_lst, opIx_list, opIx_tup, opIx_lst, frOp_ap, onlyFr_fr, dat_fr, dat_lst, datL_nil, datL_fr, datL_lst, allFr_nil, allFr_cons, asS_list, asS_tup, opList_ap, opTuple_ap, ixN_nat, atI_0, atI_1, atI_2, atI_3, atI_4, atI_map, atI_int, pV_ap, getAt_ap, getP_nil, getP_ix, setAt_ap, setP_nil, setP_ix, pix_ok, pIx_ap, six_ok, sSetIx_ap, pp0_ok, ePop_ap, par2_ok, sPar_ap, aug1_ok, sAug_ap, opIsN_ap, isNoT_none, isNoT_int, isNoT_list, isNoT_tup, isNoT_lst, typT_fr, typT_lst, typD_none, typD_bool, typD_int, typD_str, typD_list, typD_tuple, isa_NoneType_bool, isa_NoneType_int, isa_NoneType_str, isa_NoneType_list, isa_NoneType_tuple, isa_NoneType_dict, isa_bool_bool, isa_bool_int, isa_bool_str, isa_bool_list, isa_bool_tuple, isa_bool_dict, isa_int_bool, isa_int_int, isa_int_str, isa_int_list, isa_int_tuple, isa_int_dict, isa_str_bool, isa_str_int, isa_str_str, isa_str_list, isa_str_tuple, isa_str_dict, isa_list_bool, isa_list_int, isa_list_str, isa_list_list, isa_list_tuple, isa_list_dict, isa_tuple_bool, isa_tuple_int, isa_tuple_str, isa_tuple_list, isa_tuple_tuple, isa_tuple_dict, isa_dict_bool, isa_dict_int, isa_dict_str, isa_dict_list, isa_dict_tuple, isa_dict_dict, opEq_emp, opEq_fe, opIn_ints, Option.bind_some, Option.map_some, List.map_cons, List.map_nil, List.cons_append, List.nil_append, List.append_nil, List.replicate, List.length_cons, List.length_nil, List.set_cons_succ, List.set_cons_zero, Nat.lt_add_one, if_true, if_false, Nat.reduceAdd, Nat.reduceLT, Nat.reduceLeDiff, List.not_mem_nil, List.mem_cons, Nat.reduceEqDiff, or_false, or_true, false_or, true_or, Bool.not_true, Bool.not_false, Bool.false_eq_true, reduceIte, Option.bind_eq_bind, Int.reduceAdd, Int.reduceSub, Int.reduceMul, Int.reduceLT, Int.reduceLE, Int.reduceNeg, Int.cast_ofNat_Int, Int.natCast_one, Int.natCast_zero, Int.reduceEq, Int.reduceNe, Int.toNat_natCast, Int.reduceToNat, Int.reducePow, List.isEmpty_nil, List.isEmpty_cons, List.getElem?_cons_succ, List.getElem?_cons_zero, reduceCtorEq, Nat.succ_eq_add_one, Nat.add_zero, Nat.zero_add, and_self, and_true, true_and, decide_true, decide_false, List.reverse_cons, List.reverse_nil, Option.map_eq_map, Bool.not_eq_true, Bool.not_eq_false, Bool.xor_false, Bool.xor_true, Bool.false_xor, Bool.true_xor, Nat.reduceSub, List.dropLast_cons₂, List.dropLast_singleton, decide_eq_true_eq, List.length_map, Nat.zero_le, a1, a2, q, List.filter_append, List.filter_cons, List.filter_nil, List.map_append, l1]
  have hone : ∀ x ∈ (nes (zz c t c.length)).map (·.1), 0 ≤ x ∧ x < 10 := by
    intro x hx
    obtain ⟨q, hq, rfl⟩ := List.mem_map.mp hx
    exact zz_mem h hb q (List.mem_filter.mp hq).1
  have ltwo : ((nes (zz c t c.length)).map (·.2)).length ≤ 5 := by
    have := List.length_filter_le (fun p : Int × Int => !decide (p.1 = p.2)) (zz c t c.length)
    rw [List.length_map]
    unfold nes
    have : (zz c t c.length).length = c.length := by simp [zz]
    omega
  have eF := ans_F h ht hb
  generalize hzo : (nes (zz c t c.length)).map (·.1) = one at hone eF
  generalize hzt : (nes (zz c t c.length)).map (·.2) = two at ltwo eF
  obtain ⟨ρ', e4, o3, o4, rfl⟩ : ∃ ρ', law_answer_l4 [some (.fr (li c)), some (.fr (li t)), some (.fr (.int (Rg c t))), some (tl one), some (tl two), none, some (.fr (.int 0)), none, none] = some (.nx ρ') ∧
      ∃ o3 o4, ρ' = [some (.fr (li c)), some (.fr (li t)), some (.fr (.int (Rg c t))), o3, o4, none, some (.fr (.int (strike one two))), none, none] := by
    unfold law_answer_l4
    obtain ⟨ρ', e, r, tw, o, hr, _, ho, rfl⟩ := for_inv (ρ := [some (.fr (li c)), some (.fr (li t)), some (.fr (.int (Rg c t))), some (tl one), some (tl two), none, some (.fr (.int 0)), none, none]) (fi := iIt (eCp 3)) (g := gN 7) (fb := law_answer_b3) (ds := one.map .int) (ρ1 := [some (.fr (li c)), some (.fr (li t)), some (.fr (.int (Rg c t))), some (.fr (li one)), some (tl two), none, some (.fr (.int 0)), none, none])
      (by simp only [tl]; simp only [gsx_ok, gSi_ap, sxf_ok, sxe_ok, sSetIxE_ap, sx0_ok, sExt0_ap, par3_ok, sPar3_ap, kMt_ap, kLenSet_ap, iRange3_ap, opCount_fr, dat_map, opEq_lists, opEq_2, opNe_bl, opEq_bl, datL_map, sTry_ap, tryR_nx, tryR_rt, tryR_ex, hdl_t, hdl_f, handle_nil, handle_ap, asL_list, asL_map, opSum_fr, opSum_lst, opMin_2, opMax_2, opSl_list, opSl_map, opSl_tup, cutL_map, bnd_ok, bnd_ex, ofR_ok, ofR_ex, SZ_eq, kC_ap, slot_c0, slot_cs, kV_ap, frR_ok, kOk_ap, k1_ap, k2_ap, e1_ap, okR_ok, e2a_ok, e2b_ok, e2a_ex, e2b_ex, e2_ap, eMv_ap, cpk_ok, eCp_ap, eFz_ap, kNil_ap, kCons_ap, eNil_ap, ecb_ok, ecb_ex, eca_ok, eca_ex, eCons_ap, eBor_ap, rT_ok, kCall_ap, rE_ok, rE_ex, rA_ok, eCall_ap, takeA_nil, tkc_ok, takeA_own, takeA_bor, putA_nil, putA_own, putA_bor, allF_nil, allF_cons, tV_ap, tVK_ap, tB_ap, tBK_ap, tNot_ap, tan_t, tan_f, tan_ex, tor_t, tor_f, tor_ex, tAnd_ap, tOr_ap, isB_bl, truth_bl, truth_lst, truth_list, truth_int, ean_t, ean_f, eAnd_ap, eor_t, eor_f, eOr_ap, eNot_ap, ifk_t, ifk_f, ifk_ex, eIf_ap, chk_t, chk_f, kCh_ap, kN_ap, eN_ap, ownsA_nil, ownsA_own, kTup_ap, kLst_ap, eTup_ap, eLst_ap, kIsi_ap, kSl_ap, eSl_ap, parI_ok, kPart_ap, kNoPart_ap, kRev_ap, gN_ap, gTp_tup, gCs_cons, gNl_nil, iIt_ap, items_list, items_tuple, iRange1_ap, rg1_ok, iRange2_ap, rg2_ok, tYesF_ap, nxt_nx, nxt_rt, nxt_ex, nxt_bk, nxt_ct, sSeq_ap, sNil_ap, sBk_ap, sCt_ap, sRaise_ap, sExpr_ap, sRet_ap, sRetN_ap, ifs_t, ifs_f, ifs_ex, sIf_ap, sSet_ap, sTgt_ap, kild_nx, kild_ct, kild_rt, kild_bk, kild_ex, kill_ap, wipe_nil, wipe_cons, app0_ok, isLst_ok, sApp0_ap, sFor_ap, sForE_ap, eLc_ap, back_nil, back_cons, bk1_none, bk1_fr, bk1_lst, endD_rt, endD_nx, endD_ex, semD_1, semD_2, semD_3, semD_4, semD_5, semD_6, semD_7, semD_8, outs_nil, outs_cons, frO_fr, opAdd_i, opAddI_i, opSub_i, opMod_i, opFdiv_i, opMul_r, opMul_l, opPow_i, opEq_i, opNe_i, opLt_i, opGt_i, opLe_i, opGe_i, opNeg_i, opLen_list, opLen_tup, opLen_lst, opIx_list, opIx_tup, opIx_lst, frOp_ap, onlyFr_fr, dat_fr, dat_lst, datL_nil, datL_fr, datL_lst, allFr_nil, allFr_cons, asS_list, asS_tup, opList_ap, opTuple_ap, ixN_nat, atI_0, atI_1, atI_2, atI_3, atI_4, atI_map, atI_int, pV_ap, getAt_ap, getP_nil, getP_ix, setAt_ap, setP_nil, setP_ix, pix_ok, pIx_ap, six_ok, sSetIx_ap, pp0_ok, ePop_ap, par2_ok, sPar_ap, aug1_ok, sAug_ap, opIsN_ap, isNoT_none, isNoT_int, isNoT_list, isNoT_tup, isNoT_lst, typT_fr, typT_lst, typD_none, typD_bool, typD_int, typD_str, typD_list, typD_tuple, isa_NoneType_bool, isa_NoneType_int, isa_NoneType_str, isa_NoneType_list, isa_NoneType_tuple, isa_NoneType_dict, isa_bool_bool, isa_bool_int, isa_bool_str, isa_bool_list, isa_bool_tuple, isa_bool_dict, isa_int_bool, isa_int_int, isa_int_str, isa_int_list, isa_int_tuple, isa_int_dict, isa_str_bool, isa_str_int, isa_str_str, isa_str_list, isa_str_tuple, isa_str_dict, isa_list_bool, isa_list_int, isa_list_str, isa_list_list, isa_list_tuple, isa_list_dict, isa_tuple_bool, isa_tuple_int, isa_tuple_str, isa_tuple_list, isa_tuple_tuple, isa_tuple_dict, isa_dict_bool, isa_dict_int, isa_dict_str, isa_dict_list, isa_dict_tuple, isa_dict_dict, opEq_emp, opEq_fe, opIn_ints, Option.bind_some, Option.map_some, List.map_cons, List.map_nil, List.cons_append, List.nil_append, List.append_nil, List.replicate, List.length_cons, List.length_nil, List.set_cons_succ, List.set_cons_zero, Nat.lt_add_one, if_true, if_false, Nat.reduceAdd, Nat.reduceLT, Nat.reduceLeDiff, List.not_mem_nil, List.mem_cons, Nat.reduceEqDiff, or_false, or_true, false_or, true_or, Bool.not_true, Bool.not_false, Bool.false_eq_true, reduceIte, Option.bind_eq_bind, Int.reduceAdd, Int.reduceSub, Int.reduceMul, Int.reduceLT, Int.reduceLE, Int.reduceNeg, Int.cast_ofNat_Int, Int.natCast_one, Int.natCast_zero, Int.reduceEq, Int.reduceNe, Int.toNat_natCast, Int.reduceToNat, Int.reducePow, List.isEmpty_nil, List.isEmpty_cons, List.getElem?_cons_succ, List.getElem?_cons_zero, reduceCtorEq, Nat.succ_eq_add_one, Nat.add_zero, Nat.zero_add, and_self, and_true, true_and, decide_true, decide_false, List.reverse_cons, List.reverse_nil, Option.map_eq_map, Bool.not_eq_true, Bool.not_eq_false, Bool.xor_false, Bool.xor_true, Bool.false_xor, Bool.true_xor, Nat.reduceSub, List.dropLast_cons₂, List.dropLast_singleton, decide_eq_true_eq, List.length_map, Nat.zero_le])
      (fun r ρ => ∃ (r' tw : List Int) (o : Int), r = r'.map .int ∧ tw.length ≤ 5 ∧ o + strike r' tw = strike one two ∧ ρ = [some (.fr (li c)), some (.fr (li t)), some (.fr (.int (Rg c t))), some (.fr (li one)), some (tl tw), none, some (.fr (.int o)), none, none])
      ⟨one, two, 0, rfl, ltwo, by omega, rfl⟩
      (fun d r ρ hd ⟨r', tw, o, hr, hl5, ho, e⟩ => by
        subst e
        cases r' with
        | nil => cases hr
        | cons x r' =>
          rw [List.map_cons] at hr
          obtain ⟨rfl, rfl⟩ := List.cons.inj hr
          unfold law_answer_b3
          simp only [strike] at ho
          simp only [tl]
          have ein : opInS false (.fr (.int x)) (.lst ((tw.map PyData.int).map .fr)) = _ := opIn_dat dat_map
          by_cases m : x ∈ tw
          · obtain ⟨j, hj, hf, he⟩ := find_erase x m
            have ei : opIndex (.lst ((tw.map PyData.int).map .fr)) [.fr (.int x)] = _ := opIndex_as asL_map (by omega) hf
            have k1 : cutL tw none (some (j : Int)) = tw.take j := by rw [cutL_take (by omega)]; simp
            have k2' : cutL tw (some ((j : Int) + 1)) none = tw.drop (j + 1) := by rw [cutL_drop (by omega)]; congr 1
            have ll : ((tw.take j).map PyData.int).length + ((tw.drop (j + 1)).map PyData.int).length ≤ 16777216 := by simp; omega
            simp only [gsx_ok, gSi_ap, sxf_ok, sxe_ok, sSetIxE_ap, sx0_ok, sExt0_ap, par3_ok, sPar3_ap, kMt_ap, kLenSet_ap, iRange3_ap, opCount_fr, dat_map, opEq_lists, opEq_2, opNe_bl, opEq_bl, datL_map, sTry_ap, tryR_nx, tryR_rt, tryR_ex, hdl_t, hdl_f, handle_nil, handle_ap, asL_list, asL_map, opSum_fr, opSum_lst, opMin_2, opMax_2, opSl_list, opSl_map, opSl_tup, cutL_map, bnd_ok, bnd_ex, ofR_ok, ofR_ex, SZ_eq, kC_ap, slot_c0, slot_cs, kV_ap, frR_ok, kOk_ap, k1_ap, k2_ap, e1_ap, okR_ok, e2a_ok, e2b_ok, e2a_ex, e2b_ex, e2_ap, eMv_ap, cpk_ok, eCp_ap, eFz_ap, kNil_ap, kCons_ap, eNil_ap, ecb_ok, ecb_ex, eca_ok, eca_ex, eCons_ap, eBor_ap, rT_ok, kCall_ap, rE_ok, rE_ex, rA_ok, eCall_ap, takeA_nil, tkc_ok, takeA_own, takeA_bor, putA_nil, putA_own, putA_bor, allF_nil, allF_cons, tV_ap, tVK_ap, tB_ap, tBK_ap, tNot_ap, tan_t, tan_f, tan_ex, tor_t, tor_f, tor_ex, tAnd_ap, tOr_ap, isB_bl, truth_bl, truth_lst, truth_list, truth_int, ean_t, ean_f, eAnd_ap, eor_t, eor_f, eOr_ap, eNot_ap, ifk_t, ifk_f, ifk_ex, eIf_ap, chk_t, chk_f, kCh_ap, kN_ap, eN_ap, ownsA_nil, ownsA_own, kTup_ap, kLst_ap, eTup_ap, eLst_ap, kIsi_ap, kSl_ap, eSl_ap, parI_ok, kPart_ap, kNoPart_ap, kRev_ap, gN_ap, gTp_tup, gCs_cons, gNl_nil, iIt_ap, items_list, items_tuple, iRange1_ap, rg1_ok, iRange2_ap, rg2_ok, tYesF_ap, nxt_nx, nxt_rt, nxt_ex, nxt_bk, nxt_ct, sSeq_ap, sNil_ap, sBk_ap, sCt_ap, sRaise_ap, sExpr_ap, sRet_ap, sRetN_ap, ifs_t, ifs_f, ifs_ex, sIf_ap, sSet_ap, sTgt_ap, kild_nx, kild_ct, kild_rt, kild_bk, kild_ex, kill_ap, wipe_nil, wipe_cons, app0_ok, isLst_ok, sApp0_ap, sFor_ap, sForE_ap, eLc_ap, back_nil, back_cons, bk1_none, bk1_fr, bk1_lst, endD_rt, endD_nx, endD_ex, semD_1, semD_2, semD_3, semD_4, semD_5, semD_6, semD_7, semD_8, outs_nil, outs_cons, frO_fr, opAdd_i, opAddI_i, opSub_i, opMod_i, opFdiv_i, opMul_r, opMul_l, opPow_i, opEq_i, opNe_i, opLt_i, opGt_i, opLe_i, opGe_i, opNeg_i, opLen_list, opLen_tup, opLen_lst, opIx_list, opIx_tup, opIx_lst, frOp_ap, onlyFr_fr, dat_fr, dat_lst, datL_nil, datL_fr, datL_lst, allFr_nil, allFr_cons, asS_list, asS_tup, opList_ap, opTuple_ap, ixN_nat, atI_0, atI_1, atI_2, atI_3, atI_4, atI_map, atI_int, pV_ap, getAt_ap, getP_nil, getP_ix, setAt_ap, setP_nil, setP_ix, pix_ok, pIx_ap, six_ok, sSetIx_ap, pp0_ok, ePop_ap, par2_ok, sPar_ap, aug1_ok, sAug_ap, opIsN_ap, isNoT_none, isNoT_int, isNoT_list, isNoT_tup, isNoT_lst, typT_fr, typT_lst, typD_none, typD_bool, typD_int, typD_str, typD_list, typD_tuple, isa_NoneType_bool, isa_NoneType_int, isa_NoneType_str, isa_NoneType_list, isa_NoneType_tuple, isa_NoneType_dict, isa_bool_bool, isa_bool_int, isa_bool_str, isa_bool_list, isa_bool_tuple, isa_bool_dict, isa_int_bool, isa_int_int, isa_int_str, isa_int_list, isa_int_tuple, isa_int_dict, isa_str_bool, isa_str_int, isa_str_str, isa_str_list, isa_str_tuple, isa_str_dict, isa_list_bool, isa_list_int, isa_list_str, isa_list_list, isa_list_tuple, isa_list_dict, isa_tuple_bool, isa_tuple_int, isa_tuple_str, isa_tuple_list, isa_tuple_tuple, isa_tuple_dict, isa_dict_bool, isa_dict_int, isa_dict_str, isa_dict_list, isa_dict_tuple, isa_dict_dict, opEq_emp, opEq_fe, opIn_ints, Option.bind_some, Option.map_some, List.map_cons, List.map_nil, List.cons_append, List.nil_append, List.append_nil, List.replicate, List.length_cons, List.length_nil, List.set_cons_succ, List.set_cons_zero, Nat.lt_add_one, if_true, if_false, Nat.reduceAdd, Nat.reduceLT, Nat.reduceLeDiff, List.not_mem_nil, List.mem_cons, Nat.reduceEqDiff, or_false, or_true, false_or, true_or, Bool.not_true, Bool.not_false, Bool.false_eq_true, reduceIte, Option.bind_eq_bind, Int.reduceAdd, Int.reduceSub, Int.reduceMul, Int.reduceLT, Int.reduceLE, Int.reduceNeg, Int.cast_ofNat_Int, Int.natCast_one, Int.natCast_zero, Int.reduceEq, Int.reduceNe, Int.toNat_natCast, Int.reduceToNat, Int.reducePow, List.isEmpty_nil, List.isEmpty_cons, List.getElem?_cons_succ, List.getElem?_cons_zero, reduceCtorEq, Nat.succ_eq_add_one, Nat.add_zero, Nat.zero_add, and_self, and_true, true_and, decide_true, decide_false, List.reverse_cons, List.reverse_nil, Option.map_eq_map, Bool.not_eq_true, Bool.not_eq_false, Bool.xor_false, Bool.xor_true, Bool.false_xor, Bool.true_xor, Nat.reduceSub, List.dropLast_cons₂, List.dropLast_singleton, decide_eq_true_eq, List.length_map, Nat.zero_le, ein, m, ei, k1, k2', opAdd_ll ll]
            rw [if_pos m] at ho
            refine ⟨_, rfl, r', tw.take j ++ tw.drop (j + 1), o + 1, rfl, by rw [he]; have := List.length_erase_of_mem m; omega, by rw [he]; omega, ?_⟩
            simp only [List.map_append]
          · simp only [gsx_ok, gSi_ap, sxf_ok, sxe_ok, sSetIxE_ap, sx0_ok, sExt0_ap, par3_ok, sPar3_ap, kMt_ap, kLenSet_ap, iRange3_ap, opCount_fr, dat_map, opEq_lists, opEq_2, opNe_bl, opEq_bl, datL_map, sTry_ap, tryR_nx, tryR_rt, tryR_ex, hdl_t, hdl_f, handle_nil, handle_ap, asL_list, asL_map, opSum_fr, opSum_lst, opMin_2, opMax_2, opSl_list, opSl_map, opSl_tup, cutL_map, bnd_ok, bnd_ex, ofR_ok, ofR_ex, SZ_eq, kC_ap, slot_c0, slot_cs, kV_ap, frR_ok, kOk_ap, k1_ap, k2_ap, e1_ap, okR_ok, e2a_ok, e2b_ok, e2a_ex, e2b_ex, e2_ap, eMv_ap, cpk_ok, eCp_ap, eFz_ap, kNil_ap, kCons_ap, eNil_ap, ecb_ok, ecb_ex, eca_ok, eca_ex, eCons_ap, eBor_ap, rT_ok, kCall_ap, rE_ok, rE_ex, rA_ok, eCall_ap, takeA_nil, tkc_ok, takeA_own, takeA_bor, putA_nil, putA_own, putA_bor, allF_nil, allF_cons, tV_ap, tVK_ap, tB_ap, tBK_ap, tNot_ap, tan_t, tan_f, tan_ex, tor_t, tor_f, tor_ex, tAnd_ap, tOr_ap, isB_bl, truth_bl, truth_lst, truth_list, truth_int, ean_t, ean_f, eAnd_ap, eor_t, eor_f, eOr_ap, eNot_ap, ifk_t, ifk_f, ifk_ex, eIf_ap, chk_t, chk_f, kCh_ap, kN_ap, eN_ap, ownsA_nil, ownsA_own, kTup_ap, kLst_ap, eTup_ap, eLst_ap, kIsi_ap, kSl_ap, eSl_ap, parI_ok, kPart_ap, kNoPart_ap, kRev_ap, gN_ap, gTp_tup, gCs_cons, gNl_nil, iIt_ap, items_list, items_tuple, iRange1_ap, rg1_ok, iRange2_ap, rg2_ok, tYesF_ap, nxt_nx, nxt_rt, nxt_ex, nxt_bk, nxt_ct, sSeq_ap, sNil_ap, sBk_ap, sCt_ap, sRaise_ap, sExpr_ap, sRet_ap, sRetN_ap, ifs_t, ifs_f, ifs_ex, sIf_ap, sSet_ap, sTgt_ap, kild_nx, kild_ct, kild_rt, kild_bk, kild_ex, kill_ap, wipe_nil, wipe_cons, app0_ok, isLst_ok, sApp0_ap, sFor_ap, sForE_ap, eLc_ap, back_nil, back_cons, bk1_none, bk1_fr, bk1_lst, endD_rt, endD_nx, endD_ex, semD_1, semD_2, semD_3, semD_4, semD_5, semD_6, semD_7, semD_8, outs_nil, outs_cons, frO_fr, opAdd_i, opAddI_i, opSub_i, opMod_i, opFdiv_i, opMul_r, opMul_l, opPow_i, opEq_i, opNe_i, opLt_i, opGt_i, opLe_i, opGe_i, opNeg_i, opLen_list, opLen_tup, opLen_lst, opIx_list, opIx_tup, opIx_lst, frOp_ap, onlyFr_fr, dat_fr, dat_lst, datL_nil, datL_fr, datL_lst, allFr_nil, allFr_cons, asS_list, asS_tup, opList_ap, opTuple_ap, ixN_nat, atI_0, atI_1, atI_2, atI_3, atI_4, atI_map, atI_int, pV_ap, getAt_ap, getP_nil, getP_ix, setAt_ap, setP_nil, setP_ix, pix_ok, pIx_ap, six_ok, sSetIx_ap, pp0_ok, ePop_ap, par2_ok, sPar_ap, aug1_ok, sAug_ap, opIsN_ap, isNoT_none, isNoT_int, isNoT_list, isNoT_tup, isNoT_lst, typT_fr, typT_lst, typD_none, typD_bool, typD_int, typD_str, typD_list, typD_tuple, isa_NoneType_bool, isa_NoneType_int, isa_NoneType_str, isa_NoneType_list, isa_NoneType_tuple, isa_NoneType_dict, isa_bool_bool, isa_bool_int, isa_bool_str, isa_bool_list, isa_bool_tuple, isa_bool_dict, isa_int_bool, isa_int_int, isa_int_str, isa_int_list, isa_int_tuple, isa_int_dict, isa_str_bool, isa_str_int, isa_str_str, isa_str_list, isa_str_tuple, isa_str_dict, isa_list_bool, isa_list_int, isa_list_str, isa_list_list, isa_list_tuple, isa_list_dict, isa_tuple_bool, isa_tuple_int, isa_tuple_str, isa_tuple_list, isa_tuple_tuple, isa_tuple_dict, isa_dict_bool, isa_dict_int, isa_dict_str, isa_dict_list, isa_dict_tuple, isa_dict_dict, opEq_emp, opEq_fe, opIn_ints, Option.bind_some, Option.map_some, List.map_cons, List.map_nil, List.cons_append, List.nil_append, List.append_nil, List.replicate, List.length_cons, List.length_nil, List.set_cons_succ, List.set_cons_zero, Nat.lt_add_one, if_true, if_false, Nat.reduceAdd, Nat.reduceLT, Nat.reduceLeDiff, List.not_mem_nil, List.mem_cons, Nat.reduceEqDiff, or_false, or_true, false_or, true_or, Bool.not_true, Bool.not_false, Bool.false_eq_true, reduceIte, Option.bind_eq_bind, Int.reduceAdd, Int.reduceSub, Int.reduceMul, Int.reduceLT, Int.reduceLE, Int.reduceNeg, Int.cast_ofNat_Int, Int.natCast_one, Int.natCast_zero, Int.reduceEq, Int.reduceNe, Int.toNat_natCast, Int.reduceToNat, Int.reducePow, List.isEmpty_nil, List.isEmpty_cons, List.getElem?_cons_succ, List.getElem?_cons_zero, reduceCtorEq, Nat.succ_eq_add_one, Nat.add_zero, Nat.zero_add, and_self, and_true, true_and, decide_true, decide_false, List.reverse_cons, List.reverse_nil, Option.map_eq_map, Bool.not_eq_true, Bool.not_eq_false, Bool.xor_false, Bool.xor_true, Bool.false_xor, Bool.true_xor, Nat.reduceSub, List.dropLast_cons₂, List.dropLast_singleton, decide_eq_true_eq, List.length_map, Nat.zero_le, ein, m]
            rw [if_neg m] at ho
            exact ⟨_, rfl, r', tw, o, rfl, hl5, ho, rfl⟩)
    have : r = [] := List.map_eq_nil_iff.mp hr.symm
    subst this
    simp only [strike] at ho
    refine ⟨_, e, some (.fr (li one)), some (tl tw), ?_⟩
    rw [show o = strike one two by omega]
  have e' : (strike one two) = F c t - Rg c t := by omega
  have eR : (((eqs (zz c t c.length)).length : Nat) : Int) = Rg c t := rfl
  rw [hzo, hzt] at e
  simp only [gsx_ok, gSi_ap, sxf_ok, sxe_ok, sSetIxE_ap, sx0_ok, sExt0_ap, par3_ok, sPar3_ap, kMt_ap, kLenSet_ap, iRange3_ap, opCount_fr, dat_map, opEq_lists, opEq_2, opNe_bl, opEq_bl, datL_map, sTry_ap, tryR_nx, tryR_rt, tryR_ex, hdl_t, hdl_f, handle_nil, handle_ap, asL_list, asL_map, opSum_fr, opSum_lst, opMin_2, opMax_2, opSl_list, opSl_map, opSl_tup, cutL_map, bnd_ok, bnd_ex, ofR_ok, ofR_ex, SZ_eq, kC_ap, slot_c0, slot_cs, kV_ap, frR_ok, kOk_ap, k1_ap, k2_ap, e1_ap, okR_ok, e2a_ok, e2b_ok, e2a_ex, e2b_ex, e2_ap, eMv_ap, cpk_ok, eCp_ap, eFz_ap, kNil_ap, kCons_ap, eNil_ap, ecb_ok, ecb_ex, eca_ok, eca_ex, eCons_ap, eBor_ap, rT_ok, kCall_ap, rE_ok, rE_ex, rA_ok, eCall_ap, takeA_nil, tkc_ok, takeA_own, takeA_bor, putA_nil, putA_own, putA_bor, allF_nil, allF_cons, tV_ap, tVK_ap, tB_ap, tBK_ap, tNot_ap, tan_t, tan_f, tan_ex, tor_t, tor_f, tor_ex, tAnd_ap, tOr_ap, isB_bl, truth_bl, truth_lst, truth_list, truth_int, ean_t, ean_f, eAnd_ap, eor_t, eor_f, eOr_ap, eNot_ap, ifk_t, ifk_f, ifk_ex, eIf_ap, chk_t, chk_f, kCh_ap, kN_ap, eN_ap, ownsA_nil, ownsA_own, kTup_ap, kLst_ap, eTup_ap, eLst_ap, kIsi_ap, kSl_ap, eSl_ap, parI_ok, kPart_ap, kNoPart_ap, kRev_ap, gN_ap, gTp_tup, gCs_cons, gNl_nil, iIt_ap, items_list, items_tuple, iRange1_ap, rg1_ok, iRange2_ap, rg2_ok, tYesF_ap, nxt_nx, nxt_rt, nxt_ex, nxt_bk, nxt_ct, sSeq_ap, sNil_ap, sBk_ap, sCt_ap, sRaise_ap, sExpr_ap, sRet_ap, sRetN_ap, ifs_t, ifs_f, ifs_ex, sIf_ap, sSet_ap, sTgt_ap, kild_nx, kild_ct, kild_rt, kild_bk, kild_ex, kill_ap, wipe_nil, wipe_cons, app0_ok, isLst_ok, sApp0_ap, sFor_ap, sForE_ap, eLc_ap, back_nil, back_cons, bk1_none, bk1_fr, bk1_lst, endD_rt, endD_nx, endD_ex, semD_1, semD_2, semD_3, semD_4, semD_5, semD_6, semD_7, semD_8, outs_nil, outs_cons, frO_fr, opAdd_i, opAddI_i, opSub_i, opMod_i, opFdiv_i, opMul_r, opMul_l, opPow_i, opEq_i, opNe_i, opLt_i, opGt_i, opLe_i, opGe_i, opNeg_i, opLen_list, opLen_tup, opLen_lst, opIx_list, opIx_tup, opIx_lst, frOp_ap, onlyFr_fr, dat_fr, dat_lst, datL_nil, datL_fr, datL_lst, allFr_nil, allFr_cons, asS_list, asS_tup, opList_ap, opTuple_ap, ixN_nat, atI_0, atI_1, atI_2, atI_3, atI_4, atI_map, atI_int, pV_ap, getAt_ap, getP_nil, getP_ix, setAt_ap, setP_nil, setP_ix, pix_ok, pIx_ap, six_ok, sSetIx_ap, pp0_ok, ePop_ap, par2_ok, sPar_ap, aug1_ok, sAug_ap, opIsN_ap, isNoT_none, isNoT_int, isNoT_list, isNoT_tup, isNoT_lst, typT_fr, typT_lst, typD_none, typD_bool, typD_int, typD_str, typD_list, typD_tuple, isa_NoneType_bool, isa_NoneType_int, isa_NoneType_str, isa_NoneType_list, isa_NoneType_tuple, isa_NoneType_dict, isa_bool_bool, isa_bool_int, isa_bool_str, isa_bool_list, isa_bool_tuple, isa_bool_dict, isa_int_bool, isa_int_int, isa_int_str, isa_int_list, isa_int_tuple, isa_int_dict, isa_str_bool, isa_str_int, isa_str_str, isa_str_list, isa_str_tuple, isa_str_dict, isa_list_bool, isa_list_int, isa_list_str, isa_list_list, isa_list_tuple, isa_list_dict, isa_tuple_bool, isa_tuple_int, isa_tuple_str, isa_tuple_list, isa_tuple_tuple, isa_tuple_dict, isa_dict_bool, isa_dict_int, isa_dict_str, isa_dict_list, isa_dict_tuple, isa_dict_dict, opEq_emp, opEq_fe, opIn_ints, Option.bind_some, Option.map_some, List.map_cons, List.map_nil, List.cons_append, List.nil_append, List.append_nil, List.replicate, List.length_cons, List.length_nil, List.set_cons_succ, List.set_cons_zero, Nat.lt_add_one, if_true, if_false, Nat.reduceAdd, Nat.reduceLT, Nat.reduceLeDiff, List.not_mem_nil, List.mem_cons, Nat.reduceEqDiff, or_false, or_true, false_or, true_or, Bool.not_true, Bool.not_false, Bool.false_eq_true, reduceIte, Option.bind_eq_bind, Int.reduceAdd, Int.reduceSub, Int.reduceMul, Int.reduceLT, Int.reduceLE, Int.reduceNeg, Int.cast_ofNat_Int, Int.natCast_one, Int.natCast_zero, Int.reduceEq, Int.reduceNe, Int.toNat_natCast, Int.reduceToNat, Int.reducePow, List.isEmpty_nil, List.isEmpty_cons, List.getElem?_cons_succ, List.getElem?_cons_zero, reduceCtorEq, Nat.succ_eq_add_one, Nat.add_zero, Nat.zero_add, and_self, and_true, true_and, decide_true, decide_false, List.reverse_cons, List.reverse_nil, Option.map_eq_map, Bool.not_eq_true, Bool.not_eq_false, Bool.xor_false, Bool.xor_true, Bool.false_xor, Bool.true_xor, Nat.reduceSub, List.dropLast_cons₂, List.dropLast_singleton, decide_eq_true_eq, List.length_map, Nat.zero_le, e, eR]
  rw [e4]
  simp only [gsx_ok, gSi_ap, sxf_ok, sxe_ok, sSetIxE_ap, sx0_ok, sExt0_ap, par3_ok, sPar3_ap, kMt_ap, kLenSet_ap, iRange3_ap, opCount_fr, dat_map, opEq_lists, opEq_2, opNe_bl, opEq_bl, datL_map, sTry_ap, tryR_nx, tryR_rt, tryR_ex, hdl_t, hdl_f, handle_nil, handle_ap, asL_list, asL_map, opSum_fr, opSum_lst, opMin_2, opMax_2, opSl_list, opSl_map, opSl_tup, cutL_map, bnd_ok, bnd_ex, ofR_ok, ofR_ex, SZ_eq, kC_ap, slot_c0, slot_cs, kV_ap, frR_ok, kOk_ap, k1_ap, k2_ap, e1_ap, okR_ok, e2a_ok, e2b_ok, e2a_ex, e2b_ex, e2_ap, eMv_ap, cpk_ok, eCp_ap, eFz_ap, kNil_ap, kCons_ap, eNil_ap, ecb_ok, ecb_ex, eca_ok, eca_ex, eCons_ap, eBor_ap, rT_ok, kCall_ap, rE_ok, rE_ex, rA_ok, eCall_ap, takeA_nil, tkc_ok, takeA_own, takeA_bor, putA_nil, putA_own, putA_bor, allF_nil, allF_cons, tV_ap, tVK_ap, tB_ap, tBK_ap, tNot_ap, tan_t, tan_f, tan_ex, tor_t, tor_f, tor_ex, tAnd_ap, tOr_ap, isB_bl, truth_bl, truth_lst, truth_list, truth_int, ean_t, ean_f, eAnd_ap, eor_t, eor_f, eOr_ap, eNot_ap, ifk_t, ifk_f, ifk_ex, eIf_ap, chk_t, chk_f, kCh_ap, kN_ap, eN_ap, ownsA_nil, ownsA_own, kTup_ap, kLst_ap, eTup_ap, eLst_ap, kIsi_ap, kSl_ap, eSl_ap, parI_ok, kPart_ap, kNoPart_ap, kRev_ap, gN_ap, gTp_tup, gCs_cons, gNl_nil, iIt_ap, items_list, items_tuple, iRange1_ap, rg1_ok, iRange2_ap, rg2_ok, tYesF_ap, nxt_nx, nxt_rt, nxt_ex, nxt_bk, nxt_ct, sSeq_ap, sNil_ap, sBk_ap, sCt_ap, sRaise_ap, sExpr_ap, sRet_ap, sRetN_ap, ifs_t, ifs_f, ifs_ex, sIf_ap, sSet_ap, sTgt_ap, kild_nx, kild_ct, kild_rt, kild_bk, kild_ex, kill_ap, wipe_nil, wipe_cons, app0_ok, isLst_ok, sApp0_ap, sFor_ap, sForE_ap, eLc_ap, back_nil, back_cons, bk1_none, bk1_fr, bk1_lst, endD_rt, endD_nx, endD_ex, semD_1, semD_2, semD_3, semD_4, semD_5, semD_6, semD_7, semD_8, outs_nil, outs_cons, frO_fr, opAdd_i, opAddI_i, opSub_i, opMod_i, opFdiv_i, opMul_r, opMul_l, opPow_i, opEq_i, opNe_i, opLt_i, opGt_i, opLe_i, opGe_i, opNeg_i, opLen_list, opLen_tup, opLen_lst, opIx_list, opIx_tup, opIx_lst, frOp_ap, onlyFr_fr, dat_fr, dat_lst, datL_nil, datL_fr, datL_lst, allFr_nil, allFr_cons, asS_list, asS_tup, opList_ap, opTuple_ap, ixN_nat, atI_0, atI_1, atI_2, atI_3, atI_4, atI_map, atI_int, pV_ap, getAt_ap, getP_nil, getP_ix, setAt_ap, setP_nil, setP_ix, pix_ok, pIx_ap, six_ok, sSetIx_ap, pp0_ok, ePop_ap, par2_ok, sPar_ap, aug1_ok, sAug_ap, opIsN_ap, isNoT_none, isNoT_int, isNoT_list, isNoT_tup, isNoT_lst, typT_fr, typT_lst, typD_none, typD_bool, typD_int, typD_str, typD_list, typD_tuple, isa_NoneType_bool, isa_NoneType_int, isa_NoneType_str, isa_NoneType_list, isa_NoneType_tuple, isa_NoneType_dict, isa_bool_bool, isa_bool_int, isa_bool_str, isa_bool_list, isa_bool_tuple, isa_bool_dict, isa_int_bool, isa_int_int, isa_int_str, isa_int_list, isa_int_tuple, isa_int_dict, isa_str_bool, isa_str_int, isa_str_str, isa_str_list, isa_str_tuple, isa_str_dict, isa_list_bool, isa_list_int, isa_list_str, isa_list_list, isa_list_tuple, isa_list_dict, isa_tuple_bool, isa_tuple_int, isa_tuple_str, isa_tuple_list, isa_tuple_tuple, isa_tuple_dict, isa_dict_bool, isa_dict_int, isa_dict_str, isa_dict_list, isa_dict_tuple, isa_dict_dict, opEq_emp, opEq_fe, opIn_ints, Option.bind_some, Option.map_some, List.map_cons, List.map_nil, List.cons_append, List.nil_append, List.append_nil, List.replicate, List.length_cons, List.length_nil, List.set_cons_succ, List.set_cons_zero, Nat.lt_add_one, if_true, if_false, Nat.reduceAdd, Nat.reduceLT, Nat.reduceLeDiff, List.not_mem_nil, List.mem_cons, Nat.reduceEqDiff, or_false, or_true, false_or, true_or, Bool.not_true, Bool.not_false, Bool.false_eq_true, reduceIte, Option.bind_eq_bind, Int.reduceAdd, Int.reduceSub, Int.reduceMul, Int.reduceLT, Int.reduceLE, Int.reduceNeg, Int.cast_ofNat_Int, Int.natCast_one, Int.natCast_zero, Int.reduceEq, Int.reduceNe, Int.toNat_natCast, Int.reduceToNat, Int.reducePow, List.isEmpty_nil, List.isEmpty_cons, List.getElem?_cons_succ, List.getElem?_cons_zero, reduceCtorEq, Nat.succ_eq_add_one, Nat.add_zero, Nat.zero_add, and_self, and_true, true_and, decide_true, decide_false, List.reverse_cons, List.reverse_nil, Option.map_eq_map, Bool.not_eq_true, Bool.not_eq_false, Bool.xor_false, Bool.xor_true, Bool.false_xor, Bool.true_xor, Nat.reduceSub, List.dropLast_cons₂, List.dropLast_singleton, decide_eq_true_eq, List.length_map, Nat.zero_le, e']
theorem answer_ok {p b : Int} {c t : List Int} (h : Cd p b c) (ht : Cd p b t) (h0 : 1 ≤ p) (hp : p ≤ 5) (h2 : 2 ≤ b) (hb : b ≤ 10) (hn : ¬ 10000 < nm b p.toNat) :
    answer_sem [.fr (lk p b), .fr (li c), .fr (li t)] = some (.ok (.fr (.tuple [.int (Rg c t), .int (F c t - Rg c t)])) [some (.fr (lk p b)), some (.fr (li c)), some (.fr (li t))]) := by
  unfold answer_sem answer_b
  simp only [gsx_ok, gSi_ap, sxf_ok, sxe_ok, sSetIxE_ap, sx0_ok, sExt0_ap, par3_ok, sPar3_ap, kMt_ap, kLenSet_ap, iRange3_ap, opCount_fr, dat_map, opEq_lists, opEq_2, opNe_bl, opEq_bl, datL_map, sTry_ap, tryR_nx, tryR_rt, tryR_ex, hdl_t, hdl_f, handle_nil, handle_ap, asL_list, asL_map, opSum_fr, opSum_lst, opMin_2, opMax_2, opSl_list, opSl_map, opSl_tup, cutL_map, bnd_ok, bnd_ex, ofR_ok, ofR_ex, SZ_eq, kC_ap, slot_c0, slot_cs, kV_ap, frR_ok, kOk_ap, k1_ap, k2_ap, e1_ap, okR_ok, e2a_ok, e2b_ok, e2a_ex, e2b_ex, e2_ap, eMv_ap, cpk_ok, eCp_ap, eFz_ap, kNil_ap, kCons_ap, eNil_ap, ecb_ok, ecb_ex, eca_ok, eca_ex, eCons_ap, eBor_ap, rT_ok, kCall_ap, rE_ok, rE_ex, rA_ok, eCall_ap, takeA_nil, tkc_ok, takeA_own, takeA_bor, putA_nil, putA_own, putA_bor, allF_nil, allF_cons, tV_ap, tVK_ap, tB_ap, tBK_ap, tNot_ap, tan_t, tan_f, tan_ex, tor_t, tor_f, tor_ex, tAnd_ap, tOr_ap, isB_bl, truth_bl, truth_lst, truth_list, truth_int, ean_t, ean_f, eAnd_ap, eor_t, eor_f, eOr_ap, eNot_ap, ifk_t, ifk_f, ifk_ex, eIf_ap, chk_t, chk_f, kCh_ap, kN_ap, eN_ap, ownsA_nil, ownsA_own, kTup_ap, kLst_ap, eTup_ap, eLst_ap, kIsi_ap, kSl_ap, eSl_ap, parI_ok, kPart_ap, kNoPart_ap, kRev_ap, gN_ap, gTp_tup, gCs_cons, gNl_nil, iIt_ap, items_list, items_tuple, iRange1_ap, rg1_ok, iRange2_ap, rg2_ok, tYesF_ap, nxt_nx, nxt_rt, nxt_ex, nxt_bk, nxt_ct, sSeq_ap, sNil_ap, sBk_ap, sCt_ap, sRaise_ap, sExpr_ap, sRet_ap, sRetN_ap, ifs_t, ifs_f, ifs_ex, sIf_ap, sSet_ap, sTgt_ap, kild_nx, kild_ct, kild_rt, kild_bk, kild_ex, kill_ap, wipe_nil, wipe_cons, app0_ok, isLst_ok, sApp0_ap, sFor_ap, sForE_ap, eLc_ap, back_nil, back_cons, bk1_none, bk1_fr, bk1_lst, endD_rt, endD_nx, endD_ex, semD_1, semD_2, semD_3, semD_4, semD_5, semD_6, semD_7, semD_8, outs_nil, outs_cons, frO_fr, opAdd_i, opAddI_i, opSub_i, opMod_i, opFdiv_i, opMul_r, opMul_l, opPow_i, opEq_i, opNe_i, opLt_i, opGt_i, opLe_i, opGe_i, opNeg_i, opLen_list, opLen_tup, opLen_lst, opIx_list, opIx_tup, opIx_lst, frOp_ap, onlyFr_fr, dat_fr, dat_lst, datL_nil, datL_fr, datL_lst, allFr_nil, allFr_cons, asS_list, asS_tup, opList_ap, opTuple_ap, ixN_nat, atI_0, atI_1, atI_2, atI_3, atI_4, atI_map, atI_int, pV_ap, getAt_ap, getP_nil, getP_ix, setAt_ap, setP_nil, setP_ix, pix_ok, pIx_ap, six_ok, sSetIx_ap, pp0_ok, ePop_ap, par2_ok, sPar_ap, aug1_ok, sAug_ap, opIsN_ap, isNoT_none, isNoT_int, isNoT_list, isNoT_tup, isNoT_lst, typT_fr, typT_lst, typD_none, typD_bool, typD_int, typD_str, typD_list, typD_tuple, isa_NoneType_bool, isa_NoneType_int, isa_NoneType_str, isa_NoneType_list, isa_NoneType_tuple, isa_NoneType_dict, isa_bool_bool, isa_bool_int, isa_bool_str, isa_bool_list, isa_bool_tuple, isa_bool_dict, isa_int_bool, isa_int_int, isa_int_str, isa_int_list, isa_int_tuple, isa_int_dict, isa_str_bool, isa_str_int, isa_str_str, isa_str_list, isa_str_tuple, isa_str_dict, isa_list_bool, isa_list_int, isa_list_str, isa_list_list, isa_list_tuple, isa_list_dict, isa_tuple_bool, isa_tuple_int, isa_tuple_str, isa_tuple_list, isa_tuple_tuple, isa_tuple_dict, isa_dict_bool, isa_dict_int, isa_dict_str, isa_dict_list, isa_dict_tuple, isa_dict_dict, opEq_emp, opEq_fe, opIn_ints, Option.bind_some, Option.map_some, List.map_cons, List.map_nil, List.cons_append, List.nil_append, List.append_nil, List.replicate, List.length_cons, List.length_nil, List.set_cons_succ, List.set_cons_zero, Nat.lt_add_one, if_true, if_false, Nat.reduceAdd, Nat.reduceLT, Nat.reduceLeDiff, List.not_mem_nil, List.mem_cons, Nat.reduceEqDiff, or_false, or_true, false_or, true_or, Bool.not_true, Bool.not_false, Bool.false_eq_true, reduceIte, Option.bind_eq_bind, Int.reduceAdd, Int.reduceSub, Int.reduceMul, Int.reduceLT, Int.reduceLE, Int.reduceNeg, Int.cast_ofNat_Int, Int.natCast_one, Int.natCast_zero, Int.reduceEq, Int.reduceNe, Int.toNat_natCast, Int.reduceToNat, Int.reducePow, List.isEmpty_nil, List.isEmpty_cons, List.getElem?_cons_succ, List.getElem?_cons_zero, reduceCtorEq, Nat.succ_eq_add_one, Nat.add_zero, Nat.zero_add, and_self, and_true, true_and, decide_true, decide_false, List.reverse_cons, List.reverse_nil, Option.map_eq_map, Bool.not_eq_true, Bool.not_eq_false, Bool.xor_false, Bool.xor_true, Bool.false_xor, Bool.true_xor, Nat.reduceSub, List.dropLast_cons₂, List.dropLast_singleton, decide_eq_true_eq, List.length_map, Nat.zero_le, check_lock_ok p b h0 hp h2 hb, check_code_ok h, check_code_ok ht, check_size_ok p b (by omega) hp h2 hb hn, answer_of_ok h ht hp]
end K31

namespace K31
open PySem PySem.Spec PyProof.Rows L2 Lv
theorem mi_comm (a b : Int) : mi a b = mi b a := by unfold mi; split <;> split <;> omega
theorem F_comm (c t : List Int) : F c t = F t c := by unfold F; simp only [mi_comm]
theorem Rg_comm {c t : List Int} (h : c.length = t.length) : Rg c t = Rg t c := by
  unfold Rg eqs zz
  rw [h, List.filter_map, List.filter_map, List.length_map, List.length_map]
  congr 2
  refine List.filter_congr fun i _ => ?_
  simp only [Function.comp, eq_comm]
theorem Rg_full {c t : List Int} (h : c.length = t.length) : Rg c t = c.length ↔ c = t := by
  have hz : (zz c t c.length).length = c.length := by simp [zz]
  constructor
  · intro e
    unfold Rg at e
    have e2 : ((zz c t c.length).filter fun p => decide (p.1 = p.2)).length = (zz c t c.length).length := by
      unfold eqs at e; omega
    have e3 := List.length_filter_eq_length_iff.mp e2
    have e4 : (zz c t c.length).map (·.1) = (zz c t c.length).map (·.2) := List.map_congr_left fun q hq => by simpa using e3 q hq
    rwa [zz_fst, zz_snd h] at e4
  · intro e
    subst e
    unfold Rg eqs
    rw [List.filter_eq_self.mpr, hz]
    intro q hq
    unfold zz at hq
    obtain ⟨i, _, rfl⟩ := List.mem_map.mp hq
    simp
theorem F_self {p b : Int} {c : List Int} (h : Cd p b c) (h2 : b ≤ 10) : F c c - Rg c c = 0 := by
  rw [ans_F h h h2]
  have e : nes (zz c c c.length) = [] := by
    unfold nes
    rw [List.filter_eq_nil_iff]
    intro q hq
    unfold zz at hq
    obtain ⟨i, _, rfl⟩ := List.mem_map.mp hq
    simp
  rw [e]
  simp only [List.map_nil, strike]
  omega
def tail31 : Rho → Option Out := (sSeq (sSet 8 (eFz (eCall law_answer_sem (eCons (kOk (kV 4)) (eCons (eCp 5) eNil)))))
  (sSeq (sIf (tOr (tNot (tV (eCall (law_equal_sem 12) (eCons (eFz (eCall answer_sem (eCons (kOk (kV 2)) (eCons (kOk (kV 4)) (eCons (eCp 5) eNil))))) (eCons (kOk (kV 8)) eNil))))) (tNot (tV (eCall (law_equal_sem 12) (eCons (eFz (eCall answer_sem (eCons (kOk (kV 2)) (eCons (eCp 5) (eCons (kOk (kV 4)) eNil))))) (eCons (kOk (kV 8)) eNil)))))) (sRet (kOk (kC (.bool false)))) sNil)
  (sSeq (sSet 9 (kOk (kC (.int 0))))
  (sSeq law_l2
  (sIf (tOr (tBK (k2 opNe (k2 opAdd (k2 opIx (kV 8) (kC (.int 0))) (k2 opIx (kV 8) (kC (.int 1)))) (kV 9))) (tBK (k2 opNe (k2 opEq (kV 8) (kTup (kCons (k2 opIx (kV 2) (kC (.int 0))) (kCons (kC (.int 0)) kNil)))) (k2 opEq (kV 4) (kV 5))))) (sRet (kOk (kC (.bool false)))) sNil)))))
theorem law_b3_eq : law_b3 = kill [3, 4, 5, 6, 7, 8, 9, 10] (sSeq (sSet 4 (eFz (eCall law_code_sem (eBor 1 (eCons (kOk (kV 2)) eNil)))))
  (sSeq (sSet 5 (eCall law_code_sem (eBor 1 (eCons (kOk (kV 2)) eNil))))
  (sSeq (sIf (tB (e2 opEq (e2 opMod (eCall law_draw_sem (eBor 1 eNil)) (kOk (kC (.int 2)))) (kOk (kC (.int 0))))) (sSeq (sSet 5 (eN opList (eCons (kOk (kV 4)) eNil)))
  (sSeq (sPar 6 7 (eCons (eFz (e2 opMod (eCall law_draw_sem (eBor 1 eNil)) (kOk (k2 opIx (kV 2) (kC (.int 0)))))) (eCons (eFz (e2 opMod (eCall law_draw_sem (eBor 1 eNil)) (kOk (k2 opIx (kV 2) (kC (.int 0)))))) eNil)))
  (sTgt (gTp 2 (gCs (gSi (pV 5) (kV 6)) (gCs (gSi (pV 5) (kV 7)) gNl))) (kOk (kTup (kCons (k2 opIx (kV 5) (kV 7)) (kCons (k2 opIx (kV 5) (kV 6)) kNil))))))) sNil)
  (sSeq (sIf (tB (e2 opEq (e2 opMod (eCall law_draw_sem (eBor 1 eNil)) (kOk (kC (.int 4)))) (kOk (kC (.int 0))))) (sSetIxE 5 (e2 opMod (eCall law_draw_sem (eBor 1 eNil)) (kOk (k2 opIx (kV 2) (kC (.int 0))))) (eFz (e2 opMod (eCall law_draw_sem (eBor 1 eNil)) (kOk (k2 opIx (kV 2) (kC (.int 1))))))) sNil)
  tail31)))) := rfl
theorem l2_ok {p b : Int} {c t : List Int} (h : Cd p b c) (ht : Cd p b t) (o0 o1 o2 o3 o6 o7 o8 o11 o12 : Option T) : law_l2 [o0, o1, o2, o3, some (.fr (li c)), some (.fr (li t)), o6, o7, o8, some (.fr (.int 0)), none, o11, o12] =
    some (.nx [o0, o1, o2, o3, some (.fr (li c)), some (.fr (li t)), o6, o7, o8, some (.fr (.int (F c t))), none, o11, o12]) := by
  unfold law_l2
  obtain ⟨ρ', e, rfl⟩ := for_rng (ρ := [o0, o1, o2, o3, some (.fr (li c)), some (.fr (li t)), o6, o7, o8, some (.fr (.int 0)), none, o11, o12]) (fi := iRange1 (eCons (kOk (kC (.int 10))) eNil)) (g := gN 10) (fb := law_b1) (n := 10) (ρ1 := [o0, o1, o2, o3, some (.fr (li c)), some (.fr (li t)), o6, o7, o8, some (.fr (.int 0)), none, o11, o12])
    (by simp only [gsx_ok, gSi_ap, sxf_ok, sxe_ok, sSetIxE_ap, sx0_ok, sExt0_ap, par3_ok, sPar3_ap, kMt_ap, kLenSet_ap, iRange3_ap, opCount_fr, dat_map, opEq_lists, opEq_2, opNe_bl, opEq_bl, datL_map, sTry_ap, tryR_nx, tryR_rt, tryR_ex, hdl_t, hdl_f, handle_nil, handle_ap, asL_list, asL_map, opSum_fr, opSum_lst, opMin_2, opMax_2, opSl_list, opSl_map, opSl_tup, cutL_map, bnd_ok, bnd_ex, ofR_ok, ofR_ex, SZ_eq, kC_ap, slot_c0, slot_cs, kV_ap, frR_ok, kOk_ap, k1_ap, k2_ap, e1_ap, okR_ok, e2a_ok, e2b_ok, e2a_ex, e2b_ex, e2_ap, eMv_ap, cpk_ok, eCp_ap, eFz_ap, kNil_ap, kCons_ap, eNil_ap, ecb_ok, ecb_ex, eca_ok, eca_ex, eCons_ap, eBor_ap, rT_ok, kCall_ap, rE_ok, rE_ex, rA_ok, eCall_ap, takeA_nil, tkc_ok, takeA_own, takeA_bor, putA_nil, putA_own, putA_bor, allF_nil, allF_cons, tV_ap, tVK_ap, tB_ap, tBK_ap, tNot_ap, tan_t, tan_f, tan_ex, tor_t, tor_f, tor_ex, tAnd_ap, tOr_ap, isB_bl, truth_bl, truth_lst, truth_list, truth_int, ean_t, ean_f, eAnd_ap, eor_t, eor_f, eOr_ap, eNot_ap, ifk_t, ifk_f, ifk_ex, eIf_ap, chk_t, chk_f, kCh_ap, kN_ap, eN_ap, ownsA_nil, ownsA_own, kTup_ap, kLst_ap, eTup_ap, eLst_ap, kIsi_ap, kSl_ap, eSl_ap, parI_ok, kPart_ap, kNoPart_ap, kRev_ap, gN_ap, gTp_tup, gCs_cons, gNl_nil, iIt_ap, items_list, items_tuple, iRange1_ap, rg1_ok, iRange2_ap, rg2_ok, tYesF_ap, nxt_nx, nxt_rt, nxt_ex, nxt_bk, nxt_ct, sSeq_ap, sNil_ap, sBk_ap, sCt_ap, sRaise_ap, sExpr_ap, sRet_ap, sRetN_ap, ifs_t, ifs_f, ifs_ex, sIf_ap, sSet_ap, sTgt_ap, kild_nx, kild_ct, kild_rt, kild_bk, kild_ex, kill_ap, wipe_nil, wipe_cons, app0_ok, isLst_ok, sApp0_ap, sFor_ap, sForE_ap, eLc_ap, back_nil, back_cons, bk1_none, bk1_fr, bk1_lst, endD_rt, endD_nx, endD_ex, semD_1, semD_2, semD_3, semD_4, semD_5, semD_6, semD_7, semD_8, outs_nil, outs_cons, frO_fr, opAdd_i, opAddI_i, opSub_i, opMod_i, opFdiv_i, opMul_r, opMul_l, opPow_i, opEq_i, opNe_i, opLt_i, opGt_i, opLe_i, opGe_i, opNeg_i, opLen_list, opLen_tup, opLen_lst, opIx_list, opIx_tup, opIx_lst, frOp_ap, onlyFr_fr, dat_fr, dat_lst, datL_nil, datL_fr, datL_lst, allFr_nil, allFr_cons, asS_list, asS_tup, opList_ap, opTuple_ap, ixN_nat, atI_0, atI_1, atI_2, atI_3, atI_4, atI_map, atI_int, pV_ap, getAt_ap, getP_nil, getP_ix, setAt_ap, setP_nil, setP_ix, pix_ok, pIx_ap, six_ok, sSetIx_ap, pp0_ok, ePop_ap, par2_ok, sPar_ap, aug1_ok, sAug_ap, opIsN_ap, isNoT_none, isNoT_int, isNoT_list, isNoT_tup, isNoT_lst, typT_fr, typT_lst, typD_none, typD_bool, typD_int, typD_str, typD_list, typD_tuple, isa_NoneType_bool, isa_NoneType_int, isa_NoneType_str, isa_NoneType_list, isa_NoneType_tuple, isa_NoneType_dict, isa_bool_bool, isa_bool_int, isa_bool_str, isa_bool_list, isa_bool_tuple, isa_bool_dict, isa_int_bool, isa_int_int, isa_int_str, isa_int_list, isa_int_tuple, isa_int_dict, isa_str_bool, isa_str_int, isa_str_str, isa_str_list, isa_str_tuple, isa_str_dict, isa_list_bool, isa_list_int, isa_list_str, isa_list_list, isa_list_tuple, isa_list_dict, isa_tuple_bool, isa_tuple_int, isa_tuple_str, isa_tuple_list, isa_tuple_tuple, isa_tuple_dict, isa_dict_bool, isa_dict_int, isa_dict_str, isa_dict_list, isa_dict_tuple, isa_dict_dict, opEq_emp, opEq_fe, opIn_ints, Option.bind_some, Option.map_some, List.map_cons, List.map_nil, List.cons_append, List.nil_append, List.append_nil, List.replicate, List.length_cons, List.length_nil, List.set_cons_succ, List.set_cons_zero, Nat.lt_add_one, if_true, if_false, Nat.reduceAdd, Nat.reduceLT, Nat.reduceLeDiff, List.not_mem_nil, List.mem_cons, Nat.reduceEqDiff, or_false, or_true, false_or, true_or, Bool.not_true, Bool.not_false, Bool.false_eq_true, reduceIte, Option.bind_eq_bind, Int.reduceAdd, Int.reduceSub, Int.reduceMul, Int.reduceLT, Int.reduceLE, Int.reduceNeg, Int.cast_ofNat_Int, Int.natCast_one, Int.natCast_zero, Int.reduceEq, Int.reduceNe, Int.toNat_natCast, Int.reduceToNat, Int.reducePow, List.isEmpty_nil, List.isEmpty_cons, List.getElem?_cons_succ, List.getElem?_cons_zero, reduceCtorEq, Nat.succ_eq_add_one, Nat.add_zero, Nat.zero_add, and_self, and_true, true_and, decide_true, decide_false, List.reverse_cons, List.reverse_nil, Option.map_eq_map, Bool.not_eq_true, Bool.not_eq_false, Bool.xor_false, Bool.xor_true, Bool.false_xor, Bool.true_xor, Nat.reduceSub, List.dropLast_cons₂, List.dropLast_singleton, decide_eq_true_eq, List.length_map, Nat.zero_le])
    (fun k ρ => ρ = [o0, o1, o2, o3, some (.fr (li c)), some (.fr (li t)), o6, o7, o8, some (.fr (.int ((List.range k).map fun i : Nat => mi (c.count (i : Int) : Nat) (t.count (i : Int) : Nat)).sum)), none, o11, o12]) rfl
    (fun k ρ hk e => by
      subst e
      unfold law_b1
      refine ⟨_, ?_, rfl⟩
      rw [List.range_succ, List.map_append, List.sum_append]
      simp only [gsx_ok, gSi_ap, sxf_ok, sxe_ok, sSetIxE_ap, sx0_ok, sExt0_ap, par3_ok, sPar3_ap, kMt_ap, kLenSet_ap, iRange3_ap, opCount_fr, dat_map, opEq_lists, opEq_2, opNe_bl, opEq_bl, datL_map, sTry_ap, tryR_nx, tryR_rt, tryR_ex, hdl_t, hdl_f, handle_nil, handle_ap, asL_list, asL_map, opSum_fr, opSum_lst, opMin_2, opMax_2, opSl_list, opSl_map, opSl_tup, cutL_map, bnd_ok, bnd_ex, ofR_ok, ofR_ex, SZ_eq, kC_ap, slot_c0, slot_cs, kV_ap, frR_ok, kOk_ap, k1_ap, k2_ap, e1_ap, okR_ok, e2a_ok, e2b_ok, e2a_ex, e2b_ex, e2_ap, eMv_ap, cpk_ok, eCp_ap, eFz_ap, kNil_ap, kCons_ap, eNil_ap, ecb_ok, ecb_ex, eca_ok, eca_ex, eCons_ap, eBor_ap, rT_ok, kCall_ap, rE_ok, rE_ex, rA_ok, eCall_ap, takeA_nil, tkc_ok, takeA_own, takeA_bor, putA_nil, putA_own, putA_bor, allF_nil, allF_cons, tV_ap, tVK_ap, tB_ap, tBK_ap, tNot_ap, tan_t, tan_f, tan_ex, tor_t, tor_f, tor_ex, tAnd_ap, tOr_ap, isB_bl, truth_bl, truth_lst, truth_list, truth_int, ean_t, ean_f, eAnd_ap, eor_t, eor_f, eOr_ap, eNot_ap, ifk_t, ifk_f, ifk_ex, eIf_ap, chk_t, chk_f, kCh_ap, kN_ap, eN_ap, ownsA_nil, ownsA_own, kTup_ap, kLst_ap, eTup_ap, eLst_ap, kIsi_ap, kSl_ap, eSl_ap, parI_ok, kPart_ap, kNoPart_ap, kRev_ap, gN_ap, gTp_tup, gCs_cons, gNl_nil, iIt_ap, items_list, items_tuple, iRange1_ap, rg1_ok, iRange2_ap, rg2_ok, tYesF_ap, nxt_nx, nxt_rt, nxt_ex, nxt_bk, nxt_ct, sSeq_ap, sNil_ap, sBk_ap, sCt_ap, sRaise_ap, sExpr_ap, sRet_ap, sRetN_ap, ifs_t, ifs_f, ifs_ex, sIf_ap, sSet_ap, sTgt_ap, kild_nx, kild_ct, kild_rt, kild_bk, kild_ex, kill_ap, wipe_nil, wipe_cons, app0_ok, isLst_ok, sApp0_ap, sFor_ap, sForE_ap, eLc_ap, back_nil, back_cons, bk1_none, bk1_fr, bk1_lst, endD_rt, endD_nx, endD_ex, semD_1, semD_2, semD_3, semD_4, semD_5, semD_6, semD_7, semD_8, outs_nil, outs_cons, frO_fr, opAdd_i, opAddI_i, opSub_i, opMod_i, opFdiv_i, opMul_r, opMul_l, opPow_i, opEq_i, opNe_i, opLt_i, opGt_i, opLe_i, opGe_i, opNeg_i, opLen_list, opLen_tup, opLen_lst, opIx_list, opIx_tup, opIx_lst, frOp_ap, onlyFr_fr, dat_fr, dat_lst, datL_nil, datL_fr, datL_lst, allFr_nil, allFr_cons, asS_list, asS_tup, opList_ap, opTuple_ap, ixN_nat, atI_0, atI_1, atI_2, atI_3, atI_4, atI_map, atI_int, pV_ap, getAt_ap, getP_nil, getP_ix, setAt_ap, setP_nil, setP_ix, pix_ok, pIx_ap, six_ok, sSetIx_ap, pp0_ok, ePop_ap, par2_ok, sPar_ap, aug1_ok, sAug_ap, opIsN_ap, isNoT_none, isNoT_int, isNoT_list, isNoT_tup, isNoT_lst, typT_fr, typT_lst, typD_none, typD_bool, typD_int, typD_str, typD_list, typD_tuple, isa_NoneType_bool, isa_NoneType_int, isa_NoneType_str, isa_NoneType_list, isa_NoneType_tuple, isa_NoneType_dict, isa_bool_bool, isa_bool_int, isa_bool_str, isa_bool_list, isa_bool_tuple, isa_bool_dict, isa_int_bool, isa_int_int, isa_int_str, isa_int_list, isa_int_tuple, isa_int_dict, isa_str_bool, isa_str_int, isa_str_str, isa_str_list, isa_str_tuple, isa_str_dict, isa_list_bool, isa_list_int, isa_list_str, isa_list_list, isa_list_tuple, isa_list_dict, isa_tuple_bool, isa_tuple_int, isa_tuple_str, isa_tuple_list, isa_tuple_tuple, isa_tuple_dict, isa_dict_bool, isa_dict_int, isa_dict_str, isa_dict_list, isa_dict_tuple, isa_dict_dict, opEq_emp, opEq_fe, opIn_ints, Option.bind_some, Option.map_some, List.map_cons, List.map_nil, List.cons_append, List.nil_append, List.append_nil, List.replicate, List.length_cons, List.length_nil, List.set_cons_succ, List.set_cons_zero, Nat.lt_add_one, if_true, if_false, Nat.reduceAdd, Nat.reduceLT, Nat.reduceLeDiff, List.not_mem_nil, List.mem_cons, Nat.reduceEqDiff, or_false, or_true, false_or, true_or, Bool.not_true, Bool.not_false, Bool.false_eq_true, reduceIte, Option.bind_eq_bind, Int.reduceAdd, Int.reduceSub, Int.reduceMul, Int.reduceLT, Int.reduceLE, Int.reduceNeg, Int.cast_ofNat_Int, Int.natCast_one, Int.natCast_zero, Int.reduceEq, Int.reduceNe, Int.toNat_natCast, Int.reduceToNat, Int.reducePow, List.isEmpty_nil, List.isEmpty_cons, List.getElem?_cons_succ, List.getElem?_cons_zero, reduceCtorEq, Nat.succ_eq_add_one, Nat.add_zero, Nat.zero_add, and_self, and_true, true_and, decide_true, decide_false, List.reverse_cons, List.reverse_nil, Option.map_eq_map, Bool.not_eq_true, Bool.not_eq_false, Bool.xor_false, Bool.xor_true, Bool.false_xor, Bool.true_xor, Nat.reduceSub, List.dropLast_cons₂, List.dropLast_singleton, decide_eq_true_eq, List.length_map, Nat.zero_le]
      simp only [List.sum_cons, List.sum_nil, Int.add_zero]
      rfl)
  exact e
theorem tail_ok {p b : Int} {c t : List Int} (h : Cd p b c) (ht : Cd p b t) (h0 : 1 ≤ p) (hp : p ≤ 5) (h2 : 2 ≤ b) (hb : b ≤ 10) (hn : ¬ 10000 < nm b p.toNat) (o0 o1 o3 o6 o7 : Option T) :
    ∃ x8 x9 : T, tail31 [o0, o1, some (.fr (lk p b)), o3, some (.fr (li c)), some (.lst ((t.map PyData.int).map .fr)), o6, o7, none, none, none, none, none] = some (.nx [o0, o1, some (.fr (lk p b)), o3, some (.fr (li c)), some (.fr (li t)), o6, o7, some x8, some x9, none, none, none]) := by
  have hl : c.length = t.length := by have := h.len; have := ht.len; omega
  have E : law_equal_rec 12 0 [.fr (.tuple [.int (Rg c t), .int (F c t - Rg c t)]), .fr (.tuple [.int (Rg c t), .int (F c t - Rg c t)])] = _ := equal_ok 12 _ rfl
  have a2 := answer_ok ht h h0 hp h2 hb hn
  rw [Rg_comm hl.symm, F_comm t c] at a2
  have e1 : Rg c t + (F c t - Rg c t) = F c t := by omega
  have e2 : ((decide (Rg c t = p) && decide (F c t - Rg c t = 0)) != decide (c = t)) = false := by
    by_cases q : c = t
    · subst q
      have r1 : Rg c c = p := by rw [(Rg_full rfl).mpr rfl]; exact h.len
      have r2 := F_self h hb
      simp [r1, r2]
      omega
    · have r1 : ¬ Rg c t = p := fun e => q ((Rg_full hl).mp (by rw [e]; exact h.len.symm))
      simp [r1, q]
  unfold tail31
  refine ⟨.fr (.tuple [.int (Rg c t), .int (F c t - Rg c t)]), .fr (.int (F c t)), ?_⟩
  simp only [gsx_ok, gSi_ap, sxf_ok, sxe_ok, sSetIxE_ap, sx0_ok, sExt0_ap, par3_ok, sPar3_ap, kMt_ap, kLenSet_ap, iRange3_ap, opCount_fr, dat_map, opEq_lists, opEq_2, opNe_bl, opEq_bl, datL_map, sTry_ap, tryR_nx, tryR_rt, tryR_ex, hdl_t, hdl_f, handle_nil, handle_ap, asL_list, asL_map, opSum_fr, opSum_lst, opMin_2, opMax_2, opSl_list, opSl_map, opSl_tup, cutL_map, bnd_ok, bnd_ex, ofR_ok, ofR_ex, SZ_eq, kC_ap, slot_c0, slot_cs, kV_ap, frR_ok, kOk_ap, k1_ap, k2_ap, e1_ap, okR_ok, e2a_ok, e2b_ok, e2a_ex, e2b_ex, e2_ap, eMv_ap, cpk_ok, eCp_ap, eFz_ap, kNil_ap, kCons_ap, eNil_ap, ecb_ok, ecb_ex, eca_ok, eca_ex, eCons_ap, eBor_ap, rT_ok, kCall_ap, rE_ok, rE_ex, rA_ok, eCall_ap, takeA_nil, tkc_ok, takeA_own, takeA_bor, putA_nil, putA_own, putA_bor, allF_nil, allF_cons, tV_ap, tVK_ap, tB_ap, tBK_ap, tNot_ap, tan_t, tan_f, tan_ex, tor_t, tor_f, tor_ex, tAnd_ap, tOr_ap, isB_bl, truth_bl, truth_lst, truth_list, truth_int, ean_t, ean_f, eAnd_ap, eor_t, eor_f, eOr_ap, eNot_ap, ifk_t, ifk_f, ifk_ex, eIf_ap, chk_t, chk_f, kCh_ap, kN_ap, eN_ap, ownsA_nil, ownsA_own, kTup_ap, kLst_ap, eTup_ap, eLst_ap, kIsi_ap, kSl_ap, eSl_ap, parI_ok, kPart_ap, kNoPart_ap, kRev_ap, gN_ap, gTp_tup, gCs_cons, gNl_nil, iIt_ap, items_list, items_tuple, iRange1_ap, rg1_ok, iRange2_ap, rg2_ok, tYesF_ap, nxt_nx, nxt_rt, nxt_ex, nxt_bk, nxt_ct, sSeq_ap, sNil_ap, sBk_ap, sCt_ap, sRaise_ap, sExpr_ap, sRet_ap, sRetN_ap, ifs_t, ifs_f, ifs_ex, sIf_ap, sSet_ap, sTgt_ap, kild_nx, kild_ct, kild_rt, kild_bk, kild_ex, kill_ap, wipe_nil, wipe_cons, app0_ok, isLst_ok, sApp0_ap, sFor_ap, sForE_ap, eLc_ap, back_nil, back_cons, bk1_none, bk1_fr, bk1_lst, endD_rt, endD_nx, endD_ex, semD_1, semD_2, semD_3, semD_4, semD_5, semD_6, semD_7, semD_8, outs_nil, outs_cons, frO_fr, opAdd_i, opAddI_i, opSub_i, opMod_i, opFdiv_i, opMul_r, opMul_l, opPow_i, opEq_i, opNe_i, opLt_i, opGt_i, opLe_i, opGe_i, opNeg_i, opLen_list, opLen_tup, opLen_lst, opIx_list, opIx_tup, opIx_lst, frOp_ap, onlyFr_fr, dat_fr, dat_lst, datL_nil, datL_fr, datL_lst, allFr_nil, allFr_cons, asS_list, asS_tup, opList_ap, opTuple_ap, ixN_nat, atI_0, atI_1, atI_2, atI_3, atI_4, atI_map, atI_int, pV_ap, getAt_ap, getP_nil, getP_ix, setAt_ap, setP_nil, setP_ix, pix_ok, pIx_ap, six_ok, sSetIx_ap, pp0_ok, ePop_ap, par2_ok, sPar_ap, aug1_ok, sAug_ap, opIsN_ap, isNoT_none, isNoT_int, isNoT_list, isNoT_tup, isNoT_lst, typT_fr, typT_lst, typD_none, typD_bool, typD_int, typD_str, typD_list, typD_tuple, isa_NoneType_bool, isa_NoneType_int, isa_NoneType_str, isa_NoneType_list, isa_NoneType_tuple, isa_NoneType_dict, isa_bool_bool, isa_bool_int, isa_bool_str, isa_bool_list, isa_bool_tuple, isa_bool_dict, isa_int_bool, isa_int_int, isa_int_str, isa_int_list, isa_int_tuple, isa_int_dict, isa_str_bool, isa_str_int, isa_str_str, isa_str_list, isa_str_tuple, isa_str_dict, isa_list_bool, isa_list_int, isa_list_str, isa_list_list, isa_list_tuple, isa_list_dict, isa_tuple_bool, isa_tuple_int, isa_tuple_str, isa_tuple_list, isa_tuple_tuple, isa_tuple_dict, isa_dict_bool, isa_dict_int, isa_dict_str, isa_dict_list, isa_dict_tuple, isa_dict_dict, opEq_emp, opEq_fe, opIn_ints, Option.bind_some, Option.map_some, List.map_cons, List.map_nil, List.cons_append, List.nil_append, List.append_nil, List.replicate, List.length_cons, List.length_nil, List.set_cons_succ, List.set_cons_zero, Nat.lt_add_one, if_true, if_false, Nat.reduceAdd, Nat.reduceLT, Nat.reduceLeDiff, List.not_mem_nil, List.mem_cons, Nat.reduceEqDiff, or_false, or_true, false_or, true_or, Bool.not_true, Bool.not_false, Bool.false_eq_true, reduceIte, Option.bind_eq_bind, Int.reduceAdd, Int.reduceSub, Int.reduceMul, Int.reduceLT, Int.reduceLE, Int.reduceNeg, Int.cast_ofNat_Int, Int.natCast_one, Int.natCast_zero, Int.reduceEq, Int.reduceNe, Int.toNat_natCast, Int.reduceToNat, Int.reducePow, List.isEmpty_nil, List.isEmpty_cons, List.getElem?_cons_succ, List.getElem?_cons_zero, reduceCtorEq, Nat.succ_eq_add_one, Nat.add_zero, Nat.zero_add, and_self, and_true, true_and, decide_true, decide_false, List.reverse_cons, List.reverse_nil, Option.map_eq_map, Bool.not_eq_true, Bool.not_eq_false, Bool.xor_false, Bool.xor_true, Bool.false_xor, Bool.true_xor, Nat.reduceSub, List.dropLast_cons₂, List.dropLast_singleton, decide_eq_true_eq, List.length_map, Nat.zero_le, law_answer_ok h ht hp hb, answer_ok h ht h0 hp h2 hb hn, a2, E, l2_ok h ht, e1, e2]
end K31

namespace K31
open PySem PySem.Spec PyProof.Rows L2 Lv
abbrev tl (c : List Int) : T := .lst ((c.map PyData.int).map .fr)
theorem at_tl {c : List Int} {k : Int} (h : 0 ≤ k) (h2 : k < c.length) : atI ((c.map PyData.int).map T.fr) k = some (.fr (.int (c[k.toNat]?.getD 0))) := by
  rw [atI_map, atI_map, atI_int h h2]; rfl
theorem set_tl {c : List Int} {k : Nat} {x : Int} : ((c.map PyData.int).map T.fr).set k (.fr (.int x)) = ((c.set k x).map PyData.int).map T.fr := by
  rw [List.map_set, List.map_set]
theorem cd_set {p b : Int} {c : List Int} (h : Cd p b c) {k : Nat} {x : Int} (hx : 0 ≤ x ∧ x < b) : Cd p b (c.set k x) := by
  refine ⟨by rw [List.length_set]; exact h.len, fun y hy => ?_⟩
  rcases List.mem_or_eq_of_mem_set hy with q | q
  · exact h.dig y q
  · rw [q]; exact hx
theorem cd_get {p b : Int} {c : List Int} (h : Cd p b c) {k : Nat} (hk : k < c.length) : 0 ≤ c[k]?.getD 0 ∧ c[k]?.getD 0 < b := by
  rw [List.getElem?_eq_getElem hk]
  exact h.dig _ (List.getElem_mem hk)
theorem body_ok (ms : List Int) (hm : ∀ m ∈ ms, 0 ≤ m ∧ m < 1000000) {p b : Int} (h0 : 1 ≤ p) (hp : p ≤ 5) (h2 : 2 ≤ b) (hb : b ≤ 10) (hn : ¬ 10000 < nm b p.toNat) (x : T) (i : Int) (hi : 0 ≤ i) (d : D) :
    ∃ i', 0 ≤ i' ∧ law_b3 [some x, some (Dr ms i), some (.fr (lk p b)), some (.fr d), none, none, none, none, none, none, none, none, none] = some (.nx [some x, some (Dr ms i'), some (.fr (lk p b)), none, none, none, none, none, none, none, none, none, none]) := by
  obtain ⟨c, i1, hc, hi1, ec⟩ := code_ok ms hm i p b hi h0 hp h2 hb
  obtain ⟨t, i2, ht, hi2, et⟩ := code_ok ms hm i1 p b hi1 h0 hp h2 hb
  have p0 : 0 < p := by omega
  have b0 : 0 < b := by omega
  have lc := hc.len
  have lt := ht.len
  -- the two changes
  have step1 : ∃ (t1 : List Int) (i3 : Int) (o6 o7 : Option T), Cd p b t1 ∧ 0 ≤ i3 ∧ (sIf (tB (e2 opEq (e2 opMod (eCall law_draw_sem (eBor 1 eNil)) (kOk (kC (.int 2)))) (kOk (kC (.int 0))))) (sSeq (sSet 5 (eN opList (eCons (kOk (kV 4)) eNil)))
      (sSeq (sPar 6 7 (eCons (eFz (e2 opMod (eCall law_draw_sem (eBor 1 eNil)) (kOk (k2 opIx (kV 2) (kC (.int 0)))))) (eCons (eFz (e2 opMod (eCall law_draw_sem (eBor 1 eNil)) (kOk (k2 opIx (kV 2) (kC (.int 0)))))) eNil)))
      (sTgt (gTp 2 (gCs (gSi (pV 5) (kV 6)) (gCs (gSi (pV 5) (kV 7)) gNl))) (kOk (kTup (kCons (k2 opIx (kV 5) (kV 7)) (kCons (k2 opIx (kV 5) (kV 6)) kNil))))))) sNil)
      [some x, some (Dr ms i2), some (.fr (lk p b)), some (.fr d), some (.fr (li c)), some (tl t), none, none, none, none, none, none, none] =
      some (.nx [some x, some (Dr ms i3), some (.fr (lk p b)), some (.fr d), some (.fr (li c)), some (tl t1), o6, o7, none, none, none, none, none]) := by
    by_cases q : dv ms i2 % 2 = 0
    · have j0 : 0 ≤ dv ms (i2 + 1) % p := Int.emod_nonneg _ (by omega)
      have j1 : dv ms (i2 + 1) % p < c.length := by rw [lc]; exact Int.emod_lt_of_pos _ p0
      have j2 : 0 ≤ dv ms (i2 + 1 + 1) % p := Int.emod_nonneg _ (by omega)
      have j3 : dv ms (i2 + 1 + 1) % p < c.length := by rw [lc]; exact Int.emod_lt_of_pos _ p0
      obtain ⟨J, hJ⟩ : ∃ J, dv ms (i2 + 1) % p = J := ⟨_, rfl⟩
      obtain ⟨K, hK⟩ : ∃ K, dv ms (i2 + 1 + 1) % p = K := ⟨_, rfl⟩
      rw [hJ] at j0 j1
      rw [hK] at j2 j3
      have g1 := at_tl j0 j1
      have g2 := at_tl j2 j3
      have w1 : ixN c.length J = some J.toNat := ixN_nat j0 j1
      have w2 : ixN c.length K = some K.toNat := ixN_nat j2 j3
      simp (disch := omega) only [draw_ok, sIf_ap, tB_ap, e2_ap, eCall_ap, eBor_ap, slot_cs, slot_c0, eNil_ap, bnd_ok, takeA_bor, takeA_nil, tkc_ok, rA_ok, rE_ok, putA_bor, putA_nil, List.set_cons_succ, List.set_cons_zero, e2a_ok, kOk_ap, kC_ap, frR_ok, e2b_ok, okR_ok, opMod_i, opEq_i, isB_bl, Option.map_some, q, decide_true, ifs_t,
        sSeq_ap, sSet_ap, eN_ap, eCons_ap, kV_ap, eca_ok, ecb_ok, ownsA_own, ownsA_nil, Option.bind_some, opList_ap, asS_list, ofR_ok, List.length_cons, List.length_nil, Nat.reduceAdd, Nat.reduceLT, if_true, nxt_nx, sPar_ap, eFz_ap, k2_ap, opIx_tup, atI_0, dat_fr, par2_ok, and_self, hJ, hK]
      simp only [sTgt_ap, kOk_ap, kTup_ap, kCons_ap, kNil_ap, k2_ap, kV_ap, slot_cs, slot_c0, Option.bind_some, opIx_lst, g1, g2, Option.map_some, allFr_cons, allFr_nil, List.length_cons, List.length_nil, SZ_eq, Nat.reduceAdd, Nat.reduceLeDiff, if_true, frR_ok, ofR_ok, dat_fr, gTp_tup, gCs_cons, gSi_ap, pV_ap, getAt_ap, getP_nil, gsx_ok, List.length_map, w1, w2, setAt_ap, setP_nil, List.set_cons_succ, List.set_cons_zero, set_tl, List.length_set, gNl_nil]
      exact ⟨_, i2 + 1 + 1 + 1, _, _, cd_set (cd_set hc (cd_get hc (by omega))) (cd_get hc (by omega)), by omega, rfl⟩
    · refine ⟨t, i2 + 1, none, none, ht, by omega, ?_⟩
      simp (disch := omega) only [gsx_ok, gSi_ap, sxf_ok, sxe_ok, sSetIxE_ap, sx0_ok, sExt0_ap, par3_ok, sPar3_ap, kMt_ap, kLenSet_ap, iRange3_ap, opCount_fr, dat_map, opEq_lists, opEq_2, opNe_bl, opEq_bl, datL_map, sTry_ap, tryR_nx, tryR_rt, tryR_ex, hdl_t, hdl_f, handle_nil, handle_ap, asL_list, asL_map, opSum_fr, opSum_lst, opMin_2, opMax_2, opSl_list, opSl_map, opSl_tup, cutL_map, bnd_ok, bnd_ex, ofR_ok, ofR_ex, SZ_eq, kC_ap, slot_c0, slot_cs, kV_ap, frR_ok, kOk_ap, k1_ap, k2_ap, e1_ap, okR_ok, e2a_ok, e2b_ok, e2a_ex, e2b_ex, e2_ap, eMv_ap, cpk_ok, eCp_ap, eFz_ap, kNil_ap, kCons_ap, eNil_ap, ecb_ok, ecb_ex, eca_ok, eca_ex, eCons_ap, eBor_ap, rT_ok, kCall_ap, rE_ok, rE_ex, rA_ok, eCall_ap, takeA_nil, tkc_ok, takeA_own, takeA_bor, putA_nil, putA_own, putA_bor, allF_nil, allF_cons, tV_ap, tVK_ap, tB_ap, tBK_ap, tNot_ap, tan_t, tan_f, tan_ex, tor_t, tor_f, tor_ex, tAnd_ap, tOr_ap, isB_bl, truth_bl, truth_lst, truth_list, truth_int, ean_t, ean_f, eAnd_ap, eor_t, eor_f, eOr_ap, eNot_ap, ifk_t, ifk_f, ifk_ex, eIf_ap, chk_t, chk_f, kCh_ap, kN_ap, eN_ap, ownsA_nil, ownsA_own, kTup_ap, kLst_ap, eTup_ap, eLst_ap, kIsi_ap, kSl_ap, eSl_ap, parI_ok, kPart_ap, kNoPart_ap, kRev_ap, gN_ap, gTp_tup, gCs_cons, gNl_nil, iIt_ap, items_list, items_tuple, iRange1_ap, rg1_ok, iRange2_ap, rg2_ok, tYesF_ap, nxt_nx, nxt_rt, nxt_ex, nxt_bk, nxt_ct, sSeq_ap, sNil_ap, sBk_ap, sCt_ap, sRaise_ap, sExpr_ap, sRet_ap, sRetN_ap, ifs_t, ifs_f, ifs_ex, sIf_ap, sSet_ap, sTgt_ap, kild_nx, kild_ct, kild_rt, kild_bk, kild_ex, kill_ap, wipe_nil, wipe_cons, app0_ok, isLst_ok, sApp0_ap, sFor_ap, sForE_ap, eLc_ap, back_nil, back_cons, bk1_none, bk1_fr, bk1_lst, endD_rt, endD_nx, endD_ex, semD_1, semD_2, semD_3, semD_4, semD_5, semD_6, semD_7, semD_8, outs_nil, outs_cons, frO_fr, opAdd_i, opAddI_i, opSub_i, opMod_i, opFdiv_i, opMul_r, opMul_l, opPow_i, opEq_i, opNe_i, opLt_i, opGt_i, opLe_i, opGe_i, opNeg_i, opLen_list, opLen_tup, opLen_lst, opIx_list, opIx_tup, opIx_lst, frOp_ap, onlyFr_fr, dat_fr, dat_lst, datL_nil, datL_fr, datL_lst, allFr_nil, allFr_cons, asS_list, asS_tup, opList_ap, opTuple_ap, ixN_nat, atI_0, atI_1, atI_2, atI_3, atI_4, atI_map, atI_int, pV_ap, getAt_ap, getP_nil, getP_ix, setAt_ap, setP_nil, setP_ix, pix_ok, pIx_ap, six_ok, sSetIx_ap, pp0_ok, ePop_ap, par2_ok, sPar_ap, aug1_ok, sAug_ap, opIsN_ap, isNoT_none, isNoT_int, isNoT_list, isNoT_tup, isNoT_lst, typT_fr, typT_lst, typD_none, typD_bool, typD_int, typD_str, typD_list, typD_tuple, isa_NoneType_bool, isa_NoneType_int, isa_NoneType_str, isa_NoneType_list, isa_NoneType_tuple, isa_NoneType_dict, isa_bool_bool, isa_bool_int, isa_bool_str, isa_bool_list, isa_bool_tuple, isa_bool_dict, isa_int_bool, isa_int_int, isa_int_str, isa_int_list, isa_int_tuple, isa_int_dict, isa_str_bool, isa_str_int, isa_str_str, isa_str_list, isa_str_tuple, isa_str_dict, isa_list_bool, isa_list_int, isa_list_str, isa_list_list, isa_list_tuple, isa_list_dict, isa_tuple_bool, isa_tuple_int, isa_tuple_str, isa_tuple_list, isa_tuple_tuple, isa_tuple_dict, isa_dict_bool, isa_dict_int, isa_dict_str, isa_dict_list, isa_dict_tuple, isa_dict_dict, opEq_emp, opEq_fe, opIn_ints, Option.bind_some, Option.map_some, List.map_cons, List.map_nil, List.cons_append, List.nil_append, List.append_nil, List.replicate, List.length_cons, List.length_nil, List.set_cons_succ, List.set_cons_zero, Nat.lt_add_one, if_true, if_false, Nat.reduceAdd, Nat.reduceLT, Nat.reduceLeDiff, List.not_mem_nil, List.mem_cons, Nat.reduceEqDiff, or_false, or_true, false_or, true_or, Bool.not_true, Bool.not_false, Bool.false_eq_true, reduceIte, Option.bind_eq_bind, Int.reduceAdd, Int.reduceSub, Int.reduceMul, Int.reduceLT, Int.reduceLE, Int.reduceNeg, Int.cast_ofNat_Int, Int.natCast_one, Int.natCast_zero, Int.reduceEq, Int.reduceNe, Int.toNat_natCast, Int.reduceToNat, Int.reducePow, List.isEmpty_nil, List.isEmpty_cons, List.getElem?_cons_succ, List.getElem?_cons_zero, reduceCtorEq, Nat.succ_eq_add_one, Nat.add_zero, Nat.zero_add, and_self, and_true, true_and, decide_true, decide_false, List.reverse_cons, List.reverse_nil, Option.map_eq_map, Bool.not_eq_true, Bool.not_eq_false, Bool.xor_false, Bool.xor_true, Bool.false_xor, Bool.true_xor, Nat.reduceSub, List.dropLast_cons₂, List.dropLast_singleton, decide_eq_true_eq, List.length_map, Nat.zero_le, draw_ok, q]
  obtain ⟨t1, i3, o6, o7, ht1, hi3, es1⟩ := step1
  have lt1 := ht1.len
  have step2 : ∃ (t2 : List Int) (i4 : Int), Cd p b t2 ∧ 0 ≤ i4 ∧ (sIf (tB (e2 opEq (e2 opMod (eCall law_draw_sem (eBor 1 eNil)) (kOk (kC (.int 4)))) (kOk (kC (.int 0))))) (sSetIxE 5 (e2 opMod (eCall law_draw_sem (eBor 1 eNil)) (kOk (k2 opIx (kV 2) (kC (.int 0))))) (eFz (e2 opMod (eCall law_draw_sem (eBor 1 eNil)) (kOk (k2 opIx (kV 2) (kC (.int 1))))))) sNil)
      [some x, some (Dr ms i3), some (.fr (lk p b)), some (.fr d), some (.fr (li c)), some (tl t1), o6, o7, none, none, none, none, none] =
      some (.nx [some x, some (Dr ms i4), some (.fr (lk p b)), some (.fr d), some (.fr (li c)), some (tl t2), o6, o7, none, none, none, none, none]) := by
    by_cases q : dv ms i3 % 4 = 0
    · have j0 : 0 ≤ dv ms (i3 + 1 + 1) % p := Int.emod_nonneg _ (by omega)
      have j1 : dv ms (i3 + 1 + 1) % p < t1.length := by rw [lt1]; exact Int.emod_lt_of_pos _ p0
      have w1 := ixN_nat j0 j1
      have hx : 0 ≤ dv ms (i3 + 1) % b ∧ dv ms (i3 + 1) % b < b := ⟨Int.emod_nonneg _ (by omega), Int.emod_lt_of_pos _ b0⟩
      refine ⟨_, i3 + 1 + 1 + 1, cd_set ht1 (k := (dv ms (i3 + 1 + 1) % p).toNat) hx, by omega, ?_⟩
      simp (disch := omega) only [gsx_ok, gSi_ap, sxf_ok, sxe_ok, sSetIxE_ap, sx0_ok, sExt0_ap, par3_ok, sPar3_ap, kMt_ap, kLenSet_ap, iRange3_ap, opCount_fr, dat_map, opEq_lists, opEq_2, opNe_bl, opEq_bl, datL_map, sTry_ap, tryR_nx, tryR_rt, tryR_ex, hdl_t, hdl_f, handle_nil, handle_ap, asL_list, asL_map, opSum_fr, opSum_lst, opMin_2, opMax_2, opSl_list, opSl_map, opSl_tup, cutL_map, bnd_ok, bnd_ex, ofR_ok, ofR_ex, SZ_eq, kC_ap, slot_c0, slot_cs, kV_ap, frR_ok, kOk_ap, k1_ap, k2_ap, e1_ap, okR_ok, e2a_ok, e2b_ok, e2a_ex, e2b_ex, e2_ap, eMv_ap, cpk_ok, eCp_ap, eFz_ap, kNil_ap, kCons_ap, eNil_ap, ecb_ok, ecb_ex, eca_ok, eca_ex, eCons_ap, eBor_ap, rT_ok, kCall_ap, rE_ok, rE_ex, rA_ok, eCall_ap, takeA_nil, tkc_ok, takeA_own, takeA_bor, putA_nil, putA_own, putA_bor, allF_nil, allF_cons, tV_ap, tVK_ap, tB_ap, tBK_ap, tNot_ap, tan_t, tan_f, tan_ex, tor_t, tor_f, tor_ex, tAnd_ap, tOr_ap, isB_bl, truth_bl, truth_lst, truth_list, truth_int, ean_t, ean_f, eAnd_ap, eor_t, eor_f, eOr_ap, eNot_ap, ifk_t, ifk_f, ifk_ex, eIf_ap, chk_t, chk_f, kCh_ap, kN_ap, eN_ap, ownsA_nil, ownsA_own, kTup_ap, kLst_ap, eTup_ap, eLst_ap, kIsi_ap, kSl_ap, eSl_ap, parI_ok, kPart_ap, kNoPart_ap, kRev_ap, gN_ap, gTp_tup, gCs_cons, gNl_nil, iIt_ap, items_list, items_tuple, iRange1_ap, rg1_ok, iRange2_ap, rg2_ok, tYesF_ap, nxt_nx, nxt_rt, nxt_ex, nxt_bk, nxt_ct, sSeq_ap, sNil_ap, sBk_ap, sCt_ap, sRaise_ap, sExpr_ap, sRet_ap, sRetN_ap, ifs_t, ifs_f, ifs_ex, sIf_ap, sSet_ap, sTgt_ap, kild_nx, kild_ct, kild_rt, kild_bk, kild_ex, kill_ap, wipe_nil, wipe_cons, app0_ok, isLst_ok, sApp0_ap, sFor_ap, sForE_ap, eLc_ap, back_nil, back_cons, bk1_none, bk1_fr, bk1_lst, endD_rt, endD_nx, endD_ex, semD_1, semD_2, semD_3, semD_4, semD_5, semD_6, semD_7, semD_8, outs_nil, outs_cons, frO_fr, opAdd_i, opAddI_i, opSub_i, opMod_i, opFdiv_i, opMul_r, opMul_l, opPow_i, opEq_i, opNe_i, opLt_i, opGt_i, opLe_i, opGe_i, opNeg_i, opLen_list, opLen_tup, opLen_lst, opIx_list, opIx_tup, opIx_lst, frOp_ap, onlyFr_fr, dat_fr, dat_lst, datL_nil, datL_fr, datL_lst, allFr_nil, allFr_cons, asS_list, asS_tup, opList_ap, opTuple_ap, ixN_nat, atI_0, atI_1, atI_2, atI_3, atI_4, atI_map, atI_int, pV_ap, getAt_ap, getP_nil, getP_ix, setAt_ap, setP_nil, setP_ix, pix_ok, pIx_ap, six_ok, sSetIx_ap, pp0_ok, ePop_ap, par2_ok, sPar_ap, aug1_ok, sAug_ap, opIsN_ap, isNoT_none, isNoT_int, isNoT_list, isNoT_tup, isNoT_lst, typT_fr, typT_lst, typD_none, typD_bool, typD_int, typD_str, typD_list, typD_tuple, isa_NoneType_bool, isa_NoneType_int, isa_NoneType_str, isa_NoneType_list, isa_NoneType_tuple, isa_NoneType_dict, isa_bool_bool, isa_bool_int, isa_bool_str, isa_bool_list, isa_bool_tuple, isa_bool_dict, isa_int_bool, isa_int_int, isa_int_str, isa_int_list, isa_int_tuple, isa_int_dict, isa_str_bool, isa_str_int, isa_str_str, isa_str_list, isa_str_tuple, isa_str_dict, isa_list_bool, isa_list_int, isa_list_str, isa_list_list, isa_list_tuple, isa_list_dict, isa_tuple_bool, isa_tuple_int, isa_tuple_str, isa_tuple_list, isa_tuple_tuple, isa_tuple_dict, isa_dict_bool, isa_dict_int, isa_dict_str, isa_dict_list, isa_dict_tuple, isa_dict_dict, opEq_emp, opEq_fe, opIn_ints, Option.bind_some, Option.map_some, List.map_cons, List.map_nil, List.cons_append, List.nil_append, List.append_nil, List.replicate, List.length_cons, List.length_nil, List.set_cons_succ, List.set_cons_zero, Nat.lt_add_one, if_true, if_false, Nat.reduceAdd, Nat.reduceLT, Nat.reduceLeDiff, List.not_mem_nil, List.mem_cons, Nat.reduceEqDiff, or_false, or_true, false_or, true_or, Bool.not_true, Bool.not_false, Bool.false_eq_true, reduceIte, Option.bind_eq_bind, Int.reduceAdd, Int.reduceSub, Int.reduceMul, Int.reduceLT, Int.reduceLE, Int.reduceNeg, Int.cast_ofNat_Int, Int.natCast_one, Int.natCast_zero, Int.reduceEq, Int.reduceNe, Int.toNat_natCast, Int.reduceToNat, Int.reducePow, List.isEmpty_nil, List.isEmpty_cons, List.getElem?_cons_succ, List.getElem?_cons_zero, reduceCtorEq, Nat.succ_eq_add_one, Nat.add_zero, Nat.zero_add, and_self, and_true, true_and, decide_true, decide_false, List.reverse_cons, List.reverse_nil, Option.map_eq_map, Bool.not_eq_true, Bool.not_eq_false, Bool.xor_false, Bool.xor_true, Bool.false_xor, Bool.true_xor, Nat.reduceSub, List.dropLast_cons₂, List.dropLast_singleton, decide_eq_true_eq, List.length_map, Nat.zero_le, draw_ok, q, opMod_i p0, opMod_i b0, w1, set_tl]
    · refine ⟨t1, i3 + 1, ht1, by omega, ?_⟩
      simp (disch := omega) only [gsx_ok, gSi_ap, sxf_ok, sxe_ok, sSetIxE_ap, sx0_ok, sExt0_ap, par3_ok, sPar3_ap, kMt_ap, kLenSet_ap, iRange3_ap, opCount_fr, dat_map, opEq_lists, opEq_2, opNe_bl, opEq_bl, datL_map, sTry_ap, tryR_nx, tryR_rt, tryR_ex, hdl_t, hdl_f, handle_nil, handle_ap, asL_list, asL_map, opSum_fr, opSum_lst, opMin_2, opMax_2, opSl_list, opSl_map, opSl_tup, cutL_map, bnd_ok, bnd_ex, ofR_ok, ofR_ex, SZ_eq, kC_ap, slot_c0, slot_cs, kV_ap, frR_ok, kOk_ap, k1_ap, k2_ap, e1_ap, okR_ok, e2a_ok, e2b_ok, e2a_ex, e2b_ex, e2_ap, eMv_ap, cpk_ok, eCp_ap, eFz_ap, kNil_ap, kCons_ap, eNil_ap, ecb_ok, ecb_ex, eca_ok, eca_ex, eCons_ap, eBor_ap, rT_ok, kCall_ap, rE_ok, rE_ex, rA_ok, eCall_ap, takeA_nil, tkc_ok, takeA_own, takeA_bor, putA_nil, putA_own, putA_bor, allF_nil, allF_cons, tV_ap, tVK_ap, tB_ap, tBK_ap, tNot_ap, tan_t, tan_f, tan_ex, tor_t, tor_f, tor_ex, tAnd_ap, tOr_ap, isB_bl, truth_bl, truth_lst, truth_list, truth_int, ean_t, ean_f, eAnd_ap, eor_t, eor_f, eOr_ap, eNot_ap, ifk_t, ifk_f, ifk_ex, eIf_ap, chk_t, chk_f, kCh_ap, kN_ap, eN_ap, ownsA_nil, ownsA_own, kTup_ap, kLst_ap, eTup_ap, eLst_ap, kIsi_ap, kSl_ap, eSl_ap, parI_ok, kPart_ap, kNoPart_ap, kRev_ap, gN_ap, gTp_tup, gCs_cons, gNl_nil, iIt_ap, items_list, items_tuple, iRange1_ap, rg1_ok, iRange2_ap, rg2_ok, tYesF_ap, nxt_nx, nxt_rt, nxt_ex, nxt_bk, nxt_ct, sSeq_ap, sNil_ap, sBk_ap, sCt_ap, sRaise_ap, sExpr_ap, sRet_ap, sRetN_ap, ifs_t, ifs_f, ifs_ex, sIf_ap, sSet_ap, sTgt_ap, kild_nx, kild_ct, kild_rt, kild_bk, kild_ex, kill_ap, wipe_nil, wipe_cons, app0_ok, isLst_ok, sApp0_ap, sFor_ap, sForE_ap, eLc_ap, back_nil, back_cons, bk1_none, bk1_fr, bk1_lst, endD_rt, endD_nx, endD_ex, semD_1, semD_2, semD_3, semD_4, semD_5, semD_6, semD_7, semD_8, outs_nil, outs_cons, frO_fr, opAdd_i, opAddI_i, opSub_i, opMod_i, opFdiv_i, opMul_r, opMul_l, opPow_i, opEq_i, opNe_i, opLt_i, opGt_i, opLe_i, opGe_i, opNeg_i, opLen_list, opLen_tup, opLen_lst, opIx_list, opIx_tup, opIx_lst, frOp_ap, onlyFr_fr, dat_fr, dat_lst, datL_nil, datL_fr, datL_lst, allFr_nil, allFr_cons, asS_list, asS_tup, opList_ap, opTuple_ap, ixN_nat, atI_0, atI_1, atI_2, atI_3, atI_4, atI_map, atI_int, pV_ap, getAt_ap, getP_nil, getP_ix, setAt_ap, setP_nil, setP_ix, pix_ok, pIx_ap, six_ok, sSetIx_ap, pp0_ok, ePop_ap, par2_ok, sPar_ap, aug1_ok, sAug_ap, opIsN_ap, isNoT_none, isNoT_int, isNoT_list, isNoT_tup, isNoT_lst, typT_fr, typT_lst, typD_none, typD_bool, typD_int, typD_str, typD_list, typD_tuple, isa_NoneType_bool, isa_NoneType_int, isa_NoneType_str, isa_NoneType_list, isa_NoneType_tuple, isa_NoneType_dict, isa_bool_bool, isa_bool_int, isa_bool_str, isa_bool_list, isa_bool_tuple, isa_bool_dict, isa_int_bool, isa_int_int, isa_int_str, isa_int_list, isa_int_tuple, isa_int_dict, isa_str_bool, isa_str_int, isa_str_str, isa_str_list, isa_str_tuple, isa_str_dict, isa_list_bool, isa_list_int, isa_list_str, isa_list_list, isa_list_tuple, isa_list_dict, isa_tuple_bool, isa_tuple_int, isa_tuple_str, isa_tuple_list, isa_tuple_tuple, isa_tuple_dict, isa_dict_bool, isa_dict_int, isa_dict_str, isa_dict_list, isa_dict_tuple, isa_dict_dict, opEq_emp, opEq_fe, opIn_ints, Option.bind_some, Option.map_some, List.map_cons, List.map_nil, List.cons_append, List.nil_append, List.append_nil, List.replicate, List.length_cons, List.length_nil, List.set_cons_succ, List.set_cons_zero, Nat.lt_add_one, if_true, if_false, Nat.reduceAdd, Nat.reduceLT, Nat.reduceLeDiff, List.not_mem_nil, List.mem_cons, Nat.reduceEqDiff, or_false, or_true, false_or, true_or, Bool.not_true, Bool.not_false, Bool.false_eq_true, reduceIte, Option.bind_eq_bind, Int.reduceAdd, Int.reduceSub, Int.reduceMul, Int.reduceLT, Int.reduceLE, Int.reduceNeg, Int.cast_ofNat_Int, Int.natCast_one, Int.natCast_zero, Int.reduceEq, Int.reduceNe, Int.toNat_natCast, Int.reduceToNat, Int.reducePow, List.isEmpty_nil, List.isEmpty_cons, List.getElem?_cons_succ, List.getElem?_cons_zero, reduceCtorEq, Nat.succ_eq_add_one, Nat.add_zero, Nat.zero_add, and_self, and_true, true_and, decide_true, decide_false, List.reverse_cons, List.reverse_nil, Option.map_eq_map, Bool.not_eq_true, Bool.not_eq_false, Bool.xor_false, Bool.xor_true, Bool.false_xor, Bool.true_xor, Nat.reduceSub, List.dropLast_cons₂, List.dropLast_singleton, decide_eq_true_eq, List.length_map, Nat.zero_le, draw_ok, q]
  obtain ⟨t2, i4, ht2, hi4, es2⟩ := step2
  obtain ⟨x8, x9, e5⟩ := tail_ok hc ht2 h0 hp h2 hb hn (some x) (some (Dr ms i4)) (some (.fr d)) o6 o7
  refine ⟨i4, hi4, ?_⟩
  rw [law_b3_eq]
  simp only [gsx_ok, gSi_ap, sxf_ok, sxe_ok, sSetIxE_ap, sx0_ok, sExt0_ap, par3_ok, sPar3_ap, kMt_ap, kLenSet_ap, iRange3_ap, opCount_fr, dat_map, opEq_lists, opEq_2, opNe_bl, opEq_bl, datL_map, sTry_ap, tryR_nx, tryR_rt, tryR_ex, hdl_t, hdl_f, handle_nil, handle_ap, asL_list, asL_map, opSum_fr, opSum_lst, opMin_2, opMax_2, opSl_list, opSl_map, opSl_tup, cutL_map, bnd_ok, bnd_ex, ofR_ok, ofR_ex, SZ_eq, kC_ap, slot_c0, slot_cs, kV_ap, frR_ok, kOk_ap, k1_ap, k2_ap, e1_ap, okR_ok, e2a_ok, e2b_ok, e2a_ex, e2b_ex, e2_ap, eMv_ap, cpk_ok, eCp_ap, eFz_ap, kNil_ap, kCons_ap, eNil_ap, ecb_ok, ecb_ex, eca_ok, eca_ex, eCons_ap, eBor_ap, rT_ok, kCall_ap, rE_ok, rE_ex, rA_ok, eCall_ap, takeA_nil, tkc_ok, takeA_own, takeA_bor, putA_nil, putA_own, putA_bor, allF_nil, allF_cons, tV_ap, tVK_ap, tB_ap, tBK_ap, tNot_ap, tan_t, tan_f, tan_ex, tor_t, tor_f, tor_ex, tAnd_ap, tOr_ap, isB_bl, truth_bl, truth_lst, truth_list, truth_int, ean_t, ean_f, eAnd_ap, eor_t, eor_f, eOr_ap, eNot_ap, ifk_t, ifk_f, ifk_ex, eIf_ap, chk_t, chk_f, kCh_ap, kN_ap, eN_ap, ownsA_nil, ownsA_own, kTup_ap, kLst_ap, eTup_ap, eLst_ap, kIsi_ap, kSl_ap, eSl_ap, parI_ok, kPart_ap, kNoPart_ap, kRev_ap, gN_ap, gTp_tup, gCs_cons, gNl_nil, iIt_ap, items_list, items_tuple, iRange1_ap, rg1_ok, iRange2_ap, rg2_ok, tYesF_ap, nxt_nx, nxt_rt, nxt_ex, nxt_bk, nxt_ct, sSeq_ap, sNil_ap, sBk_ap, sCt_ap, sRaise_ap, sExpr_ap, sRet_ap, sRetN_ap, ifs_t, ifs_f, ifs_ex, sIf_ap, sSet_ap, sTgt_ap, kild_nx, kild_ct, kild_rt, kild_bk, kild_ex, kill_ap, wipe_nil, wipe_cons, app0_ok, isLst_ok, sApp0_ap, sFor_ap, sForE_ap, eLc_ap, back_nil, back_cons, bk1_none, bk1_fr, bk1_lst, endD_rt, endD_nx, endD_ex, semD_1, semD_2, semD_3, semD_4, semD_5, semD_6, semD_7, semD_8, outs_nil, outs_cons, frO_fr, opAdd_i, opAddI_i, opSub_i, opMod_i, opFdiv_i, opMul_r, opMul_l, opPow_i, opEq_i, opNe_i, opLt_i, opGt_i, opLe_i, opGe_i, opNeg_i, opLen_list, opLen_tup, opLen_lst, opIx_list, opIx_tup, opIx_lst, frOp_ap, onlyFr_fr, dat_fr, dat_lst, datL_nil, datL_fr, datL_lst, allFr_nil, allFr_cons, asS_list, asS_tup, opList_ap, opTuple_ap, ixN_nat, atI_0, atI_1, atI_2, atI_3, atI_4, atI_map, atI_int, pV_ap, getAt_ap, getP_nil, getP_ix, setAt_ap, setP_nil, setP_ix, pix_ok, pIx_ap, six_ok, sSetIx_ap, pp0_ok, ePop_ap, par2_ok, sPar_ap, aug1_ok, sAug_ap, opIsN_ap, isNoT_none, isNoT_int, isNoT_list, isNoT_tup, isNoT_lst, typT_fr, typT_lst, typD_none, typD_bool, typD_int, typD_str, typD_list, typD_tuple, isa_NoneType_bool, isa_NoneType_int, isa_NoneType_str, isa_NoneType_list, isa_NoneType_tuple, isa_NoneType_dict, isa_bool_bool, isa_bool_int, isa_bool_str, isa_bool_list, isa_bool_tuple, isa_bool_dict, isa_int_bool, isa_int_int, isa_int_str, isa_int_list, isa_int_tuple, isa_int_dict, isa_str_bool, isa_str_int, isa_str_str, isa_str_list, isa_str_tuple, isa_str_dict, isa_list_bool, isa_list_int, isa_list_str, isa_list_list, isa_list_tuple, isa_list_dict, isa_tuple_bool, isa_tuple_int, isa_tuple_str, isa_tuple_list, isa_tuple_tuple, isa_tuple_dict, isa_dict_bool, isa_dict_int, isa_dict_str, isa_dict_list, isa_dict_tuple, isa_dict_dict, opEq_emp, opEq_fe, opIn_ints, Option.bind_some, Option.map_some, List.map_cons, List.map_nil, List.cons_append, List.nil_append, List.append_nil, List.replicate, List.length_cons, List.length_nil, List.set_cons_succ, List.set_cons_zero, Nat.lt_add_one, if_true, if_false, Nat.reduceAdd, Nat.reduceLT, Nat.reduceLeDiff, List.not_mem_nil, List.mem_cons, Nat.reduceEqDiff, or_false, or_true, false_or, true_or, Bool.not_true, Bool.not_false, Bool.false_eq_true, reduceIte, Option.bind_eq_bind, Int.reduceAdd, Int.reduceSub, Int.reduceMul, Int.reduceLT, Int.reduceLE, Int.reduceNeg, Int.cast_ofNat_Int, Int.natCast_one, Int.natCast_zero, Int.reduceEq, Int.reduceNe, Int.toNat_natCast, Int.reduceToNat, Int.reducePow, List.isEmpty_nil, List.isEmpty_cons, List.getElem?_cons_succ, List.getElem?_cons_zero, reduceCtorEq, Nat.succ_eq_add_one, Nat.add_zero, Nat.zero_add, and_self, and_true, true_and, decide_true, decide_false, List.reverse_cons, List.reverse_nil, Option.map_eq_map, Bool.not_eq_true, Bool.not_eq_false, Bool.xor_false, Bool.xor_true, Bool.false_xor, Bool.true_xor, Nat.reduceSub, List.dropLast_cons₂, List.dropLast_singleton, decide_eq_true_eq, List.length_map, Nat.zero_le, ec, et, ↓es1, ↓es2, ↓e5]
end K31

namespace K31
open PySem PySem.Spec PyProof.Rows L2 Lv
theorem fold_Dr {ms : List Int} {i : Int} : T.lst [.fr (.list (ms.map .int)), .fr (.int i)] = Dr ms i := rfl
theorem x1 : exLook exTab "BadCode" "BadCode" = some true := by decide +kernel
theorem refused_a (p b : Int) (h0 : 1 ≤ p) (hp : p ≤ 5) (h2 : 2 ≤ b) (hb : b ≤ 10) (w v : D) (h : ∃ os, is_code_sem [.fr (lk p b), .fr w] = some (.ok (.fr (.bool false)) os)) : ∃ os, law_refused_sem [.fr (lk p b), .fr w, .fr v] = some (.ok (.fr (.str "code")) os) := by
  have e : answer_sem [.fr (lk p b), .fr w, .fr v] = some (.ex "BadCode") := by
    unfold answer_sem answer_b
    simp only [gsx_ok, gSi_ap, sxf_ok, sxe_ok, sSetIxE_ap, sx0_ok, sExt0_ap, par3_ok, sPar3_ap, kMt_ap, kLenSet_ap, iRange3_ap, opCount_fr, dat_map, opEq_lists, opEq_2, opNe_bl, opEq_bl, datL_map, sTry_ap, tryR_nx, tryR_rt, tryR_ex, hdl_t, hdl_f, handle_nil, handle_ap, asL_list, asL_map, opSum_fr, opSum_lst, opMin_2, opMax_2, opSl_list, opSl_map, opSl_tup, cutL_map, bnd_ok, bnd_ex, ofR_ok, ofR_ex, SZ_eq, kC_ap, slot_c0, slot_cs, kV_ap, frR_ok, kOk_ap, k1_ap, k2_ap, e1_ap, okR_ok, e2a_ok, e2b_ok, e2a_ex, e2b_ex, e2_ap, eMv_ap, cpk_ok, eCp_ap, eFz_ap, kNil_ap, kCons_ap, eNil_ap, ecb_ok, ecb_ex, eca_ok, eca_ex, eCons_ap, eBor_ap, rT_ok, kCall_ap, rE_ok, rE_ex, rA_ok, eCall_ap, takeA_nil, tkc_ok, takeA_own, takeA_bor, putA_nil, putA_own, putA_bor, allF_nil, allF_cons, tV_ap, tVK_ap, tB_ap, tBK_ap, tNot_ap, tan_t, tan_f, tan_ex, tor_t, tor_f, tor_ex, tAnd_ap, tOr_ap, isB_bl, truth_bl, truth_lst, truth_list, truth_int, ean_t, ean_f, eAnd_ap, eor_t, eor_f, eOr_ap, eNot_ap, ifk_t, ifk_f, ifk_ex, eIf_ap, chk_t, chk_f, kCh_ap, kN_ap, eN_ap, ownsA_nil, ownsA_own, kTup_ap, kLst_ap, eTup_ap, eLst_ap, kIsi_ap, kSl_ap, eSl_ap, parI_ok, kPart_ap, kNoPart_ap, kRev_ap, gN_ap, gTp_tup, gCs_cons, gNl_nil, iIt_ap, items_list, items_tuple, iRange1_ap, rg1_ok, iRange2_ap, rg2_ok, tYesF_ap, nxt_nx, nxt_rt, nxt_ex, nxt_bk, nxt_ct, sSeq_ap, sNil_ap, sBk_ap, sCt_ap, sRaise_ap, sExpr_ap, sRet_ap, sRetN_ap, ifs_t, ifs_f, ifs_ex, sIf_ap, sSet_ap, sTgt_ap, kild_nx, kild_ct, kild_rt, kild_bk, kild_ex, kill_ap, wipe_nil, wipe_cons, app0_ok, isLst_ok, sApp0_ap, sFor_ap, sForE_ap, eLc_ap, back_nil, back_cons, bk1_none, bk1_fr, bk1_lst, endD_rt, endD_nx, endD_ex, semD_1, semD_2, semD_3, semD_4, semD_5, semD_6, semD_7, semD_8, outs_nil, outs_cons, frO_fr, opAdd_i, opAddI_i, opSub_i, opMod_i, opFdiv_i, opMul_r, opMul_l, opPow_i, opEq_i, opNe_i, opLt_i, opGt_i, opLe_i, opGe_i, opNeg_i, opLen_list, opLen_tup, opLen_lst, opIx_list, opIx_tup, opIx_lst, frOp_ap, onlyFr_fr, dat_fr, dat_lst, datL_nil, datL_fr, datL_lst, allFr_nil, allFr_cons, asS_list, asS_tup, opList_ap, opTuple_ap, ixN_nat, atI_0, atI_1, atI_2, atI_3, atI_4, atI_map, atI_int, pV_ap, getAt_ap, getP_nil, getP_ix, setAt_ap, setP_nil, setP_ix, pix_ok, pIx_ap, six_ok, sSetIx_ap, pp0_ok, ePop_ap, par2_ok, sPar_ap, aug1_ok, sAug_ap, opIsN_ap, isNoT_none, isNoT_int, isNoT_list, isNoT_tup, isNoT_lst, typT_fr, typT_lst, typD_none, typD_bool, typD_int, typD_str, typD_list, typD_tuple, isa_NoneType_bool, isa_NoneType_int, isa_NoneType_str, isa_NoneType_list, isa_NoneType_tuple, isa_NoneType_dict, isa_bool_bool, isa_bool_int, isa_bool_str, isa_bool_list, isa_bool_tuple, isa_bool_dict, isa_int_bool, isa_int_int, isa_int_str, isa_int_list, isa_int_tuple, isa_int_dict, isa_str_bool, isa_str_int, isa_str_str, isa_str_list, isa_str_tuple, isa_str_dict, isa_list_bool, isa_list_int, isa_list_str, isa_list_list, isa_list_tuple, isa_list_dict, isa_tuple_bool, isa_tuple_int, isa_tuple_str, isa_tuple_list, isa_tuple_tuple, isa_tuple_dict, isa_dict_bool, isa_dict_int, isa_dict_str, isa_dict_list, isa_dict_tuple, isa_dict_dict, opEq_emp, opEq_fe, opIn_ints, Option.bind_some, Option.map_some, List.map_cons, List.map_nil, List.cons_append, List.nil_append, List.append_nil, List.replicate, List.length_cons, List.length_nil, List.set_cons_succ, List.set_cons_zero, Nat.lt_add_one, if_true, if_false, Nat.reduceAdd, Nat.reduceLT, Nat.reduceLeDiff, List.not_mem_nil, List.mem_cons, Nat.reduceEqDiff, or_false, or_true, false_or, true_or, Bool.not_true, Bool.not_false, Bool.false_eq_true, reduceIte, Option.bind_eq_bind, Int.reduceAdd, Int.reduceSub, Int.reduceMul, Int.reduceLT, Int.reduceLE, Int.reduceNeg, Int.cast_ofNat_Int, Int.natCast_one, Int.natCast_zero, Int.reduceEq, Int.reduceNe, Int.toNat_natCast, Int.reduceToNat, Int.reducePow, List.isEmpty_nil, List.isEmpty_cons, List.getElem?_cons_succ, List.getElem?_cons_zero, reduceCtorEq, Nat.succ_eq_add_one, Nat.add_zero, Nat.zero_add, and_self, and_true, true_and, decide_true, decide_false, List.reverse_cons, List.reverse_nil, Option.map_eq_map, Bool.not_eq_true, Bool.not_eq_false, Bool.xor_false, Bool.xor_true, Bool.false_xor, Bool.true_xor, Nat.reduceSub, List.dropLast_cons₂, List.dropLast_singleton, decide_eq_true_eq, List.length_map, Nat.zero_le, check_lock_ok p b h0 hp h2 hb, check_code_no p b w h]
  unfold law_refused_sem law_refused_b
  simp only [gsx_ok, gSi_ap, sxf_ok, sxe_ok, sSetIxE_ap, sx0_ok, sExt0_ap, par3_ok, sPar3_ap, kMt_ap, kLenSet_ap, iRange3_ap, opCount_fr, dat_map, opEq_lists, opEq_2, opNe_bl, opEq_bl, datL_map, sTry_ap, tryR_nx, tryR_rt, tryR_ex, hdl_t, hdl_f, handle_nil, handle_ap, asL_list, asL_map, opSum_fr, opSum_lst, opMin_2, opMax_2, opSl_list, opSl_map, opSl_tup, cutL_map, bnd_ok, bnd_ex, ofR_ok, ofR_ex, SZ_eq, kC_ap, slot_c0, slot_cs, kV_ap, frR_ok, kOk_ap, k1_ap, k2_ap, e1_ap, okR_ok, e2a_ok, e2b_ok, e2a_ex, e2b_ex, e2_ap, eMv_ap, cpk_ok, eCp_ap, eFz_ap, kNil_ap, kCons_ap, eNil_ap, ecb_ok, ecb_ex, eca_ok, eca_ex, eCons_ap, eBor_ap, rT_ok, kCall_ap, rE_ok, rE_ex, rA_ok, eCall_ap, takeA_nil, tkc_ok, takeA_own, takeA_bor, putA_nil, putA_own, putA_bor, allF_nil, allF_cons, tV_ap, tVK_ap, tB_ap, tBK_ap, tNot_ap, tan_t, tan_f, tan_ex, tor_t, tor_f, tor_ex, tAnd_ap, tOr_ap, isB_bl, truth_bl, truth_lst, truth_list, truth_int, ean_t, ean_f, eAnd_ap, eor_t, eor_f, eOr_ap, eNot_ap, ifk_t, ifk_f, ifk_ex, eIf_ap, chk_t, chk_f, kCh_ap, kN_ap, eN_ap, ownsA_nil, ownsA_own, kTup_ap, kLst_ap, eTup_ap, eLst_ap, kIsi_ap, kSl_ap, eSl_ap, parI_ok, kPart_ap, kNoPart_ap, kRev_ap, gN_ap, gTp_tup, gCs_cons, gNl_nil, iIt_ap, items_list, items_tuple, iRange1_ap, rg1_ok, iRange2_ap, rg2_ok, tYesF_ap, nxt_nx, nxt_rt, nxt_ex, nxt_bk, nxt_ct, sSeq_ap, sNil_ap, sBk_ap, sCt_ap, sRaise_ap, sExpr_ap, sRet_ap, sRetN_ap, ifs_t, ifs_f, ifs_ex, sIf_ap, sSet_ap, sTgt_ap, kild_nx, kild_ct, kild_rt, kild_bk, kild_ex, kill_ap, wipe_nil, wipe_cons, app0_ok, isLst_ok, sApp0_ap, sFor_ap, sForE_ap, eLc_ap, back_nil, back_cons, bk1_none, bk1_fr, bk1_lst, endD_rt, endD_nx, endD_ex, semD_1, semD_2, semD_3, semD_4, semD_5, semD_6, semD_7, semD_8, outs_nil, outs_cons, frO_fr, opAdd_i, opAddI_i, opSub_i, opMod_i, opFdiv_i, opMul_r, opMul_l, opPow_i, opEq_i, opNe_i, opLt_i, opGt_i, opLe_i, opGe_i, opNeg_i, opLen_list, opLen_tup, opLen_lst, opIx_list, opIx_tup, opIx_lst, frOp_ap, onlyFr_fr, dat_fr, dat_lst, datL_nil, datL_fr, datL_lst, allFr_nil, allFr_cons, asS_list, asS_tup, opList_ap, opTuple_ap, ixN_nat, atI_0, atI_1, atI_2, atI_3, atI_4, atI_map, atI_int, pV_ap, getAt_ap, getP_nil, getP_ix, setAt_ap, setP_nil, setP_ix, pix_ok, pIx_ap, six_ok, sSetIx_ap, pp0_ok, ePop_ap, par2_ok, sPar_ap, aug1_ok, sAug_ap, opIsN_ap, isNoT_none, isNoT_int, isNoT_list, isNoT_tup, isNoT_lst, typT_fr, typT_lst, typD_none, typD_bool, typD_int, typD_str, typD_list, typD_tuple, isa_NoneType_bool, isa_NoneType_int, isa_NoneType_str, isa_NoneType_list, isa_NoneType_tuple, isa_NoneType_dict, isa_bool_bool, isa_bool_int, isa_bool_str, isa_bool_list, isa_bool_tuple, isa_bool_dict, isa_int_bool, isa_int_int, isa_int_str, isa_int_list, isa_int_tuple, isa_int_dict, isa_str_bool, isa_str_int, isa_str_str, isa_str_list, isa_str_tuple, isa_str_dict, isa_list_bool, isa_list_int, isa_list_str, isa_list_list, isa_list_tuple, isa_list_dict, isa_tuple_bool, isa_tuple_int, isa_tuple_str, isa_tuple_list, isa_tuple_tuple, isa_tuple_dict, isa_dict_bool, isa_dict_int, isa_dict_str, isa_dict_list, isa_dict_tuple, isa_dict_dict, opEq_emp, opEq_fe, opIn_ints, Option.bind_some, Option.map_some, List.map_cons, List.map_nil, List.cons_append, List.nil_append, List.append_nil, List.replicate, List.length_cons, List.length_nil, List.set_cons_succ, List.set_cons_zero, Nat.lt_add_one, if_true, if_false, Nat.reduceAdd, Nat.reduceLT, Nat.reduceLeDiff, List.not_mem_nil, List.mem_cons, Nat.reduceEqDiff, or_false, or_true, false_or, true_or, Bool.not_true, Bool.not_false, Bool.false_eq_true, reduceIte, Option.bind_eq_bind, Int.reduceAdd, Int.reduceSub, Int.reduceMul, Int.reduceLT, Int.reduceLE, Int.reduceNeg, Int.cast_ofNat_Int, Int.natCast_one, Int.natCast_zero, Int.reduceEq, Int.reduceNe, Int.toNat_natCast, Int.reduceToNat, Int.reducePow, List.isEmpty_nil, List.isEmpty_cons, List.getElem?_cons_succ, List.getElem?_cons_zero, reduceCtorEq, Nat.succ_eq_add_one, Nat.add_zero, Nat.zero_add, and_self, and_true, true_and, decide_true, decide_false, List.reverse_cons, List.reverse_nil, Option.map_eq_map, Bool.not_eq_true, Bool.not_eq_false, Bool.xor_false, Bool.xor_true, Bool.false_xor, Bool.true_xor, Nat.reduceSub, List.dropLast_cons₂, List.dropLast_singleton, decide_eq_true_eq, List.length_map, Nat.zero_le, e, x1]
  exact ⟨_, rfl⟩
theorem refused_b (p b : Int) (h0 : 1 ≤ p) (hp : p ≤ 5) (h2 : 2 ≤ b) (hb : b ≤ 10) (w : D) {c : List Int} (hc : Cd p b c) (h : ∃ os, is_code_sem [.fr (lk p b), .fr w] = some (.ok (.fr (.bool false)) os)) : ∃ os, law_refused_sem [.fr (lk p b), .fr (li c), .fr w] = some (.ok (.fr (.str "code")) os) := by
  have e : answer_sem [.fr (lk p b), .fr (li c), .fr w] = some (.ex "BadCode") := by
    unfold answer_sem answer_b
    simp only [gsx_ok, gSi_ap, sxf_ok, sxe_ok, sSetIxE_ap, sx0_ok, sExt0_ap, par3_ok, sPar3_ap, kMt_ap, kLenSet_ap, iRange3_ap, opCount_fr, dat_map, opEq_lists, opEq_2, opNe_bl, opEq_bl, datL_map, sTry_ap, tryR_nx, tryR_rt, tryR_ex, hdl_t, hdl_f, handle_nil, handle_ap, asL_list, asL_map, opSum_fr, opSum_lst, opMin_2, opMax_2, opSl_list, opSl_map, opSl_tup, cutL_map, bnd_ok, bnd_ex, ofR_ok, ofR_ex, SZ_eq, kC_ap, slot_c0, slot_cs, kV_ap, frR_ok, kOk_ap, k1_ap, k2_ap, e1_ap, okR_ok, e2a_ok, e2b_ok, e2a_ex, e2b_ex, e2_ap, eMv_ap, cpk_ok, eCp_ap, eFz_ap, kNil_ap, kCons_ap, eNil_ap, ecb_ok, ecb_ex, eca_ok, eca_ex, eCons_ap, eBor_ap, rT_ok, kCall_ap, rE_ok, rE_ex, rA_ok, eCall_ap, takeA_nil, tkc_ok, takeA_own, takeA_bor, putA_nil, putA_own, putA_bor, allF_nil, allF_cons, tV_ap, tVK_ap, tB_ap, tBK_ap, tNot_ap, tan_t, tan_f, tan_ex, tor_t, tor_f, tor_ex, tAnd_ap, tOr_ap, isB_bl, truth_bl, truth_lst, truth_list, truth_int, ean_t, ean_f, eAnd_ap, eor_t, eor_f, eOr_ap, eNot_ap, ifk_t, ifk_f, ifk_ex, eIf_ap, chk_t, chk_f, kCh_ap, kN_ap, eN_ap, ownsA_nil, ownsA_own, kTup_ap, kLst_ap, eTup_ap, eLst_ap, kIsi_ap, kSl_ap, eSl_ap, parI_ok, kPart_ap, kNoPart_ap, kRev_ap, gN_ap, gTp_tup, gCs_cons, gNl_nil, iIt_ap, items_list, items_tuple, iRange1_ap, rg1_ok, iRange2_ap, rg2_ok, tYesF_ap, nxt_nx, nxt_rt, nxt_ex, nxt_bk, nxt_ct, sSeq_ap, sNil_ap, sBk_ap, sCt_ap, sRaise_ap, sExpr_ap, sRet_ap, sRetN_ap, ifs_t, ifs_f, ifs_ex, sIf_ap, sSet_ap, sTgt_ap, kild_nx, kild_ct, kild_rt, kild_bk, kild_ex, kill_ap, wipe_nil, wipe_cons, app0_ok, isLst_ok, sApp0_ap, sFor_ap, sForE_ap, eLc_ap, back_nil, back_cons, bk1_none, bk1_fr, bk1_lst, endD_rt, endD_nx, endD_ex, semD_1, semD_2, semD_3, semD_4, semD_5, semD_6, semD_7, semD_8, outs_nil, outs_cons, frO_fr, opAdd_i, opAddI_i, opSub_i, opMod_i, opFdiv_i, opMul_r, opMul_l, opPow_i, opEq_i, opNe_i, opLt_i, opGt_i, opLe_i, opGe_i, opNeg_i, opLen_list, opLen_tup, opLen_lst, opIx_list, opIx_tup, opIx_lst, frOp_ap, onlyFr_fr, dat_fr, dat_lst, datL_nil, datL_fr, datL_lst, allFr_nil, allFr_cons, asS_list, asS_tup, opList_ap, opTuple_ap, ixN_nat, atI_0, atI_1, atI_2, atI_3, atI_4, atI_map, atI_int, pV_ap, getAt_ap, getP_nil, getP_ix, setAt_ap, setP_nil, setP_ix, pix_ok, pIx_ap, six_ok, sSetIx_ap, pp0_ok, ePop_ap, par2_ok, sPar_ap, aug1_ok, sAug_ap, opIsN_ap, isNoT_none, isNoT_int, isNoT_list, isNoT_tup, isNoT_lst, typT_fr, typT_lst, typD_none, typD_bool, typD_int, typD_str, typD_list, typD_tuple, isa_NoneType_bool, isa_NoneType_int, isa_NoneType_str, isa_NoneType_list, isa_NoneType_tuple, isa_NoneType_dict, isa_bool_bool, isa_bool_int, isa_bool_str, isa_bool_list, isa_bool_tuple, isa_bool_dict, isa_int_bool, isa_int_int, isa_int_str, isa_int_list, isa_int_tuple, isa_int_dict, isa_str_bool, isa_str_int, isa_str_str, isa_str_list, isa_str_tuple, isa_str_dict, isa_list_bool, isa_list_int, isa_list_str, isa_list_list, isa_list_tuple, isa_list_dict, isa_tuple_bool, isa_tuple_int, isa_tuple_str, isa_tuple_list, isa_tuple_tuple, isa_tuple_dict, isa_dict_bool, isa_dict_int, isa_dict_str, isa_dict_list, isa_dict_tuple, isa_dict_dict, opEq_emp, opEq_fe, opIn_ints, Option.bind_some, Option.map_some, List.map_cons, List.map_nil, List.cons_append, List.nil_append, List.append_nil, List.replicate, List.length_cons, List.length_nil, List.set_cons_succ, List.set_cons_zero, Nat.lt_add_one, if_true, if_false, Nat.reduceAdd, Nat.reduceLT, Nat.reduceLeDiff, List.not_mem_nil, List.mem_cons, Nat.reduceEqDiff, or_false, or_true, false_or, true_or, Bool.not_true, Bool.not_false, Bool.false_eq_true, reduceIte, Option.bind_eq_bind, Int.reduceAdd, Int.reduceSub, Int.reduceMul, Int.reduceLT, Int.reduceLE, Int.reduceNeg, Int.cast_ofNat_Int, Int.natCast_one, Int.natCast_zero, Int.reduceEq, Int.reduceNe, Int.toNat_natCast, Int.reduceToNat, Int.reducePow, List.isEmpty_nil, List.isEmpty_cons, List.getElem?_cons_succ, List.getElem?_cons_zero, reduceCtorEq, Nat.succ_eq_add_one, Nat.add_zero, Nat.zero_add, and_self, and_true, true_and, decide_true, decide_false, List.reverse_cons, List.reverse_nil, Option.map_eq_map, Bool.not_eq_true, Bool.not_eq_false, Bool.xor_false, Bool.xor_true, Bool.false_xor, Bool.true_xor, Nat.reduceSub, List.dropLast_cons₂, List.dropLast_singleton, decide_eq_true_eq, List.length_map, Nat.zero_le, check_lock_ok p b h0 hp h2 hb, check_code_ok hc, check_code_no p b w h]
  unfold law_refused_sem law_refused_b
  simp only [gsx_ok, gSi_ap, sxf_ok, sxe_ok, sSetIxE_ap, sx0_ok, sExt0_ap, par3_ok, sPar3_ap, kMt_ap, kLenSet_ap, iRange3_ap, opCount_fr, dat_map, opEq_lists, opEq_2, opNe_bl, opEq_bl, datL_map, sTry_ap, tryR_nx, tryR_rt, tryR_ex, hdl_t, hdl_f, handle_nil, handle_ap, asL_list, asL_map, opSum_fr, opSum_lst, opMin_2, opMax_2, opSl_list, opSl_map, opSl_tup, cutL_map, bnd_ok, bnd_ex, ofR_ok, ofR_ex, SZ_eq, kC_ap, slot_c0, slot_cs, kV_ap, frR_ok, kOk_ap, k1_ap, k2_ap, e1_ap, okR_ok, e2a_ok, e2b_ok, e2a_ex, e2b_ex, e2_ap, eMv_ap, cpk_ok, eCp_ap, eFz_ap, kNil_ap, kCons_ap, eNil_ap, ecb_ok, ecb_ex, eca_ok, eca_ex, eCons_ap, eBor_ap, rT_ok, kCall_ap, rE_ok, rE_ex, rA_ok, eCall_ap, takeA_nil, tkc_ok, takeA_own, takeA_bor, putA_nil, putA_own, putA_bor, allF_nil, allF_cons, tV_ap, tVK_ap, tB_ap, tBK_ap, tNot_ap, tan_t, tan_f, tan_ex, tor_t, tor_f, tor_ex, tAnd_ap, tOr_ap, isB_bl, truth_bl, truth_lst, truth_list, truth_int, ean_t, ean_f, eAnd_ap, eor_t, eor_f, eOr_ap, eNot_ap, ifk_t, ifk_f, ifk_ex, eIf_ap, chk_t, chk_f, kCh_ap, kN_ap, eN_ap, ownsA_nil, ownsA_own, kTup_ap, kLst_ap, eTup_ap, eLst_ap, kIsi_ap, kSl_ap, eSl_ap, parI_ok, kPart_ap, kNoPart_ap, kRev_ap, gN_ap, gTp_tup, gCs_cons, gNl_nil, iIt_ap, items_list, items_tuple, iRange1_ap, rg1_ok, iRange2_ap, rg2_ok, tYesF_ap, nxt_nx, nxt_rt, nxt_ex, nxt_bk, nxt_ct, sSeq_ap, sNil_ap, sBk_ap, sCt_ap, sRaise_ap, sExpr_ap, sRet_ap, sRetN_ap, ifs_t, ifs_f, ifs_ex, sIf_ap, sSet_ap, sTgt_ap, kild_nx, kild_ct, kild_rt, kild_bk, kild_ex, kill_ap, wipe_nil, wipe_cons, app0_ok, isLst_ok, sApp0_ap, sFor_ap, sForE_ap, eLc_ap, back_nil, back_cons, bk1_none, bk1_fr, bk1_lst, endD_rt, endD_nx, endD_ex, semD_1, semD_2, semD_3, semD_4, semD_5, semD_6, semD_7, semD_8, outs_nil, outs_cons, frO_fr, opAdd_i, opAddI_i, opSub_i, opMod_i, opFdiv_i, opMul_r, opMul_l, opPow_i, opEq_i, opNe_i, opLt_i, opGt_i, opLe_i, opGe_i, opNeg_i, opLen_list, opLen_tup, opLen_lst, opIx_list, opIx_tup, opIx_lst, frOp_ap, onlyFr_fr, dat_fr, dat_lst, datL_nil, datL_fr, datL_lst, allFr_nil, allFr_cons, asS_list, asS_tup, opList_ap, opTuple_ap, ixN_nat, atI_0, atI_1, atI_2, atI_3, atI_4, atI_map, atI_int, pV_ap, getAt_ap, getP_nil, getP_ix, setAt_ap, setP_nil, setP_ix, pix_ok, pIx_ap, six_ok, sSetIx_ap, pp0_ok, ePop_ap, par2_ok, sPar_ap, aug1_ok, sAug_ap, opIsN_ap, isNoT_none, isNoT_int, isNoT_list, isNoT_tup, isNoT_lst, typT_fr, typT_lst, typD_none, typD_bool, typD_int, typD_str, typD_list, typD_tuple, isa_NoneType_bool, isa_NoneType_int, isa_NoneType_str, isa_NoneType_list, isa_NoneType_tuple, isa_NoneType_dict, isa_bool_bool, isa_bool_int, isa_bool_str, isa_bool_list, isa_bool_tuple, isa_bool_dict, isa_int_bool, isa_int_int, isa_int_str, isa_int_list, isa_int_tuple, isa_int_dict, isa_str_bool, isa_str_int, isa_str_str, isa_str_list, isa_str_tuple, isa_str_dict, isa_list_bool, isa_list_int, isa_list_str, isa_list_list, isa_list_tuple, isa_list_dict, isa_tuple_bool, isa_tuple_int, isa_tuple_str, isa_tuple_list, isa_tuple_tuple, isa_tuple_dict, isa_dict_bool, isa_dict_int, isa_dict_str, isa_dict_list, isa_dict_tuple, isa_dict_dict, opEq_emp, opEq_fe, opIn_ints, Option.bind_some, Option.map_some, List.map_cons, List.map_nil, List.cons_append, List.nil_append, List.append_nil, List.replicate, List.length_cons, List.length_nil, List.set_cons_succ, List.set_cons_zero, Nat.lt_add_one, if_true, if_false, Nat.reduceAdd, Nat.reduceLT, Nat.reduceLeDiff, List.not_mem_nil, List.mem_cons, Nat.reduceEqDiff, or_false, or_true, false_or, true_or, Bool.not_true, Bool.not_false, Bool.false_eq_true, reduceIte, Option.bind_eq_bind, Int.reduceAdd, Int.reduceSub, Int.reduceMul, Int.reduceLT, Int.reduceLE, Int.reduceNeg, Int.cast_ofNat_Int, Int.natCast_one, Int.natCast_zero, Int.reduceEq, Int.reduceNe, Int.toNat_natCast, Int.reduceToNat, Int.reducePow, List.isEmpty_nil, List.isEmpty_cons, List.getElem?_cons_succ, List.getElem?_cons_zero, reduceCtorEq, Nat.succ_eq_add_one, Nat.add_zero, Nat.zero_add, and_self, and_true, true_and, decide_true, decide_false, List.reverse_cons, List.reverse_nil, Option.map_eq_map, Bool.not_eq_true, Bool.not_eq_false, Bool.xor_false, Bool.xor_true, Bool.false_xor, Bool.true_xor, Nat.reduceSub, List.dropLast_cons₂, List.dropLast_singleton, decide_eq_true_eq, List.length_map, Nat.zero_le, e, x1]
  exact ⟨_, rfl⟩
def wrong6 (b : Int) (c : List Int) : List D := [.list (c.map .int ++ [.int 0]), .list ((c.drop 1).map .int), .tuple (c.map .int), .none, .list (c.dropLast.map .int ++ [.int b]), .list (c.dropLast.map .int ++ [.int (-1)]), .list (c.dropLast.map .int ++ [.bool true]), .list (c.dropLast.map .int ++ [.str "0"])]
theorem nd_app {c : List Int} {e : D} (h : ∀ x, e ≠ .dict x) : ∀ d ∈ c.map PyData.int ++ [e], ∀ x, d ≠ .dict x := by
  intro d hd x
  rcases List.mem_append.mp hd with q | q
  · exact nodict_ints c d q x
  · simp at q; subst q; exact h x
theorem wrong_no {p b : Int} {c : List Int} (h0 : 1 ≤ p) (h2 : 2 ≤ b) (hc : Cd p b c) : ∀ w ∈ wrong6 b c, ∃ os, is_code_sem [.fr (lk p b), .fr w] = some (.ok (.fr (.bool false)) os) := by
  intro w hw
  have hl := hc.len
  simp only [wrong6, List.mem_cons, List.not_mem_nil, or_false] at hw
  have last : ∀ e : D, (∀ x, e ≠ .dict x) → okDig b e = false → ∃ os, is_code_sem [.fr (lk p b), .fr (.list (c.dropLast.map .int ++ [e]))] = some (.ok (.fr (.bool false)) os) := fun e h1 h2 =>
    is_code_no (fun ds eq => by
      cases eq
      exact ⟨nd_app h1, by rw [List.all_append]; simp [h2]⟩) (by intro x e; cases e)
  rcases hw with rfl | rfl | rfl | rfl | rfl | rfl | rfl | rfl
  · refine is_code_no (fun ds eq => ?_) (by intro x e; cases e)
    cases eq
    refine ⟨nd_app (by intro x e; cases e), ?_⟩
    have : ¬ (((c.map PyData.int ++ [PyData.int 0]).length : Nat) : Int) = p := by
      rw [List.length_append, List.length_map]; simp; omega
    simp [this]
    intro z; simp at this; omega
  · refine is_code_no (fun ds eq => ?_) (by intro x e; cases e)
    cases eq
    refine ⟨nodict_ints _, ?_⟩
    have : ¬ ((((c.drop 1).map PyData.int).length : Nat) : Int) = p := by
      rw [List.length_map, List.length_drop]; omega
    rw [decide_eq_false this]; rfl
  · exact is_code_no (fun ds eq => by cases eq) (by intro x e; cases e)
  · exact is_code_no (fun ds eq => by cases eq) (by intro x e; cases e)
  · exact last _ (by intro x e; cases e) (by simp [okDig] <;> omega)
  · exact last _ (by intro x e; cases e) (by simp [okDig])
  · exact last _ (by intro x e; cases e) rfl
  · exact last _ (by intro x e; cases e) rfl
theorem opNe_str {a : Str} : opNe (.fr (.str a)) (.fr (.str a)) = some (.fr (.bool false)) := by
  show (if okD (.str a) = true ∧ okD (.str a) = true then (some (!PyData.eqv (.str a) (.str a))).map fun k => T.fr (.bool k) else none) = _
  rw [if_pos ⟨rfl, rfl⟩, PySem.SeqAt.eqv_refl_plain (.str a) rfl]; rfl
theorem l6_ok {p b : Int} {c : List Int} (h0 : 1 ≤ p) (hp : p ≤ 5) (h2 : 2 ≤ b) (hb : b ≤ 10) (hc : Cd p b c) (o0 o1 : Option T) : law_l6 [o0, o1, some (.fr (lk p b)), none, some (.fr (li c)), none, none, none, none, none, none, none, none] = some (.nx [o0, o1, some (.fr (lk p b)), none, some (.fr (li c)), none, none, none, none, none, none, none, none]) := by
  have hl := hc.len
  have l1 : (c.map PyData.int).length + ([PyData.int 0] : List D).length ≤ 16777216 := by simp; omega
  have l2 : ∀ e : D, (c.dropLast.map PyData.int).length + ([e] : List D).length ≤ 16777216 := fun e => by simp; omega
  have kk1 : cutL c (some 1) none = c.drop 1 := cutL_drop (by omega)
  have k2' : cutL c none (some (-1)) = c.dropLast := cutL_last
  have s1 : ∀ e : D, T.lst [.fr e] = .lst ([e].map .fr) := fun e => rfl
  have a1 := opAdd_fl l1
  simp only [List.map_cons, List.map_nil] at a1
  have a2 : ∀ e : D, opAdd (.lst ((c.dropLast.map PyData.int).map .fr)) (.lst [.fr e]) = some (.lst ((c.dropLast.map PyData.int ++ [e]).map .fr)) := fun e => opAdd_ll (l2 e)
  unfold law_l6
  obtain ⟨ρ', e, rfl⟩ := for_inv (ρ := [o0, o1, some (.fr (lk p b)), none, some (.fr (li c)), none, none, none, none, none, none, none, none]) (fi := iIt (eTup (eCons (e2 opAdd (kOk (kV 4)) (eLst (eCons (kOk (kC (.int 0))) eNil))) (eCons (eSl (kOk (kV 4)) (kPart (kC (.int 1))) kNoPart) (eCons (eN opTuple (eCons (kOk (kV 4)) eNil)) (eCons (kOk (kC .none)) (eCons (e2 opAdd (eSl (kOk (kV 4)) kNoPart (kPart (k1 opNeg (kC (.int 1))))) (eLst (eCons (kOk (k2 opIx (kV 2) (kC (.int 1)))) eNil))) (eCons (e2 opAdd (eSl (kOk (kV 4)) kNoPart (kPart (k1 opNeg (kC (.int 1))))) (eLst (eCons (kOk (k1 opNeg (kC (.int 1)))) eNil))) (eCons (e2 opAdd (eSl (kOk (kV 4)) kNoPart (kPart (k1 opNeg (kC (.int 1))))) (eLst (eCons (kOk (kC (.bool true))) eNil))) (eCons (e2 opAdd (eSl (kOk (kV 4)) kNoPart (kPart (k1 opNeg (kC (.int 1))))) (eLst (eCons (kOk (kC (.str "0"))) eNil))) eNil)))))))))) (g := gN 11) (fb := law_b5)
    (ds := wrong6 b c) (ρ1 := [o0, o1, some (.fr (lk p b)), none, some (.fr (li c)), none, none, none, none, none, none, none, none])
    (by simp only [gsx_ok, gSi_ap, sxf_ok, sxe_ok, sSetIxE_ap, sx0_ok, sExt0_ap, par3_ok, sPar3_ap, kMt_ap, kLenSet_ap, iRange3_ap, opCount_fr, dat_map, opEq_lists, opEq_2, opNe_bl, opEq_bl, datL_map, sTry_ap, tryR_nx, tryR_rt, tryR_ex, hdl_t, hdl_f, handle_nil, handle_ap, asL_list, asL_map, opSum_fr, opSum_lst, opMin_2, opMax_2, opSl_list, opSl_map, opSl_tup, cutL_map, bnd_ok, bnd_ex, ofR_ok, ofR_ex, SZ_eq, kC_ap, slot_c0, slot_cs, kV_ap, frR_ok, kOk_ap, k1_ap, k2_ap, e1_ap, okR_ok, e2a_ok, e2b_ok, e2a_ex, e2b_ex, e2_ap, eMv_ap, cpk_ok, eCp_ap, eFz_ap, kNil_ap, kCons_ap, eNil_ap, ecb_ok, ecb_ex, eca_ok, eca_ex, eCons_ap, eBor_ap, rT_ok, kCall_ap, rE_ok, rE_ex, rA_ok, eCall_ap, takeA_nil, tkc_ok, takeA_own, takeA_bor, putA_nil, putA_own, putA_bor, allF_nil, allF_cons, tV_ap, tVK_ap, tB_ap, tBK_ap, tNot_ap, tan_t, tan_f, tan_ex, tor_t, tor_f, tor_ex, tAnd_ap, tOr_ap, isB_bl, truth_bl, truth_lst, truth_list, truth_int, ean_t, ean_f, eAnd_ap, eor_t, eor_f, eOr_ap, eNot_ap, ifk_t, ifk_f, ifk_ex, eIf_ap, chk_t, chk_f, kCh_ap, kN_ap, eN_ap, ownsA_nil, ownsA_own, kTup_ap, kLst_ap, eTup_ap, eLst_ap, kIsi_ap, kSl_ap, eSl_ap, parI_ok, kPart_ap, kNoPart_ap, kRev_ap, gN_ap, gTp_tup, gCs_cons, gNl_nil, iIt_ap, items_list, items_tuple, iRange1_ap, rg1_ok, iRange2_ap, rg2_ok, tYesF_ap, nxt_nx, nxt_rt, nxt_ex, nxt_bk, nxt_ct, sSeq_ap, sNil_ap, sBk_ap, sCt_ap, sRaise_ap, sExpr_ap, sRet_ap, sRetN_ap, ifs_t, ifs_f, ifs_ex, sIf_ap, sSet_ap, sTgt_ap, kild_nx, kild_ct, kild_rt, kild_bk, kild_ex, kill_ap, wipe_nil, wipe_cons, app0_ok, isLst_ok, sApp0_ap, sFor_ap, sForE_ap, eLc_ap, back_nil, back_cons, bk1_none, bk1_fr, bk1_lst, endD_rt, endD_nx, endD_ex, semD_1, semD_2, semD_3, semD_4, semD_5, semD_6, semD_7, semD_8, outs_nil, outs_cons, frO_fr, opAdd_i, opAddI_i, opSub_i, opMod_i, opFdiv_i, opMul_r, opMul_l, opPow_i, opEq_i, opNe_i, opLt_i, opGt_i, opLe_i, opGe_i, opNeg_i, opLen_list, opLen_tup, opLen_lst, opIx_list, opIx_tup, opIx_lst, frOp_ap, onlyFr_fr, dat_fr, dat_lst, datL_nil, datL_fr, datL_lst, allFr_nil, allFr_cons, asS_list, asS_tup, opList_ap, opTuple_ap, ixN_nat, atI_0, atI_1, atI_2, atI_3, atI_4, atI_map, atI_int, pV_ap, getAt_ap, getP_nil, getP_ix, setAt_ap, setP_nil, setP_ix, pix_ok, pIx_ap, six_ok, sSetIx_ap, pp0_ok, ePop_ap, par2_ok, sPar_ap, aug1_ok, sAug_ap, opIsN_ap, isNoT_none, isNoT_int, isNoT_list, isNoT_tup, isNoT_lst, typT_fr, typT_lst, typD_none, typD_bool, typD_int, typD_str, typD_list, typD_tuple, isa_NoneType_bool, isa_NoneType_int, isa_NoneType_str, isa_NoneType_list, isa_NoneType_tuple, isa_NoneType_dict, isa_bool_bool, isa_bool_int, isa_bool_str, isa_bool_list, isa_bool_tuple, isa_bool_dict, isa_int_bool, isa_int_int, isa_int_str, isa_int_list, isa_int_tuple, isa_int_dict, isa_str_bool, isa_str_int, isa_str_str, isa_str_list, isa_str_tuple, isa_str_dict, isa_list_bool, isa_list_int, isa_list_str, isa_list_list, isa_list_tuple, isa_list_dict, isa_tuple_bool, isa_tuple_int, isa_tuple_str, isa_tuple_list, isa_tuple_tuple, isa_tuple_dict, isa_dict_bool, isa_dict_int, isa_dict_str, isa_dict_list, isa_dict_tuple, isa_dict_dict, opEq_emp, opEq_fe, opIn_ints, Option.bind_some, Option.map_some, List.map_cons, List.map_nil, List.cons_append, List.nil_append, List.append_nil, List.replicate, List.length_cons, List.length_nil, List.set_cons_succ, List.set_cons_zero, Nat.lt_add_one, if_true, if_false, Nat.reduceAdd, Nat.reduceLT, Nat.reduceLeDiff, List.not_mem_nil, List.mem_cons, Nat.reduceEqDiff, or_false, or_true, false_or, true_or, Bool.not_true, Bool.not_false, Bool.false_eq_true, reduceIte, Option.bind_eq_bind, Int.reduceAdd, Int.reduceSub, Int.reduceMul, Int.reduceLT, Int.reduceLE, Int.reduceNeg, Int.cast_ofNat_Int, Int.natCast_one, Int.natCast_zero, Int.reduceEq, Int.reduceNe, Int.toNat_natCast, Int.reduceToNat, Int.reducePow, List.isEmpty_nil, List.isEmpty_cons, List.getElem?_cons_succ, List.getElem?_cons_zero, reduceCtorEq, Nat.succ_eq_add_one, Nat.add_zero, Nat.zero_add, and_self, and_true, true_and, decide_true, decide_false, List.reverse_cons, List.reverse_nil, Option.map_eq_map, Bool.not_eq_true, Bool.not_eq_false, Bool.xor_false, Bool.xor_true, Bool.false_xor, Bool.true_xor, Nat.reduceSub, List.dropLast_cons₂, List.dropLast_singleton, decide_eq_true_eq, List.length_map, Nat.zero_le, a1, a2, kk1, k2', wrong6])
    (fun r ρ => ρ = [o0, o1, some (.fr (lk p b)), none, some (.fr (li c)), none, none, none, none, none, none, none, none]) rfl
    (fun d r ρ hd e => by
      subst e
      obtain ⟨os, e1⟩ := refused_a p b h0 hp h2 hb d (li c) (wrong_no h0 h2 hc d hd)
      obtain ⟨os', e2⟩ := refused_b p b h0 hp h2 hb d hc (wrong_no h0 h2 hc d hd)
      unfold law_b5
      simp only [gsx_ok, gSi_ap, sxf_ok, sxe_ok, sSetIxE_ap, sx0_ok, sExt0_ap, par3_ok, sPar3_ap, kMt_ap, kLenSet_ap, iRange3_ap, opCount_fr, dat_map, opEq_lists, opEq_2, opNe_bl, opEq_bl, datL_map, sTry_ap, tryR_nx, tryR_rt, tryR_ex, hdl_t, hdl_f, handle_nil, handle_ap, asL_list, asL_map, opSum_fr, opSum_lst, opMin_2, opMax_2, opSl_list, opSl_map, opSl_tup, cutL_map, bnd_ok, bnd_ex, ofR_ok, ofR_ex, SZ_eq, kC_ap, slot_c0, slot_cs, kV_ap, frR_ok, kOk_ap, k1_ap, k2_ap, e1_ap, okR_ok, e2a_ok, e2b_ok, e2a_ex, e2b_ex, e2_ap, eMv_ap, cpk_ok, eCp_ap, eFz_ap, kNil_ap, kCons_ap, eNil_ap, ecb_ok, ecb_ex, eca_ok, eca_ex, eCons_ap, eBor_ap, rT_ok, kCall_ap, rE_ok, rE_ex, rA_ok, eCall_ap, takeA_nil, tkc_ok, takeA_own, takeA_bor, putA_nil, putA_own, putA_bor, allF_nil, allF_cons, tV_ap, tVK_ap, tB_ap, tBK_ap, tNot_ap, tan_t, tan_f, tan_ex, tor_t, tor_f, tor_ex, tAnd_ap, tOr_ap, isB_bl, truth_bl, truth_lst, truth_list, truth_int, ean_t, ean_f, eAnd_ap, eor_t, eor_f, eOr_ap, eNot_ap, ifk_t, ifk_f, ifk_ex, eIf_ap, chk_t, chk_f, kCh_ap, kN_ap, eN_ap, ownsA_nil, ownsA_own, kTup_ap, kLst_ap, eTup_ap, eLst_ap, kIsi_ap, kSl_ap, eSl_ap, parI_ok, kPart_ap, kNoPart_ap, kRev_ap, gN_ap, gTp_tup, gCs_cons, gNl_nil, iIt_ap, items_list, items_tuple, iRange1_ap, rg1_ok, iRange2_ap, rg2_ok, tYesF_ap, nxt_nx, nxt_rt, nxt_ex, nxt_bk, nxt_ct, sSeq_ap, sNil_ap, sBk_ap, sCt_ap, sRaise_ap, sExpr_ap, sRet_ap, sRetN_ap, ifs_t, ifs_f, ifs_ex, sIf_ap, sSet_ap, sTgt_ap, kild_nx, kild_ct, kild_rt, kild_bk, kild_ex, kill_ap, wipe_nil, wipe_cons, app0_ok, isLst_ok, sApp0_ap, sFor_ap, sForE_ap, eLc_ap, back_nil, back_cons, bk1_none, bk1_fr, bk1_lst, endD_rt, endD_nx, endD_ex, semD_1, semD_2, semD_3, semD_4, semD_5, semD_6, semD_7, semD_8, outs_nil, outs_cons, frO_fr, opAdd_i, opAddI_i, opSub_i, opMod_i, opFdiv_i, opMul_r, opMul_l, opPow_i, opEq_i, opNe_i, opLt_i, opGt_i, opLe_i, opGe_i, opNeg_i, opLen_list, opLen_tup, opLen_lst, opIx_list, opIx_tup, opIx_lst, frOp_ap, onlyFr_fr, dat_fr, dat_lst, datL_nil, datL_fr, datL_lst, allFr_nil, allFr_cons, asS_list, asS_tup, opList_ap, opTuple_ap, ixN_nat, atI_0, atI_1, atI_2, atI_3, atI_4, atI_map, atI_int, pV_ap, getAt_ap, getP_nil, getP_ix, setAt_ap, setP_nil, setP_ix, pix_ok, pIx_ap, six_ok, sSetIx_ap, pp0_ok, ePop_ap, par2_ok, sPar_ap, aug1_ok, sAug_ap, opIsN_ap, isNoT_none, isNoT_int, isNoT_list, isNoT_tup, isNoT_lst, typT_fr, typT_lst, typD_none, typD_bool, typD_int, typD_str, typD_list, typD_tuple, isa_NoneType_bool, isa_NoneType_int, isa_NoneType_str, isa_NoneType_list, isa_NoneType_tuple, isa_NoneType_dict, isa_bool_bool, isa_bool_int, isa_bool_str, isa_bool_list, isa_bool_tuple, isa_bool_dict, isa_int_bool, isa_int_int, isa_int_str, isa_int_list, isa_int_tuple, isa_int_dict, isa_str_bool, isa_str_int, isa_str_str, isa_str_list, isa_str_tuple, isa_str_dict, isa_list_bool, isa_list_int, isa_list_str, isa_list_list, isa_list_tuple, isa_list_dict, isa_tuple_bool, isa_tuple_int, isa_tuple_str, isa_tuple_list, isa_tuple_tuple, isa_tuple_dict, isa_dict_bool, isa_dict_int, isa_dict_str, isa_dict_list, isa_dict_tuple, isa_dict_dict, opEq_emp, opEq_fe, opIn_ints, Option.bind_some, Option.map_some, List.map_cons, List.map_nil, List.cons_append, List.nil_append, List.append_nil, List.replicate, List.length_cons, List.length_nil, List.set_cons_succ, List.set_cons_zero, Nat.lt_add_one, if_true, if_false, Nat.reduceAdd, Nat.reduceLT, Nat.reduceLeDiff, List.not_mem_nil, List.mem_cons, Nat.reduceEqDiff, or_false, or_true, false_or, true_or, Bool.not_true, Bool.not_false, Bool.false_eq_true, reduceIte, Option.bind_eq_bind, Int.reduceAdd, Int.reduceSub, Int.reduceMul, Int.reduceLT, Int.reduceLE, Int.reduceNeg, Int.cast_ofNat_Int, Int.natCast_one, Int.natCast_zero, Int.reduceEq, Int.reduceNe, Int.toNat_natCast, Int.reduceToNat, Int.reducePow, List.isEmpty_nil, List.isEmpty_cons, List.getElem?_cons_succ, List.getElem?_cons_zero, reduceCtorEq, Nat.succ_eq_add_one, Nat.add_zero, Nat.zero_add, and_self, and_true, true_and, decide_true, decide_false, List.reverse_cons, List.reverse_nil, Option.map_eq_map, Bool.not_eq_true, Bool.not_eq_false, Bool.xor_false, Bool.xor_true, Bool.false_xor, Bool.true_xor, Nat.reduceSub, List.dropLast_cons₂, List.dropLast_singleton, decide_eq_true_eq, List.length_map, Nat.zero_le, e1, e2, opNe_str]
      exact ⟨_, rfl, rfl⟩)
  exact e
def wlocks : List D := [.tuple [.int 0, .int 2], .tuple [.int 6, .int 2], .tuple [.int 1, .int 1], .tuple [.int 1, .int 11], .tuple [.int 1], .list [.int 1, .int 2], .none, .tuple [.bool true, .int 2], .tuple [.str "1", .int 2], .tuple [.int 1, .int 2, .int 3]]
theorem wlock_no : ∀ w ∈ wlocks, ∃ os, law_refused_sem [.fr w, .fr (.list [.int 0]), .fr (.list [.int 0])] = some (.ok (.fr (.str "code")) os) := by
  intro w hw
  simp only [wlocks, List.mem_cons, List.not_mem_nil, or_false] at hw
  rcases hw with rfl | rfl | rfl | rfl | rfl | rfl | rfl | rfl | rfl | rfl <;> exact ⟨_, rfl⟩
theorem l8_ok (o0 o1 o2 o4 : Option T) : law_l8 [o0, o1, o2, none, o4, none, none, none, none, none, none, none, none] = some (.nx [o0, o1, o2, none, o4, none, none, none, none, none, none, none, none]) := by
  unfold law_l8
  obtain ⟨ρ', e, rfl⟩ := for_inv (ρ := [o0, o1, o2, none, o4, none, none, none, none, none, none, none, none]) (fi := iIt (eTup (eCons (kOk (kTup (kCons (kC (.int 0)) (kCons (kC (.int 2)) kNil)))) (eCons (kOk (kTup (kCons (kC (.int 6)) (kCons (kC (.int 2)) kNil)))) (eCons (kOk (kTup (kCons (kC (.int 1)) (kCons (kC (.int 1)) kNil)))) (eCons (kOk (kTup (kCons (kC (.int 1)) (kCons (kC (.int 11)) kNil)))) (eCons (kOk (kTup (kCons (kC (.int 1)) kNil))) (eCons (eLst (eCons (kOk (kC (.int 1))) (eCons (kOk (kC (.int 2))) eNil))) (eCons (kOk (kC .none)) (eCons (kOk (kTup (kCons (kC (.bool true)) (kCons (kC (.int 2)) kNil)))) (eCons (kOk (kTup (kCons (kC (.str "1")) (kCons (kC (.int 2)) kNil)))) (eCons (kOk (kTup (kCons (kC (.int 1)) (kCons (kC (.int 2)) (kCons (kC (.int 3)) kNil))))) eNil)))))))))))) (g := gN 11) (fb := law_b7)
    (ds := wlocks) (ρ1 := [o0, o1, o2, none, o4, none, none, none, none, none, none, none, none])
    (by simp only [gsx_ok, gSi_ap, sxf_ok, sxe_ok, sSetIxE_ap, sx0_ok, sExt0_ap, par3_ok, sPar3_ap, kMt_ap, kLenSet_ap, iRange3_ap, opCount_fr, dat_map, opEq_lists, opEq_2, opNe_bl, opEq_bl, datL_map, sTry_ap, tryR_nx, tryR_rt, tryR_ex, hdl_t, hdl_f, handle_nil, handle_ap, asL_list, asL_map, opSum_fr, opSum_lst, opMin_2, opMax_2, opSl_list, opSl_map, opSl_tup, cutL_map, bnd_ok, bnd_ex, ofR_ok, ofR_ex, SZ_eq, kC_ap, slot_c0, slot_cs, kV_ap, frR_ok, kOk_ap, k1_ap, k2_ap, e1_ap, okR_ok, e2a_ok, e2b_ok, e2a_ex, e2b_ex, e2_ap, eMv_ap, cpk_ok, eCp_ap, eFz_ap, kNil_ap, kCons_ap, eNil_ap, ecb_ok, ecb_ex, eca_ok, eca_ex, eCons_ap, eBor_ap, rT_ok, kCall_ap, rE_ok, rE_ex, rA_ok, eCall_ap, takeA_nil, tkc_ok, takeA_own, takeA_bor, putA_nil, putA_own, putA_bor, allF_nil, allF_cons, tV_ap, tVK_ap, tB_ap, tBK_ap, tNot_ap, tan_t, tan_f, tan_ex, tor_t, tor_f, tor_ex, tAnd_ap, tOr_ap, isB_bl, truth_bl, truth_lst, truth_list, truth_int, ean_t, ean_f, eAnd_ap, eor_t, eor_f, eOr_ap, eNot_ap, ifk_t, ifk_f, ifk_ex, eIf_ap, chk_t, chk_f, kCh_ap, kN_ap, eN_ap, ownsA_nil, ownsA_own, kTup_ap, kLst_ap, eTup_ap, eLst_ap, kIsi_ap, kSl_ap, eSl_ap, parI_ok, kPart_ap, kNoPart_ap, kRev_ap, gN_ap, gTp_tup, gCs_cons, gNl_nil, iIt_ap, items_list, items_tuple, iRange1_ap, rg1_ok, iRange2_ap, rg2_ok, tYesF_ap, nxt_nx, nxt_rt, nxt_ex, nxt_bk, nxt_ct, sSeq_ap, sNil_ap, sBk_ap, sCt_ap, sRaise_ap, sExpr_ap, sRet_ap, sRetN_ap, ifs_t, ifs_f, ifs_ex, sIf_ap, sSet_ap, sTgt_ap, kild_nx, kild_ct, kild_rt, kild_bk, kild_ex, kill_ap, wipe_nil, wipe_cons, app0_ok, isLst_ok, sApp0_ap, sFor_ap, sForE_ap, eLc_ap, back_nil, back_cons, bk1_none, bk1_fr, bk1_lst, endD_rt, endD_nx, endD_ex, semD_1, semD_2, semD_3, semD_4, semD_5, semD_6, semD_7, semD_8, outs_nil, outs_cons, frO_fr, opAdd_i, opAddI_i, opSub_i, opMod_i, opFdiv_i, opMul_r, opMul_l, opPow_i, opEq_i, opNe_i, opLt_i, opGt_i, opLe_i, opGe_i, opNeg_i, opLen_list, opLen_tup, opLen_lst, opIx_list, opIx_tup, opIx_lst, frOp_ap, onlyFr_fr, dat_fr, dat_lst, datL_nil, datL_fr, datL_lst, allFr_nil, allFr_cons, asS_list, asS_tup, opList_ap, opTuple_ap, ixN_nat, atI_0, atI_1, atI_2, atI_3, atI_4, atI_map, atI_int, pV_ap, getAt_ap, getP_nil, getP_ix, setAt_ap, setP_nil, setP_ix, pix_ok, pIx_ap, six_ok, sSetIx_ap, pp0_ok, ePop_ap, par2_ok, sPar_ap, aug1_ok, sAug_ap, opIsN_ap, isNoT_none, isNoT_int, isNoT_list, isNoT_tup, isNoT_lst, typT_fr, typT_lst, typD_none, typD_bool, typD_int, typD_str, typD_list, typD_tuple, isa_NoneType_bool, isa_NoneType_int, isa_NoneType_str, isa_NoneType_list, isa_NoneType_tuple, isa_NoneType_dict, isa_bool_bool, isa_bool_int, isa_bool_str, isa_bool_list, isa_bool_tuple, isa_bool_dict, isa_int_bool, isa_int_int, isa_int_str, isa_int_list, isa_int_tuple, isa_int_dict, isa_str_bool, isa_str_int, isa_str_str, isa_str_list, isa_str_tuple, isa_str_dict, isa_list_bool, isa_list_int, isa_list_str, isa_list_list, isa_list_tuple, isa_list_dict, isa_tuple_bool, isa_tuple_int, isa_tuple_str, isa_tuple_list, isa_tuple_tuple, isa_tuple_dict, isa_dict_bool, isa_dict_int, isa_dict_str, isa_dict_list, isa_dict_tuple, isa_dict_dict, opEq_emp, opEq_fe, opIn_ints, Option.bind_some, Option.map_some, List.map_cons, List.map_nil, List.cons_append, List.nil_append, List.append_nil, List.replicate, List.length_cons, List.length_nil, List.set_cons_succ, List.set_cons_zero, Nat.lt_add_one, if_true, if_false, Nat.reduceAdd, Nat.reduceLT, Nat.reduceLeDiff, List.not_mem_nil, List.mem_cons, Nat.reduceEqDiff, or_false, or_true, false_or, true_or, Bool.not_true, Bool.not_false, Bool.false_eq_true, reduceIte, Option.bind_eq_bind, Int.reduceAdd, Int.reduceSub, Int.reduceMul, Int.reduceLT, Int.reduceLE, Int.reduceNeg, Int.cast_ofNat_Int, Int.natCast_one, Int.natCast_zero, Int.reduceEq, Int.reduceNe, Int.toNat_natCast, Int.reduceToNat, Int.reducePow, List.isEmpty_nil, List.isEmpty_cons, List.getElem?_cons_succ, List.getElem?_cons_zero, reduceCtorEq, Nat.succ_eq_add_one, Nat.add_zero, Nat.zero_add, and_self, and_true, true_and, decide_true, decide_false, List.reverse_cons, List.reverse_nil, Option.map_eq_map, Bool.not_eq_true, Bool.not_eq_false, Bool.xor_false, Bool.xor_true, Bool.false_xor, Bool.true_xor, Nat.reduceSub, List.dropLast_cons₂, List.dropLast_singleton, decide_eq_true_eq, List.length_map, Nat.zero_le, wlocks])
    (fun r ρ => ρ = [o0, o1, o2, none, o4, none, none, none, none, none, none, none, none]) rfl
    (fun d r ρ hd e => by
      subst e
      obtain ⟨os, e1⟩ := wlock_no d hd
      obtain rfl := os_3 e1
      unfold law_b7
      simp only [gsx_ok, gSi_ap, sxf_ok, sxe_ok, sSetIxE_ap, sx0_ok, sExt0_ap, par3_ok, sPar3_ap, kMt_ap, kLenSet_ap, iRange3_ap, opCount_fr, dat_map, opEq_lists, opEq_2, opNe_bl, opEq_bl, datL_map, sTry_ap, tryR_nx, tryR_rt, tryR_ex, hdl_t, hdl_f, handle_nil, handle_ap, asL_list, asL_map, opSum_fr, opSum_lst, opMin_2, opMax_2, opSl_list, opSl_map, opSl_tup, cutL_map, bnd_ok, bnd_ex, ofR_ok, ofR_ex, SZ_eq, kC_ap, slot_c0, slot_cs, kV_ap, frR_ok, kOk_ap, k1_ap, k2_ap, e1_ap, okR_ok, e2a_ok, e2b_ok, e2a_ex, e2b_ex, e2_ap, eMv_ap, cpk_ok, eCp_ap, eFz_ap, kNil_ap, kCons_ap, eNil_ap, ecb_ok, ecb_ex, eca_ok, eca_ex, eCons_ap, eBor_ap, rT_ok, kCall_ap, rE_ok, rE_ex, rA_ok, eCall_ap, takeA_nil, tkc_ok, takeA_own, takeA_bor, putA_nil, putA_own, putA_bor, allF_nil, allF_cons, tV_ap, tVK_ap, tB_ap, tBK_ap, tNot_ap, tan_t, tan_f, tan_ex, tor_t, tor_f, tor_ex, tAnd_ap, tOr_ap, isB_bl, truth_bl, truth_lst, truth_list, truth_int, ean_t, ean_f, eAnd_ap, eor_t, eor_f, eOr_ap, eNot_ap, ifk_t, ifk_f, ifk_ex, eIf_ap, chk_t, chk_f, kCh_ap, kN_ap, eN_ap, ownsA_nil, ownsA_own, kTup_ap, kLst_ap, eTup_ap, eLst_ap, kIsi_ap, kSl_ap, eSl_ap, parI_ok, kPart_ap, kNoPart_ap, kRev_ap, gN_ap, gTp_tup, gCs_cons, gNl_nil, iIt_ap, items_list, items_tuple, iRange1_ap, rg1_ok, iRange2_ap, rg2_ok, tYesF_ap, nxt_nx, nxt_rt, nxt_ex, nxt_bk, nxt_ct, sSeq_ap, sNil_ap, sBk_ap, sCt_ap, sRaise_ap, sExpr_ap, sRet_ap, sRetN_ap, ifs_t, ifs_f, ifs_ex, sIf_ap, sSet_ap, sTgt_ap, kild_nx, kild_ct, kild_rt, kild_bk, kild_ex, kill_ap, wipe_nil, wipe_cons, app0_ok, isLst_ok, sApp0_ap, sFor_ap, sForE_ap, eLc_ap, back_nil, back_cons, bk1_none, bk1_fr, bk1_lst, endD_rt, endD_nx, endD_ex, semD_1, semD_2, semD_3, semD_4, semD_5, semD_6, semD_7, semD_8, outs_nil, outs_cons, frO_fr, opAdd_i, opAddI_i, opSub_i, opMod_i, opFdiv_i, opMul_r, opMul_l, opPow_i, opEq_i, opNe_i, opLt_i, opGt_i, opLe_i, opGe_i, opNeg_i, opLen_list, opLen_tup, opLen_lst, opIx_list, opIx_tup, opIx_lst, frOp_ap, onlyFr_fr, dat_fr, dat_lst, datL_nil, datL_fr, datL_lst, allFr_nil, allFr_cons, asS_list, asS_tup, opList_ap, opTuple_ap, ixN_nat, atI_0, atI_1, atI_2, atI_3, atI_4, atI_map, atI_int, pV_ap, getAt_ap, getP_nil, getP_ix, setAt_ap, setP_nil, setP_ix, pix_ok, pIx_ap, six_ok, sSetIx_ap, pp0_ok, ePop_ap, par2_ok, sPar_ap, aug1_ok, sAug_ap, opIsN_ap, isNoT_none, isNoT_int, isNoT_list, isNoT_tup, isNoT_lst, typT_fr, typT_lst, typD_none, typD_bool, typD_int, typD_str, typD_list, typD_tuple, isa_NoneType_bool, isa_NoneType_int, isa_NoneType_str, isa_NoneType_list, isa_NoneType_tuple, isa_NoneType_dict, isa_bool_bool, isa_bool_int, isa_bool_str, isa_bool_list, isa_bool_tuple, isa_bool_dict, isa_int_bool, isa_int_int, isa_int_str, isa_int_list, isa_int_tuple, isa_int_dict, isa_str_bool, isa_str_int, isa_str_str, isa_str_list, isa_str_tuple, isa_str_dict, isa_list_bool, isa_list_int, isa_list_str, isa_list_list, isa_list_tuple, isa_list_dict, isa_tuple_bool, isa_tuple_int, isa_tuple_str, isa_tuple_list, isa_tuple_tuple, isa_tuple_dict, isa_dict_bool, isa_dict_int, isa_dict_str, isa_dict_list, isa_dict_tuple, isa_dict_dict, opEq_emp, opEq_fe, opIn_ints, Option.bind_some, Option.map_some, List.map_cons, List.map_nil, List.cons_append, List.nil_append, List.append_nil, List.replicate, List.length_cons, List.length_nil, List.set_cons_succ, List.set_cons_zero, Nat.lt_add_one, if_true, if_false, Nat.reduceAdd, Nat.reduceLT, Nat.reduceLeDiff, List.not_mem_nil, List.mem_cons, Nat.reduceEqDiff, or_false, or_true, false_or, true_or, Bool.not_true, Bool.not_false, Bool.false_eq_true, reduceIte, Option.bind_eq_bind, Int.reduceAdd, Int.reduceSub, Int.reduceMul, Int.reduceLT, Int.reduceLE, Int.reduceNeg, Int.cast_ofNat_Int, Int.natCast_one, Int.natCast_zero, Int.reduceEq, Int.reduceNe, Int.toNat_natCast, Int.reduceToNat, Int.reducePow, List.isEmpty_nil, List.isEmpty_cons, List.getElem?_cons_succ, List.getElem?_cons_zero, reduceCtorEq, Nat.succ_eq_add_one, Nat.add_zero, Nat.zero_add, and_self, and_true, true_and, decide_true, decide_false, List.reverse_cons, List.reverse_nil, Option.map_eq_map, Bool.not_eq_true, Bool.not_eq_false, Bool.xor_false, Bool.xor_true, Bool.false_xor, Bool.true_xor, Nat.reduceSub, List.dropLast_cons₂, List.dropLast_singleton, decide_eq_true_eq, List.length_map, Nat.zero_le, e1, opNe_str]
      exact ⟨_, rfl, rfl⟩)
  exact e
abbrev five : D := .list [.int 0, .int 1, .int 2, .int 3, .int 4]
abbrev four : D := .list [.int 0, .int 1, .int 2, .int 3]
theorem r57 : ∃ os, law_refused_sem [.fr (lk 5 7), .fr five, .fr five] = some (.ok (.fr (.str "large")) os) := ⟨_, rfl⟩
theorem r510 : ∃ os, law_refused_sem [.fr (lk 5 10), .fr five, .fr five] = some (.ok (.fr (.str "large")) os) := ⟨_, rfl⟩
theorem r410 : ∃ os, law_refused_sem [.fr (lk 4 10), .fr four, .fr four] = some (.ok (.fr (.str "")) os) := ⟨_, rfl⟩
theorem r54 : ∃ os, law_refused_sem [.fr (lk 5 10), .fr five, .fr four] = some (.ok (.fr (.str "code")) os) := ⟨_, rfl⟩
theorem r56 : ∃ os, law_refused_sem [.fr (lk 5 6), .fr five, .fr five] = some (.ok (.fr (.str "")) os) := ⟨_, rfl⟩
theorem opEq_str {a : Str} : opEq (.fr (.str a)) (.fr (.str a)) = some (.fr (.bool true)) := opEq_self rfl
theorem law_ok (ns : List Int) (hns : ns.length ≤ 63) : ∃ os, law_sem [.fr (.list (ns.map .int))] = some (.ok (.fr (.bool true)) os) := by
  obtain ⟨ms, hm, en⟩ := numbers_ok ns hns
  obtain ⟨p, b, i, h0, hp, h2, hb, hn, hi, el⟩ := lock_ok ms hm 0 (by decide)
  have l4 : ∃ i', 0 ≤ i' ∧ law_l4 [some (.fr (.list (ns.map .int))), some (Dr ms i), some (.fr (lk p b)), none, none, none, none, none, none, none, none, none, none] = some (.nx [some (.fr (.list (ns.map .int))), some (Dr ms i'), some (.fr (lk p b)), none, none, none, none, none, none, none, none, none, none]) := by
    unfold law_l4
    obtain ⟨ρ', e, i', hi', rfl⟩ := for_rng (ρ := [some (.fr (.list (ns.map .int))), some (Dr ms i), some (.fr (lk p b)), none, none, none, none, none, none, none, none, none, none]) (fi := iRange1 (eCons (kOk (kC (.int 8))) eNil)) (g := gN 3) (fb := law_b3) (n := 8) (ρ1 := [some (.fr (.list (ns.map .int))), some (Dr ms i), some (.fr (lk p b)), none, none, none, none, none, none, none, none, none, none])
      (by simp only [gsx_ok, gSi_ap, sxf_ok, sxe_ok, sSetIxE_ap, sx0_ok, sExt0_ap, par3_ok, sPar3_ap, kMt_ap, kLenSet_ap, iRange3_ap, opCount_fr, dat_map, opEq_lists, opEq_2, opNe_bl, opEq_bl, datL_map, sTry_ap, tryR_nx, tryR_rt, tryR_ex, hdl_t, hdl_f, handle_nil, handle_ap, asL_list, asL_map, opSum_fr, opSum_lst, opMin_2, opMax_2, opSl_list, opSl_map, opSl_tup, cutL_map, bnd_ok, bnd_ex, ofR_ok, ofR_ex, SZ_eq, kC_ap, slot_c0, slot_cs, kV_ap, frR_ok, kOk_ap, k1_ap, k2_ap, e1_ap, okR_ok, e2a_ok, e2b_ok, e2a_ex, e2b_ex, e2_ap, eMv_ap, cpk_ok, eCp_ap, eFz_ap, kNil_ap, kCons_ap, eNil_ap, ecb_ok, ecb_ex, eca_ok, eca_ex, eCons_ap, eBor_ap, rT_ok, kCall_ap, rE_ok, rE_ex, rA_ok, eCall_ap, takeA_nil, tkc_ok, takeA_own, takeA_bor, putA_nil, putA_own, putA_bor, allF_nil, allF_cons, tV_ap, tVK_ap, tB_ap, tBK_ap, tNot_ap, tan_t, tan_f, tan_ex, tor_t, tor_f, tor_ex, tAnd_ap, tOr_ap, isB_bl, truth_bl, truth_lst, truth_list, truth_int, ean_t, ean_f, eAnd_ap, eor_t, eor_f, eOr_ap, eNot_ap, ifk_t, ifk_f, ifk_ex, eIf_ap, chk_t, chk_f, kCh_ap, kN_ap, eN_ap, ownsA_nil, ownsA_own, kTup_ap, kLst_ap, eTup_ap, eLst_ap, kIsi_ap, kSl_ap, eSl_ap, parI_ok, kPart_ap, kNoPart_ap, kRev_ap, gN_ap, gTp_tup, gCs_cons, gNl_nil, iIt_ap, items_list, items_tuple, iRange1_ap, rg1_ok, iRange2_ap, rg2_ok, tYesF_ap, nxt_nx, nxt_rt, nxt_ex, nxt_bk, nxt_ct, sSeq_ap, sNil_ap, sBk_ap, sCt_ap, sRaise_ap, sExpr_ap, sRet_ap, sRetN_ap, ifs_t, ifs_f, ifs_ex, sIf_ap, sSet_ap, sTgt_ap, kild_nx, kild_ct, kild_rt, kild_bk, kild_ex, kill_ap, wipe_nil, wipe_cons, app0_ok, isLst_ok, sApp0_ap, sFor_ap, sForE_ap, eLc_ap, back_nil, back_cons, bk1_none, bk1_fr, bk1_lst, endD_rt, endD_nx, endD_ex, semD_1, semD_2, semD_3, semD_4, semD_5, semD_6, semD_7, semD_8, outs_nil, outs_cons, frO_fr, opAdd_i, opAddI_i, opSub_i, opMod_i, opFdiv_i, opMul_r, opMul_l, opPow_i, opEq_i, opNe_i, opLt_i, opGt_i, opLe_i, opGe_i, opNeg_i, opLen_list, opLen_tup, opLen_lst, opIx_list, opIx_tup, opIx_lst, frOp_ap, onlyFr_fr, dat_fr, dat_lst, datL_nil, datL_fr, datL_lst, allFr_nil, allFr_cons, asS_list, asS_tup, opList_ap, opTuple_ap, ixN_nat, atI_0, atI_1, atI_2, atI_3, atI_4, atI_map, atI_int, pV_ap, getAt_ap, getP_nil, getP_ix, setAt_ap, setP_nil, setP_ix, pix_ok, pIx_ap, six_ok, sSetIx_ap, pp0_ok, ePop_ap, par2_ok, sPar_ap, aug1_ok, sAug_ap, opIsN_ap, isNoT_none, isNoT_int, isNoT_list, isNoT_tup, isNoT_lst, typT_fr, typT_lst, typD_none, typD_bool, typD_int, typD_str, typD_list, typD_tuple, isa_NoneType_bool, isa_NoneType_int, isa_NoneType_str, isa_NoneType_list, isa_NoneType_tuple, isa_NoneType_dict, isa_bool_bool, isa_bool_int, isa_bool_str, isa_bool_list, isa_bool_tuple, isa_bool_dict, isa_int_bool, isa_int_int, isa_int_str, isa_int_list, isa_int_tuple, isa_int_dict, isa_str_bool, isa_str_int, isa_str_str, isa_str_list, isa_str_tuple, isa_str_dict, isa_list_bool, isa_list_int, isa_list_str, isa_list_list, isa_list_tuple, isa_list_dict, isa_tuple_bool, isa_tuple_int, isa_tuple_str, isa_tuple_list, isa_tuple_tuple, isa_tuple_dict, isa_dict_bool, isa_dict_int, isa_dict_str, isa_dict_list, isa_dict_tuple, isa_dict_dict, opEq_emp, opEq_fe, opIn_ints, Option.bind_some, Option.map_some, List.map_cons, List.map_nil, List.cons_append, List.nil_append, List.append_nil, List.replicate, List.length_cons, List.length_nil, List.set_cons_succ, List.set_cons_zero, Nat.lt_add_one, if_true, if_false, Nat.reduceAdd, Nat.reduceLT, Nat.reduceLeDiff, List.not_mem_nil, List.mem_cons, Nat.reduceEqDiff, or_false, or_true, false_or, true_or, Bool.not_true, Bool.not_false, Bool.false_eq_true, reduceIte, Option.bind_eq_bind, Int.reduceAdd, Int.reduceSub, Int.reduceMul, Int.reduceLT, Int.reduceLE, Int.reduceNeg, Int.cast_ofNat_Int, Int.natCast_one, Int.natCast_zero, Int.reduceEq, Int.reduceNe, Int.toNat_natCast, Int.reduceToNat, Int.reducePow, List.isEmpty_nil, List.isEmpty_cons, List.getElem?_cons_succ, List.getElem?_cons_zero, reduceCtorEq, Nat.succ_eq_add_one, Nat.add_zero, Nat.zero_add, and_self, and_true, true_and, decide_true, decide_false, List.reverse_cons, List.reverse_nil, Option.map_eq_map, Bool.not_eq_true, Bool.not_eq_false, Bool.xor_false, Bool.xor_true, Bool.false_xor, Bool.true_xor, Nat.reduceSub, List.dropLast_cons₂, List.dropLast_singleton, decide_eq_true_eq, List.length_map, Nat.zero_le])
      (fun k ρ => ∃ i', 0 ≤ i' ∧ ρ = [some (.fr (.list (ns.map .int))), some (Dr ms i'), some (.fr (lk p b)), none, none, none, none, none, none, none, none, none, none]) ⟨i, hi, rfl⟩
      (fun k ρ hk ⟨j, hj, e⟩ => by
        subst e
        obtain ⟨j', hj', e⟩ := body_ok ms hm h0 hp h2 hb hn (.fr (.list (ns.map .int))) j hj (.int k)
        simp only [gsx_ok, gSi_ap, sxf_ok, sxe_ok, sSetIxE_ap, sx0_ok, sExt0_ap, par3_ok, sPar3_ap, kMt_ap, kLenSet_ap, iRange3_ap, opCount_fr, dat_map, opEq_lists, opEq_2, opNe_bl, opEq_bl, datL_map, sTry_ap, tryR_nx, tryR_rt, tryR_ex, hdl_t, hdl_f, handle_nil, handle_ap, asL_list, asL_map, opSum_fr, opSum_lst, opMin_2, opMax_2, opSl_list, opSl_map, opSl_tup, cutL_map, bnd_ok, bnd_ex, ofR_ok, ofR_ex, SZ_eq, kC_ap, slot_c0, slot_cs, kV_ap, frR_ok, kOk_ap, k1_ap, k2_ap, e1_ap, okR_ok, e2a_ok, e2b_ok, e2a_ex, e2b_ex, e2_ap, eMv_ap, cpk_ok, eCp_ap, eFz_ap, kNil_ap, kCons_ap, eNil_ap, ecb_ok, ecb_ex, eca_ok, eca_ex, eCons_ap, eBor_ap, rT_ok, kCall_ap, rE_ok, rE_ex, rA_ok, eCall_ap, takeA_nil, tkc_ok, takeA_own, takeA_bor, putA_nil, putA_own, putA_bor, allF_nil, allF_cons, tV_ap, tVK_ap, tB_ap, tBK_ap, tNot_ap, tan_t, tan_f, tan_ex, tor_t, tor_f, tor_ex, tAnd_ap, tOr_ap, isB_bl, truth_bl, truth_lst, truth_list, truth_int, ean_t, ean_f, eAnd_ap, eor_t, eor_f, eOr_ap, eNot_ap, ifk_t, ifk_f, ifk_ex, eIf_ap, chk_t, chk_f, kCh_ap, kN_ap, eN_ap, ownsA_nil, ownsA_own, kTup_ap, kLst_ap, eTup_ap, eLst_ap, kIsi_ap, kSl_ap, eSl_ap, parI_ok, kPart_ap, kNoPart_ap, kRev_ap, gN_ap, gTp_tup, gCs_cons, gNl_nil, iIt_ap, items_list, items_tuple, iRange1_ap, rg1_ok, iRange2_ap, rg2_ok, tYesF_ap, nxt_nx, nxt_rt, nxt_ex, nxt_bk, nxt_ct, sSeq_ap, sNil_ap, sBk_ap, sCt_ap, sRaise_ap, sExpr_ap, sRet_ap, sRetN_ap, ifs_t, ifs_f, ifs_ex, sIf_ap, sSet_ap, sTgt_ap, kild_nx, kild_ct, kild_rt, kild_bk, kild_ex, kill_ap, wipe_nil, wipe_cons, app0_ok, isLst_ok, sApp0_ap, sFor_ap, sForE_ap, eLc_ap, back_nil, back_cons, bk1_none, bk1_fr, bk1_lst, endD_rt, endD_nx, endD_ex, semD_1, semD_2, semD_3, semD_4, semD_5, semD_6, semD_7, semD_8, outs_nil, outs_cons, frO_fr, opAdd_i, opAddI_i, opSub_i, opMod_i, opFdiv_i, opMul_r, opMul_l, opPow_i, opEq_i, opNe_i, opLt_i, opGt_i, opLe_i, opGe_i, opNeg_i, opLen_list, opLen_tup, opLen_lst, opIx_list, opIx_tup, opIx_lst, frOp_ap, onlyFr_fr, dat_fr, dat_lst, datL_nil, datL_fr, datL_lst, allFr_nil, allFr_cons, asS_list, asS_tup, opList_ap, opTuple_ap, ixN_nat, atI_0, atI_1, atI_2, atI_3, atI_4, atI_map, atI_int, pV_ap, getAt_ap, getP_nil, getP_ix, setAt_ap, setP_nil, setP_ix, pix_ok, pIx_ap, six_ok, sSetIx_ap, pp0_ok, ePop_ap, par2_ok, sPar_ap, aug1_ok, sAug_ap, opIsN_ap, isNoT_none, isNoT_int, isNoT_list, isNoT_tup, isNoT_lst, typT_fr, typT_lst, typD_none, typD_bool, typD_int, typD_str, typD_list, typD_tuple, isa_NoneType_bool, isa_NoneType_int, isa_NoneType_str, isa_NoneType_list, isa_NoneType_tuple, isa_NoneType_dict, isa_bool_bool, isa_bool_int, isa_bool_str, isa_bool_list, isa_bool_tuple, isa_bool_dict, isa_int_bool, isa_int_int, isa_int_str, isa_int_list, isa_int_tuple, isa_int_dict, isa_str_bool, isa_str_int, isa_str_str, isa_str_list, isa_str_tuple, isa_str_dict, isa_list_bool, isa_list_int, isa_list_str, isa_list_list, isa_list_tuple, isa_list_dict, isa_tuple_bool, isa_tuple_int, isa_tuple_str, isa_tuple_list, isa_tuple_tuple, isa_tuple_dict, isa_dict_bool, isa_dict_int, isa_dict_str, isa_dict_list, isa_dict_tuple, isa_dict_dict, opEq_emp, opEq_fe, opIn_ints, Option.bind_some, Option.map_some, List.map_cons, List.map_nil, List.cons_append, List.nil_append, List.append_nil, List.replicate, List.length_cons, List.length_nil, List.set_cons_succ, List.set_cons_zero, Nat.lt_add_one, if_true, if_false, Nat.reduceAdd, Nat.reduceLT, Nat.reduceLeDiff, List.not_mem_nil, List.mem_cons, Nat.reduceEqDiff, or_false, or_true, false_or, true_or, Bool.not_true, Bool.not_false, Bool.false_eq_true, reduceIte, Option.bind_eq_bind, Int.reduceAdd, Int.reduceSub, Int.reduceMul, Int.reduceLT, Int.reduceLE, Int.reduceNeg, Int.cast_ofNat_Int, Int.natCast_one, Int.natCast_zero, Int.reduceEq, Int.reduceNe, Int.toNat_natCast, Int.reduceToNat, Int.reducePow, List.isEmpty_nil, List.isEmpty_cons, List.getElem?_cons_succ, List.getElem?_cons_zero, reduceCtorEq, Nat.succ_eq_add_one, Nat.add_zero, Nat.zero_add, and_self, and_true, true_and, decide_true, decide_false, List.reverse_cons, List.reverse_nil, Option.map_eq_map, Bool.not_eq_true, Bool.not_eq_false, Bool.xor_false, Bool.xor_true, Bool.false_xor, Bool.true_xor, Nat.reduceSub, List.dropLast_cons₂, List.dropLast_singleton, decide_eq_true_eq, List.length_map, Nat.zero_le, e]
        exact ⟨_, rfl, j', hj', rfl⟩)
    exact ⟨i', hi', e⟩
  obtain ⟨i1, hi1, e4⟩ := l4
  obtain ⟨c, i2, hc, hi2, ec⟩ := code_ok ms hm i1 p b hi1 h0 hp h2 hb
  obtain ⟨_, q1⟩ := r57
  obtain ⟨_, q2⟩ := r510
  obtain ⟨_, q3⟩ := r410
  obtain rfl := os_3 q3
  obtain ⟨_, q4⟩ := r54
  obtain rfl := os_3 q4
  obtain ⟨_, q5⟩ := r56
  have c4 : cutL [PyData.int 0, .int 1, .int 2, .int 3, .int 4] none (some 4) = [.int 0, .int 1, .int 2, .int 3] := rfl
  unfold law_sem law_b
  simp only [gsx_ok, gSi_ap, sxf_ok, sxe_ok, sSetIxE_ap, sx0_ok, sExt0_ap, par3_ok, sPar3_ap, kMt_ap, kLenSet_ap, iRange3_ap, opCount_fr, dat_map, opEq_lists, opEq_2, opNe_bl, opEq_bl, datL_map, sTry_ap, tryR_nx, tryR_rt, tryR_ex, hdl_t, hdl_f, handle_nil, handle_ap, asL_list, asL_map, opSum_fr, opSum_lst, opMin_2, opMax_2, opSl_list, opSl_map, opSl_tup, cutL_map, bnd_ok, bnd_ex, ofR_ok, ofR_ex, SZ_eq, kC_ap, slot_c0, slot_cs, kV_ap, frR_ok, kOk_ap, k1_ap, k2_ap, e1_ap, okR_ok, e2a_ok, e2b_ok, e2a_ex, e2b_ex, e2_ap, eMv_ap, cpk_ok, eCp_ap, eFz_ap, kNil_ap, kCons_ap, eNil_ap, ecb_ok, ecb_ex, eca_ok, eca_ex, eCons_ap, eBor_ap, rT_ok, kCall_ap, rE_ok, rE_ex, rA_ok, eCall_ap, takeA_nil, tkc_ok, takeA_own, takeA_bor, putA_nil, putA_own, putA_bor, allF_nil, allF_cons, tV_ap, tVK_ap, tB_ap, tBK_ap, tNot_ap, tan_t, tan_f, tan_ex, tor_t, tor_f, tor_ex, tAnd_ap, tOr_ap, isB_bl, truth_bl, truth_lst, truth_list, truth_int, ean_t, ean_f, eAnd_ap, eor_t, eor_f, eOr_ap, eNot_ap, ifk_t, ifk_f, ifk_ex, eIf_ap, chk_t, chk_f, kCh_ap, kN_ap, eN_ap, ownsA_nil, ownsA_own, kTup_ap, kLst_ap, eTup_ap, eLst_ap, kIsi_ap, kSl_ap, eSl_ap, parI_ok, kPart_ap, kNoPart_ap, kRev_ap, gN_ap, gTp_tup, gCs_cons, gNl_nil, iIt_ap, items_list, items_tuple, iRange1_ap, rg1_ok, iRange2_ap, rg2_ok, tYesF_ap, nxt_nx, nxt_rt, nxt_ex, nxt_bk, nxt_ct, sSeq_ap, sNil_ap, sBk_ap, sCt_ap, sRaise_ap, sExpr_ap, sRet_ap, sRetN_ap, ifs_t, ifs_f, ifs_ex, sIf_ap, sSet_ap, sTgt_ap, kild_nx, kild_ct, kild_rt, kild_bk, kild_ex, kill_ap, wipe_nil, wipe_cons, app0_ok, isLst_ok, sApp0_ap, sFor_ap, sForE_ap, eLc_ap, back_nil, back_cons, bk1_none, bk1_fr, bk1_lst, endD_rt, endD_nx, endD_ex, semD_1, semD_2, semD_3, semD_4, semD_5, semD_6, semD_7, semD_8, outs_nil, outs_cons, frO_fr, opAdd_i, opAddI_i, opSub_i, opMod_i, opFdiv_i, opMul_r, opMul_l, opPow_i, opEq_i, opNe_i, opLt_i, opGt_i, opLe_i, opGe_i, opNeg_i, opLen_list, opLen_tup, opLen_lst, opIx_list, opIx_tup, opIx_lst, frOp_ap, onlyFr_fr, dat_fr, dat_lst, datL_nil, datL_fr, datL_lst, allFr_nil, allFr_cons, asS_list, asS_tup, opList_ap, opTuple_ap, ixN_nat, atI_0, atI_1, atI_2, atI_3, atI_4, atI_map, atI_int, pV_ap, getAt_ap, getP_nil, getP_ix, setAt_ap, setP_nil, setP_ix, pix_ok, pIx_ap, six_ok, sSetIx_ap, pp0_ok, ePop_ap, par2_ok, sPar_ap, aug1_ok, sAug_ap, opIsN_ap, isNoT_none, isNoT_int, isNoT_list, isNoT_tup, isNoT_lst, typT_fr, typT_lst, typD_none, typD_bool, typD_int, typD_str, typD_list, typD_tuple, isa_NoneType_bool, isa_NoneType_int, isa_NoneType_str, isa_NoneType_list, isa_NoneType_tuple, isa_NoneType_dict, isa_bool_bool, isa_bool_int, isa_bool_str, isa_bool_list, isa_bool_tuple, isa_bool_dict, isa_int_bool, isa_int_int, isa_int_str, isa_int_list, isa_int_tuple, isa_int_dict, isa_str_bool, isa_str_int, isa_str_str, isa_str_list, isa_str_tuple, isa_str_dict, isa_list_bool, isa_list_int, isa_list_str, isa_list_list, isa_list_tuple, isa_list_dict, isa_tuple_bool, isa_tuple_int, isa_tuple_str, isa_tuple_list, isa_tuple_tuple, isa_tuple_dict, isa_dict_bool, isa_dict_int, isa_dict_str, isa_dict_list, isa_dict_tuple, isa_dict_dict, opEq_emp, opEq_fe, opIn_ints, Option.bind_some, Option.map_some, List.map_cons, List.map_nil, List.cons_append, List.nil_append, List.append_nil, List.replicate, List.length_cons, List.length_nil, List.set_cons_succ, List.set_cons_zero, Nat.lt_add_one, if_true, if_false, Nat.reduceAdd, Nat.reduceLT, Nat.reduceLeDiff, List.not_mem_nil, List.mem_cons, Nat.reduceEqDiff, or_false, or_true, false_or, true_or, Bool.not_true, Bool.not_false, Bool.false_eq_true, reduceIte, Option.bind_eq_bind, Int.reduceAdd, Int.reduceSub, Int.reduceMul, Int.reduceLT, Int.reduceLE, Int.reduceNeg, Int.cast_ofNat_Int, Int.natCast_one, Int.natCast_zero, Int.reduceEq, Int.reduceNe, Int.toNat_natCast, Int.reduceToNat, Int.reducePow, List.isEmpty_nil, List.isEmpty_cons, List.getElem?_cons_succ, List.getElem?_cons_zero, reduceCtorEq, Nat.succ_eq_add_one, Nat.add_zero, Nat.zero_add, and_self, and_true, true_and, decide_true, decide_false, List.reverse_cons, List.reverse_nil, Option.map_eq_map, Bool.not_eq_true, Bool.not_eq_false, Bool.xor_false, Bool.xor_true, Bool.false_xor, Bool.true_xor, Nat.reduceSub, List.dropLast_cons₂, List.dropLast_singleton, decide_eq_true_eq, List.length_map, Nat.zero_le, en, fold_Dr, el, e4, ec, l6_ok h0 hp h2 hb hc, l8_ok, q1, q2, q3, q4, q5, c4, opNe_str, opEq_str]
  exact ⟨_, rfl⟩
end K31

set_option maxHeartbeats 0

namespace K31
open PySem PySem.Spec PyProof.Rows L2 Lv
def top (i : Nat) : Stmt := PySem.Challenge.pw_everyriddle_k31_answers_to_tries.main.body.getD i (.Pass ⟨0, 0, 0, 0⟩)
structure Fx (K : PySem.W.Frag) (mg : Str → Option Value) : Prop where
  d_is_number : DefAt K mg "is_number" (defArgs (top 5)) (defBody (top 5)) (defScope (top 5))
  d_check_lock : DefAt K mg "check_lock" (defArgs (top 8)) (defBody (top 8)) (defScope (top 8))
  d_is_code : DefAt K mg "is_code" (defArgs (top 9)) (defBody (top 9)) (defScope (top 9))
  d_check_code : DefAt K mg "check_code" (defArgs (top 10)) (defBody (top 10)) (defScope (top 10))
  d_number_of_codes : DefAt K mg "number_of_codes" (defArgs (top 11)) (defBody (top 11)) (defScope (top 11))
  d_check_size : DefAt K mg "check_size" (defArgs (top 12)) (defBody (top 12)) (defScope (top 12))
  d_answer_of : DefAt K mg "answer_of" (defArgs (top 13)) (defBody (top 13)) (defScope (top 13))
  d_answer : DefAt K mg "answer" (defArgs (top 14)) (defBody (top 14)) (defScope (top 14))
  d_law_mixed : DefAt K mg "_law_mixed" (defArgs (top 16)) (defBody (top 16)) (defScope (top 16))
  d_law_numbers : DefAt K mg "_law_numbers" (defArgs (top 17)) (defBody (top 17)) (defScope (top 17))
  d_law_draw : DefAt K mg "_law_draw" (defArgs (top 18)) (defBody (top 18)) (defScope (top 18))
  d_law_equal : DefAt K mg "_law_equal" (defArgs (top 19)) (defBody (top 19)) (defScope (top 19))
  d_law_all_equal : DefAt K mg "_law_all_equal" (defArgs (top 20)) (defBody (top 20)) (defScope (top 20))
  d_law_code : DefAt K mg "_law_code" (defArgs (top 21)) (defBody (top 21)) (defScope (top 21))
  d_law_answer : DefAt K mg "_law_answer" (defArgs (top 22)) (defBody (top 22)) (defScope (top 22))
  d_law_lock : DefAt K mg "_law_lock" (defArgs (top 23)) (defBody (top 23)) (defScope (top 23))
  d_law_how_many : DefAt K mg "_law_how_many" (defArgs (top 24)) (defBody (top 24)) (defScope (top 24))
  d_law_refused : DefAt K mg "_law_refused" (defArgs (top 25)) (defBody (top 25)) (defScope (top 25))
  d_law : DefAt K mg "law" (defArgs (top 26)) (defBody (top 26)) (defScope (top 26))
  z_bool : mg "bool" = none
  z_int : mg "int" = none
  z_isinstance : mg "isinstance" = none
  z_len : mg "len" = none
  z_list : mg "list" = none
  z_min : mg "min" = none
  z_range : mg "range" = none
  z_str : mg "str" = none
  z_sum : mg "sum" = none
  z_tuple : mg "tuple" = none
  g_WayError : mg "WayError" = some (.ref (He.ga K "WayError"))
  x_WayError : PySem.W.excIn K (He.ga K "WayError") He.veBase "ValueError.__new__" = true ∧ PySem.W.keepIn K (.ref (He.ga K "WayError")) = true ∧ PySem.W.subIn K (.ref (He.ga K "WayError")) (.type "BaseException") = some true ∧ PySem.W.typeIn K (.ref (He.ga K "WayError")) = some (.type "type")
  g_BadCode : mg "BadCode" = some (.ref (He.ga K "BadCode"))
  x_BadCode : PySem.W.excIn K (He.ga K "BadCode") He.veBase "ValueError.__new__" = true ∧ PySem.W.keepIn K (.ref (He.ga K "BadCode")) = true ∧ PySem.W.subIn K (.ref (He.ga K "BadCode")) (.type "BaseException") = some true ∧ PySem.W.typeIn K (.ref (He.ga K "BadCode")) = some (.type "type")
  g_TooLarge : mg "TooLarge" = some (.ref (He.ga K "TooLarge"))
  x_TooLarge : PySem.W.excIn K (He.ga K "TooLarge") He.veBase "ValueError.__new__" = true ∧ PySem.W.keepIn K (.ref (He.ga K "TooLarge")) = true ∧ PySem.W.subIn K (.ref (He.ga K "TooLarge")) (.type "BaseException") = some true ∧ PySem.W.typeIn K (.ref (He.ga K "TooLarge")) = some (.type "type")
  exm : ExOk K exTab
  i_MOST_CODES : ∃ t, mg "MOST_CODES" = some (.int 10000 t)
section
variable {P : Program} {w : World} {K : PySem.W.Frag} {mg : Str → Option Value} {base : Heap}
theorem sc_is_number : FnScope ["value", "low", "high"] ["value", "low", "high"] (defScope (top 5)) := ⟨rfl, rfl, rfl, by decide +kernel, rfl, by decide +kernel, by decide +kernel⟩
theorem ok_is_number (F : Fx K mg) : FOk P w K mg base 1 "is_number" ["value", "low", "high"] is_number_sem := by
  have nd := sc_is_number.nd
  refine fok F.d_is_number sc_is_number rfl rfl (fun _ _ _ _ _ _ us hl => match us, hl with | [_, _, _], _ => rfl) fun cdv A outer s H E hr => ?_
  have tk := tk_def (P := P) (w := w) (K := K) (mg := mg) (base := base) (N := ["value", "low", "high"]) (qual := "is_number") (scope := defScope (top 5)) (f := He.ga K "is_number") (cdv := cdv) (A := A) (outer := outer) (s := s) (H := H) (E := E)
  exact (sb_one (ss_ret (ee_fz (ee_and (ee_k (ek_isi rfl F.z_isinstance (pe_bltn rfl F.z_int (by decide +kernel) rfl) (by decide) (ek_var (pv 0)))) (ee_and (ee_not (ee_k (ek_isi rfl F.z_isinstance (pe_bltn rfl F.z_bool (by decide +kernel) rfl) (by decide) (ek_var (pv 0))))) (ee_one (ee_k (ek_chain (op_leA hr.units) (op_leA hr.units) (ek_var (pv 1)) (ek_var (pv 0)) (ek_var (pv 2))))))))))
theorem sc_check_lock : FnScope ["lock"] ["lock"] (defScope (top 8)) := ⟨rfl, rfl, rfl, by decide +kernel, rfl, by decide +kernel, by decide +kernel⟩
theorem ok_check_lock (F : Fx K mg) : FOk P w K mg base 2 "check_lock" ["lock"] check_lock_sem := by
  have nd := sc_check_lock.nd
  refine fok F.d_check_lock sc_check_lock rfl rfl (fun _ _ _ _ _ _ us hl => match us, hl with | [_], _ => rfl) fun cdv A outer s H E hr => ?_
  have tk := tk_def (P := P) (w := w) (K := K) (mg := mg) (base := base) (N := ["lock"]) (qual := "check_lock") (scope := defScope (top 8)) (f := He.ga K "check_lock") (cdv := cdv) (A := A) (outer := outer) (s := s) (H := H) (E := E)
  exact (sb_one (ss_if (et_w (ew_or (et_not (et_valK (ek_isi rfl F.z_isinstance (pe_bltn rfl F.z_tuple (by decide +kernel) rfl) (by decide) (ek_var (pv 0))))) (ew_or (et_cmpK (op_neA hr.units) (ek_callB call_lenA rfl F.z_len PySem.boot_len (ak_cons (ek_var (pv 0)) ak_nil)) ek_int (nomark _)) (ew_or (et_not (et_valK (ek_callF (ok_is_number F) (hr.mono (by omega)) rfl (ak_cons (ek_ixK ix_A (ek_var (pv 0)) ek_int (fun _ _ => rfl)) (ak_cons ek_int (ak_cons ek_int ak_nil)))))) (ew_or1 (et_not (et_valK (ek_callF (ok_is_number F) (hr.mono (by omega)) rfl (ak_cons (ek_ixK ix_A (ek_var (pv 0)) ek_int (fun _ _ => rfl)) (ak_cons ek_int (ak_cons ek_int ak_nil))))))))))) (sb_one (ss_raise tk rfl (F.x_BadCode).1 F.g_BadCode (F.x_BadCode).2.1 (F.x_BadCode).2.2.1 (F.x_BadCode).2.2.2 rfl)) sb_nil))
theorem sc_is_code : FnScope ["lock", "value", "digit"] ["lock", "value"] (defScope (top 9)) := ⟨rfl, rfl, rfl, by decide +kernel, rfl, by decide +kernel, by decide +kernel⟩
theorem ok_is_code (F : Fx K mg) : FOk P w K mg base 2 "is_code" ["lock", "value"] is_code_sem := by
  have nd := sc_is_code.nd
  refine fok F.d_is_code sc_is_code rfl rfl (fun _ _ _ _ _ _ us hl => match us, hl with | [_, _], _ => rfl) fun cdv A outer s H E hr => ?_
  have tk := tk_def (P := P) (w := w) (K := K) (mg := mg) (base := base) (N := ["lock", "value", "digit"]) (qual := "is_code") (scope := defScope (top 9)) (f := He.ga K "is_code") (cdv := cdv) (A := A) (outer := outer) (s := s) (H := H) (E := E)
  exact (sb_cons (ss_if (et_w (ew_or (et_not (et_valK (ek_isi rfl F.z_isinstance (pe_bltn rfl F.z_list (by decide +kernel) rfl) (by decide) (ek_var (pv 1))))) (ew_or1 (et_cmpK (op_neA hr.units) (ek_callB call_lenA rfl F.z_len PySem.boot_len (ak_cons (ek_var (pv 1)) ak_nil)) (ek_ixK ix_A (ek_var (pv 0)) ek_int (fun _ _ => rfl)) (nomark _))))) (sb_one (ss_ret (ee_k ek_bl))) sb_nil)
  (sb_one (ss_ret (ee_fz (ee_not (ee_lc (own := [("digit", 2)]) (by decide) rfl nd (ei_seq (ee_k (ek_var (pv 1)))) (by kernel_rfl) (fun _ _ _ _ _ => (eg_name (pg_name nd rfl (by first | exact Or.inl rfl | exact Or.inr rfl)))) (fun _ _ _ _ _ => (ets_one (et_not (et_valK (ek_callF (ok_is_number F) (hr.mono (by omega)) rfl (ak_cons (ek_var (pv 2)) (ak_cons ek_int (ak_cons (ek_op2 op_subA op2_of (ek_ixK ix_A (ek_var (pv 0)) ek_int (fun _ _ => rfl)) ek_int) ak_nil)))))))) (fun _ _ _ _ _ => (ee_k (ek_var (pv 2))))))))))
theorem sc_check_code : FnScope ["lock", "value"] ["lock", "value"] (defScope (top 10)) := ⟨rfl, rfl, rfl, by decide +kernel, rfl, by decide +kernel, by decide +kernel⟩
theorem ok_check_code (F : Fx K mg) : FOk P w K mg base 3 "check_code" ["lock", "value"] check_code_sem := by
  have nd := sc_check_code.nd
  refine fok F.d_check_code sc_check_code rfl rfl (fun _ _ _ _ _ _ us hl => match us, hl with | [_, _], _ => rfl) fun cdv A outer s H E hr => ?_
  have tk := tk_def (P := P) (w := w) (K := K) (mg := mg) (base := base) (N := ["lock", "value"]) (qual := "check_code") (scope := defScope (top 10)) (f := He.ga K "check_code") (cdv := cdv) (A := A) (outer := outer) (s := s) (H := H) (E := E)
  exact (sb_one (ss_if (et_not (et_valK (ek_callF (ok_is_code F) (hr.mono (by omega)) rfl (ak_cons (ek_var (pv 0)) (ak_cons (ek_var (pv 1)) ak_nil))))) (sb_one (ss_raise tk rfl (F.x_BadCode).1 F.g_BadCode (F.x_BadCode).2.1 (F.x_BadCode).2.2.1 (F.x_BadCode).2.2.2 rfl)) sb_nil))
theorem sc_number_of_codes : FnScope ["lock", "many", "k"] ["lock"] (defScope (top 11)) := ⟨rfl, rfl, rfl, by decide +kernel, rfl, by decide +kernel, by decide +kernel⟩
theorem ok_number_of_codes (F : Fx K mg) : FOk P w K mg base 1 "number_of_codes" ["lock"] number_of_codes_sem := by
  have nd := sc_number_of_codes.nd
  refine fok F.d_number_of_codes sc_number_of_codes rfl rfl (fun _ _ _ _ _ _ us hl => match us, hl with | [_], _ => rfl) fun cdv A outer s H E hr => ?_
  have tk := tk_def (P := P) (w := w) (K := K) (mg := mg) (base := base) (N := ["lock", "many", "k"]) (qual := "number_of_codes") (scope := defScope (top 11)) (f := He.ga K "number_of_codes") (cdv := cdv) (A := A) (outer := outer) (s := s) (H := H) (E := E)
  exact (sb_cons (ss_set (i := 1) (by decide) nd rfl (by first | exact Or.inl rfl | exact Or.inr rfl) (ee_k ek_int))
  (sb_cons (ss_for (by decide) (passes_of rfl) rfl (ei_range1 rfl F.z_range (ae_cons (ee_k (ek_ixK ix_A (ek_var (pv 0)) ek_int (fun _ _ => rfl))) ae_nil)) (eg_name (pg_name nd rfl (by first | exact Or.inl rfl | exact Or.inr rfl))) (sb_kill [2] (sb_one (ss_set (i := 1) (by decide) nd rfl (by first | exact Or.inl rfl | exact Or.inr rfl) (ee_fz (ee_op2 op_mulA op2_of (ee_k (ek_var (pv 1))) (ee_k (ek_ixK ix_A (ek_var (pv 0)) ek_int (fun _ _ => rfl)))))))))
  (sb_one (ss_ret (ee_k (ek_var (pv 1)))))))
theorem sc_check_size : FnScope ["lock"] ["lock"] (defScope (top 12)) := ⟨rfl, rfl, rfl, by decide +kernel, rfl, by decide +kernel, by decide +kernel⟩
theorem ok_check_size (F : Fx K mg) : FOk P w K mg base 2 "check_size" ["lock"] check_size_sem := by
  have nd := sc_check_size.nd
  refine fok F.d_check_size sc_check_size rfl rfl (fun _ _ _ _ _ _ us hl => match us, hl with | [_], _ => rfl) fun cdv A outer s H E hr => ?_
  have tk := tk_def (P := P) (w := w) (K := K) (mg := mg) (base := base) (N := ["lock"]) (qual := "check_size") (scope := defScope (top 12)) (f := He.ga K "check_size") (cdv := cdv) (A := A) (outer := outer) (s := s) (H := H) (E := E)
  exact (sb_one (ss_if (et_cmpK (op_gtA hr.units) (ek_callF (ok_number_of_codes F) (hr.mono (by omega)) rfl (ak_cons (ek_var (pv 0)) ak_nil)) (ek_gint rfl F.i_MOST_CODES) (nomark _)) (sb_one (ss_raise tk rfl (F.x_TooLarge).1 F.g_TooLarge (F.x_TooLarge).2.1 (F.x_TooLarge).2.2.1 (F.x_TooLarge).2.2.2 rfl)) sb_nil))
theorem sc_answer_of : FnScope ["code", "tried", "right", "both", "k", "digit"] ["code", "tried"] (defScope (top 13)) := ⟨rfl, rfl, rfl, by decide +kernel, rfl, by decide +kernel, by decide +kernel⟩
theorem ok_answer_of (F : Fx K mg) : FOk P w K mg base 1 "answer_of" ["code", "tried"] answer_of_sem := by
  have nd := sc_answer_of.nd
  refine fok F.d_answer_of sc_answer_of rfl rfl (fun _ _ _ _ _ _ us hl => match us, hl with | [_, _], _ => rfl) fun cdv A outer s H E hr => ?_
  have tk := tk_def (P := P) (w := w) (K := K) (mg := mg) (base := base) (N := ["code", "tried", "right", "both", "k", "digit"]) (qual := "answer_of") (scope := defScope (top 13)) (f := He.ga K "answer_of") (cdv := cdv) (A := A) (outer := outer) (s := s) (H := H) (E := E)
  exact (sb_cons (ss_set (i := 2) (by decide) nd rfl (by first | exact Or.inl rfl | exact Or.inr rfl) (ee_fz (ee_callB call_lenA rfl F.z_len PySem.boot_len (ae_cons (ee_lc (own := [("k", 4)]) (by decide) rfl nd (ei_range1 rfl F.z_range (ae_cons (ee_k (ek_callB call_lenA rfl F.z_len PySem.boot_len (ak_cons (ek_var (pv 0)) ak_nil))) ae_nil)) (by kernel_rfl) (fun _ _ _ _ _ => (eg_name (pg_name nd rfl (by first | exact Or.inl rfl | exact Or.inr rfl)))) (fun _ _ _ _ _ => (ets_one (et_cmpK (op_eqA hr.units) (ek_ixK ix_A (ek_var (pv 0)) (ek_var (pv 4)) (fun _ _ => rfl)) (ek_ixK ix_A (ek_var (pv 1)) (ek_var (pv 4)) (fun _ _ => rfl)) (nomark _)))) (fun _ _ _ _ _ => (ee_k (ek_var (pv 4))))) ae_nil))))
  (sb_cons (ss_set (i := 3) (by decide) nd rfl (by first | exact Or.inl rfl | exact Or.inr rfl) (ee_fz (ee_callB (call_sumA rfl) rfl F.z_sum (by decide +kernel) (ae_cons (ee_lc (own := [("digit", 5)]) (by decide) rfl nd (ei_range1 rfl F.z_range (ae_cons (ee_k ek_int) ae_nil)) (by kernel_rfl) (fun _ _ _ _ _ => (eg_name (pg_name nd rfl (by first | exact Or.inl rfl | exact Or.inr rfl)))) (fun _ _ _ _ _ => ets_nil) (fun _ _ _ _ _ => (ee_k (ek_callB (call_minA rfl hr.units) rfl F.z_min (by decide +kernel) (ak_cons (ek_mt PySem.F.plainAttrs_list PySem.F.slot_list_count PySem.F.type_list_count (mt_countA hr.units) (.inl rfl) opCount_ty (ek_var (pv 0)) (ak_cons (ek_var (pv 5)) ak_nil)) (ak_cons (ek_mt PySem.F.plainAttrs_list PySem.F.slot_list_count PySem.F.type_list_count (mt_countA hr.units) (.inl rfl) opCount_ty (ek_var (pv 1)) (ak_cons (ek_var (pv 5)) ak_nil)) ak_nil)))))) ae_nil))))
  (sb_one (ss_ret (ee_k (ek_tup (ak_cons (ek_var (pv 2)) (ak_cons (ek_op2 op_subA op2_of (ek_var (pv 3)) (ek_var (pv 2))) ak_nil))))))))
theorem sc_answer : FnScope ["lock", "code", "tried"] ["lock", "code", "tried"] (defScope (top 14)) := ⟨rfl, rfl, rfl, by decide +kernel, rfl, by decide +kernel, by decide +kernel⟩
theorem ok_answer (F : Fx K mg) : FOk P w K mg base 4 "answer" ["lock", "code", "tried"] answer_sem := by
  have nd := sc_answer.nd
  refine fok F.d_answer sc_answer rfl rfl (fun _ _ _ _ _ _ us hl => match us, hl with | [_, _, _], _ => rfl) fun cdv A outer s H E hr => ?_
  have tk := tk_def (P := P) (w := w) (K := K) (mg := mg) (base := base) (N := ["lock", "code", "tried"]) (qual := "answer") (scope := defScope (top 14)) (f := He.ga K "answer") (cdv := cdv) (A := A) (outer := outer) (s := s) (H := H) (E := E)
  exact (sb_cons (ss_expr (ee_callF tk (ok_check_lock F) (hr.mono (by omega)) rfl (ae_cons (ee_k (ek_var (pv 0))) ae_nil)))
  (sb_cons (ss_expr (ee_callF tk (ok_check_code F) (hr.mono (by omega)) rfl (ae_cons (ee_k (ek_var (pv 0))) (ae_cons (ee_k (ek_var (pv 1))) ae_nil))))
  (sb_cons (ss_expr (ee_callF tk (ok_check_code F) (hr.mono (by omega)) rfl (ae_cons (ee_k (ek_var (pv 0))) (ae_cons (ee_k (ek_var (pv 2))) ae_nil))))
  (sb_cons (ss_expr (ee_callF tk (ok_check_size F) (hr.mono (by omega)) rfl (ae_cons (ee_k (ek_var (pv 0))) ae_nil)))
  (sb_one (ss_ret (ee_k (ek_callF (ok_answer_of F) (hr.mono (by omega)) rfl (ak_cons (ek_var (pv 1)) (ak_cons (ek_var (pv 2)) ak_nil))))))))))
theorem sc_law_mixed : FnScope ["number", "k", "step"] ["number", "k"] (defScope (top 16)) := ⟨rfl, rfl, rfl, by decide +kernel, rfl, by decide +kernel, by decide +kernel⟩
theorem ok_law_mixed (F : Fx K mg) : FOk P w K mg base 1 "_law_mixed" ["number", "k"] law_mixed_sem := by
  have nd := sc_law_mixed.nd
  refine fok F.d_law_mixed sc_law_mixed rfl rfl (fun _ _ _ _ _ _ us hl => match us, hl with | [_, _], _ => rfl) fun cdv A outer s H E hr => ?_
  have tk := tk_def (P := P) (w := w) (K := K) (mg := mg) (base := base) (N := ["number", "k", "step"]) (qual := "_law_mixed") (scope := defScope (top 16)) (f := He.ga K "_law_mixed") (cdv := cdv) (A := A) (outer := outer) (s := s) (H := H) (E := E)
  exact (sb_cons (ss_set (i := 2) (by decide) nd rfl (by first | exact Or.inl rfl | exact Or.inr rfl) (ee_k (ek_op2 op_modA op2_of (ek_op2 op_addA op2_of (ek_op2 op_addA op2_of (ek_op2 op_mulA op2_of (ek_var (pv 0)) ek_int) (ek_op2 op_mulA op2_of (ek_var (pv 1)) ek_int)) ek_int) ek_int)))
  (sb_one (ss_ret (ee_k (ek_op2 op_modA op2_of (ek_op2 op_addA op2_of (ek_op2 op_mulA op2_of (ek_var (pv 2)) (ek_op2 op_addA op2_of (ek_op2 op_fdivA op2_of (ek_var (pv 2)) ek_int) ek_int)) (ek_var (pv 1))) ek_int)))))
theorem sc_law_numbers : FnScope ["script", "numbers", "cell", "rest", "k"] ["script"] (defScope (top 17)) := ⟨rfl, rfl, rfl, by decide +kernel, rfl, by decide +kernel, by decide +kernel⟩
theorem ok_law_numbers (F : Fx K mg) : FOk P w K mg base 2 "_law_numbers" ["script"] law_numbers_sem := by
  have nd := sc_law_numbers.nd
  refine fok F.d_law_numbers sc_law_numbers rfl rfl (fun _ _ _ _ _ _ us hl => match us, hl with | [_], _ => rfl) fun cdv A outer s H E hr => ?_
  have tk := tk_def (P := P) (w := w) (K := K) (mg := mg) (base := base) (N := ["script", "numbers", "cell", "rest", "k"]) (qual := "_law_numbers") (scope := defScope (top 17)) (f := He.ga K "_law_numbers") (cdv := cdv) (A := A) (outer := outer) (s := s) (H := H) (E := E)
  exact (sb_cons (ss_set (i := 1) (by decide) nd rfl (by first | exact Or.inl rfl | exact Or.inr rfl) (ee_lst ae_nil))
  (sb_cons (ss_for (by decide) (passes_of rfl) rfl (ei_seq (ee_k (ek_var (pv 0)))) (eg_name (pg_name nd rfl (by first | exact Or.inl rfl | exact Or.inr rfl))) (sb_kill [2, 3, 4] (sb_one (ss_if (et_cmpK (op_geA hr.units) (ek_var (pv 2)) (ek_op2 op_powA op2_of ek_int ek_int) (nomark _)) (sb_cons (ss_set (i := 3) (by decide) nd rfl (by first | exact Or.inl rfl | exact Or.inr rfl) (ee_k (ek_var (pv 2))))
  (sb_one (ss_for (by decide) (passes_of rfl) rfl (ei_range1 rfl F.z_range (ae_cons (ee_k ek_int) ae_nil)) (eg_name (pg_name nd rfl (by first | exact Or.inl rfl | exact Or.inr rfl))) (sb_kill [4] (sb_one (ss_if (et_cmpK (op_gtA hr.units) (ek_var (pv 3)) ek_int (nomark _)) (sb_cons (ss_app0 (pv 1) (ee_k (ek_op2 op_modA op2_of (ek_var (pv 3)) ek_int)))
  (sb_one (ss_set (i := 3) (by decide) nd rfl (by first | exact Or.inl rfl | exact Or.inr rfl) (ee_k (ek_op2 op_fdivA op2_of (ek_var (pv 3)) ek_int))))) sb_nil)))))) (sb_cons (ss_app0 (pv 1) (ee_k (ek_op2 op_modA op2_of (ek_var (pv 2)) ek_int)))
  (sb_one (ss_for (by decide) (passes_of rfl) rfl (ei_range1 rfl F.z_range (ae_cons (ee_k ek_int) ae_nil)) (eg_name (pg_name nd rfl (by first | exact Or.inl rfl | exact Or.inr rfl))) (sb_kill [4] (sb_one (ss_app0 (pv 1) (ee_k (ek_op2 op_modA op2_of (ek_callF (ok_law_mixed F) (hr.mono (by omega)) rfl (ak_cons (ek_callF (ok_law_mixed F) (hr.mono (by omega)) rfl (ak_cons (ek_op2 op_modA op2_of (ek_var (pv 2)) ek_int) (ak_cons (ek_var (pv 4)) ak_nil))) (ak_cons (ek_op2 op_addA op2_of (ek_var (pv 4)) ek_int) ak_nil))) ek_int))))))))))))
  (sb_one (ss_ret (ee_fz (ee_mv (pv 1)))))))
theorem sc_law_draw : FnScope ["draws", "at", "first"] ["draws"] (defScope (top 18)) := ⟨rfl, rfl, rfl, by decide +kernel, rfl, by decide +kernel, by decide +kernel⟩
theorem ok_law_draw (F : Fx K mg) : FOk P w K mg base 2 "_law_draw" ["draws"] law_draw_sem := by
  have nd := sc_law_draw.nd
  refine fok F.d_law_draw sc_law_draw rfl rfl (fun _ _ _ _ _ _ us hl => match us, hl with | [_], _ => rfl) fun cdv A outer s H E hr => ?_
  have tk := tk_def (P := P) (w := w) (K := K) (mg := mg) (base := base) (N := ["draws", "at", "first"]) (qual := "_law_draw") (scope := defScope (top 18)) (f := He.ga K "_law_draw") (cdv := cdv) (A := A) (outer := outer) (s := s) (H := H) (E := E)
  exact (sb_cons (ss_set (i := 1) (by decide) nd rfl (by first | exact Or.inl rfl | exact Or.inr rfl) (ee_k (ek_ixK ix_A (ek_var (pv 0)) ek_int (fun _ _ => rfl))))
  (sb_cons (ss_setIx (ee_fz (ee_op2 op_addA op2_of (ee_k (ek_var (pv 1))) (ee_k ek_int))) (ep_var (pv 0)) ek_int)
  (sb_cons (ss_if (et_cmpK (op_ltA hr.units) (ek_var (pv 1)) (ek_callB call_lenA rfl F.z_len PySem.boot_len (ak_cons (ek_ixK ix_A (ek_var (pv 0)) ek_int (fun _ _ => rfl)) ak_nil)) (nomark _)) (sb_one (ss_ret (ee_k (ek_ixK ix_A (ek_ixK ix_A (ek_var (pv 0)) ek_int (fun _ _ => rfl)) (ek_var (pv 1)) (fun _ _ => rfl))))) sb_nil)
  (sb_cons (ss_set (i := 2) (by decide) nd rfl (by first | exact Or.inl rfl | exact Or.inr rfl) (ee_fz (ee_op2 op_addA op2_of (ee_k ek_int) (ee_k (ek_var (pv 1))))))
  (sb_cons (ss_if (et_cmpK (op_gtA hr.units) (ek_callB call_lenA rfl F.z_len PySem.boot_len (ak_cons (ek_ixK ix_A (ek_var (pv 0)) ek_int (fun _ _ => rfl)) ak_nil)) ek_int (nomark _)) (sb_one (ss_set (i := 2) (by decide) nd rfl (by first | exact Or.inl rfl | exact Or.inr rfl) (ee_fz (ee_op2 op_addA op2_of (ee_k (ek_var (pv 2))) (ee_op2 op_mulA op2_of (ee_k ek_int) (ee_k (ek_ixK ix_A (ek_ixK ix_A (ek_var (pv 0)) ek_int (fun _ _ => rfl)) ek_int (fun _ _ => rfl)))))))) sb_nil)
  (sb_one (ss_ret (ee_k (ek_op2 op_modA op2_of (ek_callF (ok_law_mixed F) (hr.mono (by omega)) rfl (ak_cons (ek_callF (ok_law_mixed F) (hr.mono (by omega)) rfl (ak_cons (ek_var (pv 2)) (ak_cons (ek_var (pv 1)) ak_nil))) (ak_cons ek_int ak_nil))) ek_int)))))))))
theorem sc_law_equal : FnScope ["actual", "due"] ["actual", "due"] (defScope (top 19)) := ⟨rfl, rfl, rfl, by decide +kernel, rfl, by decide +kernel, by decide +kernel⟩
theorem okr_law_equal (F : Fx K mg) {k : Nat} (hk : 0 ≤ k) (r_law_equal : List T → Option Ret) (r_law_all_equal : List T → Option Ret) (h_law_equal : FOk P w K mg base k "_law_equal" ["actual", "due"] r_law_equal) (h_law_all_equal : FOk P w K mg base k "_law_all_equal" ["actual", "due"] r_law_all_equal) : FOk P w K mg base (k + 1) "_law_equal" ["actual", "due"] (semD 2 0 [] (law_equal_b r_law_equal r_law_all_equal)) := by
  have nd := sc_law_equal.nd
  refine fok F.d_law_equal sc_law_equal rfl rfl (fun _ _ _ _ _ _ us hl => match us, hl with | [_, _], _ => rfl) fun cdv A outer s H E hr => ?_
  have tk := tk_def (P := P) (w := w) (K := K) (mg := mg) (base := base) (N := ["actual", "due"]) (qual := "_law_equal") (scope := defScope (top 19)) (f := He.ga K "_law_equal") (cdv := cdv) (A := A) (outer := outer) (s := s) (H := H) (E := E)
  exact (sb_cons (ss_if (et_valK (ek_isi rfl F.z_isinstance (pe_bltn rfl F.z_list (by decide +kernel) rfl) (by decide) (ek_var (pv 1)))) (sb_cons (ss_if (et_w (ew_or (et_not (et_valK (ek_isi rfl F.z_isinstance (pe_bltn rfl F.z_list (by decide +kernel) rfl) (by decide) (ek_var (pv 0))))) (ew_or1 (et_cmpK (op_neA hr.units) (ek_callB call_lenA rfl F.z_len PySem.boot_len (ak_cons (ek_var (pv 0)) ak_nil)) (ek_callB call_lenA rfl F.z_len PySem.boot_len (ak_cons (ek_var (pv 1)) ak_nil)) (nomark _))))) (sb_one (ss_ret (ee_k ek_bl))) sb_nil)
  (sb_one (ss_ret (ee_k (ek_callF h_law_all_equal (hr.mono (by omega)) rfl (ak_cons (ek_var (pv 0)) (ak_cons (ek_var (pv 1)) ak_nil))))))) sb_nil)
  (sb_cons (ss_if (et_valK (ek_isi rfl F.z_isinstance (pe_bltn rfl F.z_tuple (by decide +kernel) rfl) (by decide) (ek_var (pv 1)))) (sb_cons (ss_if (et_w (ew_or (et_not (et_valK (ek_isi rfl F.z_isinstance (pe_bltn rfl F.z_tuple (by decide +kernel) rfl) (by decide) (ek_var (pv 0))))) (ew_or1 (et_cmpK (op_neA hr.units) (ek_callB call_lenA rfl F.z_len PySem.boot_len (ak_cons (ek_var (pv 0)) ak_nil)) (ek_callB call_lenA rfl F.z_len PySem.boot_len (ak_cons (ek_var (pv 1)) ak_nil)) (nomark _))))) (sb_one (ss_ret (ee_k ek_bl))) sb_nil)
  (sb_one (ss_ret (ee_k (ek_callF h_law_all_equal (hr.mono (by omega)) rfl (ak_cons (ek_var (pv 0)) (ak_cons (ek_var (pv 1)) ak_nil))))))) sb_nil)
  (sb_cons (ss_if (et_valK (ek_isi rfl F.z_isinstance (pe_bltn rfl F.z_bool (by decide +kernel) rfl) (by decide) (ek_var (pv 1)))) (sb_one (ss_ret (ee_fz (ee_and (ee_k (ek_isi rfl F.z_isinstance (pe_bltn rfl F.z_bool (by decide +kernel) rfl) (by decide) (ek_var (pv 0)))) (ee_one (ee_k (ek_cmp (op_eqA hr.units) op2_of (ek_var (pv 0)) (ek_var (pv 1)) (nomark _)))))))) sb_nil)
  (sb_cons (ss_if (et_valK (ek_isi rfl F.z_isinstance (pe_bltn rfl F.z_int (by decide +kernel) rfl) (by decide) (ek_var (pv 1)))) (sb_one (ss_ret (ee_fz (ee_and (ee_k (ek_isi rfl F.z_isinstance (pe_bltn rfl F.z_int (by decide +kernel) rfl) (by decide) (ek_var (pv 0)))) (ee_and (ee_not (ee_k (ek_isi rfl F.z_isinstance (pe_bltn rfl F.z_bool (by decide +kernel) rfl) (by decide) (ek_var (pv 0))))) (ee_one (ee_k (ek_cmp (op_eqA hr.units) op2_of (ek_var (pv 0)) (ek_var (pv 1)) (nomark _))))))))) sb_nil)
  (sb_cons (ss_if (et_valK (ek_isi rfl F.z_isinstance (pe_bltn rfl F.z_str (by decide +kernel) rfl) (by decide) (ek_var (pv 1)))) (sb_one (ss_ret (ee_fz (ee_and (ee_k (ek_isi rfl F.z_isinstance (pe_bltn rfl F.z_str (by decide +kernel) rfl) (by decide) (ek_var (pv 0)))) (ee_one (ee_k (ek_cmp (op_eqA hr.units) op2_of (ek_var (pv 0)) (ek_var (pv 1)) (nomark _)))))))) sb_nil)
  (sb_one (ss_ret (ee_k (ek_cmp (op_isA) op2_of (ek_var (pv 0)) ek_non (nomark _))))))))))
theorem sc_law_all_equal : FnScope ["actual", "due", "k"] ["actual", "due"] (defScope (top 20)) := ⟨rfl, rfl, rfl, by decide +kernel, rfl, by decide +kernel, by decide +kernel⟩
theorem okr_law_all_equal (F : Fx K mg) {k : Nat} (hk : 0 ≤ k) (r_law_equal : List T → Option Ret) (r_law_all_equal : List T → Option Ret) (h_law_equal : FOk P w K mg base k "_law_equal" ["actual", "due"] r_law_equal) (h_law_all_equal : FOk P w K mg base k "_law_all_equal" ["actual", "due"] r_law_all_equal) : FOk P w K mg base (k + 1) "_law_all_equal" ["actual", "due"] (semD 2 1 [] (law_all_equal_b r_law_equal r_law_all_equal)) := by
  have nd := sc_law_all_equal.nd
  refine fok F.d_law_all_equal sc_law_all_equal rfl rfl (fun _ _ _ _ _ _ us hl => match us, hl with | [_, _], _ => rfl) fun cdv A outer s H E hr => ?_
  have tk := tk_def (P := P) (w := w) (K := K) (mg := mg) (base := base) (N := ["actual", "due", "k"]) (qual := "_law_all_equal") (scope := defScope (top 20)) (f := He.ga K "_law_all_equal") (cdv := cdv) (A := A) (outer := outer) (s := s) (H := H) (E := E)
  exact (sb_cons (ss_for (by decide) (passes_of rfl) rfl (ei_range1 rfl F.z_range (ae_cons (ee_k (ek_callB call_lenA rfl F.z_len PySem.boot_len (ak_cons (ek_var (pv 1)) ak_nil))) ae_nil)) (eg_name (pg_name nd rfl (by first | exact Or.inl rfl | exact Or.inr rfl))) (sb_kill [2] (sb_one (ss_if (et_not (et_valK (ek_callF h_law_equal (hr.mono (by omega)) rfl (ak_cons (ek_ixK ix_A (ek_var (pv 0)) (ek_var (pv 2)) (fun _ _ => rfl)) (ak_cons (ek_ixK ix_A (ek_var (pv 1)) (ek_var (pv 2)) (fun _ _ => rfl)) ak_nil))))) (sb_one (ss_ret (ee_k ek_bl))) sb_nil))))
  (sb_one (ss_ret (ee_k ek_bl))))
theorem oks_law_equal (F : Fx K mg) : ∀ n : Nat, FOk P w K mg base (1 + n) "_law_equal" ["actual", "due"] (law_equal_sem n) ∧ FOk P w K mg base (1 + n) "_law_all_equal" ["actual", "due"] (law_all_equal_sem n)
  | 0 => ⟨fok0 F.d_law_equal sc_law_equal (fun _ _ _ _ _ _ us hl => match us, hl with | [_, _], _ => rfl), fok0 F.d_law_all_equal sc_law_all_equal (fun _ _ _ _ _ _ us hl => match us, hl with | [_, _], _ => rfl)⟩
  | n + 1 => by
    obtain ⟨h0, h1⟩ := oks_law_equal F n
    exact ⟨okr_law_equal (k := 1 + n) F (by omega) _ _ h0 h1, okr_law_all_equal (k := 1 + n) F (by omega) _ _ h0 h1⟩
theorem ok_law_equal (F : Fx K mg) (n : Nat) : FOk P w K mg base (1 + n) "_law_equal" ["actual", "due"] (law_equal_sem n) := (oks_law_equal F n).1
theorem ok_law_all_equal (F : Fx K mg) (n : Nat) : FOk P w K mg base (1 + n) "_law_all_equal" ["actual", "due"] (law_all_equal_sem n) := (oks_law_equal F n).2
theorem sc_law_code : FnScope ["draws", "lock", "k"] ["draws", "lock"] (defScope (top 21)) := ⟨rfl, rfl, rfl, by decide +kernel, rfl, by decide +kernel, by decide +kernel⟩
theorem ok_law_code (F : Fx K mg) : FOk P w K mg base 3 "_law_code" ["draws", "lock"] law_code_sem := by
  have nd := sc_law_code.nd
  refine fok F.d_law_code sc_law_code rfl rfl (fun _ _ _ _ _ _ us hl => match us, hl with | [_, _], _ => rfl) fun cdv A outer s H E hr => ?_
  have tk := tk_def (P := P) (w := w) (K := K) (mg := mg) (base := base) (N := ["draws", "lock", "k"]) (qual := "_law_code") (scope := defScope (top 21)) (f := He.ga K "_law_code") (cdv := cdv) (A := A) (outer := outer) (s := s) (H := H) (E := E)
  exact (sb_one (ss_ret (ee_lc (own := [("k", 2)]) (by decide) rfl nd (ei_range1 rfl F.z_range (ae_cons (ee_k (ek_ixK ix_A (ek_var (pv 1)) ek_int (fun _ _ => rfl))) ae_nil)) (by kernel_rfl) (fun _ _ _ _ _ => (eg_name (pg_name nd rfl (by first | exact Or.inl rfl | exact Or.inr rfl)))) (fun _ _ _ _ _ => ets_nil) (fun _ _ _ _ _ => (ee_fz (ee_op2 op_modA op2_of (ee_callF takes00 (ok_law_draw F) (hr.mono (by omega)) rfl (ae_bor (pv 0) ae_nil)) (ee_k (ek_ixK ix_A (ek_var (pv 1)) ek_int (fun _ _ => rfl)))))))))
theorem sc_law_answer : FnScope ["code", "tried", "right", "one", "two", "k", "other", "digit", "at"] ["code", "tried"] (defScope (top 22)) := ⟨rfl, rfl, rfl, by decide +kernel, rfl, by decide +kernel, by decide +kernel⟩
theorem ok_law_answer (F : Fx K mg) : FOk P w K mg base 1 "_law_answer" ["code", "tried"] law_answer_sem := by
  have nd := sc_law_answer.nd
  refine fok F.d_law_answer sc_law_answer rfl rfl (fun _ _ _ _ _ _ us hl => match us, hl with | [_, _], _ => rfl) fun cdv A outer s H E hr => ?_
  have tk := tk_def (P := P) (w := w) (K := K) (mg := mg) (base := base) (N := ["code", "tried", "right", "one", "two", "k", "other", "digit", "at"]) (qual := "_law_answer") (scope := defScope (top 22)) (f := He.ga K "_law_answer") (cdv := cdv) (A := A) (outer := outer) (s := s) (H := H) (E := E)
  exact (sb_cons (ss_set (i := 2) (by decide) nd rfl (by first | exact Or.inl rfl | exact Or.inr rfl) (ee_k ek_int))
  (sb_cons (ss_set (i := 3) (by decide) nd rfl (by first | exact Or.inl rfl | exact Or.inr rfl) (ee_lst ae_nil))
  (sb_cons (ss_set (i := 4) (by decide) nd rfl (by first | exact Or.inl rfl | exact Or.inr rfl) (ee_lst ae_nil))
  (sb_cons (ss_for (by decide) (passes_of rfl) rfl (ei_range1 rfl F.z_range (ae_cons (ee_k (ek_callB call_lenA rfl F.z_len PySem.boot_len (ak_cons (ek_var (pv 0)) ak_nil))) ae_nil)) (eg_name (pg_name nd rfl (by first | exact Or.inl rfl | exact Or.inr rfl))) (sb_kill [5] (sb_one (ss_if (et_cmpK (op_eqA hr.units) (ek_ixK ix_A (ek_var (pv 0)) (ek_var (pv 5)) (fun _ _ => rfl)) (ek_ixK ix_A (ek_var (pv 1)) (ek_var (pv 5)) (fun _ _ => rfl)) (nomark _)) (sb_one (ss_set (i := 2) (by decide) nd rfl (by first | exact Or.inl rfl | exact Or.inr rfl) (ee_fz (ee_op2 op_addA op2_of (ee_k (ek_var (pv 2))) (ee_k ek_int))))) (sb_cons (ss_app0 (pv 3) (ee_k (ek_ixK ix_A (ek_var (pv 0)) (ek_var (pv 5)) (fun _ _ => rfl))))
  (sb_one (ss_app0 (pv 4) (ee_k (ek_ixK ix_A (ek_var (pv 1)) (ek_var (pv 5)) (fun _ _ => rfl))))))))))
  (sb_cons (ss_set (i := 6) (by decide) nd rfl (by first | exact Or.inl rfl | exact Or.inr rfl) (ee_k ek_int))
  (sb_cons (ss_for (by decide) (passes_of rfl) rfl (ei_seq (ee_cp (pv 3))) (eg_name (pg_name nd rfl (by first | exact Or.inl rfl | exact Or.inr rfl))) (sb_kill [7, 8] (sb_one (ss_if (et_cmpK (op_inA hr.units) (ek_var (pv 7)) (ek_var (pv 4)) rfl) (sb_cons (ss_set (i := 6) (by decide) nd rfl (by first | exact Or.inl rfl | exact Or.inr rfl) (ee_fz (ee_op2 op_addA op2_of (ee_k (ek_var (pv 6))) (ee_k ek_int))))
  (sb_cons (ss_set (i := 8) (by decide) nd rfl (by first | exact Or.inl rfl | exact Or.inr rfl) (ee_k (ek_mt PySem.F.plainAttrs_list PySem.F.slot_list_index PySem.F.type_list_index (mt_indexA hr.units) (.inl rfl) opIndex_ty (ek_var (pv 4)) (ak_cons (ek_var (pv 7)) ak_nil))))
  (sb_one (ss_set (i := 4) (by decide) nd rfl (by first | exact Or.inl rfl | exact Or.inr rfl) (ee_op2 op_addA op2_of (ee_sl (ee_cp (pv 4)) kp_none (kp_some (ek_var (pv 8)))) (ee_sl (ee_cp (pv 4)) (kp_some (ek_op2 op_addA op2_of (ek_var (pv 8)) ek_int)) kp_none)))))) sb_nil))))
  (sb_one (ss_ret (ee_k (ek_tup (ak_cons (ek_var (pv 2)) (ak_cons (ek_var (pv 6)) ak_nil))))))))))))
theorem sc_law_how_many : FnScope ["lock", "most", "many", "k"] ["lock", "most"] (defScope (top 24)) := ⟨rfl, rfl, rfl, by decide +kernel, rfl, by decide +kernel, by decide +kernel⟩
theorem ok_law_how_many (F : Fx K mg) : FOk P w K mg base 1 "_law_how_many" ["lock", "most"] law_how_many_sem := by
  have nd := sc_law_how_many.nd
  refine fok F.d_law_how_many sc_law_how_many rfl rfl (fun _ _ _ _ _ _ us hl => match us, hl with | [_, _], _ => rfl) fun cdv A outer s H E hr => ?_
  have tk := tk_def (P := P) (w := w) (K := K) (mg := mg) (base := base) (N := ["lock", "most", "many", "k"]) (qual := "_law_how_many") (scope := defScope (top 24)) (f := He.ga K "_law_how_many") (cdv := cdv) (A := A) (outer := outer) (s := s) (H := H) (E := E)
  exact (sb_cons (ss_set (i := 2) (by decide) nd rfl (by first | exact Or.inl rfl | exact Or.inr rfl) (ee_k ek_int))
  (sb_cons (ss_for (by decide) (passes_of rfl) rfl (ei_range1 rfl F.z_range (ae_cons (ee_k (ek_ixK ix_A (ek_var (pv 0)) ek_int (fun _ _ => rfl))) ae_nil)) (eg_name (pg_name nd rfl (by first | exact Or.inl rfl | exact Or.inr rfl))) (sb_kill [3] (sb_one (ss_set (i := 2) (by decide) nd rfl (by first | exact Or.inl rfl | exact Or.inr rfl) (ee_k (ek_callB (call_minA rfl hr.units) rfl F.z_min (by decide +kernel) (ak_cons (ek_op2 op_mulA op2_of (ek_var (pv 2)) (ek_ixK ix_A (ek_var (pv 0)) ek_int (fun _ _ => rfl))) (ak_cons (ek_op2 op_addA op2_of (ek_var (pv 1)) ek_int) ak_nil))))))))
  (sb_one (ss_ret (ee_k (ek_var (pv 2)))))))
theorem sc_law_lock : FnScope ["draws", "most", "lock"] ["draws", "most"] (defScope (top 23)) := ⟨rfl, rfl, rfl, by decide +kernel, rfl, by decide +kernel, by decide +kernel⟩
theorem ok_law_lock (F : Fx K mg) : FOk P w K mg base 3 "_law_lock" ["draws", "most"] law_lock_sem := by
  have nd := sc_law_lock.nd
  refine fok F.d_law_lock sc_law_lock rfl rfl (fun _ _ _ _ _ _ us hl => match us, hl with | [_, _], _ => rfl) fun cdv A outer s H E hr => ?_
  have tk := tk_def (P := P) (w := w) (K := K) (mg := mg) (base := base) (N := ["draws", "most", "lock"]) (qual := "_law_lock") (scope := defScope (top 23)) (f := He.ga K "_law_lock") (cdv := cdv) (A := A) (outer := outer) (s := s) (H := H) (E := E)
  exact (sb_cons (ss_set (i := 2) (by decide) nd rfl (by first | exact Or.inl rfl | exact Or.inr rfl) (ee_fz (ee_tup (ae_cons (ee_op2 op_addA op2_of (ee_k ek_int) (ee_op2 op_modA op2_of (ee_callF tk (ok_law_draw F) (hr.mono (by omega)) rfl (ae_bor (pv 0) ae_nil)) (ee_k ek_int))) (ae_cons (ee_op2 op_addA op2_of (ee_k ek_int) (ee_op2 op_modA op2_of (ee_callF tk (ok_law_draw F) (hr.mono (by omega)) rfl (ae_bor (pv 0) ae_nil)) (ee_k ek_int))) ae_nil)))))
  (sb_cons (ss_while (passes_of rfl) (et_cmpK (op_gtA hr.units) (ek_callF (ok_law_how_many F) (hr.mono (by omega)) rfl (ak_cons (ek_var (pv 2)) (ak_cons (ek_var (pv 1)) ak_nil))) (ek_var (pv 1)) (nomark _)) (sb_kill [] (sb_one (ss_set (i := 2) (by decide) nd rfl (by first | exact Or.inl rfl | exact Or.inr rfl) (ee_fz (ee_if (et_cmpK (op_gtA hr.units) (ek_ixK ix_A (ek_var (pv 2)) ek_int (fun _ _ => rfl)) ek_int (nomark _)) (ee_k (ek_tup (ak_cons (ek_op2 op_subA op2_of (ek_ixK ix_A (ek_var (pv 2)) ek_int (fun _ _ => rfl)) ek_int) (ak_cons (ek_ixK ix_A (ek_var (pv 2)) ek_int (fun _ _ => rfl)) ak_nil)))) (ee_k (ek_tup (ak_cons ek_int (ak_cons (ek_op2 op_subA op2_of (ek_ixK ix_A (ek_var (pv 2)) ek_int (fun _ _ => rfl)) ek_int) ak_nil))))))))))
  (sb_one (ss_ret (ee_k (ek_var (pv 2)))))))
theorem sc_law_refused : FnScope ["lock", "code", "tried"] ["lock", "code", "tried"] (defScope (top 25)) := ⟨rfl, rfl, rfl, by decide +kernel, rfl, by decide +kernel, by decide +kernel⟩
theorem ok_law_refused (F : Fx K mg) : FOk P w K mg base 5 "_law_refused" ["lock", "code", "tried"] law_refused_sem := by
  have nd := sc_law_refused.nd
  refine fok F.d_law_refused sc_law_refused rfl rfl (fun _ _ _ _ _ _ us hl => match us, hl with | [_, _, _], _ => rfl) fun cdv A outer s H E hr => ?_
  have tk := tk_def (P := P) (w := w) (K := K) (mg := mg) (base := base) (N := ["lock", "code", "tried"]) (qual := "_law_refused") (scope := defScope (top 25)) (f := He.ga K "_law_refused") (cdv := cdv) (A := A) (outer := outer) (s := s) (H := H) (E := E)
  exact (sb_one (ss_try F.exm rfl rfl tk (fun _ _ _ tk_0 po_0 => (sb_cons (ss_expr (ee_callF tk_0 (ok_answer F) (hr.mono (by omega)) rfl (ae_cons (ee_k (ek_var (pv 0))) (ae_cons (ee_k (ek_var (pv 1))) (ae_cons (ee_k (ek_var (pv 2))) ae_nil)))))
  (sb_one (ss_ret (ee_k ek_str))))) (.cons rfl F.g_BadCode (fun _ _ _ => (sb_one (ss_ret (ee_k ek_str)))) (.cons rfl F.g_TooLarge (fun _ _ _ => (sb_one (ss_ret (ee_k ek_str)))) .nil))))
theorem sc_law : FnScope ["script", "draws", "lock", "turn", "code", "tried", "i", "j", "due", "common", "digit", "wrong", "five"] ["script"] (defScope (top 26)) := ⟨rfl, rfl, rfl, by decide +kernel, rfl, by decide +kernel, by decide +kernel⟩
theorem ok_law (F : Fx K mg) {fd : FuncData} (FD : FunD K "law" "law" (defArgs (top 26)) (defBody (top 26)) (defScope (top 26)) [] [] (He.ga K "law") fd) : FnOk P w K mg base (L2.CX P w) 14 (He.ga K "law") fd ["script"] (SpT K law_sem) := by
  have nd := sc_law.nd
  refine fokD FD sc_law rfl rfl fun cdv A outer s H E hr => ?_
  have tk := tk_def (P := P) (w := w) (K := K) (mg := mg) (base := base) (N := ["script", "draws", "lock", "turn", "code", "tried", "i", "j", "due", "common", "digit", "wrong", "five"]) (qual := "law") (scope := defScope (top 26)) (f := He.ga K "law") (cdv := cdv) (A := A) (outer := outer) (s := s) (H := H) (E := E)
  exact (sb_cons (ss_set (i := 1) (by decide) nd rfl (by first | exact Or.inl rfl | exact Or.inr rfl) (ee_lst (ae_cons (ee_k (ek_callF (ok_law_numbers F) (hr.mono (by omega)) rfl (ak_cons (ek_var (pv 0)) ak_nil))) (ae_cons (ee_k ek_int) ae_nil))))
  (sb_cons (ss_set (i := 2) (by decide) nd rfl (by first | exact Or.inl rfl | exact Or.inr rfl) (ee_fz (ee_callF tk (ok_law_lock F) (hr.mono (by omega)) rfl (ae_bor (pv 1) (ae_cons (ee_k ek_int) ae_nil)))))
  (sb_cons (ss_for (by decide) (passes_of rfl) rfl (ei_range1 rfl F.z_range (ae_cons (ee_k ek_int) ae_nil)) (eg_name (pg_name nd rfl (by first | exact Or.inl rfl | exact Or.inr rfl))) (sb_kill [3, 4, 5, 6, 7, 8, 9, 10] (sb_cons (ss_set (i := 4) (by decide) nd rfl (by first | exact Or.inl rfl | exact Or.inr rfl) (ee_fz (ee_callF tk (ok_law_code F) (hr.mono (by omega)) rfl (ae_bor (pv 1) (ae_cons (ee_k (ek_var (pv 2))) ae_nil)))))
  (sb_cons (ss_set (i := 5) (by decide) nd rfl (by first | exact Or.inl rfl | exact Or.inr rfl) (ee_callF tk (ok_law_code F) (hr.mono (by omega)) rfl (ae_bor (pv 1) (ae_cons (ee_k (ek_var (pv 2))) ae_nil))))
  (sb_cons (ss_if (et_cmp (op_eqA hr.units) (ee_op2 op_modA op2_of (ee_callF tk (ok_law_draw F) (hr.mono (by omega)) rfl (ae_bor (pv 1) ae_nil)) (ee_k ek_int)) (ee_k ek_int) (nomark _)) (sb_cons (ss_set (i := 5) (by decide) nd rfl (by first | exact Or.inl rfl | exact Or.inr rfl) (ee_callT call_listA rfl F.z_list (by decide +kernel) (ae_cons (ee_k (ek_var (pv 4))) ae_nil)))
  (sb_cons (ss_par (i := 6) (j := 7) (by decide) (by decide) rfl nd rfl rfl (by decide) rfl rfl (ae_cons (ee_fz (ee_op2 op_modA op2_of (ee_callF tk (ok_law_draw F) (hr.mono (by omega)) rfl (ae_bor (pv 1) ae_nil)) (ee_k (ek_ixK ix_A (ek_var (pv 2)) ek_int (fun _ _ => rfl))))) (ae_cons (ee_fz (ee_op2 op_modA op2_of (ee_callF tk (ok_law_draw F) (hr.mono (by omega)) rfl (ae_bor (pv 1) ae_nil)) (ee_k (ek_ixK ix_A (ek_var (pv 2)) ek_int (fun _ _ => rfl))))) ae_nil)))
  (sb_one (ss_tgtH (ee_k (ek_tup (ak_cons (ek_ixK ix_A (ek_var (pv 5)) (ek_var (pv 7)) (fun _ _ => rfl)) (ak_cons (ek_ixK ix_A (ek_var (pv 5)) (ek_var (pv 6)) (fun _ _ => rfl)) ak_nil)))) (eh_tup rfl (ehs_cons (eh_sub (ep_var (pv 5)) (ek_var (pv 6))) (ehs_cons (eh_sub (ep_var (pv 5)) (ek_var (pv 7))) ehs_nil))))))) sb_nil)
  (sb_cons (ss_if (et_cmp (op_eqA hr.units) (ee_op2 op_modA op2_of (ee_callF tk (ok_law_draw F) (hr.mono (by omega)) rfl (ae_bor (pv 1) ae_nil)) (ee_k ek_int)) (ee_k ek_int) (nomark _)) (sb_one (ss_setIxE (ee_fz (ee_op2 op_modA op2_of (ee_callF tk (ok_law_draw F) (hr.mono (by omega)) rfl (ae_bor (pv 1) ae_nil)) (ee_k (ek_ixK ix_A (ek_var (pv 2)) ek_int (fun _ _ => rfl))))) (pv 5) (ee_op2 op_modA op2_of (ee_callF tk (ok_law_draw F) (hr.mono (by omega)) rfl (ae_bor (pv 1) ae_nil)) (ee_k (ek_ixK ix_A (ek_var (pv 2)) ek_int (fun _ _ => rfl)))))) sb_nil)
  (sb_cons (ss_set (i := 8) (by decide) nd rfl (by first | exact Or.inl rfl | exact Or.inr rfl) (ee_fz (ee_callF tk (ok_law_answer F) (hr.mono (by omega)) rfl (ae_cons (ee_k (ek_var (pv 4))) (ae_cons (ee_cp (pv 5)) ae_nil)))))
  (sb_cons (ss_if (et_w (ew_or (et_not (et_val (ee_callF tk (ok_law_equal F 12) (hr.mono (by omega)) rfl (ae_cons (ee_fz (ee_callF tk (ok_answer F) (hr.mono (by omega)) rfl (ae_cons (ee_k (ek_var (pv 2))) (ae_cons (ee_k (ek_var (pv 4))) (ae_cons (ee_cp (pv 5)) ae_nil))))) (ae_cons (ee_k (ek_var (pv 8))) ae_nil))))) (ew_or1 (et_not (et_val (ee_callF tk (ok_law_equal F 12) (hr.mono (by omega)) rfl (ae_cons (ee_fz (ee_callF tk (ok_answer F) (hr.mono (by omega)) rfl (ae_cons (ee_k (ek_var (pv 2))) (ae_cons (ee_cp (pv 5)) (ae_cons (ee_k (ek_var (pv 4))) ae_nil))))) (ae_cons (ee_k (ek_var (pv 8))) ae_nil)))))))) (sb_one (ss_ret (ee_k ek_bl))) sb_nil)
  (sb_cons (ss_set (i := 9) (by decide) nd rfl (by first | exact Or.inl rfl | exact Or.inr rfl) (ee_k ek_int))
  (sb_cons (ss_for (by decide) (passes_of rfl) rfl (ei_range1 rfl F.z_range (ae_cons (ee_k ek_int) ae_nil)) (eg_name (pg_name nd rfl (by first | exact Or.inl rfl | exact Or.inr rfl))) (sb_kill [10] (sb_one (ss_set (i := 9) (by decide) nd rfl (by first | exact Or.inl rfl | exact Or.inr rfl) (ee_fz (ee_op2 op_addA op2_of (ee_k (ek_var (pv 9))) (ee_k (ek_callB (call_minA rfl hr.units) rfl F.z_min (by decide +kernel) (ak_cons (ek_mt PySem.F.plainAttrs_list PySem.F.slot_list_count PySem.F.type_list_count (mt_countA hr.units) (.inl rfl) opCount_ty (ek_var (pv 4)) (ak_cons (ek_var (pv 10)) ak_nil)) (ak_cons (ek_mt PySem.F.plainAttrs_list PySem.F.slot_list_count PySem.F.type_list_count (mt_countA hr.units) (.inl rfl) opCount_ty (ek_var (pv 5)) (ak_cons (ek_var (pv 10)) ak_nil)) ak_nil))))))))))
  (sb_one (ss_if (et_w (ew_or (et_cmpK (op_neA hr.units) (ek_op2 op_addA op2_of (ek_ixK ix_A (ek_var (pv 8)) ek_int (fun _ _ => rfl)) (ek_ixK ix_A (ek_var (pv 8)) ek_int (fun _ _ => rfl))) (ek_var (pv 9)) (nomark _)) (ew_or1 (et_cmpK (op_neA hr.units) (ek_cmp (op_eqA hr.units) op2_of (ek_var (pv 8)) (ek_tup (ak_cons (ek_ixK ix_A (ek_var (pv 2)) ek_int (fun _ _ => rfl)) (ak_cons ek_int ak_nil))) (nomark _)) (ek_cmp (op_eqA hr.units) op2_of (ek_var (pv 4)) (ek_var (pv 5)) (nomark _)) (nomark _))))) (sb_one (ss_ret (ee_k ek_bl))) sb_nil))))))))))))
  (sb_cons (ss_set (i := 4) (by decide) nd rfl (by first | exact Or.inl rfl | exact Or.inr rfl) (ee_fz (ee_callF tk (ok_law_code F) (hr.mono (by omega)) rfl (ae_bor (pv 1) (ae_cons (ee_k (ek_var (pv 2))) ae_nil)))))
  (sb_cons (ss_for (by decide) (passes_of rfl) rfl (ei_seq (ee_tup (ae_cons (ee_op2 op_addA op2_of (ee_k (ek_var (pv 4))) (ee_lst (ae_cons (ee_k ek_int) ae_nil))) (ae_cons (ee_sl (ee_k (ek_var (pv 4))) (kp_some ek_int) kp_none) (ae_cons (ee_callT call_tupleA rfl F.z_tuple (by decide +kernel) (ae_cons (ee_k (ek_var (pv 4))) ae_nil)) (ae_cons (ee_k ek_non) (ae_cons (ee_op2 op_addA op2_of (ee_sl (ee_k (ek_var (pv 4))) kp_none (kp_some (ek_un un_negA op1_of ek_int))) (ee_lst (ae_cons (ee_k (ek_ixK ix_A (ek_var (pv 2)) ek_int (fun _ _ => rfl))) ae_nil))) (ae_cons (ee_op2 op_addA op2_of (ee_sl (ee_k (ek_var (pv 4))) kp_none (kp_some (ek_un un_negA op1_of ek_int))) (ee_lst (ae_cons (ee_k (ek_un un_negA op1_of ek_int)) ae_nil))) (ae_cons (ee_op2 op_addA op2_of (ee_sl (ee_k (ek_var (pv 4))) kp_none (kp_some (ek_un un_negA op1_of ek_int))) (ee_lst (ae_cons (ee_k ek_bl) ae_nil))) (ae_cons (ee_op2 op_addA op2_of (ee_sl (ee_k (ek_var (pv 4))) kp_none (kp_some (ek_un un_negA op1_of ek_int))) (ee_lst (ae_cons (ee_k ek_str) ae_nil))) ae_nil)))))))))) (eg_name (pg_name nd rfl (by first | exact Or.inl rfl | exact Or.inr rfl))) (sb_kill [11] (sb_one (ss_if (et_w (ew_or (et_cmpK (op_neA hr.units) (ek_callF (ok_law_refused F) (hr.mono (by omega)) rfl (ak_cons (ek_var (pv 2)) (ak_cons (ek_var (pv 11)) (ak_cons (ek_var (pv 4)) ak_nil)))) ek_str (nomark _)) (ew_or1 (et_cmpK (op_neA hr.units) (ek_callF (ok_law_refused F) (hr.mono (by omega)) rfl (ak_cons (ek_var (pv 2)) (ak_cons (ek_var (pv 4)) (ak_cons (ek_var (pv 11)) ak_nil)))) ek_str (nomark _))))) (sb_one (ss_ret (ee_k ek_bl))) sb_nil))))
  (sb_cons (ss_for (by decide) (passes_of rfl) rfl (ei_seq (ee_tup (ae_cons (ee_k (ek_tup (ak_cons ek_int (ak_cons ek_int ak_nil)))) (ae_cons (ee_k (ek_tup (ak_cons ek_int (ak_cons ek_int ak_nil)))) (ae_cons (ee_k (ek_tup (ak_cons ek_int (ak_cons ek_int ak_nil)))) (ae_cons (ee_k (ek_tup (ak_cons ek_int (ak_cons ek_int ak_nil)))) (ae_cons (ee_k (ek_tup (ak_cons ek_int ak_nil))) (ae_cons (ee_lst (ae_cons (ee_k ek_int) (ae_cons (ee_k ek_int) ae_nil))) (ae_cons (ee_k ek_non) (ae_cons (ee_k (ek_tup (ak_cons ek_bl (ak_cons ek_int ak_nil)))) (ae_cons (ee_k (ek_tup (ak_cons ek_str (ak_cons ek_int ak_nil)))) (ae_cons (ee_k (ek_tup (ak_cons ek_int (ak_cons ek_int (ak_cons ek_int ak_nil))))) ae_nil)))))))))))) (eg_name (pg_name nd rfl (by first | exact Or.inl rfl | exact Or.inr rfl))) (sb_kill [11] (sb_one (ss_if (et_cmp (op_neA hr.units) (ee_callF tk (ok_law_refused F) (hr.mono (by omega)) rfl (ae_cons (ee_k (ek_var (pv 11))) (ae_cons (ee_fz (ee_lst (ae_cons (ee_k ek_int) ae_nil))) (ae_cons (ee_fz (ee_lst (ae_cons (ee_k ek_int) ae_nil))) ae_nil)))) (ee_k ek_str) (nomark _)) (sb_one (ss_ret (ee_k ek_bl))) sb_nil))))
  (sb_cons (ss_set (i := 12) (by decide) nd rfl (by first | exact Or.inl rfl | exact Or.inr rfl) (ee_fz (ee_lst (ae_cons (ee_k ek_int) (ae_cons (ee_k ek_int) (ae_cons (ee_k ek_int) (ae_cons (ee_k ek_int) (ae_cons (ee_k ek_int) ae_nil))))))))
  (sb_cons (ss_if (et_w (ew_or (et_cmpK (op_neA hr.units) (ek_callF (ok_law_refused F) (hr.mono (by omega)) rfl (ak_cons (ek_tup (ak_cons ek_int (ak_cons ek_int ak_nil))) (ak_cons (ek_var (pv 12)) (ak_cons (ek_var (pv 12)) ak_nil)))) ek_str (nomark _)) (ew_or (et_cmpK (op_neA hr.units) (ek_callF (ok_law_refused F) (hr.mono (by omega)) rfl (ak_cons (ek_tup (ak_cons ek_int (ak_cons ek_int ak_nil))) (ak_cons (ek_var (pv 12)) (ak_cons (ek_var (pv 12)) ak_nil)))) ek_str (nomark _)) (ew_or1 (et_cmp (op_neA hr.units) (ee_callF tk (ok_law_refused F) (hr.mono (by omega)) rfl (ae_cons (ee_k (ek_tup (ak_cons ek_int (ak_cons ek_int ak_nil)))) (ae_cons (ee_fz (ee_sl (ee_k (ek_var (pv 12))) kp_none (kp_some ek_int))) (ae_cons (ee_fz (ee_sl (ee_k (ek_var (pv 12))) kp_none (kp_some ek_int))) ae_nil)))) (ee_k ek_str) (nomark _)))))) (sb_one (ss_ret (ee_k ek_bl))) sb_nil)
  (sb_one (ss_ret (ee_fz (ee_and (ee_cmp (op_eqA hr.units) op2_of (ee_callF tk (ok_law_refused F) (hr.mono (by omega)) rfl (ae_cons (ee_k (ek_tup (ak_cons ek_int (ak_cons ek_int ak_nil)))) (ae_cons (ee_k (ek_var (pv 12))) (ae_cons (ee_fz (ee_sl (ee_k (ek_var (pv 12))) kp_none (kp_some ek_int))) ae_nil)))) (ee_k ek_str) (nomark _)) (ee_one (ee_k (ek_cmp (op_eqA hr.units) op2_of (ek_callF (ok_law_refused F) (hr.mono (by omega)) rfl (ak_cons (ek_tup (ak_cons ek_int (ak_cons ek_int ak_nil))) (ak_cons (ek_var (pv 12)) (ak_cons (ek_var (pv 12)) ak_nil)))) ek_str (nomark _))))))))))))))))
end
end K31

set_option maxHeartbeats 0

namespace K31
open PySem PySem.Spec PyProof.Rows L2 Lv
def mkD (i : Nat) (n : Str) : He.DefD := ⟨(n, none), n, n, defArgs (top i), defBody (top i), defScope (top i), [], []⟩
def dfs : List He.DefD := [mkD 5 "is_number", mkD 8 "check_lock", mkD 9 "is_code", mkD 10 "check_code", mkD 11 "number_of_codes", mkD 12 "check_size", mkD 13 "answer_of", mkD 14 "answer", mkD 16 "_law_mixed", mkD 17 "_law_numbers", mkD 18 "_law_draw", mkD 19 "_law_equal", mkD 20 "_law_all_equal", mkD 21 "_law_code", mkD 22 "_law_answer", mkD 23 "_law_lock", mkD 24 "_law_how_many", mkD 25 "_law_refused", mkD 26 "law"]
def fcs : List He.Fa := [.glo "is_number", .glo "check_lock", .glo "is_code", .glo "check_code", .glo "number_of_codes", .glo "check_size", .glo "answer_of", .glo "answer", .glo "_law_mixed", .glo "_law_numbers", .glo "_law_draw", .glo "_law_equal", .glo "_law_all_equal", .glo "_law_code", .glo "_law_answer", .glo "_law_lock", .glo "_law_how_many", .glo "_law_refused", .glo "law", .free "bool", .free "int", .free "isinstance", .free "len", .free "list", .free "min", .free "range", .free "str", .free "sum", .free "tuple", .glo "WayError", .exc "WayError", .glo "BadCode", .exc "BadCode", .glo "TooLarge", .exc "TooLarge", .exm "TooLarge" "TooLarge" true, .exm "TooLarge" "BadCode" false, .exm "BadCode" "TooLarge" false, .exm "BadCode" "BadCode" true, .exm "WayError" "TooLarge" false, .exm "WayError" "BadCode" false, .int "MOST_CODES" 10000]
abbrev rw0 : PySem.W.OpenRow := PySem.W.OpenLaw.row PySem.Challenge.rw_everyriddle_k31_answers_to_tries
abbrev hk0 : PySem.W.Hook := He.hookD 4 fcs dfs
def ob0 (s : PySem.W.SharedT) : He.AlD := He.obsDG 4 fcs dfs (HandSHeadRun.getT s)
theorem ob0_eq (s : PySem.W.SharedT) : ob0 s = hk0.obs s.abs := He.obsDG_eq (HandSHeadRun.getT_eq s)
theorem run0 (w : World) : HandSHeadRun.RunEq rw0 (PySem.W.view rw0.prog [26]) hk0 ob0 2000 ["BadCode", "MOST_CODES", "TooLarge", "WayError", "_law_all_equal", "_law_answer", "_law_code", "_law_draw", "_law_equal", "_law_how_many", "_law_lock", "_law_mixed", "_law_numbers", "_law_refused", "answer", "answer_of", "check_code", "check_lock", "check_size", "is_code", "is_number", "number_of_codes"] w := by
  intro os; kernel_rfl
theorem fx {K : PySem.W.Frag} {h : Heap} {mg : Str → Option Value} (X : K.In h) (G : h.Ns mainGlobals mg) (c : He.SaysD fcs dfs K) : Fx K mg := {
  d_is_number := ⟨c.def_ 0 (d := mkD 5 "is_number") rfl, He.glo_ok X G (c.fact 0 (f := .glo "is_number") rfl)⟩,
  d_check_lock := ⟨c.def_ 1 (d := mkD 8 "check_lock") rfl, He.glo_ok X G (c.fact 1 (f := .glo "check_lock") rfl)⟩,
  d_is_code := ⟨c.def_ 2 (d := mkD 9 "is_code") rfl, He.glo_ok X G (c.fact 2 (f := .glo "is_code") rfl)⟩,
  d_check_code := ⟨c.def_ 3 (d := mkD 10 "check_code") rfl, He.glo_ok X G (c.fact 3 (f := .glo "check_code") rfl)⟩,
  d_number_of_codes := ⟨c.def_ 4 (d := mkD 11 "number_of_codes") rfl, He.glo_ok X G (c.fact 4 (f := .glo "number_of_codes") rfl)⟩,
  d_check_size := ⟨c.def_ 5 (d := mkD 12 "check_size") rfl, He.glo_ok X G (c.fact 5 (f := .glo "check_size") rfl)⟩,
  d_answer_of := ⟨c.def_ 6 (d := mkD 13 "answer_of") rfl, He.glo_ok X G (c.fact 6 (f := .glo "answer_of") rfl)⟩,
  d_answer := ⟨c.def_ 7 (d := mkD 14 "answer") rfl, He.glo_ok X G (c.fact 7 (f := .glo "answer") rfl)⟩,
  d_law_mixed := ⟨c.def_ 8 (d := mkD 16 "_law_mixed") rfl, He.glo_ok X G (c.fact 8 (f := .glo "_law_mixed") rfl)⟩,
  d_law_numbers := ⟨c.def_ 9 (d := mkD 17 "_law_numbers") rfl, He.glo_ok X G (c.fact 9 (f := .glo "_law_numbers") rfl)⟩,
  d_law_draw := ⟨c.def_ 10 (d := mkD 18 "_law_draw") rfl, He.glo_ok X G (c.fact 10 (f := .glo "_law_draw") rfl)⟩,
  d_law_equal := ⟨c.def_ 11 (d := mkD 19 "_law_equal") rfl, He.glo_ok X G (c.fact 11 (f := .glo "_law_equal") rfl)⟩,
  d_law_all_equal := ⟨c.def_ 12 (d := mkD 20 "_law_all_equal") rfl, He.glo_ok X G (c.fact 12 (f := .glo "_law_all_equal") rfl)⟩,
  d_law_code := ⟨c.def_ 13 (d := mkD 21 "_law_code") rfl, He.glo_ok X G (c.fact 13 (f := .glo "_law_code") rfl)⟩,
  d_law_answer := ⟨c.def_ 14 (d := mkD 22 "_law_answer") rfl, He.glo_ok X G (c.fact 14 (f := .glo "_law_answer") rfl)⟩,
  d_law_lock := ⟨c.def_ 15 (d := mkD 23 "_law_lock") rfl, He.glo_ok X G (c.fact 15 (f := .glo "_law_lock") rfl)⟩,
  d_law_how_many := ⟨c.def_ 16 (d := mkD 24 "_law_how_many") rfl, He.glo_ok X G (c.fact 16 (f := .glo "_law_how_many") rfl)⟩,
  d_law_refused := ⟨c.def_ 17 (d := mkD 25 "_law_refused") rfl, He.glo_ok X G (c.fact 17 (f := .glo "_law_refused") rfl)⟩,
  d_law := ⟨c.def_ 18 (d := mkD 26 "law") rfl, He.glo_ok X G (c.fact 18 (f := .glo "law") rfl)⟩,
  z_bool := He.free_ok X G (c.fact 19 (f := .free "bool") rfl),
  z_int := He.free_ok X G (c.fact 20 (f := .free "int") rfl),
  z_isinstance := He.free_ok X G (c.fact 21 (f := .free "isinstance") rfl),
  z_len := He.free_ok X G (c.fact 22 (f := .free "len") rfl),
  z_list := He.free_ok X G (c.fact 23 (f := .free "list") rfl),
  z_min := He.free_ok X G (c.fact 24 (f := .free "min") rfl),
  z_range := He.free_ok X G (c.fact 25 (f := .free "range") rfl),
  z_str := He.free_ok X G (c.fact 26 (f := .free "str") rfl),
  z_sum := He.free_ok X G (c.fact 27 (f := .free "sum") rfl),
  z_tuple := He.free_ok X G (c.fact 28 (f := .free "tuple") rfl),
  g_WayError := He.glo_ok X G (c.fact 29 (f := .glo "WayError") rfl),
  x_WayError := He.exc_ok (c.fact 30 (f := .exc "WayError") rfl),
  g_BadCode := He.glo_ok X G (c.fact 31 (f := .glo "BadCode") rfl),
  x_BadCode := He.exc_ok (c.fact 32 (f := .exc "BadCode") rfl),
  g_TooLarge := He.glo_ok X G (c.fact 33 (f := .glo "TooLarge") rfl),
  x_TooLarge := He.exc_ok (c.fact 34 (f := .exc "TooLarge") rfl),
  exm := (exok_cons (He.exm_ok (c.fact 40 (f := .exm "WayError" "BadCode" false) rfl)) (exok_cons (He.exm_ok (c.fact 39 (f := .exm "WayError" "TooLarge" false) rfl)) (exok_cons (He.exm_ok (c.fact 38 (f := .exm "BadCode" "BadCode" true) rfl)) (exok_cons (He.exm_ok (c.fact 37 (f := .exm "BadCode" "TooLarge" false) rfl)) (exok_cons (He.exm_ok (c.fact 36 (f := .exm "TooLarge" "BadCode" false) rfl)) (exok_cons (He.exm_ok (c.fact 35 (f := .exm "TooLarge" "TooLarge" true) rfl)) exok_nil)))))),
  i_MOST_CODES := He.int_ok X G (c.fact 41 (f := .int "MOST_CODES" 10000) rfl) }
theorem cx_none {P : Program} (H : Hp) (s : Shared) (e : Value) (s' : Shared) (z : L2.CX0 [] H s (fun _ _ _ => False) e s') : False := z
end K31
open PySem PySem.W PySem.Calls PyProof.Rows in
theorem PySem.Challenge.cw_everyriddle_k31_answers_to_tries_of (hlaw : ∀ ns : List Int, ns.length ≤ 63 → ∃ os, K31.law_sem [.fr (.list (ns.map .int))] = some (.ok (.fr (.bool true)) os)) : PySem.Challenge.rw_everyriddle_k31_answers_to_tries.Holds := by
  w_on; o_law
  refine HandSHeadRun.head_any (r := K31.rw0) (q := view K31.rw0.prog [26]) (H := K31.hk0) (ob := K31.ob0) (M := 2000) (loose := ["BadCode", "MOST_CODES", "TooLarge", "WayError", "_law_all_equal", "_law_answer", "_law_code", "_law_draw", "_law_equal", "_law_how_many", "_law_lock", "_law_mixed", "_law_numbers", "_law_refused", "answer", "answer_of", "check_code", "check_lock", "check_size", "is_code", "is_number", "number_of_codes"]) (d := HandSHeadRun.topDef K31.rw0.prog 26) (kwd := []) K31.ob0_eq
    (by kernel_rfl) (fun s => by kernel_rfl) K31.run0 (by kernel_rfl) (by kernel_rfl) (by kernel_rfl) (by rfl) (by first | assumption | decide +kernel) (by decide +kernel) ⟨rfl, rfl, rfl, rfl, rfl, by decide +kernel⟩ ?hw ?hc
  case hw => w_witness2
  case hc =>
    refine L2.walk_ofE (l := PySem.Challenge.rw_everyriddle_k31_answers_to_tries) (n := 63) (k := 14) (x := "script") (CX := L2.CX0) rfl (by decide) (by kernel_rfl) ⟨rfl, by decide, by decide⟩ ?F (fun _ _ _ _ z => z)
    intro w mg fa h Y G hmg0
    obtain ⟨K, KX, c⟩ := Y
    have e0 : (HandSHeadRun.topDef K31.rw0.prog 26).name = ("law" : PySem.Str) := by kernel_rfl
    rw [e0] at hmg0
    have F := K31.fx KX G c
    obtain ⟨⟨fd, FD⟩, gl⟩ := F.d_law
    cases hmg0.symm.trans gl
    have bA := L2.FunD.bindsA (ps := ["script"]) FD fun _ _ _ _ _ _ us hl => match us, hl with | [_], _ => rfl
    refine ⟨K, fd, fun vs H Q _ => Lv.SpT K K31.law_sem vs H Q (fun _ _ _ => False), KX, fun s v => bA s [v] rfl, fun H a ns hl _ hS => Lv.law_sp hlaw H a ns hl hS, fun base _ _ => Lv.fin_cx ?_⟩
    exact K31.ok_law (P := (PySem.Challenge.rw_everyriddle_k31_answers_to_tries).prog) (w := w) (base := base) F FD
theorem PySem.Challenge.cw_everyriddle_k31_answers_to_tries_holds : PySem.Challenge.rw_everyriddle_k31_answers_to_tries.Holds := by
  exact PySem.Challenge.cw_everyriddle_k31_answers_to_tries_of K31.law_ok
