import PyProof.Rows.All
import HandS.ForMost
import HandS.Exc
import HandS.TryOnly
import HandS.ExcOwn
import HandS.WordsExc
import HandS.HeadHook1
import KE.DataEq
import KE.DataCmp
import KE.SortData
import KE.DataMinMax
import KE.DataFind
import HandS.TupAny
import HandS.IsInst
import HandS.Flow
import HandS.Style
import HandS.RaiseMore
import HandS.Defaults
import HandS.HeadHook2
import HandS.TryMany
import HandS.List
import HandS.TupSets
import HandS.Iter
import HandS.Conv
import HandS.HeadHook3
import HandS.Small
import HandS.More
import Wide.All
import OpenK.AllK
import Wide.FinOn
import KE.KStateDown
import HandS.Base
import HandS.Call
import HandS.Ends
import HandS.Words
import HandS.Head0
import HandS.Head1
import HandS.Head2
import HandS.HeadEnd
import PySem.Challenge.RW_everyriddle_k68_full_times_and_ranks
set_option Elab.async false
set_option linter.all false
set_option maxRecDepth 100000
set_option maxHeartbeats 1000000
namespace Lv
open PySem PySem.Spec PyProof.Rows L2

abbrev D := PyData
/-- a tree: frozen data, or an owned object -/
inductive T where
  | fr (d : D)
  | lst (xs : List T)
  | dk (kvs : List (Key × T))
  | obj (c : Str) (fs : List (Str × T))
  | dkl (kvs : List (D × D))
def keyD : Key → D
  | .inl i => .int i
  | .inr x => .str x
mutual
def T.dat : T → Option D
  | .fr d => some d
  | .lst xs => (T.datL xs).map .list
  | .dk kvs => (T.datK kvs).map .dict
  | .obj _ _ => none
  | .dkl _ => none
def T.datL : List T → Option (List D)
  | [] => some []
  | x :: xs => match x.dat, T.datL xs with
    | some d, some ds => some (d :: ds)
    | _, _ => none
def T.datK : List (Key × T) → Option (List (D × D))
  | [] => some []
  | (k, x) :: xs => match x.dat, T.datK xs with
    | some d, some ds => some ((keyD k, d) :: ds)
    | _, _ => none
end
abbrev Fp := Addr → Prop
mutual
/-- frozen data, over the frozen part M of the heap -/
inductive Dz (K : PySem.W.Frag) (M : Hp) : V → D → Prop
  | non : Dz K M .non .none
  | bl (b : Bool) : Dz K M (.bl b) (.bool b)
  | int (i : Int) : Dz K M (.int i) (.int i)
  | str (x : Str) : Dz K M (.str x) (.str x)
  | lst {a : Addr} {xs : List V} {ds : List D} : SqL K M a xs → DzL K M xs ds → Dz K M (.ref a) (.list ds)
  | tup {a : Addr} {xs : List V} {ds : List D} : SqT K M a xs → DzL K M xs ds → Dz K M (.ref a) (.tuple ds)
  | dk {a : Addr} {kvs : List (Key × V)} {ds : List (D × D)} : M a = some (.dK kvs) → DzK K M kvs ds → Dz K M (.ref a) (.dict ds)
inductive DzL (K : PySem.W.Frag) (M : Hp) : List V → List D → Prop
  | nil : DzL K M [] []
  | cons {v : V} {vs : List V} {d : D} {ds : List D} : Dz K M v d → DzL K M vs ds → DzL K M (v :: vs) (d :: ds)
inductive DzK (K : PySem.W.Frag) (M : Hp) : List (Key × V) → List (D × D) → Prop
  | nil : DzK K M [] []
  | cons {k : Key} {v : V} {vs : List (Key × V)} {d : D} {ds : List (D × D)} : Dz K M v d → DzK K M vs ds → DzK K M ((k, v) :: vs) ((keyD k, d) :: ds)
end
section
variable {K : PySem.W.Frag} {M M' : Hp}
theorem Same.tup {H H' : Hp} {a : Addr} {xs : List V} (e : L2.Same H H') (h : SqT K H a xs) : SqT K H' a xs := by
  rcases h with (h | ⟨o, h⟩) | h
  · exact .inl (.inl (e _ _ h))
  · exact .inl (.inr ⟨o, e _ _ h⟩)
  · exact .inr h
mutual
theorem Dz.mono (e : L2.Same M M') : ∀ {v : V} {d : D}, Dz K M v d → Dz K M' v d
  | _, _, .non => .non
  | _, _, .bl b => .bl b
  | _, _, .int b => .int b
  | _, _, .str b => .str b
  | _, _, .lst h t => .lst (e.seq h) (DzL.mono e t)
  | _, _, .tup h t => .tup (Same.tup e h) (DzL.mono e t)
  | _, _, .dk h t => .dk (e _ _ h) (DzK.mono e t)
theorem DzL.mono (e : L2.Same M M') : ∀ {v : List V} {d : List D}, DzL K M v d → DzL K M' v d
  | _, _, .nil => .nil
  | _, _, .cons h t => .cons (Dz.mono e h) (DzL.mono e t)
theorem DzK.mono (e : L2.Same M M') : ∀ {v : List (Key × V)} {d : List (D × D)}, DzK K M v d → DzK K M' v d
  | _, _, .nil => .nil
  | _, _, .cons h t => .cons (Dz.mono e h) (DzK.mono e t)
end
mutual
theorem Dz.dp : ∀ {v : V} {d : D}, d.plain = true → Dz K M v d → Dp K M v d
  | _, _, _, .non => .non
  | _, _, _, .bl b => .bl b
  | _, _, _, .int b => .int b
  | _, _, _, .str b => .str b
  | _, _, p, .lst h t => .lst h (DzL.dp (by simpa [PyData.plain] using p) t)
  | _, _, p, .tup h t => .tup h (DzL.dp (by simpa [PyData.plain] using p) t)
  | _, _, p, .dk h t => absurd p (by simp [PyData.plain])
theorem DzL.dp : ∀ {v : List V} {d : List D}, PyData.plainAll d = true → DzL K M v d → DpAll K M v d
  | _, _, _, .nil => .nil
  | _, _, p, .cons h t => by
    simp only [PyData.plainAll, Bool.and_eq_true] at p
    exact .cons (Dz.dp p.1 h) (DzL.dp p.2 t)
end
theorem DzL.length : ∀ {v : List V} {d : List D}, DzL K M v d → v.length = d.length
  | _, _, .nil => rfl
  | _, _, .cons _ t => by simp [DzL.length t]
theorem DzL.append : ∀ {v w : List V} {d e : List D}, DzL K M v d → DzL K M w e → DzL K M (v ++ w) (d ++ e)
  | _, _, _, _, .nil, s => s
  | _, _, _, _, .cons h t, s => .cons h (DzL.append t s)
theorem DzL.take : ∀ {v : List V} {d : List D} (n : Nat), DzL K M v d → DzL K M (v.take n) (d.take n)
  | _, _, 0, _ => .nil
  | _, _, _ + 1, .nil => .nil
  | _, _, n + 1, .cons h t => .cons h (DzL.take n t)
theorem DzL.drop : ∀ {v : List V} {d : List D} (n : Nat), DzL K M v d → DzL K M (v.drop n) (d.drop n)
  | _, _, 0, h => h
  | _, _, _ + 1, .nil => .nil
  | _, _, n + 1, .cons h t => DzL.drop n t
theorem DzL.get : ∀ {v : List V} {d : List D} {i : Nat} {x : D}, DzL K M v d → d[i]? = some x → ∃ u, v[i]? = some u ∧ Dz K M u x
  | _, _, _, _, .nil, e => by simp at e
  | _, _, 0, _, .cons h t, e => by simp at e; subst e; exact ⟨_, rfl, h⟩
  | _, _, i + 1, x, .cons h t, e => by
    obtain ⟨u, h1, h2⟩ := DzL.get (i := i) (x := x) t (by simpa using e)
    exact ⟨u, by simpa using h1, h2⟩
theorem DzL.get' : ∀ {v : List V} {d : List D} {i : Nat} {u : V}, DzL K M v d → v[i]? = some u → ∃ x, d[i]? = some x ∧ Dz K M u x
  | _, _, _, _, .nil, e => by simp at e
  | _, _, 0, _, .cons h t, e => by simp at e; subst e; exact ⟨_, rfl, h⟩
  | _, _, i + 1, x, .cons h t, e => by
    obtain ⟨u, h1, h2⟩ := DzL.get' (i := i) t (by simpa using e)
    exact ⟨u, by simpa using h1, h2⟩
theorem DzL.reverse {v : List V} {d : List D} (h : DzL K M v d) : DzL K M v.reverse d.reverse := by
  induction h using DzL.rec (motive_1 := fun _ _ _ => True) (motive_3 := fun _ _ _ => True) with
  | nil => exact .nil
  | cons h t _ ih => simpa using ih.append (.cons h .nil)
  | _ => trivial
theorem DzL.set : ∀ {v : List V} {d : List D} {u : V} {x : D} (i : Nat), Dz K M u x → DzL K M v d → DzL K M (v.set i u) (d.set i x)
  | _, _, _, _, _, _, .nil => .nil
  | _, _, _, _, 0, h, .cons _ t => .cons h t
  | _, _, _, _, i + 1, h, .cons q t => .cons q (DzL.set i h t)
end
/-! ### owned trees -/
mutual
inductive Rp (K : PySem.W.Frag) (M H : Hp) : T → V → Fp → Prop
  | fr {d : D} {v : V} : Dz K M v d → Rp K M H (.fr d) v (fun _ => False)
  | lst {a : Addr} {xs : List T} {vs : List V} {R : Fp} : H a = some (.lst vs) → M a = none → RpL K M H xs vs R → ¬ R a → Rp K M H (.lst xs) (.ref a) (fun b => b = a ∨ R b)
  | dk {a : Addr} {xs : List (Key × T)} {vs : List (Key × V)} {R : Fp} : H a = some (.dK vs) → M a = none → RpK K M H xs vs R → ¬ R a → Rp K M H (.dk xs) (.ref a) (fun b => b = a ∨ R b)
  | obj {a dx : Addr} {c : Str} {fs : List (Str × T)} {vs : List (Str × V)} {R : Fp} : H a = some (.ins (He.ga K c) dx vs) → H dx = some (.own a) → M a = none → M dx = none → Cls K (He.ga K c) →
      RpF K M H fs vs R → ¬ R a → ¬ R dx → Rp K M H (.obj c fs) (.ref a) (fun b => (b = a ∨ b = dx) ∨ R b)
  | dkl {a : Addr} {o : Obj} {vs : List (Key × V)} {ds : List (D × D)} : M a = some (.frz o (.dK vs)) → DzK K M vs ds → Rp K M H (.dkl ds) (.ref a) (fun _ => False)
inductive RpL (K : PySem.W.Frag) (M H : Hp) : List T → List V → Fp → Prop
  | nil : RpL K M H [] [] (fun _ => False)
  | cons {x : T} {v : V} {xs : List T} {vs : List V} {R R' : Fp} : Rp K M H x v R → RpL K M H xs vs R' → (∀ a, R a → ¬ R' a) → RpL K M H (x :: xs) (v :: vs) (fun b => R b ∨ R' b)
inductive RpK (K : PySem.W.Frag) (M H : Hp) : List (Key × T) → List (Key × V) → Fp → Prop
  | nil : RpK K M H [] [] (fun _ => False)
  | cons {k : Key} {x : T} {v : V} {xs : List (Key × T)} {vs : List (Key × V)} {R R' : Fp} : Rp K M H x v R → RpK K M H xs vs R' → (∀ a, R a → ¬ R' a) → RpK K M H ((k, x) :: xs) ((k, v) :: vs) (fun b => R b ∨ R' b)
inductive RpF (K : PySem.W.Frag) (M H : Hp) : List (Str × T) → List (Str × V) → Fp → Prop
  | nil : RpF K M H [] [] (fun _ => False)
  | cons {k : Str} {x : T} {v : V} {xs : List (Str × T)} {vs : List (Str × V)} {R R' : Fp} : Rp K M H x v R → RpF K M H xs vs R' → (∀ a, R a → ¬ R' a) → RpF K M H ((k, x) :: xs) ((k, v) :: vs) (fun b => R b ∨ R' b)
end
section
variable {K : PySem.W.Frag} {M M' H H' : Hp}
/-- kept where its own objects stand -/
structure Kp (M M' H H' : Hp) (R : Fp) : Prop where
  m : L2.Same M M'
  h : ∀ a, R a → ∀ o, H a = some o → H' a = some o
  n : ∀ a, R a → M a = none → M' a = none
theorem Kp.sub {R R' : Fp} (k : Kp M M' H H' R) (h : ∀ a, R' a → R a) : Kp M M' H H' R' := ⟨k.m, fun a q => k.h a (h a q), fun a q => k.n a (h a q)⟩
mutual
theorem Rp.keep : ∀ {t : T} {v : V} {R : Fp}, Rp K M H t v R → Kp M M' H H' R → Rp K M' H' t v R
  | _, _, _, .fr h, k => .fr (h.mono k.m)
  | _, _, _, .lst h1 h2 h3 h4, k => .lst (k.h _ (.inl rfl) _ h1) (k.n _ (.inl rfl) h2) (RpL.keep h3 (k.sub fun _ => .inr)) h4
  | _, _, _, .dk h1 h2 h3 h4, k => .dk (k.h _ (.inl rfl) _ h1) (k.n _ (.inl rfl) h2) (RpK.keep h3 (k.sub fun _ => .inr)) h4
  | _, _, _, .obj h1 h2 h3 h4 h5 h6 h7 h8, k => .obj (k.h _ (.inl (.inl rfl)) _ h1) (k.h _ (.inl (.inr rfl)) _ h2) (k.n _ (.inl (.inl rfl)) h3) (k.n _ (.inl (.inr rfl)) h4) h5 (RpF.keep h6 (k.sub fun _ => .inr)) h7 h8
  | _, _, _, .dkl h1 h2, k => .dkl (k.m _ _ h1) (h2.mono k.m)
theorem RpL.keep : ∀ {t : List T} {v : List V} {R : Fp}, RpL K M H t v R → Kp M M' H H' R → RpL K M' H' t v R
  | _, _, _, .nil, _ => .nil
  | _, _, _, .cons h t d, k => .cons (Rp.keep h (k.sub fun _ => .inl)) (RpL.keep t (k.sub fun _ => .inr)) d
theorem RpK.keep : ∀ {t : List (Key × T)} {v : List (Key × V)} {R : Fp}, RpK K M H t v R → Kp M M' H H' R → RpK K M' H' t v R
  | _, _, _, .nil, _ => .nil
  | _, _, _, .cons h t d, k => .cons (Rp.keep h (k.sub fun _ => .inl)) (RpK.keep t (k.sub fun _ => .inr)) d
theorem RpF.keep : ∀ {t : List (Str × T)} {v : List (Str × V)} {R : Fp}, RpF K M H t v R → Kp M M' H H' R → RpF K M' H' t v R
  | _, _, _, .nil, _ => .nil
  | _, _, _, .cons h t d, k => .cons (Rp.keep h (k.sub fun _ => .inl)) (RpF.keep t (k.sub fun _ => .inr)) d
end
mutual
theorem Rp.own : ∀ {t : T} {v : V} {R : Fp}, Rp K M H t v R → ∀ a, R a → M a = none ∧ ∃ o, H a = some o
  | _, _, _, .fr h, _, r => r.elim
  | _, _, _, .lst h1 h2 h3 h4, a, r => r.elim (fun e => by subst e; exact ⟨h2, _, h1⟩) (RpL.own h3 a)
  | _, _, _, .dk h1 h2 h3 h4, a, r => r.elim (fun e => by subst e; exact ⟨h2, _, h1⟩) (RpK.own h3 a)
  | _, _, _, .obj h1 h2 h3 h4 h5 h6 h7 h8, a, r => r.elim (fun e => e.elim (fun e => by subst e; exact ⟨h3, _, h1⟩) fun e => by subst e; exact ⟨h4, _, h2⟩) (RpF.own h6 a)
  | _, _, _, .dkl _ _, _, r => r.elim
theorem RpL.own : ∀ {t : List T} {v : List V} {R : Fp}, RpL K M H t v R → ∀ a, R a → M a = none ∧ ∃ o, H a = some o
  | _, _, _, .nil, _, r => r.elim
  | _, _, _, .cons h t d, a, r => r.elim (Rp.own h a) (RpL.own t a)
theorem RpK.own : ∀ {t : List (Key × T)} {v : List (Key × V)} {R : Fp}, RpK K M H t v R → ∀ a, R a → M a = none ∧ ∃ o, H a = some o
  | _, _, _, .nil, _, r => r.elim
  | _, _, _, .cons h t d, a, r => r.elim (Rp.own h a) (RpK.own t a)
theorem RpF.own : ∀ {t : List (Str × T)} {v : List (Str × V)} {R : Fp}, RpF K M H t v R → ∀ a, R a → M a = none ∧ ∃ o, H a = some o
  | _, _, _, .nil, _, r => r.elim
  | _, _, _, .cons h t d, a, r => r.elim (Rp.own h a) (RpF.own t a)
end
/-! seen as data: over any N that holds M and the own objects -/
mutual
theorem Rp.view {N : Hp} (mn : L2.Same M N) : ∀ {t : T} {v : V} {R : Fp} {d : D}, Rp K M H t v R → (∀ a, R a → ∀ o, H a = some o → N a = some o) → t.dat = some d → Dz K N v d
  | _, _, _, _, .fr h, _, e => by cases e; exact h.mono mn
  | _, _, _, _, .lst (xs := xs) h1 h2 h3 h4, k, e => by
    simp only [T.dat] at e
    cases q : T.datL xs with
    | none => rw [q] at e; cases e
    | some ds => rw [q] at e; cases e; exact .lst (.of (k _ (.inl rfl) _ h1)) (RpL.view mn h3 (fun a r => k a (.inr r)) q)
  | _, _, _, _, .dk (xs := xs) h1 h2 h3 h4, k, e => by
    simp only [T.dat] at e
    cases q : T.datK xs with
    | none => rw [q] at e; cases e
    | some ds => rw [q] at e; cases e; exact .dk (k _ (.inl rfl) _ h1) (RpK.view mn h3 (fun a r => k a (.inr r)) q)
  | _, _, _, _, .obj h1 h2 h3 h4 h5 h6 h7 h8, k, e => by cases e
  | _, _, _, _, .dkl _ _, k, e => by cases e
theorem RpL.view {N : Hp} (mn : L2.Same M N) : ∀ {t : List T} {v : List V} {R : Fp} {d : List D}, RpL K M H t v R → (∀ a, R a → ∀ o, H a = some o → N a = some o) → T.datL t = some d → DzL K N v d
  | _, _, _, _, .nil, _, e => by cases e; exact .nil
  | _, _, _, _, .cons (x := x) (xs := xs) h t _, k, e => by
    simp only [T.datL] at e
    cases q : x.dat with
    | none => rw [q] at e; cases e
    | some d =>
      cases q2 : T.datL xs with
      | none => rw [q, q2] at e; cases e
      | some ds => rw [q, q2] at e; cases e; exact .cons (Rp.view mn h (fun a r => k a (.inl r)) q) (RpL.view mn t (fun a r => k a (.inr r)) q2)
theorem RpK.view {N : Hp} (mn : L2.Same M N) : ∀ {t : List (Key × T)} {v : List (Key × V)} {R : Fp} {d : List (D × D)}, RpK K M H t v R → (∀ a, R a → ∀ o, H a = some o → N a = some o) → T.datK t = some d → DzK K N v d
  | _, _, _, _, .nil, _, e => by cases e; exact .nil
  | _, _, _, _, .cons (x := x) (xs := xs) h t _, k, e => by
    simp only [T.datK] at e
    cases q : x.dat with
    | none => rw [q] at e; cases e
    | some d =>
      cases q2 : T.datK xs with
      | none => rw [q, q2] at e; cases e
      | some ds => rw [q, q2] at e; cases e; exact .cons (Rp.view mn h (fun a r => k a (.inl r)) q) (RpK.view mn t (fun a r => k a (.inr r)) q2)
end
/-- M and the objects of R -/
noncomputable def frz (M H : Hp) (R : Fp) : Hp := fun a => open Classical in if R a then H a else M a
theorem frz_same {R : Fp} (h : ∀ a, R a → M a = none) : L2.Same M (frz M H R) := fun a o e => by
  unfold frz
  by_cases q : R a
  · rw [h a q] at e; cases e
  · rw [if_neg q]; exact e
theorem frz_le {R : Fp} (h : L2.Same M H) : L2.Same (frz M H R) H := fun a o e => by
  unfold frz at e
  by_cases q : R a
  · rwa [if_pos q] at e
  · rw [if_neg q] at e; exact h a o e
theorem frz_in {R : Fp} {a : Addr} (q : R a) : frz M H R a = H a := by unfold frz; rw [if_pos q]
theorem frz_out {R : Fp} {a : Addr} (q : ¬ R a) : frz M H R a = M a := by unfold frz; rw [if_neg q]
theorem Rp.freeze {t : T} {v : V} {R : Fp} {d : D} (h : Rp K M H t v R) (e : t.dat = some d) : Dz K (frz M H R) v d :=
  h.view (frz_same fun a r => (h.own a r).1) (fun a r o q => by rw [frz_in r]; exact q) e
/-- seen as data at the heap as it stands -/
theorem Rp.seen {t : T} {v : V} {R : Fp} {d : D} (m : L2.Same M H) (h : Rp K M H t v R) (e : t.dat = some d) : Dz K H v d := h.view m (fun _ _ _ q => q) e
end
end Lv

set_option maxHeartbeats 1000000
namespace Lv
open PySem PySem.Spec PyProof.Rows L2

abbrev Rho := List (Option T)
structure Good (K : PySem.W.Frag) (M H : Hp) (σ : L2.St) (ρ : Rho) (F : Nat → Fp) : Prop where
  le : L2.Same M H
  len : ρ.length = σ.length
  sl : ∀ (i : Nat) (t : T), ρ[i]? = some (some t) → ∃ v, σ[i]? = some (some v) ∧ Rp K M H t v (F i)
  em : ∀ i, (∀ t, ρ[i]? ≠ some (some t)) → ∀ a, ¬ F i a
  dj : ∀ i j a, F i a → F j a → i = j
def Al (F : Nat → Fp) : Fp := fun a => ∃ i, F i a
structure Stp (M H : Hp) (P : Fp) (M' H' : Hp) (P' : Fp) : Prop where
  m : L2.Same M M'
  h : ∀ a o, H a = some o → ¬ P a → H' a = some o
  n : ∀ a, M a = none → M' a ≠ none → P a ∨ H a = none
  p : ∀ a, P' a → P a ∨ H a = none
section
variable {K : PySem.W.Frag} {M M' M1 M2 H H' H1 H2 : Hp} {P P' P1 P2 R : Fp} {σ : L2.St} {ρ : Rho} {F : Nat → Fp}
theorem Stp.refl (h : ∀ a, P' a → P a) : Stp M H P M H P' := ⟨L2.Same.refl _, fun _ _ e _ => e, fun a h1 h2 => absurd h1 h2, fun a q => .inl (h a q)⟩
theorem Stp.trans (s1 : Stp M H P M1 H1 P1) (s2 : Stp M1 H1 P1 M2 H2 P2) : Stp M H P M2 H2 P2 := by
  have gone : ∀ a, H1 a = none → P a ∨ H a = none := fun a q => by
    cases e : H a with
    | none => exact .inr rfl
    | some o => exact .inl (Classical.byContradiction fun np => by rw [s1.h a o e np] at q; cases q)
  refine ⟨s1.m.trans s2.m, fun a o e np => s2.h a o (s1.h a o e np) fun q => ?_, fun a h1 h2 => ?_, fun a q => ?_⟩
  · rcases s1.p a q with z | z
    · exact np z
    · rw [e] at z; cases z
  · cases q : M1 a with
    | none =>
      rcases s2.n a q h2 with z | z
      · exact s1.p a z
      · exact gone a z
    | some o => exact s1.n a h1 (by rw [q]; simp)
  · rcases s2.p a q with z | z
    · exact s1.p a z
    · exact gone a z
theorem Stp.sub (s : Stp M H P M1 H1 P1) (h : ∀ a, P a → P' a) (h2 : ∀ a, P2 a → P1 a) : Stp M H P' M1 H1 P2 :=
  ⟨s.m, fun a o e q => s.h a o e fun z => q (h a z), fun a h1 h3 => (s.n a h1 h3).imp_left (h a), fun a q => (s.p a (h2 a q)).imp_left (h a)⟩
/-- what stands apart is kept -/
theorem Stp.kp (s : Stp M H P M1 H1 P1) (hr : ∀ a, R a → ¬ P a) (ho : ∀ a, R a → M a = none ∧ ∃ o, H a = some o) : Kp M M1 H H1 R :=
  ⟨s.m, fun a r o e => s.h a o e (hr a r), fun a r e => Classical.byContradiction fun q => by
    rcases s.n a e q with z | z
    · exact hr a r z
    · obtain ⟨_, o, e2⟩ := ho a r
      rw [z] at e2; cases e2⟩
theorem Good.own (g : Good K M H σ ρ F) : ∀ a, Al F a → M a = none ∧ ∃ o, H a = some o := fun a ⟨i, r⟩ => by
  cases q : ρ[i]? with
  | none => exact absurd r (g.em i (fun t e => by rw [q] at e; cases e) a)
  | some o =>
    cases o with
    | none => exact absurd r (g.em i (fun t e => by rw [q] at e; cases e) a)
    | some t =>
      obtain ⟨v, _, rp⟩ := g.sl i t q
      exact rp.own a r
theorem Good.keep (g : Good K M H σ ρ F) (k : Kp M M' H H' (Al F)) (le : L2.Same M' H') : Good K M' H' σ ρ F :=
  ⟨le, g.len, fun i t e => let ⟨v, e2, r⟩ := g.sl i t e; ⟨v, e2, r.keep (k.sub fun a q => ⟨i, q⟩)⟩, g.em, g.dj⟩
theorem Rp.apart {t : T} {v : V} {R : Fp} (r : Rp K M H t v R) (s : Stp M H P M1 H1 P1) (hr : ∀ a, R a → ¬ P a) : Rp K M1 H1 t v R := r.keep (s.kp hr r.own)
/-- the heap and the frozen part grow -/
structure Ext (M H M' H' : Hp) : Prop where
  h : L2.Same H H'
  m : L2.Same M M'
  le : L2.Same M' H'
  n : ∀ a, M a = none → M' a ≠ none → H a = none
theorem Ext.refl (le : L2.Same M H) : Ext M H M H := ⟨L2.Same.refl _, L2.Same.refl _, le, fun a h1 h2 => absurd h1 h2⟩
theorem Same.out {H H' : Hp} (s : L2.Same H H') {a : Addr} (e : H' a = none) : H a = none := s.free e
theorem Ext.trans (a : Ext M H M1 H1) (b : Ext M1 H1 M2 H2) : Ext M H M2 H2 := ⟨a.h.trans b.h, a.m.trans b.m, b.le, fun c h1 h2 => by
  cases q : M1 c with
  | none => exact Same.out a.h (b.n c q h2)
  | some o => exact a.n c h1 (by rw [q]; simp)⟩
theorem Ext.kp (x : Ext M H M1 H1) (ho : ∀ a, R a → M a = none ∧ ∃ o, H a = some o) : Kp M M1 H H1 R := ⟨x.m, fun a _ o e => x.h a o e, fun a r e => Classical.byContradiction fun q => by
  obtain ⟨_, o, e2⟩ := ho a r
  rw [x.n a e q] at e2; cases e2⟩
theorem Rp.ext {t : T} {v : V} {R : Fp} (r : Rp K M H t v R) (x : Ext M H M1 H1) : Rp K M1 H1 t v R := r.keep (x.kp r.own)
theorem Good.ext (g : Good K M H σ ρ F) (x : Ext M H M1 H1) : Good K M1 H1 σ ρ F := g.keep (x.kp g.own) x.le
theorem Ext.stp (x : Ext M H M1 H1) (hp : ∀ a, P' a → P a ∨ H a = none) : Stp M H P M1 H1 P' := ⟨x.m, fun a o e _ => x.h a o e, fun a h1 h2 => .inr (x.n a h1 h2), hp⟩
theorem Rp.fr_inv {d : D} {v : V} (r : Rp K M H (.fr d) v R) : Dz K M v d ∧ ∀ a, ¬ R a := by
  cases r with
  | fr h => exact ⟨h, fun _ => id⟩
/-- a new object: a list -/
theorem Ext.new {p : Addr} {o : HO} (le : L2.Same M H) (np : H p = none) : Ext M H M (upd H p o) := by
  have e : L2.Same H (upd H p o) := fun a u q => by rw [upd_ne (ne_of_none q np)]; exact q
  exact ⟨e, L2.Same.refl _, fun a u q => e a u (le a u q), fun a h1 h2 => absurd h1 h2⟩
theorem Ext.newM {p : Addr} {o : HO} (le : L2.Same M H) (np : H p = none) : Ext M H (upd M p o) (upd H p o) := by
  have e : L2.Same H (upd H p o) := fun a u q => by rw [upd_ne (ne_of_none q np)]; exact q
  have mp : M p = none := Same.out le np
  refine ⟨e, fun a u q => by rw [upd_ne (ne_of_none q mp)]; exact q, fun a u q => ?_, fun a h1 h2 => ?_⟩
  · by_cases z : a = p
    · subst z; rw [upd_same] at q ⊢; exact q
    · rw [upd_ne z] at q ⊢; exact le a u q
  · by_cases z : a = p
    · subst z; exact np
    · rw [upd_ne z] at h2; exact absurd h1 h2
/-- the owned made frozen -/
theorem Stp.frz {t : T} {v : V} (s : Stp M H P M1 H1 (fun a => R a ∨ P1 a)) (r : Rp K M1 H1 t v R) (dj : ∀ a, R a → ¬ P1 a) (le : L2.Same M1 H1) : Stp M H P (Lv.frz M1 H1 R) H1 P1 ∧ L2.Same (Lv.frz M1 H1 R) H1 ∧ Kp M1 (Lv.frz M1 H1 R) H1 H1 P1 := by
  have mm : L2.Same M1 (Lv.frz M1 H1 R) := frz_same fun a q => (r.own a q).1
  refine ⟨⟨s.m.trans mm, s.h, fun a h1 h2 => ?_, fun a q => s.p a (.inr q)⟩, frz_le le, ⟨mm, fun _ _ _ e => e, fun a q e => by rw [frz_out fun z => dj a z q]; exact e⟩⟩
  by_cases q : R a
  · exact s.p a (.inl q)
  · rw [frz_out q] at h2; exact s.n a h1 h2
end
/-! ### judgements -/
inductive Rs (α : Type) where
  | ok (a : α) (ρ : Rho)
  | ex (c : Str) (ρ : Rho)
abbrev WS := Str → L2.St → Hp → Prop
def bnd {α β : Type} (r : Option (Rs α)) (k : α → Rho → Option (Rs β)) : Option (Rs β) := match r with
  | some (.ok a ρ) => k a ρ
  | some (.ex c ρ) => some (.ex c ρ)
  | none => none
def tK (K : PySem.W.Frag) (f : Rho → Option T) : TE := fun σ H Q => ∃ M ρ F t, Good K M H σ ρ F ∧ f ρ = some t ∧ ∀ M' H' v R, Ext M H M' H' → Rp K M' H' t v R → Q v H'
/-- what is wanted of an exception -/
def wEx (K : PySem.W.Frag) (W : WS) (M H : Hp) (F : Nat → Fp) (σ : L2.St) (c : Str) (ρ : Rho) : Prop := ∀ M' H' F', Stp M H (Al F) M' H' (Al F') → Good K M' H' σ ρ F' → W c σ H'
def tE (K : PySem.W.Frag) (W : WS) (f : Rho → Option (Rs T)) : TE := fun σ H Q => ∃ M ρ F r, Good K M H σ ρ F ∧ f ρ = some r ∧ match r with
  | .ok t ρ' => ∀ M' H' v R F', Stp M H (Al F) M' H' (fun a => R a ∨ Al F' a) → Good K M' H' σ ρ' F' → Rp K M' H' t v R → (∀ a, R a → ¬ Al F' a) → Q v H'
  | .ex c ρ' => wEx K W M H F σ c ρ'
def tT (K : PySem.W.Frag) (W : WS) (f : Rho → Option (Rs Bool)) : TT := fun σ H Q => ∃ M ρ F r, Good K M H σ ρ F ∧ f ρ = some r ∧ match r with
  | .ok b ρ' => ∀ M' H' F', Stp M H (Al F) M' H' (Al F') → Good K M' H' σ ρ' F' → Q b H'
  | .ex c ρ' => wEx K W M H F σ c ρ'
abbrev EK (X : Cx) (e : Expr) (f : Rho → Option T) : Prop := PE X e (tK X.K f)
abbrev EE (X : Cx) (W : WS) (e : Expr) (f : Rho → Option (Rs T)) : Prop := PE X e (tE X.K W f)
abbrev ET (X : Cx) (W : WS) (e : Expr) (f : Rho → Option (Rs Bool)) : Prop := PT X e (tT X.K W f)
theorem _root_.L2.PE.lv {X : Cx} {e : Expr} {t t' : TE} (h : PE X e t) (i : ∀ σ H Q, t' σ H Q → t σ H Q) : PE X e t' := ⟨fun pins s σ H Q I w => h.run pins s σ H Q I (i σ H Q w)⟩
theorem _root_.L2.PT.lv {X : Cx} {e : Expr} {t t' : TT} (h : PT X e t) (i : ∀ σ H Q, t' σ H Q → t σ H Q) : PT X e t' := ⟨fun pins s σ H Q I w => h.run pins s σ H Q I (i σ H Q w)⟩
theorem _root_.L2.PS.lv {X : Cx} {e : Stmt} {t t' : TS} (h : PS X e t) (i : ∀ D σ H, t' D σ H → t D σ H) : PS X e t' := ⟨fun pins s σ H D I w => h.run pins s σ H D I (i D σ H w)⟩
theorem _root_.L2.PSs.lv {X : Cx} {e : List Stmt} {t t' : TS} (h : PSs X e t) (i : ∀ D σ H, t' D σ H → t D σ H) : PSs X e t' := ⟨fun pins s σ H D I w => h.run pins s σ H D I (i D σ H w)⟩
section
variable {X : Cx} {W : WS} {e a b : Expr} {pos : Pos}
def kC (d : D) : Rho → Option T := fun _ => some (.fr d)
def kV (i : Nat) : Rho → Option T := fun ρ => match ρ[i]? with
  | some (some t) => some t
  | _ => none
def kOk (f : Rho → Option T) : Rho → Option (Rs T) := fun ρ => match f ρ with
  | some (.fr d) => some (.ok (.fr d) ρ)
  | _ => none
theorem ek_var {i : Nat} {x : Str} (h : PE X (.Name x pos) (tVar i)) : EK X (.Name x pos) (kV i) := h.lv fun σ H Q ⟨M, ρ, F, t, g, e, q⟩ => by
  unfold kV at e
  split at e
  · next t' e' =>
    cases e
    obtain ⟨v, h1, r⟩ := g.sl i _ e'
    exact ⟨v, h1, q M H v _ (.refl g.le) r⟩
  · cases e
theorem ek_c {v : V} {d : D} (h : PE X e (tC v)) (r : ∀ M, Dz X.K M v d) : EK X e (kC d) := h.lv fun σ H Q ⟨M, ρ, F, t, g, e, q⟩ => by
  cases e
  exact q M H v _ (.refl g.le) (.fr (r M))
theorem ek_int {i : Int} {j} : EK X (.Constant (.int i) j pos) (kC (.int i)) := ek_c pe_int fun _ => .int i
theorem ek_bl {i : Bool} {j} : EK X (.Constant (.bool i) j pos) (kC (.bool i)) := ek_c pe_bl fun _ => .bl i
theorem ek_non {j} : EK X (.Constant .none j pos) (kC .none) := ek_c pe_non fun _ => .non
theorem ek_str {i : Str} {j} : EK X (.Constant (.str i) j pos) (kC (.str i)) := ek_c pe_str fun _ => .str i
theorem ee_k {f : Rho → Option T} (h : EK X e f) : EE X W e (kOk f) := h.lv fun σ H Q ⟨M, ρ, F, r, g, e, q⟩ => by
  unfold kOk at e
  split at e
  · next d e' =>
    cases e
    refine ⟨M, ρ, F, _, g, e', fun M' H' v R x rp => ?_⟩
    have nr := (rp.fr_inv).2
    exact q M' H' v R F (x.stp fun a q => .inl (q.elim (fun z => absurd z (nr a)) id)) (g.ext x) rp fun a z => absurd z (nr a)
  · cases e
/-- moved out of its slot -/
def eMv (i : Nat) : Rho → Option (Rs T) := fun ρ => match ρ[i]? with
  | some (some t) => some (.ok t (ρ.set i none))
  | _ => none
/-- frozen in its slot -/
def eCp (i : Nat) : Rho → Option (Rs T) := fun ρ => match ρ[i]? with
  | some (some t) => t.dat.map fun d => .ok (.fr d) (ρ.set i (some (.fr d)))
  | _ => none
theorem Good.drop {K : PySem.W.Frag} {M H : Hp} {σ : L2.St} {ρ : Rho} {F : Nat → Fp} (g : Good K M H σ ρ F) (i : Nat) : Good K M H σ (ρ.set i none) (fun j a => j ≠ i ∧ F j a) where
  le := g.le
  len := by simpa using g.len
  sl := fun j t e => by
    by_cases z : j = i
    · subst z
      rw [List.getElem?_set] at e
      split at e
      · split at e <;> simp at e
      · simp at *
    · rw [List.getElem?_set_ne (Ne.symm z)] at e
      obtain ⟨v, h1, r⟩ := g.sl j t e
      refine ⟨v, h1, ?_⟩
      have e2 : (fun a => j ≠ i ∧ F j a) = F j := funext fun a => by simp [z]
      rw [e2]; exact r
  em := fun j h a q => by
    refine g.em j (fun t e => h t ?_) a q.2
    rw [List.getElem?_set_ne (Ne.symm q.1)]; exact e
  dj := fun j k a h1 h2 => g.dj j k a h1.2 h2.2
theorem Good.put {K : PySem.W.Frag} {M H : Hp} {σ : L2.St} {ρ : Rho} {F : Nat → Fp} {R : Fp} {t : T} {v : V} (g : Good K M H σ ρ F) {i : Nat} (hi : i < σ.length) (r : Rp K M H t v R) (dj : ∀ a, R a → ¬ ∃ j, j ≠ i ∧ F j a) :
    Good K M H (σ.set i (some v)) (ρ.set i (some t)) (fun j a => if j = i then R a else F j a) where
  le := g.le
  len := by simpa using g.len
  sl := fun j t' e => by
    by_cases z : j = i
    · subst z
      rw [List.getElem?_set_self (by rw [g.len]; exact hi)] at e
      cases e
      refine ⟨v, by rw [List.getElem?_set_self hi], ?_⟩
      simpa using r
    · rw [List.getElem?_set_ne (Ne.symm z)] at e
      obtain ⟨u, h1, q⟩ := g.sl j t' e
      refine ⟨u, by rw [List.getElem?_set_ne (Ne.symm z)]; exact h1, ?_⟩
      simpa [z] using q
  em := fun j h a q => by
    by_cases z : j = i
    · subst z
      exact h t (by rw [List.getElem?_set_self (by rw [g.len]; exact hi)])
    · rw [if_neg z] at q
      refine g.em j (fun t' e => h t' ?_) a q
      rw [List.getElem?_set_ne (Ne.symm z)]; exact e
  dj := fun j k a h1 h2 => by
    by_cases z : j = i
    · by_cases y : k = i
      · rw [z, y]
      · simp only [z, if_true, y, if_false] at h1 h2
        exact absurd ⟨k, y, h2⟩ (dj a h1)
    · by_cases y : k = i
      · simp only [z, if_false, y, if_true] at h1 h2
        exact absurd ⟨j, z, h1⟩ (dj a h2)
      · simp only [z, y, if_false] at h1 h2
        exact g.dj j k a h1 h2
/-- the slot's value stays where it is -/
theorem Good.reput {K : PySem.W.Frag} {M H : Hp} {σ : L2.St} {ρ : Rho} {F : Nat → Fp} {R : Fp} {t : T} {v : V} (g : Good K M H σ ρ F) {i : Nat} (hv : σ[i]? = some (some v)) (r : Rp K M H t v R) (dj : ∀ a, R a → ¬ ∃ j, j ≠ i ∧ F j a) :
    Good K M H σ (ρ.set i (some t)) (fun j a => if j = i then R a else F j a) := by
  obtain ⟨hi, e⟩ := List.getElem?_eq_some_iff.mp hv
  have q := g.put hi r dj
  have e2 : σ.set i (some v) = σ := by rw [← e]; exact List.set_getElem_self hi
  rwa [e2] at q
theorem ee_mv {i : Nat} {x : Str} (h : PE X (.Name x pos) (tVar i)) : EE X W (.Name x pos) (eMv i) := h.lv fun σ H Q ⟨M, ρ, F, r, g, e, q⟩ => by
  unfold eMv at e
  split at e
  · next t e' =>
    cases e
    obtain ⟨v, h1, rp⟩ := g.sl i _ e'
    refine ⟨v, h1, q M H v (F i) _ (.refl fun a z => ?_) (g.drop i) rp fun a z => ?_⟩
    · rcases z with z | ⟨j, _, z⟩
      · exact ⟨i, z⟩
      · exact ⟨j, z⟩
    · rintro ⟨j, ne, z'⟩
      exact ne (g.dj j i a z' z)
  · cases e
theorem ee_cp {i : Nat} {x : Str} (h : PE X (.Name x pos) (tVar i)) : EE X W (.Name x pos) (eCp i) := h.lv fun σ H Q ⟨M, ρ, F, r, g, e, q⟩ => by
  unfold eCp at e
  split at e
  · next t e' =>
    cases ed : t.dat with
    | none => rw [ed] at e; cases e
    | some d =>
      rw [ed] at e; cases e
      obtain ⟨v, h1, rp⟩ := g.sl i _ e'
      have S0 : Stp M H (Al F) M H (fun a => F i a ∨ Al (fun j a => j ≠ i ∧ F j a) a) := .refl fun a z => by
        rcases z with z | ⟨j, _, z⟩
        · exact ⟨i, z⟩
        · exact ⟨j, z⟩
      have dj : ∀ a, F i a → ¬ Al (fun j a => j ≠ i ∧ F j a) a := fun a z ⟨j, ne, z'⟩ => ne (g.dj j i a z' z)
      obtain ⟨S1, le1, kp⟩ := S0.frz rp dj g.le
      have dz := rp.freeze ed
      have g1 := (g.drop i).keep kp le1
      have g2 := g1.reput h1 (.fr dz) (fun a z => z.elim)
      refine ⟨v, h1, q _ H v (fun _ => False) _ (S1.sub (fun _ z => z) fun a z => ?_) (by rw [List.set_set] at g2; exact g2) (.fr dz) fun a z => z.elim⟩
      rcases z with z | ⟨j, z⟩
      · exact z.elim
      · by_cases y : j = i
        · simp [y] at z
        · simp only [y, if_false] at z
          exact ⟨j, z⟩
  · cases e
/-- frozen as it is made -/
def eFz (f : Rho → Option (Rs T)) : Rho → Option (Rs T) := fun ρ => bnd (f ρ) fun t ρ' => t.dat.map fun d => .ok (.fr d) ρ'
theorem bnd_some {α β : Type} {r : Option (Rs α)} {k : α → Rho → Option (Rs β)} {s : Rs β} (h : bnd r k = some s) : (∃ a ρ, r = some (.ok a ρ) ∧ k a ρ = some s) ∨ ∃ c ρ, r = some (.ex c ρ) ∧ s = .ex c ρ := by
  unfold bnd at h
  split at h
  · exact .inl ⟨_, _, rfl, h⟩
  · cases h; exact .inr ⟨_, _, rfl, rfl⟩
  · cases h
theorem ee_fz {f : Rho → Option (Rs T)} (h : EE X W e f) : EE X W e (eFz f) := h.lv fun σ H Q ⟨M, ρ, F, r, g, e, q⟩ => by
  rcases bnd_some e with ⟨t, ρ', e1, e2⟩ | ⟨c, ρ', e1, rfl⟩
  · cases ed : t.dat with
    | none => rw [ed] at e2; cases e2
    | some d =>
      rw [ed] at e2; cases e2
      refine ⟨M, ρ, F, _, g, e1, fun M' H' v R F' S g' rp dj => ?_⟩
      obtain ⟨S1, le1, kp⟩ := S.frz rp dj g'.le
      exact q _ H' v (fun _ => False) F' (S1.sub (fun _ z => z) fun a z => z.elim False.elim id) (g'.keep kp le1) (.fr (rp.freeze ed)) fun a z => z.elim
  · exact ⟨M, ρ, F, _, g, e1, q⟩
/-! ### operations by values -/
def rFin (K : PySem.W.Frag) (M H : Hp) (t : T) (Q : VK) : Prop := ∀ M' H' v R, Ext M H M' H' → Rp K M' H' t v R → (∀ a, R a → H a = none) → Q v H'
def Op1 (X : Cx) (r : V → Hp → VK → Prop) (op : T → Option T) : Prop := ∀ M H v t R u Q, L2.Same M H → Rp X.K M H t v R → op t = some u → rFin X.K M H u Q → r v H Q
def Op2 (X : Cx) (r : R2) (op : T → T → Option T) : Prop := ∀ M H v t R v2 t2 R2 u Q, L2.Same M H → Rp X.K M H t v R → Rp X.K M H t2 v2 R2 → op t t2 = some u → rFin X.K M H u Q → r v v2 H Q
def k1 (op : T → Option T) (f : Rho → Option T) : Rho → Option T := fun ρ => (f ρ).bind op
def k2 (op : T → T → Option T) (f g : Rho → Option T) : Rho → Option T := fun ρ => (f ρ).bind fun a => (g ρ).bind fun b => op a b
def e1 (op : T → Option T) (f : Rho → Option (Rs T)) : Rho → Option (Rs T) := fun ρ => bnd (f ρ) fun a ρ1 => (op a).map fun t => .ok t ρ1
def e2 (op : T → T → Option T) (f g : Rho → Option (Rs T)) : Rho → Option (Rs T) := fun ρ => bnd (f ρ) fun a ρ1 => bnd (g ρ1) fun b ρ2 => (op a b).map fun t => .ok t ρ2
theorem k_fin {K : PySem.W.Frag} {M0 H0 M H : Hp} {t : T} {Q : VK} (x : Ext M0 H0 M H) (q : ∀ M' H' v R, Ext M0 H0 M' H' → Rp K M' H' t v R → Q v H') : rFin K M H t Q := fun M' H' v R x' rp _ => q M' H' v R (x.trans x') rp
theorem tk_bin {K : PySem.W.Frag} {ta tb : Rho → Option T} {op : T → T → Option T} {r : R2} (hr : ∀ M H v t R v2 t2 R2 u Q, L2.Same M H → Rp K M H t v R → Rp K M H t2 v2 R2 → op t t2 = some u → rFin K M H u Q → r v v2 H Q) (σ : L2.St) (H : Hp) (Q : VK)
    (h : tK K (k2 op ta tb) σ H Q) : tK K ta σ H fun x H1 => tK K tb σ H1 fun y H2 => r x y H2 Q := by
  obtain ⟨M, ρ, F, t, g, e, q⟩ := h
  unfold k2 at e
  obtain ⟨u, e1, e⟩ := Option.bind_eq_some_iff.mp e
  obtain ⟨w, e2, e⟩ := Option.bind_eq_some_iff.mp e
  refine ⟨M, ρ, F, u, g, e1, fun M1 H1 v1 R1 x1 r1 => ⟨M1, ρ, F, w, g.ext x1, e2, fun M2 H2 v2 R2 x2 r2 => ?_⟩⟩
  exact hr M2 H2 v1 u R1 v2 w R2 t Q x2.le (r1.ext x2) r2 e (k_fin (x1.trans x2) q)
theorem ek_op2 {op' : Operator} {r : R2} {op : T → T → Option T} {f g : Rho → Option T} (ho : OpR X (binaryOp op') r) (hp : Op2 X r op) (ha : EK X a f) (hb : EK X b g) : EK X (.BinOp a op' b pos) (k2 op f g) :=
  (pe_op ho ha hb).lv fun σ H Q h => tk_bin hp σ H Q h
theorem te_bin {K : PySem.W.Frag} {ta tb : Rho → Option (Rs T)} {op : T → T → Option T} {r : R2} (hr : ∀ M H v t R v2 t2 R2 u Q, L2.Same M H → Rp K M H t v R → Rp K M H t2 v2 R2 → op t t2 = some u → rFin K M H u Q → r v v2 H Q) (σ : L2.St) (H : Hp) (Q : VK)
    (h : tE K W (e2 op ta tb) σ H Q) : tE K W ta σ H fun x H1 => tE K W tb σ H1 fun y H2 => r x y H2 Q := by
  obtain ⟨M, ρ, F, t, g, e, q⟩ := h
  rcases bnd_some e with ⟨u, ρ1, e1, e⟩ | ⟨c, ρ', e1, rfl⟩
  · refine ⟨M, ρ, F, _, g, e1, fun M1 H1 v1 R1 F1 S1 g1 r1 d1 => ?_⟩
    rcases bnd_some e with ⟨w, ρ2, e2, e⟩ | ⟨c, ρ', e2, rfl⟩
    · cases eo : op u w with
      | none => rw [eo] at e; cases e
      | some z =>
        rw [eo] at e; cases e
        refine ⟨M1, ρ1, F1, _, g1, e2, fun M2 H2 v2 R2 F2 S2 g2 r2 d2 => ?_⟩
        have r1' := r1.apart S2 d1
        refine hr M2 H2 v1 u R1 v2 w R2 z Q g2.le r1' r2 eo fun M3 H3 v3 R3 x3 r3 n3 => ?_
        have own2 := g2.own
        refine q M3 H3 v3 R3 F2 (((S1.sub (fun _ z => z) fun a z => .inr z).trans (S2.sub (fun _ z => z) fun a (z : Al F2 a) => .inr z)).trans (x3.stp fun a z => z.elim (fun z => .inr (n3 a z)) .inl)) (g2.ext x3) r3 fun a z z' => ?_
        obtain ⟨_, o, eo'⟩ := own2 a z'
        rw [n3 a z] at eo'; cases eo'
    · exact ⟨M1, ρ1, F1, _, g1, e2, fun M2 H2 F2 S2 g2 => q M2 H2 F2 ((S1.sub (fun _ z => z) fun a z => .inr z).trans S2) g2⟩
  · exact ⟨M, ρ, F, _, g, e1, q⟩
theorem ee_op2 {op' : Operator} {r : R2} {op : T → T → Option T} {f g : Rho → Option (Rs T)} (ho : OpR X (binaryOp op') r) (hp : Op2 X r op) (ha : EE X W a f) (hb : EE X W b g) : EE X W (.BinOp a op' b pos) (e2 op f g) :=
  (pe_op ho ha hb).lv fun σ H Q h => te_bin hp σ H Q h
theorem ek_cmp {op' : CmpOp} {r : R2} {op : T → T → Option T} {f g : Rho → Option T} (ho : OpR X (compareOp op') r) (hp : Op2 X r op) (ha : EK X a f) (hb : EK X b g) (hm : behindInMarks op' b = false) : EK X (.Compare a [op'] [b] pos) (k2 op f g) :=
  (pe_cmpR ho ha hb hm).lv fun σ H Q h => tk_bin hp σ H Q h
theorem ee_cmp {op' : CmpOp} {r : R2} {op : T → T → Option T} {f g : Rho → Option (Rs T)} (ho : OpR X (compareOp op') r) (hp : Op2 X r op) (ha : EE X W a f) (hb : EE X W b g) (hm : behindInMarks op' b = false) : EE X W (.Compare a [op'] [b] pos) (e2 op f g) :=
  (pe_cmpR ho ha hb hm).lv fun σ H Q h => te_bin hp σ H Q h
theorem ek_ix {r : R2} {op : T → T → Option T} {f g : Rho → Option T} (ho : IxR X r) (hp : Op2 X r op) (ha : EK X a f) (hb : EK X b g) (hs : PlainIx b) : EK X (.Subscript a b pos) (k2 op f g) :=
  (pe_ix ho ha hb hs).lv fun σ H Q h => tk_bin hp σ H Q h
theorem ee_ix {r : R2} {op : T → T → Option T} {f g : Rho → Option (Rs T)} (ho : IxR X r) (hp : Op2 X r op) (ha : EE X W a f) (hb : EE X W b g) (hs : PlainIx b) : EE X W (.Subscript a b pos) (e2 op f g) :=
  (pe_ix ho ha hb hs).lv fun σ H Q h => te_bin hp σ H Q h
theorem tk_un {K : PySem.W.Frag} {ta : Rho → Option T} {op : T → Option T} {r : V → Hp → VK → Prop} (hr : ∀ M H v t R u Q, L2.Same M H → Rp K M H t v R → op t = some u → rFin K M H u Q → r v H Q) (σ : L2.St) (H : Hp) (Q : VK)
    (h : tK K (k1 op ta) σ H Q) : tK K ta σ H fun x H1 => r x H1 Q := by
  obtain ⟨M, ρ, F, t, g, e, q⟩ := h
  unfold k1 at e
  obtain ⟨u, e1, e⟩ := Option.bind_eq_some_iff.mp e
  exact ⟨M, ρ, F, u, g, e1, fun M1 H1 v1 R1 x1 r1 => hr M1 H1 v1 u R1 t Q x1.le r1 e (k_fin x1 q)⟩
theorem te_un {K : PySem.W.Frag} {ta : Rho → Option (Rs T)} {op : T → Option T} {r : V → Hp → VK → Prop} (hr : ∀ M H v t R u Q, L2.Same M H → Rp K M H t v R → op t = some u → rFin K M H u Q → r v H Q) (σ : L2.St) (H : Hp) (Q : VK)
    (h : tE K W (e1 op ta) σ H Q) : tE K W ta σ H fun x H1 => r x H1 Q := by
  obtain ⟨M, ρ, F, t, g, e, q⟩ := h
  rcases bnd_some e with ⟨u, ρ1, e1, e⟩ | ⟨c, ρ', e1, rfl⟩
  · cases eo : op u with
    | none => rw [eo] at e; cases e
    | some z =>
      rw [eo] at e; cases e
      refine ⟨M, ρ, F, _, g, e1, fun M1 H1 v1 R1 F1 S1 g1 r1 d1 => ?_⟩
      refine hr M1 H1 v1 u R1 z Q g1.le r1 eo fun M3 H3 v3 R3 x3 r3 n3 => ?_
      refine q M3 H3 v3 R3 F1 ((S1.sub (fun _ z => z) fun a z => .inr z).trans (x3.stp fun a z => z.elim (fun z => .inr (n3 a z)) .inl)) (g1.ext x3) r3 fun a z z' => ?_
      obtain ⟨_, o, eo'⟩ := g1.own a z'
      rw [n3 a z] at eo'; cases eo'
  · exact ⟨M, ρ, F, _, g, e1, q⟩
theorem ek_un {op' : UnaryOp} {r : V → Hp → VK → Prop} {op : T → Option T} {f : Rho → Option T} (ho : UnR X (unaryOp op') r) (hp : Op1 X r op) (ha : EK X a f) : EK X (.UnaryOp op' a pos) (k1 op f) :=
  (pe_un ho ha).lv fun σ H Q h => tk_un hp σ H Q h
theorem ee_un {op' : UnaryOp} {r : V → Hp → VK → Prop} {op : T → Option T} {f : Rho → Option (Rs T)} (ho : UnR X (unaryOp op') r) (hp : Op1 X r op) (ha : EE X W a f) : EE X W (.UnaryOp op' a pos) (e1 op f) :=
  (pe_un ho ha).lv fun σ H Q h => te_un hp σ H Q h
end
end Lv

set_option maxHeartbeats 1000000
namespace Lv
open PySem PySem.Spec PyProof.Rows L2
def allFr : List T → Option (List D)
  | [] => some []
  | .fr d :: r => (allFr r).map (d :: ·)
  | _ :: _ => none
def T.asL : T → Option (List D)
  | .fr (.list ds) => some ds
  | .lst xs => allFr xs
  | _ => none
def okD (d : D) : Bool := d.plain && decide (d.depth ≤ 60)
theorem allFr_map : ∀ ds : List D, allFr (ds.map .fr) = some ds
  | [] => rfl
  | d :: ds => by simp [allFr, allFr_map ds]
theorem allFr_eq : ∀ {xs : List T} {ds : List D}, allFr xs = some ds → xs = ds.map .fr
  | [], _, e => by cases e; rfl
  | .fr d :: r, ds, e => by
    simp only [allFr] at e
    cases q : allFr r with
    | none => rw [q] at e; cases e
    | some es => rw [q] at e; cases e; rw [allFr_eq q]; rfl
  | .lst _ :: _, _, e => by cases e
  | .dk _ :: _, _, e => by cases e
  | .obj _ _ :: _, _, e => by cases e
  | .dkl _ :: _, _, e => by cases e
theorem datL_map : ∀ ds : List D, T.datL (ds.map .fr) = some ds
  | [] => rfl
  | d :: ds => by simp [T.datL, T.dat, datL_map ds]
section
variable {K : PySem.W.Frag} {M H : Hp} {v : V} {R : Fp}
theorem Dz.non_inv (h : Dz K M v .none) : v = .non := by cases h; rfl
theorem Dz.bl_inv {b : Bool} (h : Dz K M v (.bool b)) : v = .bl b := by cases h; rfl
theorem Dz.int_inv {i : Int} (h : Dz K M v (.int i)) : v = .int i := by cases h; rfl
theorem Dz.str_inv {x : Str} (h : Dz K M v (.str x)) : v = .str x := by cases h; rfl
theorem Dz.list_inv {ds : List D} (h : Dz K M v (.list ds)) : ∃ a xs, v = .ref a ∧ SqL K M a xs ∧ DzL K M xs ds := by
  cases h with | lst h1 h2 => exact ⟨_, _, rfl, h1, h2⟩
theorem Dz.tup_inv {ds : List D} (h : Dz K M v (.tuple ds)) : ∃ a xs, v = .ref a ∧ SqT K M a xs ∧ DzL K M xs ds := by
  cases h with | tup h1 h2 => exact ⟨_, _, rfl, h1, h2⟩
theorem RpL.frs : ∀ {ds : List D} {vs : List V} {R : Fp}, RpL K M H (ds.map .fr) vs R → DzL K M vs ds ∧ ∀ a, ¬ R a
  | [], _, _, h => by cases h; exact ⟨.nil, fun _ => id⟩
  | d :: ds, _, _, h => by
    cases h with
    | cons h t _ =>
      obtain ⟨h1, h2⟩ := RpL.frs (ds := ds) t
      obtain ⟨h3, h4⟩ := h.fr_inv
      exact ⟨.cons h3 h1, fun a z => z.elim (h4 a) (h2 a)⟩
theorem rpL_of : ∀ {ds : List D} {vs : List V}, DzL K M vs ds → RpL K M H (ds.map .fr) vs (fun _ => False)
  | [], _, h => by cases h; exact .nil
  | d :: ds, _, h => by
    cases h with
    | cons h t =>
      have q := RpL.cons (R := fun _ => False) (R' := fun _ => False) (.fr h) (rpL_of t) (fun _ z => z.elim)
      have e : (fun b : Addr => (False ∨ False)) = fun _ => False := funext fun _ => by simp
      rw [e] at q
      exact q
theorem Rp.asL_inv {t : T} {ds : List D} (m : L2.Same M H) (e : t.asL = some ds) (h : Rp K M H t v R) : ∃ a xs, v = .ref a ∧ SqL K H a xs ∧ DzL K M xs ds := by
  cases t with
  | fr d =>
    cases d with
    | list xs =>
      cases e
      obtain ⟨a, xs, e1, h1, h2⟩ := h.fr_inv.1.list_inv
      exact ⟨a, xs, e1, m.seq h1, h2⟩
    | _ => cases e
  | lst xs =>
    have e2 := allFr_eq (show allFr xs = some ds from e)
    subst e2
    cases h with
    | lst h1 h2 h3 h4 => exact ⟨_, _, rfl, .of h1, h3.frs.1⟩
  | _ => cases e
/-- a new list of frozen items -/
theorem fin_list {ds : List D} {vs : List V} {Q : VK} (m : L2.Same M H) (hv : DzL K M vs ds) (q : rFin K M H (.lst (ds.map .fr)) Q) {p : Addr} (np : H p = none) : Q (.ref p) (upd H p (.lst vs)) := by
  have mp : M p = none := Same.out m np
  refine q M (upd H p (.lst vs)) (.ref p) _ (.new m np) (.lst upd_same mp (rpL_of hv) id) fun a z => ?_
  rcases z with z | z
  · subst z; exact np
  · exact z.elim
theorem fin_tup {ds : List D} {vs : List V} {Q : VK} (m : L2.Same M H) (hv : DzL K M vs ds) (q : rFin K M H (.fr (.tuple ds)) Q) {p : Addr} (np : H p = none) : Q (.ref p) (upd H p (.tup vs)) := by
  have x := Ext.newM (o := .tup vs) m np
  exact q (upd M p (.tup vs)) (upd H p (.tup vs)) (.ref p) _ x (.fr (.tup (.of upd_same) (hv.mono x.m))) fun a z => z.elim
theorem fin_dz {d : D} {Q : VK} (m : L2.Same M H) (h : Dz K M v d) (q : rFin K M H (.fr d) Q) : Q v H := q M H v _ (.refl m) (.fr h) fun a z => z.elim
theorem fin_int {i : Int} {Q : VK} (m : L2.Same M H) (q : rFin K M H (.fr (.int i)) Q) : Q (.int i) H := fin_dz m (.int i) q
theorem fin_bl {i : Bool} {Q : VK} (m : L2.Same M H) (q : rFin K M H (.fr (.bool i)) Q) : Q (.bl i) H := fin_dz m (.bl i) q
theorem fin_str {i : Str} {Q : VK} (m : L2.Same M H) (q : rFin K M H (.fr (.str i)) Q) : Q (.str i) H := fin_dz m (.str i) q
end
/-! ### the readings of operations -/
def rOp1 (K : PySem.W.Frag) (op : T → Option T) : V → Hp → VK → Prop := fun x H Q => ∃ M t R u, L2.Same M H ∧ Rp K M H t x R ∧ op t = some u ∧ rFin K M H u Q
def rOp2 (K : PySem.W.Frag) (op : T → T → Option T) : R2 := fun x y H Q => ∃ M t R t2 R2 u, L2.Same M H ∧ Rp K M H t x R ∧ Rp K M H t2 y R2 ∧ op t t2 = some u ∧ rFin K M H u Q
theorem op1_of {X : Cx} {op : T → Option T} : Op1 X (rOp1 X.K op) op := fun M H v t R u Q m r e q => ⟨M, t, R, u, m, r, e, q⟩
theorem op2_of {X : Cx} {op : T → T → Option T} : Op2 X (rOp2 X.K op) op := fun M H v t R v2 t2 R2 u Q m r r2 e q => ⟨M, t, R, t2, R2, u, m, r, r2, e, q⟩
abbrev SZ : Nat := 16777216
theorem sz_ok {n : Nat} (h : n ≤ SZ) : n ≤ sizeLine := by rw [sizeLine_eq]; exact h
def opAdd : T → T → Option T
  | .fr (.int a), .fr (.int b) => some (.fr (.int (a + b)))
  | .fr (.str a), .fr (.str b) => if a.length + b.length ≤ SZ then some (.fr (.str (a ++ b))) else none
  | .fr (.tuple a), .fr (.tuple b) => if a.length + b.length ≤ SZ then some (.fr (.tuple (a ++ b))) else none
  | a, b => match a.asL, b.asL with
    | some xs, some ys => if xs.length + ys.length ≤ SZ then some (.lst ((xs ++ ys).map .fr)) else none
    | _, _ => none

theorem room_u {k : Nat} {A : Around} (r : Room k A) : A.units + 64 < cLine := r.units
section
variable {X : Cx}
theorem cat_lists {pins : List (Addr × Obj)} {s : Shared} {σ : L2.St} {H : Hp} {a b : Addr} {vs ws : List V} {Q : VK} (I : Inv X pins σ H s) (h1 : SqL X.K H a vs) (h2 : SqL X.K H b ws) (hl : vs.length + ws.length ≤ SZ)
    (q : ∀ p, H p = none → Q (.ref p) (upd H p (.lst (vs ++ ws)))) : wpAny (model X.prog X.w) X.A (binaryOp .Add (.ref a) (.ref b)) (EP X pins σ Q) X.xe s := by
  obtain ⟨its, rv, ⟨⟨cls, dd, data, sl⟩, n, g1, g2, g3, g4⟩, z⟩ := I.list h1
  obtain ⟨its2, rv2, ⟨⟨cls2, dd2, data2, sl2⟩, n2, k1, k2, k3, k4⟩, z2⟩ := I.list h2
  simp only at g2 g3 g4 k2 k3 k4
  subst g2 g3 g4 k2 k3 k4
  have e : its.toArray ++ its2.toArray = (its ++ its2).toArray := by simp
  have hz : its.toArray.size + its2.toArray.size ≤ sizeLine := by
    rw [List.size_toArray, List.size_toArray, ← rv.length, ← rv2.length]; exact sz_ok hl
  refine concat_meets ⟨_, g1, rfl⟩ ⟨_, k1, rfl⟩ noFill_list_add seq_list_add PySem.F.slot_list_add PySem.F.entry_list_add (PySem.F.args_list_add_2 _ _) (list_addW a b its.toArray its2.toArray n n2 none none sl sl2 hz) ⟨g1, k1, ?_⟩
  rw [e]
  exact ⟨.ref _, _, I.lnew (t' := s.toks) (rv.append rv2) (by rw [List.length_append]; exact sz_ok hl), rfl, q _ I.fresh⟩
theorem op_addA : OpR X (binaryOp .Add) (rOp2 X.K opAdd) := by
  intro pins s σ H x y v u Q I rx ry ⟨M, t, R, t2, R2, w, m, r, r2, e, q⟩
  unfold opAdd at e
  split at e
  · next a b =>
    cases e
    obtain rfl := r.fr_inv.1.int_inv
    obtain rfl := r2.fr_inv.1.int_inv
    exact op_add pins s σ H _ _ v u Q I rx ry ⟨_, _, rfl, rfl, fin_int m q⟩
  · next a b =>
    split at e
    · next hl =>
      cases e
      obtain rfl := r.fr_inv.1.str_inv
      obtain rfl := r2.fr_inv.1.str_inv
      exact op_add_str pins s σ H _ _ v u Q I rx ry ⟨_, _, rfl, rfl, sz_ok hl, fin_str m q⟩
    · cases e
  · next a b =>
    split at e
    · next hl =>
      cases e
      obtain ⟨p, xs, rfl, h1, h2⟩ := r.fr_inv.1.tup_inv
      obtain ⟨p2, ys, rfl, h3, h4⟩ := r2.fr_inv.1.tup_inv
      refine op_catA pins s σ H _ _ v u Q I rx ry ⟨p, p2, xs, ys, rfl, rfl, Same.tup m h1, Same.tup m h3, by rw [h2.length, h4.length]; exact sz_ok hl, fun z => ?_, fun _ z => ?_, fun _ _ n np => fin_tup m (h2.append h4) q np⟩
      · subst z; cases h2; exact fin_dz m (.tup h3 h4) q
      · subst z; cases h4; exact fin_dz m (.tup h1 h2) (by simpa using q)
    · cases e
  · split at e
    · next xs ys e1 e2 =>
      split at e
      · next hl =>
        cases e
        obtain ⟨p, vs, rfl, h1, h2⟩ := r.asL_inv m e1
        obtain ⟨p2, ws, rfl, h3, h4⟩ := r2.asL_inv m e2
        cases rx
        cases ry
        exact cat_lists I h1 h3 (by rw [h2.length, h4.length]; exact hl) fun p np => fin_list m (h2.append h4) q np
      · cases e
    · cases e
/-! ints -/
def opInt (C : Int → Int → Bool) (g : Int → Int → Int) : T → T → Option T
  | .fr (.int a), .fr (.int b) => if C a b = true then some (.fr (.int (g a b))) else none
  | _, _ => none
theorem op_int {f : Value → Value → Sem Value} {C : Int → Int → Prop} {B : Int → Int → Bool} {g : Int → Int → Int} (h : OpR X f (rI C fun i j => .int (g i j))) (hB : ∀ i j, B i j = true → C i j) : OpR X f (rOp2 X.K (opInt B g)) := by
  intro pins s σ H x y v u Q I rx ry ⟨M, t, R, t2, R2, w, m, r, r2, e, q⟩
  unfold opInt at e
  split at e
  · split at e
    · next c =>
      cases e
      obtain rfl := r.fr_inv.1.int_inv
      obtain rfl := r2.fr_inv.1.int_inv
      exact h pins s σ H _ _ v u Q I rx ry ⟨_, _, rfl, rfl, hB _ _ c, fin_int m q⟩
    · cases e
  · cases e
def opSub : T → T → Option T := opInt (fun _ _ => true) (fun a b => a - b)
def opMod : T → T → Option T := opInt (fun _ b => decide (0 < b)) (fun a b => a % b)
def opFdiv : T → T → Option T := opInt (fun _ b => decide (0 < b ∧ b < 1073741824)) (fun a b => a / b)
def opPow : T → T → Option T := opInt (fun a b => decide (0 ≤ b ∧ b ≤ 1000000 ∧ a.natAbs < 18446744073709551616)) (fun a b => a ^ b.toNat)
def opShl : T → T → Option T := opInt (fun a b => decide (0 ≤ b ∧ b ≤ 1000000 ∧ a.natAbs < 18446744073709551616)) (fun a b => a * 2 ^ b.toNat)
def opShr : T → T → Option T := opInt (fun a b => decide (0 ≤ b)) (fun a b => a / 2 ^ b.toNat)
def opAnd : T → T → Option T := opInt (fun _ _ => true) Builtin.bitAnd
def opOr : T → T → Option T := opInt (fun _ _ => true) Builtin.bitOr
theorem op_subA : OpR X (binaryOp .Sub) (rOp2 X.K opSub) := op_int (C := fun _ _ => True) (fun pins s σ H x y v u Q I rx ry ⟨i, j, a, b, _, q⟩ => op_sub pins s σ H x y v u Q I rx ry ⟨i, j, a, b, q⟩) fun _ _ _ => trivial
theorem op_andA : OpR X (binaryOp .BitAnd) (rOp2 X.K opAnd) := op_int (C := fun _ _ => True) (fun pins s σ H x y v u Q I rx ry ⟨i, j, a, b, _, q⟩ => op_and pins s σ H x y v u Q I rx ry ⟨i, j, a, b, q⟩) fun _ _ _ => trivial
theorem op_orA : OpR X (binaryOp .BitOr) (rOp2 X.K opOr) := op_int (C := fun _ _ => True) (fun pins s σ H x y v u Q I rx ry ⟨i, j, a, b, _, q⟩ => op_or pins s σ H x y v u Q I rx ry ⟨i, j, a, b, q⟩) fun _ _ _ => trivial
theorem op_modA : OpR X (binaryOp .Mod) (rOp2 X.K opMod) := op_int op_mod fun _ _ h => of_decide_eq_true h
theorem op_fdivA : OpR X (binaryOp .FloorDiv) (rOp2 X.K opFdiv) := op_int op_fdiv fun i j h => of_decide_eq_true (p := 0 < j ∧ j < 1073741824) h
theorem op_powA : OpR X (binaryOp .Pow) (rOp2 X.K opPow) := op_int op_pow fun _ _ h => by have q := of_decide_eq_true h; exact ⟨q.1, q.2.1, q.2.2⟩
theorem op_shlA : OpR X (binaryOp .LShift) (rOp2 X.K opShl) := op_int op_shl fun _ _ h => by have q := of_decide_eq_true h; exact ⟨q.1, q.2.1, q.2.2⟩
theorem op_shrA : OpR X (binaryOp .RShift) (rOp2 X.K opShr) := op_int op_shr fun _ _ h => of_decide_eq_true h
def opMul : T → T → Option T
  | .fr (.int a), .fr (.int b) => if (-18446744073709551616 < a ∧ a < 18446744073709551616) ∨ (-18446744073709551616 < b ∧ b < 18446744073709551616) then some (.fr (.int (a * b))) else none
  | .lst xs, .fr (.int k) => match allFr xs with
    | some ds => if k < 9223372036854775808 ∧ -9223372036854775808 ≤ k ∧ ds.length * k.toNat ≤ SZ then some (.lst ((List.replicate k.toNat ds).flatten.map .fr)) else none
    | none => none
  | _, _ => none
theorem DzL.rep {K : PySem.W.Frag} {M : Hp} {vs : List V} {ds : List D} (h : DzL K M vs ds) : ∀ k : Nat, DzL K M (List.replicate k vs).flatten (List.replicate k ds).flatten
  | 0 => .nil
  | k + 1 => by simp only [List.replicate_succ, List.flatten_cons]; exact h.append (DzL.rep h k)
theorem op_mulA : OpR X (binaryOp .Mult) (rOp2 X.K opMul) := by
  intro pins s σ H x y v u Q I rx ry ⟨M, t, R, t2, R2, w, m, r, r2, e, q⟩
  unfold opMul at e
  split at e
  · split at e
    · next c =>
      cases e
      obtain rfl := r.fr_inv.1.int_inv
      obtain rfl := r2.fr_inv.1.int_inv
      exact op_mul pins s σ H _ _ v u Q I rx ry ⟨_, _, rfl, rfl, c, fin_int m q⟩
    · cases e
  · split at e
    · next ds e1 =>
      split at e
      · next c =>
        cases e
        obtain rfl := r2.fr_inv.1.int_inv
        have e2 := allFr_eq e1
        subst e2
        cases r with
        | lst h1 h2 h3 h4 =>
          have hv := h3.frs.1
          exact op_rep pins s σ H _ _ v u Q I rx ry ⟨_, _, _, rfl, rfl, h1, c.2.1, c.1, by rw [hv.length]; exact sz_ok c.2.2, fun p np => fin_list m (hv.rep _) q np⟩
      · cases e
    · cases e
  · cases e
def opNeg : T → Option T
  | .fr (.int a) => some (.fr (.int (-a)))
  | _ => none
theorem un_negA : UnR X (unaryOp .USub) (rOp1 X.K opNeg) := by
  intro pins s σ H x v Q I rx ⟨M, t, R, w, m, r, e, q⟩
  unfold opNeg at e
  split at e
  · cases e
    obtain rfl := r.fr_inv.1.int_inv
    exact un_neg pins s σ H _ v Q I rx ⟨_, rfl, fin_int m q⟩
  · cases e
/-! comparisons -/
def opData (f : D → D → Option Bool) : T → T → Option T := fun a b => match a.dat, b.dat with
  | some x, some y => if okD x = true ∧ okD y = true then (f x y).map fun k => .fr (.bool k) else none
  | _, _ => none
def opEq : T → T → Option T := opData fun x y => some (PyData.eqv x y)
def opNe : T → T → Option T := opData fun x y => some (!PyData.eqv x y)
def isNo : D → Bool
  | .none => true
  | _ => false
/-- x < y of data that can be compared -/
def ltD : D → D → Bool
  | .int a, .int b => decide (a < b)
  | a, b => PySem.W.dataLt a b
theorem ltD_eq (a b : D) : ltD a b = PySem.W.dataLt a b := by
  unfold ltD
  split
  · rw [PySem.W.dataLt_int]
  · rfl
def canLt (x y : D) : Bool := PySem.W.alike x y && !isNo x
theorem canLt_ok {x y : D} (h : canLt x y = true) : PySem.W.alike x y = true ∧ x ≠ .none := by
  unfold canLt at h
  rw [Bool.and_eq_true] at h
  exact ⟨h.1, fun e => by rw [e] at h; simp [isNo] at h⟩
def opLt : T → T → Option T := opData fun x y => if canLt x y then some (ltD x y) else none
def opGt : T → T → Option T := opData fun x y => if canLt x y then some (ltD y x) else none
def opLe : T → T → Option T := opData fun x y => if canLt x y then some (!ltD y x) else none
def opGe : T → T → Option T := opData fun x y => if canLt x y then some (!ltD x y) else none
theorem op_data {f : Value → Value → Sem Value} {g : D → D → Option Bool} (h : ∀ (s : Shared) (a b : Value) (x y : D) (as bs : List Addr) (k : Bool) (Q : Value → Shared → Prop), Reads s.heap a x as → Reads s.heap b y bs → x.plain = true → y.plain = true → x.depth ≤ 60 → y.depth ≤ 60 → g x y = some k → Q (.bool k) s →
    wpAny (model X.prog X.w) X.A (f a b) Q X.xe s) : OpR X f (rOp2 X.K (opData g)) := by
  intro pins s σ H x y v u Q I rx ry ⟨M, t, R, t2, R2, w, m, r, r2, e, q⟩
  unfold opData at e
  split at e
  · next x' y' e1 e2 =>
    split at e
    · next c =>
      cases ek : g x' y' with
      | none => rw [ek] at e; cases e
      | some k =>
        rw [ek] at e; cases e
        unfold okD at c
        simp only [Bool.and_eq_true, decide_eq_true_eq] at c
        obtain ⟨⟨p1, d1⟩, p2, d2⟩ := c
        obtain ⟨as, h1⟩ := Dp.reads I x' x v ((r.seen m e1).dp p1) rx
        obtain ⟨bs, h2⟩ := Dp.reads I y' y u ((r2.seen m e2).dp p2) ry
        exact h s v u x' y' as bs k _ h1 h2 p1 p2 d1 d2 ek ⟨.bl k, H, I, rfl, fin_bl m q⟩
    · cases e
  · cases e
theorem op_eqA (hu : X.A.units + 64 < cLine) : OpR X (compareOp .Eq) (rOp2 X.K opEq) := op_data fun s a b x y as bs k Q h1 h2 p1 p2 d1 d2 e q => by
  cases e
  exact PySem.SeqAt.eq_plain h1 h2 p1 p2 (by omega) q
theorem op_neA (hu : X.A.units + 64 < cLine) : OpR X (compareOp .NotEq) (rOp2 X.K opNe) := op_data fun s a b x y as bs k Q h1 h2 p1 p2 d1 d2 e q => by
  cases e
  exact PySem.SeqAt.ne_plain h1 h2 p1 p2 (by omega) q
theorem op_ltA (hu : X.A.units + 64 < cLine) : OpR X (compareOp .Lt) (rOp2 X.K opLt) := op_data fun s a b x y as bs k Q h1 h2 p1 p2 d1 d2 e q => by
  split at e
  · next c =>
    cases e
    obtain ⟨c1, c2⟩ := canLt_ok c
    rw [ltD_eq] at q
    exact PySem.W.lt_data h1 h2 c1 c2 (by omega) q
  · cases e
theorem op_gtA (hu : X.A.units + 64 < cLine) : OpR X (compareOp .Gt) (rOp2 X.K opGt) := op_data fun s a b x y as bs k Q h1 h2 p1 p2 d1 d2 e q => by
  split at e
  · next c =>
    cases e
    obtain ⟨c1, c2⟩ := canLt_ok c
    rw [ltD_eq] at q
    exact PySem.W.gt_data h1 h2 c1 c2 (by omega) q
  · cases e
theorem op_leA (hu : X.A.units + 64 < cLine) : OpR X (compareOp .LtE) (rOp2 X.K opLe) := op_data fun s a b x y as bs k Q h1 h2 p1 p2 d1 d2 e q => by
  split at e
  · next c =>
    cases e
    obtain ⟨c1, c2⟩ := canLt_ok c
    rw [ltD_eq] at q
    exact PySem.W.le_data h1 h2 c1 c2 (by omega) q
  · cases e
theorem op_geA (hu : X.A.units + 64 < cLine) : OpR X (compareOp .GtE) (rOp2 X.K opGe) := op_data fun s a b x y as bs k Q h1 h2 p1 p2 d1 d2 e q => by
  split at e
  · next c =>
    cases e
    obtain ⟨c1, c2⟩ := canLt_ok c
    rw [ltD_eq] at q
    exact PySem.W.ge_data h1 h2 c1 c2 (by omega) q
  · cases e
/-- x in ys, ys a list or a tuple -/
def opInS (neg : Bool) : T → T → Option T := opData fun x y => match y with
  | .list ds => some ((ds.any fun z => PyData.eqv z x) ^^ neg)
  | .tuple ds => some ((ds.any fun z => PyData.eqv z x) ^^ neg)
  | _ => none
theorem depth_list {ds : List D} (h : (PyData.list ds).depth ≤ 60) : PyData.depthAll ds ≤ 59 := by simp only [PyData.depth] at h; omega
theorem depth_tup {ds : List D} (h : (PyData.tuple ds).depth ≤ 60) : PyData.depthAll ds ≤ 59 := by simp only [PyData.depth] at h; omega
theorem op_inA (hu : X.A.units + 64 < cLine) : OpR X (compareOp .In) (rOp2 X.K (opInS false)) := op_data fun s a b x y as bs k Q h1 h2 p1 p2 d1 d2 e q => by
  split at e
  · cases e
    refine PySem.SeqAt.in_list_data h2 h1 (by simpa [PyData.plain] using p2) p1 (by have := depth_list d2; omega) (by simpa using q)
  · cases e
    refine PySem.SeqAt.in_tuple_data h2 h1 (by simpa [PyData.plain] using p2) p1 (by have := depth_tup d2; omega) (by simpa using q)
  · cases e
theorem op_notInA (hu : X.A.units + 64 < cLine) : OpR X (compareOp .NotIn) (rOp2 X.K (opInS true)) := op_data fun s a b x y as bs k Q h1 h2 p1 p2 d1 d2 e q => by
  split at e
  · cases e
    refine PySem.SeqAt.notIn_list_data h2 h1 (by simpa [PyData.plain] using p2) p1 (by have := depth_list d2; omega) (by simpa using q)
  · cases e
    refine PySem.SeqAt.notIn_tuple_data h2 h1 (by simpa [PyData.plain] using p2) p1 (by have := depth_tup d2; omega) (by simpa using q)
  · cases e
/-- is None -/
def isNoT : T → Bool
  | .fr .none => true
  | _ => false
def opIsN (neg : Bool) : T → T → Option T
  | a, .fr .none => some (.fr (.bool (isNoT a ^^ neg)))
  | _, _ => none
theorem Rp.isN {K : PySem.W.Frag} {M H : Hp} {t : T} {v : V} {R : Fp} (r : Rp K M H t v R) : decide (v = .non) = isNoT t := by
  cases r with
  | fr h => cases h <;> rfl
  | _ => rfl
theorem op_isA : OpR X (compareOp .Is) (rOp2 X.K (opIsN false)) := by
  intro pins s σ H x y v u Q I rx ry ⟨M, t, R, t2, R2, w, m, r, r2, e, q⟩
  unfold opIsN at e
  split at e
  · cases e
    obtain rfl := r2.fr_inv.1.non_inv
    exact op_isN pins s σ H _ _ v u Q I rx ry ⟨rfl, by rw [r.isN]; exact fin_bl m (by simpa using q)⟩
  · cases e
theorem op_isntA : OpR X (compareOp .IsNot) (rOp2 X.K (opIsN true)) := by
  intro pins s σ H x y v u Q I rx ry ⟨M, t, R, t2, R2, w, m, r, r2, e, q⟩
  unfold opIsN at e
  split at e
  · cases e
    obtain rfl := r2.fr_inv.1.non_inv
    exact op_notN pins s σ H _ _ v u Q I rx ry ⟨rfl, by rw [r.isN]; exact fin_bl m (by simpa using q)⟩
  · cases e
end
/-! ### places, without the asking for what is new -/
def rFinK (K : PySem.W.Frag) (M H : Hp) (t : T) (Q : VK) : Prop := ∀ M' H' v R, Ext M H M' H' → Rp K M' H' t v R → Q v H'
def rOp2K (K : PySem.W.Frag) (op : T → T → Option T) : R2 := fun x y H Q => ∃ M t R t2 R2 u, L2.Same M H ∧ Rp K M H t x R ∧ Rp K M H t2 y R2 ∧ op t t2 = some u ∧ rFinK K M H u Q
def onlyFr : Option T → Option T
  | some (.fr d) => some (.fr d)
  | _ => none
def frOp (op : T → T → Option T) : T → T → Option T := fun a b => onlyFr (op a b)
theorem onlyFr_some {o : Option T} {t : T} (h : onlyFr o = some t) : ∃ d, t = .fr d ∧ o = some (.fr d) := by
  unfold onlyFr at h
  split at h
  · cases h; exact ⟨_, rfl, rfl⟩
  · cases h
section
variable {X : Cx} {W : WS} {a b : Expr} {pos : Pos}
theorem opK_fr {op : T → T → Option T} : Op2 X (rOp2K X.K op) (frOp op) := fun M H v t R v2 t2 R2 u Q m r r2 e q => by
  obtain ⟨d, rfl, e2⟩ := onlyFr_some e
  exact ⟨M, t, R, t2, R2, _, m, r, r2, e2, fun M' H' v' R' x rp => q M' H' v' R' x rp fun a z => absurd z (rp.fr_inv.2 a)⟩
theorem ek_ixK {op : T → T → Option T} {f g : Rho → Option T} (ho : IxR X (rOp2K X.K op)) (ha : EK X a f) (hb : EK X b g) (hs : PlainIx b) : EK X (.Subscript a b pos) (k2 op f g) :=
  (pe_ix ho ha hb hs).lv fun σ H Q ⟨M, ρ, F, t, g', e, q⟩ => by
    unfold k2 at e
    obtain ⟨u, e1, e⟩ := Option.bind_eq_some_iff.mp e
    obtain ⟨w, e2, e⟩ := Option.bind_eq_some_iff.mp e
    refine ⟨M, ρ, F, u, g', e1, fun M1 H1 v1 R1 x1 r1 => ⟨M1, ρ, F, w, g'.ext x1, e2, fun M2 H2 v2 R2 x2 r2 => ?_⟩⟩
    exact ⟨M2, u, R1, w, R2, t, x2.le, r1.ext x2, r2, e, fun M' H' v' R' x' rp => q M' H' v' R' ((x1.trans x2).trans x') rp⟩
theorem ee_ixK {op : T → T → Option T} {f g : Rho → Option (Rs T)} (ho : IxR X (rOp2K X.K op)) (ha : EE X W a f) (hb : EE X W b g) (hs : PlainIx b) : EE X W (.Subscript a b pos) (e2 (frOp op) f g) := ee_ix ho opK_fr ha hb hs
/-- xs[i] -/
def opIx : T → T → Option T
  | .fr (.list ds), .fr (.int i) => (atI ds i).map .fr
  | .fr (.tuple ds), .fr (.int i) => (atI ds i).map .fr
  | .lst ts, .fr (.int i) => atI ts i
  | .fr (.str z), .fr (.int i) => if z.length ≤ SZ then (atI z.cps.toList i).map fun c => .fr (.str ⟨#[c]⟩) else none
  | _, _ => none
theorem DzL.at {K : PySem.W.Frag} {M : Hp} {vs : List V} {ds : List D} {i : Int} {d : D} (h : DzL K M vs ds) (e : atI ds i = some d) : ∃ v, atI vs i = some v ∧ Dz K M v d := by
  unfold atI at e ⊢
  rw [h.length]
  obtain ⟨j, e1, e2⟩ := Option.bind_eq_some_iff.mp e
  obtain ⟨v, h1, h2⟩ := h.get e2
  exact ⟨v, by rw [e1]; exact h1, h2⟩
theorem RpL.length {K : PySem.W.Frag} {M H : Hp} : ∀ {ts : List T} {vs : List V} {R : Fp}, RpL K M H ts vs R → vs.length = ts.length
  | _, _, _, .nil => rfl
  | _, _, _, .cons _ t _ => by simp [RpL.length t]
theorem RpL.get {K : PySem.W.Frag} {M H : Hp} : ∀ {ts : List T} {vs : List V} {R : Fp} {j : Nat} {t : T}, RpL K M H ts vs R → ts[j]? = some t → ∃ v R', vs[j]? = some v ∧ Rp K M H t v R' ∧ ∀ a, R' a → R a
  | _, _, _, _, _, .nil, e => by simp at e
  | _, _, _, 0, _, .cons h t _, e => by simp at e; subst e; exact ⟨_, _, rfl, h, fun a => .inl⟩
  | _, _, _, j + 1, t, .cons _ q _, e => by
    obtain ⟨v, R', h1, h2, h3⟩ := RpL.get (j := j) (t := t) q (by simpa using e)
    exact ⟨v, R', by simpa using h1, h2, fun a z => .inr (h3 a z)⟩
theorem RpL.at {K : PySem.W.Frag} {M H : Hp} {vs : List V} {R : Fp} {ts : List T} {i : Int} {t : T} (h : RpL K M H ts vs R) (e : atI ts i = some t) : ∃ v R', atI vs i = some v ∧ Rp K M H t v R' := by
  unfold atI at e ⊢
  rw [h.length]
  obtain ⟨j, e1, e2⟩ := Option.bind_eq_some_iff.mp e
  obtain ⟨v, R', h1, h2, _⟩ := h.get e2
  exact ⟨v, R', by rw [e1]; exact h1, h2⟩
theorem ix_A : IxR X (rOp2K X.K opIx) := by
  intro value slice pins s σ H x y v u Q I rx ry ⟨M, t, R, t2, R2, w, m, r, r2, e, q⟩ hs
  unfold opIx at e
  split at e
  · obtain ⟨d, e1, e2⟩ := Option.map_eq_some_iff.mp e
    subst e2
    obtain ⟨p, xs, rfl, h1, h2⟩ := r.fr_inv.1.list_inv
    obtain rfl := r2.fr_inv.1.int_inv
    obtain ⟨v', h3, h4⟩ := h2.at e1
    exact ix_list value slice pins s σ H _ _ v u Q I rx ry ⟨p, xs, _, v', rfl, rfl, m.seq h1, h3, q M H v' _ (.refl m) (.fr h4)⟩ hs
  · obtain ⟨d, e1, e2⟩ := Option.map_eq_some_iff.mp e
    subst e2
    obtain ⟨p, xs, rfl, h1, h2⟩ := r.fr_inv.1.tup_inv
    obtain rfl := r2.fr_inv.1.int_inv
    obtain ⟨v', h3, h4⟩ := h2.at e1
    exact ix_tup value slice pins s σ H _ _ v u Q I rx ry ⟨p, xs, _, v', rfl, rfl, Same.tup m h1, h3, q M H v' _ (.refl m) (.fr h4)⟩ hs
  · cases r with
    | lst h1 h2 h3 h4 =>
      obtain rfl := r2.fr_inv.1.int_inv
      obtain ⟨v', R', h5, h6⟩ := h3.at e
      exact ix_list value slice pins s σ H _ _ v u Q I rx ry ⟨_, _, _, v', rfl, rfl, .of h1, h5, q M H v' _ (.refl m) h6⟩ hs
  · split at e
    · next hl =>
      obtain ⟨c, e1, e2⟩ := Option.map_eq_some_iff.mp e
      subst e2
      obtain rfl := r.fr_inv.1.str_inv
      obtain rfl := r2.fr_inv.1.int_inv
      exact ix_str value slice pins s σ H _ _ v u Q I rx ry ⟨_, _, c, rfl, rfl, sz_ok hl, e1, q M H _ _ (.refl m) (.fr (.str _))⟩ hs
    · cases e
  · cases e
end
end Lv

set_option maxHeartbeats 1000000
namespace Lv
open PySem PySem.Spec PyProof.Rows L2
section
variable {K : PySem.W.Frag} {M M' H H' M1 H1 : Hp} {P P' P1 : Fp} {σ : L2.St} {ρ : Rho} {F : Nat → Fp}
/-- peeks, one by one -/
inductive PkL (K : PySem.W.Frag) (M H : Hp) : List T → List V → Prop
  | nil : PkL K M H [] []
  | cons {t : T} {v : V} {R : Fp} {ts : List T} {vs : List V} : Rp K M H t v R → PkL K M H ts vs → PkL K M H (t :: ts) (v :: vs)
theorem PkL.ext (x : Ext M H M1 H1) : ∀ {ts : List T} {vs : List V}, PkL K M H ts vs → PkL K M1 H1 ts vs
  | _, _, .nil => .nil
  | _, _, .cons h t => .cons (h.ext x) (t.ext x)
/-- an argument: owned by nobody else, or the slot's own -/
inductive Ar where
  | own (t : T)
  | bor (i : Nat)
inductive ArL (K : PySem.W.Frag) (M H : Hp) (σ : L2.St) : List Ar → List V → Fp → Prop
  | nil : ArL K M H σ [] [] (fun _ => False)
  | own {t : T} {v : V} {R R' : Fp} {as : List Ar} {vs : List V} : Rp K M H t v R → ArL K M H σ as vs R' → (∀ a, R a → ¬ R' a) → ArL K M H σ (.own t :: as) (v :: vs) (fun b => R b ∨ R' b)
  | bor {i : Nat} {v : V} {R : Fp} {as : List Ar} {vs : List V} : σ[i]? = some (some v) → ArL K M H σ as vs R → ArL K M H σ (.bor i :: as) (v :: vs) R
theorem ArL.keep : ∀ {as : List Ar} {vs : List V} {R : Fp}, ArL K M H σ as vs R → Kp M M' H H' R → ArL K M' H' σ as vs R
  | _, _, _, .nil, _ => .nil
  | _, _, _, .own h t d, k => .own (h.keep (k.sub fun _ => .inl)) (t.keep (k.sub fun _ => .inr)) d
  | _, _, _, .bor e t, k => .bor e (t.keep k)
theorem ArL.ownA : ∀ {as : List Ar} {vs : List V} {R : Fp}, ArL K M H σ as vs R → ∀ a, R a → M a = none ∧ ∃ o, H a = some o
  | _, _, _, .nil, _, r => r.elim
  | _, _, _, .own h t d, a, r => r.elim (h.own a) (t.ownA a)
  | _, _, _, .bor e t, a, r => t.ownA a r
def takeA : List Ar → Rho → Option (List T × Rho)
  | [], ρ => some ([], ρ)
  | .own t :: r, ρ => match takeA r ρ with
    | some (ts, ρ') => some (t :: ts, ρ')
    | none => none
  | .bor i :: r, ρ => match ρ[i]? with
    | some (some t) => (match takeA r (ρ.set i none) with
      | some (ts, ρ') => some (t :: ts, ρ')
      | none => none)
    | _ => none
def putA : List Ar → List (Option T) → Rho → Rho
  | .own _ :: r, _ :: os, ρ => putA r os ρ
  | .bor i :: r, o :: os, ρ => putA r os (ρ.set i o)
  | _, _, ρ => ρ
/-- the arguments handed over: G theirs, F' what stays -/
theorem take_good : ∀ {as : List Ar} {vs : List V} {R : Fp} {ρ ρ' : Rho} {F : Nat → Fp} {ts : List T}, ArL K M H σ as vs R → Good K M H σ ρ F → (∀ a, R a → ¬ Al F a) → takeA as ρ = some (ts, ρ') →
    ∃ G F', Good K M H (vs.map some) (ts.map some) G ∧ Good K M H σ ρ' F' ∧ (∀ a, Al G a → ¬ Al F' a) ∧ (∀ a, Al G a → R a ∨ Al F a) ∧ (∀ a, Al F' a → Al F a)
  | [], _, R, ρ, ρ', F, ts, h, g, d, e => by
    cases h
    cases e
    refine ⟨fun _ _ => False, F, ⟨g.le, rfl, fun i t e => by simp at e, fun _ _ _ => id, fun _ _ _ z => z.elim⟩, g, fun a ⟨_, z⟩ => z.elim, fun a ⟨_, z⟩ => z.elim, fun a z => z⟩
  | .own t :: as, _, R, ρ, ρ', F, ts, h, g, d, e => by
    cases h with
    | @own _ v R1 R2 _ vs h1 h2 h3 =>
      simp only [takeA] at e
      split at e
      · next ts2 ρ2 e2 =>
        cases e
        obtain ⟨G, F', a1, a2, a3, a4, a5⟩ := take_good h2 g (fun a z => d a (.inr z)) e2
        have out : ∀ a, R1 a → ¬ Al G a := fun a z y => (a4 a y).elim (h3 a z) (d a (.inl z))
        refine ⟨fun i a => match i with | 0 => R1 a | j + 1 => G j a, F', ⟨g.le, by simpa using a1.len, fun i t e => ?_, fun i q a z => ?_, fun i j a y z => ?_⟩, a2, fun a ⟨i, z⟩ => ?_, fun a ⟨i, z⟩ => ?_, a5⟩
        · cases i with
          | zero => simp at e; subst e; exact ⟨v, rfl, h1⟩
          | succ i =>
            obtain ⟨v', q1, q2⟩ := a1.sl i t (by simpa using e)
            exact ⟨v', by simpa using q1, q2⟩
        · cases i with
          | zero => exact q _ rfl
          | succ i => exact a1.em i (fun t e => q t (by simpa using e)) a z
        · cases i with
          | zero =>
            cases j with
            | zero => rfl
            | succ j => exact absurd ⟨j, z⟩ (out a y)
          | succ i =>
            cases j with
            | zero => exact absurd ⟨i, y⟩ (out a z)
            | succ j => rw [a1.dj i j a y z]
        · cases i with
          | zero => exact fun y => d a (.inl z) (a5 a y)
          | succ i => exact a3 a ⟨i, z⟩
        · cases i with
          | zero => exact .inl (.inl z)
          | succ i => exact (a4 a ⟨i, z⟩).imp_left .inr
      · cases e
  | .bor i :: as, _, R, ρ, ρ', F, ts, h, g, d, e => by
    cases h with
    | @bor _ v _ _ vs e0 h2 =>
      simp only [takeA] at e
      split at e
      · next t et =>
        split at e
        · next ts2 ρ2 e2 =>
          cases e
          obtain ⟨v', e1, rp⟩ := g.sl i t et
          rw [e0] at e1; cases e1
          obtain ⟨G, F', a1, a2, a3, a4, a5⟩ := take_good h2 (g.drop i) (fun a z ⟨j, _, y⟩ => d a z ⟨j, y⟩) e2
          have out : ∀ a, F i a → ¬ Al G a := fun a z y => (a4 a y).elim (fun q => d a q ⟨i, z⟩) fun ⟨j, n, q⟩ => n (g.dj j i a q z)
          refine ⟨fun k a => match k with | 0 => F i a | j + 1 => G j a, F', ⟨g.le, by simpa using a1.len, fun k t' e => ?_, fun k q a z => ?_, fun k j a y z => ?_⟩, a2, fun a ⟨k, z⟩ => ?_, fun a ⟨k, z⟩ => ?_, fun a z => let ⟨j, _, y⟩ := a5 a z; ⟨j, y⟩⟩
          · cases k with
            | zero => simp at e; subst e; exact ⟨v, rfl, rp⟩
            | succ k =>
              obtain ⟨v', q1, q2⟩ := a1.sl k t' (by simpa using e)
              exact ⟨v', by simpa using q1, q2⟩
          · cases k with
            | zero => exact q _ rfl
            | succ k => exact a1.em k (fun t e => q t (by simpa using e)) a z
          · cases k with
            | zero =>
              cases j with
              | zero => rfl
              | succ j => exact absurd ⟨j, z⟩ (out a y)
            | succ k =>
              cases j with
              | zero => exact absurd ⟨k, y⟩ (out a z)
              | succ j => rw [a1.dj k j a y z]
          · cases k with
            | zero => exact fun y => let ⟨j, n, q⟩ := a5 a y; n (g.dj j i a q z)
            | succ k => exact a3 a ⟨k, z⟩
          · cases k with
            | zero => exact .inr ⟨i, z⟩
            | succ k => exact (a4 a ⟨k, z⟩).imp_right fun ⟨j, _, q⟩ => ⟨j, q⟩
        · cases e
      · cases e
/-- handed back -/
theorem put_good : ∀ {as : List Ar} {vs : List V} {R : Fp} {ρ : Rho} {F : Nat → Fp} {os : List (Option T)} {G : Nat → Fp} {Mx Hx : Hp}, ArL K Mx Hx σ as vs R → Good K M H σ ρ F → Good K M H (vs.map some) os G → (∀ a, Al G a → ¬ Al F a) →
    ∃ F', Good K M H σ (putA as os ρ) F' ∧ ∀ a, Al F' a → Al G a ∨ Al F a
  | [], _, _, ρ, F, os, G, _, _, h, g, gs, d => ⟨F, by unfold putA; exact g, fun a z => .inr z⟩
  | .own t :: as, _, _, ρ, F, os, G, _, _, h, g, gs, d => by
    cases h with
    | @own _ v R1 R2 _ vs h1 h2 h3 =>
      cases os with
      | nil => have := gs.len; simp at this
      | cons o os =>
        have gs' : Good K M H (vs.map some) os (fun j => G (j + 1)) := ⟨gs.le, by have := gs.len; simpa using this, fun j t e => gs.sl (j + 1) t (by simpa using e), fun j q => gs.em (j + 1) fun t e => q t (by simpa using e), fun j k a y z => by have := gs.dj (j + 1) (k + 1) a y z; omega⟩
        obtain ⟨F', a1, a2⟩ := put_good h2 g gs' fun a ⟨j, z⟩ => d a ⟨j + 1, z⟩
        exact ⟨F', a1, fun a z => (a2 a z).imp_left fun ⟨j, q⟩ => ⟨j + 1, q⟩⟩
  | .bor i :: as, _, _, ρ, F, os, G, _, _, h, g, gs, d => by
    cases h with
    | @bor _ v _ _ vs e0 h2 =>
      cases os with
      | nil => have := gs.len; simp at this
      | cons o os =>
        have gs' : Good K M H (vs.map some) os (fun j => G (j + 1)) := ⟨gs.le, by have := gs.len; simpa using this, fun j t e => gs.sl (j + 1) t (by simpa using e), fun j q => gs.em (j + 1) fun t e => q t (by simpa using e), fun j k a y z => by have := gs.dj (j + 1) (k + 1) a y z; omega⟩
        cases o with
        | none =>
          obtain ⟨F', a1, a2⟩ := put_good h2 (g.drop i) gs' fun a ⟨j, z⟩ ⟨k, _, y⟩ => d a ⟨j + 1, z⟩ ⟨k, y⟩
          exact ⟨F', a1, fun a z => (a2 a z).elim (fun ⟨j, q⟩ => .inl ⟨j + 1, q⟩) fun ⟨k, _, y⟩ => .inr ⟨k, y⟩⟩
        | some t =>
          obtain ⟨v', q1, q2⟩ := gs.sl 0 t rfl
          cases (show some v = some v' from by simpa using q1)
          have g1 := g.reput e0 q2 fun a z ⟨j, _, y⟩ => d a ⟨0, z⟩ ⟨j, y⟩
          have sub : ∀ a, Al (fun j a => if j = i then G 0 a else F j a) a → G 0 a ∨ Al F a := fun a ⟨j, z⟩ => by
            by_cases q : j = i
            · simp only [q, if_true] at z; exact .inl z
            · simp only [q, if_false] at z; exact .inr ⟨j, z⟩
          obtain ⟨F', a1, a2⟩ := put_good h2 g1 gs' fun a ⟨j, z⟩ y => (sub a y).elim (fun q => by have := gs.dj (j + 1) 0 a z q; omega) (d a ⟨j + 1, z⟩)
          exact ⟨F', a1, fun a z => (a2 a z).elim (fun ⟨j, q⟩ => .inl ⟨j + 1, q⟩) fun y => (sub a y).imp_left fun q => ⟨0, q⟩⟩
end
/-! ### argument lists -/
def tKA (K : PySem.W.Frag) (f : Rho → Option (List T)) : TA := fun σ H Q => ∃ M ρ F ts, Good K M H σ ρ F ∧ f ρ = some ts ∧ ∀ M' H' vs, Ext M H M' H' → PkL K M' H' ts vs → Q vs H'
def tEA (K : PySem.W.Frag) (W : WS) (f : Rho → Option (Rs (List Ar))) : TA := fun σ H Q => ∃ M ρ F r, Good K M H σ ρ F ∧ f ρ = some r ∧ match r with
  | .ok as ρ' => ∀ M' H' vs R F', Stp M H (Al F) M' H' (fun a => R a ∨ Al F' a) → Good K M' H' σ ρ' F' → ArL K M' H' σ as vs R → (∀ a, R a → ¬ Al F' a) → Q vs H'
  | .ex c ρ' => wEx K W M H F σ c ρ'
abbrev AK (X : Cx) (es : List Expr) (f : Rho → Option (List T)) : Prop := PA X es (tKA X.K f)
abbrev AE (X : Cx) (W : WS) (es : List Expr) (f : Rho → Option (Rs (List Ar))) : Prop := PA X es (tEA X.K W f)
theorem _root_.L2.PA.lv {X : Cx} {e : List Expr} {t t' : TA} (h : PA X e t) (i : ∀ σ H Q, t' σ H Q → t σ H Q) : PA X e t' := ⟨fun pos pins s σ H Q I w => h.run pos pins s σ H Q I (i σ H Q w)⟩
section
variable {X : Cx} {W : WS} {e : Expr} {es : List Expr} {pos : Pos}
def kNil : Rho → Option (List T) := fun _ => some []
def kCons (f : Rho → Option T) (g : Rho → Option (List T)) : Rho → Option (List T) := fun ρ => (f ρ).bind fun t => (g ρ).map (t :: ·)
def eNil : Rho → Option (Rs (List Ar)) := fun ρ => some (.ok [] ρ)
def eCons (f : Rho → Option (Rs T)) (g : Rho → Option (Rs (List Ar))) : Rho → Option (Rs (List Ar)) := fun ρ => bnd (f ρ) fun t ρ1 => bnd (g ρ1) fun as ρ2 => some (.ok (.own t :: as) ρ2)
def eBor (i : Nat) (g : Rho → Option (Rs (List Ar))) : Rho → Option (Rs (List Ar)) := fun ρ => match ρ[i]? with
  | some (some _) => bnd (g ρ) fun as ρ2 => some (.ok (.bor i :: as) ρ2)
  | _ => none
theorem ak_nil : AK X [] kNil := pa_nil.lv fun σ H Q ⟨M, ρ, F, ts, g, e, q⟩ => by
  cases e
  exact q M H [] (.refl g.le) .nil
theorem ak_cons {f : Rho → Option T} {g : Rho → Option (List T)} (ha : EK X e f) (hb : AK X es g) (hs : starEach (e :: es) X.env = (false, eval e X.env) :: starEach es X.env := by rfl) : AK X (e :: es) (kCons f g) := (pa_cons ha hb hs).lv fun σ H Q ⟨M, ρ, F, ts, g', e, q⟩ => by
  unfold kCons at e
  obtain ⟨t, e1, e⟩ := Option.bind_eq_some_iff.mp e
  obtain ⟨ts2, e2, e⟩ := Option.map_eq_some_iff.mp e
  subst e
  exact ⟨M, ρ, F, t, g', e1, fun M1 H1 v R x1 r1 => ⟨M1, ρ, F, ts2, g'.ext x1, e2, fun M2 H2 vs x2 r2 => q M2 H2 _ (x1.trans x2) (.cons (r1.ext x2) r2)⟩⟩
theorem ae_nil : AE X W [] eNil := pa_nil.lv fun σ H Q ⟨M, ρ, F, ts, g, e, q⟩ => by
  cases e
  exact q M H [] _ F (.refl fun a z => z.elim False.elim id) g .nil fun a z => z.elim
theorem ae_cons {f : Rho → Option (Rs T)} {g : Rho → Option (Rs (List Ar))} (ha : EE X W e f) (hb : AE X W es g) (hs : starEach (e :: es) X.env = (false, eval e X.env) :: starEach es X.env := by rfl) : AE X W (e :: es) (eCons f g) := (pa_cons ha hb hs).lv fun σ H Q ⟨M, ρ, F, r, g', e, q⟩ => by
  rcases bnd_some e with ⟨t, ρ1, e1, e⟩ | ⟨c, ρ', e1, rfl⟩
  · refine ⟨M, ρ, F, _, g', e1, fun M1 H1 v R1 F1 S1 g1 r1 d1 => ?_⟩
    rcases bnd_some e with ⟨as, ρ2, e2, e⟩ | ⟨c, ρ', e2, rfl⟩
    · cases e
      refine ⟨M1, ρ1, F1, _, g1, e2, fun M2 H2 vs R2 F2 S2 g2 r2 d2 => ?_⟩
      have r1' := r1.apart S2 d1
      have own1 := r1.own
      have n12 : ∀ a, R1 a → ¬ (R2 a ∨ Al F2 a) := fun a z y => by
        rcases S2.p a y with q | q
        · exact d1 a z q
        · obtain ⟨_, o, eo⟩ := own1 a z
          rw [q] at eo; cases eo
      refine q M2 H2 _ _ F2 ?_ g2 (.own r1' r2 fun a z y => n12 a z (.inl y)) fun a z => z.elim (fun z y => n12 a z (.inr y)) (d2 a)
      refine S1.trans (?_ : Stp M1 H1 (fun a => R1 a ∨ Al F1 a) M2 H2 (fun a => (R1 a ∨ R2 a) ∨ Al F2 a))
      refine ⟨S2.m, fun a o e n => S2.h a o e fun z => n (.inr z), fun a h1 h2 => (S2.n a h1 h2).imp_left .inr, fun a z => ?_⟩
      rcases z with (z | z) | z
      · exact .inl (.inl z)
      · exact (S2.p a (.inl z)).imp_left .inr
      · exact (S2.p a (.inr z)).imp_left .inr
    · exact ⟨M1, ρ1, F1, _, g1, e2, fun M2 H2 F2 S2 g2 => q M2 H2 F2 ((S1.sub (fun _ z => z) fun a z => .inr z).trans S2) g2⟩
  · exact ⟨M, ρ, F, _, g', e1, q⟩
theorem ae_bor {i : Nat} {x : Str} {p : Pos} {g : Rho → Option (Rs (List Ar))} (ha : PE X (.Name x p) (tVar i)) (hb : AE X W es g) (hs : starEach (.Name x p :: es) X.env = (false, eval (.Name x p) X.env) :: starEach es X.env := by rfl) : AE X W (.Name x p :: es) (eBor i g) := (pa_cons ha hb hs).lv fun σ H Q ⟨M, ρ, F, r, g', e, q⟩ => by
  unfold eBor at e
  split at e
  · next t et =>
    obtain ⟨v, ev, _⟩ := g'.sl i t et
    refine ⟨v, ev, ?_⟩
    rcases bnd_some e with ⟨as, ρ1, e1, e⟩ | ⟨c, ρ', e1, rfl⟩
    · cases e
      exact ⟨M, ρ, F, _, g', e1, fun M1 H1 vs R1 F1 S1 g1 r1 d1 => q M1 H1 _ R1 F1 S1 g1 (.bor ev r1) d1⟩
    · exact ⟨M, ρ, F, _, g', e1, q⟩
  · cases e
end
/-! ### defs -/
inductive Ret where
  | ok (t : T) (ts : List (Option T))
  | ex (c : Str)
def SpT (K : PySem.W.Frag) (sem : List T → Option Ret) : Sp := fun vs H Q E => ∃ M ts Fs r, Good K M H (vs.map some) (ts.map some) Fs ∧ sem ts = some r ∧ match r with
  | .ok t ts' => ∀ M' H' v R Fs', Stp M H (Al Fs) M' H' (fun a => R a ∨ Al Fs' a) → Good K M' H' (vs.map some) ts' Fs' → Rp K M' H' t v R → (∀ a, R a → ¬ Al Fs' a) → Q v H'
  | .ex c => ∀ M' H', Stp M H (Al Fs) M' H' (fun _ => False) → L2.Same M' H' → E (.ref (He.ga K c)) none H'
def wx (K : PySem.W.Frag) (W : WS) : WX := fun cls d σ H => ∃ c, cls = .ref (He.ga K c) ∧ d = none ∧ W c σ H
def allF : List T → Bool
  | [] => true
  | .fr _ :: r => allF r
  | _ :: _ => false
def kCall (sem : List T → Option Ret) (f : Rho → Option (List T)) : Rho → Option T := fun ρ => (f ρ).bind fun ts => if allF ts = true then (match sem ts with
  | some (.ok t _) => some t
  | _ => none) else none
def eCall (sem : List T → Option Ret) (f : Rho → Option (Rs (List Ar))) : Rho → Option (Rs T) := fun ρ => bnd (f ρ) fun as ρ1 => match takeA as ρ1 with
  | some (ts, ρ2) => (match sem ts with
    | some (.ok t os) => some (.ok t (putA as os ρ2))
    | some (.ex c) => some (.ex c ρ2)
    | none => none)
  | none => none
section
variable {K : PySem.W.Frag} {M H : Hp}
theorem PkL.len : ∀ {ts : List T} {vs : List V}, PkL K M H ts vs → vs.length = ts.length
  | _, _, .nil => rfl
  | _, _, .cons _ t => by simp [t.len]
theorem PkL.good (le : L2.Same M H) : ∀ {ts : List T} {vs : List V}, PkL K M H ts vs → allF ts = true → Good K M H (vs.map some) (ts.map some) (fun _ _ => False) := fun {ts vs} h a => by
  refine ⟨le, by simp [h.len], fun i t e => ?_, fun _ _ _ => id, fun _ _ _ z => z.elim⟩
  induction h generalizing i with
  | nil => simp at e
  | @cons t' v R ts' vs' h1 h2 ih =>
    cases t' with
    | fr d =>
      cases i with
      | zero =>
        simp at e; subst e
        exact ⟨v, rfl, .fr h1.fr_inv.1⟩
      | succ i =>
        obtain ⟨v', q1, q2⟩ := ih a i (by simpa using e)
        exact ⟨v', by simpa using q1, q2⟩
    | _ => cases a
end
section
variable {X : Cx} {W : WS} {e : Expr} {es : List Expr} {pos p : Pos} {k : Nat} {f : Addr} {fd : FuncData} {ps : List Str} {sem : List T → Option Ret} {x : Str}
theorem ek_call {g : Rho → Option (List T)} (F : FnOk X.prog X.w X.K X.mg X.base (L2.CX X.prog X.w) k f fd ps (SpT X.K sem)) (hr : Room k X.A) (hg : Gl X x) (hm : X.mg x = some (.ref f)) (hk : PySem.W.keepIn X.K (.ref f) = true) (hb : Binds X.K fd ps [])
    (ha : AK X (e :: es) g) (hdb : (x == ("__debug__" : Str)) = false := by decide) (he : starEach (e :: es) X.env = (false, eval e X.env) :: starEach es X.env := by rfl) (hpl : (backTo pos (starEach es X.env)).any (·.1) = false := by rfl) :
    EK X (.Call (.Name x p) (e :: es) [] pos) (kCall sem g) := (pe_call F hr hg hm hk hb .nil passL ha hdb he hpl).lv fun σ H Q ⟨M, ρ, F', t, g', e, q⟩ => by
  unfold kCall at e
  obtain ⟨ts, e1, e⟩ := Option.bind_eq_some_iff.mp e
  split at e
  · next ha' =>
    refine ⟨M, ρ, F', ts, g', e1, fun M1 H1 vs x1 r1 => ?_⟩
    show SpT X.K sem (vs ++ []) H1 Q E0
    rw [List.append_nil]
    split at e
    · next t' os es' =>
      cases e
      refine ⟨M1, ts, _, _, r1.good x1.le ha', es', fun M2 H2 v R Fs' S g2 rp dj => q M2 H2 v R (x1.trans ?_) rp⟩
      exact ⟨fun a o e => S.h a o e fun ⟨_, z⟩ => z, S.m, g2.le, fun a h1 h2 => (S.n a h1 h2).elim (fun ⟨_, z⟩ => z.elim) id⟩
    · cases e
  · cases e
theorem te_call {g : Rho → Option (Rs (List Ar))} {E : XK} (hE : ∀ c σ H, W c σ H → True) (σ : L2.St) (H : Hp) (Q : VK) (h : tE X.K W (eCall sem g) σ H Q) :
    tEA X.K W g σ H fun vs H1 => SpT X.K sem vs H1 Q (WE (wx X.K W) σ) := by
  obtain ⟨M, ρ, F, r, g', e, q⟩ := h
  rcases bnd_some e with ⟨as, ρ1, e1, e⟩ | ⟨c, ρ', e1, rfl⟩
  · refine ⟨M, ρ, F, _, g', e1, fun M1 H1 vs R1 F1 S1 g1 r1 d1 => ?_⟩
    split at e
    · next ts ρ2 e2 =>
      obtain ⟨G, F2, a1, a2, a3, a4, a5⟩ := take_good r1 g1 d1 e2
      have S12 : Stp M H (Al F) M1 H1 (fun a => Al G a ∨ Al F2 a) := S1.sub (fun _ z => z) fun a z => z.elim (a4 a) fun y => .inr (a5 a y)
      refine ⟨M1, ts, G, ?_⟩
      have kpF2 : ∀ {M' H' : Hp} {P' : Fp}, Stp M1 H1 (Al G) M' H' P' → Kp M1 M' H1 H' (Al F2) := fun S => S.kp (fun a z y => a3 a y z) a2.own
      have wide : ∀ {M' H' : Hp} {P' : Fp}, Stp M1 H1 (Al G) M' H' P' → Stp M1 H1 (fun a => Al G a ∨ Al F2 a) M' H' (fun a => P' a ∨ Al F2 a) := fun S =>
        ⟨S.m, fun a o e n => S.h a o e fun z => n (.inl z), fun a h1 h2 => (S.n a h1 h2).imp_left .inl, fun a z => z.elim (fun z => (S.p a z).imp_left .inl) fun z => .inl (.inr z)⟩
      split at e
      · next t' os es' =>
        cases e
        refine ⟨_, a1, es', fun M2 H2 v R2 Fs' S g2 rp dj => ?_⟩
        have g2' := a2.keep (kpF2 S) g2.le
        have apart : ∀ a, (R2 a ∨ Al Fs' a) → ¬ Al F2 a := fun a z y => by
          rcases S.p a z with w | w
          · exact a3 a w y
          · obtain ⟨_, o, eo⟩ := a2.own a y
            rw [w] at eo; cases eo
        obtain ⟨F3, b1, b2⟩ := put_good r1 g2' g2 fun a z => apart a (.inr z)
        refine q M2 H2 v R2 F3 ((S12.trans (wide S)).sub (fun _ z => z) fun a z => ?_) b1 rp fun a z y => ?_
        · rcases z with z | z
          · exact .inl (.inl z)
          · exact (b2 a z).imp_left .inr
        · exact (b2 a y).elim (dj a z) (apart a (.inl z))
      · next c es' =>
        cases e
        refine ⟨_, a1, es', fun M2 H2 S le => ⟨c, rfl, rfl, q M2 H2 F2 ((S12.trans (wide S)).sub (fun _ z => z) fun a z => .inr z) (a2.keep (kpF2 S) le)⟩⟩
      · cases e
    · cases e
  · exact ⟨M, ρ, F, _, g', e1, q⟩
theorem ee_call {g : Rho → Option (Rs (List Ar))} (tk : Takes X (wx X.K W)) (F : FnOk X.prog X.w X.K X.mg X.base (L2.CX X.prog X.w) k f fd ps (SpT X.K sem)) (hr : Room k X.A) (hg : Gl X x) (hm : X.mg x = some (.ref f)) (hk : PySem.W.keepIn X.K (.ref f) = true) (hb : Binds X.K fd ps [])
    (ha : AE X W (e :: es) g) (hdb : (x == ("__debug__" : Str)) = false := by decide) (he : starEach (e :: es) X.env = (false, eval e X.env) :: starEach es X.env := by rfl) (hpl : (backTo pos (starEach es X.env)).any (·.1) = false := by rfl) :
    EE X W (.Call (.Name x p) (e :: es) [] pos) (eCall sem g) := (pe_callS F hr hg hm hk hb (fun σ => passAt tk σ) ha hdb he hpl).lv fun σ H Q h => te_call (E := fun _ _ _ => True) (fun _ _ _ _ => trivial) σ H Q h
end
end Lv

set_option maxHeartbeats 1000000
namespace Lv
open PySem PySem.Spec PyProof.Rows L2
/-! ### truth, tests -/
def truthD : D → Option Bool
  | .none => some false
  | .bool b => some b
  | .int i => some (decide (i ≠ 0))
  | .str s => if s.length ≤ SZ then some (decide (s.length ≠ 0)) else none
  | .list xs => some (!xs.isEmpty)
  | .tuple xs => some (!xs.isEmpty)
  | .dict xs => some (!xs.isEmpty)
def truth : T → Option Bool
  | .fr d => truthD d
  | .lst xs => some (!xs.isEmpty)
  | .dk xs => some (!xs.isEmpty)
  | .obj _ _ => none
  | .dkl _ => none
section
variable {K : PySem.W.Frag} {M H : Hp} {v : V} {R : Fp} {t : T} {b : Bool}
theorem DzL.emp {xs : List V} {ds : List D} (h : DzL K M xs ds) : xs.isEmpty = ds.isEmpty := by cases h <;> rfl
theorem DzK.emp {xs : List (Key × V)} {ds : List (D × D)} (h : DzK K M xs ds) : xs.isEmpty = ds.isEmpty := by cases h <;> rfl
theorem RpL.emp {xs : List T} {vs : List V} (h : RpL K M H xs vs R) : vs.isEmpty = xs.isEmpty := by cases h <;> rfl
theorem RpK.emp {xs : List (Key × T)} {vs : List (Key × V)} (h : RpK K M H xs vs R) : vs.isEmpty = xs.isEmpty := by cases h <;> rfl
theorem tru_of (m : L2.Same M H) (r : Rp K M H t v R) (e : truth t = some b) : TruV K v H b := by
  cases r with
  | fr h =>
    cases h with
    | non => cases e; rfl
    | bl => cases e; rfl
    | int i => cases e; show _ = (i != 0); by_cases z : i = 0 <;> simp [z]
    | str x =>
      simp only [truth, truthD] at e
      split at e
      · next hl =>
        cases e
        refine ⟨sz_ok hl, ?_⟩
        by_cases z : x.length = 0 <;> simp [z]
      · cases e
    | lst h1 h2 => cases e; exact .inl ⟨_, m.seq h1, by rw [h2.emp]⟩
    | tup h1 h2 => cases e; exact .inr (.inl ⟨_, Same.tup m h1, by rw [h2.emp]⟩)
    | dk h1 h2 => cases e; exact .inr (.inr ⟨_, m _ _ h1, by rw [h2.emp]⟩)
  | lst h1 h2 h3 h4 => cases e; exact .inl ⟨_, .of h1, by rw [h3.emp]⟩
  | dk h1 h2 h3 h4 => cases e; exact .inr (.inr ⟨_, h1, by rw [h3.emp]⟩)
  | obj => cases e
  | dkl => cases e
end
/-- a value's truth -/
def tV (f : Rho → Option (Rs T)) : Rho → Option (Rs Bool) := fun ρ => bnd (f ρ) fun t ρ1 => (truth t).map fun b => .ok b ρ1
def tVK (f : Rho → Option T) : Rho → Option (Rs Bool) := fun ρ => (f ρ).bind fun t => (truth t).map fun b => .ok b ρ
def isB : T → Option Bool
  | .fr (.bool b) => some b
  | _ => none
def tB (f : Rho → Option (Rs T)) : Rho → Option (Rs Bool) := fun ρ => bnd (f ρ) fun t ρ1 => (isB t).map fun b => .ok b ρ1
def tBK (f : Rho → Option T) : Rho → Option (Rs Bool) := fun ρ => (f ρ).bind fun t => (isB t).map fun b => .ok b ρ
theorem isB_some {t : T} {b : Bool} (e : isB t = some b) : t = .fr (.bool b) := by
  unfold isB at e
  split at e
  · cases e; rfl
  · cases e
section
variable {X : Cx} {W : WS} {e a b c : Expr} {es rest : List Expr} {pos : Pos}
/-- the readings of tests, by those of values -/
theorem tt_val {K : PySem.W.Frag} {f : Rho → Option (Rs T)} {σ : L2.St} {H : Hp} {Q : Bool → Hp → Prop} (h : tT K W (tV f) σ H Q) : tE K W f σ H fun x H1 => ∃ k, TruV K x H1 k ∧ Q k H1 := by
  obtain ⟨M, ρ, F, r, g, e, q⟩ := h
  rcases bnd_some e with ⟨t, ρ1, e1, e⟩ | ⟨c, ρ', e1, rfl⟩
  · obtain ⟨k, ek, e⟩ := Option.map_eq_some_iff.mp e
    subst e
    exact ⟨M, ρ, F, _, g, e1, fun M1 H1 v R1 F1 S1 g1 r1 d1 => ⟨k, tru_of g1.le r1 ek, q M1 H1 F1 (S1.sub (fun _ z => z) fun a z => .inr z) g1⟩⟩
  · exact ⟨M, ρ, F, _, g, e1, q⟩
theorem tt_valK {K : PySem.W.Frag} {f : Rho → Option T} {σ : L2.St} {H : Hp} {Q : Bool → Hp → Prop} (h : tT K W (tVK f) σ H Q) : tK K f σ H fun x H1 => ∃ k, TruV K x H1 k ∧ Q k H1 := by
  obtain ⟨M, ρ, F, r, g, e, q⟩ := h
  obtain ⟨t, e1, e⟩ := Option.bind_eq_some_iff.mp e
  obtain ⟨k, ek, e⟩ := Option.map_eq_some_iff.mp e
  subst e
  exact ⟨M, ρ, F, _, g, e1, fun M1 H1 v R1 x1 r1 => ⟨k, tru_of x1.le r1 ek, q M1 H1 F (x1.stp fun a z => .inl z) (g.ext x1)⟩⟩
theorem tt_bl {K : PySem.W.Frag} {f : Rho → Option (Rs T)} {σ : L2.St} {H : Hp} {Q : Bool → Hp → Prop} (h : tT K W (tB f) σ H Q) : tE K W f σ H fun x H1 => ∃ k, x = .bl k ∧ Q k H1 := by
  obtain ⟨M, ρ, F, r, g, e, q⟩ := h
  rcases bnd_some e with ⟨t, ρ1, e1, e⟩ | ⟨c, ρ', e1, rfl⟩
  · obtain ⟨k, ek, e⟩ := Option.map_eq_some_iff.mp e
    subst e
    exact ⟨M, ρ, F, _, g, e1, fun M1 H1 v R1 F1 S1 g1 r1 d1 => by
      have e2 := isB_some ek
      subst e2
      exact ⟨k, r1.fr_inv.1.bl_inv, q M1 H1 F1 (S1.sub (fun _ z => z) fun a z => .inr z) g1⟩⟩
  · exact ⟨M, ρ, F, _, g, e1, q⟩
theorem tt_blK {K : PySem.W.Frag} {f : Rho → Option T} {σ : L2.St} {H : Hp} {Q : Bool → Hp → Prop} (h : tT K W (tBK f) σ H Q) : tK K f σ H fun x H1 => ∃ k, x = .bl k ∧ Q k H1 := by
  obtain ⟨M, ρ, F, r, g, e, q⟩ := h
  obtain ⟨t, e1, e⟩ := Option.bind_eq_some_iff.mp e
  obtain ⟨k, ek, e⟩ := Option.map_eq_some_iff.mp e
  subst e
  exact ⟨M, ρ, F, _, g, e1, fun M1 H1 v R1 x1 r1 => by
    have e2 := isB_some ek
    subst e2
    exact ⟨k, r1.fr_inv.1.bl_inv, q M1 H1 F (x1.stp fun a z => .inl z) (g.ext x1)⟩⟩
theorem et_val {f : Rho → Option (Rs T)} (h : EE X W e f) (he : ∀ whole, isTrue e X.env whole = (do let v ← whole; standAt e.pos; holding [v] (truthy v)) := by intro _; rfl) : ET X W e (tV f) := (pt_truth h he).lv fun σ H Q h => tt_val h
theorem et_valK {f : Rho → Option T} (h : EK X e f) (he : ∀ whole, isTrue e X.env whole = (do let v ← whole; standAt e.pos; holding [v] (truthy v)) := by intro _; rfl) : ET X W e (tVK f) := (pt_truth h he).lv fun σ H Q h => tt_valK h
theorem et_cmp {op' : CmpOp} {op : T → T → Option T} {f g : Rho → Option (Rs T)} (ho : OpR X (compareOp op') (rOp2 X.K op)) (ha : EE X W a f) (hb : EE X W b g) (hm : behindInMarks op' b = false) : ET X W (.Compare a [op'] [b] pos) (tB (e2 op f g)) :=
  (pt_cmpR ho ha hb hm).lv fun σ H Q h => te_bin op2_of σ H _ (tt_bl h)
theorem et_cmpK {op' : CmpOp} {op : T → T → Option T} {f g : Rho → Option T} (ho : OpR X (compareOp op') (rOp2 X.K op)) (ha : EK X a f) (hb : EK X b g) (hm : behindInMarks op' b = false) : ET X W (.Compare a [op'] [b] pos) (tBK (k2 op f g)) :=
  (pt_cmpR ho ha hb hm).lv fun σ H Q h => tk_bin op2_of σ H _ (tt_blK h)
/-! not, and, or -/
def tNot (f : Rho → Option (Rs Bool)) : Rho → Option (Rs Bool) := fun ρ => bnd (f ρ) fun b ρ1 => some (.ok (!b) ρ1)
def tAnd (f g : Rho → Option (Rs Bool)) : Rho → Option (Rs Bool) := fun ρ => bnd (f ρ) fun b ρ1 => if b = true then g ρ1 else some (.ok false ρ1)
def tOr (f g : Rho → Option (Rs Bool)) : Rho → Option (Rs Bool) := fun ρ => bnd (f ρ) fun b ρ1 => if b = true then some (.ok true ρ1) else g ρ1
theorem tt_bind {K : PySem.W.Frag} {f : Rho → Option (Rs Bool)} {k : Bool → Rho → Option (Rs Bool)} {Q' Q : Bool → Hp → Prop} {σ : L2.St} {H : Hp} (h : tT K W (fun ρ => bnd (f ρ) k) σ H Q)
    (hk : ∀ b H1, tT K W (k b) σ H1 Q → Q' b H1) : tT K W f σ H Q' := by
  obtain ⟨M, ρ, F, r, g, e, q⟩ := h
  rcases bnd_some e with ⟨b, ρ1, e1, e⟩ | ⟨c, ρ', e1, rfl⟩
  · refine ⟨M, ρ, F, _, g, e1, fun M1 H1 F1 S1 g1 => hk b H1 ⟨M1, ρ1, F1, r, g1, e, ?_⟩⟩
    cases r with
    | ok b' ρ' => exact fun M2 H2 F2 S2 g2 => q M2 H2 F2 (S1.trans S2) g2
    | ex c ρ' => exact fun M2 H2 F2 S2 g2 => q M2 H2 F2 (S1.trans S2) g2
  · exact ⟨M, ρ, F, _, g, e1, q⟩
theorem tt_pure {K : PySem.W.Frag} {b : Bool} {σ : L2.St} {H : Hp} {Q : Bool → Hp → Prop} (h : tT K W (fun ρ => some (.ok b ρ)) σ H Q) : Q b H := by
  obtain ⟨M, ρ, F, r, g, e, q⟩ := h
  cases e
  exact q M H F (.refl fun a z => z) g
theorem et_not {f : Rho → Option (Rs Bool)} (h : ET X W a f) : ET X W (.UnaryOp .Not a pos) (tNot f) := (pt_not h).lv fun σ H Q h => tt_bind h fun b H1 h => tt_pure h
abbrev EW (X : Cx) (W : WS) (e : Expr) (f : Rho → Option (Rs Bool)) : Prop := PW X e (tT X.K W f)
theorem _root_.L2.PW.lv {X : Cx} {e : Expr} {t t' : TT} (h : PW X e t) (i : ∀ σ H Q, t' σ H Q → t σ H Q) : PW X e t' := ⟨fun wh pins s σ H Q I w => h.run wh pins s σ H Q I (i σ H Q w)⟩
theorem ew_and1 {f : Rho → Option (Rs Bool)} (h : ET X W a f) : EW X W (.BoolOp .And [a] pos) f := pw_and1 h
theorem ew_or1 {f : Rho → Option (Rs Bool)} (h : ET X W a f) : EW X W (.BoolOp .Or [a] pos) f := pw_or1 h
theorem ew_and {f g : Rho → Option (Rs Bool)} (h : ET X W a f) (h2 : EW X W (.BoolOp .And (b :: rest) pos) g) : EW X W (.BoolOp .And (a :: b :: rest) pos) (tAnd f g) := (pw_and h h2).lv fun σ H Q h => tt_bind h fun c H1 h => by
  cases c with
  | true => exact h
  | false => exact tt_pure h
theorem ew_or {f g : Rho → Option (Rs Bool)} (h : ET X W a f) (h2 : EW X W (.BoolOp .Or (b :: rest) pos) g) : EW X W (.BoolOp .Or (a :: b :: rest) pos) (tOr f g) := (pw_or h h2).lv fun σ H Q h => tt_bind h fun c H1 h => by
  cases c with
  | true => exact tt_pure h
  | false => exact h
theorem et_w {f : Rho → Option (Rs Bool)} (h : EW X W e f) : ET X W e f := h.pt
/-! as values -/
def eBl (f : Rho → Option (Rs Bool)) : Rho → Option (Rs T) := fun ρ => bnd (f ρ) fun b ρ1 => some (.ok (.fr (.bool b)) ρ1)
def eAnd (f g : Rho → Option (Rs T)) : Rho → Option (Rs T) := fun ρ => bnd (f ρ) fun t ρ1 => match t with
  | .fr (.bool true) => g ρ1
  | .fr (.bool false) => some (.ok (.fr (.bool false)) ρ1)
  | _ => none
def eOr (f g : Rho → Option (Rs T)) : Rho → Option (Rs T) := fun ρ => bnd (f ρ) fun t ρ1 => match t with
  | .fr (.bool false) => g ρ1
  | .fr (.bool true) => some (.ok (.fr (.bool true)) ρ1)
  | _ => none
def eNot (f : Rho → Option (Rs T)) : Rho → Option (Rs T) := fun ρ => bnd (f ρ) fun t ρ1 => (truth t).map fun b => .ok (.fr (.bool (!b))) ρ1
theorem te_pure {K : PySem.W.Frag} {d : D} {v : V} {σ : L2.St} {H : Hp} {Q : VK} (h : tE K W (fun ρ => some (.ok (.fr d) ρ)) σ H Q) (r : ∀ M, Dz K M v d) : Q v H := by
  obtain ⟨M, ρ, F, r', g, e, q⟩ := h
  cases e
  exact q M H v _ F (.refl fun a z => z.elim False.elim id) g (.fr (r M)) fun a z => z.elim
/-- a value, then more of the same value: what it owns is dropped -/
theorem te_bind {K : PySem.W.Frag} {f : Rho → Option (Rs T)} {k : T → Rho → Option (Rs T)} {Q' : VK} {Q : VK} {σ : L2.St} {H : Hp} (h : tE K W (fun ρ => bnd (f ρ) k) σ H Q)
    (hk : ∀ M H1 t v R, L2.Same M H1 → Rp K M H1 t v R → tE K W (k t) σ H1 Q → Q' v H1) : tE K W f σ H Q' := by
  obtain ⟨M, ρ, F, r, g, e, q⟩ := h
  rcases bnd_some e with ⟨b, ρ1, e1, e⟩ | ⟨c, ρ', e1, rfl⟩
  · refine ⟨M, ρ, F, _, g, e1, fun M1 H1 v R1 F1 S1 g1 r1 d1 => hk M1 H1 b v R1 g1.le r1 ⟨M1, ρ1, F1, r, g1, e, ?_⟩⟩
    have S1' := S1.sub (fun _ z => z) fun a (z : Al F1 a) => .inr z
    cases r with
    | ok b' ρ' => exact fun M2 H2 v R2 F2 S2 g2 => q M2 H2 v R2 F2 (S1'.trans S2) g2
    | ex c ρ' => exact fun M2 H2 F2 S2 g2 => q M2 H2 F2 (S1'.trans S2) g2
  · exact ⟨M, ρ, F, _, g, e1, q⟩
theorem te_none {K : PySem.W.Frag} {σ : L2.St} {H : Hp} {Q : VK} {A : Prop} (h : tE K W (fun _ => none) σ H Q) : A := by
  obtain ⟨M, ρ, F, r, g, e, q⟩ := h
  cases e
theorem ee_one {op} {f : Rho → Option (Rs T)} (h : EE X W a f) : EE X W (.BoolOp op [a] pos) f := pe_one h
theorem ee_and {f g : Rho → Option (Rs T)} (h : EE X W a f) (h2 : EE X W (.BoolOp .And (b :: rest) pos) g) : EE X W (.BoolOp .And (a :: b :: rest) pos) (eAnd f g) := (pe_and h h2).lv fun σ H Q h => te_bind h fun M H1 t v R m r h => by
  split at h
  · exact ⟨true, r.fr_inv.1.bl_inv, h⟩
  · exact ⟨false, r.fr_inv.1.bl_inv, te_pure h fun _ => .bl _⟩
  · exact te_none h
theorem ee_or {f g : Rho → Option (Rs T)} (h : EE X W a f) (h2 : EE X W (.BoolOp .Or (b :: rest) pos) g) : EE X W (.BoolOp .Or (a :: b :: rest) pos) (eOr f g) := (pe_or h h2).lv fun σ H Q h => te_bind h fun M H1 t v R m r h => by
  split at h
  · exact ⟨false, r.fr_inv.1.bl_inv, h⟩
  · exact ⟨true, r.fr_inv.1.bl_inv, te_pure h fun _ => .bl _⟩
  · exact te_none h
theorem ee_not {f : Rho → Option (Rs T)} (h : EE X W a f) : EE X W (.UnaryOp .Not a pos) (eNot f) := (pe_notT h).lv fun σ H Q h => te_bind h fun M H1 t v R m r h => by
  cases e : truth t with
  | none => rw [e] at h; exact te_none h
  | some b => rw [e] at h; exact ⟨b, tru_of m r e, te_pure h fun _ => .bl _⟩
def eIf (c : Rho → Option (Rs Bool)) (f g : Rho → Option (Rs T)) : Rho → Option (Rs T) := fun ρ => bnd (c ρ) fun b ρ1 => if b = true then f ρ1 else g ρ1
theorem ee_if {fc : Rho → Option (Rs Bool)} {f g : Rho → Option (Rs T)} (hc : ET X W c fc) (ha : EE X W a f) (hb : EE X W b g) : EE X W (.IfExp c a b pos) (eIf fc f g) := (pe_ifExp hc ha hb).lv fun σ H Q ⟨M, ρ, F, r, g', e, q⟩ => by
  rcases bnd_some e with ⟨k, ρ1, e1, e⟩ | ⟨c, ρ', e1, rfl⟩
  · refine ⟨M, ρ, F, _, g', e1, fun M1 H1 F1 S1 g1 => ?_⟩
    have fin : ∀ {f : Rho → Option (Rs T)}, f ρ1 = some r → tE X.K W f σ H1 Q := fun {f} e => by
      refine ⟨M1, ρ1, F1, r, g1, e, ?_⟩
      cases r with
      | ok b' ρ' => exact fun M2 H2 v R2 F2 S2 g2 => q M2 H2 v R2 F2 (S1.trans S2) g2
      | ex c ρ' => exact fun M2 H2 F2 S2 g2 => q M2 H2 F2 (S1.trans S2) g2
    cases k with
    | true => exact fin e
    | false => exact fin e
  · exact ⟨M, ρ, F, _, g', e1, q⟩
/-! a chain of two comparisons -/
def kCh (op op' : T → T → Option T) (f g h : Rho → Option T) : Rho → Option T := fun ρ => (f ρ).bind fun a => (g ρ).bind fun b => (op a b).bind fun t => match t with
  | .fr (.bool true) => (h ρ).bind fun c => op' b c
  | .fr (.bool false) => some (.fr (.bool false))
  | _ => none
theorem tk_chain {K : PySem.W.Frag} {op op' : T → T → Option T} {f g h : Rho → Option T} {σ : L2.St} {H : Hp} {Q : VK} (w : tK K (kCh op op' f g h) σ H Q) :
    tK K f σ H fun x H1 => tK K g σ H1 fun y H2 => rOp2 K op x y H2 fun z H3 => ∃ k, z = .bl k ∧ if k = true then tK K h σ H3 fun w H4 => rOp2 K op' y w H4 Q else Q (.bl false) H3 := by
  obtain ⟨M, ρ, F, t, g', e, q⟩ := w
  unfold kCh at e
  obtain ⟨a, e1, e⟩ := Option.bind_eq_some_iff.mp e
  obtain ⟨b, e2, e⟩ := Option.bind_eq_some_iff.mp e
  obtain ⟨c, e3, e⟩ := Option.bind_eq_some_iff.mp e
  refine ⟨M, ρ, F, a, g', e1, fun M1 H1 v1 R1 x1 r1 => ⟨M1, ρ, F, b, g'.ext x1, e2, fun M2 H2 v2 R2 x2 r2 => ⟨M2, a, R1, b, R2, c, x2.le, r1.ext x2, r2, e3, fun M3 H3 v3 R3 x3 r3 _ => ?_⟩⟩⟩
  split at e
  · obtain ⟨d, e4, e⟩ := Option.bind_eq_some_iff.mp e
    refine ⟨true, r3.fr_inv.1.bl_inv, ?_⟩
    rw [if_pos rfl]
    exact ⟨M3, ρ, F, d, g'.ext ((x1.trans x2).trans x3), e4, fun M4 H4 v4 R4 x4 r4 => ⟨M4, b, R2, d, R4, t, x4.le, r2.ext (x3.trans x4), r4, e, k_fin (((x1.trans x2).trans x3).trans x4) q⟩⟩
  · cases e
    refine ⟨false, r3.fr_inv.1.bl_inv, ?_⟩
    rw [if_neg (by decide)]
    exact q M3 H3 _ (fun _ => False) ((x1.trans x2).trans x3) (.fr (.bl false))
  · cases e
theorem ek_chain {op1 op2 : CmpOp} {op op' : T → T → Option T} {f g h : Rho → Option T} (ho : OpR X (compareOp op1) (rOp2 X.K op)) (ho' : OpR X (compareOp op2) (rOp2 X.K op')) (ha : EK X a f) (hb : EK X b g) (hc : EK X c h) (hm : lastMarks [op1, op2] [b, c] = false := by with_unfolding_all rfl) :
    EK X (.Compare a [op1, op2] [b, c] pos) (kCh op op' f g h) := (pe_chain ho ho' ha hb hc hm).lv fun σ H Q w => tk_chain w
theorem et_chain {op1 op2 : CmpOp} {op op' : T → T → Option T} {f g h : Rho → Option T} (ho : OpR X (compareOp op1) (rOp2 X.K op)) (ho' : OpR X (compareOp op2) (rOp2 X.K op')) (ha : EK X a f) (hb : EK X b g) (hc : EK X c h) (hm : lastMarks [op1, op2] [b, c] = false := by with_unfolding_all rfl) :
    ET X W (.Compare a [op1, op2] [b, c] pos) (tBK (kCh op op' f g h)) := (pt_chain ho ho' ha hb hc hm).lv fun σ H Q w => by
  have q := tk_chain (tt_blK w)
  exact q
end
end Lv

set_option maxHeartbeats 1000000
namespace Lv
open PySem PySem.Spec PyProof.Rows L2
/-! ### built-in functions -/
def rOpN (K : PySem.W.Frag) (op : List T → Option T) : List V → Hp → VK → Prop := fun vs H Q => ∃ M ts u, L2.Same M H ∧ PkL K M H ts vs ∧ op ts = some u ∧ rFin K M H u Q
def kN (op : List T → Option T) (f : Rho → Option (List T)) : Rho → Option T := fun ρ => (f ρ).bind op
def ownsA : List Ar → Option (List T)
  | [] => some []
  | .own t :: r => (ownsA r).map (t :: ·)
  | .bor _ :: _ => none
def eN (op : List T → Option T) (f : Rho → Option (Rs (List Ar))) : Rho → Option (Rs T) := fun ρ => bnd (f ρ) fun as ρ1 => (ownsA as).bind fun ts => (op ts).map fun t => .ok t ρ1
section
variable {X : Cx} {W : WS} {e a b : Expr} {es : List Expr} {pos p : Pos} {x : Str} {op : List T → Option T}
theorem ArL.pk {K : PySem.W.Frag} {M H : Hp} {σ : L2.St} : ∀ {as : List Ar} {vs : List V} {R : Fp} {ts : List T}, ArL K M H σ as vs R → ownsA as = some ts → PkL K M H ts vs
  | _, _, _, _, .nil, e => by cases e; exact .nil
  | _, _, _, _, .own h t _, e => by
    simp only [ownsA] at e
    obtain ⟨ts, e1, e2⟩ := Option.map_eq_some_iff.mp e
    subst e2
    exact .cons h (t.pk e1)
  | _, _, _, _, .bor _ _, e => by cases e
theorem tk_n {K : PySem.W.Frag} {f : Rho → Option (List T)} {σ : L2.St} {H : Hp} {Q : VK} (h : tK K (kN op f) σ H Q) : tKA K f σ H fun vs H1 => rOpN K op vs H1 Q := by
  obtain ⟨M, ρ, F, t, g, e, q⟩ := h
  obtain ⟨ts, e1, e⟩ := Option.bind_eq_some_iff.mp e
  exact ⟨M, ρ, F, ts, g, e1, fun M1 H1 vs x1 r1 => ⟨M1, ts, t, x1.le, r1, e, k_fin x1 q⟩⟩
theorem te_n {K : PySem.W.Frag} {f : Rho → Option (Rs (List Ar))} {σ : L2.St} {H : Hp} {Q : VK} (h : tE K W (eN op f) σ H Q) : tEA K W f σ H fun vs H1 => rOpN K op vs H1 Q := by
  obtain ⟨M, ρ, F, r, g, e, q⟩ := h
  rcases bnd_some e with ⟨as, ρ1, e1, e⟩ | ⟨c, ρ', e1, rfl⟩
  · obtain ⟨ts, e2, e⟩ := Option.bind_eq_some_iff.mp e
    obtain ⟨t, e3, e⟩ := Option.map_eq_some_iff.mp e
    subst e
    refine ⟨M, ρ, F, _, g, e1, fun M1 H1 vs R1 F1 S1 g1 r1 d1 => ⟨M1, ts, t, g1.le, r1.pk e2, e3, fun M3 H3 v3 R3 x3 r3 n3 => ?_⟩⟩
    refine q M3 H3 v3 R3 F1 ((S1.sub (fun _ z => z) fun a z => .inr z).trans (x3.stp fun a z => z.elim (fun z => .inr (n3 a z)) .inl)) (g1.ext x3) r3 fun a z z' => ?_
    obtain ⟨_, o, eo'⟩ := g1.own a z'
    rw [n3 a z] at eo'; cases eo'
  · exact ⟨M, ρ, F, _, g, e1, q⟩
theorem ek_callB {id : String} {f : Rho → Option (List T)} (hc : CallR X (.builtin id) (rOpN X.K op)) (hg : Gl X x) (hm : X.mg x = none) (hv : bootBuiltins x = some (.builtin id)) (ha : AK X (e :: es) f) (hn : x ≠ "__name__" := by decide) (hdb : (x == ("__debug__" : Str)) = false := by decide)
    (he : starEach (e :: es) X.env = (false, eval e X.env) :: starEach es X.env := by rfl) (hpl : (backTo pos (starEach es X.env)).any (·.1) = false := by rfl) : EK X (.Call (.Name x p) (e :: es) [] pos) (kN op f) := (pe_callB hc hg hm hv ha hn hdb he hpl).lv fun σ H Q h => tk_n h
theorem ee_callB {id : String} {f : Rho → Option (Rs (List Ar))} (hc : CallR X (.builtin id) (rOpN X.K op)) (hg : Gl X x) (hm : X.mg x = none) (hv : bootBuiltins x = some (.builtin id)) (ha : AE X W (e :: es) f) (hn : x ≠ "__name__" := by decide) (hdb : (x == ("__debug__" : Str)) = false := by decide)
    (he : starEach (e :: es) X.env = (false, eval e X.env) :: starEach es X.env := by rfl) (hpl : (backTo pos (starEach es X.env)).any (·.1) = false := by rfl) : EE X W (.Call (.Name x p) (e :: es) [] pos) (eN op f) := (pe_callB hc hg hm hv ha hn hdb he hpl).lv fun σ H Q h => te_n h
theorem ek_callT {id : String} {f : Rho → Option (List T)} (hc : CallR X (.type id) (rOpN X.K op)) (hg : Gl X x) (hm : X.mg x = none) (hv : bootBuiltins x = some (.type id)) (ha : AK X (e :: es) f) (hn : x ≠ "__name__" := by decide) (hdb : (x == ("__debug__" : Str)) = false := by decide)
    (he : starEach (e :: es) X.env = (false, eval e X.env) :: starEach es X.env := by rfl) (hpl : (backTo pos (starEach es X.env)).any (·.1) = false := by rfl) : EK X (.Call (.Name x p) (e :: es) [] pos) (kN op f) := (pe_callTy hc hg hm hv ha hn hdb he hpl).lv fun σ H Q h => tk_n h
theorem ee_callT {id : String} {f : Rho → Option (Rs (List Ar))} (hc : CallR X (.type id) (rOpN X.K op)) (hg : Gl X x) (hm : X.mg x = none) (hv : bootBuiltins x = some (.type id)) (ha : AE X W (e :: es) f) (hn : x ≠ "__name__" := by decide) (hdb : (x == ("__debug__" : Str)) = false := by decide)
    (he : starEach (e :: es) X.env = (false, eval e X.env) :: starEach es X.env := by rfl) (hpl : (backTo pos (starEach es X.env)).any (·.1) = false := by rfl) : EE X W (.Call (.Name x p) (e :: es) [] pos) (eN op f) := (pe_callTy hc hg hm hv ha hn hdb he hpl).lv fun σ H Q h => te_n h
end
section
variable {K : PySem.W.Frag} {M H : Hp}
theorem PkL.one {t : T} {vs : List V} (h : PkL K M H [t] vs) : ∃ v R, vs = [v] ∧ Rp K M H t v R := by
  cases h with | cons h t => cases t; exact ⟨_, _, rfl, h⟩
theorem PkL.two {t t' : T} {vs : List V} (h : PkL K M H [t, t'] vs) : ∃ v w R R', vs = [v, w] ∧ Rp K M H t v R ∧ Rp K M H t' w R' := by
  cases h with | cons h t => cases t with | cons h' t => cases t; exact ⟨_, _, _, _, rfl, h, h'⟩
/-- a list or a tuple, with the items frozen -/
def T.asS : T → Option (List D)
  | .fr (.tuple ds) => some ds
  | t => t.asL
theorem Rp.asS_inv {t : T} {v : V} {R : Fp} {ds : List D} (m : L2.Same M H) (e : t.asS = some ds) (h : Rp K M H t v R) : ∃ a xs, v = .ref a ∧ (SqL K H a xs ∨ SqT K H a xs) ∧ DzL K M xs ds := by
  unfold T.asS at e
  split at e
  · cases e
    obtain ⟨a, xs, e1, h1, h2⟩ := h.fr_inv.1.tup_inv
    exact ⟨a, xs, e1, .inr (Same.tup m h1), h2⟩
  · obtain ⟨a, xs, e1, h1, h2⟩ := h.asL_inv m e
    exact ⟨a, xs, e1, .inl h1, h2⟩
end
def opLen : List T → Option T
  | [.fr (.list ds)] => some (.fr (.int ds.length))
  | [.fr (.tuple ds)] => some (.fr (.int ds.length))
  | [.fr (.str z)] => if z.length ≤ SZ then some (.fr (.int z.length)) else none
  | [.fr (.dict ds)] => some (.fr (.int ds.length))
  | [.lst ds] => some (.fr (.int ds.length))
  | [.dk ds] => some (.fr (.int ds.length))
  | _ => none
theorem DzK.length {K : PySem.W.Frag} {M : Hp} : ∀ {v : List (Key × V)} {d : List (D × D)}, DzK K M v d → v.length = d.length
  | _, _, .nil => rfl
  | _, _, .cons _ t => by simp [DzK.length t]
theorem RpK.length {K : PySem.W.Frag} {M H : Hp} : ∀ {v : List (Key × V)} {d : List (Key × T)} {R : Fp}, RpK K M H d v R → v.length = d.length
  | _, _, _, .nil => rfl
  | _, _, _, .cons _ t _ => by simp [RpK.length t]
section
variable {X : Cx}
theorem call_lenA : CallR X (.builtin "len") (rOpN X.K opLen) := by
  intro pins s σ H vs us Q I r ⟨M, ts, u, m, pk, e, q⟩
  unfold opLen at e
  split at e
  · cases e
    obtain ⟨v, R, rfl, rp⟩ := pk.one
    obtain ⟨a, xs, rfl, h1, h2⟩ := rp.fr_inv.1.list_inv
    exact call_len_seq pins s σ H _ us Q I r ⟨a, xs, rfl, .inl (m.seq h1), by rw [h2.length]; exact fin_int m q⟩
  · cases e
    obtain ⟨v, R, rfl, rp⟩ := pk.one
    obtain ⟨a, xs, rfl, h1, h2⟩ := rp.fr_inv.1.tup_inv
    exact call_len_seq pins s σ H _ us Q I r ⟨a, xs, rfl, .inr (Same.tup m h1), by rw [h2.length]; exact fin_int m q⟩
  · split at e
    · next hl =>
      cases e
      obtain ⟨v, R, rfl, rp⟩ := pk.one
      obtain rfl := rp.fr_inv.1.str_inv
      exact call_len_str pins s σ H _ us Q I r ⟨_, rfl, sz_ok hl, fin_int m q⟩
    · cases e
  · cases e
    obtain ⟨v, R, rfl, rp⟩ := pk.one
    cases rp.fr_inv.1 with
    | dk h1 h2 => exact call_lenD pins s σ H _ us Q I r ⟨_, _, rfl, m _ _ h1, by rw [h2.length]; exact fin_int m q⟩
  · cases e
    obtain ⟨v, R, rfl, rp⟩ := pk.one
    cases rp with
    | lst h1 h2 h3 h4 => exact call_len_seq pins s σ H _ us Q I r ⟨_, _, rfl, .inl (.of h1), by rw [h3.length]; exact fin_int m q⟩
  · cases e
    obtain ⟨v, R, rfl, rp⟩ := pk.one
    cases rp with
    | dk h1 h2 h3 h4 => exact call_lenD pins s σ H _ us Q I r ⟨_, _, rfl, h1, by rw [h3.length]; exact fin_int m q⟩
  · cases e
def opAbs : List T → Option T
  | [.fr (.int i)] => some (.fr (.int (if i < 0 then -i else i)))
  | _ => none
theorem call_absA : CallR X (.builtin "abs") (rOpN X.K opAbs) := by
  intro pins s σ H vs us Q I r ⟨M, ts, u, m, pk, e, q⟩
  unfold opAbs at e
  split at e
  · cases e
    obtain ⟨v, R, rfl, rp⟩ := pk.one
    obtain rfl := rp.fr_inv.1.int_inv
    exact call_abs pins s σ H _ us Q I r ⟨_, rfl, fin_int m q⟩
  · cases e
def opList : List T → Option T
  | [t] => (T.asS t).map fun ds => .lst (ds.map .fr)
  | _ => none
theorem call_listA : CallR X (.type "list") (rOpN X.K opList) := by
  intro pins s σ H vs us Q I r ⟨M, ts, u, m, pk, e, q⟩
  unfold opList at e
  split at e
  · obtain ⟨ds, e1, e2⟩ := Option.map_eq_some_iff.mp e
    subst e2
    obtain ⟨v, R, rfl, rp⟩ := pk.one
    obtain ⟨a, xs, rfl, h1, h2⟩ := rp.asS_inv m e1
    exact call_list_of pins s σ H _ us Q I r ⟨a, xs, rfl, h1, fun p np => fin_list m h2 q np⟩
  · cases e
def opTuple : List T → Option T
  | [t] => (T.asS t).map fun ds => .fr (.tuple ds)
  | _ => none
theorem call_tupleA : CallR X (.type "tuple") (rOpN X.K opTuple) := by
  intro pins s σ H vs us Q I r ⟨M, ts, u, m, pk, e, q⟩
  unfold opTuple at e
  split at e
  · obtain ⟨ds, e1, e2⟩ := Option.map_eq_some_iff.mp e
    subst e2
    obtain ⟨v, R, rfl, rp⟩ := pk.one
    unfold T.asS at e1
    split at e1
    · cases e1
      obtain ⟨a, xs, rfl, h1, h2⟩ := rp.fr_inv.1.tup_inv
      exact call_tuple_of pins s σ H _ us Q I r ⟨a, xs, rfl, .inr ⟨Same.tup m h1, fin_dz m (.tup h1 h2) q⟩⟩
    · obtain ⟨a, xs, rfl, h1, h2⟩ := rp.asL_inv m e1
      exact call_tuple_of pins s σ H _ us Q I r ⟨a, xs, rfl, .inl ⟨h1, fun p np => fin_tup m h2 q np⟩⟩
  · cases e
def intsD : List D → Option (List Int)
  | [] => some []
  | .int i :: r => (intsD r).map (i :: ·)
  | _ :: _ => none
theorem intsD_map : ∀ ns : List Int, intsD (ns.map .int) = some ns
  | [] => rfl
  | n :: ns => by simp [intsD, intsD_map ns]
theorem DzL.ints {K : PySem.W.Frag} {M : Hp} : ∀ {xs : List V} {ds : List D} {ns : List Int}, DzL K M xs ds → intsD ds = some ns → xs = ns.map V.int
  | _, _, _, .nil, e => by cases e; rfl
  | _, d :: ds, ns, .cons h t, e => by
    cases d with
    | int i =>
      simp only [intsD] at e
      obtain ⟨ns', e1, e2⟩ := Option.map_eq_some_iff.mp e
      subst e2
      rw [h.int_inv, t.ints e1]; rfl
    | _ => cases e
def opSum : List T → Option T
  | [t] => (T.asL t).bind fun ds => (intsD ds).map fun ns => .fr (.int ns.sum)
  | _ => none
theorem call_sumA (hc : X.calm = true) : CallR X (.builtin "sum") (rOpN X.K opSum) := by
  intro pins s σ H vs us Q I r ⟨M, ts, u, m, pk, e, q⟩
  unfold opSum at e
  split at e
  · obtain ⟨ds, e1, e⟩ := Option.bind_eq_some_iff.mp e
    obtain ⟨ns, e2, e3⟩ := Option.map_eq_some_iff.mp e
    subst e3
    obtain ⟨v, R, rfl, rp⟩ := pk.one
    obtain ⟨a, xs, rfl, h1, h2⟩ := rp.asL_inv m e1
    have e4 := h2.ints e2
    subst e4
    exact cr_sum hc pins s σ H _ us Q I r ⟨a, ns, rfl, h1, fin_int m q⟩
  · cases e
/-! sorted, min, max -/
def leD (a b : D) : Bool := !ltD b a
def tup1 : D → Bool
  | .tuple (_ :: _) => true
  | _ => false
def notTup : D → Bool
  | .tuple _ => false
  | .none => false
  | _ => true
def canSort (ds : List D) : Bool := (ds.all fun a => ds.all fun b => PySem.W.alike a b) && (ds.all tup1 || ds.all notTup) && ds.all okD
def sortD (ds : List D) : List D := ds.mergeSort leD
def opSorted : List T → Option T
  | [t] => (T.asL t).bind fun ds => if canSort ds = true then some (.lst ((sortD ds).map .fr)) else none
  | _ => none
def opMin1 (t : T) : Option T := (T.asL t).bind fun ds => if ((ds.all fun a => ds.all fun b => canLt a b) && ds.all okD) = true then (match ds with
  | x :: xs => some (.fr (xs.foldl (fun a y => if ltD y a then y else a) x))
  | [] => none) else none
def opMax1 (t : T) : Option T := (T.asL t).bind fun ds => if ((ds.all fun a => ds.all fun b => canLt a b) && ds.all okD) = true then (match ds with
  | x :: xs => some (.fr (xs.foldl (fun a y => if ltD a y then y else a) x))
  | [] => none) else none
def opMin : List T → Option T
  | [t] => opMin1 t
  | [.fr (.int i), .fr (.int j)] => some (.fr (.int (if j < i then j else i)))
  | _ => none
def opMax : List T → Option T
  | [t] => opMax1 t
  | [.fr (.int i), .fr (.int j)] => some (.fr (.int (if j > i then j else i)))
  | _ => none
theorem each_of {K : PySem.W.Frag} {M : Hp} : ∀ {xs : List V} {ds : List D} {us : List Value}, DzL K M xs ds → Vals xs us → PySem.W.EachIs (fun (u : Value) (p : V × D) => RelV p.1 u ∧ Dz K M p.1 p.2) us (xs.zip ds)
  | _, _, _, .nil, .nil => .nil
  | _, _, _, .cons h t, .cons r rs => .cons ⟨r, h⟩ (each_of t rs)
theorem each_back {K : PySem.W.Frag} {M : Hp} : ∀ {ps : List (V × D)} {us : List Value}, PySem.W.EachIs (fun (u : Value) (p : V × D) => RelV p.1 u ∧ Dz K M p.1 p.2) us ps → Vals (ps.map Prod.fst) us ∧ DzL K M (ps.map Prod.fst) (ps.map Prod.snd)
  | _, _, .nil => ⟨.nil, .nil⟩
  | _, _, .cons h t => ⟨.cons h.1 (each_back t).1, .cons h.2 (each_back t).2⟩
theorem zip_snd {α β : Type} : ∀ {xs : List α} {ys : List β}, xs.length = ys.length → (xs.zip ys).map Prod.snd = ys
  | [], [], _ => rfl
  | [], _ :: _, e => by simp at e
  | _ :: _, [], e => by simp at e
  | x :: xs, y :: ys, e => by simp [zip_snd (xs := xs) (ys := ys) (by simpa using e)]
theorem zip_fst {α β : Type} : ∀ {xs : List α} {ys : List β}, xs.length = ys.length → (xs.zip ys).map Prod.fst = xs
  | [], [], _ => rfl
  | [], _ :: _, e => by simp at e
  | _ :: _, [], e => by simp at e
  | x :: xs, y :: ys, e => by simp [zip_fst (xs := xs) (ys := ys) (by simpa using e)]
theorem okD_of {d : D} (h : okD d = true) : d.plain = true ∧ d.depth ≤ 60 := by
  unfold okD at h
  simpa using h
theorem all_ok {ds : List D} (h : ds.all okD = true) : PyData.plainAll ds = true ∧ PyData.depthAll ds ≤ 60 := by
  induction ds with
  | nil => exact ⟨rfl, Nat.zero_le _⟩
  | cons d ds ih =>
    simp only [List.all_cons, Bool.and_eq_true] at h
    obtain ⟨h1, h2⟩ := ih h.2
    obtain ⟨h3, h4⟩ := okD_of h.1
    refine ⟨by simp [PyData.plainAll, h1, h3], ?_⟩
    simp only [PyData.depthAll]
    omega
theorem sort_map {ps : List (V × D)} : (ps.mergeSort (PySem.W.dataLe false Prod.snd)).map Prod.snd = sortD (ps.map Prod.snd) := by
  unfold sortD
  refine List.map_mergeSort fun a _ b _ => ?_
  show (!PySem.W.dataLt b.2 a.2) = leD a.2 b.2
  unfold leD
  rw [ltD_eq]
theorem call_sortedA (hu : X.A.units + 64 < cLine) : CallR X (.builtin "sorted") (rOpN X.K opSorted) := by
  intro pins s σ H vs us Q I r ⟨M, ts, u, m, pk, e, q⟩
  unfold opSorted at e
  split at e
  · obtain ⟨ds, e1, e⟩ := Option.bind_eq_some_iff.mp e
    split at e
    · next hc =>
      cases e
      obtain ⟨v, R, rfl, rp⟩ := pk.one
      obtain ⟨a, xs, rfl, h1, h2⟩ := rp.asL_inv m e1
      obtain ⟨its, rv, pl, hz⟩ := I.list h1
      rw [Vals.ref1 r]
      unfold canSort at hc
      simp only [Bool.and_eq_true] at hc
      obtain ⟨⟨ca, cs⟩, ck⟩ := hc
      have hl : xs.length = ds.length := h2.length
      have hsn := zip_snd hl
      have hfs := zip_fst hl
      have E := each_of h2 rv
      have okm : ∀ d ∈ ds, d.plain = true ∧ d.depth ≤ 60 := fun d hd => okD_of (List.all_eq_true.mp ck d hd)
      have mem : ∀ p ∈ xs.zip ds, p.2 ∈ ds := fun p hp => (List.of_mem_zip (a := p.1) (b := p.2) hp).2
      have er : PySem.W.EachIs (fun (v : Value) (p : V × D) => ∃ as, Reads s.heap v p.2 as) its (xs.zip ds) := by
        have h3 := PySem.W.each_mem E
        refine h3.mono fun v p ⟨⟨z1, z2⟩, hb⟩ => ?_
        exact Dp.reads I p.2 p.1 v ((z2.mono m).dp (okm _ (mem p hb)).1) z1
      refine PySem.W.sorted_data (R := fun (u : Value) (p : V × D) => RelV p.1 u ∧ Dz X.K M p.1 p.2) (enc := Prod.snd) (bs := xs.zip ds) pl.isList E er (by rw [hsn]; exact fun d hd d' hd' => List.all_eq_true.mp (List.all_eq_true.mp ca d hd) d' hd') ?_ (by rw [List.length_zip, hl]; omega) (fun p hp => by have := (okm _ (mem p hp)).2; omega) fun out ho eo => ?_
      · rw [hsn]
        rw [Bool.or_eq_true] at cs
        rcases cs with cs | cs
        · refine .inl fun d hd => ?_
          have := List.all_eq_true.mp cs d hd
          unfold tup1 at this
          split at this
          · exact ⟨_, _, rfl⟩
          · cases this
        · refine .inr fun d hd => ?_
          have := List.all_eq_true.mp cs d hd
          unfold notTup at this
          split at this
          · cases this
          · cases this
          · next h1 h2 => exact ⟨fun z => h2 z, fun xs z => h1 xs z⟩
      · obtain ⟨rv2, dz2⟩ := each_back eo
        rw [sort_map, hsn] at dz2
        obtain ⟨c, hc⟩ := sortedAll_at s.heap its out.toArray
        have k : ∀ b o, s.heap.get? b = some o → (sortedAll s.heap its out.toArray).get? b = some o := fun b o e => sortedAll_old e
        have hz2 : (((xs.zip ds).mergeSort (PySem.W.dataLe false Prod.snd)).map Prod.fst).length ≤ sizeLine := by
          rw [List.length_map, List.length_mergeSort, List.length_zip, hl]; omega
        refine ⟨.ref (s.heap.objs.size + 1), upd H (s.heap.objs.size + 1) (.lst (((xs.zip ds).mergeSort (PySem.W.dataLe false Prod.snd)).map Prod.fst)), I.laid (t' := s.toks) k (Nat.le_succ _) ⟨hz2, out, c, rv2, hc⟩, rfl, ?_⟩
        exact fin_list m dz2 q (I.hok.fresh (Nat.le_succ _))
    · cases e
  · cases e
theorem alike_of {ds : List D} (h : (ds.all fun a => ds.all fun b => canLt a b) = true) : PySem.W.AlikeAll ds := by
  have h1 : ∀ a ∈ ds, ∀ b ∈ ds, canLt a b = true := fun a ha b hb => List.all_eq_true.mp (List.all_eq_true.mp h a ha) b hb
  exact ⟨fun a ha b hb => (canLt_ok (h1 a ha b hb)).1, fun a ha => (canLt_ok (h1 a ha a ha)).2⟩
theorem pick {pins : List (Addr × Obj)} {s : Shared} {σ : L2.St} {H M : Hp} {xs : List V} {ds : List D} {its : List Value} {d : D} {h' : Heap} {bs : List Addr} {i : Nat} {v : Value} {Q : VK} {tk : Nat} (I : Inv X pins σ H s) (m : L2.Same M H) (h2 : DzL X.K M xs ds) (rv : Vals xs its) (ok : ds.all okD = true)
    (e : its.toArray[i]? = some v) (hr : Reads h' v d bs) (k : ∀ b o, s.heap.get? b = some o → h'.get? b = some o) (q : rFin X.K M H (.fr d) Q) : EP X pins σ Q v { s with heap := h', toks := tk } := by
  have e' : its[i]? = some v := by simpa using e
  have hi : i < xs.length := by rw [rv.length]; exact (List.getElem?_eq_some_iff.mp e').1
  obtain ⟨u, e2, r2⟩ := rv.get (List.getElem?_eq_getElem hi)
  rw [e'] at e2; cases e2
  obtain ⟨x, e3, dz⟩ := h2.get' (List.getElem?_eq_getElem hi)
  have okx := okD_of (List.all_eq_true.mp ok x (List.mem_of_getElem? e3))
  obtain ⟨as, h5⟩ := Dp.reads I x _ v ((dz.mono m).dp okx.1) r2
  have e4 := PySem.SeqAt.plain_unique x d v as bs okx.1 (PySem.W.reads_keeps k h5) hr
  subst e4
  exact ⟨xs[i], H, I.kept k, r2, fin_dz m dz q⟩
theorem call_minA (hc : X.calm = true) (hu : X.A.units + 64 < cLine) : CallR X (.builtin "min") (rOpN X.K opMin) := by
  intro pins s σ H vs us Q I r ⟨M, ts, u, m, pk, e, q⟩
  unfold opMin at e
  split at e
  · unfold opMin1 at e
    obtain ⟨ds, e1, e⟩ := Option.bind_eq_some_iff.mp e
    split at e
    · next hk =>
      rw [Bool.and_eq_true] at hk
      split at e
      · next x xs =>
        cases e
        obtain ⟨v, R, rfl, rp⟩ := pk.one
        obtain ⟨a, ys, rfl, h1, h2⟩ := rp.asL_inv m e1
        obtain ⟨its, rv, pl, hz⟩ := I.list h1
        rw [Vals.ref1 r]
        obtain ⟨pa, da⟩ := all_ok hk.2
        obtain ⟨as, hr⟩ := Dp.readsAll I _ ys its ((h2.mono m).dp pa) rv
        refine PySem.W.min_list_data (I.ok.hd hc) pl.isList (by simpa using hr) (alike_of hk.1) (by omega) fun i v h' tk bs ev rd k => ?_
        refine pick (bs := bs) I m h2 rv hk.2 ev (d := xs.foldl (fun a y => if ltD y a then y else a) x) ?_ k q
        have e5 : (fun (a y : D) => if ltD y a = true then y else a) = fun a y => if PySem.W.dataLt y a = true then y else a := by funext a y; rw [ltD_eq]
        rw [e5]; exact rd
      · cases e
    · cases e
  · cases e
    obtain ⟨v, w, R, R', rfl, rp, rp'⟩ := pk.two
    obtain rfl := rp.fr_inv.1.int_inv
    obtain rfl := rp'.fr_inv.1.int_inv
    exact call_min2 hc pins s σ H _ us Q I r ⟨_, _, rfl, fin_int m q⟩
  · cases e
theorem call_maxA (hc : X.calm = true) (hu : X.A.units + 64 < cLine) : CallR X (.builtin "max") (rOpN X.K opMax) := by
  intro pins s σ H vs us Q I r ⟨M, ts, u, m, pk, e, q⟩
  unfold opMax at e
  split at e
  · unfold opMax1 at e
    obtain ⟨ds, e1, e⟩ := Option.bind_eq_some_iff.mp e
    split at e
    · next hk =>
      rw [Bool.and_eq_true] at hk
      split at e
      · next x xs =>
        cases e
        obtain ⟨v, R, rfl, rp⟩ := pk.one
        obtain ⟨a, ys, rfl, h1, h2⟩ := rp.asL_inv m e1
        obtain ⟨its, rv, pl, hz⟩ := I.list h1
        rw [Vals.ref1 r]
        obtain ⟨pa, da⟩ := all_ok hk.2
        obtain ⟨as, hr⟩ := Dp.readsAll I _ ys its ((h2.mono m).dp pa) rv
        refine PySem.W.max_list_data (I.ok.hd hc) pl.isList (by simpa using hr) (alike_of hk.1) (by omega) fun i v h' tk bs ev rd k => ?_
        refine pick (bs := bs) I m h2 rv hk.2 ev (d := xs.foldl (fun a y => if ltD a y then y else a) x) ?_ k q
        have e5 : (fun (a y : D) => if ltD a y = true then y else a) = fun a y => if PySem.W.dataLt a y = true then y else a := by funext a y; rw [ltD_eq]
        rw [e5]; exact rd
      · cases e
    · cases e
  · cases e
    obtain ⟨v, w, R, R', rfl, rp, rp'⟩ := pk.two
    obtain rfl := rp.fr_inv.1.int_inv
    obtain rfl := rp'.fr_inv.1.int_inv
    exact call_max2 hc pins s σ H _ us Q I r ⟨_, _, rfl, fin_int m q⟩
  · cases e
end
end Lv

set_option maxHeartbeats 1000000
namespace Lv
open PySem PySem.Spec PyProof.Rows L2
/-! ### displays -/
def kTup (f : Rho → Option (List T)) : Rho → Option T := fun ρ => (f ρ).bind fun ts => (allFr ts).bind fun ds => if ds.length ≤ SZ then some (.fr (.tuple ds)) else none
def kLst (f : Rho → Option (List T)) : Rho → Option T := fun ρ => (f ρ).bind fun ts => (allFr ts).bind fun ds => if ds.length ≤ SZ then some (.lst (ds.map .fr)) else none
def eTup (f : Rho → Option (Rs (List Ar))) : Rho → Option (Rs T) := fun ρ => bnd (f ρ) fun as ρ1 => (ownsA as).bind fun ts => (T.datL ts).bind fun ds => if ds.length ≤ SZ then some (.ok (.fr (.tuple ds)) ρ1) else none
def eLst (f : Rho → Option (Rs (List Ar))) : Rho → Option (Rs T) := fun ρ => bnd (f ρ) fun as ρ1 => (ownsA as).bind fun ts => if ts.length ≤ SZ then some (.ok (.lst ts) ρ1) else none
section
variable {K : PySem.W.Frag} {M H : Hp}
theorem PkL.frs : ∀ {ts : List T} {vs : List V} {ds : List D}, PkL K M H ts vs → allFr ts = some ds → DzL K M vs ds
  | _, _, _, .nil, e => by cases e; exact .nil
  | t :: ts, _, ds, .cons h q, e => by
    cases t with
    | fr d =>
      simp only [allFr] at e
      obtain ⟨ds', e1, e2⟩ := Option.map_eq_some_iff.mp e
      subst e2
      exact .cons h.fr_inv.1 (q.frs e1)
    | _ => cases e
theorem ArL.rpl {σ : L2.St} : ∀ {as : List Ar} {vs : List V} {R : Fp} {ts : List T}, ArL K M H σ as vs R → ownsA as = some ts → RpL K M H ts vs R
  | _, _, _, _, .nil, e => by cases e; exact .nil
  | _, _, _, _, .own h t d, e => by
    simp only [ownsA] at e
    obtain ⟨ts, e1, e2⟩ := Option.map_eq_some_iff.mp e
    subst e2
    exact .cons h (t.rpl e1) d
  | _, _, _, _, .bor _ _, e => by cases e
theorem RpL.freeze {t : List T} {v : List V} {R : Fp} {d : List D} (h : RpL K M H t v R) (e : T.datL t = some d) : DzL K (frz M H R) v d :=
  h.view (frz_same fun a r => (h.own a r).1) (fun a r o q => by rw [frz_in r]; exact q) e
end
section
variable {X : Cx} {W : WS} {e a b : Expr} {es : List Expr} {pos : Pos} {k : Nat}
theorem ek_tup {f : Rho → Option (List T)} (h : AK X es f) : EK X (.Tuple es k pos) (kTup f) := (pe_tup h).lv fun σ H Q ⟨M, ρ, F, t, g, e, q⟩ => by
  obtain ⟨ts, e1, e⟩ := Option.bind_eq_some_iff.mp e
  obtain ⟨ds, e2, e⟩ := Option.bind_eq_some_iff.mp e
  split at e
  · next hl =>
    cases e
    refine ⟨M, ρ, F, ts, g, e1, fun M1 H1 vs x1 r1 => ?_⟩
    have dz := r1.frs e2
    exact ⟨by rw [dz.length]; exact sz_ok hl, fun p np => fin_tup x1.le dz (k_fin x1 q) np⟩
  · cases e
theorem ek_lst {f : Rho → Option (List T)} (h : AK X es f) : EK X (.List es pos) (kLst f) := (pe_lst h).lv fun σ H Q ⟨M, ρ, F, t, g, e, q⟩ => by
  obtain ⟨ts, e1, e⟩ := Option.bind_eq_some_iff.mp e
  obtain ⟨ds, e2, e⟩ := Option.bind_eq_some_iff.mp e
  split at e
  · next hl =>
    cases e
    refine ⟨M, ρ, F, ts, g, e1, fun M1 H1 vs x1 r1 => ?_⟩
    have dz := r1.frs e2
    exact ⟨by rw [dz.length]; exact sz_ok hl, fun p np => fin_list x1.le dz (k_fin x1 q) np⟩
  · cases e
theorem ee_lst {f : Rho → Option (Rs (List Ar))} (h : AE X W es f) : EE X W (.List es pos) (eLst f) := (pe_lst h).lv fun σ H Q ⟨M, ρ, F, r, g, e, q⟩ => by
  rcases bnd_some e with ⟨as, ρ1, e1, e⟩ | ⟨c, ρ', e1, rfl⟩
  · obtain ⟨ts, e2, e⟩ := Option.bind_eq_some_iff.mp e
    split at e
    · next hl =>
      cases e
      refine ⟨M, ρ, F, _, g, e1, fun M1 H1 vs R1 F1 S1 g1 r1 d1 => ?_⟩
      have rl := r1.rpl e2
      refine ⟨by rw [rl.length]; exact sz_ok hl, fun p np => ?_⟩
      have x := Ext.new (o := .lst vs) g1.le np
      have mp : M1 p = none := Same.out g1.le np
      have nR : ¬ R1 p := fun z => by obtain ⟨_, o, eo⟩ := rl.own p z; rw [np] at eo; cases eo
      have nF : ¬ Al F1 p := fun z => by obtain ⟨_, o, eo⟩ := g1.own p z; rw [np] at eo; cases eo
      refine q M1 (upd H1 p (.lst vs)) (.ref p) (fun b => b = p ∨ R1 b) F1 (S1.trans (x.stp fun a z => ?_)) (g1.ext x) (.lst upd_same mp (rl.keep (x.kp rl.own)) nR) fun a z y => ?_
      · rcases z with (z | z) | z
        · subst z; exact .inr np
        · exact .inl (.inl z)
        · exact .inl (.inr z)
      · rcases z with z | z
        · subst z; exact nF y
        · exact d1 a z y
    · cases e
  · exact ⟨M, ρ, F, _, g, e1, q⟩
theorem ee_tup {f : Rho → Option (Rs (List Ar))} (h : AE X W es f) : EE X W (.Tuple es k pos) (eTup f) := (pe_tup h).lv fun σ H Q ⟨M, ρ, F, r, g, e, q⟩ => by
  rcases bnd_some e with ⟨as, ρ1, e1, e⟩ | ⟨c, ρ', e1, rfl⟩
  · obtain ⟨ts, e2, e⟩ := Option.bind_eq_some_iff.mp e
    obtain ⟨ds, e3, e⟩ := Option.bind_eq_some_iff.mp e
    split at e
    · next hl =>
      cases e
      refine ⟨M, ρ, F, _, g, e1, fun M1 H1 vs R1 F1 S1 g1 r1 d1 => ?_⟩
      have rl := r1.rpl e2
      have dz := rl.freeze e3
      refine ⟨by rw [dz.length]; exact sz_ok hl, fun p np => ?_⟩
      have mm : L2.Same M1 (frz M1 H1 R1) := frz_same fun a q => (rl.own a q).1
      have le1 : L2.Same (frz M1 H1 R1) H1 := frz_le g1.le
      have S2 : Stp M H (Al F) (frz M1 H1 R1) H1 (Al F1) := ⟨S1.m.trans mm, S1.h, fun a h1 h2 => by
        by_cases z : R1 a
        · exact S1.p a (.inl z)
        · rw [frz_out z] at h2; exact S1.n a h1 h2, fun a z => S1.p a (.inr z)⟩
      have g2 : Good X.K (frz M1 H1 R1) H1 σ ρ1 F1 := g1.keep ⟨mm, fun _ _ _ e => e, fun a q e => by rw [frz_out fun z => d1 a z q]; exact e⟩ le1
      have x := Ext.newM (o := .tup vs) le1 np
      exact q _ _ (.ref p) (fun _ => False) F1 (S2.trans (x.stp fun a z => z.elim False.elim .inl)) (g2.ext x) (.fr (.tup (.of upd_same) (dz.mono x.m))) fun a z => z.elim
    · cases e
  · exact ⟨M, ρ, F, _, g, e1, q⟩
/-! ### isinstance -/
def typD : D → String
  | .none => "NoneType"
  | .bool _ => "bool"
  | .int _ => "int"
  | .str _ => "str"
  | .list _ => "list"
  | .tuple _ => "tuple"
  | .dict _ => "dict"
def typT : T → Option String
  | .fr d => some (typD d)
  | .lst _ => some "list"
  | .dk _ => some "dict"
  | .obj _ _ => none
  | .dkl _ => none
def isaB (a b : String) : Bool := a == b || (a == "bool" && b == "int")
def kIsi (n : String) (f : Rho → Option T) : Rho → Option T := fun ρ => (f ρ).bind fun t => (typT t).map fun s => .fr (.bool (isaB s n))
theorem ty_of {K : PySem.W.Frag} {M H : Hp} {t : T} {v : V} {R : Fp} {s : String} (m : L2.Same M H) (r : Rp K M H t v R) (e : typT t = some s) : TyX K H v (.type s) := by
  cases r with
  | fr h =>
    cases h with
    | non => cases e; exact .base .non
    | bl b => cases e; exact .base (.bl b)
    | int b => cases e; exact .base (.int b)
    | str b => cases e; exact .base (.str b)
    | lst h1 h2 =>
      cases e
      rcases h1 with (h | ⟨o, h⟩) | ⟨o, its, n, h, c, _⟩
      · exact .base (.lst (m _ _ h))
      · exact .base (.frz (m _ _ h))
      · exact .kList h c
    | tup h1 h2 =>
      cases e
      rcases h1 with (h | ⟨o, h⟩) | ⟨o, its, n, h, c, _⟩
      · exact .base (.tup (m _ _ h))
      · exact .fTuple (m _ _ h)
      · exact .kTuple h c
    | dk h1 h2 => cases e; exact .base (.dK (m _ _ h1))
  | lst h1 => cases e; exact .base (.lst h1)
  | dk h1 => cases e; exact .base (.dK h1)
  | obj => cases e
  | dkl => cases e
theorem kit_all : ∀ a ∈ ["NoneType", "bool", "int", "str", "list", "tuple", "dict"], ∀ b ∈ ["bool", "int", "str", "list", "tuple", "dict"], kitB a b = some (isaB a b) := by decide +kernel
theorem typ_mem {t : T} {s : String} (e : typT t = some s) : s ∈ ["NoneType", "bool", "int", "str", "list", "tuple", "dict"] := by
  cases t with
  | fr d => cases d <;> (cases e; simp [typD])
  | lst => cases e; simp
  | dk => cases e; simp
  | obj => cases e
  | dkl => cases e
theorem ek_isi {p : Pos} {n : String} {f : Rho → Option T} (hg : Gl X "isinstance") (hm : X.mg "isinstance" = none) (hc : PE X b (tC (.ty n))) (hn : n ∈ ["bool", "int", "str", "list", "tuple", "dict"]) (ha : EK X a f)
    (hs : starEach [b] X.env = (false, eval b X.env) :: starEach [] X.env := by rfl) (he : starEach [a, b] X.env = (false, eval a X.env) :: starEach [b] X.env := by rfl) (hpl : (backTo pos (starEach [b] X.env)).any (·.1) = false := by rfl) :
    EK X (.Call (.Name "isinstance" p) [a, b] [] pos) (kIsi n f) := (pe_callB call_isi hg hm (by decide +kernel) (pa_cons ha (pa_cons hc pa_nil hs) he) (by decide) (by decide) he hpl).lv fun σ H Q ⟨M, ρ, F, t, g, e, q⟩ => by
  obtain ⟨u, e1, e⟩ := Option.bind_eq_some_iff.mp e
  obtain ⟨s, e2, e⟩ := Option.map_eq_some_iff.mp e
  subst e
  refine ⟨M, ρ, F, u, g, e1, fun M1 H1 v R x1 r1 => ?_⟩
  exact ⟨v, .ty n, .type s, .type n, isaB s n, rfl, .ty n, ty_of x1.le r1 e2, kit_ty (kit_all s (typ_mem e2) n hn), fin_bl x1.le (k_fin x1 q)⟩
/-! ### slices -/
def cutL {α : Type} (xs : List α) (lo hi : Option Int) : List α := (xs.drop (HT.sIx xs.length 0 lo)).take (HT.sIx xs.length xs.length hi - HT.sIx xs.length 0 lo)
def opSl (lo hi : Option Int) : T → Option T
  | .fr (.tuple ds) => some (.fr (.tuple (cutL ds lo hi)))
  | .fr (.str z) => if z.length ≤ SZ then some (.fr (.str (cutS z lo hi))) else none
  | t => (T.asL t).map fun ds => .lst ((cutL ds lo hi).map .fr)
def kPart (f : Rho → Option T) : Rho → Option (Option Int) := fun ρ => match f ρ with
  | some (.fr (.int i)) => some (some i)
  | _ => none
def kNoPart : Rho → Option (Option Int) := fun _ => some none
def kSl (f : Rho → Option T) (lo hi : Rho → Option (Option Int)) : Rho → Option T := fun ρ => (f ρ).bind fun t => (lo ρ).bind fun l => (hi ρ).bind fun h => opSl l h t
def eSl (f : Rho → Option (Rs T)) (lo hi : Rho → Option (Option Int)) : Rho → Option (Rs T) := fun ρ => bnd (f ρ) fun t ρ1 => (lo ρ1).bind fun l => (hi ρ1).bind fun h => (opSl l h t).map fun u => .ok u ρ1
def tKP (K : PySem.W.Frag) (f : Rho → Option (Option Int)) : L2.St → Hp → (Option Int → Hp → Prop) → Prop := fun σ H Q => ∃ M ρ F o, Good K M H σ ρ F ∧ f ρ = some o ∧ ∀ M' H', Ext M H M' H' → Q o H'
abbrev KP (X : Cx) (e : Option Expr) (f : Rho → Option (Option Int)) : Prop := PO X e (tKP X.K f)
theorem kp_none : KP X none kNoPart := ⟨fun pins s σ H Q I ⟨M, ρ, F, o, g, e, q⟩ => by cases e; exact po_none.run pins s σ H Q I (q M H (.refl g.le))⟩
theorem kp_some {f : Rho → Option T} (h : EK X e f) : KP X (some e) (kPart f) := ⟨fun pins s σ H Q I ⟨M, ρ, F, o, g, e, q⟩ => (po_some h).run pins s σ H Q I (by
  unfold kPart at e
  split at e
  · next i e1 =>
    cases e
    exact ⟨M, ρ, F, _, g, e1, fun M1 H1 v R x1 r1 => ⟨i, r1.fr_inv.1.int_inv, q M1 H1 x1⟩⟩
  · cases e)⟩
def rSl (K : PySem.W.Frag) : V → Option Int → Option Int → Hp → VK → Prop := fun x lo hi H Q => ∃ M t R u, L2.Same M H ∧ Rp K M H t x R ∧ opSl lo hi t = some u ∧ rFin K M H u Q
theorem DzL.cut {K : PySem.W.Frag} {M : Hp} {xs : List V} {ds : List D} (h : DzL K M xs ds) (lo hi : Option Int) : DzL K M (cutV xs lo hi) (cutL ds lo hi) := by
  unfold cutV cutL
  rw [h.length]
  exact (h.drop _).take _
theorem sl_A : SlR X (rSl X.K) := by
  intro pins s σ H x v vl vu lo hi sl Q I rx hs pl pu ⟨M, t, R, u, m, r, e, q⟩
  unfold opSl at e
  split at e
  · cases e
    obtain ⟨a, xs, rfl, h1, h2⟩ := r.fr_inv.1.tup_inv
    refine sl_tupA pins s σ H _ v vl vu lo hi sl Q I rx hs pl pu ⟨a, xs, rfl, Same.tup m h1, fun w => ?_, fun w p np => fin_tup m (h2.cut lo hi) q np⟩
    have e2 : cutV xs lo hi = xs := by unfold cutV; rw [w.1, w.2]; simp
    have h3 := h2.cut lo hi
    rw [e2] at h3
    exact fin_dz m (.tup h1 h3) q
  · split at e
    · next hl =>
      cases e
      obtain rfl := r.fr_inv.1.str_inv
      exact sl_str pins s σ H _ v vl vu lo hi sl Q I rx hs pl pu ⟨_, rfl, sz_ok hl, fin_str m q⟩
    · cases e
  · obtain ⟨ds, e1, e2⟩ := Option.map_eq_some_iff.mp e
    subst e2
    obtain ⟨a, xs, rfl, h1, h2⟩ := r.asL_inv m e1
    exact sl_list pins s σ H _ v vl vu lo hi sl Q I rx hs pl pu ⟨a, xs, rfl, h1, fun p np => fin_list m (h2.cut lo hi) q np⟩
theorem ek_sl {f : Rho → Option T} {lo hi : Option Expr} {l h : Rho → Option (Option Int)} {p2 : Pos} (he : EK X e f) (hl : KP X lo l) (hh : KP X hi h) : EK X (.Subscript e (.Slice lo hi none p2) pos) (kSl f l h) := (pe_slice sl_A he hl hh).lv fun σ H Q ⟨M, ρ, F, t, g, e, q⟩ => by
  obtain ⟨u, e1, e⟩ := Option.bind_eq_some_iff.mp e
  obtain ⟨l', e2, e⟩ := Option.bind_eq_some_iff.mp e
  obtain ⟨h', e3, e⟩ := Option.bind_eq_some_iff.mp e
  exact ⟨M, ρ, F, u, g, e1, fun M1 H1 v R x1 r1 => ⟨M1, ρ, F, l', g.ext x1, e2, fun M2 H2 x2 => ⟨M2, ρ, F, h', g.ext (x1.trans x2), e3, fun M3 H3 x3 => ⟨M3, u, R, t, x3.le, r1.ext (x2.trans x3), e, k_fin ((x1.trans x2).trans x3) q⟩⟩⟩⟩
theorem ee_sl {f : Rho → Option (Rs T)} {lo hi : Option Expr} {l h : Rho → Option (Option Int)} {p2 : Pos} (he : EE X W e f) (hl : KP X lo l) (hh : KP X hi h) : EE X W (.Subscript e (.Slice lo hi none p2) pos) (eSl f l h) := (pe_slice sl_A he hl hh).lv fun σ H Q ⟨M, ρ, F, r, g, e, q⟩ => by
  rcases bnd_some e with ⟨u, ρ1, e1, e⟩ | ⟨c, ρ', e1, rfl⟩
  · obtain ⟨l', e2, e⟩ := Option.bind_eq_some_iff.mp e
    obtain ⟨h', e3, e⟩ := Option.bind_eq_some_iff.mp e
    obtain ⟨t, e4, e⟩ := Option.map_eq_some_iff.mp e
    subst e
    refine ⟨M, ρ, F, _, g, e1, fun M1 H1 v R F1 S1 g1 r1 d1 => ⟨M1, ρ1, F1, l', g1, e2, fun M2 H2 x2 => ⟨M2, ρ1, F1, h', g1.ext x2, e3, fun M3 H3 x3 => ⟨M3, u, R, t, x3.le, r1.ext (x2.trans x3), e4, fun M4 H4 v4 R4 x4 r4 n4 => ?_⟩⟩⟩⟩
    have x34 := (x2.trans x3).trans x4
    have g3 := g1.ext (x2.trans x3)
    refine q M4 H4 v4 R4 F1 ((S1.sub (fun _ z => z) fun a z => .inr z).trans (x34.stp fun a z => z.elim (fun z => .inr (Same.out (x2.trans x3).h (n4 a z))) .inl)) (g1.ext x34) r4 fun a z z' => ?_
    obtain ⟨_, o, eo'⟩ := g3.own a z'
    rw [n4 a z] at eo'; cases eo'
  · exact ⟨M, ρ, F, _, g, e1, q⟩
/-- xs[::-1] -/
def kRev (f : Rho → Option T) : Rho → Option T := fun ρ => (f ρ).bind fun t => (T.asL t).map fun ds => .lst (ds.reverse.map .fr)
theorem ek_rev {f : Rho → Option T} {j : Nat} {p1 p2 p3 : Pos} (he : EK X e f) : EK X (.Subscript e (.Slice none none (some (.UnaryOp .USub (.Constant (.int 1) j p1) p2)) p3) pos) (kRev f) := (pe_revL he).lv fun σ H Q ⟨M, ρ, F, t, g, e, q⟩ => by
  obtain ⟨u, e1, e⟩ := Option.bind_eq_some_iff.mp e
  obtain ⟨ds, e2, e⟩ := Option.map_eq_some_iff.mp e
  subst e
  refine ⟨M, ρ, F, u, g, e1, fun M1 H1 v R x1 r1 => ?_⟩
  obtain ⟨a, xs, rfl, h1, h2⟩ := r1.asL_inv x1.le e2
  exact ⟨a, xs, rfl, h1, fun p np => fin_list x1.le h2.reverse (k_fin x1 q) np⟩
end
end Lv

set_option maxHeartbeats 1000000
namespace Lv
open PySem PySem.Spec PyProof.Rows L2
/-! ### targets -/
def tG (K : PySem.W.Frag) (as : List Nat) (g : D → Rho → Option Rho) : TG := fun v σ H Q => ∃ M ρ F d ρ', Good K M H σ ρ F ∧ Dz K M v d ∧ g d ρ = some ρ' ∧ ∀ σ' F', Good K M H σ' ρ' F' → (∀ a, Al F' a → Al F a) → (∀ j, j ∉ as → σ'[j]? = σ[j]?) → σ'.length = σ.length → Q σ' H
def tGs (K : PySem.W.Frag) (as : List Nat) (g : List D → Rho → Option Rho) : TGs := fun vs σ H Q => ∃ M ρ F ds ρ', Good K M H σ ρ F ∧ DzL K M vs ds ∧ g ds ρ = some ρ' ∧ ∀ σ' F', Good K M H σ' ρ' F' → (∀ a, Al F' a → Al F a) → (∀ j, j ∉ as → σ'[j]? = σ[j]?) → σ'.length = σ.length → Q σ' H
abbrev EG (X : Cx) (as : List Nat) (e : Expr) (g : D → Rho → Option Rho) : Prop := PG X e (tG X.K as g)
abbrev EGs (X : Cx) (as : List Nat) (e : List Expr) (g : List D → Rho → Option Rho) : Prop := PGs X e (tGs X.K as g)
theorem _root_.L2.PG.lv {X : Cx} {e : Expr} {t t' : TG} (h : PG X e t) (i : ∀ v σ H Q, t' v σ H Q → t v σ H Q) : PG X e t' := ⟨fun pins s σ H v u Q I r w => h.run pins s σ H v u Q I r (i v σ H Q w)⟩
theorem _root_.L2.PGs.lv {X : Cx} {e : List Expr} {t t' : TGs} (h : PGs X e t) (i : ∀ v σ H Q, t' v σ H Q → t v σ H Q) : PGs X e t' := ⟨fun pins s σ H v u Q I r w => h.run pins s σ H v u Q I r (i v σ H Q w)⟩
def gN (i : Nat) : D → Rho → Option Rho := fun d ρ => if i < ρ.length then some (ρ.set i (some (.fr d))) else none
def gNl : List D → Rho → Option Rho := fun ds ρ => match ds with
  | [] => some ρ
  | _ => none
def gCs (g : D → Rho → Option Rho) (gs : List D → Rho → Option Rho) : List D → Rho → Option Rho := fun ds ρ => match ds with
  | d :: r => (g d ρ).bind fun ρ1 => gs r ρ1
  | _ => none
def gTp (n : Nat) (gs : List D → Rho → Option Rho) : D → Rho → Option Rho := fun d ρ => match d with
  | .tuple ds => if ds.length = n then gs ds ρ else none
  | _ => none
section
variable {X : Cx} {W : WS} {e : Expr} {es : List Expr} {pos : Pos} {k : Nat}
theorem eg_name {i : Nat} {x : Str} (h : PG X (.Name x pos) (gName i)) : EG X [i] (.Name x pos) (gN i) := h.lv fun v σ H Q ⟨M, ρ, F, d, ρ', g, dz, e, q⟩ => by
  unfold gN at e
  split at e
  · next hi =>
    cases e
    refine q (σ.set i (some v)) _ (g.put (by rw [← g.len]; exact hi) (.fr dz) fun a z => z.elim) (fun a ⟨j, z⟩ => ?_) (fun j hj => ?_) (by simp)
    · by_cases y : j = i
      · simp [y] at z
      · simp only [y, if_false] at z; exact ⟨j, z⟩
    · rw [List.getElem?_set_ne (fun z => hj (by simp [z]))]
  · cases e
theorem egs_nil {as : List Nat} : EGs X as [] gNl := pgs_nil.lv fun v σ H Q ⟨M, ρ, F, d, ρ', g, dz, e, q⟩ => by
  unfold gNl at e
  split at e
  · cases e
    cases dz
    exact ⟨rfl, q σ F g (fun _ z => z) (fun _ _ => rfl) rfl⟩
  · cases e
theorem egs_cons {as bs : List Nat} {g : D → Rho → Option Rho} {gs : List D → Rho → Option Rho} (h1 : EG X as e g) (h2 : EGs X bs es gs) (hs : (assignEach (e :: es) X.env).map (·.2) = assign e X.env :: (assignEach es X.env).map (·.2) := by rfl) : EGs X (as ++ bs) (e :: es) (gCs g gs) := (pgs_cons h1 h2 hs).lv fun v σ H Q ⟨M, ρ, F, d, ρ', g, dz, e, q⟩ => by
  unfold gCs at e
  split at e
  · next d r =>
    obtain ⟨ρ1, e1, e2⟩ := Option.bind_eq_some_iff.mp e
    cases dz with
    | cons h t =>
      refine ⟨_, _, rfl, M, ρ, F, d, ρ1, g, h, e1, fun σ1 F1 g1 s1 k1 l1 => ⟨M, ρ1, F1, r, ρ', g1, t, e2, fun σ2 F2 g2 s2 k2 l2 => q σ2 F2 g2 (fun a z => s1 a (s2 a z)) (fun j hj => ?_) (l2.trans l1)⟩⟩
      rw [k2 j (fun z => hj (List.mem_append_right _ z)), k1 j (fun z => hj (List.mem_append_left _ z))]
  · cases e
theorem eg_tup {as : List Nat} {gs : List D → Rho → Option Rho} {n : Nat} (hc : X.calm = true) (h : EGs X as es gs) (hn : (assignEach es X.env).length = n := by rfl) (hst : (assignEach es X.env).findIdx? (·.1) = none := by rfl) : EG X as (.Tuple es k pos) (gTp n gs) := (pg_tup hc h hn hst).lv fun v σ H Q ⟨M, ρ, F, d, ρ', g, dz, e, q⟩ => by
  unfold gTp at e
  split at e
  · next ds =>
    split at e
    · next hl =>
      obtain ⟨a, xs, rfl, h1, h2⟩ := dz.tup_inv
      exact ⟨a, xs, rfl, Same.tup g.le h1, by rw [h2.length]; exact hl, M, ρ, F, ds, ρ', g, h2, e, q⟩
    · cases e
  · cases e
/-! ### what is walked -/
def Its (K : PySem.W.Frag) (M : Hp) (J : It) (ds : List D) : Prop := ∀ M2 H2, L2.Same M M2 → L2.Same M2 H2 → ∀ i, (i < ds.length → J.go i H2) ∧ (ds.length ≤ i → J.stop i H2) ∧ ∀ x H3 d, ds[i]? = some d → J.yld i H2 x H3 → ∃ M3, Ext M2 H2 M3 H3 ∧ Dz K M3 x d
def tI (K : PySem.W.Frag) (W : WS) (f : Rho → Option (Rs (List D))) : TI := fun σ H R => ∃ M ρ F r, Good K M H σ ρ F ∧ f ρ = some r ∧ match r with
  | .ok ds ρ' => ∀ M' H' F' J, Stp M H (Al F) M' H' (Al F') → Good K M' H' σ ρ' F' → Its K M' J ds → ds.length ≤ SZ → R J H'
  | .ex c ρ' => wEx K W M H F σ c ρ'
abbrev EI (X : Cx) (W : WS) (tg e : Expr) (f : Rho → Option (Rs (List D))) : Prop := PI X tg e (tI X.K W f)
theorem _root_.L2.PI.lv {X : Cx} {tg e : Expr} {t t' : TI} (h : PI X tg e t) (i : ∀ σ H Q, t' σ H Q → t σ H Q) : PI X tg e t' := ⟨fun pins s σ H R I w => h.run pins s σ H R I (i σ H R w)⟩
variable {tg : Expr}
def iSeq (K : PySem.W.Frag) (tl : TE) : TI := fun σ H R => tl σ H fun x H1 => ∃ a xs, x = .ref a ∧ ((SqL K H1 a xs ∧ (xs.length ≤ SZ → R (Itl K a) H1)) ∨ (SqT K H1 a xs ∧ (xs.length ≤ SZ → R (Itt K a) H1)))
theorem pi_seq {l : Expr} {tl : TE} (hl : PE X l tl) : PI X tg l (iSeq X.K tl) := by
  refine ⟨fun pins s σ H R I h => ?_⟩
  refine thn (hl.run pins s σ H _ I h) fun v s1 ⟨x, H1, I1, r1, q1⟩ => ?_
  obtain ⟨a, xs, e, q⟩ := q1
  subst e
  cases r1
  rcases q with ⟨hq, q⟩ | ⟨hq, q⟩
  · obtain ⟨its, rv, p, hz⟩ := I1.list hq
    refine wpAny_pyIter_list p.isList ?_
    refine ⟨s1.heap.objs.size, [s1.heap.objs.size], _, _, H1, rfl, I1.kept (t' := s1.toks) fun b o e => Heap.get?_push_of_some _ e, turn_list a _, ⟨_, Heap.get?_push_size _ rfl, rfl, rfl⟩, fun b hb => ?_, q (by rw [sizeLine_eq] at hz; exact hz)⟩
    have e : b = s1.heap.objs.size := by simpa using hb
    subst e
    exact I1.fpOk (Nat.le_refl _) (I1.hok.fresh (Nat.le_refl _))
  · obtain ⟨its, rv, p, hz⟩ := I1.tuple hq
    refine wpAny_pyIter_tuple (show s1.heap.IsTuple a its.toArray from p) ?_
    refine ⟨s1.heap.objs.size, [s1.heap.objs.size], _, _, H1, rfl, I1.kept (t' := s1.toks) fun b o e => Heap.get?_push_of_some _ e, turn_tuple a _, ⟨_, Heap.get?_push_size _ rfl, rfl, rfl⟩, fun b hb => ?_, q (by rw [sizeLine_eq] at hz; exact hz)⟩
    have e : b = s1.heap.objs.size := by simpa using hb
    subst e
    exact I1.fpOk (Nat.le_refl _) (I1.hok.fresh (Nat.le_refl _))
theorem its_list {K : PySem.W.Frag} {M : Hp} {a : Addr} {xs : List V} {ds : List D} (h : SqL K M a xs) (dz : DzL K M xs ds) : Its K M (Itl K a) ds := fun M2 H2 m le i => by
  have h2 : SqL K H2 a xs := (m.trans le).seq h
  refine ⟨fun hi => ?_, fun hi => ⟨xs, h2, by rw [dz.length]; exact hi⟩, fun x H3 d e y => ?_⟩
  · obtain ⟨v, e, _⟩ := dz.get (List.getElem?_eq_getElem hi)
    exact ⟨xs, v, h2, e⟩
  · obtain ⟨rfl, y⟩ := y
    obtain ⟨v, e2, z⟩ := dz.get e
    have := y xs h2
    rw [e2] at this; cases this
    exact ⟨M2, .refl le, z.mono m⟩
theorem its_tup {K : PySem.W.Frag} {M : Hp} {a : Addr} {xs : List V} {ds : List D} (h : SqT K M a xs) (dz : DzL K M xs ds) : Its K M (Itt K a) ds := fun M2 H2 m le i => by
  have h2 : SqT K H2 a xs := Same.tup (m.trans le) h
  refine ⟨fun hi => ?_, fun hi => ⟨xs, h2, by rw [dz.length]; exact hi⟩, fun x H3 d e y => ?_⟩
  · obtain ⟨v, e, _⟩ := dz.get (List.getElem?_eq_getElem hi)
    exact ⟨xs, v, h2, e⟩
  · obtain ⟨rfl, y⟩ := y
    obtain ⟨v, e2, z⟩ := dz.get e
    have := y xs h2
    rw [e2] at this; cases this
    exact ⟨M2, .refl le, z.mono m⟩
def itemsD : D → Option (List D)
  | .list ds => some ds
  | .tuple ds => some ds
  | _ => none
/-- over a list or a tuple (what is new is frozen) -/
def iIt (f : Rho → Option (Rs T)) : Rho → Option (Rs (List D)) := fun ρ => bnd (f ρ) fun t ρ1 => (T.dat t).bind fun d => (itemsD d).map fun ds => .ok ds ρ1
theorem ei_seq {f : Rho → Option (Rs T)} (h : EE X W e f) : EI X W tg e (iIt f) := (pi_seq h).lv fun σ H Q ⟨M, ρ, F, r, g, e, q⟩ => by
  rcases bnd_some e with ⟨t, ρ1, e1, e⟩ | ⟨c, ρ', e1, rfl⟩
  · obtain ⟨d, e2, e⟩ := Option.bind_eq_some_iff.mp e
    obtain ⟨ds, e3, e⟩ := Option.map_eq_some_iff.mp e
    subst e
    refine ⟨M, ρ, F, _, g, e1, fun M1 H1 v R1 F1 S1 g1 r1 d1 => ?_⟩
    obtain ⟨S2, le2, kp⟩ := S1.frz r1 d1 g1.le
    have dz := r1.freeze e2
    have g2 := g1.keep kp le2
    unfold itemsD at e3
    split at e3
    · cases e3
      obtain ⟨a, xs, rfl, h1, h2⟩ := dz.list_inv
      exact ⟨a, xs, rfl, .inl ⟨le2.seq h1, fun hl => q _ H1 F1 _ S2 g2 (its_list h1 h2) (by rw [← h2.length]; exact hl)⟩⟩
    · cases e3
      obtain ⟨a, xs, rfl, h1, h2⟩ := dz.tup_inv
      exact ⟨a, xs, rfl, .inr ⟨Same.tup le2 h1, fun hl => q _ H1 F1 _ S2 g2 (its_tup h1 h2) (by rw [← h2.length]; exact hl)⟩⟩
    · cases e3
  · exact ⟨M, ρ, F, _, g, e1, q⟩
/-! range -/
def rngD (lo : Int) (n : Nat) : List D := (List.range n).map fun i => .int (lo + (i : Nat))
def iRange1 (f : Rho → Option (Rs (List Ar))) : Rho → Option (Rs (List D)) := fun ρ => bnd (f ρ) fun as ρ1 => match as with
  | [.own (.fr (.int j))] => if j ≤ 16777216 ∧ -16777216 ≤ j then some (.ok (rngD 0 j.toNat) ρ1) else none
  | _ => none
def iRange2 (f : Rho → Option (Rs (List Ar))) : Rho → Option (Rs (List D)) := fun ρ => bnd (f ρ) fun as ρ1 => match as with
  | [.own (.fr (.int i)), .own (.fr (.int j))] => if -4000000000000000000 ≤ i ∧ i ≤ 4000000000000000000 ∧ -4000000000000000000 ≤ j ∧ j ≤ 4000000000000000000 ∧ j - i ≤ 16777216 then some (.ok (rngD i (j - i).toNat) ρ1) else none
  | _ => none
theorem its_range {K : PySem.W.Frag} {M : Hp} {lo : Int} {n : Nat} : Its K M (Itr lo n) (rngD lo n) := fun M2 H2 m le i => by
  have hl : (rngD lo n).length = n := by simp [rngD]
  refine ⟨fun hi => by rw [hl] at hi; exact hi, fun hi => by rw [hl] at hi; exact hi, fun x H3 d e y => ?_⟩
  obtain ⟨rfl, rfl⟩ := y
  refine ⟨M2, .refl le, ?_⟩
  unfold rngD at e
  rw [List.getElem?_map] at e
  obtain ⟨j, e1, e2⟩ := Option.map_eq_some_iff.mp e
  rw [List.getElem?_range] at e1
  · cases e1; subst e2; exact .int _
  · have := (List.getElem?_eq_some_iff.mp e1).1
    simpa using this
theorem ArL.own1 {K : PySem.W.Frag} {M H : Hp} {σ : L2.St} {t : T} {vs : List V} {R : Fp} (h : ArL K M H σ [.own t] vs R) : ∃ v R', vs = [v] ∧ Rp K M H t v R' := by
  cases h with | own h t => cases t; exact ⟨_, _, rfl, h⟩
theorem ArL.own2 {K : PySem.W.Frag} {M H : Hp} {σ : L2.St} {t u : T} {vs : List V} {R : Fp} (h : ArL K M H σ [.own t, .own u] vs R) : ∃ v w R' R2, vs = [v, w] ∧ Rp K M H t v R' ∧ Rp K M H u w R2 := by
  cases h with | own h t => cases t with | own h2 t => cases t; exact ⟨_, _, _, _, rfl, h, h2⟩
theorem ei_range1 {a : Expr} {f : Rho → Option (Rs (List Ar))} {p : Pos} (hg : Gl X "range") (hm : X.mg "range" = none) (ha : AE X W [a] f) (hs : starEach [a] X.env = [(false, eval a X.env)] := by rfl) : EI X W tg (.Call (.Name "range" p) [a] [] pos) (iRange1 f) := (pi_range1 hg hm ha hs).lv fun σ H Q ⟨M, ρ, F, r, g, e, q⟩ => by
  rcases bnd_some e with ⟨as, ρ1, e1, e⟩ | ⟨c, ρ', e1, rfl⟩
  · split at e
    · next j =>
      split at e
      · next hj =>
        cases e
        refine ⟨M, ρ, F, _, g, e1, fun M1 H1 vs R1 F1 S1 g1 r1 d1 => ?_⟩
        obtain ⟨v, R', rfl, rp⟩ := r1.own1
        obtain rfl := rp.fr_inv.1.int_inv
        exact ⟨j, rfl, by omega, by omega, q M1 H1 F1 _ (S1.sub (fun _ z => z) fun a z => .inr z) g1 its_range (by simp [rngD]; omega)⟩
      · cases e
    · cases e
  · exact ⟨M, ρ, F, _, g, e1, q⟩
theorem ei_range2 {a b : Expr} {f : Rho → Option (Rs (List Ar))} {p : Pos} (hg : Gl X "range") (hm : X.mg "range" = none) (ha : AE X W [a, b] f) (hs : starEach [a, b] X.env = [(false, eval a X.env), (false, eval b X.env)] := by rfl) (hs2 : starEach [b] X.env = [(false, eval b X.env)] := by rfl) :
    EI X W tg (.Call (.Name "range" p) [a, b] [] pos) (iRange2 f) := (pi_range2 hg hm ha hs hs2).lv fun σ H Q ⟨M, ρ, F, r, g, e, q⟩ => by
  rcases bnd_some e with ⟨as, ρ1, e1, e⟩ | ⟨c, ρ', e1, rfl⟩
  · split at e
    · next i j =>
      split at e
      · next hj =>
        cases e
        refine ⟨M, ρ, F, _, g, e1, fun M1 H1 vs R1 F1 S1 g1 r1 d1 => ?_⟩
        obtain ⟨v, w, R', R2, rfl, rp, rp2⟩ := r1.own2
        obtain rfl := rp.fr_inv.1.int_inv
        obtain rfl := rp2.fr_inv.1.int_inv
        exact ⟨i, j, rfl, ⟨by omega, by omega, by omega, by omega⟩, q M1 H1 F1 _ (S1.sub (fun _ z => z) fun a z => .inr z) g1 its_range (by simp [rngD]; omega)⟩
      · cases e
    · cases e
  · exact ⟨M, ρ, F, _, g, e1, q⟩
/-! ### comprehensions -/
def wipeR (ρ : Rho) : List Nat → Rho
  | [] => ρ
  | v :: vs => (wipeR ρ vs).set v none
/-- the block's own slots as they were ahead, if frozen -/
def backR (ρ0 ρ : Rho) : List Nat → Rho
  | [] => ρ
  | v :: vs => (backR ρ0 ρ vs).set v (match ρ0[v]? with
    | some (some (.fr d)) => some (.fr d)
    | _ => none)
def cLoop (own : List Nat) (g : D → Rho → Option Rho) (fc : Rho → Option (Rs Bool)) (fe : Rho → Option (Rs T)) : List D → Rho → Option (List T × Rho)
  | [], ρ => some ([], ρ)
  | d :: ds, ρ => match g d ρ with
    | some ρ1 => (match fc ρ1 with
      | some (.ok true ρ2) => (match fe ρ2 with
        | some (.ok t ρ3) => (match cLoop own g fc fe ds (wipeR ρ3 own) with
          | some (ts, ρ4) => some (t :: ts, ρ4)
          | none => none)
        | _ => none)
      | some (.ok false ρ2) => cLoop own g fc fe ds (wipeR ρ2 own)
      | _ => none)
    | none => none
def eLc (own : List Nat) (fi : Rho → Option (Rs (List D))) (g : D → Rho → Option Rho) (fc : Rho → Option (Rs Bool)) (fe : Rho → Option (Rs T)) : Rho → Option (Rs T) := fun ρ => bnd (fi ρ) fun ds ρ1 => (cLoop own g fc fe ds (wipeR ρ1 own)).map fun q => .ok (.lst q.1) (backR ρ1 q.2 own)
end
section
variable {K : PySem.W.Frag} {M H : Hp} {σ : L2.St} {ρ : Rho} {F : Nat → Fp}
theorem Good.forget (g : Good K M H σ ρ F) (i : Nat) : ∃ F', Good K M H (σ.set i none) (ρ.set i none) F' ∧ ∀ a, Al F' a → Al F a := by
  refine ⟨fun j a => j ≠ i ∧ F j a, ⟨g.le, by simpa using g.len, fun j t e => ?_, (g.drop i).em, (g.drop i).dj⟩, fun a ⟨j, _, z⟩ => ⟨j, z⟩⟩
  by_cases z : j = i
  · subst z
    rw [List.getElem?_set] at e
    split at e
    · split at e <;> simp at e
    · simp at *
  · obtain ⟨v, h1, r⟩ := (g.drop i).sl j t e
    exact ⟨v, by rw [List.getElem?_set_ne (Ne.symm z)]; exact h1, r⟩
theorem Good.wipe (g : Good K M H σ ρ F) : ∀ vs : List Nat, ∃ F', Good K M H (L2.wipe σ vs) (wipeR ρ vs) F' ∧ ∀ a, Al F' a → Al F a
  | [] => ⟨F, g, fun _ z => z⟩
  | v :: vs => by
    obtain ⟨F1, g1, s1⟩ := g.wipe vs
    obtain ⟨F2, g2, s2⟩ := g1.forget v
    exact ⟨F2, g2, fun a z => s1 a (s2 a z)⟩
theorem wipe_get {vs : List Nat} {j : Nat} (h : j ∉ vs) : (L2.wipe σ vs)[j]? = σ[j]? := by
  induction vs with
  | nil => rfl
  | cons v vs ih =>
    simp only [List.mem_cons, not_or] at h
    show ((L2.wipe σ vs).set v none)[j]? = _
    rw [List.getElem?_set_ne (Ne.symm h.1), ih h.2]
theorem backR_get {ρ0 : Rho} {vs : List Nat} {j : Nat} (h : j ∉ vs) : (backR ρ0 ρ vs)[j]? = ρ[j]? := by
  induction vs with
  | nil => rfl
  | cons v vs ih =>
    simp only [List.mem_cons, not_or] at h
    show ((backR ρ0 ρ vs).set v _)[j]? = _
    rw [List.getElem?_set_ne (Ne.symm h.1), ih h.2]
theorem backR_len {ρ0 : Rho} : ∀ vs : List Nat, (backR ρ0 ρ vs).length = ρ.length
  | [] => rfl
  | v :: vs => by show ((backR ρ0 ρ vs).set v _).length = _; rw [List.length_set, backR_len vs]
theorem backR_own {ρ0 : Rho} {vs : List Nat} {j : Nat} {t : T} (h : j ∈ vs) (e : (backR ρ0 ρ vs)[j]? = some (some t)) : ∃ d, t = .fr d ∧ ρ0[j]? = some (some (.fr d)) := by
  induction vs with
  | nil => cases h
  | cons v vs ih =>
    have e' : ((backR ρ0 ρ vs).set v (match ρ0[v]? with | some (some (.fr d)) => some (.fr d) | _ => none))[j]? = some (some t) := e
    by_cases z : v = j
    · subst z
      rw [List.getElem?_set] at e'
      simp only [if_true] at e'
      split at e'
      · split at e'
        · next d hd => cases e'; exact ⟨d, rfl, hd⟩
        · cases e'
      · cases e'
    · rw [List.getElem?_set_ne z] at e'
      exact ih ((List.mem_cons.mp h).resolve_left (Ne.symm z)) e'
end
end Lv

set_option maxHeartbeats 2000000
namespace Lv
open PySem PySem.Spec PyProof.Rows L2
section
variable {K : PySem.W.Frag} {M M' H H' M1 H1 : Hp} {σ : L2.St} {ρ : Rho} {F : Nat → Fp} {P P' P1 R : Fp}
theorem wipe_own {vs : List Nat} {j : Nat} (h : j ∈ vs) : (L2.wipe σ vs)[j]? = if j < σ.length then some none else none := by
  induction vs with
  | nil => cases h
  | cons v vs ih =>
    show ((L2.wipe σ vs).set v none)[j]? = _
    have hl := wipe_length σ vs
    by_cases z : v = j
    · subst z
      rw [List.getElem?_set]
      simp [hl]
    · rw [List.getElem?_set_ne z]
      exact ih ((List.mem_cons.mp h).resolve_left (Ne.symm z))
theorem wipe_congr {σ2 : L2.St} {vs : List Nat} (hl : σ2.length = σ.length) (h : ∀ j, j ∉ vs → σ2[j]? = (L2.wipe σ vs)[j]?) : L2.wipe σ2 vs = L2.wipe σ vs := by
  apply List.ext_getElem?
  intro j
  by_cases z : j ∈ vs
  · rw [wipe_own z, wipe_own z, hl]
  · rw [wipe_get z]; exact h j z
theorem RpL.snoc {t : T} {v : V} {R2 : Fp} : ∀ {ts : List T} {vs : List V} {R : Fp}, RpL K M H ts vs R → Rp K M H t v R2 → (∀ a, R a → ¬ R2 a) → ∃ R3, RpL K M H (ts ++ [t]) (vs ++ [v]) R3 ∧ ∀ a, R3 a ↔ R a ∨ R2 a
  | _, _, _, .nil, r, _ => ⟨_, .cons r .nil (fun _ _ => id), fun a => by simp⟩
  | _, _, _, .cons h t d, r, dj => by
    obtain ⟨R3, h3, e⟩ := RpL.snoc t r fun a z => dj a (.inr z)
    refine ⟨_, .cons h h3 fun a z y => ((e a).mp y).elim (d a z) (dj a (.inl z)), fun a => ?_⟩
    rw [e a]
    exact ⟨fun z => z.elim (fun z => .inl (.inl z)) (fun z => z.elim (fun z => .inl (.inr z)) .inr), fun z => z.elim (fun z => z.elim .inl (fun z => .inr (.inl z))) fun z => .inr (.inr z)⟩
theorem Rp.lst_inv {ts : List T} {v : V} (h : Rp K M H (.lst ts) v R) : ∃ a vs R', v = .ref a ∧ H a = some (.lst vs) ∧ M a = none ∧ RpL K M H ts vs R' ∧ ¬ R' a ∧ ∀ b, R b ↔ b = a ∨ R' b := by
  cases h with | lst h1 h2 h3 h4 => exact ⟨_, _, _, rfl, h1, h2, h3, h4, fun _ => Iff.rfl⟩
theorem ds_drop {α : Type} {ds : List α} {i : Nat} (h : i < ds.length) : ds.drop i = ds[i] :: ds.drop (i + 1) := List.drop_eq_getElem_cons h
/-- a list of one's own grows -/
theorem list_grow {a : Addr} {ts : List T} {vs : List V} {t : T} {v : V} {R R2 : Fp} {σ : L2.St} (g : Good K M H σ ρ F) (ha : H a = some (.lst vs)) (ma : M a = none) (rl : RpL K M H ts vs R) (na : ¬ R a) (rt : Rp K M H t v R2) (n2 : ¬ R2 a) (d12 : ∀ b, R b → ¬ R2 b) (nF : ¬ Al F a) :
    ∃ R3, Good K M (upd H a (.lst (vs ++ [v]))) σ ρ F ∧ Rp K M (upd H a (.lst (vs ++ [v]))) (.lst (ts ++ [t])) (.ref a) R3 ∧ (∀ b, R3 b ↔ (b = a ∨ R b) ∨ R2 b) ∧ Stp M H (fun b => b = a) M (upd H a (.lst (vs ++ [v]))) (fun b => b = a) := by
  have keepH : ∀ b o, b ≠ a → H b = some o → upd H a (.lst (vs ++ [v])) b = some o := fun b o n e => by rw [upd_ne n]; exact e
  have le : L2.Same M (upd H a (.lst (vs ++ [v]))) := fun b o e => keepH b o (fun z => by subst z; rw [ma] at e; cases e) (g.le b o e)
  have kp : ∀ {R : Fp}, ¬ R a → Kp M M H (upd H a (.lst (vs ++ [v]))) R := fun {R} n => ⟨L2.Same.refl _, fun b r o e => keepH b o (fun z => n (z ▸ r)) e, fun _ _ e => e⟩
  obtain ⟨R3, h3, e3⟩ := (rl.keep (kp na)).snoc (rt.keep (kp n2)) d12
  refine ⟨_, g.keep (kp nF) le, .lst upd_same ma h3 (fun z => ((e3 a).mp z).elim na n2), fun b => ?_, ⟨L2.Same.refl _, fun b o e n => keepH b o n e, fun b h1 h2 => absurd h1 h2, fun b z => .inl z⟩⟩
  show b = a ∨ R3 b ↔ _
  rw [e3 b]
  exact ⟨fun z => z.elim (fun z => .inl (.inl z)) (fun z => z.elim (fun z => .inl (.inr z)) .inr), fun z => z.elim (fun z => z.elim .inl fun z => .inr (.inl z)) fun z => .inr (.inr z)⟩
abbrev W0 : WS := fun _ _ _ => False
/-- the comprehension's reading -/
theorem te_lc {W : WS} {own as : List Nat} {fi : Rho → Option (Rs (List D))} {gt : D → Rho → Option Rho} {fc : Rho → Option (Rs Bool)} {fe : Rho → Option (Rs T)} (has : ∀ j ∈ as, j ∈ own) (σ : L2.St) (H : Hp) (Q : VK)
    (h : tE K W (eLc own fi gt fc fe) σ H Q) : tLc (tI K W fi) (tG K as gt) (tT K W0 fc) (tE K W0 fe) own σ H Q := by
  obtain ⟨M, ρ, F, r, g, e, q⟩ := h
  rcases bnd_some e with ⟨ds, ρ1, e1, e⟩ | ⟨c, ρ', e1, rfl⟩
  · obtain ⟨⟨tsF, ρe⟩, e2, e⟩ := Option.map_eq_some_iff.mp e
    subst e
    refine ⟨M, ρ, F, _, g, e1, fun M1 H1 F1 J S1 g1 its hl => ?_⟩
    intro D nD
    refine ⟨fun i m H => m + i = ds.length ∧ ∃ Mi ρi Fi ts RD rest, Good K Mi H (L2.wipe σ own) ρi Fi ∧ cLoop own gt fc fe (ds.drop i) ρi = some (rest, ρe) ∧ Rp K Mi H (.lst ts) (.ref D) RD ∧ (∀ a, RD a → ¬ Al Fi a) ∧ tsF = ts ++ rest ∧ ts.length ≤ i ∧
      Stp M1 H1 (Al F1) Mi H (fun a => RD a ∨ Al Fi a), ?_, ?_⟩
    · obtain ⟨F2, g2, s2⟩ := g1.wipe own
      have x := Ext.new (o := .lst []) g1.le nD
      have mD : M1 D = none := Same.out g1.le nD
      refine ⟨ds.length, rfl, M1, _, F2, [], _, tsF, g2.ext x, by simpa using e2, .lst upd_same mD .nil id, fun a z y => ?_, rfl, Nat.zero_le _, x.stp fun a z => ?_⟩
      · rcases z with z | z
        · subst z
          obtain ⟨_, o, eo⟩ := g1.own _ (s2 _ y)
          rw [nD] at eo; cases eo
        · exact z.elim
      · rcases z with (z | z) | z
        · subst z; exact .inr nD
        · exact z.elim
        · exact .inl (s2 a z)
    · rintro i m H ⟨hm, Mi, ρi, Fi, ts, RD, rest, gi, ei, rp, dj, et, hts, Si⟩
      have itsi := its Mi H Si.m gi.le i
      by_cases hi : i < ds.length
      · refine .inr ⟨itsi.1 hi, fun H' => m ≠ 0 ∧ ∃ m', m' + (i + 1) = ds.length ∧ ∃ Mi ρi Fi ts RD rest, Good K Mi H' (L2.wipe σ own) ρi Fi ∧ cLoop own gt fc fe (ds.drop (i + 1)) ρi = some (rest, ρe) ∧ Rp K Mi H' (.lst ts) (.ref D) RD ∧ (∀ a, RD a → ¬ Al Fi a) ∧ tsF = ts ++ rest ∧ ts.length ≤ i + 1 ∧
          Stp M1 H1 (Al F1) Mi H' (fun a => RD a ∨ Al Fi a), fun H' ⟨_, m', h1, h2⟩ => ⟨m', by omega, h1, h2⟩, fun x H' y => ?_⟩
        have hm0 : m ≠ 0 := by omega
        obtain ⟨M3, x3, dz⟩ := itsi.2.2 x H' ds[i] (List.getElem?_eq_getElem hi) y
        rw [ds_drop hi] at ei
        simp only [cLoop] at ei
        split at ei
        · next ρ' eg =>
          refine ⟨M3, ρi, Fi, ds[i], ρ', gi.ext x3, dz, eg, fun σ2 F2 g2 sub ks kl => ?_⟩
          have hlen : σ2.length = σ.length := kl.trans (wipe_length σ own)
          have hw : L2.wipe σ2 own = L2.wipe σ own := wipe_congr hlen fun j hj => ks j fun z => hj (has j z)
          refine ⟨hw, ?_⟩
          have rp3 := rp.ext x3
          have S3 : Stp M1 H1 (Al F1) M3 H' (fun a => RD a ∨ Al Fi a) := Si.trans (x3.stp fun a z => .inl z)
          have dj2 : ∀ a, RD a → ¬ Al F2 a := fun a z y => dj a z (sub a y)
          split at ei
          · next ρ2 ec =>
            refine ⟨M3, ρ', F2, _, g2, ec, fun M4 H4 F4 S4 g4 => ?_⟩
            refine iteT ?_
            have rp4 := rp3.apart S4 dj2
            have own3 := rp3.own
            have dj4 : ∀ a, RD a → ¬ Al F4 a := fun a z y => by
              rcases S4.p a y with w | w
              · exact dj2 a z w
              · obtain ⟨_, o, eo⟩ := own3 a z
                rw [w] at eo; cases eo
            have S4' : Stp M1 H1 (Al F1) M4 H4 (fun a => RD a ∨ Al F4 a) := (S3.sub (fun _ z => z) fun a (z : RD a ∨ Al F2 a) => z.imp_right (sub a)).trans ⟨S4.m, fun a o e n => S4.h a o e fun z => n (.inr z), fun a h1 h2 => (S4.n a h1 h2).imp_left .inr, fun a z => z.elim (fun z => .inl (.inl z)) fun z => (S4.p a z).imp_left .inr⟩
            split at ei
            · next t ρ3 ee =>
              split at ei
              · next ts' ρ4 el =>
                cases ei
                refine ⟨M4, ρ2, F4, _, g4, ee, fun M5 H5 v5 R5 F5 S5 g5 r5 d5 => ?_⟩
                have own4 := rp4.own
                have rp5 := rp4.apart S5 dj4
                have new5 : ∀ a, (R5 a ∨ Al F5 a) → ¬ RD a := fun a z y => by
                  rcases S5.p a z with w | w
                  · exact dj4 a y w
                  · obtain ⟨_, o, eo⟩ := own4 a y
                    rw [w] at eo; cases eo
                obtain ⟨a, vs, R', ea, h1, h2, h3, h4, h5⟩ := rp5.lst_inv
                cases ea
                have hvl := h3.length
                refine ⟨vs, h1, by rw [hvl]; exact Nat.lt_of_lt_of_le (Nat.lt_of_le_of_lt hts hi) (sz_ok hl), hm0, m - 1, by omega, ?_⟩
                obtain ⟨F6, g6, s6⟩ := g5.wipe own
                rw [hw] at g6
                have nF6 : ∀ b, RD b → ¬ Al F6 b := fun b z y => new5 b (.inr (s6 b y)) z
                obtain ⟨R3, g7, rp7, e7, S7⟩ := list_grow g6 h1 h2 h3 h4 r5 (fun z => new5 _ (.inl z) ((h5 _).mpr (.inl rfl))) (fun b z y => new5 b (.inl y) ((h5 b).mpr (.inr z))) (nF6 _ ((h5 _).mpr (.inl rfl)))
                refine ⟨M5, _, F6, ts ++ [t], R3, ts', g7, el, rp7, fun b z y => ?_, by rw [et]; simp, by simpa using hts, ?_⟩
                · rcases (e7 b).mp z with z | z
                  · exact nF6 b ((h5 b).mpr z) y
                  · exact d5 b z (s6 b y)
                · have S5' : Stp M1 H1 (Al F1) M5 H5 (fun a => (RD a ∨ R5 a) ∨ Al F6 a) := S4'.trans ⟨S5.m, fun a o e n => S5.h a o e fun z => n (.inr z), fun a h1 h2 => (S5.n a h1 h2).imp_left .inr, fun a z => by
                    rcases z with (z | z) | z
                    · exact .inl (.inl z)
                    · exact (S5.p a (.inl z)).imp_left .inr
                    · exact (S5.p a (.inr (s6 a z))).imp_left .inr⟩
                  refine S5'.trans ⟨S7.m, fun a o e n => S7.h a o e fun z => n (.inl (.inl (by rw [z]; exact (h5 _).mpr (.inl rfl)))), fun a h1 h2 => absurd h1 h2, fun a z => ?_⟩
                  rcases z with z | z
                  · rcases (e7 a).mp z with z | z
                    · exact .inl (.inl (.inl ((h5 a).mpr z)))
                    · exact .inl (.inl (.inr z))
                  · exact .inl (.inr z)
              · cases ei
            · cases ei
          · next ρ2 ec =>
            refine ⟨M3, ρ', F2, _, g2, ec, fun M4 H4 F4 S4 g4 => ?_⟩
            refine iteF ?_
            have rp4 := rp3.apart S4 dj2
            have own3 := rp3.own
            have dj4 : ∀ a, RD a → ¬ Al F4 a := fun a z y => by
              rcases S4.p a y with w | w
              · exact dj2 a z w
              · obtain ⟨_, o, eo⟩ := own3 a z
                rw [w] at eo; cases eo
            obtain ⟨F6, g6, s6⟩ := g4.wipe own
            rw [hw] at g6
            refine ⟨hm0, m - 1, by omega, M4, _, F6, ts, RD, rest, g6, ei, rp4, fun a z y => dj4 a z (s6 a y), et, by omega, ?_⟩
            exact (S3.sub (fun _ z => z) fun a (z : RD a ∨ Al F2 a) => z.imp_right (sub a)).trans ⟨S4.m, fun a o e n => S4.h a o e fun z => n (.inr z), fun a h1 h2 => (S4.n a h1 h2).imp_left .inr, fun a z => z.elim (fun z => .inl (.inl z)) fun z => (S4.p a (s6 a z)).imp_left .inr⟩
          · cases ei
        · cases ei
      · refine .inl ⟨itsi.2.1 (by omega), ?_⟩
        rw [List.drop_eq_nil_of_le (by omega)] at ei
        cases ei
        rw [List.append_nil] at et
        subst et
        refine q Mi H (.ref D) RD (fun j a => if j ∈ own then False else Fi j a) ((S1.trans Si).sub (fun _ z => z) fun a z => ?_) ?_ rp fun a z ⟨j, y⟩ => ?_
        · rcases z with z | ⟨j, z⟩
          · exact .inl z
          · by_cases y : j ∈ own
            · simp [y] at z
            · simp only [y, if_false] at z; exact .inr ⟨j, z⟩
        · refine ⟨gi.le, by rw [backR_len, gi.len, wipe_length], fun j t e => ?_, fun j h a z => ?_, fun j k a y z => ?_⟩
          · by_cases y : j ∈ own
            · obtain ⟨d, rfl, e3⟩ := backR_own y e
              obtain ⟨v, h1, h2⟩ := g1.sl j _ e3
              refine ⟨v, h1, ?_⟩
              simp only [y, if_true]
              exact .fr (h2.fr_inv.1.mono Si.m)
            · rw [backR_get y] at e
              obtain ⟨v, h1, h2⟩ := gi.sl j t e
              rw [wipe_get y] at h1
              refine ⟨v, h1, ?_⟩
              simp only [y, if_false]
              exact h2
          · by_cases y : j ∈ own
            · simp [y] at z
            · simp only [y, if_false] at z
              exact gi.em j (fun t e => h t (by rw [backR_get y]; exact e)) a z
          · by_cases y1 : j ∈ own
            · simp [y1] at y
            · by_cases y2 : k ∈ own
              · simp [y2] at z
              · simp only [y1, y2, if_false] at y z
                exact gi.dj j k a y z
        · by_cases y2 : j ∈ own
          · simp [y2] at y
          · simp only [y2, if_false] at y
            exact dj a z ⟨j, y⟩
  · exact ⟨M, ρ, F, _, g, e1, q⟩
end
end Lv

set_option maxHeartbeats 2000000
namespace Lv
open PySem PySem.Spec PyProof.Rows L2
section
variable {X : Cx} {W : WS} {e a b : Expr} {es : List Expr} {pos : Pos}
def tYesF : Rho → Option (Rs Bool) := fun ρ => some (.ok true ρ)
abbrev ETs (X : Cx) (W : WS) (e : List Expr) (f : Rho → Option (Rs Bool)) : Prop := PTs X e (tT X.K W f)
theorem ets_nil : ETs X W [] tYesF := ⟨fun pins s σ H Q I h => pts_nil.run pins s σ H Q I (tt_pure h)⟩
theorem ets_one {f : Rho → Option (Rs Bool)} (h : ET X W e f) : ETs X W [e] f := pts_one h
theorem ee_lc {elt tg iter : Expr} {ifs : List Expr} {scope : Scope} {own : List (Str × Nat)} {as : List Nat} {fi : Rho → Option (Rs (List D))} {g : D → Rho → Option Rho} {fc : Rho → Option (Rs Bool)} {fe : Rho → Option (Rs T)} (has : ∀ j ∈ as, j ∈ own.map (·.2)) (hc : X.calm = true) (hN : X.N.Nodup) (hi : EI X W tg iter fi) (ok : blkC X.N X.env.scope scope own = true)
    (hg : ∀ (s : Shared) (H : Hp) (C : Addr) (cl : List (Str × Addr)) (fp : List Addr), EG (X.blk s H scope (compEnvC scope cl C X.env) fp) as tg g) (ht : ∀ (s : Shared) (H : Hp) (C : Addr) (cl : List (Str × Addr)) (fp : List Addr), ETs (X.blk s H scope (compEnvC scope cl C X.env) fp) W0 ifs fc)
    (he : ∀ (s : Shared) (H : Hp) (C : Addr) (cl : List (Str × Addr)) (fp : List Addr), EE (X.blk s H scope (compEnvC scope cl C X.env) fp) W0 elt fe) (hs : ∀ x, foldedSetIterable iter X.env x = pure x := by intro _; rfl) :
    EE X W (.ListComp elt [⟨tg, iter, ifs, 0⟩] scope pos) (eLc (own.map (·.2)) fi g fc fe) := (pe_lc hc hN hi (blkOk_by ok) hg ht he hs).lv fun σ H Q h => te_lc has σ H Q h
end
/-! ### statements -/
inductive Out where
  | nx (ρ : Rho)
  | rt (t : T) (ρ : Rho)
  | bk (ρ : Rho)
  | ct (ρ : Rho)
  | ex (c : Str) (ρ : Rho)
def Pin (pin : List Nat) (σ σ' : L2.St) : Prop := ∀ i ∈ pin, σ'[i]? = σ[i]?
theorem Pin.refl {pin : List Nat} {σ : L2.St} : Pin pin σ σ := fun _ _ => rfl
theorem Pin.trans {pin : List Nat} {σ σ1 σ2 : L2.St} (a : Pin pin σ σ1) (b : Pin pin σ1 σ2) : Pin pin σ σ2 := fun i h => (b i h).trans (a i h)
def wN (K : PySem.W.Frag) (pin : List Nat) (M H : Hp) (P : Fp) (σ : L2.St) (ρ' : Rho) (C : L2.St → Hp → Prop) : Prop := ∀ M' H' σ' F', Stp M H P M' H' (Al F') → Good K M' H' σ' ρ' F' → Pin pin σ σ' → C σ' H'
def wO (K : PySem.W.Frag) (W : WS) (pin : List Nat) (M H : Hp) (P : Fp) (σ : L2.St) (D : Ends) : Out → Prop
  | .nx ρ' => wN K pin M H P σ ρ' D.nx
  | .bk ρ' => wN K pin M H P σ ρ' D.bk
  | .ct ρ' => wN K pin M H P σ ρ' D.ct
  | .rt t ρ' => ∀ M' H' σ' v R F', Stp M H P M' H' (fun a => R a ∨ Al F' a) → Good K M' H' σ' ρ' F' → Pin pin σ σ' → Rp K M' H' t v R → (∀ a, R a → ¬ Al F' a) → D.rt v H'
  | .ex c ρ' => wN K pin M H P σ ρ' (W c)
def tS (K : PySem.W.Frag) (W : WS) (pin : List Nat) (f : Rho → Option Out) : TS := fun D σ H => ∃ M ρ F o, Good K M H σ ρ F ∧ f ρ = some o ∧ wO K W pin M H (Al F) σ D o
abbrev SS (X : Cx) (W : WS) (pin : List Nat) (e : Stmt) (f : Rho → Option Out) : Prop := PS X e (tS X.K W pin f)
abbrev SB (X : Cx) (W : WS) (pin : List Nat) (e : List Stmt) (f : Rho → Option Out) : Prop := PSs X e (tS X.K W pin f)
theorem wO.go {K : PySem.W.Frag} {W : WS} {pin : List Nat} {M H M1 H1 : Hp} {P P1 : Fp} {σ σ1 : L2.St} {D : Ends} {o : Out} (S : Stp M H P M1 H1 P1) (p : Pin pin σ σ1) (h : wO K W pin M H P σ D o) : wO K W pin M1 H1 P1 σ1 D o := by
  cases o with
  | nx ρ => exact fun M2 H2 σ2 F2 S2 g2 p2 => h M2 H2 σ2 F2 (S.trans S2) g2 (p.trans p2)
  | bk ρ => exact fun M2 H2 σ2 F2 S2 g2 p2 => h M2 H2 σ2 F2 (S.trans S2) g2 (p.trans p2)
  | ct ρ => exact fun M2 H2 σ2 F2 S2 g2 p2 => h M2 H2 σ2 F2 (S.trans S2) g2 (p.trans p2)
  | ex c ρ => exact fun M2 H2 σ2 F2 S2 g2 p2 => h M2 H2 σ2 F2 (S.trans S2) g2 (p.trans p2)
  | rt t ρ => exact fun M2 H2 σ2 v R F2 S2 g2 p2 => h M2 H2 σ2 v R F2 (S.trans S2) g2 (p.trans p2)
def sNil : Rho → Option Out := fun ρ => some (.nx ρ)
def sSeq (f g : Rho → Option Out) : Rho → Option Out := fun ρ => match f ρ with
  | some (.nx ρ1) => g ρ1
  | o => o
def ofR {α : Type} (r : Option (Rs α)) (k : α → Rho → Option Out) : Option Out := match r with
  | some (.ok a ρ) => k a ρ
  | some (.ex c ρ) => some (.ex c ρ)
  | none => none
theorem ofR_some {α : Type} {r : Option (Rs α)} {k : α → Rho → Option Out} {o : Out} (h : ofR r k = some o) : (∃ a ρ, r = some (.ok a ρ) ∧ k a ρ = some o) ∨ ∃ c ρ, r = some (.ex c ρ) ∧ o = .ex c ρ := by
  unfold ofR at h
  split at h
  · exact .inl ⟨_, _, rfl, h⟩
  · cases h; exact .inr ⟨_, _, rfl, rfl⟩
  · cases h
section
variable {X : Cx} {W : WS} {pin : List Nat} {e a b c : Expr} {es : List Expr} {st : Stmt} {rest : List Stmt} {pos : Pos}
theorem ts_nx {K : PySem.W.Frag} {D : Ends} {σ : L2.St} {H : Hp} (h : tS K W pin sNil D σ H) : D.nx σ H := by
  obtain ⟨M, ρ, F, o, g, e, q⟩ := h
  cases e
  exact q M H σ F (.refl fun _ z => z) g .refl
theorem sb_nil : SB X W pin [] sNil := pss_nil.lv fun D σ H h => ts_nx h
theorem ss_pass : SS X W pin (.Pass pos) sNil := ps_pass.lv fun D σ H h => ts_nx h
def sBk : Rho → Option Out := fun ρ => some (.bk ρ)
def sCt : Rho → Option Out := fun ρ => some (.ct ρ)
theorem ss_break : SS X W pin (.Break pos) sBk := ps_break.lv fun D σ H ⟨M, ρ, F, o, g, e, q⟩ => by
  cases e
  exact q M H σ F (.refl fun _ z => z) g .refl
theorem ss_continue : SS X W pin (.Continue pos) sCt := ps_continue.lv fun D σ H ⟨M, ρ, F, o, g, e, q⟩ => by
  cases e
  exact q M H σ F (.refl fun _ z => z) g .refl
theorem ts_seq {K : PySem.W.Frag} {f g : Rho → Option Out} {D : Ends} {σ : L2.St} {H : Hp} (h : tS K W pin (sSeq f g) D σ H) : tS K W pin f { D with nx := tS K W pin g D } σ H := by
  obtain ⟨M, ρ, F, o, g', e, q⟩ := h
  unfold sSeq at e
  split at e
  · next ρ1 e1 =>
    exact ⟨M, ρ, F, _, g', e1, fun M1 H1 σ1 F1 S1 g1 p1 => ⟨M1, ρ1, F1, o, g1, e, q.go S1 p1⟩⟩
  · next hne =>
    refine ⟨M, ρ, F, o, g', e, ?_⟩
    cases o with
    | nx ρ1 => exact absurd e (by intro z; exact hne ρ1 z)
    | _ => exact q
theorem sb_cons {f g : Rho → Option Out} (h1 : SS X W pin st f) (h2 : SB X W pin rest g) : SB X W pin (st :: rest) (sSeq f g) := (pss_cons h1 h2).lv fun D σ H h => ts_seq h
theorem sb_one {f : Rho → Option Out} (h1 : SS X W pin st f) : SB X W pin [st] f := pss_one h1
def sExpr (f : Rho → Option (Rs T)) : Rho → Option Out := fun ρ => ofR (f ρ) fun _ ρ1 => some (.nx ρ1)
/-- an expression's end, by a statement's -/
theorem ts_te {K : PySem.W.Frag} {f : Rho → Option (Rs T)} {k : T → Rho → Option Out} {D : Ends} {σ : L2.St} {H : Hp} {Q : VK} (h : tS K W pin (fun ρ => ofR (f ρ) k) D σ H)
    (hk : ∀ M1 H1 t v R F1 ρ1 o P, k t ρ1 = some o → Good K M1 H1 σ ρ1 F1 → Rp K M1 H1 t v R → (∀ a, R a → ¬ Al F1 a) → (∀ a, R a → P a) → (∀ a, Al F1 a → P a) → wO K W pin M1 H1 P σ D o → Q v H1) : tE K W f σ H Q := by
  obtain ⟨M, ρ, F, o, g, e, q⟩ := h
  rcases ofR_some e with ⟨t, ρ1, e1, e⟩ | ⟨c, ρ1, e1, rfl⟩
  · exact ⟨M, ρ, F, _, g, e1, fun M1 H1 v R F1 S1 g1 r1 d1 => hk M1 H1 t v R F1 ρ1 o _ e g1 r1 d1 (fun a z => .inl z) (fun a z => .inr z) (q.go S1 .refl)⟩
  · exact ⟨M, ρ, F, _, g, e1, fun M1 H1 F1 S1 g1 => q M1 H1 σ F1 S1 g1 .refl⟩
theorem ss_expr {f : Rho → Option (Rs T)} (h : EE X W e f) (hs : swapsWith e none pos.line X.env = pure false := by rfl) : SS X W pin (.Expr e pos) (sExpr f) := (ps_expr h hs).lv fun D σ H h => ts_te h fun M1 H1 t v R F1 ρ1 o P e g1 r1 d1 hR hF q => by
  cases e
  exact q M1 H1 σ F1 (.refl hF) g1 .refl
def sRet (f : Rho → Option (Rs T)) : Rho → Option Out := fun ρ => ofR (f ρ) fun t ρ1 => some (.rt t ρ1)
theorem ss_ret {f : Rho → Option (Rs T)} (h : EE X W e f) : SS X W pin (.Return (some e) pos) (sRet f) := (ps_ret h).lv fun D σ H h => ts_te h fun M1 H1 t v R F1 ρ1 o P e g1 r1 d1 hR hF q => by
  cases e
  exact q M1 H1 σ v R F1 (.refl fun a z => z.elim (hR a) (hF a)) g1 .refl r1 d1
def sRetN : Rho → Option Out := fun ρ => some (.rt (.fr .none) ρ)
theorem ss_retN : SS X W pin (.Return none pos) sRetN := ps_retN.lv fun D σ H ⟨M, ρ, F, o, g, e, q⟩ => by
  cases e
  exact q M H σ .non _ F (.refl fun _ z => z.elim False.elim id) g .refl (.fr .non) fun a z => z.elim
def sIf (c : Rho → Option (Rs Bool)) (f g : Rho → Option Out) : Rho → Option Out := fun ρ => ofR (c ρ) fun b ρ1 => if b = true then f ρ1 else g ρ1
theorem ts_tt {K : PySem.W.Frag} {f : Rho → Option (Rs Bool)} {k : Bool → Rho → Option Out} {D : Ends} {σ : L2.St} {H : Hp} {Q : Bool → Hp → Prop} (h : tS K W pin (fun ρ => ofR (f ρ) k) D σ H)
    (hk : ∀ b H1, tS K W pin (k b) D σ H1 → Q b H1) : tT K W f σ H Q := by
  obtain ⟨M, ρ, F, o, g, e, q⟩ := h
  rcases ofR_some e with ⟨t, ρ1, e1, e⟩ | ⟨c, ρ1, e1, rfl⟩
  · exact ⟨M, ρ, F, _, g, e1, fun M1 H1 F1 S1 g1 => hk t H1 ⟨M1, ρ1, F1, o, g1, e, q.go S1 .refl⟩⟩
  · exact ⟨M, ρ, F, _, g, e1, fun M1 H1 F1 S1 g1 => q M1 H1 σ F1 S1 g1 .refl⟩
theorem ss_if {ss ts : List Stmt} {fc : Rho → Option (Rs Bool)} {f g : Rho → Option Out} (hc : ET X W c fc) (ha : SB X W pin ss f) (hb : SB X W pin ts g) : SS X W pin (.If c ss ts pos) (sIf fc f g) := (ps_if hc ha hb).lv fun D σ H h => ts_tt h fun b H1 h => by
  cases b with
  | true => exact h
  | false => exact h
/-! stores to names -/
theorem wN_set {K : PySem.W.Frag} {M H : Hp} {σ : L2.St} {ρ : Rho} {F : Nat → Fp} {R P : Fp} {t : T} {v : V} {i : Nat} {C : L2.St → Hp → Prop} (hp : i ∉ pin) (g : Good K M H σ ρ F) (r : Rp K M H t v R) (d : ∀ a, R a → ¬ Al F a) (hR : ∀ a, R a → P a) (hF : ∀ a, Al F a → P a) (hi : i < ρ.length) (q : wN K pin M H P σ (ρ.set i (some t)) C) : C (σ.set i (some v)) H := by
  refine q M H _ _ (.refl fun a ⟨j, z⟩ => ?_) (g.put (by rw [← g.len]; exact hi) r fun a z ⟨j, _, y⟩ => d a z ⟨j, y⟩) fun j hj => ?_
  · by_cases y : j = i
    · simp only [y, if_true] at z; exact hR a z
    · simp only [y, if_false] at z; exact hF a ⟨j, z⟩
  · rw [List.getElem?_set_ne (fun z => hp (by rw [z]; exact hj))]
def sSet (i : Nat) (f : Rho → Option (Rs T)) : Rho → Option Out := fun ρ => ofR (f ρ) fun t ρ1 => if i < ρ1.length then some (.nx (ρ1.set i (some t))) else none
theorem ts_set {K : PySem.W.Frag} {i : Nat} {f : Rho → Option (Rs T)} {D : Ends} {σ : L2.St} {H : Hp} (hp : i ∉ pin) (h : tS K W pin (sSet i f) D σ H) : tE K W f σ H fun x H1 => D.nx (σ.set i (some x)) H1 := ts_te h fun M1 H1 t v R F1 ρ1 o P e g1 r1 d1 hR hF q => by
  split at e
  · next hi =>
    cases e
    exact wN_set hp g1 r1 d1 hR hF hi q
  · cases e
theorem ss_set {i : Nat} {x : Str} {f : Rho → Option (Rs T)} {pos' : Pos} (hp : i ∉ pin) (hN : X.N.Nodup) (hi : X.N[i]? = some x) (hx : Loc X.env.scope x) (he : EE X W e f) (hs : swapsWith e (some (.Name x pos')) pos.line X.env = pure false := by rfl)
    (hf : X.fn x = true ∨ X.env.scope.names.lookup x = some .local := by first | exact .inl rfl | exact .inr rfl | assumption) : SS X W pin (.Assign [.Name x pos'] e pos) (sSet i f) := (ps_set hN hi hx he hs hf).lv fun D σ H h => ts_set hp h
/-- x = [..] on one line -/
theorem ss_setLc {i : Nat} {y : Str} {py : Pos} {elt tg iter : Expr} {ifs : List Expr} {scope : Scope} {own : List (Str × Nat)} {as : List Nat} {spos : Pos} {fi : Rho → Option (Rs (List D))} {g : D → Rho → Option Rho} {fc : Rho → Option (Rs Bool)} {fe : Rho → Option (Rs T)} (hp : i ∉ pin) (has : ∀ j ∈ as, j ∈ own.map (·.2)) (hc : X.calm = true) (hN : X.N.Nodup) (hy : X.N[i]? = some y) (hyl : X.env.scope.names.lookup y = some .local)
    (hsw : swapsWith (.ListComp elt [⟨tg, iter, ifs, 0⟩] scope pos) (some (.Name y py)) spos.line X.env = pure true) (hi : EI X W tg iter fi) (ok : blkC X.N X.env.scope scope own = true)
    (hg : ∀ (s : Shared) (H : Hp) (C : Addr) (cl : List (Str × Addr)) (fp : List Addr), EG (X.blk s H scope (compEnvC scope cl C X.env) fp) as tg g) (ht : ∀ (s : Shared) (H : Hp) (C : Addr) (cl : List (Str × Addr)) (fp : List Addr), ETs (X.blk s H scope (compEnvC scope cl C X.env) fp) W0 ifs fc)
    (he : ∀ (s : Shared) (H : Hp) (C : Addr) (cl : List (Str × Addr)) (fp : List Addr), EE (X.blk s H scope (compEnvC scope cl C X.env) fp) W0 elt fe) (hs : ∀ x, foldedSetIterable iter X.env x = pure x := by intro _; rfl) :
    SS X W pin (.Assign [.Name y py] (.ListComp elt [⟨tg, iter, ifs, 0⟩] scope pos) spos) (sSet i (eLc (own.map (·.2)) fi g fc fe)) := (ps_setLc hc hN hy hyl hsw hi (blkOk_by ok) hg ht he hs).lv fun D σ H h => te_lc has σ H _ (ts_set hp h)
/-- the same, frozen -/
theorem ss_setLcF {i : Nat} {y : Str} {py : Pos} {elt tg iter : Expr} {ifs : List Expr} {scope : Scope} {own : List (Str × Nat)} {as : List Nat} {spos : Pos} {fi : Rho → Option (Rs (List D))} {g : D → Rho → Option Rho} {fc : Rho → Option (Rs Bool)} {fe : Rho → Option (Rs T)} (hp : i ∉ pin) (has : ∀ j ∈ as, j ∈ own.map (·.2)) (hc : X.calm = true) (hN : X.N.Nodup) (hy : X.N[i]? = some y) (hyl : X.env.scope.names.lookup y = some .local)
    (hsw : swapsWith (.ListComp elt [⟨tg, iter, ifs, 0⟩] scope pos) (some (.Name y py)) spos.line X.env = pure true) (hi : EI X W tg iter fi) (ok : blkC X.N X.env.scope scope own = true)
    (hg : ∀ (s : Shared) (H : Hp) (C : Addr) (cl : List (Str × Addr)) (fp : List Addr), EG (X.blk s H scope (compEnvC scope cl C X.env) fp) as tg g) (ht : ∀ (s : Shared) (H : Hp) (C : Addr) (cl : List (Str × Addr)) (fp : List Addr), ETs (X.blk s H scope (compEnvC scope cl C X.env) fp) W0 ifs fc)
    (he : ∀ (s : Shared) (H : Hp) (C : Addr) (cl : List (Str × Addr)) (fp : List Addr), EE (X.blk s H scope (compEnvC scope cl C X.env) fp) W0 elt fe) (hs : ∀ x, foldedSetIterable iter X.env x = pure x := by intro _; rfl) :
    SS X W pin (.Assign [.Name y py] (.ListComp elt [⟨tg, iter, ifs, 0⟩] scope pos) spos) (sSet i (eFz (eLc (own.map (·.2)) fi g fc fe))) := (ps_setLc hc hN hy hyl hsw hi (blkOk_by ok) hg ht he hs).lv fun D σ H h => te_lc has σ H _ (by
  obtain ⟨M, ρ, F, r, g', e, q⟩ := ts_set hp h
  rcases bnd_some e with ⟨t, ρ', e1, e2⟩ | ⟨c, ρ', e1, rfl⟩
  · obtain ⟨d, ed, e2⟩ := Option.map_eq_some_iff.mp e2
    subst e2
    refine ⟨M, ρ, F, _, g', e1, fun M' H' v R F' S g' rp dj => ?_⟩
    obtain ⟨S1, le1, kp⟩ := S.frz rp dj g'.le
    exact q _ H' v (fun _ => False) F' (S1.sub (fun _ z => z) fun a z => z.elim False.elim id) (g'.keep kp le1) (.fr (rp.freeze ed)) fun a z => z.elim
  · exact ⟨M, ρ, F, _, g', e1, q⟩)
/-- a, b = e -/
def sTgt (g : D → Rho → Option Rho) (f : Rho → Option (Rs T)) : Rho → Option Out := fun ρ => ofR (f ρ) fun t ρ1 => (T.dat t).bind fun d => (g d ρ1).map fun ρ2 => .nx ρ2
theorem ss_tgt {as : List Nat} {tg : Expr} {g : D → Rho → Option Rho} {f : Rho → Option (Rs T)} (hp : ∀ j ∈ pin, j ∉ as) (he : EE X W e f) (hg : EG X as tg g) (hs : swapsWithSole [tg] e pos.line X.env = pure false := by rfl) (hw : swappedStores [tg] e X.env = pure none := by rfl)
    (h1 : (assignEach [tg] X.env).map (·.2) = [assign tg X.env] := by rfl) : SS X W pin (.Assign [tg] e pos) (sTgt g f) := (ps_asg he hg hs hw h1).lv fun D σ H h => ts_te h fun M1 H1 t v R F1 ρ1 o P e g1 r1 d1 hR hF q => by
  obtain ⟨d, ed, e⟩ := Option.bind_eq_some_iff.mp e
  obtain ⟨ρ2, e2, e⟩ := Option.map_eq_some_iff.mp e
  subst e
  have S0 : Stp M1 H1 (fun a => R a ∨ Al F1 a) M1 H1 (fun a => R a ∨ Al F1 a) := .refl fun _ z => z
  obtain ⟨S2, le2, kp⟩ := S0.frz r1 d1 g1.le
  refine ⟨_, ρ1, F1, d, ρ2, g1.keep kp le2, r1.freeze ed, e2, fun σ2 F2 g2 s2 k2 _ => q _ H1 σ2 F2 (S2.sub (fun a z => z.elim (hR a) (hF a)) s2) g2 fun j hj => k2 j (hp j hj)⟩
/-- a, b = x, y -/
def sPar (i j : Nat) (f : Rho → Option (Rs (List Ar))) : Rho → Option Out := fun ρ => ofR (f ρ) fun as ρ1 => match as with
  | [.own (.fr d1), .own (.fr d2)] => if i < ρ1.length ∧ j < ρ1.length then some (.nx ((ρ1.set i (some (.fr d1))).set j (some (.fr d2)))) else none
  | _ => none
theorem ts_ta {K : PySem.W.Frag} {f : Rho → Option (Rs (List Ar))} {k : List Ar → Rho → Option Out} {D : Ends} {σ : L2.St} {H : Hp} {Q : List V → Hp → Prop} (h : tS K W pin (fun ρ => ofR (f ρ) k) D σ H)
    (hk : ∀ M1 H1 as vs R F1 ρ1 o P, k as ρ1 = some o → Good K M1 H1 σ ρ1 F1 → ArL K M1 H1 σ as vs R → (∀ a, R a → ¬ Al F1 a) → (∀ a, R a → P a) → (∀ a, Al F1 a → P a) → wO K W pin M1 H1 P σ D o → Q vs H1) : tEA K W f σ H Q := by
  obtain ⟨M, ρ, F, o, g, e, q⟩ := h
  rcases ofR_some e with ⟨t, ρ1, e1, e⟩ | ⟨c, ρ1, e1, rfl⟩
  · exact ⟨M, ρ, F, _, g, e1, fun M1 H1 vs R F1 S1 g1 r1 d1 => hk M1 H1 t vs R F1 ρ1 o _ e g1 r1 d1 (fun a z => .inl z) (fun a z => .inr z) (q.go S1 .refl)⟩
  · exact ⟨M, ρ, F, _, g, e1, fun M1 H1 F1 S1 g1 => q M1 H1 σ F1 S1 g1 .refl⟩
theorem ss_par {i j : Nat} {x y : Str} {f : Rho → Option (Rs (List Ar))} {px py pt : Pos} {kt k2 pt2} (hpi : i ∉ pin) (hpj : j ∉ pin) (hc : X.calm = true) (hN : X.N.Nodup) (hi : X.N[i]? = some x) (hj : X.N[j]? = some y) (hij : i ≠ j)
    (hx : X.env.scope.names.lookup x = some .local) (hy : X.env.scope.names.lookup y = some .local) (ha : AE X W [a, b] f)
    (hw : swappedStores [.Tuple [.Name x px, .Name y py] kt pt] (.Tuple [a, b] k2 pt2) X.env = pure (some [x, y]) := by rfl)
    (hs : swapsWithSole [.Tuple [.Name x px, .Name y py] kt pt] (.Tuple [a, b] k2 pt2) pos.line X.env = pure false := by rfl) :
    SS X W pin (.Assign [.Tuple [.Name x px, .Name y py] kt pt] (.Tuple [a, b] k2 pt2) pos) (sPar i j f) := (ps_par hc hN hi hj hij hx hy ha hw hs).lv fun D σ H h => ts_ta h fun M1 H1 as vs R F1 ρ1 o P e g1 r1 d1 hR hF q => by
  split at e
  · next d1' d2' =>
    split at e
    · next hl =>
      cases e
      obtain ⟨v, w, R1, R2, rfl, rp1, rp2⟩ := r1.own2
      have g2 := g1.put (i := i) (by rw [← g1.len]; exact hl.1) (.fr rp1.fr_inv.1) fun a z => z.elim
      have g3 := g2.put (i := j) (by simp; rw [← g1.len]; exact hl.2) (.fr rp2.fr_inv.1) fun a z => z.elim
      have hst : Stp M1 H1 P M1 H1 (Al (fun l a => if l = j then False else if l = i then False else F1 l a)) := .refl fun a ⟨l, z⟩ => by
        by_cases y1 : l = j
        · simp [y1] at z
        · by_cases y2 : l = i
          · simp [y2] at z
          · simp only [y1, y2, if_false] at z; exact hF a ⟨l, z⟩
      refine ⟨v, w, rfl, q M1 H1 _ _ hst g3 fun l hl' => ?_⟩
      rw [List.getElem?_set_ne (fun z => hpj (by rw [z]; exact hl')), List.getElem?_set_ne (fun z => hpi (by rw [z]; exact hl'))]
    · cases e
  · cases e
/-- x += e, frozen -/
def sAug (i : Nat) (op : T → T → Option T) (f : Rho → Option (Rs T)) : Rho → Option Out := fun ρ => match ρ[i]? with
  | some (some (.fr d)) => ofR (f ρ) fun t ρ1 => (op (.fr d) t).bind fun u => if i < ρ1.length then some (.nx (ρ1.set i (some u))) else none
  | _ => none
def PIpR (X : Cx) (op' : Operator) (r : R2) : Prop := PIp X op' r
theorem ss_aug {i : Nat} {x : Str} {op' : Operator} {op : T → T → Option T} {f : Rho → Option (Rs T)} {pos' : Pos} (hp : i ∉ pin) (hN : X.N.Nodup) (hi : X.N[i]? = some x) (hx : Loc X.env.scope x) (he : EE X W e f) (ho : PIp X op' (rOp2 X.K op)) (hf : X.fn x = true ∨ X.env.scope.names.lookup x = some .local := by first | exact .inl rfl | exact .inr rfl | assumption) :
    SS X W pin (.AugAssign (.Name x pos') op' e pos) (sAug i op f) := (ps_aug hN hi hx he ho hf).lv fun D σ H ⟨M, ρ, F, o, g, e, q⟩ => by
  unfold sAug at e
  split at e
  · next d ed =>
    obtain ⟨v0, h0, r0⟩ := g.sl i _ ed
    refine ⟨v0, h0, ?_⟩
    rcases ofR_some e with ⟨t, ρ1, e1, e⟩ | ⟨c, ρ1, e1, rfl⟩
    · obtain ⟨u, eu, e⟩ := Option.bind_eq_some_iff.mp e
      split at e
      · next hi' =>
        cases e
        refine ⟨M, ρ, F, _, g, e1, fun M1 H1 v R F1 S1 g1 r1 d1 => ⟨M1, _, _, t, R, u, g1.le, .fr (r0.fr_inv.1.mono S1.m), r1, eu, fun M2 H2 v2 R2 x2 r2 n2 => ?_⟩⟩
        refine wN_set (P := fun a => R2 a ∨ Al F1 a) hp (g1.ext x2) r2 (fun a z y => ?_) (fun a z => .inl z) (fun a z => .inr z) hi' (q.go ((S1.sub (fun _ z => z) fun a z => .inr z).trans (x2.stp fun a z => z.elim (fun z => .inr (n2 a z)) .inl)) .refl)
        obtain ⟨_, o, eo'⟩ := g1.own a y
        rw [n2 a z] at eo'; cases eo'
      · cases e
    · exact ⟨M, ρ, F, _, g, e1, fun M1 H1 F1 S1 g1 => q M1 H1 σ F1 S1 g1 .refl⟩
  · cases e
end
end Lv

set_option maxHeartbeats 2000000
namespace Lv
open PySem PySem.Spec PyProof.Rows L2
/-! ### places within owned trees -/
inductive Sg where
  | at_ (f : Str)
  | ix (j : Nat)
def lookF {α : Type} (f : Str) : List (Str × α) → Option α
  | [] => none
  | (g, x) :: r => if g = f then some x else lookF f r
def putL {α : Type} (f : Str) (y : α) : List (Str × α) → List (Str × α)
  | [] => []
  | (g, x) :: r => if g = f then (g, y) :: r else (g, x) :: putL f y r
def getP : List Sg → T → Option T
  | [], t => some t
  | .ix j :: p, .lst ts => (ts[j]?).bind (getP p)
  | .at_ f :: p, .obj _ fs => (lookF f fs).bind (getP p)
  | _, _ => none
def setP (u : T) : List Sg → T → Option T
  | [], _ => some u
  | .ix j :: p, .lst ts => (ts[j]?).bind fun t => (setP u p t).map fun t' => .lst (ts.set j t')
  | .at_ f :: p, .obj c fs => (lookF f fs).bind fun t => (setP u p t).map fun t' => .obj c (putL f t' fs)
  | _, _ => none
inductive Fol (H : Hp) : V → List Sg → V → Prop
  | nil {v : V} : Fol H v [] v
  | ix {a : Addr} {vs : List V} {j : Nat} {v1 v : V} {p : List Sg} : H a = some (.lst vs) → vs[j]? = some v1 → Fol H v1 p v → Fol H (.ref a) (.ix j :: p) v
  | at_ {a C dx : Addr} {vs : List (Str × V)} {f : Str} {v1 v : V} {p : List Sg} : H a = some (.ins C dx vs) → vs.lookup f = some v1 → Fol H v1 p v → Fol H (.ref a) (.at_ f :: p) v
section
variable {K : PySem.W.Frag} {M H M2 H2 : Hp}
theorem Fol.same {H' : Hp} (s : L2.Same H H') : ∀ {v w : V} {p : List Sg}, Fol H v p w → Fol H' v p w
  | _, _, _, .nil => .nil
  | _, _, _, .ix h e t => .ix (s _ _ h) e (t.same s)
  | _, _, _, .at_ h e t => .at_ (s _ _ h) e (t.same s)
theorem RpL.focus : ∀ {ts : List T} {vs : List V} {R : Fp} {j : Nat} {t : T} {v : V}, RpL K M H ts vs R → ts[j]? = some t → vs[j]? = some v → ∃ R1, Rp K M H t v R1 ∧ (∀ a, R1 a → R a) ∧
    ∀ M2 H2 t' R', Rp K M2 H2 t' v R' → Kp M M2 H H2 (fun a => R a ∧ ¬ R1 a) → (∀ a, R' a → ¬ (R a ∧ ¬ R1 a)) → ∃ R2, RpL K M2 H2 (ts.set j t') vs R2 ∧ ∀ a, R2 a ↔ (R a ∧ ¬ R1 a) ∨ R' a
  | _, _, _, _, _, _, .nil, e, _ => by simp at e
  | _, _, _, 0, _, _, .cons (R := Ra) (R' := Rb) h q d, e, e2 => by
    simp at e e2; subst e; subst e2
    refine ⟨Ra, h, fun a => .inl, fun M2 H2 t' R' r' k n => ?_⟩
    have nb : ∀ a, Rb a → ¬ Ra a := fun a z y => d a y z
    refine ⟨_, .cons r' (q.keep (k.sub fun a z => ⟨.inr z, nb a z⟩)) fun a z y => n a z ⟨.inr y, nb a y⟩, fun a => ?_⟩
    constructor
    · rintro (z | z)
      · exact .inr z
      · exact .inl ⟨.inr z, nb a z⟩
    · rintro (⟨z | z, y⟩ | z)
      · exact absurd z y
      · exact .inr z
      · exact .inl z
  | _, _, _, j + 1, t, v, .cons (R := Ra) (R' := Rb) h q d, e, e2 => by
    obtain ⟨R1, h1, s1, up⟩ := RpL.focus (j := j) (t := t) (v := v) q (by simpa using e) (by simpa using e2)
    have na : ∀ a, Ra a → ¬ R1 a := fun a z y => d a z (s1 a y)
    refine ⟨R1, h1, fun a z => .inr (s1 a z), fun M2 H2 t' R' r' k n => ?_⟩
    obtain ⟨R2, h2, e3⟩ := up M2 H2 t' R' r' (k.sub fun a z => ⟨.inr z.1, z.2⟩) fun a z y => n a z ⟨.inr y.1, y.2⟩
    refine ⟨_, .cons (h.keep (k.sub fun a z => ⟨.inl z, na a z⟩)) h2 fun a z y => ?_, fun a => ?_⟩
    · rcases (e3 a).mp y with y | y
      · exact d a z y.1
      · exact n a y ⟨.inl z, na a z⟩
    · rw [e3 a]
      constructor
      · rintro (z | z | z)
        · exact .inl ⟨.inl z, na a z⟩
        · exact .inl ⟨.inr z.1, z.2⟩
        · exact .inr z
      · rintro (⟨z | z, y⟩ | z)
        · exact .inl z
        · exact .inr (.inl ⟨z, y⟩)
        · exact .inr (.inr z)
theorem RpF.focus : ∀ {ts : List (Str × T)} {vs : List (Str × V)} {R : Fp} {f : Str} {t : T} {v : V}, RpF K M H ts vs R → lookF f ts = some t → vs.lookup f = some v → ∃ R1, Rp K M H t v R1 ∧ (∀ a, R1 a → R a) ∧
    ∀ M2 H2 t' R', Rp K M2 H2 t' v R' → Kp M M2 H H2 (fun a => R a ∧ ¬ R1 a) → (∀ a, R' a → ¬ (R a ∧ ¬ R1 a)) → ∃ R2, RpF K M2 H2 (putL f t' ts) vs R2 ∧ ∀ a, R2 a ↔ (R a ∧ ¬ R1 a) ∨ R' a
  | _, _, _, _, _, _, .nil, e, _ => by cases e
  | _, _, _, f, t, v, .cons (k := g) (vs := vs') (R := Ra) (R' := Rb) h q d, e, e2 => by
    by_cases hg : g = f
    · subst hg
      simp [lookF] at e; subst e
      simp [List.lookup] at e2; subst e2
      refine ⟨Ra, h, fun a => .inl, fun M2 H2 t' R' r' k n => ?_⟩
      have nb : ∀ a, Rb a → ¬ Ra a := fun a z y => d a y z
      refine ⟨_, by simp only [putL, if_true]; exact .cons r' (q.keep (k.sub fun a z => ⟨.inr z, nb a z⟩)) fun a z y => n a z ⟨.inr y, nb a y⟩, fun a => ?_⟩
      constructor
      · rintro (z | z)
        · exact .inr z
        · exact .inl ⟨.inr z, nb a z⟩
      · rintro (⟨z | z, y⟩ | z)
        · exact absurd z y
        · exact .inr z
        · exact .inl z
    · simp only [lookF, hg, if_false] at e
      have e2' : List.lookup f vs' = some v := by
        rw [List.lookup_cons] at e2
        have : (f == g) = false := by simpa using fun z => hg z.symm
        rw [this] at e2; exact e2
      obtain ⟨R1, h1, s1, up⟩ := RpF.focus (f := f) (t := t) (v := v) q e e2'
      have na : ∀ a, Ra a → ¬ R1 a := fun a z y => d a z (s1 a y)
      refine ⟨R1, h1, fun a z => .inr (s1 a z), fun M2 H2 t' R' r' k n => ?_⟩
      obtain ⟨R2, h2, e3⟩ := up M2 H2 t' R' r' (k.sub fun a z => ⟨.inr z.1, z.2⟩) fun a z y => n a z ⟨.inr y.1, y.2⟩
      have hd : ∀ a, Ra a → ¬ R2 a := fun a z y => by
        rcases (e3 a).mp y with y | y
        · exact d a z y.1
        · exact n a y ⟨.inl z, na a z⟩
      have hc := RpF.cons (k := g) (h.keep (k.sub fun a z => ⟨.inl z, na a z⟩)) h2 hd
      refine ⟨_, by simp only [putL, hg, if_false]; exact hc, fun a => ?_⟩
      rw [e3 a]
      constructor
      · rintro (z | z | z)
        · exact .inl ⟨.inl z, na a z⟩
        · exact .inl ⟨.inr z.1, z.2⟩
        · exact .inr z
      · rintro (⟨z | z, y⟩ | z)
        · exact .inl z
        · exact .inr (.inl ⟨z, y⟩)
        · exact .inr (.inr z)
/-- a place is changed, all else is kept -/
theorem Rp.focus : ∀ {v0 v : V} {p : List Sg}, Fol H v0 p v → ∀ {t0 t : T} {R0 : Fp}, Rp K M H t0 v0 R0 → getP p t0 = some t → ∃ R, Rp K M H t v R ∧ (∀ a, R a → R0 a) ∧
    ∀ M2 H2 t' R', Rp K M2 H2 t' v R' → Kp M M2 H H2 (fun a => R0 a ∧ ¬ R a) → (∀ a, R' a → ¬ (R0 a ∧ ¬ R a)) → ∃ t2 R2, setP t' p t0 = some t2 ∧ Rp K M2 H2 t2 v0 R2 ∧ ∀ a, R2 a ↔ (R0 a ∧ ¬ R a) ∨ R' a := by
  intro v0 v p fol
  induction fol with
  | nil =>
    intro t0 t R0 r e
    cases e
    refine ⟨R0, r, fun _ z => z, fun M2 H2 t' R' r' _ _ => ⟨t', R', rfl, r', fun a => ?_⟩⟩
    constructor
    · exact .inr
    · rintro (⟨z, y⟩ | z)
      · exact absurd z y
      · exact z
  | @ix a vs j v1 v p hl hv _ ih =>
    intro t0 t R0 r e
    cases r with
    | fr => cases e
    | dk => cases e
    | dkl => cases e
    | obj => cases e
    | @lst _ xs vs' R h1 h2 h3 h4 =>
      rw [hl] at h1; cases h1
      simp only [getP] at e
      obtain ⟨t1, e1, e⟩ := Option.bind_eq_some_iff.mp e
      obtain ⟨R1, r1, s1, up1⟩ := h3.focus e1 hv
      obtain ⟨R2, r2, s2, up2⟩ := ih r1 e
      refine ⟨R2, r2, fun b z => .inr (s1 b (s2 b z)), fun M2 H2 t' R' r' k n => ?_⟩
      have na2 : ¬ R2 a := fun z => h4 (s1 a (s2 a z))
      obtain ⟨t2, R3, e3, r3, i3⟩ := up2 M2 H2 t' R' r' (k.sub fun b z => ⟨.inr (s1 b z.1), z.2⟩) fun b z y => n b z ⟨.inr (s1 b y.1), y.2⟩
      obtain ⟨R4, r4, i4⟩ := up1 M2 H2 t2 R3 r3 (k.sub fun b z => ⟨.inr z.1, fun y => z.2 (s2 b y)⟩) fun b z y => by
        rcases (i3 b).mp z with z | z
        · exact y.2 z.1
        · exact n b z ⟨.inr y.1, fun w => y.2 (s2 b w)⟩
      have ka := k.h a ⟨.inl rfl, na2⟩ _ hl
      have ma := k.n a ⟨.inl rfl, na2⟩ h2
      have eq4 : ∀ b, R4 b ↔ (R b ∧ ¬ R2 b) ∨ R' b := fun b => by
        rw [i4 b, i3 b]
        constructor
        · rintro (⟨z, y⟩ | ⟨z, y⟩ | z)
          · exact .inl ⟨z, fun w => y (s2 b w)⟩
          · exact .inl ⟨s1 b z, y⟩
          · exact .inr z
        · rintro (⟨z, y⟩ | z)
          · by_cases w : R1 b
            · exact .inr (.inl ⟨w, y⟩)
            · exact .inl ⟨z, w⟩
          · exact .inr (.inr z)
      have n4 : ¬ R4 a := fun z => by
        rcases (eq4 a).mp z with z | z
        · exact h4 z.1
        · exact n a z ⟨.inl rfl, na2⟩
      refine ⟨.lst (xs.set j t2), _, by simp only [setP, e1, Option.bind_some, e3, Option.map_some], .lst ka ma r4 n4, fun b => ?_⟩
      show b = a ∨ R4 b ↔ _
      rw [eq4 b]
      constructor
      · rintro (z | ⟨z, y⟩ | z)
        · subst z; exact .inl ⟨.inl rfl, na2⟩
        · exact .inl ⟨.inr z, y⟩
        · exact .inr z
      · rintro (⟨z | z, y⟩ | z)
        · exact .inl z
        · exact .inr (.inl ⟨z, y⟩)
        · exact .inr (.inr z)
  | @at_ a C dx vs f v1 v p hl hv _ ih =>
    intro t0 t R0 r e
    cases r with
    | fr => cases e
    | dk => cases e
    | dkl => cases e
    | lst => cases e
    | @obj _ dx' c fs vs' R h1 h2 h3 h4 h5 h6 h7 h8 =>
      rw [hl] at h1; cases h1
      simp only [getP] at e
      obtain ⟨t1, e1, e⟩ := Option.bind_eq_some_iff.mp e
      obtain ⟨R1, r1, s1, up1⟩ := h6.focus e1 hv
      obtain ⟨R2, r2, s2, up2⟩ := ih r1 e
      refine ⟨R2, r2, fun b z => .inr (s1 b (s2 b z)), fun M2 H2 t' R' r' k n => ?_⟩
      have na2 : ¬ R2 a := fun z => h7 (s1 a (s2 a z))
      have nd2 : ¬ R2 dx := fun z => h8 (s1 dx (s2 dx z))
      obtain ⟨t2, R3, e3, r3, i3⟩ := up2 M2 H2 t' R' r' (k.sub fun b z => ⟨.inr (s1 b z.1), z.2⟩) fun b z y => n b z ⟨.inr (s1 b y.1), y.2⟩
      obtain ⟨R4, r4, i4⟩ := up1 M2 H2 t2 R3 r3 (k.sub fun b z => ⟨.inr z.1, fun y => z.2 (s2 b y)⟩) fun b z y => by
        rcases (i3 b).mp z with z | z
        · exact y.2 z.1
        · exact n b z ⟨.inr y.1, fun w => y.2 (s2 b w)⟩
      have ka := k.h a ⟨.inl (.inl rfl), na2⟩ _ hl
      have ma := k.n a ⟨.inl (.inl rfl), na2⟩ h3
      have kd := k.h dx ⟨.inl (.inr rfl), nd2⟩ _ h2
      have md := k.n dx ⟨.inl (.inr rfl), nd2⟩ h4
      have eq4 : ∀ b, R4 b ↔ (R b ∧ ¬ R2 b) ∨ R' b := fun b => by
        rw [i4 b, i3 b]
        constructor
        · rintro (⟨z, y⟩ | ⟨z, y⟩ | z)
          · exact .inl ⟨z, fun w => y (s2 b w)⟩
          · exact .inl ⟨s1 b z, y⟩
          · exact .inr z
        · rintro (⟨z, y⟩ | z)
          · by_cases w : R1 b
            · exact .inr (.inl ⟨w, y⟩)
            · exact .inl ⟨z, w⟩
          · exact .inr (.inr z)
      have n4 : ¬ R4 a := fun z => by
        rcases (eq4 a).mp z with z | z
        · exact h7 z.1
        · exact n a z ⟨.inl (.inl rfl), na2⟩
      have n5 : ¬ R4 dx := fun z => by
        rcases (eq4 dx).mp z with z | z
        · exact h8 z.1
        · exact n dx z ⟨.inl (.inr rfl), nd2⟩
      refine ⟨.obj c (putL f t2 fs), _, by simp only [setP, e1, Option.bind_some, e3, Option.map_some], .obj ka kd ma md h5 r4 n4 n5, fun b => ?_⟩
      show (b = a ∨ b = dx) ∨ R4 b ↔ _
      rw [eq4 b]
      constructor
      · rintro (z | ⟨z, y⟩ | z)
        · rcases z with z | z
          · subst z; exact .inl ⟨.inl (.inl rfl), na2⟩
          · subst z; exact .inl ⟨.inl (.inr rfl), nd2⟩
        · exact .inl ⟨.inr z, y⟩
        · exact .inr z
      · rintro (⟨z | z, y⟩ | z)
        · exact .inl z
        · exact .inr (.inl ⟨z, y⟩)
        · exact .inr (.inr z)
end
end Lv

set_option maxHeartbeats 2000000
namespace Lv
open PySem PySem.Spec PyProof.Rows L2
def slot (ρ : Rho) (i : Nat) : Option T := match ρ[i]? with
  | some (some t) => some t
  | _ => none
theorem slot_some {ρ : Rho} {i : Nat} {t : T} (h : slot ρ i = some t) : ρ[i]? = some (some t) := by
  unfold slot at h
  split at h
  · next t' e => cases h; exact e
  · cases h
theorem slot_of {ρ : Rho} {i : Nat} {t : T} (h : ρ[i]? = some (some t)) : slot ρ i = some t := by unfold slot; rw [h]
def getAt (ρ : Rho) (i : Nat) (p : List Sg) : Option T := (slot ρ i).bind (getP p)
def setAt (ρ : Rho) (i : Nat) (p : List Sg) (u : T) : Option Rho := (slot ρ i).bind fun t0 => (setP u p t0).map fun t2 => ρ.set i (some t2)
section
variable {K : PySem.W.Frag} {M H : Hp} {σ : L2.St} {ρ : Rho} {F : Nat → Fp} {i : Nat} {p : List Sg} {t : T} {v v0 : V}
theorem Good.focus (g : Good K M H σ ρ F) (hv : σ[i]? = some (some v0)) (fol : Fol H v0 p v) (e : getAt ρ i p = some t) : ∃ R, Rp K M H t v R ∧ (∀ a, R a → Al F a) ∧
    ∀ M2 H2 t' R', Rp K M2 H2 t' v R' → L2.Same M2 H2 → Kp M M2 H H2 (fun a => Al F a ∧ ¬ R a) → (∀ a, R' a → ¬ (Al F a ∧ ¬ R a)) → ∃ ρ2 F2, setAt ρ i p t' = some ρ2 ∧ Good K M2 H2 σ ρ2 F2 ∧ ∀ a, Al F2 a ↔ (Al F a ∧ ¬ R a) ∨ R' a := by
  unfold getAt at e
  obtain ⟨t0, e0, e1⟩ := Option.bind_eq_some_iff.mp e
  obtain ⟨v1, h1, r0⟩ := g.sl i t0 (slot_some e0)
  rw [hv] at h1; cases h1
  obtain ⟨R, r, s, up⟩ := Rp.focus fol r0 e1
  refine ⟨R, r, fun a z => ⟨i, s a z⟩, fun M2 H2 t' R' r' le k n => ?_⟩
  have only : ∀ j a, j ≠ i → F j a → ¬ R a := fun j a hj z y => hj (g.dj j i a z (s a y))
  obtain ⟨t2, R2, e2, r2, i2⟩ := up M2 H2 t' R' r' (k.sub fun a z => ⟨⟨i, z.1⟩, z.2⟩) fun a z y => n a z ⟨⟨i, y.1⟩, y.2⟩
  have g1 : Good K M2 H2 σ (ρ.set i none) (fun j a => j ≠ i ∧ F j a) := (g.drop i).keep (k.sub fun a ⟨j, hj, z⟩ => ⟨⟨j, z⟩, only j a hj z⟩) le
  have g2 := g1.reput hv r2 fun a z ⟨j, hj, _, y⟩ => by
    rcases (i2 a).mp z with z | z
    · exact hj (g.dj j i a y z.1)
    · exact n a z ⟨⟨j, y⟩, only j a hj y⟩
  rw [List.set_set] at g2
  refine ⟨ρ.set i (some t2), _, by unfold setAt; rw [e0]; simp [e2], g2, fun a => ?_⟩
  constructor
  · rintro ⟨j, z⟩
    by_cases hj : j = i
    · simp only [hj, if_true] at z
      exact ((i2 a).mp z).imp_left fun z => ⟨⟨i, z.1⟩, z.2⟩
    · simp only [hj, if_false] at z
      exact .inl ⟨⟨j, z.2⟩, only j a hj z.2⟩
  · rintro (⟨⟨j, z⟩, y⟩ | z)
    · by_cases hj : j = i
      · subst hj
        exact ⟨j, by simp only [if_true]; exact (i2 a).mpr (.inl ⟨z, y⟩)⟩
      · exact ⟨j, by simp only [hj, if_false]; exact ⟨hj, z⟩⟩
    · exact ⟨i, by simp only [if_true]; exact (i2 a).mpr (.inr z)⟩
theorem setAt_len {ρ2 : Rho} {u : T} (h : setAt ρ i p u = some ρ2) : ρ2.length = ρ.length := by
  unfold setAt at h
  obtain ⟨t0, _, h⟩ := Option.bind_eq_some_iff.mp h
  obtain ⟨t2, _, h⟩ := Option.map_eq_some_iff.mp h
  subst h; simp
/-- the object at a place is written: a list -/
theorem Good.wlist (g : Good K M H σ ρ F) (hv : σ[i]? = some (some v0)) (fol : Fol H v0 p v) {ts ts' : List T} (e : getAt ρ i p = some (.lst ts)) :
    ∃ a vs R, v = .ref a ∧ H a = some (.lst vs) ∧ M a = none ∧ RpL K M H ts vs R ∧ ¬ R a ∧ Al F a ∧ (∀ b, R b → Al F b) ∧
      ∀ vs' R', (RpL K M (upd H a (.lst vs')) ts' vs' R') → ¬ R' a → (∀ b, R' b → Al F b → R b) → ∃ ρ2 F2, setAt ρ i p (.lst ts') = some ρ2 ∧ Good K M (upd H a (.lst vs')) σ ρ2 F2 ∧
        Stp M H (fun b => Al F b ∨ R' b) M (upd H a (.lst vs')) (Al F2) ∧ ∀ b, Al F2 b ↔ (Al F b ∧ ¬ R b) ∨ R' b := by
  obtain ⟨R0, r, s, up⟩ := g.focus hv fol e
  obtain ⟨a, vs, R, rfl, h1, h2, h3, h4, h5⟩ := r.lst_inv
  have ra : R0 a := (h5 a).mpr (.inl rfl)
  refine ⟨a, vs, R, rfl, h1, h2, h3, h4, s a ra, fun b z => s b ((h5 b).mpr (.inr z)), fun vs' R' r' n d => ?_⟩
  have keepH : ∀ b o, b ≠ a → H b = some o → upd H a (.lst vs') b = some o := fun b o ne q => by rw [upd_ne ne]; exact q
  have le : L2.Same M (upd H a (.lst vs')) := fun b o q => keepH b o (fun z => by subst z; rw [h2] at q; cases q) (g.le b o q)
  obtain ⟨ρ2, F2, e2, g2, i2⟩ := up M (upd H a (.lst vs')) (.lst ts') _ (.lst upd_same h2 r' n) le ⟨L2.Same.refl _, fun b z o q => keepH b o (fun y => by subst y; exact z.2 ra) q, fun _ _ q => q⟩ fun b z y => by
    rcases z with z | z
    · subst z; exact y.2 ra
    · exact y.2 ((h5 b).mpr (.inr (d b z y.1)))
  have i3 : ∀ b, Al F2 b ↔ (Al F b ∧ ¬ R b) ∨ R' b := fun b => by
    rw [i2 b]
    constructor
    · rintro (⟨z, y⟩ | z | z)
      · exact .inl ⟨z, fun w => y ((h5 b).mpr (.inr w))⟩
      · subst z; exact .inl ⟨s _ ra, h4⟩
      · exact .inr z
    · rintro (⟨z, y⟩ | z)
      · by_cases w : b = a
        · exact .inr (.inl w)
        · exact .inl ⟨z, fun q => ((h5 b).mp q).elim w y⟩
      · exact .inr (.inr z)
  exact ⟨ρ2, F2, e2, g2, ⟨L2.Same.refl _, fun b o q ne => keepH b o (fun y => by subst y; exact ne (.inl (s _ ra))) q, fun b q1 q2 => absurd q1 q2, fun b z => .inl (((i3 b).mp z).imp And.left id)⟩, i3⟩
end
/-! ### places as expressions -/
def tP (K : PySem.W.Frag) (lp : Rho → Option (Nat × List Sg)) : TE := fun σ H Q => ∃ M ρ F i p, Good K M H σ ρ F ∧ lp ρ = some (i, p) ∧ ∀ M' H' v v0, Ext M H M' H' → σ[i]? = some (some v0) → Fol H' v0 p v → Q v H'
abbrev EP (X : Cx) (e : Expr) (lp : Rho → Option (Nat × List Sg)) : Prop := PE X e (tP X.K lp)
def pV (i : Nat) : Rho → Option (Nat × List Sg) := fun ρ => (slot ρ i).map fun _ => (i, [])
def pAt (f : Str) (lp : Rho → Option (Nat × List Sg)) : Rho → Option (Nat × List Sg) := fun ρ => (lp ρ).bind fun q => match getAt ρ q.1 q.2 with
  | some (.obj c fs) => (lookF f fs).map fun _ => (q.1, q.2 ++ [.at_ f])
  | _ => none
def pIx (lp : Rho → Option (Nat × List Sg)) (f : Rho → Option T) : Rho → Option (Nat × List Sg) := fun ρ => (lp ρ).bind fun q => match getAt ρ q.1 q.2, f ρ with
  | some (.lst ts), some (.fr (.int k)) => (ixN ts.length k).map fun j => (q.1, q.2 ++ [.ix j])
  | _, _ => none
theorem Fol.app {H : Hp} : ∀ {v w u : V} {p q : List Sg}, Fol H v p w → Fol H w q u → Fol H v (p ++ q) u
  | _, _, _, _, _, .nil, h => h
  | _, _, _, _, _, .ix h e t, q => .ix h e (t.app q)
  | _, _, _, _, _, .at_ h e t, q => .at_ h e (t.app q)
theorem RpF.look {K : PySem.W.Frag} {M H : Hp} : ∀ {ts : List (Str × T)} {vs : List (Str × V)} {R : Fp} {f : Str} {t : T}, RpF K M H ts vs R → lookF f ts = some t → ∃ v R', vs.lookup f = some v ∧ Rp K M H t v R'
  | _, _, _, _, _, .nil, e => by cases e
  | _, _, _, f, t, .cons (k := g) (v := v) (vs := vs) h q d, e => by
    by_cases hg : g = f
    · subst hg
      simp [lookF] at e; subst e
      exact ⟨v, _, by simp [List.lookup], h⟩
    · simp only [lookF, hg, if_false] at e
      obtain ⟨v', R', e1, r⟩ := RpF.look q e
      refine ⟨v', R', ?_, r⟩
      rw [List.lookup_cons]
      have : (f == g) = false := by simpa using fun z => hg z.symm
      rw [this]; exact e1
section
variable {X : Cx} {W : WS} {pin : List Nat} {e a b : Expr} {es : List Expr} {pos p : Pos} {lp : Rho → Option (Nat × List Sg)}
theorem ep_var {i : Nat} {x : Str} (h : PE X (.Name x pos) (tVar i)) : EP X (.Name x pos) (pV i) := h.lv fun σ H Q ⟨M, ρ, F, j, p, g, e, q⟩ => by
  obtain ⟨t, e1, e2⟩ := Option.map_eq_some_iff.mp e
  cases e2
  obtain ⟨v, h1, r⟩ := g.sl i t (slot_some e1)
  exact ⟨v, h1, q M H v v (.refl g.le) h1 .nil⟩
/-- o.f, an attribute of an object of the class c -/
theorem ep_attr {f c : Str} (hf : NoAttr X.K (He.ga X.K c) f) (h : EP X e lp) (hb : attributeBase e f X.env (eval e X.env) = eval e X.env := by rfl) : EP X (.Attribute e f pos) (fun ρ => (lp ρ).bind fun q => match getAt ρ q.1 q.2 with
    | some (.obj c' fs) => if c' = c then (lookF f fs).map fun _ => (q.1, q.2 ++ [.at_ f]) else none
    | _ => none) := (pe_fld h hb).lv fun σ H Q ⟨M, ρ, F, j, p', g, e, q⟩ => by
  obtain ⟨⟨i, p⟩, e1, e⟩ := Option.bind_eq_some_iff.mp e
  split at e
  · next c' fs eg =>
    split at e
    · next hc =>
      have hf' : NoAttr X.K (He.ga X.K c') f := by rw [hc]; exact hf
      obtain ⟨t1, el, e2⟩ := Option.map_eq_some_iff.mp e
      cases e2
      refine ⟨M, ρ, F, i, p, g, e1, fun M1 H1 v v0 x1 hv fol => ?_⟩
      obtain ⟨R, r, s, _⟩ := (g.ext x1).focus hv fol eg
      cases r with
      | @obj a dx _ _ vs R' h1 h2 h3 h4 h5 h6 h7 h8 =>
        obtain ⟨v1, R1, ev, r1⟩ := h6.look el
        exact ⟨a, _, dx, vs, v1, rfl, h1, h5, hf', ev, q M1 H1 v1 v0 x1 hv (fol.app (.at_ h1 ev .nil))⟩
    · cases e
  · cases e
theorem ep_ix {f : Rho → Option T} (h : EP X a lp) (hb : EK X b f) (hs : PlainIx b) : EP X (.Subscript a b pos) (pIx lp f) := (pe_ix ix_list h hb hs).lv fun σ H Q ⟨M, ρ, F, j, p', g, e, q⟩ => by
  obtain ⟨⟨i, p⟩, e1, e⟩ := Option.bind_eq_some_iff.mp e
  split at e
  · next ts k eg ek =>
    obtain ⟨j', ej, e2⟩ := Option.map_eq_some_iff.mp e
    cases e2
    refine ⟨M, ρ, F, i, p, g, e1, fun M1 H1 v v0 x1 hv fol => ⟨M1, ρ, F, _, g.ext x1, ek, fun M2 H2 w R2 x2 r2 => ?_⟩⟩
    have fol2 := fol.same x2.h
    obtain ⟨R, r, s, _⟩ := (g.ext (x1.trans x2)).focus hv fol2 eg
    obtain ⟨a, vs, R', rfl, h1, h2, h3, h4, h5⟩ := r.lst_inv
    have hl := h3.length
    obtain ⟨_, hj, _⟩ := ixN_seq ej
    have hj' : j' < vs.length := by omega
    refine ⟨a, vs, k, vs[j'], rfl, r2.fr_inv.1.int_inv, .of h1, ?_, q M2 H2 _ v0 (x1.trans x2) hv (fol2.app (.ix h1 (List.getElem?_eq_getElem hj') .nil))⟩
    unfold atI
    rw [hl, ej]
    exact List.getElem?_eq_getElem hj'
  · cases e
/-- o.f, read -/
def kAttr (c f : Str) (g : Rho → Option T) : Rho → Option T := fun ρ => (g ρ).bind fun t => match t with
  | .obj c' fs => if c' = c then lookF f fs else none
  | _ => none
theorem ek_attr {f c : Str} {g : Rho → Option T} (hf : NoAttr X.K (He.ga X.K c) f) (h : EK X e g) (hb : attributeBase e f X.env (eval e X.env) = eval e X.env := by rfl) : EK X (.Attribute e f pos) (kAttr c f g) := (pe_fld h hb).lv fun σ H Q ⟨M, ρ, F, t, g, e, q⟩ => by
  obtain ⟨u, e1, e⟩ := Option.bind_eq_some_iff.mp e
  split at e
  · next c' fs =>
    split at e
    · next hc =>
      have hf' : NoAttr X.K (He.ga X.K c') f := by rw [hc]; exact hf
      refine ⟨M, ρ, F, _, g, e1, fun M1 H1 v R x1 r => ?_⟩
      cases r with
      | @obj a dx _ _ vs R' h1 h2 h3 h4 h5 h6 h7 h8 =>
        obtain ⟨v1, R1, ev, r1⟩ := h6.look e
        exact ⟨a, _, dx, vs, v1, rfl, h1, h5, hf', ev, q M1 H1 v1 R1 x1 r1⟩
    · cases e
  · cases e
/-! append -/
def sApp0 (i : Nat) (f : Rho → Option (Rs T)) : Rho → Option Out := fun ρ => match slot ρ i with
  | some (.lst _) => ofR (f ρ) fun t ρ1 => (match slot ρ1 i with
    | some (.lst ts) => if ts.length < SZ then some (.nx (ρ1.set i (some (.lst (ts ++ [t]))))) else none
    | _ => none)
  | _ => none
theorem grow_at {M H : Hp} {σ : L2.St} {ρ : Rho} {F : Nat → Fp} {P : Fp} {i : Nat} {pth : List Sg} {v0 v u : V} {ts : List T} {t : T} {R : Fp} {K : PySem.W.Frag} {C : L2.St → Hp → Prop} {ρ2 : Rho} (g : Good K M H σ ρ F) (hv : σ[i]? = some (some v0)) (fol : Fol H v0 pth v) (e : getAt ρ i pth = some (.lst ts)) (hl : ts.length < SZ)
    (r : Rp K M H t u R) (d : ∀ a, R a → ¬ Al F a) (hR : ∀ a, R a → P a) (hF : ∀ a, Al F a → P a) (e2 : setAt ρ i pth (.lst (ts ++ [t])) = some ρ2) (q : wN K pin M H P σ ρ2 C) :
    ∃ l xs y, v = .ref l ∧ [u] = [y] ∧ H l = some (.lst xs) ∧ xs.length < sizeLine ∧ C σ (upd H l (.lst (xs ++ [y]))) := by
  obtain ⟨a, vs, R1, rfl, h1, h2, h3, h4, h5, h6, up⟩ := g.wlist (ts' := ts ++ [t]) hv fol e
  refine ⟨a, vs, u, rfl, rfl, h1, by rw [h3.length, sizeLine_eq]; exact hl, ?_⟩
  have na : ¬ R a := fun z => d a z h5
  have kp : ∀ {R : Fp}, ¬ R a → Kp M M H (upd H a (.lst (vs ++ [u]))) R := fun {R} n => ⟨L2.Same.refl _, fun b r o e => by rw [upd_ne (fun z => by subst z; exact n r)]; exact e, fun _ _ e => e⟩
  obtain ⟨R3, h7, e7⟩ := (h3.keep (kp h4)).snoc (r.keep (kp na)) fun b z y => d b y (h6 b z)
  obtain ⟨ρ3, F3, e3, g3, S3, i3⟩ := up (vs ++ [u]) R3 h7 (fun z => ((e7 a).mp z).elim h4 na) fun b z y => ((e7 b).mp z).elim id fun w => absurd y (d b w)
  rw [e2] at e3; cases e3
  exact q M _ σ F3 (S3.sub (fun b z => z.elim (hF b) fun z => ((e7 b).mp z).elim (fun w => hF b (h6 b w)) (hR b)) fun b z => z) g3 .refl
theorem ss_app0 {i : Nat} {x : Str} {px apos : Pos} {f : Rho → Option (Rs T)} (ho : PE X (.Name x px) (tVar i)) (ha : EE X W e f)
    (hbase : attributeBase (.Name x px) "append" X.env (eval (.Name x px) X.env) = eval (.Name x px) X.env := by rfl) (hfew : ((backTo p (starEach (e :: []) X.env)).all (fun x => !x.1) && (backToKw p (keywordEach [] X.env)).all (fun x => x.1.isSome)
      && decide ((e :: ([] : List Expr)).length + ([] : List Keyword).length + (if ([] : List Keyword).isEmpty then 0 else 1) < 30)) = true := by rfl)
    (hline : (apos.endLine == p.line) = true := by rfl) (hs : starEach (e :: []) X.env = (false, eval e X.env) :: starEach [] X.env := by rfl) (hplain : (backTo p (starEach [] X.env)).any (·.1) = false := by rfl)
    (hs2 : swapsWith (.Call (.Attribute (.Name x px) "append" apos) [e] [] p) none pos.line X.env = pure false := by rfl) : SS X W pin (.Expr (.Call (.Attribute (.Name x px) "append" apos) [e] [] p) pos) (sApp0 i f) :=
  (ps_expr (pe_bm PySem.F.plainAttrs_list PySem.F.slot_list_append PySem.F.type_list_append mt_append ho (pa_cons ha pa_nil hs) hbase hfew hline hs hplain) hs2).lv fun D σ H ⟨M, ρ, F, o, g, e, q⟩ => by
  unfold sApp0 at e
  split at e
  · next ts0 e0 =>
    obtain ⟨v0, h0, r0⟩ := g.sl i _ (slot_some e0)
    refine ⟨v0, h0, ?_, ?_⟩
    · obtain ⟨a, vs, R', rfl, h1, _⟩ := r0.lst_inv
      exact .inl ⟨rfl, _, .of h1⟩
    · rcases ofR_some e with ⟨t, ρ1, e1, e⟩ | ⟨c, ρ1, e1, rfl⟩
      · refine ⟨M, ρ, F, _, g, e1, fun M1 H1 v R F1 S1 g1 r1 d1 => ?_⟩
        split at e
        · next ts e2 =>
          split at e
          · next hl =>
            cases e
            exact grow_at (pin := pin) (P := fun a => R a ∨ Al F1 a) (pth := []) g1 h0 .nil (by unfold getAt; rw [e2]; rfl) hl r1 d1 (fun a z => .inl z) (fun a z => .inr z) (by unfold setAt; rw [e2]; rfl) (q.go S1 .refl)
          · cases e
        · cases e
      · exact ⟨M, ρ, F, _, g, e1, fun M1 H1 F1 S1 g1 => q M1 H1 σ F1 S1 g1 .refl⟩
  · cases e
end
end Lv

set_option maxHeartbeats 2000000
namespace Lv
open PySem PySem.Spec PyProof.Rows L2
section
variable {X : Cx} {W : WS} {pin : List Nat} {e a b : Expr} {es : List Expr} {pos p : Pos} {lp : Rho → Option (Nat × List Sg)}
/-! a value made without touching what stands -/
def tQ (K : PySem.W.Frag) (f : Rho → Option (T × Rho)) : TE := fun σ H Q => ∃ M ρ F t ρ', Good K M H σ ρ F ∧ f ρ = some (t, ρ') ∧ ∀ M' H' v R F', Stp M H (Al F) M' H' (fun a => R a ∨ Al F' a) → L2.Same H H' → Good K M' H' σ ρ' F' → Rp K M' H' t v R → (∀ a, R a → ¬ Al F' a) → Q v H'
abbrev EQ (X : Cx) (e : Expr) (f : Rho → Option (T × Rho)) : Prop := PE X e (tQ X.K f)
def qK (f : Rho → Option T) : Rho → Option (T × Rho) := fun ρ => match f ρ with
  | some (.fr d) => some (.fr d, ρ)
  | _ => none
def qMv (i : Nat) : Rho → Option (T × Rho) := fun ρ => (slot ρ i).map fun t => (t, ρ.set i none)
def qCp (i : Nat) : Rho → Option (T × Rho) := fun ρ => (slot ρ i).bind fun t => t.dat.map fun d => (.fr d, ρ.set i (some (.fr d)))
theorem eq_k {f : Rho → Option T} (h : EK X e f) : EQ X e (qK f) := h.lv fun σ H Q ⟨M, ρ, F, t, ρ', g, e, q⟩ => by
  unfold qK at e
  split at e
  · next d e1 =>
    cases e
    refine ⟨M, ρ, F, _, g, e1, fun M1 H1 v R x1 r => ?_⟩
    have nr := r.fr_inv.2
    exact q M1 H1 v R F (x1.stp fun a z => .inl (z.elim (fun z => absurd z (nr a)) id)) x1.h (g.ext x1) r fun a z => absurd z (nr a)
  · cases e
theorem eq_mv {i : Nat} {x : Str} (h : PE X (.Name x pos) (tVar i)) : EQ X (.Name x pos) (qMv i) := h.lv fun σ H Q ⟨M, ρ, F, t, ρ', g, e, q⟩ => by
  obtain ⟨t', e1, e2⟩ := Option.map_eq_some_iff.mp e
  cases e2
  obtain ⟨v, h1, rp⟩ := g.sl i _ (slot_some e1)
  refine ⟨v, h1, q M H v (F i) _ (.refl fun a z => ?_) (L2.Same.refl _) (g.drop i) rp fun a z => ?_⟩
  · rcases z with z | ⟨j, _, z⟩
    · exact ⟨i, z⟩
    · exact ⟨j, z⟩
  · rintro ⟨j, ne, z'⟩
    exact ne (g.dj j i a z' z)
theorem eq_cp {i : Nat} {x : Str} (h : PE X (.Name x pos) (tVar i)) : EQ X (.Name x pos) (qCp i) := h.lv fun σ H Q ⟨M, ρ, F, t, ρ', g, e, q⟩ => by
  obtain ⟨t', e1, e⟩ := Option.bind_eq_some_iff.mp e
  obtain ⟨d, ed, e2⟩ := Option.map_eq_some_iff.mp e
  cases e2
  obtain ⟨v, h1, rp⟩ := g.sl i _ (slot_some e1)
  have S0 : Stp M H (Al F) M H (fun a => F i a ∨ Al (fun j a => j ≠ i ∧ F j a) a) := .refl fun a z => by
    rcases z with z | ⟨j, _, z⟩
    · exact ⟨i, z⟩
    · exact ⟨j, z⟩
  have dj : ∀ a, F i a → ¬ Al (fun j a => j ≠ i ∧ F j a) a := fun a z ⟨j, ne, z'⟩ => ne (g.dj j i a z' z)
  obtain ⟨S1, le1, kp⟩ := S0.frz rp dj g.le
  have dz := rp.freeze ed
  have g1 := (g.drop i).keep kp le1
  have g2 := g1.reput h1 (.fr dz) (fun a z => z.elim)
  refine ⟨v, h1, q _ H v (fun _ => False) _ (S1.sub (fun _ z => z) fun a z => ?_) (L2.Same.refl _) (by rw [List.set_set] at g2; exact g2) (.fr dz) fun a z => z.elim⟩
  rcases z with z | ⟨j, z⟩
  · exact z.elim
  · by_cases y : j = i
    · simp [y] at z
    · simp only [y, if_false] at z
      exact ⟨j, z⟩
/-- append at a place -/
def sAppP (lp : Rho → Option (Nat × List Sg)) (f : Rho → Option (T × Rho)) : Rho → Option Out := fun ρ => (lp ρ).bind fun q => match getAt ρ q.1 q.2 with
  | some (.lst _) => (f ρ).bind fun r => (match getAt r.2 q.1 q.2 with
    | some (.lst ts) => if ts.length < SZ then (setAt r.2 q.1 q.2 (.lst (ts ++ [r.1]))).map .nx else none
    | _ => none)
  | _ => none
theorem ss_appP {o : Expr} {apos : Pos} {f : Rho → Option (T × Rho)} (ho : EP X o lp) (ha : EQ X e f)
    (hbase : attributeBase o "append" X.env (eval o X.env) = eval o X.env := by rfl) (hfew : ((backTo p (starEach (e :: []) X.env)).all (fun x => !x.1) && (backToKw p (keywordEach [] X.env)).all (fun x => x.1.isSome)
      && decide ((e :: ([] : List Expr)).length + ([] : List Keyword).length + (if ([] : List Keyword).isEmpty then 0 else 1) < 30)) = true := by rfl)
    (hline : (apos.endLine == p.line) = true := by rfl) (hs : starEach (e :: []) X.env = (false, eval e X.env) :: starEach [] X.env := by rfl) (hplain : (backTo p (starEach [] X.env)).any (·.1) = false := by rfl)
    (hs2 : swapsWith (.Call (.Attribute o "append" apos) [e] [] p) none pos.line X.env = pure false := by rfl) : SS X W pin (.Expr (.Call (.Attribute o "append" apos) [e] [] p) pos) (sAppP lp f) :=
  (ps_expr (pe_bm PySem.F.plainAttrs_list PySem.F.slot_list_append PySem.F.type_list_append mt_append ho (pa_cons ha pa_nil hs) hbase hfew hline hs hplain) hs2).lv fun D σ H ⟨M, ρ, F, o, g, e, q⟩ => by
  obtain ⟨⟨i, pth⟩, e1, e⟩ := Option.bind_eq_some_iff.mp e
  split at e
  · next ts0 e0 =>
    obtain ⟨⟨t, ρ1⟩, e2, e⟩ := Option.bind_eq_some_iff.mp e
    split at e
    · next ts e3 =>
      split at e
      · next hl =>
        obtain ⟨ρ2, e4, e5⟩ := Option.map_eq_some_iff.mp e
        subst e5
        refine ⟨M, ρ, F, i, pth, g, e1, fun M1 H1 v v0 x1 hv fol => ⟨?_, M1, ρ, F, t, ρ1, g.ext x1, e2, fun M2 H2 u R F2 S2 sm g2 r2 d2 => ?_⟩⟩
        · obtain ⟨R, r, s, _⟩ := (g.ext x1).focus hv fol e0
          obtain ⟨a, vs, R', rfl, h1, _⟩ := r.lst_inv
          exact .inl ⟨rfl, _, .of h1⟩
        · exact grow_at (pin := pin) (P := fun a => R a ∨ Al F2 a) g2 hv (fol.same sm) e3 hl r2 d2 (fun a z => .inl z) (fun a z => .inr z) e4 (q.go ((x1.stp fun a z => .inl z : Stp M H (Al F) M1 H1 (Al F)).trans S2) .refl)
      · cases e
    · cases e
  · cases e
/-- xs[k] = e at a place -/
def sSetIx (lp : Rho → Option (Nat × List Sg)) (kf : Rho → Option T) (f : Rho → Option (Rs T)) : Rho → Option Out := fun ρ => ofR (f ρ) fun t ρ1 => (lp ρ1).bind fun q => match getAt ρ1 q.1 q.2, kf ρ1 with
  | some (.lst ts), some (.fr (.int k)) => (ixN ts.length k).bind fun j => (setAt ρ1 q.1 q.2 (.lst (ts.set j t))).map .nx
  | _, _ => none
theorem RpL.setAt {K : PySem.W.Frag} {M H : Hp} {ts : List T} {vs : List V} {R : Fp} {j : Nat} {t : T} {v : V} {R2 : Fp} (h : RpL K M H ts vs R) (hj : j < ts.length) (r : Rp K M H t v R2) (d : ∀ a, R a → ¬ R2 a) : ∃ R3, RpL K M H (ts.set j t) (vs.set j v) R3 ∧ ∀ a, R3 a → R a ∨ R2 a := by
  induction h using RpL.rec (motive_1 := fun _ _ _ _ => True) (motive_3 := fun _ _ _ _ => True) (motive_4 := fun _ _ _ _ => True) generalizing j with
  | nil => simp at hj
  | @cons x v' xs vs R0 R' h t' dj _ ih =>
    cases j with
    | zero => exact ⟨_, .cons r t' fun a z y => d a (.inr y) z, fun a z => z.elim .inr fun z => .inl (.inr z)⟩
    | succ j =>
      obtain ⟨R3, h3, e3⟩ := ih (j := j) (by simpa using hj) fun a z => d a (.inr z)
      exact ⟨_, .cons h h3 fun a z y => (e3 a y).elim (dj a z) (d a (.inl z)), fun a z => z.elim (fun z => .inl (.inl z)) fun z => (e3 a z).imp_left .inr⟩
  | _ => trivial
theorem ss_setIx {o ie : Expr} {tpos : Pos} {kf : Rho → Option T} {f : Rho → Option (Rs T)} (he : EE X W e f) (ho : EP X o lp) (hi : EK X ie kf)
    (ha : ∀ v, assign (.Subscript o ie tpos) X.env v = (do
      let ov ← holding [v] (eval o X.env)
      let iv ← holding [v, ov] (eval ie X.env)
      standAt tpos
      holding [v, ov, iv] (setItem ov iv v)
      release [v, ov, iv] []) := by intro _; rfl)
    (hs : swapsWithSole [.Subscript o ie tpos] e pos.line X.env = pure false := by rfl) (hw : swappedStores [.Subscript o ie tpos] e X.env = pure none := by rfl) (h1 : (assignEach [.Subscript o ie tpos] X.env).map (·.2) = [assign (.Subscript o ie tpos) X.env] := by rfl) :
    SS X W pin (.Assign [.Subscript o ie tpos] e pos) (sSetIx lp kf f) := (ps_asg he (pg_sub ho hi set_list ha) hs hw h1).lv fun D σ H h => ts_te h fun M1 H1 t v R F1 ρ1 o P e g1 r1 d1 hR hF q => by
  obtain ⟨⟨i, pth⟩, e1, e⟩ := Option.bind_eq_some_iff.mp e
  split at e
  · next ts k eg ek =>
    obtain ⟨j, ej, e⟩ := Option.bind_eq_some_iff.mp e
    obtain ⟨ρ2, e4, e5⟩ := Option.map_eq_some_iff.mp e
    subst e5
    refine ⟨M1, ρ1, F1, i, pth, g1, e1, fun M2 H2 w v0 x2 hv fol => ⟨M2, ρ1, F1, _, g1.ext x2, ek, fun M3 H3 u R3 x3 r3 => ?_⟩⟩
    have g3 := g1.ext (x2.trans x3)
    have r13 := r1.ext (x2.trans x3)
    obtain ⟨a, vs, R', rfl, h1, h2, h3, h4, h5, h6, up⟩ := g3.wlist (ts' := ts.set j t) hv (fol.same x3.h) eg
    obtain ⟨_, hj, _⟩ := ixN_seq ej
    refine ⟨a, vs, k, j, rfl, r3.fr_inv.1.int_inv, h1, by rw [h3.length]; exact ej, ?_⟩
    have na : ¬ R a := fun z => d1 a z h5
    have kp : ∀ {R : Fp}, ¬ R a → Kp M3 M3 H3 (upd H3 a (.lst (vs.set j v))) R := fun {R} n => ⟨L2.Same.refl _, fun b r o e => by rw [upd_ne (fun z => by subst z; exact n r)]; exact e, fun _ _ e => e⟩
    obtain ⟨R4, h7, e7⟩ := (h3.keep (kp h4)).setAt hj (r13.keep (kp na)) fun b z y => d1 b y (h6 b z)
    obtain ⟨ρ3, F3, e3, g4, S4, i4⟩ := up (vs.set j v) R4 h7 (fun z => (e7 a z).elim h4 na) fun b z y => (e7 b z).elim id fun w => absurd y (d1 b w)
    rw [e4] at e3; cases e3
    refine q M3 _ σ F3 (((x2.trans x3).stp fun a (z : P a) => .inl z : Stp M1 H1 P M3 H3 P).trans (S4.sub (fun b z => z.elim (hF b) fun z => (e7 b z).elim (fun w => hF b (h6 b w)) (hR b)) fun b z => z)) g4 .refl
  · cases e
/-! pop -/
def ePop (lp : Rho → Option (Nat × List Sg)) : Rho → Option (Rs T) := fun ρ => (lp ρ).bind fun q => match getAt ρ q.1 q.2 with
  | some (.lst ts) => (ts[ts.length - 1]?).bind fun t => (setAt ρ q.1 q.2 (.lst ts.dropLast)).map fun ρ2 => .ok t ρ2
  | _ => none
def ePopAt (lp : Rho → Option (Nat × List Sg)) (kf : Rho → Option T) : Rho → Option (Rs T) := fun ρ => (lp ρ).bind fun q => match getAt ρ q.1 q.2, kf ρ with
  | some (.lst ts), some (.fr (.int k)) => if -4611686018427387904 ≤ k ∧ k ≤ 4611686018427387904 then (ixN ts.length k).bind fun j => (ts[j]?).bind fun t => (setAt ρ q.1 q.2 (.lst (ts.eraseIdx j))).map fun ρ2 => .ok t ρ2 else none
  | _, _ => none
theorem RpL.erase {K : PySem.W.Frag} {M H : Hp} {ts : List T} {vs : List V} {R : Fp} {j : Nat} {t : T} {v : V} (h : RpL K M H ts vs R) (ht : ts[j]? = some t) (hv : vs[j]? = some v) : ∃ R1 R3, Rp K M H t v R1 ∧ RpL K M H (ts.eraseIdx j) (vs.eraseIdx j) R3 ∧ (∀ a, R1 a → R a) ∧ (∀ a, R3 a → R a) ∧ ∀ a, R1 a → ¬ R3 a := by
  induction h using RpL.rec (motive_1 := fun _ _ _ _ => True) (motive_3 := fun _ _ _ _ => True) (motive_4 := fun _ _ _ _ => True) generalizing j with
  | nil => simp at ht
  | @cons x v' xs vs R0 R' h t' dj _ ih =>
    cases j with
    | zero =>
      simp at ht hv; subst ht; subst hv
      exact ⟨R0, R', h, t', fun a => .inl, fun a => .inr, dj⟩
    | succ j =>
      obtain ⟨R1, R3, r1, r3, s1, s3, d⟩ := ih (j := j) (by simpa using ht) (by simpa using hv)
      exact ⟨R1, _, r1, .cons h r3 fun a z y => dj a z (s3 a y), fun a z => .inr (s1 a z), fun a z => z.elim .inl fun z => .inr (s3 a z), fun a z y => y.elim (fun y => dj a y (s1 a z)) (d a z)⟩
  | _ => trivial
theorem pop_at {K : PySem.W.Frag} {M H M0 H0 : Hp} {P : Fp} {σ : L2.St} {ρ ρ2 : Rho} {F : Nat → Fp} {i : Nat} {pth : List Sg} {v0 v : V} {ts : List T} {t : T} {j : Nat} {Q : VK} (g : Good K M H σ ρ F) (hv : σ[i]? = some (some v0)) (fol : Fol H v0 pth v) (e : getAt ρ i pth = some (.lst ts)) (et : ts[j]? = some t)
    (e2 : setAt ρ i pth (.lst (ts.eraseIdx j)) = some ρ2) (S0 : Stp M0 H0 P M H (Al F)) (q : ∀ M' H' v R F', Stp M0 H0 P M' H' (fun a => R a ∨ Al F' a) → Good K M' H' σ ρ2 F' → Rp K M' H' t v R → (∀ a, R a → ¬ Al F' a) → Q v H') :
    ∃ l xs y, v = .ref l ∧ H l = some (.lst xs) ∧ xs.length = ts.length ∧ xs[j]? = some y ∧ Q y (upd H l (.lst (xs.eraseIdx j))) := by
  obtain ⟨a, vs, R', rfl, h1, h2, h3, h4, h5, h6, up⟩ := g.wlist (ts' := ts.eraseIdx j) hv fol e
  have hj : j < vs.length := by rw [h3.length]; exact (List.getElem?_eq_some_iff.mp et).1
  obtain ⟨R1, R3, r1, r3, s1, s3, d⟩ := h3.erase et (List.getElem?_eq_getElem hj)
  refine ⟨a, vs, vs[j], rfl, h1, h3.length, List.getElem?_eq_getElem hj, ?_⟩
  have kp : ∀ {R : Fp}, ¬ R a → Kp M M H (upd H a (.lst (vs.eraseIdx j))) R := fun {R} n => ⟨L2.Same.refl _, fun b r o e => by rw [upd_ne (fun z => by subst z; exact n r)]; exact e, fun _ _ e => e⟩
  have n1 : ¬ R1 a := fun z => h4 (s1 a z)
  have n3 : ¬ R3 a := fun z => h4 (s3 a z)
  obtain ⟨ρ3, F3, e3, g4, S4, i4⟩ := up (vs.eraseIdx j) R3 (r3.keep (kp n3)) n3 fun b z _ => s3 b z
  rw [e2] at e3; cases e3
  refine q M _ vs[j] R1 F3 (S0.trans ⟨L2.Same.refl _, fun b o e n => by rw [upd_ne (fun z => n (by rw [z]; exact h5))]; exact e, fun b q1 q2 => absurd q1 q2, fun b z => ?_⟩) g4 (r1.keep (kp n1)) fun b z y => ?_
  · rcases z with z | z
    · exact .inl (h6 b (s1 b z))
    · rcases (i4 b).mp z with z | z
      · exact .inl z.1
      · exact .inl (h6 b (s3 b z))
  · rcases (i4 b).mp y with y | y
    · exact y.2 (s1 b z)
    · exact d b z y
theorem drop_erase {α : Type} : ∀ (l : List α), l.dropLast = l.eraseIdx (l.length - 1)
  | [] => rfl
  | [x] => rfl
  | x :: y :: l => by
    have h := drop_erase (y :: l)
    simp only [List.length_cons, Nat.add_sub_cancel] at h ⊢
    rw [List.dropLast_cons₂, h]
    simp
theorem ee_pop {o : Expr} {apos : Pos} (ho : EP X o lp) (hbase : attributeBase o "pop" X.env (eval o X.env) = eval o X.env := by rfl) (hline : (apos.endLine == p.line) = true := by rfl) : EE X W (.Call (.Attribute o "pop" apos) [] [] p) (ePop lp) :=
  (pe_bm0 PySem.F.plainAttrs_list PySem.F.slot_list_pop PySem.F.type_list_pop mt_pop ho hbase hline).lv fun σ H Q ⟨M, ρ, F, r, g, e, q⟩ => by
  obtain ⟨⟨i, pth⟩, e1, e⟩ := Option.bind_eq_some_iff.mp e
  split at e
  · next ts eg =>
    obtain ⟨t, et, e⟩ := Option.bind_eq_some_iff.mp e
    obtain ⟨ρ2, e4, e5⟩ := Option.map_eq_some_iff.mp e
    subst e5
    refine ⟨M, ρ, F, i, pth, g, e1, fun M1 H1 v v0 x1 hv fol => ?_⟩
    have hd : ts.dropLast = ts.eraseIdx (ts.length - 1) := drop_erase ts
    rw [hd] at e4
    obtain ⟨l, xs, y, rfl, h1, h2, h3, h4⟩ := pop_at (g.ext x1) hv fol eg et e4 (x1.stp fun a z => .inl z : Stp M H (Al F) M1 H1 (Al F)) q
    refine ⟨.inl ⟨rfl, _, .of h1⟩, l, xs, y, rfl, rfl, h1, by rw [h2]; exact h3, ?_⟩
    have hd2 : xs.dropLast = xs.eraseIdx (ts.length - 1) := by rw [← h2]; exact drop_erase xs
    rw [hd2]; exact h4
  · cases e
theorem ee_popAt {o : Expr} {apos : Pos} {kf : Rho → Option T} (ho : EP X o lp) (ha : EK X e kf) (hbase : attributeBase o "pop" X.env (eval o X.env) = eval o X.env := by rfl) (hfew : ((backTo p (starEach (e :: []) X.env)).all (fun x => !x.1) && (backToKw p (keywordEach [] X.env)).all (fun x => x.1.isSome)
      && decide ((e :: ([] : List Expr)).length + ([] : List Keyword).length + (if ([] : List Keyword).isEmpty then 0 else 1) < 30)) = true := by rfl)
    (hline : (apos.endLine == p.line) = true := by rfl) (hs : starEach (e :: []) X.env = (false, eval e X.env) :: starEach [] X.env := by rfl) (hplain : (backTo p (starEach [] X.env)).any (·.1) = false := by rfl) : EE X W (.Call (.Attribute o "pop" apos) [e] [] p) (ePopAt lp kf) :=
  (pe_bm PySem.F.plainAttrs_list PySem.F.slot_list_pop PySem.F.type_list_pop mt_popAt ho (pa_cons ha pa_nil hs) hbase hfew hline hs hplain).lv fun σ H Q ⟨M, ρ, F, r, g, e, q⟩ => by
  obtain ⟨⟨i, pth⟩, e1, e⟩ := Option.bind_eq_some_iff.mp e
  split at e
  · next ts k eg ek =>
   split at e
   · next hk =>
    obtain ⟨j, ej, e⟩ := Option.bind_eq_some_iff.mp e
    obtain ⟨t, et, e⟩ := Option.bind_eq_some_iff.mp e
    obtain ⟨ρ2, e4, e5⟩ := Option.map_eq_some_iff.mp e
    subst e5
    refine ⟨M, ρ, F, i, pth, g, e1, fun M1 H1 v v0 x1 hv fol => ?_⟩
    have tl : tyV X.K "list" v H1 := by
      obtain ⟨R, r, s, _⟩ := (g.ext x1).focus hv fol eg
      obtain ⟨a, vs, R', rfl, h1, _⟩ := r.lst_inv
      exact .inl ⟨rfl, _, .of h1⟩
    refine ⟨tl, M1, ρ, F, _, g.ext x1, ek, fun M2 H2 u R2 x2 r2 => ?_⟩
    obtain ⟨l, xs, y, rfl, h1, h2, h3, h4⟩ := pop_at (g.ext (x1.trans x2)) hv (fol.same x2.h) eg et e4 ((x1.trans x2).stp fun a z => .inl z : Stp M H (Al F) M2 H2 (Al F)) q
    obtain ⟨e6, hj, hlo, hhi⟩ := ixN_seq ej
    exact ⟨l, xs, k, j, y, rfl, by rw [r2.fr_inv.1.int_inv], h1, by omega, by omega, by rw [h2]; exact e6, h3, h4⟩
   · cases e
  · cases e
end
end Lv

set_option maxHeartbeats 2000000
namespace Lv
open PySem PySem.Spec PyProof.Rows L2
def kill (ks : List Nat) (f : Rho → Option Out) : Rho → Option Out := fun ρ => match f ρ with
  | some (.nx ρ1) => some (.nx (wipeR ρ1 ks))
  | some (.ct ρ1) => some (.ct (wipeR ρ1 ks))
  | o => o
def loopW (fc : Rho → Option (Rs Bool)) (fb : Rho → Option Out) : Nat → Rho → Option Out
  | 0, _ => none
  | n + 1, ρ => match fc ρ with
    | some (.ok true ρ1) => (match fb ρ1 with
      | some (.nx ρ2) => loopW fc fb n ρ2
      | some (.ct ρ2) => loopW fc fb n ρ2
      | some (.bk ρ2) => some (.nx ρ2)
      | o => o)
    | some (.ok false ρ1) => some (.nx ρ1)
    | some (.ex c ρ1) => some (.ex c ρ1)
    | none => none
@[irreducible] def big : Nat := 1000000000000
def sWhile (fc : Rho → Option (Rs Bool)) (fb : Rho → Option Out) : Rho → Option Out := loopW fc fb big
def loopF (g : D → Rho → Option Rho) (fb fe : Rho → Option Out) : List D → Rho → Option Out
  | [], ρ => fe ρ
  | d :: ds, ρ => match g d ρ with
    | some ρ1 => (match fb ρ1 with
      | some (.nx ρ2) => loopF g fb fe ds ρ2
      | some (.ct ρ2) => loopF g fb fe ds ρ2
      | some (.bk ρ2) => some (.nx ρ2)
      | o => o)
    | none => none
def sFor (fi : Rho → Option (Rs (List D))) (g : D → Rho → Option Rho) (fb : Rho → Option Out) : Rho → Option Out := fun ρ => ofR (fi ρ) fun ds ρ1 => loopF g fb sNil ds ρ1
def sForE (fi : Rho → Option (Rs (List D))) (g : D → Rho → Option Rho) (fb fe : Rho → Option Out) : Rho → Option Out := fun ρ => ofR (fi ρ) fun ds ρ1 => loopF g fb fe ds ρ1
section
variable {K : PySem.W.Frag} {M H : Hp} {σ : L2.St} {ρ : Rho} {F : Nat → Fp}
theorem Good.wipeρ (g : Good K M H σ ρ F) : ∀ vs : List Nat, ∃ F', Good K M H σ (wipeR ρ vs) F' ∧ ∀ a, Al F' a → Al F a
  | [] => ⟨F, g, fun _ z => z⟩
  | v :: vs => by
    obtain ⟨F1, g1, s1⟩ := g.wipeρ vs
    exact ⟨_, g1.drop v, fun a ⟨j, _, z⟩ => s1 a ⟨j, z⟩⟩
end
section
variable {X : Cx} {W : WS} {pin : List Nat} {e a b c tg iter : Expr} {es : List Expr} {pos p : Pos} {body orelse : List Stmt}
theorem wN_kill {K : PySem.W.Frag} {M H : Hp} {P : Fp} {σ : L2.St} {ρ : Rho} {ks : List Nat} {C : L2.St → Hp → Prop} (h : wN K pin M H P σ (wipeR ρ ks) C) : wN K pin M H P σ ρ C := fun M' H' σ' F' S g p => by
  obtain ⟨F2, g2, s2⟩ := g.wipeρ ks
  exact h M' H' σ' F2 (S.sub (fun _ z => z) s2) g2 p
theorem sb_kill {f : Rho → Option Out} (ks : List Nat) (h : SB X W pin body f) : SB X W pin body (kill ks f) := h.lv fun D σ H ⟨M, ρ, F, o, g, e, q⟩ => by
  unfold kill at e
  split at e
  · next ρ1 e1 => cases e; exact ⟨M, ρ, F, _, g, e1, wN_kill q⟩
  · next ρ1 e1 => cases e; exact ⟨M, ρ, F, _, g, e1, wN_kill q⟩
  · exact ⟨M, ρ, F, o, g, e, q⟩
theorem ts_while {K : PySem.W.Frag} {fc : Rho → Option (Rs Bool)} {fb : Rho → Option Out} {D : Ends} {σ : L2.St} {H : Hp} {n : Nat} (h : tS K W pin (loopW fc fb n) D σ H) : tWhile (tT K W fc) (tS K W pin fb) D σ H := by
  obtain ⟨M, ρ, F, o, g, e, q⟩ := h
  refine ⟨fun m σ' H' => ∃ M' ρ' F', Good K M' H' σ' ρ' F' ∧ loopW fc fb m ρ' = some o ∧ wO K W pin M' H' (Al F') σ' D o, ⟨n, M, ρ, F, g, e, q⟩, fun m σ1 H1 ⟨M1, ρ1, F1, g1, e1, q1⟩ => ?_⟩
  cases m with
  | zero => cases e1
  | succ m =>
    simp only [loopW] at e1
    split at e1
    · next ρ2 ec =>
      refine ⟨M1, ρ1, F1, _, g1, ec, fun M2 H2 F2 S2 g2 => ?_⟩
      refine iteT ?_
      refine ⟨fun σ' H' => ∃ M' ρ' F', Good K M' H' σ' ρ' F' ∧ loopW fc fb m ρ' = some o ∧ wO K W pin M' H' (Al F') σ' D o, fun σ' H' z => ⟨m, Nat.lt_succ_self m, z⟩, ?_⟩
      split at e1
      · next ρ3 eb => exact ⟨M2, ρ2, F2, _, g2, eb, fun M3 H3 σ3 F3 S3 g3 p3 => ⟨M3, ρ3, F3, g3, e1, q1.go (S2.trans S3) p3⟩⟩
      · next ρ3 eb => exact ⟨M2, ρ2, F2, _, g2, eb, fun M3 H3 σ3 F3 S3 g3 p3 => ⟨M3, ρ3, F3, g3, e1, q1.go (S2.trans S3) p3⟩⟩
      · next ρ3 eb =>
        cases e1
        exact ⟨M2, ρ2, F2, _, g2, eb, (q1.go S2 .refl : wO K W pin M2 H2 (Al F2) σ1 D (.nx ρ3))⟩
      · next h1 h2 h3 =>
        refine ⟨M2, ρ2, F2, o, g2, e1, ?_⟩
        have q2 := q1.go S2 (.refl (pin := pin))
        cases o with
        | nx ρ3 => exact absurd e1 (h1 ρ3)
        | ct ρ3 => exact absurd e1 (h2 ρ3)
        | bk ρ3 => exact absurd e1 (h3 ρ3)
        | rt t ρ3 => exact q2
        | ex c ρ3 => exact q2
    · next ρ2 ec =>
      cases e1
      refine ⟨M1, ρ1, F1, _, g1, ec, fun M2 H2 F2 S2 g2 => ?_⟩
      refine iteF ?_
      exact q1 M2 H2 σ1 F2 S2 g2 .refl
    · next c ρ2 ec =>
      cases e1
      exact ⟨M1, ρ1, F1, _, g1, ec, fun M2 H2 F2 S2 g2 => q1 M2 H2 σ1 F2 S2 g2 .refl⟩
    · cases e1
theorem ss_while {fc : Rho → Option (Rs Bool)} {fb : Rho → Option Out} (hp : PassesOwn (model X.prog X.w) X.A X.env X.xe) (hc : ET X W c fc) (hb : SB X W pin body fb) : SS X W pin (.While c body [] pos) (sWhile fc fb) := (ps_while hp hc hb).lv fun D σ H h => ts_while h
theorem ts_for {K : PySem.W.Frag} {fi : Rho → Option (Rs (List D))} {as : List Nat} {g : D → Rho → Option Rho} {fb fe : Rho → Option Out} {D : Ends} {σ : L2.St} {H : Hp} (hp : ∀ j ∈ pin, j ∉ as) (h : tS K W pin (sForE fi g fb fe) D σ H) : tForE (tI K W fi) (tG K as g) (tS K W pin fb) (tS K W pin fe) D σ H := by
  obtain ⟨M, ρ, F, o, g0, e, q⟩ := h
  rcases ofR_some e with ⟨ds, ρ1, e1, e⟩ | ⟨c, ρ1, e1, rfl⟩
  · refine ⟨M, ρ, F, _, g0, e1, fun M1 H1 F1 J S1 g1 its hl => ?_⟩
    refine ⟨fun i m σ' H' => m + i = ds.length ∧ ∃ M' ρ' F', Good K M' H' σ' ρ' F' ∧ L2.Same M1 M' ∧ loopF g fb fe (ds.drop i) ρ' = some o ∧ wO K W pin M' H' (Al F') σ' D o, ⟨ds.length, rfl, M1, ρ1, F1, g1, L2.Same.refl _, by simpa using e, q.go S1 .refl⟩, ?_⟩
    rintro i m σ1 H2 ⟨hm, M2, ρ2, F2, g2, mm, e2, q2⟩
    have its2 := its M2 H2 mm g2.le i
    by_cases hi : i < ds.length
    · refine .inr ⟨its2.1 hi, fun σ' H' => m ≠ 0 ∧ (m - 1) + (i + 1) = ds.length ∧ ∃ M' ρ' F', Good K M' H' σ' ρ' F' ∧ L2.Same M1 M' ∧ loopF g fb fe (ds.drop (i + 1)) ρ' = some o ∧ wO K W pin M' H' (Al F') σ' D o, fun σ' H' ⟨h0, h1, h2⟩ => ⟨m - 1, by omega, h1, h2⟩, fun x H3 y => ?_⟩
      have hm0 : m ≠ 0 := by omega
      obtain ⟨M3, x3, dz⟩ := its2.2.2 x H3 ds[i] (List.getElem?_eq_getElem hi) y
      rw [ds_drop hi] at e2
      simp only [loopF] at e2
      split at e2
      · next ρ3 eg =>
        refine ⟨M3, ρ2, F2, _, ρ3, g2.ext x3, dz, eg, fun σ4 F4 g4 s4 k4 _ => ?_⟩
        have S4 : Stp M2 H2 (Al F2) M3 H3 (Al F4) := (x3.stp fun a z => .inl (s4 a z))
        have p4 : Pin pin σ1 σ4 := fun j hj => k4 j (hp j hj)
        have q4 := q2.go S4 p4
        split at e2
        · next ρ5 eb => exact ⟨M3, ρ3, F4, _, g4, eb, fun M5 H5 σ5 F5 S5 g5 p5 => ⟨hm0, by omega, M5, ρ5, F5, g5, (mm.trans x3.m).trans S5.m, e2, q4.go S5 p5⟩⟩
        · next ρ5 eb => exact ⟨M3, ρ3, F4, _, g4, eb, fun M5 H5 σ5 F5 S5 g5 p5 => ⟨hm0, by omega, M5, ρ5, F5, g5, (mm.trans x3.m).trans S5.m, e2, q4.go S5 p5⟩⟩
        · next ρ5 eb =>
          cases e2
          exact ⟨M3, ρ3, F4, _, g4, eb, q4⟩
        · next h1 h2 h3 =>
          refine ⟨M3, ρ3, F4, o, g4, e2, ?_⟩
          cases o with
          | nx ρ3 => exact absurd e2 (h1 ρ3)
          | ct ρ3 => exact absurd e2 (h2 ρ3)
          | bk ρ3 => exact absurd e2 (h3 ρ3)
          | rt t ρ3 => exact q4
          | ex c ρ3 => exact q4
      · cases e2
    · refine .inl ⟨its2.2.1 (by omega), ?_⟩
      rw [List.drop_eq_nil_of_le (by omega)] at e2
      exact ⟨M2, ρ2, F2, o, g2, e2, q2⟩
  · exact ⟨M, ρ, F, _, g0, e1, fun M1 H1 F1 S1 g1 => q M1 H1 σ F1 S1 g1 .refl⟩
theorem tForE_nil {wi : TI} {g : TG} {tb : TS} {D : Ends} {σ : L2.St} {H : Hp} {K : PySem.W.Frag} (h : tForE wi g tb (tS K W pin sNil) D σ H) (hm : ∀ {σ H} {R R' : It → Hp → Prop}, wi σ H R → (∀ J H, R J H → R' J H) → wi σ H R') : tFor wi g tb D σ H :=
  hm h fun J H1 ⟨Wv, h0, hs⟩ => ⟨Wv, h0, fun i m σ H w => (hs i m σ H w).imp_left fun z => ⟨z.1, ts_nx z.2⟩⟩
theorem tI_mono {K : PySem.W.Frag} {fi : Rho → Option (Rs (List D))} {σ : L2.St} {H : Hp} {R R' : It → Hp → Prop} (h : tI K W fi σ H R) (i : ∀ J H, R J H → R' J H) : tI K W fi σ H R' := by
  obtain ⟨M, ρ, F, r, g, e, q⟩ := h
  refine ⟨M, ρ, F, r, g, e, ?_⟩
  cases r with
  | ok ds ρ' => exact fun M' H' F' J S g' it hl => i J H' (q M' H' F' J S g' it hl)
  | ex c ρ' => exact q
theorem ss_for {fi : Rho → Option (Rs (List D))} {as : List Nat} {g : D → Rho → Option Rho} {fb : Rho → Option Out} (hpi : ∀ j ∈ pin, j ∉ as) (hp : PassesOwn (model X.prog X.w) X.A X.env X.xe) (hc : X.calm = true) (hi : EI X W tg iter fi) (hg : EG X as tg g) (hb : SB X W pin body fb)
    (hs : ∀ x, foldedSetIterable iter X.env x = pure x := by intro _; rfl) : SS X W pin (.For tg iter body [] pos) (sFor fi g fb) := (ps_for hp hc hi hg hb hs).lv fun D σ H h => tForE_nil (ts_for hpi h) fun h i => tI_mono h i
theorem ss_forE {fi : Rho → Option (Rs (List D))} {as : List Nat} {g : D → Rho → Option Rho} {fb fe : Rho → Option Out} (hpi : ∀ j ∈ pin, j ∉ as) (hp : PassesOwn (model X.prog X.w) X.A X.env X.xe) (hc : X.calm = true) (hi : EI X W tg iter fi) (hg : EG X as tg g) (hb : SB X W pin body fb) (ho : SB X W pin orelse fe)
    (hs : ∀ x, foldedSetIterable iter X.env x = pure x := by intro _; rfl) : SS X W pin (.For tg iter body orelse pos) (sForE fi g fb fe) := (ps_forE hp hc hi hg hb ho hs).lv fun D σ H h => ts_for hpi h
/-! raise -/
def sRaise (c : Str) : Rho → Option Out := fun ρ => some (.ex c ρ)
theorem ss_raise {x m : Str} {j : Nat} {px p2 pos2 : Pos} (tk : Takes X (wx X.K W)) (hc : X.calm = true) (q : PySem.W.excIn X.K (He.ga X.K x) He.veBase "ValueError.__new__" = true) (gC : X.mg x = some (.ref (He.ga X.K x))) (kC : PySem.W.keepIn X.K (.ref (He.ga X.K x)) = true)
    (s1 : PySem.W.subIn X.K (.ref (He.ga X.K x)) (.type "BaseException") = some true) (s2 : PySem.W.typeIn X.K (.ref (He.ga X.K x)) = some (.type "type")) (hg : Gl X x) (hdb : (x == ("__debug__" : Str)) = false := by decide) :
    SS X W pin (.Raise (some (.Call (.Name x px) [.Constant (.str m) j p2] [] pos2)) none pos) (sRaise x) := (ps_raise hc tk (pmk_own PySem.F.excBase_ValueError q gC kC (raises_own s1 s2) hg hdb)).lv fun D σ H ⟨M, ρ, F, o, g, e, q⟩ => by
  cases e
  exact ⟨x, rfl, rfl, q M H σ F (.refl fun _ z => z) g .refl⟩
end
/-! ### defs -/
def frO : T → Option T
  | .fr d => some (.fr d)
  | _ => none
def outs (pin : List Nat) (ρ : Rho) : List T → Nat → List (Option T)
  | [], _ => []
  | t :: r, j => (if j ∈ pin then slot ρ j else frO t) :: outs pin ρ r (j + 1)
def semD (n m : Nat) (pin : List Nat) (body : Rho → Option Out) : List T → Option Ret := fun ts => if ts.length = n then (match body (ts.map some ++ List.replicate m none) with
  | some (.rt t ρ) => some (.ok t (outs pin ρ ts 0))
  | some (.nx ρ) => some (.ok (.fr .none) (outs pin ρ ts 0))
  | some (.ex c _) => some (.ex c)
  | _ => none) else none
theorem outs_len {pin : List Nat} {ρ : Rho} : ∀ (ts : List T) (j : Nat), (outs pin ρ ts j).length = ts.length
  | [], _ => rfl
  | _ :: r, j => by simp [outs, outs_len r]
theorem outs_get {pin : List Nat} {ρ : Rho} : ∀ (ts : List T) (j i : Nat) (t : T), (outs pin ρ ts j)[i]? = some (some t) → (j + i ∈ pin ∧ slot ρ (j + i) = some t) ∨ ∃ d, t = .fr d ∧ ts[i]? = some (.fr d)
  | [], _, _, _, e => by simp [outs] at e
  | u :: r, j, 0, t, e => by
    simp only [outs, List.getElem?_cons_zero, Option.some.injEq] at e
    split at e
    · next h => exact .inl ⟨h, e⟩
    · cases u with
      | fr d => cases e; exact .inr ⟨d, rfl, rfl⟩
      | _ => cases e
  | u :: r, j, i + 1, t, e => by
    simp only [outs, List.getElem?_cons_succ] at e
    rcases outs_get r (j + 1) i t e with h | h
    · exact .inl (by rw [show j + (i + 1) = j + 1 + i by omega]; exact h)
    · exact .inr (by simpa using h)
section
variable {K : PySem.W.Frag} {M H : Hp}
theorem Good.start {vs : List V} {ts : List T} {Fs : Nat → Fp} {N : List Str} {m : Nat} (g : Good K M H (vs.map some) (ts.map some) Fs) (hm : N.length = ts.length + m) : Good K M H (L2.start N vs) (ts.map some ++ List.replicate m none) Fs := by
  have hl : vs.length = ts.length := by have := g.len; simpa using this.symm
  have e : L2.start N vs = vs.map some ++ List.replicate m none := by unfold L2.start; rw [hl, hm]; simp
  rw [e]
  refine ⟨g.le, by simp [hl], fun i t h => ?_, fun i h a z => ?_, g.dj⟩
  · by_cases hi : i < ts.length
    · rw [List.getElem?_append_left (by simpa using hi)] at h
      obtain ⟨v, h1, r⟩ := g.sl i t h
      exact ⟨v, by rw [List.getElem?_append_left (by simpa [hl] using hi)]; exact h1, r⟩
    · rw [List.getElem?_append_right (by simpa using hi), List.getElem?_replicate] at h
      split at h <;> cases h
  · refine g.em i (fun t e => h t ?_) a z
    have hi : i < ts.length := by
      have := (List.getElem?_eq_some_iff.mp e).1
      simpa using this
    rw [List.getElem?_append_left (by simpa using hi)]; exact e
theorem Good.outs {vs : List V} {ts : List T} {Fs F : Nat → Fp} {N : List Str} {m : Nat} {σ' : L2.St} {ρ' : Rho} {M' H' : Hp} {pin : List Nat} (g : Good K M H (vs.map some) (ts.map some) Fs) (mm : L2.Same M M') (g' : Good K M' H' σ' ρ' F) (p : Pin pin (L2.start N vs) σ') (hm : N.length = ts.length + m) :
    ∃ F', Good K M' H' (vs.map some) (Lv.outs pin ρ' ts 0) F' ∧ ∀ a, Al F' a → Al F a := by
  have hl : vs.length = ts.length := by have := g.len; simpa using this.symm
  have hst : ∀ i, i < vs.length → (L2.start N vs)[i]? = (vs.map some)[i]? := fun i hi => by unfold L2.start; rw [List.getElem?_append_left (by simpa using hi)]
  refine ⟨fun i a => (i ∈ pin ∧ i < ts.length) ∧ F i a, ⟨g'.le, by simp [outs_len, hl], fun i t e => ?_, fun i h a z => ?_, fun i j a y z => g'.dj i j a y.2 z.2⟩, fun a ⟨i, _, z⟩ => ⟨i, z⟩⟩
  · have hi : i < ts.length := by
      have := (List.getElem?_eq_some_iff.mp e).1
      rwa [outs_len] at this
    rcases outs_get ts 0 i t e with ⟨hp, es⟩ | ⟨d, rfl, et⟩
    · rw [Nat.zero_add] at hp es
      obtain ⟨v, h1, r⟩ := g'.sl i t (slot_some es)
      rw [p i hp, hst i (by omega)] at h1
      refine ⟨v, h1, ?_⟩
      have e2 : (fun a => (i ∈ pin ∧ i < ts.length) ∧ F i a) = F i := funext fun a => by simp [hp, hi]
      rw [e2]; exact r
    · obtain ⟨v, h1, r⟩ := g.sl i (.fr d) (by rw [List.getElem?_map, et]; rfl)
      have dz := r.fr_inv.1.mono mm
      by_cases hp : i ∈ pin
      · cases es : slot ρ' i with
        | none =>
          refine ⟨v, h1, ?_⟩
          have e2 : (fun a => (i ∈ pin ∧ i < ts.length) ∧ F i a) = fun _ => False := funext fun a => by
            have := g'.em i (fun t e => by rw [slot_of e] at es; cases es) a
            simp [this]
          rw [e2]; exact .fr dz
        | some t' =>
          have e3 : (Lv.outs pin ρ' ts 0)[i]? = some (some t') := by
            have key : ∀ (ts : List T) (j i : Nat), i < ts.length → j + i ∈ pin → (Lv.outs pin ρ' ts j)[i]? = some (slot ρ' (j + i)) := by
              intro ts
              induction ts with
              | nil => intro j i h; simp at h
              | cons u r ih =>
                intro j i h hp
                cases i with
                | zero => simp [Lv.outs, show j ∈ pin by simpa using hp]
                | succ i =>
                  simp only [Lv.outs, List.getElem?_cons_succ]
                  rw [ih (j + 1) i (by simpa using h) (by rw [show j + 1 + i = j + (i + 1) by omega]; exact hp)]
                  rw [show j + 1 + i = j + (i + 1) by omega]
            rw [key ts 0 i hi (by simpa using hp), Nat.zero_add, es]
          rw [e] at e3
          cases e3
          obtain ⟨v2, h2, r2⟩ := g'.sl i _ (slot_some es)
          rw [p i hp, hst i (by omega)] at h2
          rw [h1] at h2; cases h2
          refine ⟨v, h1, ?_⟩
          have e2 : (fun a => (i ∈ pin ∧ i < ts.length) ∧ F i a) = F i := funext fun a => by simp [hp, hi]
          rw [e2]; exact r2
      · refine ⟨v, h1, ?_⟩
        have e2 : (fun a => (i ∈ pin ∧ i < ts.length) ∧ F i a) = fun _ => False := funext fun a => by simp [hp]
        rw [e2]; exact .fr dz
  · obtain ⟨⟨hp, hi⟩, z⟩ := z
    cases es : slot ρ' i with
    | none => exact g'.em i (fun t e => by rw [slot_of e] at es; cases es) a z
    | some t' =>
      refine h t' ?_
      have key : ∀ (ts : List T) (j i : Nat), i < ts.length → j + i ∈ pin → (Lv.outs pin ρ' ts j)[i]? = some (slot ρ' (j + i)) := by
        intro ts
        induction ts with
        | nil => intro j i h; simp at h
        | cons u r ih =>
          intro j i h hp
          cases i with
          | zero => simp [Lv.outs, show j ∈ pin by simpa using hp]
          | succ i =>
            simp only [Lv.outs, List.getElem?_cons_succ]
            rw [ih (j + 1) i (by simpa using h) (by rw [show j + 1 + i = j + (i + 1) by omega]; exact hp)]
            rw [show j + 1 + i = j + (i + 1) by omega]
      rw [key ts 0 i hi (by simpa using hp), Nat.zero_add, es]
end
/-- the wish of a def's body about exceptions -/
abbrev wDef (K : PySem.W.Frag) (E : XK) : WS := fun c _ H => E (.ref (He.ga K c)) none H
section
variable {P : Program} {w : World} {K : PySem.W.Frag} {mg : Str → Option Value} {base : Heap} {x qual : Str} {params : Arguments} {body : List Stmt} {scope : Scope} {f : Addr} {fd : FuncData}
theorem fn_ok {N ps : List Str} {k n m : Nat} {pin : List Nat} {fb : Rho → Option Out} (F : FunD K x qual params body scope [] [] f fd) (S : FnScope N ps scope) (hn : ps.length = n) (hm : N.length = n + m)
    (hbody : ∀ (cdv : Value) (A : Around) (outer : List Env) (s : Shared) (H : Hp) (E : XK), Room k (A.deeper (envOfC qual scope s.heap.objs.size f cdv)) →
      SB (cxOf (L2.CX P w) P w K mg base N qual scope f cdv A outer s H E) (wDef K E) pin body fb) : FnOk P w K mg base (L2.CX P w) (k + 1) f fd ps (SpT K (semD n m pin fb)) := by
  refine F.ok S (fun vs H Q E h => ?_) fun cdv A outer s H vs Q E hr h => ⟨_, hbody cdv A outer s H E hr, ?_⟩
  · obtain ⟨M, ts, Fs, r, g, e, _⟩ := h
    unfold semD at e
    split at e
    · next hl =>
      have := g.len
      simp at this
      omega
    · cases e
  · obtain ⟨M, ts, Fs, r, g, e, q⟩ := h
    unfold semD at e
    split at e
    · next hl =>
      have hm' : N.length = ts.length + m := by omega
      have g0 := g.start hm'
      split at e
      · next t ρ eb =>
        cases e
        refine ⟨M, _, Fs, _, g0, eb, fun M' H' σ' v R F' S g' p rp d => ?_⟩
        obtain ⟨F2, g2, s2⟩ := g.outs S.m g' p hm'
        exact q M' H' v R F2 (S.sub (fun _ z => z) fun a z => z.imp_right (s2 a)) g2 rp fun a z y => d a z (s2 a y)
      · next ρ eb =>
        cases e
        refine ⟨M, _, Fs, _, g0, eb, fun M' H' σ' F' S g' p => ?_⟩
        obtain ⟨F2, g2, s2⟩ := g.outs S.m g' p hm'
        exact q M' H' .non (fun _ => False) F2 (S.sub (fun _ z => z) fun a z => z.elim False.elim (s2 a)) g2 (.fr .non) fun a z => z.elim
      · next c ρ eb =>
        cases e
        exact ⟨M, _, Fs, _, g0, eb, fun M' H' σ' F' S g' p => q M' H' (S.sub (fun _ z => z) fun a z => z.elim) g'.le⟩
      · cases e
    · cases e
theorem tk_def {N : List Str} {cdv : Value} {A : Around} {outer : List Env} {s : Shared} {H : Hp} {E : XK} : Takes (cxOf (L2.CX P w) P w K mg base N qual scope f cdv A outer s H E) (wx K (wDef K E)) :=
  (takes_of (X := cxOf (L2.CX P w) P w K mg base N qual scope f cdv A outer s H E) (E := E) rfl rfl rfl rfl).imp fun c d σ H ⟨c', e1, e2, h⟩ => by subst e1; subst e2; exact h
/-- a def's promise by another function that agrees with it where it says something -/
theorem fn_sem {CX : CXT} {k : Nat} {ps : List Str} {sem sem' : List T → Option Ret} (F : FnOk P w K mg base CX k f fd ps (SpT K sem)) (h : ∀ ts r, sem' ts = some r → sem ts = some r) : FnOk P w K mg base CX k f fd ps (SpT K sem') :=
  F.imp fun vs H Q E ⟨M, ts, Fs, r, g, e, q⟩ => ⟨M, ts, Fs, r, g, h ts r e, q⟩
end
end Lv

set_option maxHeartbeats 2000000
namespace Lv
open PySem PySem.Spec PyProof.Rows L2
/-- a def by its name: what its calls do -/
structure FOk (P : Program) (w : World) (K : PySem.W.Frag) (mg : Str → Option Value) (base : Heap) (k : Nat) (x : Str) (ps : List Str) (sem : List T → Option Ret) : Prop where
  ex : ∃ f fd, FnOk P w K mg base (L2.CX P w) k f fd ps (SpT K sem) ∧ mg x = some (.ref f) ∧ PySem.W.keepIn K (.ref f) = true ∧ Binds K fd ps []
section
variable {X : Cx} {W : WS} {e a b : Expr} {es : List Expr} {pos p : Pos} {k : Nat} {ps : List Str} {sem : List T → Option Ret} {x : Str}
theorem ek_callF {g : Rho → Option (List T)} (F : FOk X.prog X.w X.K X.mg X.base k x ps sem) (hr : Room k X.A) (hg : Gl X x) (ha : AK X (e :: es) g) (hdb : (x == ("__debug__" : Str)) = false := by decide)
    (he : starEach (e :: es) X.env = (false, eval e X.env) :: starEach es X.env := by rfl) (hpl : (backTo pos (starEach es X.env)).any (·.1) = false := by rfl) : EK X (.Call (.Name x p) (e :: es) [] pos) (kCall sem g) := by
  obtain ⟨f, fd, h1, h2, h3, h4⟩ := F.ex
  exact ek_call h1 hr hg h2 h3 h4 ha hdb he hpl
theorem ee_callF {g : Rho → Option (Rs (List Ar))} (tk : Takes X (wx X.K W)) (F : FOk X.prog X.w X.K X.mg X.base k x ps sem) (hr : Room k X.A) (hg : Gl X x) (ha : AE X W (e :: es) g) (hdb : (x == ("__debug__" : Str)) = false := by decide)
    (he : starEach (e :: es) X.env = (false, eval e X.env) :: starEach es X.env := by rfl) (hpl : (backTo pos (starEach es X.env)).any (·.1) = false := by rfl) : EE X W (.Call (.Name x p) (e :: es) [] pos) (eCall sem g) := by
  obtain ⟨f, fd, h1, h2, h3, h4⟩ := F.ex
  exact ee_call tk h1 hr hg h2 h3 h4 ha hdb he hpl
theorem ek_gint {i : Int} (hg : Gl X x) (hm : ∃ t, X.mg x = some (.int i t)) (hd : (x == ("__debug__" : Str)) = false := by decide) : EK X (.Name x pos) (kC (.int i)) := by
  obtain ⟨t, h⟩ := hm
  exact ek_c (pe_glob (v := .int i) hg h ⟨t, rfl⟩ hd) fun _ => .int i
theorem takes00 : Takes X (wx X.K W0) := (takes0 (X := X)).imp fun c d σ H ⟨_, _, _, h⟩ => h
def opAddI : T → T → Option T := opInt (fun _ _ => true) (fun a b => a + b)
theorem ip_addA : PIp X .Add (rOp2 X.K opAddI) := op_int (f := inplaceOp .Add) (C := fun _ _ => True) (fun pins s σ H x y v u Q I rx ry ⟨i, j, a, b, _, q⟩ => iop_add pins s σ H x y v u Q I rx ry ⟨i, j, a, b, q⟩) fun _ _ _ => trivial
theorem ip_subA : PIp X .Sub (rOp2 X.K opSub) := op_int (f := inplaceOp .Sub) (C := fun _ _ => True) (fun pins s σ H x y v u Q I rx ry ⟨i, j, a, b, _, q⟩ => iop_sub pins s σ H x y v u Q I rx ry ⟨i, j, a, b, q⟩) fun _ _ _ => trivial
end
section
variable {P : Program} {w : World} {K : PySem.W.Frag} {mg : Str → Option Value} {base : Heap} {x : Str} {params : Arguments} {body : List Stmt} {scope : Scope}
/-- the same, over what a module's facts tell of the def -/
abbrev DefAt (K : PySem.W.Frag) (mg : Str → Option Value) (x : Str) (params : Arguments) (body : List Stmt) (scope : Scope) : Prop := (∃ fd, FunD K x x params body scope [] [] (He.ga K x) fd) ∧ mg x = some (.ref (He.ga K x))
theorem fok {N ps : List Str} {k n m : Nat} {pin : List Nat} {fb : Rho → Option Out} (D : DefAt K mg x params body scope) (S : FnScope N ps scope) (hn : ps.length = n) (hm : N.length = n + m)
    (hb : ∀ (kV doc pm : Value) (an : Option Addr) (cdv ct : Value) (us : List Value), us.length = ps.length → bindArgs (PySem.W.fnOf x x params body scope .none kV doc pm an cdv ct) ⟨us, []⟩ = pure (ps.zip us))
    (hbody : ∀ (cdv : Value) (A : Around) (outer : List Env) (s : Shared) (H : Hp) (E : XK), Room k (A.deeper (envOfC x scope s.heap.objs.size (He.ga K x) cdv)) →
      SB (cxOf (L2.CX P w) P w K mg base N x scope (He.ga K x) cdv A outer s H E) (wDef K E) pin body fb) : FOk P w K mg base (k + 1) x ps (semD n m pin fb) := by
  obtain ⟨⟨fd, F⟩, g⟩ := D
  exact ⟨_, fd, fn_ok F S hn hm hbody, g, F.kp, F.bindsN hb⟩
theorem fokD {N ps : List Str} {k n m : Nat} {pin : List Nat} {fb : Rho → Option Out} {fd : FuncData} (F : FunD K x x params body scope [] [] (He.ga K x) fd) (S : FnScope N ps scope) (hn : ps.length = n) (hm : N.length = n + m)
    (hbody : ∀ (cdv : Value) (A : Around) (outer : List Env) (s : Shared) (H : Hp) (E : XK), Room k (A.deeper (envOfC x scope s.heap.objs.size (He.ga K x) cdv)) →
      SB (cxOf (L2.CX P w) P w K mg base N x scope (He.ga K x) cdv A outer s H E) (wDef K E) pin body fb) : FnOk P w K mg base (L2.CX P w) (k + 1) (He.ga K x) fd ps (SpT K (semD n m pin fb)) := fn_ok F S hn hm hbody
theorem fok0 {N ps : List Str} {k : Nat} (D : DefAt K mg x params body scope) (S : FnScope N ps scope)
    (hb : ∀ (kV doc pm : Value) (an : Option Addr) (cdv ct : Value) (us : List Value), us.length = ps.length → bindArgs (PySem.W.fnOf x x params body scope .none kV doc pm an cdv ct) ⟨us, []⟩ = pure (ps.zip us)) : FOk P w K mg base (k + 1) x ps (fun _ => none) := by
  obtain ⟨⟨fd, F⟩, g⟩ := D
  refine ⟨_, fd, F.ok S (fun vs H Q E h => ?_) (fun cdv A outer s H vs Q E hr h => ?_), g, F.kp, F.bindsN hb⟩
  · obtain ⟨M, ts, Fs, r, g, e, _⟩ := h; cases e
  · obtain ⟨M, ts, Fs, r, g, e, _⟩ := h; cases e
/-- the law lets nothing out -/
theorem fin_cx {k : Nat} {f : Addr} {fd : FuncData} {ps : List Str} {sp : Sp} (F : FnOk P w K mg base (L2.CX P w) k f fd ps sp) : FnOk P w K mg base L2.CX0 k f fd ps (fun vs H Q _ => sp vs H Q (fun _ _ _ => False)) :=
  ⟨fun vs H Q E h => F.len vs H Q _ h, fun A outer s H args us vs Q E hr he hb hv hs => codeAny_mono (F.run A outer s H args us vs Q _ hr he hb hv hs) fun r s' h => by
    cases r with
    | ok t => cases t <;> exact h
    | error e =>
      obtain ⟨_, _, _, _, _, _, _, _, _, _, _, _, z⟩ := h
      exact z.elim⟩
theorem DzL.ofInts {M : Hp} : ∀ ns : List Int, DzL K M (ns.map V.int) (ns.map PyData.int)
  | [] => .nil
  | n :: ns => .cons (.int n) (DzL.ofInts ns)
theorem law_sp {sem : List T → Option Ret} {n : Nat} (h : ∀ ns : List Int, ns.length ≤ n → ∃ os, sem [.fr (.list (ns.map .int))] = some (.ok (.fr (.bool true)) os)) (H : Hp) (a : Addr) (ns : List Int) (hl : ns.length ≤ n) (hS : SqL K H a (ns.map V.int)) :
    SpT K sem [.ref a] H (fun v _ => v = .bl true) (fun _ _ _ => False) := by
  obtain ⟨os, e⟩ := h ns hl
  refine ⟨H, _, fun _ _ => False, _, ⟨L2.Same.refl _, rfl, fun i t e => ?_, fun _ _ _ => id, fun _ _ _ z => z.elim⟩, e, fun M' H' v R Fs' _ _ rp _ => rp.fr_inv.1.bl_inv⟩
  cases i with
  | zero =>
    simp at e; subst e
    exact ⟨_, rfl, .fr (.lst hS (DzL.ofInts ns))⟩
  | succ i => simp at e
end
end Lv

set_option maxHeartbeats 2000000
namespace Lv
open PySem PySem.Spec PyProof.Rows L2
/-! ### try -/
/-- which of the program's exceptions a clause takes -/
abbrev ExT := List (Str × Str × Bool)
def exLook (m : ExT) (c x : Str) : Option Bool := match m with
  | [] => none
  | (c', x', b) :: r => if c' = c ∧ x' = x then some b else exLook r c x
def ExOk (K : PySem.W.Frag) (m : ExT) : Prop := ∀ p ∈ m, PySem.W.exmOne K (.ref (He.ga K p.1)) (.ref (He.ga K p.2.1)) = some p.2.2
theorem exLook_ok {K : PySem.W.Frag} : ∀ {m : ExT} {c x : Str} {b : Bool}, ExOk K m → exLook m c x = some b → PySem.W.exmOne K (.ref (He.ga K c)) (.ref (He.ga K x)) = some b
  | [], _, _, _, _, e => by simp [exLook] at e
  | (c', x', b') :: r, c, x, b, h, e => by
    simp only [exLook] at e
    split at e
    · next q =>
      obtain ⟨rfl, rfl⟩ := q
      cases e
      exact h (c', x', b') (by simp)
    · exact exLook_ok (fun p hp => h p (by simp [hp])) e
theorem exok_nil {K : PySem.W.Frag} : ExOk K [] := fun p hp => by simp at hp
theorem exok_cons {K : PySem.W.Frag} {m : ExT} {c x : Str} {b : Bool} (h : PySem.W.exmOne K (.ref (He.ga K c)) (.ref (He.ga K x)) = some b) (t : ExOk K m) : ExOk K ((c, x, b) :: m) := fun p hp => by
  rcases List.mem_cons.mp hp with z | z
  · subst z; exact h
  · exact t p z
def handle (m : ExT) : List (Str × (Rho → Option Out)) → Str → Rho → Option Out
  | [], c, ρ => some (.ex c ρ)
  | (x, f) :: r, c, ρ => match exLook m c x with
    | some true => f ρ
    | some false => handle m r c ρ
    | none => none
def sTry (m : ExT) (fb : Rho → Option Out) (hs : List (Str × (Rho → Option Out))) : Rho → Option Out := fun ρ => match fb ρ with
  | some (.ex c ρ1) => handle m hs c ρ1
  | o => o
def wsOf (K : PySem.W.Frag) (W : WX) : WS := fun c σ H => W (.ref (He.ga K c)) none σ H
theorem takes_ws {X : Cx} {W : WX} (h : Takes X W) : Takes X (wx X.K (wsOf X.K W)) := h.imp fun cls d σ H ⟨c, e1, e2, q⟩ => by subst e1; subst e2; exact q
/-- the clauses -/
inductive HOks (X : Cx) (W : WS) (pin : List Nat) : List ExceptHandler → List (Str × (Rho → Option Out)) → Prop
  | nil : HOks X W pin [] []
  | cons {x : Str} {b₀ : Stmt} {suite : List Stmt} {np pos' : Pos} {hds : List ExceptHandler} {l : List (Str × (Rho → Option Out))} {f : Rho → Option Out} (hg : Gl X x) (hm : X.mg x = some (.ref (He.ga X.K x)))
      (hsu : ∀ (a : Addr) (oe : Obj) (pn : List (Addr × Obj)), SB (X.suite a ((a, oe) :: pn)) W pin (b₀ :: suite) f) (r : HOks X W pin hds l) (hdb : (x == ("__debug__" : Str)) = false := by decide) :
      HOks X W pin (.ExceptHandler (some (.Name x np)) none (b₀ :: suite) pos' :: hds) ((x, f) :: l)
def hList (K : PySem.W.Frag) (W : WS) (pin : List Nat) (l : List (Str × (Rho → Option Out))) : List (Value × (Addr → Value → Option Addr → TS)) := l.map fun p => (.ref (He.ga K p.1), fun _ _ _ => tS K W pin p.2)
section
variable {X : Cx} {W : WS} {pin : List Nat}
theorem HOks.ok {hds : List ExceptHandler} {l : List (Str × (Rho → Option Out))} (h : HOks X W pin hds l) : HdsOk X hds (hList X.K W pin l) := by
  induction h with
  | nil => exact .nil
  | cons hg hm hsu r hdb ih => exact .cons ⟨hg, hdb, .inl hm⟩ (fun a oe cls d pn _ _ => hsu a oe pn) ih
theorem handle_w {K : PySem.W.Frag} {m : ExT} (hm : ExOk K m) {D : Ends} {c : Str} {M H : Hp} {ρ : Rho} {F : Nat → Fp} {σ : L2.St} (g : Good K M H σ ρ F) : ∀ {l : List (Str × (Rho → Option Out))} {o : Out}, handle m l c ρ = some o → wO K W pin M H (Al F) σ D o → wMany K (wx K W) D (hList K W pin l) (.ref (He.ga K c)) none σ H
  | [], o, e, q => by
    cases e
    exact ⟨c, rfl, rfl, q M H σ F (.refl fun _ z => z) g .refl⟩
  | (x, f) :: l, o, e, q => by
    simp only [handle] at e
    split at e
    · next eb => exact ⟨true, exLook_ok hm eb, fun _ a _ => ⟨M, ρ, F, o, g, e, q⟩, fun z => by cases z⟩
    · next eb => exact ⟨false, exLook_ok hm eb, fun z => (by cases z), fun _ => handle_w hm g e q⟩
    · cases e
theorem ss_try {m : ExT} {body : List Stmt} {h₀ : ExceptHandler} {hds : List ExceptHandler} {l : List (Str × (Rho → Option Out))} {pos : Pos} {fb : Rho → Option Out} (hm : ExOk X.K m) (hs : X.stack = X.env :: X.outer) (hf : X.env.frame = some X.env.locals) (tk : Takes X (wx X.K W))
    (hb : ∀ (W' : WS) (pn : List (Addr × Obj)) (xe : Value → Shared → Prop), Takes (X.tr pn xe) (wx X.K W') → PassesOwn (model X.prog X.w) X.A X.env xe → SB (X.tr pn xe) W' pin body fb) (hh : HOks X W pin (h₀ :: hds) l) :
    SS X W pin (.Try body (h₀ :: hds) [] [] pos) (sTry m fb l) :=
  (ps_try_many (tb := fun W0 => tS X.K (wsOf X.K W0) pin fb) hs hf tk (fun W0 pn xe t p => hb (wsOf X.K W0) pn xe (takes_ws t) p) hh.ok).lv fun D σ H ⟨M, ρ, F, o, g, e, q⟩ => by
    unfold sTry at e
    split at e
    · next c ρ1 e1 =>
      exact ⟨M, ρ, F, _, g, e1, fun M1 H1 σ1 F1 S1 g1 p1 => handle_w hm g1 e (q.go S1 p1)⟩
    · next o' hne =>
      refine ⟨M, ρ, F, _, g, e, ?_⟩
      cases o with
      | ex c ρ1 => exact absurd e (hne c ρ1)
      | nx ρ1 => exact q
      | bk ρ1 => exact q
      | ct ρ1 => exact q
      | rt t ρ1 => exact q
end
/-! ### methods that only look -/
def rMt (K : PySem.W.Frag) (op : T → List T → Option T) : V → List V → Hp → VK → Prop := fun x xs H Q => ∃ M t R ts u, L2.Same M H ∧ Rp K M H t x R ∧ PkL K M H ts xs ∧ op t ts = some u ∧ rFin K M H u Q
def kMt (op : T → List T → Option T) (f : Rho → Option T) (g : Rho → Option (List T)) : Rho → Option T := fun ρ => (f ρ).bind fun t => (g ρ).bind fun ts => op t ts
theorem tyV_of {K : PySem.W.Frag} {M H : Hp} {t : T} {v : V} {R : Fp} {s : String} (m : L2.Same M H) (r : Rp K M H t v R) (e : typT t = some s) (hs : s = "list" ∨ s = "str") : tyV K s v H := by
  cases r with
  | fr h =>
    cases h with
    | non => cases e; rcases hs with hs | hs <;> simp [typD] at hs
    | bl b => cases e; rcases hs with hs | hs <;> simp [typD] at hs
    | int b => cases e; rcases hs with hs | hs <;> simp [typD] at hs
    | str b => cases e; rfl
    | lst h1 h2 => cases e; exact .inl ⟨rfl, _, m.seq h1⟩
    | tup h1 h2 => cases e; rcases hs with hs | hs <;> simp [typD] at hs
    | dk h1 h2 => cases e; rcases hs with hs | hs <;> simp [typD] at hs
  | lst h1 => cases e; exact .inl ⟨rfl, _, .of h1⟩
  | dk h1 => cases e; rcases hs with hs | hs <;> simp at hs
  | obj => cases e
  | dkl => cases e
section
variable {X : Cx} {W : WS} {o e : Expr} {es : List Expr} {T' id : String} {name : Str} {apos cpos : Pos} {op : T → List T → Option T}
theorem ek_mt {f : Rho → Option T} {g : Rho → Option (List T)} (pa : PlainAttrs T') (slot : Slot T' name id) (hty : typeOf (.builtin id) = pure (.type "method_descriptor")) (hm : MtR X id (rMt X.K op)) (hT : T' = "list" ∨ T' = "str") (hop : ∀ t ts u, op t ts = some u → typT t = some T') (ho : EK X o f) (ha : AK X (e :: es) g)
    (hbase : attributeBase o name X.env (eval o X.env) = eval o X.env := by rfl)
    (hfew : ((backTo cpos (starEach (e :: es) X.env)).all (fun x => !x.1) && (backToKw cpos (keywordEach [] X.env)).all (fun x => x.1.isSome)
      && decide ((e :: es).length + ([] : List Keyword).length + (if ([] : List Keyword).isEmpty then 0 else 1) < 30)) = true := by rfl)
    (hline : (apos.endLine == cpos.line) = true := by rfl) (hs : starEach (e :: es) X.env = (false, eval e X.env) :: starEach es X.env := by rfl) (hplain : (backTo cpos (starEach es X.env)).any (·.1) = false := by rfl) :
    EK X (.Call (.Attribute o name apos) (e :: es) [] cpos) (kMt op f g) := (pe_bm pa slot hty hm ho ha hbase hfew hline hs hplain).lv fun σ H Q ⟨M, ρ, F, u, g', eq, q⟩ => by
  obtain ⟨t, e1, eq⟩ := Option.bind_eq_some_iff.mp eq
  obtain ⟨ts, e2, e3⟩ := Option.bind_eq_some_iff.mp eq
  exact ⟨M, ρ, F, t, g', e1, fun M1 H1 v R x1 r1 => ⟨tyV_of x1.le r1 (hop _ _ _ e3) hT, M1, ρ, F, ts, g'.ext x1, e2, fun M2 H2 vs x2 r2 => ⟨M2, t, R, ts, u, x2.le, r1.ext x2, r2, e3, k_fin (x1.trans x2) q⟩⟩⟩
end
/-- xs.count(y) -/
def opCount : T → List T → Option T := fun t ts => match ts with
  | [y] => (T.asL t).bind fun ds => y.dat.bind fun d => if PyData.plainAll ds = true ∧ okD d = true then some (.fr (.int (ds.countP fun z => PyData.eqv z d))) else none
  | _ => none
/-- xs.index(y), y in xs -/
def opIndex : T → List T → Option T := fun t ts => match ts with
  | [y] => (T.asL t).bind fun ds => y.dat.bind fun d => if PyData.plainAll ds = true ∧ okD d = true ∧ ds.length ≤ SZ then (ds.findIdx? fun z => PyData.eqv z d).map fun j : Nat => T.fr (.int (j : Int)) else none
  | _ => none
theorem asL_typ {t : T} {ds : List D} (e : T.asL t = some ds) : typT t = some "list" := by
  unfold T.asL at e
  split at e
  · rfl
  · rfl
  · cases e
theorem opCount_ty (t : T) (ts : List T) (u : T) (e : opCount t ts = some u) : typT t = some "list" := by
  unfold opCount at e
  split at e
  · obtain ⟨ds, e1, _⟩ := Option.bind_eq_some_iff.mp e
    exact asL_typ e1
  · cases e
theorem opIndex_ty (t : T) (ts : List T) (u : T) (e : opIndex t ts = some u) : typT t = some "list" := by
  unfold opIndex at e
  split at e
  · obtain ⟨ds, e1, _⟩ := Option.bind_eq_some_iff.mp e
    exact asL_typ e1
  · cases e
section
variable {X : Cx}
theorem mt_countA (hu : X.A.units + 64 < cLine) : MtR X "list.count" (rMt X.K opCount) := by
  intro pins s σ H x xs v us Q I rx rxs ⟨M, t, R, ts, u, m, r, pk, e, q⟩
  unfold opCount at e
  split at e
  · next y =>
    obtain ⟨ds, e1, e⟩ := Option.bind_eq_some_iff.mp e
    obtain ⟨d, e2, e⟩ := Option.bind_eq_some_iff.mp e
    split at e
    · next c =>
      cases e
      obtain ⟨w, R', rfl, rp⟩ := pk.one
      obtain ⟨a, zs, rfl, h1, h2⟩ := r.asL_inv m e1
      cases rx
      obtain ⟨uy, rfl, ry⟩ := rxs.one
      have okd := okD_of c.2
      obtain ⟨bs, rd⟩ := Dp.reads I d w uy ((rp.seen m e2).dp okd.1) ry
      obtain ⟨its, rv, ⟨ob, n, g1, g2, g3, g4⟩, hlen⟩ := I.list h1
      obtain ⟨as, rs⟩ := Dp.readsAll I ds zs its ((h2.mono m).dp c.1) rv
      refine PySem.SeqAt.count_list_data (vs := its.toArray) ⟨ob, g1, g2, n, g4⟩ (by simpa using rs) rd c.1 okd.1 (by have := okd.2; omega) ⟨.int _, H, I.tok _, ⟨_, rfl⟩, fin_int m q⟩
    · cases e
  · cases e
theorem mt_indexA (hu : X.A.units + 64 < cLine) : MtR X "list.index" (rMt X.K opIndex) := by
  intro pins s σ H x xs v us Q I rx rxs ⟨M, t, R, ts, u, m, r, pk, e, q⟩
  unfold opIndex at e
  split at e
  · next y =>
    obtain ⟨ds, e1, e⟩ := Option.bind_eq_some_iff.mp e
    obtain ⟨d, e2, e⟩ := Option.bind_eq_some_iff.mp e
    split at e
    · next c =>
      obtain ⟨j, e3, e4⟩ := Option.map_eq_some_iff.mp e
      subst e4
      obtain ⟨w, R', rfl, rp⟩ := pk.one
      obtain ⟨a, zs, rfl, h1, h2⟩ := r.asL_inv m e1
      cases rx
      obtain ⟨uy, rfl, ry⟩ := rxs.one
      have okd := okD_of c.2.1
      obtain ⟨bs, rd⟩ := Dp.reads I d w uy ((rp.seen m e2).dp okd.1) ry
      obtain ⟨its, rv, ⟨⟨cls, dd, data, sl⟩, n, g1, g2, g3, g4⟩, hlen⟩ := I.list h1
      simp only at g2 g4
      subst g2 g4
      obtain ⟨as, rs⟩ := Dp.readsAll I ds zs its ((h2.mono m).dp c.1) rv
      have rs' : ReadsAll s.heap its.toArray.toList ds as := by simpa using rs
      obtain ⟨hj, hit, hno⟩ := PySem.SeqAt.hit_at (d := d) rs' c.1 (j := j) e3
      have hl := PySem.SeqAt.len_at rs'
      have hsz : ds.length ≤ 16777216 := c.2.2
      refine call_meets PySem.F.slot_list_index ⟨_, g1, rfl⟩ PySem.F.entry_list_index (PySem.F.args_list_index_2 _ _)
        (PySem.SeqAt.list_indexAt a its.toArray n dd sl uy (fun u => PyData.eqv (PySem.SeqAt.readOf s.heap u) d) j hj (by omega) hit hno) ⟨g1, PySem.SeqAt.items_plain rs' rd c.1 okd.1 (by have := okd.2; omega), ?_⟩
      exact ⟨.int _, H, I.tok _, ⟨_, rfl⟩, fin_int m q⟩
    · cases e
  · cases e
end
end Lv

set_option maxHeartbeats 2000000
namespace Lv
open PySem PySem.Spec PyProof.Rows L2
/-! ### extend -/
theorem RpL.both {K : PySem.W.Frag} {M H : Hp} {us : List T} {ws : List V} {R2 : Fp} (h2 : RpL K M H us ws R2) : ∀ {ts : List T} {vs : List V} {R1 : Fp}, RpL K M H ts vs R1 → (∀ a, R1 a → ¬ R2 a) → ∃ R3, RpL K M H (ts ++ us) (vs ++ ws) R3 ∧ ∀ a, R3 a ↔ R1 a ∨ R2 a
  | _, _, _, .nil, _ => ⟨R2, h2, fun a => ⟨.inr, fun z => z.elim False.elim id⟩⟩
  | _, _, _, .cons (R := R) (R' := R') h t dj, d => by
    obtain ⟨R3, h3, e3⟩ := RpL.both h2 t fun a z => d a (.inr z)
    refine ⟨_, .cons h h3 fun a z y => ?_, fun a => ?_⟩
    · rcases (e3 a).mp y with w | w
      · exact dj a z w
      · exact d a (.inl z) w
    · constructor
      · rintro (z | z)
        · exact .inl (.inl z)
        · exact ((e3 a).mp z).imp_left .inr
      · rintro ((z | z) | z)
        · exact .inl z
        · exact .inr ((e3 a).mpr (.inl z))
        · exact .inr ((e3 a).mpr (.inr z))
def sExt0 (i : Nat) (f : Rho → Option (Rs T)) : Rho → Option Out := fun ρ => match slot ρ i with
  | some (.lst _) => ofR (f ρ) fun t ρ1 => (match slot ρ1 i, t with
    | some (.lst ts), .lst us => if ts.length + us.length ≤ SZ then some (.nx (ρ1.set i (some (.lst (ts ++ us))))) else none
    | _, _ => none)
  | _ => none
section
variable {X : Cx} {W : WS} {pin : List Nat} {e : Expr} {pos p : Pos}
theorem ext_at {M H : Hp} {σ : L2.St} {ρ : Rho} {F : Nat → Fp} {P : Fp} {i : Nat} {pth : List Sg} {v0 v u : V} {ts us : List T} {R : Fp} {K : PySem.W.Frag} {C : L2.St → Hp → Prop} {ρ2 : Rho} (g : Good K M H σ ρ F) (hv : σ[i]? = some (some v0)) (fol : Fol H v0 pth v) (e : getAt ρ i pth = some (.lst ts)) (hl : ts.length + us.length ≤ SZ)
    (r : Rp K M H (.lst us) u R) (d : ∀ a, R a → ¬ Al F a) (hR : ∀ a, R a → P a) (hF : ∀ a, Al F a → P a) (e2 : setAt ρ i pth (.lst (ts ++ us)) = some ρ2) (q : wN K pin M H P σ ρ2 C) :
    ∃ l b xs zs, v = .ref l ∧ [u] = [V.ref b] ∧ H l = some (.lst xs) ∧ H b = some (.lst zs) ∧ xs.length + zs.length ≤ sizeLine ∧ C σ (upd H l (.lst (xs ++ zs))) := by
  obtain ⟨a, vs, R1, rfl, h1, h2, h3, h4, h5, h6, up⟩ := g.wlist (ts' := ts ++ us) hv fol e
  obtain ⟨b, ws, R2, rfl, k1, k2, k3, k4, k5⟩ := r.lst_inv
  refine ⟨a, b, vs, ws, rfl, rfl, h1, k1, by rw [h3.length, k3.length, sizeLine_eq]; exact hl, ?_⟩
  have na : ¬ R a := fun z => d a z h5
  have na2 : ¬ R2 a := fun z => na ((k5 a).mpr (.inr z))
  have kp : ∀ {R : Fp}, ¬ R a → Kp M M H (upd H a (.lst (vs ++ ws))) R := fun {R} n => ⟨L2.Same.refl _, fun b r o e => by rw [upd_ne (fun z => by subst z; exact n r)]; exact e, fun _ _ e => e⟩
  obtain ⟨R3, h7, e7⟩ := RpL.both (k3.keep (kp na2)) (h3.keep (kp h4)) fun c z y => d c ((k5 c).mpr (.inr y)) (h6 c z)
  obtain ⟨ρ3, F3, e3, g3, S3, i3⟩ := up (vs ++ ws) R3 h7 (fun z => ((e7 a).mp z).elim h4 na2) fun c z y => ((e7 c).mp z).elim id fun w => absurd y (d c ((k5 c).mpr (.inr w)))
  rw [e2] at e3; cases e3
  exact q M _ σ F3 (S3.sub (fun c z => z.elim (hF c) fun z => ((e7 c).mp z).elim (fun w => hF c (h6 c w)) fun w => hR c ((k5 c).mpr (.inr w))) fun c z => z) g3 .refl
theorem ss_ext0 {i : Nat} {x : Str} {px apos : Pos} {f : Rho → Option (Rs T)} (ho : PE X (.Name x px) (tVar i)) (ha : EE X W e f)
    (hbase : attributeBase (.Name x px) "extend" X.env (eval (.Name x px) X.env) = eval (.Name x px) X.env := by rfl) (hfew : ((backTo p (starEach (e :: []) X.env)).all (fun x => !x.1) && (backToKw p (keywordEach [] X.env)).all (fun x => x.1.isSome)
      && decide ((e :: ([] : List Expr)).length + ([] : List Keyword).length + (if ([] : List Keyword).isEmpty then 0 else 1) < 30)) = true := by rfl)
    (hline : (apos.endLine == p.line) = true := by rfl) (hs : starEach (e :: []) X.env = (false, eval e X.env) :: starEach [] X.env := by rfl) (hplain : (backTo p (starEach [] X.env)).any (·.1) = false := by rfl)
    (hs2 : swapsWith (.Call (.Attribute (.Name x px) "extend" apos) [e] [] p) none pos.line X.env = pure false := by rfl) : SS X W pin (.Expr (.Call (.Attribute (.Name x px) "extend" apos) [e] [] p) pos) (sExt0 i f) :=
  (ps_expr (pe_bm PySem.F.plainAttrs_list PySem.F.slot_list_extend PySem.F.type_list_extend mt_extend ho (pa_cons ha pa_nil hs) hbase hfew hline hs hplain) hs2).lv fun D σ H ⟨M, ρ, F, o, g, e, q⟩ => by
  unfold sExt0 at e
  split at e
  · next ts0 e0 =>
    obtain ⟨v0, h0, r0⟩ := g.sl i _ (slot_some e0)
    refine ⟨v0, h0, ?_, ?_⟩
    · obtain ⟨a, vs, R', rfl, h1, _⟩ := r0.lst_inv
      exact .inl ⟨rfl, _, .of h1⟩
    · rcases ofR_some e with ⟨t, ρ1, e1, e⟩ | ⟨c, ρ1, e1, rfl⟩
      · refine ⟨M, ρ, F, _, g, e1, fun M1 H1 v R F1 S1 g1 r1 d1 => ?_⟩
        split at e
        · next ts us e2 =>
          split at e
          · next hl =>
            cases e
            exact ext_at (pin := pin) (P := fun a => R a ∨ Al F1 a) (pth := []) g1 h0 .nil (by unfold getAt; rw [e2]; rfl) hl r1 d1 (fun a z => .inl z) (fun a z => .inr z) (by unfold setAt; rw [e2]; rfl) (q.go S1 .refl)
          · cases e
        · cases e
      · exact ⟨M, ρ, F, _, g, e1, fun M1 H1 F1 S1 g1 => q M1 H1 σ F1 S1 g1 .refl⟩
  · cases e
end
/-! ### len(set(..)) -/
def dd (ns : List Int) : List Int := firstMet (fun i => ns.getD i 0) ns.length
def opLenSet (t : T) : Option T := (T.asL t).bind fun ds => (intsD ds).bind fun ns => if ns.length < 4000 then some (.fr (.int (dd ns).length)) else none
def kLenSet (f : Rho → Option T) : Rho → Option T := fun ρ => (f ρ).bind opLenSet
section
variable {X : Cx}
def tLenSetA (K : PySem.W.Frag) (ta : TE) : TE := fun σ H Q => ta σ H fun x H1 => ∃ (l : Addr) (ns : List Int), x = V.ref l ∧ SqL K H1 l (ns.map V.int) ∧ ns.length < 4000 ∧ Q (.int (dd ns).length) H1
theorem pe_lenSetA {a : Expr} {ta : TE} {p p2 q pos : Pos} (hc : X.calm = true) (hg : Gl X "len") (hm : X.mg "len" = none) (hg2 : Gl X "set") (hm2 : X.mg "set" = none) (ha : PE X a ta)
    (na : starEach [a] X.env = (false, eval a X.env) :: starEach [] X.env := by rfl) : PE X (.Call (.Name "len" p) [.Call (.Name "set" p2) [a] [] q] [] pos) (tLenSetA X.K ta) := by
  refine ⟨fun pins s σ H Q I h => ?_⟩
  refine Call_ (ld_blt I hg hm PySem.boot_len ?_)
  refine PyProof.Rows.callWith_builtin1 (PyProof.Rows.args_cons ?_ rfl) rfl rfl
  refine Call_ (ld_blt I hg2 hm2 PyProof.Rows.boot_set ?_)
  refine PyProof.Rows.callWith_type1 (PyProof.Rows.args_cons (thn (ha.run pins s σ H _ I h) fun v s1 ⟨x, H1, I1, r1, q1⟩ => PyProof.Rows.args_nil ?_) na) na rfl
  obtain ⟨l, ns, rfl, hq, h1, q1⟩ := q1
  cases r1
  obtain ⟨its, r, pl, hz⟩ := I1.list hq
  have hl : its.toArray.size = ns.length := by rw [List.size_toArray, ← r.length, List.length_map]
  refine call_set_list (I1.ok.hd hc) pl.isList (ns := ns) (by simpa using r.ints) (by unfold scanBound; omega) fun h' tk hS hk => ?_
  rw [hl] at hS
  refine PyProof.Rows.args_nil ?_
  obtain ⟨o, es, ep, t, ho, hex, hd, _, _, _, hf, hn⟩ := hS
  have I2 : Inv X pins σ H1 { s1 with heap := h', toks := tk } := I1.kept fun b o e => hk b o (Heap.lt_size e) e
  have hle : (firstMet (fun i => ns.getD i 0) ns.length).length ≤ ns.length := by
    have : ∀ n, (firstMet (fun i => ns.getD i 0) n).length ≤ n := fun n => by
      induction n with
      | zero => exact Nat.le_refl _
      | succ n ih =>
        rw [firstMet_succ]; unfold step_dedup
        split
        · omega
        · rw [List.length_append, List.length_singleton]; omega
    exact this _
  refine call_len_set ho hex hd hf (by rw [hn]; omega) ⟨.int (dd ns).length, H1, I2.tok _, ⟨_, by rw [hn]; rfl⟩, q1⟩
theorem ek_lenSet {a : Expr} {f : Rho → Option T} {p p2 q pos : Pos} (hc : X.calm = true) (hg : Gl X "len") (hm : X.mg "len" = none) (hg2 : Gl X "set") (hm2 : X.mg "set" = none) (ha : EK X a f)
    (na : starEach [a] X.env = (false, eval a X.env) :: starEach [] X.env := by rfl) : EK X (.Call (.Name "len" p) [.Call (.Name "set" p2) [a] [] q] [] pos) (kLenSet f) := (pe_lenSetA hc hg hm hg2 hm2 ha na).lv fun σ H Q ⟨M, ρ, F, u, g', eq, q⟩ => by
  obtain ⟨t, e1, e⟩ := Option.bind_eq_some_iff.mp eq
  refine ⟨M, ρ, F, t, g', e1, fun M1 H1 v R x1 r1 => ?_⟩
  unfold opLenSet at e
  obtain ⟨ds, e2, e⟩ := Option.bind_eq_some_iff.mp e
  obtain ⟨ns, e3, e⟩ := Option.bind_eq_some_iff.mp e
  split at e
  · next hl =>
    cases e
    obtain ⟨l, xs, rfl, h1, h2⟩ := r1.asL_inv x1.le e2
    have e4 := h2.ints e3
    subst e4
    exact ⟨l, ns, rfl, h1, hl, q M1 H1 _ _ x1 (.fr (.int _))⟩
  · cases e
end
end Lv

set_option maxHeartbeats 2000000
namespace Lv
open PySem PySem.Spec PyProof.Rows L2
/-! ### targets that write into lists -/
def tGH (K : PySem.W.Frag) (pin : List Nat) (g : D → Rho → Option Rho) : TG := fun v σ H Q => ∃ M ρ F d ρ', Good K M H σ ρ F ∧ Dz K M v d ∧ g d ρ = some ρ' ∧ ∀ M' H' σ' F', Stp M H (Al F) M' H' (Al F') → Good K M' H' σ' ρ' F' → Pin pin σ σ' → Q σ' H'
def tGHs (K : PySem.W.Frag) (pin : List Nat) (g : List D → Rho → Option Rho) : TGs := fun vs σ H Q => ∃ M ρ F ds ρ', Good K M H σ ρ F ∧ DzL K M vs ds ∧ g ds ρ = some ρ' ∧ ∀ M' H' σ' F', Stp M H (Al F) M' H' (Al F') → Good K M' H' σ' ρ' F' → Pin pin σ σ' → Q σ' H'
abbrev EH (X : Cx) (pin : List Nat) (e : Expr) (g : D → Rho → Option Rho) : Prop := PG X e (tGH X.K pin g)
abbrev EHs (X : Cx) (pin : List Nat) (e : List Expr) (g : List D → Rho → Option Rho) : Prop := PGs X e (tGHs X.K pin g)
def gSi (lp : Rho → Option (Nat × List Sg)) (kf : Rho → Option T) : D → Rho → Option Rho := fun d ρ => (lp ρ).bind fun q => match getAt ρ q.1 q.2, kf ρ with
  | some (.lst ts), some (.fr (.int k)) => (ixN ts.length k).bind fun j => setAt ρ q.1 q.2 (.lst (ts.set j (.fr d)))
  | _, _ => none
section
variable {X : Cx} {W : WS} {pin : List Nat} {e : Expr} {es : List Expr} {pos : Pos} {k : Nat} {lp : Rho → Option (Nat × List Sg)}
theorem eh_of {as : List Nat} {g : D → Rho → Option Rho} (hp : ∀ j ∈ pin, j ∉ as) (h : EG X as e g) : EH X pin e g := h.lv fun v σ H Q ⟨M, ρ, F, d, ρ', g, dz, e, q⟩ =>
  ⟨M, ρ, F, d, ρ', g, dz, e, fun σ' F' g' s k _ => q M H σ' F' (.refl s) g' fun j hj => k j (hp j hj)⟩
theorem eh_sub {o ie : Expr} {tpos : Pos} {kf : Rho → Option T} (ho : EP X o lp) (hi : EK X ie kf)
    (ha : ∀ v, assign (.Subscript o ie tpos) X.env v = (do
      let ov ← holding [v] (eval o X.env)
      let iv ← holding [v, ov] (eval ie X.env)
      standAt tpos
      holding [v, ov, iv] (setItem ov iv v)
      release [v, ov, iv] []) := by intro _; rfl) : EH X pin (.Subscript o ie tpos) (gSi lp kf) := (pg_sub ho hi set_list ha).lv fun v σ H Q ⟨M, ρ, F, d, ρ', g, dz, e, q⟩ => by
  obtain ⟨⟨i, pth⟩, e1, e⟩ := Option.bind_eq_some_iff.mp e
  split at e
  · next ts k eg ek =>
    obtain ⟨j, ej, e4⟩ := Option.bind_eq_some_iff.mp e
    refine ⟨M, ρ, F, i, pth, g, e1, fun M2 H2 w v0 x2 hv fol => ⟨M2, ρ, F, _, g.ext x2, ek, fun M3 H3 u R3 x3 r3 => ?_⟩⟩
    have g3 := g.ext (x2.trans x3)
    obtain ⟨a, vs, R', rfl, h1, h2, h3, h4, h5, h6, up⟩ := g3.wlist (ts' := ts.set j (.fr d)) hv (fol.same x3.h) eg
    obtain ⟨_, hj, _⟩ := ixN_seq ej
    refine ⟨a, vs, k, j, rfl, r3.fr_inv.1.int_inv, h1, by rw [h3.length]; exact ej, ?_⟩
    have kp : ∀ {R : Fp}, ¬ R a → Kp M3 M3 H3 (upd H3 a (.lst (vs.set j v))) R := fun {R} n => ⟨L2.Same.refl _, fun b r o e => by rw [upd_ne (fun z => by subst z; exact n r)]; exact e, fun _ _ e => e⟩
    have dz3 : Rp X.K M3 H3 (.fr d) v (fun _ => False) := .fr (dz.mono (x2.trans x3).m)
    obtain ⟨R4, h7, e7⟩ := (h3.keep (kp h4)).setAt hj (dz3.keep (kp (R := fun _ => False) id)) fun b z y => y
    obtain ⟨ρ3, F3, e3, g4, S4, i4⟩ := up (vs.set j v) R4 h7 (fun z => (e7 a z).elim h4 id) fun b z y => (e7 b z).elim id False.elim
    rw [e4] at e3; cases e3
    exact q M3 _ σ F3 (((x2.trans x3).stp fun a (z : Al F a) => .inl z : Stp M H (Al F) M3 H3 (Al F)).trans (S4.sub (fun b z => z.elim id fun z => (e7 b z).elim (fun w => h6 b w) False.elim) fun b z => z)) g4 .refl
  · cases e
theorem ehs_nil : EHs X pin [] gNl := pgs_nil.lv fun v σ H Q ⟨M, ρ, F, d, ρ', g, dz, e, q⟩ => by
  unfold gNl at e
  split at e
  · cases e
    cases dz
    exact ⟨rfl, q M H σ F (.refl fun _ z => z) g .refl⟩
  · cases e
theorem ehs_cons {g : D → Rho → Option Rho} {gs : List D → Rho → Option Rho} (h1 : EH X pin e g) (h2 : EHs X pin es gs) (hs : (assignEach (e :: es) X.env).map (·.2) = assign e X.env :: (assignEach es X.env).map (·.2) := by rfl) : EHs X pin (e :: es) (gCs g gs) := (pgs_cons h1 h2 hs).lv fun v σ H Q ⟨M, ρ, F, d, ρ', g, dz, e, q⟩ => by
  unfold gCs at e
  split at e
  · next d r =>
    obtain ⟨ρ1, e1, e2⟩ := Option.bind_eq_some_iff.mp e
    cases dz with
    | cons h t =>
      exact ⟨_, _, rfl, M, ρ, F, d, ρ1, g, h, e1, fun M1 H1 σ1 F1 S1 g1 p1 => ⟨M1, ρ1, F1, r, ρ', g1, t.mono S1.m, e2, fun M2 H2 σ2 F2 S2 g2 p2 => q M2 H2 σ2 F2 (S1.trans S2) g2 (p1.trans p2)⟩⟩
  · cases e
theorem eh_tup {gs : List D → Rho → Option Rho} {n : Nat} (hc : X.calm = true) (h : EHs X pin es gs) (hn : (assignEach es X.env).length = n := by rfl) (hst : (assignEach es X.env).findIdx? (·.1) = none := by rfl) : EH X pin (.Tuple es k pos) (gTp n gs) := (pg_tup hc h hn hst).lv fun v σ H Q ⟨M, ρ, F, d, ρ', g, dz, e, q⟩ => by
  unfold gTp at e
  split at e
  · next ds =>
    split at e
    · next hl =>
      obtain ⟨a, xs, rfl, h1, h2⟩ := dz.tup_inv
      exact ⟨a, xs, rfl, Same.tup g.le h1, by rw [h2.length]; exact hl, M, ρ, F, ds, ρ', g, h2, e, q⟩
    · cases e
  · cases e
theorem ss_tgtH {tg : Expr} {g : D → Rho → Option Rho} {f : Rho → Option (Rs T)} (he : EE X W e f) (hg : EH X pin tg g) (hs : swapsWithSole [tg] e pos.line X.env = pure false := by rfl) (hw : swappedStores [tg] e X.env = pure none := by rfl)
    (h1 : (assignEach [tg] X.env).map (·.2) = [assign tg X.env] := by rfl) : SS X W pin (.Assign [tg] e pos) (sTgt g f) := (ps_asg he hg hs hw h1).lv fun D σ H h => ts_te h fun M1 H1 t v R F1 ρ1 o P e g1 r1 d1 hR hF q => by
  obtain ⟨d, ed, e⟩ := Option.bind_eq_some_iff.mp e
  obtain ⟨ρ2, e2, e⟩ := Option.map_eq_some_iff.mp e
  subst e
  have S0 : Stp M1 H1 (fun a => R a ∨ Al F1 a) M1 H1 (fun a => R a ∨ Al F1 a) := .refl fun _ z => z
  obtain ⟨S2, le2, kp⟩ := S0.frz r1 d1 g1.le
  exact ⟨_, ρ1, F1, d, ρ2, g1.keep kp le2, r1.freeze ed, e2, fun M3 H3 σ3 F3 S3 g3 p3 => q M3 H3 σ3 F3 ((S2.sub (fun a z => z.elim (hR a) (hF a)) fun _ z => z).trans S3) g3 p3⟩
/-- xs[k] = e, the index with an effect -/
def sSetIxE (i : Nat) (fi : Rho → Option (Rs T)) (f : Rho → Option (Rs T)) : Rho → Option Out := fun ρ => ofR (f ρ) fun t ρ1 => match t, slot ρ1 i with
  | .fr d, some _ => ofR (fi ρ1) fun kt ρ2 => (match slot ρ2 i, kt with
    | some (.lst ts), .fr (.int k) => (ixN ts.length k).map fun j => .nx (ρ2.set i (some (.lst (ts.set j (.fr d)))))
    | _, _ => none)
  | _, _ => none
theorem ss_setIxE {ie : Expr} {i : Nat} {x : Str} {px tpos : Pos} {fi f : Rho → Option (Rs T)} (he : EE X W e f) (ho : PE X (.Name x px) (tVar i)) (hi : EE X W ie fi)
    (ha : ∀ v, assign (.Subscript (.Name x px) ie tpos) X.env v = (do
      let ov ← holding [v] (eval (.Name x px) X.env)
      let iv ← holding [v, ov] (eval ie X.env)
      standAt tpos
      holding [v, ov, iv] (setItem ov iv v)
      release [v, ov, iv] []) := by intro _; rfl)
    (hs : swapsWithSole [.Subscript (.Name x px) ie tpos] e pos.line X.env = pure false := by rfl) (hw : swappedStores [.Subscript (.Name x px) ie tpos] e X.env = pure none := by rfl) (h1 : (assignEach [.Subscript (.Name x px) ie tpos] X.env).map (·.2) = [assign (.Subscript (.Name x px) ie tpos) X.env] := by rfl) :
    SS X W pin (.Assign [.Subscript (.Name x px) ie tpos] e pos) (sSetIxE i fi f) := (ps_asg he (pg_sub ho hi set_list ha) hs hw h1).lv fun D σ H h => ts_te h fun M1 H1 t v R F1 ρ1 o P e g1 r1 d1 hR hF q => by
  split at e
  · next d t0 e0 =>
    obtain ⟨v0, h0, _⟩ := g1.sl i _ (slot_some e0)
    obtain ⟨dz, nR⟩ := r1.fr_inv
    refine ⟨v0, h0, ?_⟩
    rcases ofR_some e with ⟨kt, ρ2, e1, e⟩ | ⟨c, ρ2, e1, rfl⟩
    · refine ⟨M1, ρ1, F1, _, g1, e1, fun M2 H2 u R2 F2 S2 g2 r2 d2 => ?_⟩
      split at e
      · next ts k es =>
        obtain ⟨j, ej, e5⟩ := Option.map_eq_some_iff.mp e
        subst e5
        obtain ⟨a, vs, R', rfl, h1, h2, h3, h4, h5, h6, up⟩ := g2.wlist (p := []) (ts' := ts.set j (.fr d)) h0 .nil (by unfold getAt; rw [es]; rfl)
        obtain ⟨_, hj, _⟩ := ixN_seq ej
        refine ⟨a, vs, k, j, rfl, r2.fr_inv.1.int_inv, h1, by rw [h3.length]; exact ej, ?_⟩
        have kp : ∀ {R : Fp}, ¬ R a → Kp M2 M2 H2 (upd H2 a (.lst (vs.set j v))) R := fun {R} n => ⟨L2.Same.refl _, fun b r o e => by rw [upd_ne (fun z => by subst z; exact n r)]; exact e, fun _ _ e => e⟩
        have dz3 : Rp X.K M2 H2 (.fr d) v (fun _ => False) := .fr (dz.mono S2.m)
        obtain ⟨R4, h7, e7⟩ := (h3.keep (kp h4)).setAt hj (dz3.keep (kp (R := fun _ => False) id)) fun b z y => y
        obtain ⟨ρ3, F3, e3, g4, S4, i4⟩ := up (vs.set j v) R4 h7 (fun z => (e7 a z).elim h4 id) fun b z y => (e7 b z).elim id False.elim
        have e4 : setAt ρ2 i [] (.lst (ts.set j (.fr d))) = some (ρ2.set i (some (.lst (ts.set j (.fr d))))) := by unfold setAt; rw [es]; rfl
        rw [e4] at e3; cases e3
        refine q M2 _ σ F3 ((S2.sub hF fun _ z => z).trans (S4.sub (fun b z => z.elim .inr fun z => (e7 b z).elim (fun w => .inr (h6 b w)) False.elim) fun b z => z)) g4 .refl
      · cases e
    · exact ⟨M1, ρ1, F1, _, g1, e1, fun M2 H2 F2 S2 g2 => q M2 H2 σ F2 (S2.sub hF fun _ z => z) g2 .refl⟩
  · cases e
/-! three names at once -/
def sPar3 (i j l : Nat) (f : Rho → Option (Rs (List Ar))) : Rho → Option Out := fun ρ => ofR (f ρ) fun as ρ1 => match as with
  | [.own (.fr d1), .own (.fr d2), .own (.fr d3)] => if i < ρ1.length ∧ j < ρ1.length ∧ l < ρ1.length then some (.nx (((ρ1.set i (some (.fr d1))).set j (some (.fr d2))).set l (some (.fr d3)))) else none
  | _ => none
theorem ArL.own3 {K : PySem.W.Frag} {M H : Hp} {σ : L2.St} {t u w : T} {vs : List V} {R : Fp} (h : ArL K M H σ [.own t, .own u, .own w] vs R) : ∃ v1 v2 v3 R1 R2 R3, vs = [v1, v2, v3] ∧ Rp K M H t v1 R1 ∧ Rp K M H u v2 R2 ∧ Rp K M H w v3 R3 := by
  cases h with | own h t => cases t with | own h2 t => cases t with | own h3 t => cases t; exact ⟨_, _, _, _, _, _, rfl, h, h2, h3⟩
theorem ss_par3 {a b c : Expr} {i j l : Nat} {x y z : Str} {f : Rho → Option (Rs (List Ar))} {px py pz pt : Pos} {kt k2 pt2} (hpi : i ∉ pin) (hpj : j ∉ pin) (hpl : l ∉ pin) (hc : X.calm = true) (hN : X.N.Nodup) (hi : X.N[i]? = some x) (hj : X.N[j]? = some y) (hl : X.N[l]? = some z) (hij : i ≠ j) (hil : i ≠ l) (hjl : j ≠ l)
    (hx : X.env.scope.names.lookup x = some .local) (hy : X.env.scope.names.lookup y = some .local) (hz : X.env.scope.names.lookup z = some .local) (ha : AE X W [a, b, c] f)
    (hw : swappedStores [.Tuple [.Name x px, .Name y py, .Name z pz] kt pt] (.Tuple [a, b, c] k2 pt2) X.env = pure (some [x, y, z]) := by rfl)
    (hs : swapsWithSole [.Tuple [.Name x px, .Name y py, .Name z pz] kt pt] (.Tuple [a, b, c] k2 pt2) pos.line X.env = pure false := by rfl) :
    SS X W pin (.Assign [.Tuple [.Name x px, .Name y py, .Name z pz] kt pt] (.Tuple [a, b, c] k2 pt2) pos) (sPar3 i j l f) := (ps_par3 hc hN hi hj hl hij hil hjl hx hy hz ha hw hs).lv fun D σ H h => ts_ta h fun M1 H1 as vs R F1 ρ1 o P e g1 r1 d1 hR hF q => by
  split at e
  · next d1' d2' d3' =>
    split at e
    · next hl =>
      cases e
      obtain ⟨v1, v2, v3, R1, R2, R3, rfl, rp1, rp2, rp3⟩ := r1.own3
      have g2 := g1.put (i := i) (by rw [← g1.len]; exact hl.1) (.fr rp1.fr_inv.1) fun a z => z.elim
      have g3 := g2.put (i := j) (by simp; rw [← g1.len]; exact hl.2.1) (.fr rp2.fr_inv.1) fun a z => z.elim
      have g4 := g3.put (i := l) (by simp; rw [← g1.len]; exact hl.2.2) (.fr rp3.fr_inv.1) fun a z => z.elim
      have hst : Stp M1 H1 P M1 H1 (Al (fun m a => if m = l then False else if m = j then False else if m = i then False else F1 m a)) := .refl fun a ⟨m, z⟩ => by
        by_cases y0 : m = l
        · simp [y0] at z
        · by_cases y1 : m = j
          · simp [y0, y1] at z
          · by_cases y2 : m = i
            · simp [y0, y1, y2] at z
            · simp only [y0, y1, y2, if_false] at z; exact hF a ⟨m, z⟩
      refine ⟨v1, v2, v3, rfl, q M1 H1 _ _ hst g4 fun m hm => ?_⟩
      rw [List.getElem?_set_ne (fun z => hpl (by rw [z]; exact hm)), List.getElem?_set_ne (fun z => hpj (by rw [z]; exact hm)), List.getElem?_set_ne (fun z => hpi (by rw [z]; exact hm))]
    · cases e
  · cases e
/-! range(i, j, c), reversed -/
def rngC (lo c : Int) (n : Nat) : List D := (List.range n).map fun i : Nat => .int (lo + (i : Nat) * c)
def iRange3 (f : Rho → Option (Rs (List Ar))) : Rho → Option (Rs (List D)) := fun ρ => bnd (f ρ) fun as ρ1 => match as with
  | [.own (.fr (.int i)), .own (.fr (.int j)), .own (.fr (.int c))] => if c ≠ 0 ∧ c.natAbs < 1073741824 ∧ Builtin.Range.small i j c = true ∧ 0 ≤ Builtin.Range.rangeSize i j c ∧ Builtin.Range.rangeSize i j c ≤ 16777216 then some (.ok (rngC i c (Builtin.Range.rangeSize i j c).toNat) ρ1) else none
  | _ => none
variable {tg : Expr}
theorem its_rngC {K : PySem.W.Frag} {M : Hp} {lo c : Int} {n : Nat} : Its K M (Itc lo c n) (rngC lo c n) := fun M2 H2 m le i => by
  have hl : (rngC lo c n).length = n := by simp [rngC]
  refine ⟨fun hi => by rw [hl] at hi; exact hi, fun hi => by rw [hl] at hi; exact hi, fun x H3 d e y => ?_⟩
  obtain ⟨rfl, rfl⟩ := y
  refine ⟨M2, .refl le, ?_⟩
  unfold rngC at e
  rw [List.getElem?_map] at e
  obtain ⟨j, e1, e2⟩ := Option.map_eq_some_iff.mp e
  rw [List.getElem?_range] at e1
  · cases e1; subst e2; exact .int _
  · have := (List.getElem?_eq_some_iff.mp e1).1
    simpa using this
theorem ei_range3 {a b c : Expr} {f : Rho → Option (Rs (List Ar))} {p : Pos} (hg : Gl X "range") (hm : X.mg "range" = none) (ha : AE X W [a, b, c] f)
    (hs : starEach [a, b, c] X.env = (false, eval a X.env) :: starEach [b, c] X.env := by rfl) (hpl : (backTo pos (starEach [b, c] X.env)).any (·.1) = false := by rfl) :
    EI X W tg (.Call (.Name "range" p) [a, b, c] [] pos) (iRange3 f) := (pi_range3 hg hm ha hs hpl).lv fun σ H Q ⟨M, ρ, F, r, g, e, q⟩ => by
  rcases bnd_some e with ⟨as, ρ1, e1, e⟩ | ⟨c, ρ', e1, rfl⟩
  · split at e
    · next i j c =>
      split at e
      · next hj =>
        cases e
        refine ⟨M, ρ, F, _, g, e1, fun M1 H1 vs R1 F1 S1 g1 r1 d1 => ?_⟩
        obtain ⟨v1, v2, v3, _, _, _, rfl, rp, rp2, rp3⟩ := r1.own3
        obtain rfl := rp.fr_inv.1.int_inv
        obtain rfl := rp2.fr_inv.1.int_inv
        obtain rfl := rp3.fr_inv.1.int_inv
        exact ⟨i, j, c, (Builtin.Range.rangeSize i j c).toNat, rfl, ⟨hj.1, hj.2.1, hj.2.2.1, by have := hj.2.2.2.1; omega⟩, q M1 H1 F1 _ (S1.sub (fun _ z => z) fun a z => .inr z) g1 its_rngC (by have := hj.2.2.2; simp [rngC]; omega)⟩
      · cases e
    · cases e
  · exact ⟨M, ρ, F, _, g, e1, q⟩
end
end Lv

set_option maxHeartbeats 2000000
namespace Lv
open PySem PySem.Spec PyProof.Rows L2
/-! ### list(range(..)), tuple(range(..)) -/
def rgOkB (a b : Int) : Bool := decide (-4000000000000000000 ≤ a ∧ a ≤ 4000000000000000000 ∧ -4000000000000000000 ≤ b ∧ b ≤ 4000000000000000000 ∧ b - a ≤ 16777216)
def rgI : Option T → Option Int
  | some (.fr (.int i)) => some i
  | _ => none
def eLR (fa fb : Rho → Option T) : Rho → Option (Rs T) := fun ρ => (rgI (fa ρ)).bind fun a => (rgI (fb ρ)).bind fun b => if rgOkB a b = true then some (.ok (.lst ((rngD a (b - a).toNat).map .fr)) ρ) else none
def kTR (fa fb : Rho → Option T) : Rho → Option T := fun ρ => (rgI (fa ρ)).bind fun a => (rgI (fb ρ)).bind fun b => if rgOkB a b = true then some (.fr (.tuple (rngD a (b - a).toNat))) else none
theorem rgI_some {o : Option T} {i : Int} (h : rgI o = some i) : o = some (.fr (.int i)) := by
  unfold rgI at h
  split at h
  · cases h; rfl
  · cases h
theorem rgV_dz {K : PySem.W.Frag} {M : Hp} (a : Int) : ∀ n : Nat, DzL K M ((List.range n).map fun i => V.int (a + (i : Nat))) (rngD a n) := fun n => by
  unfold rngD
  generalize List.range n = l
  induction l with
  | nil => exact .nil
  | cons x l ih => exact .cons (.int _) ih
theorem ke_fin {K : PySem.W.Frag} {M H M1 H1 : Hp} {σ : L2.St} {ρ : Rho} {F : Nat → Fp} {t : T} {Q : VK} (x1 : Ext M H M1 H1) (g : Good K M H σ ρ F) (q : ∀ M' H' v R F', Stp M H (Al F) M' H' (fun a => R a ∨ Al F' a) → Good K M' H' σ ρ F' → Rp K M' H' t v R → (∀ a, R a → ¬ Al F' a) → Q v H') : rFin K M1 H1 t Q :=
  fun M3 H3 v R x3 r3 n3 => q M3 H3 v R F ((x1.trans x3).stp fun a z => z.elim (fun z => .inr (Same.out x1.h (n3 a z))) .inl) (g.ext (x1.trans x3)) r3 fun a z y => by
    obtain ⟨_, o, eo⟩ := g.own a y
    rw [Same.out x1.h (n3 a z)] at eo; cases eo
section
variable {X : Cx} {W : WS} {a b : Expr}
theorem ee_listR1 {f : Rho → Option T} {p p2 q pos : Pos} (hc : X.calm = true) (hg : Gl X "list") (hm : X.mg "list" = none) (hg2 : Gl X "range") (hm2 : X.mg "range" = none) (ha : EK X a f)
    (na : starEach [a] X.env = (false, eval a X.env) :: starEach [] X.env := by rfl) (nb : starEach [.Call (.Name "range" p2) [a] [] q] X.env = (false, eval (.Call (.Name "range" p2) [a] [] q) X.env) :: starEach [] X.env := by rfl) :
    EE X W (.Call (.Name "list" p) [.Call (.Name "range" p2) [a] [] q] [] pos) (eLR (kC (.int 0)) f) := (pe_listRg hc hg hm (prg_1 hg2 hm2 ha na) nb).lv fun σ H Q ⟨M, ρ, F, r, g, e, qq⟩ => by
  obtain ⟨i, e1, e⟩ := Option.bind_eq_some_iff.mp e
  obtain ⟨j, e2, e⟩ := Option.bind_eq_some_iff.mp e
  cases e1
  split at e
  · next hb =>
    cases e
    have hb' := of_decide_eq_true hb
    refine ⟨M, ρ, F, _, g, rgI_some e2, fun M1 H1 v R x1 r1 => ⟨j, r1.fr_inv.1.int_inv, ⟨by omega, by omega, by omega, by omega, by omega⟩, fun p np => ?_⟩⟩
    exact fin_list x1.le (rgV_dz 0 _) (ke_fin x1 g qq) np
  · cases e
theorem ee_listR2 {f f2 : Rho → Option T} {p p2 q pos : Pos} (hc : X.calm = true) (hg : Gl X "list") (hm : X.mg "list" = none) (hg2 : Gl X "range") (hm2 : X.mg "range" = none) (ha : EK X a f) (hb : EK X b f2)
    (na : starEach [a, b] X.env = (false, eval a X.env) :: starEach [b] X.env := by rfl) (na2 : starEach [b] X.env = (false, eval b X.env) :: starEach [] X.env := by rfl) (hpb : (backTo q (starEach [b] X.env)).any (·.1) = false := by rfl) (nb : starEach [.Call (.Name "range" p2) [a, b] [] q] X.env = (false, eval (.Call (.Name "range" p2) [a, b] [] q) X.env) :: starEach [] X.env := by rfl) :
    EE X W (.Call (.Name "list" p) [.Call (.Name "range" p2) [a, b] [] q] [] pos) (eLR f f2) := (pe_listRg hc hg hm (prg_2 hg2 hm2 ha hb na na2 hpb) nb).lv fun σ H Q ⟨M, ρ, F, r, g, e, qq⟩ => by
  obtain ⟨i, e1, e⟩ := Option.bind_eq_some_iff.mp e
  obtain ⟨j, e2, e⟩ := Option.bind_eq_some_iff.mp e
  split at e
  · next hb =>
    cases e
    have hb' := of_decide_eq_true hb
    refine ⟨M, ρ, F, _, g, rgI_some e1, fun M1 H1 v R x1 r1 => ⟨M1, ρ, F, _, g.ext x1, rgI_some e2, fun M2 H2 v2 R2 x2 r2 => ⟨i, j, r1.fr_inv.1.int_inv, r2.fr_inv.1.int_inv, ⟨by omega, by omega, by omega, by omega, by omega⟩, fun p np => ?_⟩⟩⟩
    exact fin_list (x1.trans x2).le (rgV_dz i _) (ke_fin (x1.trans x2) g qq) np
  · cases e
theorem ek_tupR1 {f : Rho → Option T} {p p2 q pos : Pos} (hc : X.calm = true) (hg : Gl X "tuple") (hm : X.mg "tuple" = none) (hg2 : Gl X "range") (hm2 : X.mg "range" = none) (ha : EK X a f)
    (na : starEach [a] X.env = (false, eval a X.env) :: starEach [] X.env := by rfl) (nb : starEach [.Call (.Name "range" p2) [a] [] q] X.env = (false, eval (.Call (.Name "range" p2) [a] [] q) X.env) :: starEach [] X.env := by rfl) :
    EK X (.Call (.Name "tuple" p) [.Call (.Name "range" p2) [a] [] q] [] pos) (kTR (kC (.int 0)) f) := (pe_tupRg hc hg hm (prg_1 hg2 hm2 ha na) nb).lv fun σ H Q ⟨M, ρ, F, r, g, e, qq⟩ => by
  obtain ⟨i, e1, e⟩ := Option.bind_eq_some_iff.mp e
  obtain ⟨j, e2, e⟩ := Option.bind_eq_some_iff.mp e
  cases e1
  split at e
  · next hb =>
    cases e
    have hb' := of_decide_eq_true hb
    refine ⟨M, ρ, F, _, g, rgI_some e2, fun M1 H1 v R x1 r1 => ⟨j, r1.fr_inv.1.int_inv, ⟨by omega, by omega, by omega, by omega, by omega⟩, fun p np => ?_⟩⟩
    exact fin_tup x1.le (rgV_dz 0 _) (k_fin x1 qq) np
  · cases e
theorem ek_tupR2 {f f2 : Rho → Option T} {p p2 q pos : Pos} (hc : X.calm = true) (hg : Gl X "tuple") (hm : X.mg "tuple" = none) (hg2 : Gl X "range") (hm2 : X.mg "range" = none) (ha : EK X a f) (hb : EK X b f2)
    (na : starEach [a, b] X.env = (false, eval a X.env) :: starEach [b] X.env := by rfl) (na2 : starEach [b] X.env = (false, eval b X.env) :: starEach [] X.env := by rfl) (hpb : (backTo q (starEach [b] X.env)).any (·.1) = false := by rfl) (nb : starEach [.Call (.Name "range" p2) [a, b] [] q] X.env = (false, eval (.Call (.Name "range" p2) [a, b] [] q) X.env) :: starEach [] X.env := by rfl) :
    EK X (.Call (.Name "tuple" p) [.Call (.Name "range" p2) [a, b] [] q] [] pos) (kTR f f2) := (pe_tupRg hc hg hm (prg_2 hg2 hm2 ha hb na na2 hpb) nb).lv fun σ H Q ⟨M, ρ, F, r, g, e, qq⟩ => by
  obtain ⟨i, e1, e⟩ := Option.bind_eq_some_iff.mp e
  obtain ⟨j, e2, e⟩ := Option.bind_eq_some_iff.mp e
  split at e
  · next hb =>
    cases e
    have hb' := of_decide_eq_true hb
    refine ⟨M, ρ, F, _, g, rgI_some e1, fun M1 H1 v R x1 r1 => ⟨M1, ρ, F, _, g.ext x1, rgI_some e2, fun M2 H2 v2 R2 x2 r2 => ⟨i, j, r1.fr_inv.1.int_inv, r2.fr_inv.1.int_inv, ⟨by omega, by omega, by omega, by omega, by omega⟩, fun p np => ?_⟩⟩⟩
    exact fin_tup (x1.trans x2).le (rgV_dz i _) (k_fin (x1.trans x2) qq) np
  · cases e
end
end Lv

set_option maxHeartbeats 2000000
namespace Lv
open PySem PySem.Spec PyProof.Rows L2
/-! ### what stands at the module's top: plain data -/
def flatB : D → Value → Bool
  | .none, .none => true
  | .bool b, .bool c => b == c
  | .int i, .int j _ => decide (i = j)
  | .str x, .str y _ => decide (x = y)
  | _, _ => false
def allB (f : D → Value → Bool) : List D → List Value → Bool
  | [], [] => true
  | d :: ds, u :: us => f d u && allB f ds us
  | _, _ => false
def seqB (K : PySem.W.Frag) (f : D → Value → Bool) : D → Value → Bool
  | .tuple ds, .ref a => (match K.lookup a with
    | some ⟨.type c, _, .seq its _, _⟩ => decide (c = "tuple") && (decide (its.size ≤ sizeLine) && allB f ds its.toList)
    | _ => false)
  | .list ds, .ref a => (match K.lookup a with
    | some ⟨.type c, none, .seq its _, _⟩ => decide (c = "list") && (decide (its.size ≤ sizeLine) && allB f ds its.toList)
    | _ => false)
  | _, _ => false
def datB (K : PySem.W.Frag) : Nat → D → Value → Bool
  | 0, d, u => flatB d u
  | n + 1, d, u => flatB d u || seqB K (datB K n) d u
def Tells (K : PySem.W.Frag) (d : D) (u : Value) : Prop := ∃ v, RelV v u ∧ ∀ M, Dz K M v d
theorem flat_of {K : PySem.W.Frag} {d : D} {u : Value} (e : flatB d u = true) : Tells K d u := by
  unfold flatB at e
  split at e
  · exact ⟨.non, rfl, fun _ => .non⟩
  · next b c => cases (eq_of_beq e); exact ⟨.bl _, rfl, fun _ => .bl _⟩
  · next i j t => cases (of_decide_eq_true e); exact ⟨.int _, ⟨_, rfl⟩, fun _ => .int _⟩
  · next i j t => cases (of_decide_eq_true e); exact ⟨.str _, ⟨_, rfl⟩, fun _ => .str _⟩
  · cases e
theorem all_of {K : PySem.W.Frag} {f : D → Value → Bool} (h : ∀ d u, f d u = true → Tells K d u) : ∀ {ds : List D} {us : List Value}, allB f ds us = true → ∃ vs, Vals vs us ∧ ∀ M, DzL K M vs ds
  | [], [], _ => ⟨[], .nil, fun _ => .nil⟩
  | [], _ :: _, e => by cases e
  | _ :: _, [], e => by cases e
  | d :: ds, u :: us, e => by
    obtain ⟨e1, e2⟩ := Bool.and_eq_true_iff.mp e
    obtain ⟨v, r, z⟩ := h d u e1
    obtain ⟨vs, rs, zs⟩ := all_of h e2
    exact ⟨v :: vs, .cons r rs, fun M => .cons (z M) (zs M)⟩
theorem seq_of {K : PySem.W.Frag} {f : D → Value → Bool} (h : ∀ d u, f d u = true → Tells K d u) {d : D} {u : Value} (e : seqB K f d u = true) : Tells K d u := by
  unfold seqB at e
  split at e
  · next ds a =>
    split at e
    · next c od its m sl q =>
      simp only [Bool.and_eq_true, decide_eq_true_eq] at e
      obtain ⟨h1, h2, h3⟩ := e
      obtain ⟨vs, rs, zs⟩ := all_of h h3
      exact ⟨.ref a, rfl, fun M => .tup (.inr ⟨_, its, m, q, congrArg Value.type h1, rfl, h2, rs⟩) (zs M)⟩
    · cases e
  · next ds a =>
    split at e
    · next c its m sl q =>
      simp only [Bool.and_eq_true, decide_eq_true_eq] at e
      obtain ⟨h1, h2, h3⟩ := e
      obtain ⟨vs, rs, zs⟩ := all_of h h3
      exact ⟨.ref a, rfl, fun M => .lst (.inr ⟨_, its, m, q, congrArg Value.type h1, rfl, rfl, h2, rs⟩) (zs M)⟩
    · cases e
  · cases e
theorem dat_of {K : PySem.W.Frag} : ∀ (n : Nat) (d : D) (u : Value), datB K n d u = true → Tells K d u
  | 0, d, u, e => flat_of e
  | n + 1, d, u, e => by
    rcases Bool.or_eq_true_iff.mp (show (flatB d u || seqB K (datB K n) d u) = true from e) with z | z
    · exact flat_of z
    · exact seq_of (dat_of n) z
def topB (K : PySem.W.Frag) (x : Str) (d : D) : Bool := match PySem.W.nsIn K mainGlobals x with
  | some (some u) => datB K 12 d u
  | _ => false
theorem top_of {K : PySem.W.Frag} {h : Heap} {mg : Str → Option Value} {x : Str} {d : D} (X : K.In h) (G : h.Ns mainGlobals mg) (e : topB K x d = true) : ∃ u, mg x = some u ∧ Tells K d u := by
  unfold topB at e
  split at e
  · next u q => exact ⟨u, PySem.W.mg_of X G q, dat_of _ _ _ e⟩
  · cases e
theorem ek_gdat {X : Cx} {x : Str} {d : D} {pos : Pos} (hg : Gl X x) (hm : ∃ u, X.mg x = some u ∧ Tells X.K d u) (hd : (x == ("__debug__" : Str)) = false := by decide) : EK X (.Name x pos) (kC d) := by
  obtain ⟨u, h1, v, r, z⟩ := hm
  exact ek_c (pe_glob hg h1 r hd) z
/-! the look at the top's end, with these -/
open He in
abbrev AlB : Type := AlD × Bool
open He in
def obsBG (n : Nat) (fa : List Fa) (fn : List DefD) (cs : List (Str × D)) (g : Addr → Option Obj) : AlB := (obsD fa fn (frG g (asD g n)), cs.all fun p => topB (frG g (asD g n)) p.1 p.2)
open He in
def hookB (n : Nat) (fa : List Fa) (fn : List DefD) (cs : List (Str × D)) : PySem.W.Hook where
  α := AlB
  obs := fun s => obsBG n fa fn cs s.heap.get?
  val := fun _ => (valD fn, true)
  says := fun _ h => ∃ K : PySem.W.Frag, K.In h ∧ SaysD fa fn K ∧ ∀ p ∈ cs, topB K p.1 p.2 = true
  of := fun _ _ e => ⟨_, frG_in, congrArg (fun z : AlB => z.1) e, fun p hp => List.all_eq_true.mp (congrArg (fun z : AlB => z.2) e) p hp⟩
  keeps := fun _ _ _ ⟨K, hK, c⟩ k => ⟨K, PySem.W.Frag.In.keeps hK k, c⟩
open He in
theorem obsBG_eq {n : Nat} {fa : List Fa} {fn : List DefD} {cs : List (Str × D)} {g : Addr → Option Obj} {s : Shared} (h : ∀ a, g a = s.heap.get? a) : obsBG n fa fn cs g = (hookB n fa fn cs).obs s := by
  have e : g = s.heap.get? := funext h
  rw [e] <;> rfl
end Lv

set_option maxHeartbeats 2000000
namespace Lv
open PySem PySem.Spec PyProof.Rows L2
/-! ### dicts with keys that are ints and texts -/
def keyT : T → Option Key
  | .fr (.int i) => some (.inl i)
  | .fr (.str x) => some (.inr x)
  | _ => none
def keq : D → Key → Bool
  | .int i, .inl j => decide (i = j)
  | .str x, .inr y => decide (x = y)
  | _, _ => false
def valT : List (Key × T) → Key → Option T
  | [], _ => none
  | (k', t) :: r, k => if k' = k then some t else valT r k
def valD : List (D × D) → Key → Option D
  | [], _ => none
  | (k', t) :: r, k => if keq k' k = true then some t else valD r k
def hasT (kvs : List (Key × T)) (k : Key) : Bool := (valT kvs k).isSome
def hasD (kvs : List (D × D)) (k : Key) : Bool := (valD kvs k).isSome
def replT (k : Key) (t : T) : List (Key × T) → List (Key × T)
  | [] => []
  | (k', u) :: r => (if k' = k then (k', t) else (k', u)) :: replT k t r
def putT (kvs : List (Key × T)) (k : Key) (t : T) : List (Key × T) := if hasT kvs k = true then replT k t kvs else kvs ++ [(k, t)]
section
variable {K : PySem.W.Frag} {M H : Hp}
theorem keyT_inv {t : T} {k : Key} {v : V} {R : Fp} (r : Rp K M H t v R) (e : keyT t = some k) : v = L2.kV k := by
  unfold keyT at e
  split at e
  · cases e; exact r.fr_inv.1.int_inv
  · cases e; exact r.fr_inv.1.str_inv
  · cases e
theorem keq_keyD {k' k : Key} : keq (keyD k') k = decide (k' = k) := by
  cases k' <;> cases k <;> simp [keq, keyD]
theorem valV_cons {k' k : Key} {v : V} {r : List (Key × V)} : valV ((k', v) :: r) k = if k' = k then some v else valV r k := by
  unfold valV
  rw [List.find?_cons]
  by_cases h : k' = k <;> simp [h]
theorem RpK.val {ts : List (Key × T)} : ∀ {vs : List (Key × V)} {R : Fp} {k : Key}, RpK K M H ts vs R → (∀ t, valT ts k = some t → ∃ v R', valV vs k = some v ∧ Rp K M H t v R') ∧ (valT ts k = none → valV vs k = none) := by
  induction ts with
  | nil => intro vs R k r; cases r; exact ⟨fun t e => (by cases e), fun _ => rfl⟩
  | cons p ts ih =>
    intro vs R k r
    cases r with
    | @cons k' x v' xs vs R R' h t dj =>
      have q := ih (k := k) t
      rw [valV_cons]
      unfold valT
      by_cases e : k' = k
      · rw [if_pos e, if_pos e]; exact ⟨fun t z => (by cases z; exact ⟨_, _, rfl, h⟩), fun z => (by cases z)⟩
      · rw [if_neg e, if_neg e]; exact q
theorem DzK.val {ds : List (D × D)} : ∀ {vs : List (Key × V)} {k : Key}, DzK K M vs ds → (∀ d, valD ds k = some d → ∃ v, valV vs k = some v ∧ Dz K M v d) ∧ (valD ds k = none → valV vs k = none) := by
  induction ds with
  | nil => intro vs k r; cases r; exact ⟨fun t e => (by cases e), fun _ => rfl⟩
  | cons p ts ih =>
    intro vs k r
    cases r with
    | cons h t =>
      rename_i k' v' vs' d'
      have q := ih (k := k) t
      rw [valV_cons]
      unfold valD
      rw [keq_keyD]
      by_cases e : k' = k
      · rw [if_pos (by simpa using e), if_pos e]; exact ⟨fun t z => (by cases z; exact ⟨_, rfl, h⟩), fun z => (by cases z)⟩
      · rw [if_neg (by simpa using e), if_neg e]; exact q
theorem Rp.dk_inv {kvs : List (Key × T)} {v : V} {R : Fp} (h : Rp K M H (.dk kvs) v R) : ∃ a vs R', v = .ref a ∧ H a = some (.dK vs) ∧ M a = none ∧ RpK K M H kvs vs R' ∧ ¬ R' a ∧ ∀ b, R b ↔ b = a ∨ R' b := by
  cases h with | dk h1 h2 h3 h4 => exact ⟨_, _, _, rfl, h1, h2, h3, h4, fun _ => Iff.rfl⟩
theorem Rp.dkl_inv {kvs : List (D × D)} {v : V} {R : Fp} (h : Rp K M H (.dkl kvs) v R) : ∃ a o vs, v = .ref a ∧ M a = some (.frz o (.dK vs)) ∧ DzK K M vs kvs := by
  cases h with | dkl h1 h2 => exact ⟨_, _, _, rfl, h1, h2⟩
theorem Dz.dict_inv {kvs : List (D × D)} {v : V} (h : Dz K M v (.dict kvs)) : ∃ a vs, v = .ref a ∧ M a = some (.dK vs) ∧ DzK K M vs kvs := by
  cases h with | dk h1 h2 => exact ⟨_, _, rfl, h1, h2⟩
theorem RpK.repl {k : Key} {d : D} {v : V} (hv : Dz K M v d) {ts : List (Key × T)} : ∀ {vs : List (Key × V)} {R : Fp}, RpK K M H ts vs R → ∃ R', RpK K M H (replT k (.fr d) ts) (vs.map fun kv => if kv.1 = k then (kv.1, v) else kv) R' ∧ ∀ a, R' a → R a := by
  induction ts with
  | nil => intro vs R r; cases r; exact ⟨_, .nil, fun _ z => z⟩
  | cons p ts ih =>
    intro vs R r
    cases r with
    | @cons k' x v' xs vs R R' h t dj =>
      obtain ⟨R2, q, e2⟩ := ih t
      unfold replT
      rw [List.map_cons]
      by_cases e : k' = k
      · rw [if_pos e, if_pos e]
        exact ⟨_, .cons (.fr hv) q fun _ z => z.elim, fun a z => z.elim (fun z => z.elim) fun z => .inr (e2 a z)⟩
      · rw [if_neg e, if_neg e]
        exact ⟨_, .cons h q fun a z y => dj a z (e2 a y), fun a z => z.imp_right (e2 a)⟩
theorem RpK.snoc {k : Key} {t : T} {v : V} {R2 : Fp} (hv : Rp K M H t v R2) {ts : List (Key × T)} : ∀ {vs : List (Key × V)} {R : Fp}, RpK K M H ts vs R → (∀ a, R a → ¬ R2 a) → ∃ R', RpK K M H (ts ++ [(k, t)]) (vs ++ [(k, v)]) R' ∧ ∀ a, R' a → R a ∨ R2 a := by
  induction ts with
  | nil => intro vs R r _; cases r; exact ⟨_, .cons hv .nil fun _ _ z => z, fun _ z => z.elim .inr (fun z => z.elim)⟩
  | cons p ts ih =>
    intro vs R r d
    cases r with
    | @cons k' x v' xs vs R R' h t dj =>
      obtain ⟨R3, q, e2⟩ := ih t fun a z => d a (.inr z)
      exact ⟨_, .cons h q fun a z y => (e2 a y).elim (dj a z) (d a (.inl z)), fun a z => z.elim (fun z => .inl (.inl z)) fun z => (e2 a z).imp_left .inr⟩
theorem any_val {vs : List (Key × V)} {k : Key} : (vs.any fun kv => decide (kv.1 = k)) = (valV vs k).isSome := by
  induction vs with
  | nil => rfl
  | cons p r ih =>
    obtain ⟨k', v⟩ := p
    rw [valV_cons, List.any_cons, ih]
    by_cases h : k' = k <;> simp [h]
theorem RpK.has {ts : List (Key × T)} {vs : List (Key × V)} {R : Fp} {k : Key} (r : RpK K M H ts vs R) : (valV vs k).isSome = hasT ts k := by
  unfold hasT
  obtain ⟨h1, h2⟩ := r.val (k := k)
  cases e : valT ts k with
  | none => rw [h2 e]; rfl
  | some t => obtain ⟨v, _, e2, _⟩ := h1 t e; rw [e2]; rfl
theorem RpK.put {k : Key} {d : D} {v : V} (hv : Dz K M v d) {ts : List (Key × T)} {vs : List (Key × V)} {R : Fp} (r : RpK K M H ts vs R) : ∃ R', RpK K M H (putT ts k (.fr d)) (putK vs k v) R' ∧ ∀ a, R' a → R a := by
  unfold putT putK
  rw [any_val, r.has]
  by_cases h : hasT ts k = true
  · rw [if_pos h, if_pos h]; exact r.repl hv
  · rw [if_neg h, if_neg h]
    obtain ⟨R', q, e⟩ := r.snoc (k := k) (.fr hv) fun _ _ z => z
    exact ⟨R', q, fun a z => (e a z).elim id False.elim⟩
end
section
variable {X : Cx} {W : WS} {pin : List Nat} {e a b : Expr} {es : List Expr} {pos p : Pos} {lp : Rho → Option (Nat × List Sg)}
/-! {} -/
def eDn : Rho → Option (Rs T) := fun ρ => some (.ok (.dk []) ρ)
theorem ee_dn : EE X W (.Dict [] [] pos) eDn := pe_dnewK.lv fun σ H Q ⟨M, ρ, F, r, g, e, q⟩ => by
  cases e
  intro p np
  have x := Ext.new (o := .dK []) g.le np
  have mp : M p = none := Same.out g.le np
  have nF : ¬ Al F p := fun z => by obtain ⟨_, o, eo⟩ := g.own p z; rw [np] at eo; cases eo
  refine q M (upd H p (.dK [])) (.ref p) (fun b => b = p ∨ False) F (x.stp fun a z => ?_) (g.ext x) (.dk upd_same mp .nil fun z => z) fun a z y => ?_
  · rcases z with (z | z) | z
    · subst z; exact .inr np
    · exact z.elim
    · exact .inl z
  · rcases z with z | z
    · subst z; exact nF y
    · exact z
/-! d[k] -/
def rIxDk : R2 := fun x y H Q => ∃ a v, x = .ref a ∧ DGet H a y (some v) ∧ Q v H
theorem ix_dk (hu : X.A.units + 1 < cLine) : IxR X rIxDk := by
  intro value slice pins s σ H x y v u Q I rx ry h hs
  obtain ⟨a, w, rfl, g, q⟩ := h
  obtain rfl : v = Value.ref a := rx
  exact tail_any (dict_typeIs I g) PySem.F.slot_dict_getitem.lookup (d_getItem hu I g ry fun w' s' I' rw' => ⟨w, H, I', rw', q⟩) hs
def opIxD : T → T → Option T := fun a b => match a with
  | .dk kvs => (keyT b).bind (valT kvs)
  | .fr (.dict kvs) => (keyT b).bind fun k => (valD kvs k).map .fr
  | .dkl kvs => (keyT b).bind fun k => (valD kvs k).map .fr
  | _ => opIx a b
theorem ix_AD (hu : X.A.units + 64 < cLine) : IxR X (rOp2K X.K opIxD) := by
  intro value slice pins s σ H x y v u Q I rx ry ⟨M, t, R, t2, R2, w, m, r, r2, e, q⟩ hs
  unfold opIxD at e
  split at e
  · obtain ⟨k, e1, e2⟩ := Option.bind_eq_some_iff.mp e
    obtain rfl := keyT_inv r2 e1
    obtain ⟨a, vs, R', rfl, h1, h2, h3, h4, h5⟩ := r.dk_inv
    obtain ⟨z, R3, e3, r3⟩ := h3.val.1 _ e2
    exact ix_dk (by omega) value slice pins s σ H _ _ v u Q I rx ry ⟨a, z, rfl, e3 ▸ DGet.k h1, q M H z _ (.refl m) r3⟩ hs
  · obtain ⟨k, e1, e⟩ := Option.bind_eq_some_iff.mp e
    obtain ⟨d, e2, e3⟩ := Option.map_eq_some_iff.mp e
    subst e3
    obtain rfl := keyT_inv r2 e1
    obtain ⟨a, vs, rfl, h1, h2⟩ := r.fr_inv.1.dict_inv
    obtain ⟨z, e3, r3⟩ := h2.val.1 _ e2
    exact ix_dk (by omega) value slice pins s σ H _ _ v u Q I rx ry ⟨a, z, rfl, e3 ▸ DGet.k (m _ _ h1), q M H z _ (.refl m) (.fr r3)⟩ hs
  · obtain ⟨k, e1, e⟩ := Option.bind_eq_some_iff.mp e
    obtain ⟨d, e2, e3⟩ := Option.map_eq_some_iff.mp e
    subst e3
    obtain rfl := keyT_inv r2 e1
    obtain ⟨a, o, vs, rfl, h1, h2⟩ := r.dkl_inv
    obtain ⟨z, e3, r3⟩ := h2.val.1 _ e2
    exact ix_dk (by omega) value slice pins s σ H _ _ v u Q I rx ry ⟨a, z, rfl, .inl ⟨vs, k, .inr ⟨o, m _ _ h1⟩, rfl, e3.symm⟩, q M H z _ (.refl m) (.fr r3)⟩ hs
  · exact ix_A value slice pins s σ H x y v u Q I rx ry ⟨M, _, R, _, R2, w, m, r, r2, e, q⟩ hs
/-! k in d, not in d -/
theorem op_inD (hu : X.A.units + 64 < cLine) : OpR X (compareOp .In) (fun y x H Q => ∃ a o, x = .ref a ∧ DGet H a y o ∧ Q (.bl o.isSome) H) := by
  intro pins s σ H y x v u Q I ry rx h
  obtain ⟨a, ov, rfl, g, q⟩ := h
  obtain rfl : u = Value.ref a := rx
  exact d_in (by omega) I g ry fun s3 I3 => ⟨.bl ov.isSome, H, I3, rfl, q⟩
theorem op_notInD (hu : X.A.units + 64 < cLine) : OpR X (compareOp .NotIn) (fun y x H Q => ∃ a o, x = .ref a ∧ DGet H a y o ∧ Q (.bl (!o.isSome)) H) := by
  intro pins s σ H y x v u Q I ry rx h
  obtain ⟨a, ov, rfl, g, q⟩ := h
  obtain rfl : u = Value.ref a := rx
  exact d_notIn (by omega) I g ry fun s3 I3 => ⟨.bl (!ov.isSome), H, I3, rfl, q⟩
def opInD (neg : Bool) : T → T → Option T := fun a b => match b with
  | .dk kvs => (keyT a).map fun k => .fr (.bool (hasT kvs k ^^ neg))
  | .fr (.dict kvs) => (keyT a).map fun k => .fr (.bool (hasD kvs k ^^ neg))
  | .dkl kvs => (keyT a).map fun k => .fr (.bool (hasD kvs k ^^ neg))
  | _ => opInS neg a b
theorem isSome_T {K : PySem.W.Frag} {M H : Hp} {ts : List (Key × T)} {vs : List (Key × V)} {R : Fp} (k : Key) (r : RpK K M H ts vs R) : (valV vs k).isSome = hasT ts k := r.has
theorem isSome_D {K : PySem.W.Frag} {M : Hp} {ds : List (D × D)} {vs : List (Key × V)} (k : Key) (r : DzK K M vs ds) : (valV vs k).isSome = hasD ds k := by
  unfold hasD
  obtain ⟨h1, h2⟩ := r.val (k := k)
  cases e : valD ds k with
  | none => rw [h2 e]; rfl
  | some t => obtain ⟨v, e2, _⟩ := h1 t e; rw [e2]; rfl
theorem op_inAD (hu : X.A.units + 64 < cLine) : OpR X (compareOp .In) (rOp2 X.K (opInD false)) := by
  intro pins s σ H x y v u Q I rx ry ⟨M, t, R, t2, R2, w, m, r, r2, e, q⟩
  unfold opInD at e
  split at e
  · obtain ⟨k, e1, e2⟩ := Option.map_eq_some_iff.mp e
    subst e2
    obtain rfl := keyT_inv r e1
    obtain ⟨a, vs, R', rfl, h1, h2, h3, h4, h5⟩ := r2.dk_inv
    refine op_inD hu pins s σ H _ _ v u Q I rx ry ⟨a, _, rfl, DGet.k h1, ?_⟩
    rw [isSome_T k h3]
    exact q M H _ (fun _ => False) (.refl m) (by rw [Bool.xor_false]; exact .fr (.bl _)) fun _ z => z.elim
  · obtain ⟨k, e1, e2⟩ := Option.map_eq_some_iff.mp e
    subst e2
    obtain rfl := keyT_inv r e1
    obtain ⟨a, vs, rfl, h1, h2⟩ := r2.fr_inv.1.dict_inv
    refine op_inD hu pins s σ H _ _ v u Q I rx ry ⟨a, _, rfl, DGet.k (m _ _ h1), ?_⟩
    rw [isSome_D k h2]
    exact q M H _ (fun _ => False) (.refl m) (by rw [Bool.xor_false]; exact .fr (.bl _)) fun _ z => z.elim
  · obtain ⟨k, e1, e2⟩ := Option.map_eq_some_iff.mp e
    subst e2
    obtain rfl := keyT_inv r e1
    obtain ⟨a, o, vs, rfl, h1, h2⟩ := r2.dkl_inv
    refine op_inD hu pins s σ H _ _ v u Q I rx ry ⟨a, _, rfl, .inl ⟨vs, k, .inr ⟨o, m _ _ h1⟩, rfl, rfl⟩, ?_⟩
    rw [isSome_D k h2]
    exact q M H _ (fun _ => False) (.refl m) (by rw [Bool.xor_false]; exact .fr (.bl _)) fun _ z => z.elim
  · exact op_inA hu pins s σ H x y v u Q I rx ry ⟨M, _, R, _, R2, w, m, r, r2, e, q⟩
theorem op_notInAD (hu : X.A.units + 64 < cLine) : OpR X (compareOp .NotIn) (rOp2 X.K (opInD true)) := by
  intro pins s σ H x y v u Q I rx ry ⟨M, t, R, t2, R2, w, m, r, r2, e, q⟩
  unfold opInD at e
  split at e
  · obtain ⟨k, e1, e2⟩ := Option.map_eq_some_iff.mp e
    subst e2
    obtain rfl := keyT_inv r e1
    obtain ⟨a, vs, R', rfl, h1, h2, h3, h4, h5⟩ := r2.dk_inv
    refine op_notInD hu pins s σ H _ _ v u Q I rx ry ⟨a, _, rfl, DGet.k h1, ?_⟩
    rw [isSome_T k h3]
    exact q M H _ (fun _ => False) (.refl m) (by rw [Bool.xor_true]; exact .fr (.bl _)) fun _ z => z.elim
  · obtain ⟨k, e1, e2⟩ := Option.map_eq_some_iff.mp e
    subst e2
    obtain rfl := keyT_inv r e1
    obtain ⟨a, vs, rfl, h1, h2⟩ := r2.fr_inv.1.dict_inv
    refine op_notInD hu pins s σ H _ _ v u Q I rx ry ⟨a, _, rfl, DGet.k (m _ _ h1), ?_⟩
    rw [isSome_D k h2]
    exact q M H _ (fun _ => False) (.refl m) (by rw [Bool.xor_true]; exact .fr (.bl _)) fun _ z => z.elim
  · obtain ⟨k, e1, e2⟩ := Option.map_eq_some_iff.mp e
    subst e2
    obtain rfl := keyT_inv r e1
    obtain ⟨a, o, vs, rfl, h1, h2⟩ := r2.dkl_inv
    refine op_notInD hu pins s σ H _ _ v u Q I rx ry ⟨a, _, rfl, .inl ⟨vs, k, .inr ⟨o, m _ _ h1⟩, rfl, rfl⟩, ?_⟩
    rw [isSome_D k h2]
    exact q M H _ (fun _ => False) (.refl m) (by rw [Bool.xor_true]; exact .fr (.bl _)) fun _ z => z.elim
  · exact op_notInA hu pins s σ H x y v u Q I rx ry ⟨M, _, R, _, R2, w, m, r, r2, e, q⟩
/-! d[k] = v -/
theorem Good.wdk {K : PySem.W.Frag} {M H : Hp} {σ : L2.St} {ρ : Rho} {F : Nat → Fp} {i : Nat} {p : List Sg} {v0 v : V} (g : Good K M H σ ρ F) (hv : σ[i]? = some (some v0)) (fol : Fol H v0 p v) {ts ts' : List (Key × T)} (e : getAt ρ i p = some (.dk ts)) :
    ∃ a vs R, v = .ref a ∧ H a = some (.dK vs) ∧ M a = none ∧ RpK K M H ts vs R ∧ ¬ R a ∧ Al F a ∧ (∀ b, R b → Al F b) ∧
      ∀ vs' R', (RpK K M (upd H a (.dK vs')) ts' vs' R') → ¬ R' a → (∀ b, R' b → Al F b → R b) → ∃ ρ2 F2, setAt ρ i p (.dk ts') = some ρ2 ∧ Good K M (upd H a (.dK vs')) σ ρ2 F2 ∧
        Stp M H (fun b => Al F b ∨ R' b) M (upd H a (.dK vs')) (Al F2) ∧ ∀ b, Al F2 b ↔ (Al F b ∧ ¬ R b) ∨ R' b := by
  obtain ⟨R0, r, s, up⟩ := g.focus hv fol e
  obtain ⟨a, vs, R, rfl, h1, h2, h3, h4, h5⟩ := r.dk_inv
  have ra : R0 a := (h5 a).mpr (.inl rfl)
  refine ⟨a, vs, R, rfl, h1, h2, h3, h4, s a ra, fun b z => s b ((h5 b).mpr (.inr z)), fun vs' R' r' n d => ?_⟩
  have keepH : ∀ b o, b ≠ a → H b = some o → upd H a (.dK vs') b = some o := fun b o ne q => by rw [upd_ne ne]; exact q
  have le : L2.Same M (upd H a (.dK vs')) := fun b o q => keepH b o (fun z => by subst z; rw [h2] at q; cases q) (g.le b o q)
  obtain ⟨ρ2, F2, e2, g2, i2⟩ := up M (upd H a (.dK vs')) (.dk ts') _ (.dk upd_same h2 r' n) le ⟨L2.Same.refl _, fun b z o q => keepH b o (fun y => by subst y; exact z.2 ra) q, fun _ _ q => q⟩ fun b z y => by
    rcases z with z | z
    · subst z; exact y.2 ra
    · exact y.2 ((h5 b).mpr (.inr (d b z y.1)))
  have i3 : ∀ b, Al F2 b ↔ (Al F b ∧ ¬ R b) ∨ R' b := fun b => by
    rw [i2 b]
    constructor
    · rintro (⟨z, y⟩ | z | z)
      · exact .inl ⟨z, fun w => y ((h5 b).mpr (.inr w))⟩
      · subst z; exact .inl ⟨s _ ra, h4⟩
      · exact .inr z
    · rintro (⟨z, y⟩ | z)
      · by_cases w : b = a
        · exact .inr (.inl w)
        · exact .inl ⟨z, fun q => ((h5 b).mp q).elim w y⟩
      · exact .inr (.inr z)
  exact ⟨ρ2, F2, e2, g2, ⟨L2.Same.refl _, fun b o q ne => keepH b o (fun y => by subst y; exact ne (.inl (s _ ra))) q, fun b q1 q2 => absurd q1 q2, fun b z => .inl (((i3 b).mp z).imp And.left id)⟩, i3⟩
def sSetDk (i : Nat) (fi : Rho → Option (Rs T)) (f : Rho → Option (Rs T)) : Rho → Option Out := fun ρ => ofR (f ρ) fun t ρ1 => match t, slot ρ1 i with
  | .fr d, some _ => ofR (fi ρ1) fun kt ρ2 => (match slot ρ2 i, keyT kt with
    | some (.dk ts), some k => if ts.length < SZ then some (.nx (ρ2.set i (some (.dk (putT ts k (.fr d)))))) else none
    | _, _ => none)
  | _, _ => none
theorem ss_setDk (hu : X.A.units + 64 < cLine) {ie : Expr} {i : Nat} {x : Str} {px tpos : Pos} {fi f : Rho → Option (Rs T)} (he : EE X W e f) (ho : PE X (.Name x px) (tVar i)) (hi : EE X W ie fi)
    (ha : ∀ v, assign (.Subscript (.Name x px) ie tpos) X.env v = (do
      let ov ← holding [v] (eval (.Name x px) X.env)
      let iv ← holding [v, ov] (eval ie X.env)
      standAt tpos
      holding [v, ov, iv] (setItem ov iv v)
      release [v, ov, iv] []) := by intro _; rfl)
    (hs : swapsWithSole [.Subscript (.Name x px) ie tpos] e pos.line X.env = pure false := by rfl) (hw : swappedStores [.Subscript (.Name x px) ie tpos] e X.env = pure none := by rfl) (h1 : (assignEach [.Subscript (.Name x px) ie tpos] X.env).map (·.2) = [assign (.Subscript (.Name x px) ie tpos) X.env] := by rfl) :
    SS X W pin (.Assign [.Subscript (.Name x px) ie tpos] e pos) (sSetDk i fi f) := (ps_asg he (pg_sub ho hi (set_dict (by omega)) ha) hs hw h1).lv fun D σ H h => ts_te h fun M1 H1 t v R F1 ρ1 o P e g1 r1 d1 hR hF q => by
  split at e
  · next d t0 e0 =>
    obtain ⟨v0, h0, _⟩ := g1.sl i _ (slot_some e0)
    obtain ⟨dz, nR⟩ := r1.fr_inv
    refine ⟨v0, h0, ?_⟩
    rcases ofR_some e with ⟨kt, ρ2, e1, e⟩ | ⟨c, ρ2, e1, rfl⟩
    · refine ⟨M1, ρ1, F1, _, g1, e1, fun M2 H2 u R2 F2 S2 g2 r2 d2 => ?_⟩
      split at e
      · next ts k es ek =>
        split at e
        · next hl =>
          cases e
          obtain rfl := keyT_inv r2 ek
          obtain ⟨a, vs, R', rfl, h1, h2, h3, h4, h5, h6, up⟩ := g2.wdk (p := []) (ts' := putT ts k (.fr d)) h0 .nil (by unfold getAt; rw [es]; rfl)
          have hz : vs.length < sizeLine := by have := sz_ok (n := ts.length + 1) hl; rw [h3.length]; omega
          refine ⟨a, _, rfl, DPut.k h1 hz, ?_⟩
          have kp : ∀ {R : Fp}, ¬ R a → Kp M2 M2 H2 (upd H2 a (.dK (putK vs k v))) R := fun {R} n => ⟨L2.Same.refl _, fun b r o e => by rw [upd_ne (fun z => by subst z; exact n r)]; exact e, fun _ _ e => e⟩
          obtain ⟨R4, h7, e7⟩ := (h3.keep (kp h4)).put (k := k) (dz.mono S2.m)
          obtain ⟨ρ3, F3, e3, g4, S4, i4⟩ := up (putK vs k v) R4 h7 (fun z => h4 (e7 a z)) fun b z y => e7 b z
          have e4 : setAt ρ2 i [] (.dk (putT ts k (.fr d))) = some (ρ2.set i (some (.dk (putT ts k (.fr d))))) := by unfold setAt; rw [es]; rfl
          rw [e4] at e3; cases e3
          refine q M2 _ σ F3 ((S2.sub hF fun _ z => z).trans (S4.sub (fun b z => z.elim .inr fun z => .inr (h6 b (e7 b z))) fun b z => z)) g4 .refl
        · cases e
      · cases e
    · exact ⟨M1, ρ1, F1, _, g1, e1, fun M2 H2 F2 S2 g2 => q M2 H2 σ F2 (S2.sub hF fun _ z => z) g2 .refl⟩
  · cases e
end
end Lv

set_option maxHeartbeats 2000000
namespace Lv
open PySem PySem.Spec PyProof.Rows L2
/-! ### a dict while it is walked: locked -/
mutual
def noL : T → Bool
  | .fr _ => true
  | .lst xs => noLL xs
  | .dk kvs => noLK kvs
  | .obj _ fs => noLF fs
  | .dkl _ => false
def noLL : List T → Bool
  | [] => true
  | x :: xs => noL x && noLL xs
def noLK : List (Key × T) → Bool
  | [] => true
  | (_, x) :: xs => noL x && noLK xs
def noLF : List (Str × T) → Bool
  | [] => true
  | (_, x) :: xs => noL x && noLF xs
end
def rmv (M : Hp) (d : Addr) : Hp := fun a => if a = d then none else M a
section
variable {K : PySem.W.Frag} {M H : Hp} {d : Addr} {o : Obj} {ws : List (Key × V)}
theorem rmv_ne {a : Addr} (h : a ≠ d) : rmv M d a = M a := if_neg h
theorem rmv_eq : rmv M d d = none := if_pos rfl
theorem rmv_none {a : Addr} (h : M a = none) : rmv M d a = none := by
  unfold rmv
  split
  · rfl
  · exact h
theorem rmv_of (hd : M d = some (.frz o (.dK ws))) {a : Addr} {u : HO} (h : M a = some u) (n : u ≠ .frz o (.dK ws)) : rmv M d a = some u := by
  rw [rmv_ne (fun z => by subst z; rw [hd] at h; cases h; exact n rfl)]; exact h
theorem rmv_rdl (hd : M d = some (.frz o (.dK ws))) {a : Addr} {xs : List V} (h : SqL K M a xs) : SqL K (rmv M d) a xs := by
  rcases h with (h | ⟨o', h⟩) | h
  · exact .inl (.inl (rmv_of hd h (fun z => by cases z)))
  · exact .inl (.inr ⟨o', rmv_of hd h (fun z => by cases z)⟩)
  · exact .inr h
theorem rmv_rdt (hd : M d = some (.frz o (.dK ws))) {a : Addr} {xs : List V} (h : SqT K M a xs) : SqT K (rmv M d) a xs := by
  rcases h with (h | ⟨o', h⟩) | h
  · exact .inl (.inl (rmv_of hd h (fun z => by cases z)))
  · exact .inl (.inr ⟨o', rmv_of hd h (fun z => by cases z)⟩)
  · exact .inr h
mutual
theorem Dz.rm (hd : M d = some (.frz o (.dK ws))) : ∀ {v : V} {x : D}, Dz K M v x → Dz K (rmv M d) v x
  | _, _, .non => .non
  | _, _, .bl b => .bl b
  | _, _, .int b => .int b
  | _, _, .str b => .str b
  | _, _, .lst h t => .lst (rmv_rdl hd h) (DzL.rm hd t)
  | _, _, .tup h t => .tup (rmv_rdt hd h) (DzL.rm hd t)
  | _, _, .dk h t => .dk (rmv_of hd h (fun z => by cases z)) (DzK.rm hd t)
theorem DzL.rm (hd : M d = some (.frz o (.dK ws))) : ∀ {v : List V} {x : List D}, DzL K M v x → DzL K (rmv M d) v x
  | _, _, .nil => .nil
  | _, _, .cons h t => .cons (Dz.rm hd h) (DzL.rm hd t)
theorem DzK.rm (hd : M d = some (.frz o (.dK ws))) : ∀ {v : List (Key × V)} {x : List (D × D)}, DzK K M v x → DzK K (rmv M d) v x
  | _, _, .nil => .nil
  | _, _, .cons h t => .cons (Dz.rm hd h) (DzK.rm hd t)
end
theorem ne_of (hd : M d = some (.frz o (.dK ws))) {a : Addr} (h : M a = none) : a ≠ d := fun z => by subst z; rw [hd] at h; cases h
mutual
theorem Rp.rm {u : HO} (hd : M d = some (.frz o (.dK ws))) : ∀ {t : T} {v : V} {R : Fp}, Rp K M H t v R → noL t = true → Rp K (rmv M d) (upd H d u) t v R
  | _, _, _, .fr h, _ => .fr (h.rm hd)
  | _, _, _, .lst h1 h2 h3 h4, n => .lst (by rw [upd_ne (ne_of hd h2)]; exact h1) (rmv_none h2) (RpL.rm hd h3 (by simpa only [noL] using n)) h4
  | _, _, _, .dk h1 h2 h3 h4, n => .dk (by rw [upd_ne (ne_of hd h2)]; exact h1) (rmv_none h2) (RpK.rm hd h3 (by simpa only [noL] using n)) h4
  | _, _, _, .obj h1 h2 h3 h4 h5 h6 h7 h8, n => .obj (by rw [upd_ne (ne_of hd h3)]; exact h1) (by rw [upd_ne (ne_of hd h4)]; exact h2) (rmv_none h3) (rmv_none h4) h5 (RpF.rm hd h6 (by simpa only [noL] using n)) h7 h8
  | _, _, _, .dkl _ _, n => by simp [noL] at n
theorem RpL.rm {u : HO} (hd : M d = some (.frz o (.dK ws))) : ∀ {t : List T} {v : List V} {R : Fp}, RpL K M H t v R → noLL t = true → RpL K (rmv M d) (upd H d u) t v R
  | _, _, _, .nil, _ => .nil
  | _, _, _, .cons h t dj, n => by
    simp only [noLL, Bool.and_eq_true] at n
    exact .cons (Rp.rm hd h n.1) (RpL.rm hd t n.2) dj
theorem RpK.rm {u : HO} (hd : M d = some (.frz o (.dK ws))) : ∀ {t : List (Key × T)} {v : List (Key × V)} {R : Fp}, RpK K M H t v R → noLK t = true → RpK K (rmv M d) (upd H d u) t v R
  | _, _, _, .nil, _ => .nil
  | _, _, _, .cons h t dj, n => by
    simp only [noLK, Bool.and_eq_true] at n
    exact .cons (Rp.rm hd h n.1) (RpK.rm hd t n.2) dj
theorem RpF.rm {u : HO} (hd : M d = some (.frz o (.dK ws))) : ∀ {t : List (Str × T)} {v : List (Str × V)} {R : Fp}, RpF K M H t v R → noLF t = true → RpF K (rmv M d) (upd H d u) t v R
  | _, _, _, .nil, _ => .nil
  | _, _, _, .cons h t dj, n => by
    simp only [noLF, Bool.and_eq_true] at n
    exact .cons (Rp.rm hd h n.1) (RpF.rm hd t n.2) dj
end
end
/-! the keys of a locked dict -/
theorem its_keys {K : PySem.W.Frag} {M : Hp} {a : Addr} {o : Obj} {vs : List (Key × V)} {ds : List (D × D)} (h : M a = some (.frz o (.dK vs))) (dz : DzK K M vs ds) : Its K M (Itk a o vs) (ds.map (·.1)) := fun M2 H2 m le i => by
  have h2 := le _ _ (m _ _ h)
  have hl := dz.length
  refine ⟨fun hi => ⟨h2, by rw [hl]; simpa using hi⟩, fun hi => ⟨h2, by rw [hl]; simpa using hi⟩, fun x H3 d e y => ?_⟩
  obtain ⟨rfl, k, v, e1, rfl⟩ := y
  refine ⟨M2, .refl le, ?_⟩
  have key : ∀ {vs : List (Key × V)} {ds : List (D × D)} {i : Nat} {k : Key} {v : V} {d : D}, DzK K M vs ds → vs[i]? = some (k, v) → (ds.map (·.1))[i]? = some d → d = keyD k := by
    intro vs ds i k v d dz
    induction i generalizing vs ds with
    | zero =>
      intro e1 e2
      cases dz with
      | nil => cases e1
      | cons h t => cases e1; cases e2; rfl
    | succ i ih =>
      intro e1 e2
      cases dz with
      | nil => cases e1
      | cons h t => exact ih t (by simpa using e1) (by simpa using e2)
  obtain rfl := key dz e1 e
  cases k with
  | inl i => exact .int i
  | inr x => exact .str x
def iKy (i : Nat) : Rho → Option (Rs (List D)) := fun ρ => match slot ρ i with
  | some (.dkl ds) => if ds.length ≤ SZ then some (.ok (ds.map (·.1)) ρ) else none
  | _ => none
section
variable {X : Cx} {W : WS} {tg e : Expr} {pos px : Pos}
theorem ei_ky {i : Nat} {x : Str} (ho : PE X (.Name x px) (tVar i)) : EI X W tg (.Name x px) (iKy i) := (pi_keys ho).lv fun σ H Q ⟨M, ρ, F, r, g, e, q⟩ => by
  unfold iKy at e
  split at e
  · next ds es =>
    split at e
    · next hl =>
      cases e
      obtain ⟨v0, h0, r0⟩ := g.sl i _ (slot_some es)
      obtain ⟨a, o, vs, rfl, h1, h2⟩ := r0.dkl_inv
      exact ⟨_, h0, a, o, rfl, .inl ⟨vs, g.le _ _ h1, q M H F _ (.refl fun _ z => z) g (its_keys h1 h2) (by simpa using hl)⟩⟩
    · cases e
  · cases e
end
/-! an expression while the dict at a slot is locked -/
def frK : List (Key × T) → Option (List (D × D))
  | [] => some []
  | (k, .fr d) :: r => (frK r).map fun ds => (keyD k, d) :: ds
  | _ :: _ => none
def noLO : Option T → Bool
  | none => true
  | some t => noL t
def noLR (i : Nat) (ρ : Rho) : Bool := (ρ.set i none).all noLO
section
variable {K : PySem.W.Frag} {M H M' H' : Hp} {σ : L2.St} {ρ : Rho} {F : Nat → Fp} {i : Nat} {a : Addr} {vs : List (Key × V)} {ds : List (D × D)} {od : Obj}
theorem frK_dz {kvs : List (Key × T)} : ∀ {vs : List (Key × V)} {ds : List (D × D)} {R : Fp}, frK kvs = some ds → RpK K M H kvs vs R → DzK K M vs ds ∧ ∀ a, ¬ R a := by
  induction kvs with
  | nil => intro vs ds R e r; cases e; cases r; exact ⟨.nil, fun _ z => z⟩
  | cons p kvs ih =>
    obtain ⟨k, t⟩ := p
    intro vs ds R e r
    cases t with
    | fr d =>
      simp only [frK] at e
      obtain ⟨ds', e1, e2⟩ := Option.map_eq_some_iff.mp e
      subst e2
      cases r with
      | cons h t dj =>
        obtain ⟨q1, q2⟩ := ih e1 t
        exact ⟨.cons h.fr_inv.1 q1, fun a z => z.elim (h.fr_inv.2 a) (q2 a)⟩
    | _ => cases e
theorem Good.lk (g : Good K M H σ ρ F) (h0 : σ[i]? = some (some (.ref a))) (ha : F i a) (hM : M a = none) (dz : DzK K M vs ds) :
    Good K (upd M a (.frz od (.dK vs))) (upd H a (.frz od (.dK vs))) σ (ρ.set i (some (.dkl ds))) (fun j b => if j = i then False else (j ≠ i ∧ F j b)) := by
  have sm : L2.Same M (upd M a (.frz od (.dK vs))) := fun b o q => by rw [upd_ne (fun z => by subst z; rw [hM] at q; cases q)]; exact q
  have le1 : L2.Same (upd M a (.frz od (.dK vs))) (upd H a (.frz od (.dK vs))) := fun b o q => by
    by_cases z : b = a
    · subst z; rw [upd_same] at q ⊢; exact q
    · rw [upd_ne z] at q ⊢; exact g.le b o q
  have ne : ∀ b, Al (fun j b => j ≠ i ∧ F j b) b → b ≠ a := fun b ⟨j, nj, z⟩ y => by subst y; exact nj (g.dj j i b z ha)
  have kp : Kp M (upd M a (.frz od (.dK vs))) H (upd H a (.frz od (.dK vs))) (Al fun j b => j ≠ i ∧ F j b) := ⟨sm, fun b z o q => by rw [upd_ne (ne b z)]; exact q, fun b z q => by rw [upd_ne (ne b z)]; exact q⟩
  have g2 := ((g.drop i).keep kp le1).reput h0 (.dkl (ds := ds) upd_same (dz.mono sm)) (fun b z => z.elim)
  rw [List.set_set] at g2
  exact g2
theorem Good.rm {u : HO} (g : Good K M H σ ρ F) (hd : M a = some (.frz od (.dK vs))) (n : ρ.all noLO = true) : Good K (rmv M a) (upd H a u) σ ρ F where
  le := fun b o q => by
    have z : b ≠ a := fun z => by subst z; rw [rmv_eq] at q; cases q
    rw [rmv_ne z] at q
    rw [upd_ne z]; exact g.le b o q
  len := g.len
  sl := fun j t e => by
    obtain ⟨v, h1, r⟩ := g.sl j t e
    refine ⟨v, h1, r.rm hd ?_⟩
    have := List.all_eq_true.mp n (some t) (List.mem_of_getElem? e)
    exact this
  em := g.em
  dj := g.dj
end
def eLk (i : Nat) (f : Rho → Option (Rs T)) : Rho → Option (Rs T) := fun ρ => match slot ρ i with
  | some (.dk kvs) => (frK kvs).bind fun ds => (match f (ρ.set i (some (.dkl ds))) with
    | some (.ok t ρ') => if (noL t && noLR i ρ') = true then some (.ok t (ρ'.set i (some (.dk kvs)))) else none
    | _ => none)
  | _ => none
section
variable {X : Cx} {W : WS} {tg e : Expr} {pos px : Pos}
theorem ee_lk {i : Nat} {f : Rho → Option (Rs T)} (h : EE X W e f) : EE X W e (eLk i f) := (pe_lock h).lv fun σ H Q ⟨M, ρ, F, r, g, e, q⟩ => by
  unfold eLk at e
  split at e
  · next kvs es =>
    obtain ⟨ds, ef, e⟩ := Option.bind_eq_some_iff.mp e
    split at e
    · next t ρ' e1 =>
      split at e
      · next hn =>
        cases e
        simp only [Bool.and_eq_true] at hn
        obtain ⟨v0, h0, r0⟩ := g.sl i _ (slot_some es)
        obtain ⟨a, vs, R0, rfl, h1, h2, h3, h4, h5⟩ := r0.dk_inv
        obtain ⟨dz, nR0⟩ := frK_dz ef h3
        have ha : F i a := (h5 a).mpr (.inl rfl)
        refine ⟨a, .dK vs, h1, trivial, fun od => ⟨_, _, _, _, g.lk (od := od) h0 ha h2 dz, e1, fun M' H' v R F' S g' r' dj => ?_⟩⟩
        have hd : M' a = some (.frz od (.dK vs)) := S.m _ _ upd_same
        have sm : L2.Same M (rmv M' a) := fun b o z => by
          have nb : b ≠ a := fun y => by subst y; rw [h2] at z; cases z
          rw [rmv_ne nb]; exact S.m _ _ (by rw [upd_ne nb]; exact z)
        have sub : ∀ b, Al (fun j b => if j = i then False else (j ≠ i ∧ F j b)) b → Al F b := fun b ⟨j, z⟩ => by
          dsimp only at z
          by_cases y : j = i
          · rw [if_pos y] at z; exact z.elim
          · rw [if_neg y] at z; exact ⟨j, z.2⟩
        have gone : ∀ b, upd H a (.frz od (.dK vs)) b = none → H b = none := fun b z => by
          by_cases y : b = a
          · subst y; rw [upd_same] at z; cases z
          · rwa [upd_ne y] at z
        have own' : ∀ b, Al F' b → b ≠ a := fun b z y => by subst y; have := (g'.own b z).1; rw [hd] at this; cases this
        refine ⟨g'.le _ _ hd, q (rmv M' a) (upd H' a (.dK vs)) v R (fun j b => if j = i then (b = a ∨ R0 b) else (j ≠ i ∧ F' j b)) ⟨sm, fun b ob z nb => ?_, fun b z z2 => ?_, fun b z => ?_⟩ ?_ (r'.rm hd hn.1) fun b z ⟨j, y⟩ => ?_⟩
        · have nb' : b ≠ a := fun y => by subst y; exact nb ⟨i, ha⟩
          rw [upd_ne nb']
          exact S.h _ _ (by rw [upd_ne nb']; exact z) fun y => nb (sub b y)
        · have nb' : b ≠ a := fun y => by subst y; exact z2 rmv_eq
          rw [rmv_ne nb'] at z2
          exact (S.n b (by rw [upd_ne nb']; exact z) z2).imp (sub b) (gone b)
        · rcases z with z | ⟨j, z⟩
          · exact (S.p b (.inl z)).imp (sub b) (gone b)
          · try dsimp only at z
            by_cases y : j = i
            · rw [if_pos y] at z
              rcases z with z | z
              · subst z; exact .inl ⟨i, ha⟩
              · exact absurd z (nR0 b)
            · rw [if_neg y] at z
              exact (S.p b (.inr ⟨j, z.2⟩)).imp (sub b) (gone b)
        · have g2 := ((g'.drop i).rm (u := .dK vs) hd hn.2).reput h0 (.dk (xs := kvs) upd_same rmv_eq (h3.keep ⟨sm, fun b z => absurd z (nR0 b), fun b z => absurd z (nR0 b)⟩) h4) (fun b z ⟨j, _, _, y⟩ => by
            rcases z with z | z
            · exact own' b ⟨j, y⟩ z
            · exact nR0 b z)
          rw [List.set_set] at g2
          exact g2
        · dsimp only at y
          by_cases x : j = i
          · rw [if_pos x] at y
            rcases y with y | y
            · subst y; have := (r'.own b z).1; rw [hd] at this; cases this
            · exact nR0 b y
          · rw [if_neg x] at y
            exact dj b z ⟨j, y.2⟩
      · cases e
    · cases e
  · cases e
end
end Lv

set_option maxHeartbeats 2000000
namespace Lv
open PySem PySem.Spec PyProof.Rows L2
/-! ### a statement while the dict at a slot is locked -/
def F1 (i : Nat) (F : Nat → Fp) : Nat → Fp := fun j b => if j = i then False else (j ≠ i ∧ F j b)
def F2 (i : Nat) (a : Addr) (R0 : Fp) (F : Nat → Fp) : Nat → Fp := fun j b => if j = i then (b = a ∨ R0 b) else (j ≠ i ∧ F j b)
theorem unlk {K : PySem.W.Frag} {M H M' H' : Hp} {σ' : L2.St} {ρ' : Rho} {F F' : Nat → Fp} {i : Nat} {a : Addr} {kvs : List (Key × T)} {vs : List (Key × V)} {od : Obj} {R R0 : Fp}
    (ha : F i a) (h2 : M a = none) (h3 : RpK K M H kvs vs R0) (h4 : ¬ R0 a) (nR0 : ∀ a, ¬ R0 a)
    (S : Stp (upd M a (.frz od (.dK vs))) (upd H a (.frz od (.dK vs))) (Al (F1 i F)) M' H' (fun b => R b ∨ Al F' b)) (g' : Good K M' H' σ' ρ' F') (h0 : σ'[i]? = some (some (.ref a))) (hn : noLR i ρ' = true) :
    M' a = some (.frz od (.dK vs)) ∧ Stp M H (Al F) (rmv M' a) (upd H' a (.dK vs)) (fun b => R b ∨ Al (F2 i a R0 F') b) ∧ Good K (rmv M' a) (upd H' a (.dK vs)) σ' (ρ'.set i (some (.dk kvs))) (F2 i a R0 F') := by
  have hd : M' a = some (.frz od (.dK vs)) := S.m _ _ upd_same
  have sm : L2.Same M (rmv M' a) := fun b o z => by
    have nb : b ≠ a := fun y => by subst y; rw [h2] at z; cases z
    rw [rmv_ne nb]; exact S.m _ _ (by rw [upd_ne nb]; exact z)
  have sub : ∀ b, Al (F1 i F) b → Al F b := fun b ⟨j, z⟩ => by
    unfold F1 at z
    by_cases y : j = i
    · rw [if_pos y] at z; exact z.elim
    · rw [if_neg y] at z; exact ⟨j, z.2⟩
  have gone : ∀ b, upd H a (.frz od (.dK vs)) b = none → H b = none := fun b z => by
    by_cases y : b = a
    · subst y; rw [upd_same] at z; cases z
    · rwa [upd_ne y] at z
  have own' : ∀ b, Al F' b → b ≠ a := fun b z y => by subst y; have := (g'.own b z).1; rw [hd] at this; cases this
  refine ⟨hd, ⟨sm, fun b ob z nb => ?_, fun b z z2 => ?_, fun b z => ?_⟩, ?_⟩
  · have nb' : b ≠ a := fun y => by subst y; exact nb ⟨i, ha⟩
    rw [upd_ne nb']
    exact S.h _ _ (by rw [upd_ne nb']; exact z) fun y => nb (sub b y)
  · have nb' : b ≠ a := fun y => by subst y; exact z2 rmv_eq
    rw [rmv_ne nb'] at z2
    exact (S.n b (by rw [upd_ne nb']; exact z) z2).imp (sub b) (gone b)
  · rcases z with z | ⟨j, z⟩
    · exact (S.p b (.inl z)).imp (sub b) (gone b)
    · unfold F2 at z
      by_cases y : j = i
      · rw [if_pos y] at z
        rcases z with z | z
        · subst z; exact .inl ⟨i, ha⟩
        · exact absurd z (nR0 b)
      · rw [if_neg y] at z
        exact (S.p b (.inr ⟨j, z.2⟩)).imp (sub b) (gone b)
  · have g2 := ((g'.drop i).rm (u := .dK vs) hd hn).reput h0 (.dk (xs := kvs) upd_same rmv_eq (h3.keep ⟨sm, fun b z => absurd z (nR0 b), fun b z => absurd z (nR0 b)⟩) h4) (fun b z ⟨j, _, _, y⟩ => by
      rcases z with z | z
      · exact own' b ⟨j, y⟩ z
      · exact nR0 b z)
    rw [List.set_set] at g2
    exact g2
def lkO (i : Nat) (kvs : List (Key × T)) : Option Out → Option Out
  | some (.nx ρ') => if noLR i ρ' = true then some (.nx (ρ'.set i (some (.dk kvs)))) else none
  | some (.bk ρ') => if noLR i ρ' = true then some (.bk (ρ'.set i (some (.dk kvs)))) else none
  | some (.ct ρ') => if noLR i ρ' = true then some (.ct (ρ'.set i (some (.dk kvs)))) else none
  | some (.rt t ρ') => if (noL t && noLR i ρ') = true then some (.rt t (ρ'.set i (some (.dk kvs)))) else none
  | _ => none
def sLk (i : Nat) (f : Rho → Option Out) : Rho → Option Out := fun ρ => match slot ρ i with
  | some (.dk kvs) => (frK kvs).bind fun ds => lkO i kvs (f (ρ.set i (some (.dkl ds))))
  | _ => none
section
variable {X : Cx} {W : WS} {pin : List Nat} {st : Stmt}
theorem ss_lk {i : Nat} {f : Rho → Option Out} (h : SS X W (i :: pin) st f) : SS X W pin st (sLk i f) := (ps_lock h).lv fun D σ H ⟨M, ρ, F, out, g, e, q⟩ => by
  unfold sLk at e
  split at e
  · next kvs es =>
    obtain ⟨ds, ef, e⟩ := Option.bind_eq_some_iff.mp e
    obtain ⟨v0, h0, r0⟩ := g.sl i _ (slot_some es)
    obtain ⟨a, vs, R0, rfl, h1, h2, h3, h4, h5⟩ := r0.dk_inv
    obtain ⟨dz, nR0⟩ := frK_dz ef h3
    have ha : F i a := (h5 a).mpr (.inl rfl)
    refine ⟨a, .dK vs, h1, trivial, fun od => ?_⟩
    have gl : Good X.K (upd M a (.frz od (.dK vs))) (upd H a (.frz od (.dK vs))) σ (ρ.set i (some (.dkl ds))) (F1 i F) := g.lk (od := od) h0 ha h2 dz
    have pn : ∀ {σ' : L2.St}, Pin (i :: pin) σ σ' → σ'[i]? = some (some (.ref a)) ∧ Pin pin σ σ' := fun p => ⟨by rw [p i (by simp)]; exact h0, fun j hj => p j (by simp [hj])⟩
    have dj0 : ∀ (F' : Nat → Fp) b, (False ∨ Al F' b) → Al F' b := fun _ _ z => z.elim False.elim id
    cases ef1 : f (ρ.set i (some (.dkl ds))) with
    | none => rw [ef1] at e; cases e
    | some o =>
      rw [ef1] at e
      refine ⟨_, _, _, _, gl, ef1, ?_⟩
      cases o with
      | nx ρ' =>
        simp only [lkO] at e
        split at e
        · next hn =>
          cases e
          intro M' H' σ' F' S g' p
          obtain ⟨hd, S2, g2⟩ := unlk (R := fun _ => False) ha h2 h3 h4 nR0 (S.sub (fun _ z => z) (dj0 F')) g' (pn p).1 hn
          exact ⟨g'.le _ _ hd, q _ _ σ' _ (S2.sub (fun _ z => z) fun _ z => .inr z) g2 (pn p).2⟩
        · cases e
      | bk ρ' =>
        simp only [lkO] at e
        split at e
        · next hn =>
          cases e
          intro M' H' σ' F' S g' p
          obtain ⟨hd, S2, g2⟩ := unlk (R := fun _ => False) ha h2 h3 h4 nR0 (S.sub (fun _ z => z) (dj0 F')) g' (pn p).1 hn
          exact ⟨g'.le _ _ hd, q _ _ σ' _ (S2.sub (fun _ z => z) fun _ z => .inr z) g2 (pn p).2⟩
        · cases e
      | ct ρ' =>
        simp only [lkO] at e
        split at e
        · next hn =>
          cases e
          intro M' H' σ' F' S g' p
          obtain ⟨hd, S2, g2⟩ := unlk (R := fun _ => False) ha h2 h3 h4 nR0 (S.sub (fun _ z => z) (dj0 F')) g' (pn p).1 hn
          exact ⟨g'.le _ _ hd, q _ _ σ' _ (S2.sub (fun _ z => z) fun _ z => .inr z) g2 (pn p).2⟩
        · cases e
      | rt t ρ' =>
        simp only [lkO] at e
        split at e
        · next hn =>
          cases e
          simp only [Bool.and_eq_true] at hn
          intro M' H' σ' v R F' S g' p r' dj
          obtain ⟨hd, S2, g2⟩ := unlk ha h2 h3 h4 nR0 S g' (pn p).1 hn.2
          refine ⟨g'.le _ _ hd, q _ _ σ' v R _ S2 g2 (pn p).2 (r'.rm hd hn.1) fun b z ⟨j, y⟩ => ?_⟩
          unfold F2 at y
          by_cases x : j = i
          · rw [if_pos x] at y
            rcases y with y | y
            · subst y; have := (r'.own b z).1; rw [hd] at this; cases this
            · exact nR0 b y
          · rw [if_neg x] at y
            exact dj b z ⟨j, y.2⟩
        · cases e
      | ex c ρ' => cases e
  · cases e
end
end Lv

set_option maxHeartbeats 2000000
namespace Lv
open PySem PySem.Spec PyProof.Rows L2
/-! ### list(d), sorted(d) of a dict -/
def intKs : List (Key × T) → Option (List Int)
  | [] => some []
  | (.inl i, _) :: r => (intKs r).map (i :: ·)
  | (.inr _, _) :: _ => none
def sortKs (ks : List Int) : List Int := ks.mergeSort fun a b => decide (a ≤ b)
def opListD : List T → Option T
  | [.dk kvs] => some (.lst (kvs.map fun kv => .fr (keyD kv.1)))
  | ts => opList ts
def opSortedD : List T → Option T
  | [.dk kvs] => (intKs kvs).bind fun ks => if ks.length < 64 then some (.lst ((sortKs ks).map fun i => .fr (.int i))) else none
  | ts => opSorted ts
section
variable {K : PySem.W.Frag} {M H : Hp}
theorem keysDz : ∀ {kvs : List (Key × T)} {vs : List (Key × V)} {R : Fp}, RpK K M H kvs vs R → DzL K M (vs.map fun kv => L2.kV kv.1) (kvs.map fun kv => keyD kv.1) := by
  intro kvs
  induction kvs with
  | nil => intro vs R r; cases r; exact .nil
  | cons p kvs ih =>
    intro vs R r
    cases r with
    | @cons k x v xs vs R R' h t dj =>
      refine .cons ?_ (ih t)
      cases k with
      | inl i => exact .int i
      | inr x => exact .str x
theorem intKs_eq : ∀ {kvs : List (Key × T)} {vs : List (Key × V)} {R : Fp} {ks : List Int}, intKs kvs = some ks → RpK K M H kvs vs R → vs.map (·.1) = ks.map Sum.inl := by
  intro kvs
  induction kvs with
  | nil => intro vs R ks e r; cases e; cases r; rfl
  | cons p kvs ih =>
    intro vs R ks e r
    cases r with
    | @cons k x v xs vs R R' h t dj =>
      cases k with
      | inl i =>
        simp only [intKs] at e
        obtain ⟨ks', e1, e2⟩ := Option.map_eq_some_iff.mp e
        subst e2
        simp [ih e1 t]
      | inr x => cases e
theorem sortKs_eq {ys ks : List Int} (p : ys.Perm ks) (s : ys.Pairwise (· ≤ ·)) : ys = sortKs ks := by
  have p2 : (sortKs ks).Perm ks := List.mergeSort_perm _ _
  have s2 : (sortKs ks).Pairwise (· ≤ ·) := by
    have := List.pairwise_mergeSort (le := fun a b : Int => decide (a ≤ b)) (fun a b c h1 h2 => by simp at *; omega) (fun a b => by simp; omega) ks
    exact this.imp fun h => by simpa using h
  exact List.Perm.eq_of_pairwise (fun a b _ _ h1 h2 => by omega) s s2 (p.trans p2.symm)
end
section
variable {X : Cx}
theorem call_listAD (hc : X.calm = true) : CallR X (.type "list") (rOpN X.K opListD) := by
  intro pins s σ H vs us Q I r ⟨M, ts, u, m, pk, e, q⟩
  unfold opListD at e
  split at e
  · cases e
    obtain ⟨v, R, rfl, rp⟩ := pk.one
    obtain ⟨a, ws, R', rfl, h1, h2, h3, h4, h5⟩ := rp.dk_inv
    refine call_list_dK hc pins s σ H _ us Q I r ⟨a, ws, rfl, h1, fun p np => ?_⟩
    have := fin_list (Q := Q) m (keysDz h3) (by rw [List.map_map]; exact q) np
    exact this
  · exact call_listA pins s σ H vs us Q I r ⟨M, _, u, m, pk, e, q⟩
theorem call_sortedAD (hc : X.calm = true) (hu : X.A.units + 64 < cLine) : CallR X (.builtin "sorted") (rOpN X.K opSortedD) := by
  intro pins s σ H vs us Q I r ⟨M, ts, u, m, pk, e, q⟩
  unfold opSortedD at e
  split at e
  · obtain ⟨ks, e1, e⟩ := Option.bind_eq_some_iff.mp e
    split at e
    · next hl =>
      cases e
      obtain ⟨v, R, rfl, rp⟩ := pk.one
      obtain ⟨a, ws, R', rfl, h1, h2, h3, h4, h5⟩ := rp.dk_inv
      refine call_sortedDI hc pins s σ H _ us Q I r ⟨a, ws, ks, rfl, .inl h1, intKs_eq e1 h3, hl, fun ys p pm so np => ?_⟩
      obtain rfl := sortKs_eq pm so
      have dz : ∀ is : List Int, DzL X.K M (is.map V.int) (is.map .int) := fun is => by
        induction is with
        | nil => exact .nil
        | cons i is ih => exact .cons (.int i) ih
      have := fin_list (Q := Q) m (dz (sortKs ks)) (by rw [List.map_map]; exact q) np
      exact this
    · cases e
  · exact call_sortedA hu pins s σ H vs us Q I r ⟨M, _, u, m, pk, e, q⟩
end
/-! a builtin's call with pure arguments, its value one's own -/
def eKN (op : List T → Option T) (f : Rho → Option (List T)) : Rho → Option (Rs T) := fun ρ => ((f ρ).bind op).map fun t => .ok t ρ
theorem te_kn {K : PySem.W.Frag} {W : WS} {op : List T → Option T} {f : Rho → Option (List T)} {σ : L2.St} {H : Hp} {Q : VK} (h : tE K W (eKN op f) σ H Q) : tKA K f σ H fun vs H1 => rOpN K op vs H1 Q := by
  obtain ⟨M, ρ, F, r, g, e, q⟩ := h
  obtain ⟨t, eb, e3⟩ := Option.map_eq_some_iff.mp e
  subst e3
  obtain ⟨ts, e1, e2⟩ := Option.bind_eq_some_iff.mp eb
  refine ⟨M, ρ, F, ts, g, e1, fun M1 H1 vs x1 r1 => ⟨M1, ts, t, x1.le, r1, e2, fun M3 H3 v3 R3 x3 r3 n3 => ?_⟩⟩
  have g1 := g.ext x1
  refine q M3 H3 v3 R3 F ((x1.trans x3).stp fun a z => z.elim (fun z => .inr (Same.out x1.h (n3 a z))) .inl) (g1.ext x3) r3 fun a z z' => ?_
  obtain ⟨_, o, eo'⟩ := g1.own a z'
  rw [n3 a z] at eo'; cases eo'
section
variable {X : Cx} {W : WS} {e : Expr} {es : List Expr} {pos p : Pos} {x : Str} {op : List T → Option T}
theorem ee_callKB {id : String} {f : Rho → Option (List T)} (hc : CallR X (.builtin id) (rOpN X.K op)) (hg : Gl X x) (hm : X.mg x = none) (hv : bootBuiltins x = some (.builtin id)) (ha : AK X (e :: es) f) (hn : x ≠ "__name__" := by decide) (hdb : (x == ("__debug__" : Str)) = false := by decide)
    (he : starEach (e :: es) X.env = (false, eval e X.env) :: starEach es X.env := by rfl) (hpl : (backTo pos (starEach es X.env)).any (·.1) = false := by rfl) : EE X W (.Call (.Name x p) (e :: es) [] pos) (eKN op f) := (pe_callB hc hg hm hv ha hn hdb he hpl).lv fun σ H Q h => te_kn h
theorem ee_callKT {id : String} {f : Rho → Option (List T)} (hc : CallR X (.type id) (rOpN X.K op)) (hg : Gl X x) (hm : X.mg x = none) (hv : bootBuiltins x = some (.type id)) (ha : AK X (e :: es) f) (hn : x ≠ "__name__" := by decide) (hdb : (x == ("__debug__" : Str)) = false := by decide)
    (he : starEach (e :: es) X.env = (false, eval e X.env) :: starEach es X.env := by rfl) (hpl : (backTo pos (starEach es X.env)).any (·.1) = false := by rfl) : EE X W (.Call (.Name x p) (e :: es) [] pos) (eKN op f) := (pe_callTy hc hg hm hv ha hn hdb he hpl).lv fun σ H Q h => te_kn h
end
end Lv

set_option maxHeartbeats 3200000
namespace Lv
open PySem PySem.Spec PyProof.Rows L2
/-! ### set(a tuple of tuples of ints) -/
abbrev newS (w : World) : Obj := { cls := .type "set", dict := none, data := .set #[] 0 (.fresh 0 0 (!w.params.followText "set-order")) }
theorem call_set_tt {P : Program} {w : World} {A : Around} {E : Value → Shared → Prop} {s : Shared} {l : Addr} {items : Array Value} (ks : List (Addr × List Int)) {Q : Value → Shared → Prop} (hh : A.handled = none) (hl : s.heap.IsTuple l items) (hit : items.toList = ks.map fun p => Value.ref p.1)
    (hk : ∀ p ∈ ks, IsT P w s.heap p.2 p.1) (hfew : ks.length < 64) (hu : A.units + 3 < cLine)
    (h : ∀ (h' : Heap) (tk : Nat) L es ep t, SetTR P w h' s.heap.objs.size L es ep t → Got ks ks.length L → (∀ b o, s.heap.get? b = some o → h'.get? b = some o) → Q (.ref s.heap.objs.size) { s with heap := h', toks := tk }) :
    wpAny (model P w) A (call (.type "set") [.ref l]) Q E s := by
  have hisz : items.size = ks.length := by rw [← Array.length_toList, hit, List.length_map]
  obtain ⟨c, tl, hmro⟩ := F.called_set.mro
  have hmade := F.called_set.made
  have hsub := F.called_set.sub
  refine wpAny_call (codeAny_of_tree ?_)
  show wpAny _ _ (callAny (.type "set") _) _ _ _
  refine wpAny_pure ⟨Code.quiet_builtin _ (by decide +kernel), codeAny_builtin F.entry_type_call ?_⟩
  rw [Around.under_plain (weight_type_call_type "set" [.ref l] []) rfl]
  have h1 := F.called_set.notType
  have h2 := F.called_set.canCreate
  have hct := F.typeCall_set_1 (.ref l)
  repeat (any_goals (first | assumption | wp_step))
  refine codeAny_mono (code_set_led1 (.ref l) (E := E) (Q₁ := fun obj s₁ => obj = .ref s.heap.objs.size ∧ s₁ = { s with heap := s.heap.push (newS w) }) ⟨rfl, rfl⟩) fun r s₁ hr => ?_
  cases r with
  | error e => exact hr
  | ok fl =>
    cases fl with
    | ret obj =>
      obtain ⟨rfl, rfl⟩ := hr
      have hS : (s.heap.push (newS w)).get? s.heap.objs.size = some (newS w) := Heap.get?_push_size _ rfl
      have hT : Shared.TypeIs { s with heap := s.heap.push (newS w) } (.ref s.heap.objs.size) "set" := ⟨_, hS, rfl⟩
      have hli := F.called_set.init.lookup
      have hbi := F.called_set.init.bind (.ref s.heap.objs.size)
      repeat (any_goals (first | assumption | wp_step))
      refine codeAny_mono (codeAny_call_builtin (R := wants (fun r s₂ => r = .none ∧ ∃ h' tk L es ep t, s₂ = { s with heap := h', toks := tk } ∧ SetTR P w h' s.heap.objs.size L es ep t ∧ Got ks ks.length L ∧
          (∀ b o, s.heap.get? b = some o → h'.get? b = some o)) E) F.called_set.init.plain F.entry_set_init (check_set_init_1 hT ?_)) fun r₂ s₂ hr₂ => ?_
      · obtain ⟨ol, hol, hcl, nl, hdl⟩ := hl
        obtain ⟨ocls, odict, odata, oslots⟩ := ol
        simp only at hcl hdl
        subst hcl; subst hdl
        have hol' : (s.heap.push (newS w)).get? l = some { cls := .type "tuple", dict := odict, data := .seq items nl, slots := oslots } := Heap.get?_push_of_some _ hol
        have hsls := F.sub_tuple_set
        have hslf := F.sub_tuple_frozenset
        have hne : (Value.type "tuple" == Value.type "dict") = false := by decide
        have hl1 : (s.heap.push (newS w)).IsTuple l items := ⟨_, hol', rfl, nl, rfl⟩
        unfold Builtin.«set.__init__» noKeywords Builtin.Frozenset.updateFrom
        generalize hPI : pyIter = PI
        wp_walk
        subst hPI
        refine wpAny_pyIter_tuple hl1 ?_
        refine wpAny_bind (wpAny_runValue ?_)
        have hlS : l < s.heap.objs.size := Heap.lt_size hol
        have hh3 : A.in1.in1.in1.handled = none := by simp [hh]
        have hneI : l ≠ (s.heap.push (newS w)).objs.size := by rw [Heap.size_push]; exact Nat.ne_of_lt (Nat.lt_succ_of_lt hlS)
        have hSf : s.heap.objs.size ∉ [(s.heap.push (newS w)).objs.size, l] := by
          rw [Heap.size_push]; simp only [List.mem_cons, List.mem_singleton, List.not_mem_nil, or_false, not_or]
          exact ⟨Nat.ne_of_lt (Nat.lt_succ_self _), Nat.ne_of_gt hlS⟩
        have hval : ∀ (i : Nat) (v : Value), items[i]? = some v → ∃ p, ks[i]? = some p ∧ v = .ref p.1 := fun i v hv => by
          have q : items.toList[i]? = some v := by rw [Array.getElem?_toList]; exact hv
          rw [hit, List.getElem?_map] at q
          obtain ⟨p, hp, e⟩ := Option.map_eq_some_iff.mp q
          exact ⟨p, hp, e.symm⟩
        have none_of : ∀ b, s.heap.objs.size ≤ b → s.heap.get? b = none := fun b hb => by
          cases q : s.heap.get? b with
          | none => rfl
          | some o => exact absurd (Nat.lt_of_lt_of_le (Heap.lt_size q) hb) (Nat.lt_irrefl _)
        refine set_update_tups ((Walks.tuple hh3 _ l hneI items).toS) s.heap.objs.size hSf ks hisz hfew hval s.heap hk (none_of _ (Nat.le_refl _))
          (fun b hb => none_of b (by rw [List.mem_singleton.mp hb, Heap.size_push]; exact Nat.le_succ _)) hu (items.size - 0) 0 _ (by omega) (Nat.zero_le _)
          ⟨⟨_, Heap.get?_push_size _ rfl, rfl, rfl⟩, (hl1.push _)⟩ (fun b o e => Heap.get?_push_of_some _ (Heap.get?_push_of_some _ e)) ?hS0 ?hR
        case hS0 => exact ⟨[], #[], 0, _, setTR_fresh (Heap.get?_push_of_some _ hS), Got.zero ks⟩
        case hR =>
          intro s' L es ep t hm hS' g' hkp
          obtain ⟨h', g2, d', tk', os'⟩ := s'
          have eg : g2 = s.gens := hm.gens
          have ed : d' = s.drawn := hm.drawn
          have eo : os' = s.os := hm.os
          subst eg; subst ed; subst eo
          show wpAny _ _ _ _ _ _
          refine wpAny_pure ?_
          show wpAny _ _ (ret Value.none) _ _ _
          rw [hisz] at g'
          exact wpAny_pure ⟨rfl, h', tk', L, es, ep, t, rfl, hS', g', hkp⟩
      · cases r₂ with
        | error e => exact hr₂
        | ok fl₂ =>
          cases fl₂ with
          | ret r =>
            obtain ⟨rfl, h', tk, L, es, ep, t, rfl, hS', g', hk'⟩ := hr₂
            repeat (any_goals (first | assumption | wp_step))
            exact h _ _ _ _ _ _ hS' g' hk'
          | _ => exact hr₂.elim
    | _ => exact hr.elim
end Lv

set_option maxHeartbeats 2000000
namespace Lv
open PySem PySem.Spec PyProof.Rows L2
/-! ### len(set(a tuple of tuples of ints)) -/
def ddL : List (List Int) → List (List Int)
  | [] => []
  | x :: r => if x ∈ ddL r then ddL r else x :: ddL r
theorem ddL_mem {a : List Int} : ∀ {xs : List (List Int)}, a ∈ ddL xs ↔ a ∈ xs
  | [] => Iff.rfl
  | x :: r => by
    unfold ddL
    split
    · next h =>
      rw [ddL_mem, List.mem_cons]
      exact ⟨.inr, fun z => z.elim (fun z => by subst z; exact ddL_mem.mp h) id⟩
    · rw [List.mem_cons, List.mem_cons, ddL_mem]
theorem ddL_nodup : ∀ xs : List (List Int), (ddL xs).Nodup
  | [] => List.nodup_nil
  | x :: r => by
    unfold ddL
    split
    · exact ddL_nodup r
    · next h => exact List.nodup_cons.mpr ⟨h, ddL_nodup r⟩
theorem len_le_of {xs : List (List Int)} : ∀ {ys : List (List Int)}, xs.Nodup → (∀ a ∈ xs, a ∈ ys) → xs.length ≤ ys.length := by
  induction xs with
  | nil => intro ys _ _; exact Nat.zero_le _
  | cons x xs ih =>
    intro ys n h
    obtain ⟨nx, n⟩ := List.nodup_cons.mp n
    have hx := h x (by simp)
    have := ih (ys := ys.erase x) n fun a ha => (List.mem_erase_of_ne (fun z => by subst z; exact nx ha)).mpr (h a (by simp [ha]))
    rw [List.length_erase_of_mem hx] at this
    have : 0 < ys.length := List.length_pos_of_mem hx
    simp; omega
theorem got_len {ks L : List (Addr × List Int)} (g : Got ks ks.length L) (n : (L.map (·.2)).Nodup) : L.length = (ddL (ks.map (·.2))).length := by
  have e : ks.take ks.length = ks := List.take_length
  have a1 : ∀ a ∈ L.map (·.2), a ∈ ddL (ks.map (·.2)) := fun a ha => by
    obtain ⟨p, hp, rfl⟩ := List.mem_map.mp ha
    have := g.sub p hp
    rw [e] at this
    exact ddL_mem.mpr (List.mem_map.mpr ⟨p, this, rfl⟩)
  have a2 : ∀ a ∈ ddL (ks.map (·.2)), a ∈ L.map (·.2) := fun a ha => by
    obtain ⟨p, hp, rfl⟩ := List.mem_map.mp (ddL_mem.mp ha)
    exact g.all p (by rw [e]; exact hp)
  have h1 := len_le_of n a1
  have h2 := len_le_of (ddL_nodup _) a2
  rw [List.length_map] at h1 h2
  omega
def intTs : List D → Option (List (List Int))
  | [] => some []
  | .tuple ds :: r => (intsD ds).bind fun ns => (intTs r).map (ns :: ·)
  | _ :: _ => none
def opLenSetT (t : T) : Option T := match t with
  | .fr (.tuple ds) => (match intTs ds with
    | some nss => if nss.length < 64 then some (.fr (.int (ddL nss).length)) else none
    | none => opLenSet (.fr (.tuple ds)))
  | t => opLenSet t
theorem intsDz {K : PySem.W.Frag} {M : Hp} : ∀ {ds : List D} {xs : List V} {ns : List Int}, intsD ds = some ns → DzL K M xs ds → xs = ns.map V.int := by
  intro ds
  induction ds with
  | nil => intro xs ns e h; cases e; cases h; rfl
  | cons d ds ih =>
    intro xs ns e h
    cases h with
    | cons h t =>
      cases d with
      | int i =>
        simp only [intsD] at e
        obtain ⟨ns', e1, e2⟩ := Option.map_eq_some_iff.mp e
        subst e2
        rw [h.int_inv, ih e1 t]; rfl
      | _ => cases e
theorem intTs_dz {K : PySem.W.Frag} {M : Hp} : ∀ {ds : List D} {xs : List V} {nss : List (List Int)}, intTs ds = some nss → DzL K M xs ds → ∃ ks : List (Addr × List Int), xs = (ks.map fun p => V.ref p.1) ∧ ks.map (·.2) = nss ∧ ∀ p ∈ ks, SqT K M p.1 (p.2.map V.int) := by
  intro ds
  induction ds with
  | nil => intro xs nss e h; cases e; cases h; exact ⟨[], rfl, rfl, by simp⟩
  | cons d ds ih =>
    intro xs nss e h
    cases h with
    | cons h t =>
      cases d with
      | tuple es =>
        simp only [intTs] at e
        obtain ⟨ns, e1, e⟩ := Option.bind_eq_some_iff.mp e
        obtain ⟨nss', e2, e3⟩ := Option.map_eq_some_iff.mp e
        subst e3
        obtain ⟨a, ys, rfl, h1, h2⟩ := h.tup_inv
        rw [intsDz e1 h2] at h1
        obtain ⟨ks, q1, q2, q3⟩ := ih e2 t
        refine ⟨(a, ns) :: ks, by rw [q1]; rfl, by rw [← q2]; rfl, fun p hp => ?_⟩
        rcases List.mem_cons.mp hp with z | z
        · subst z; exact h1
        · exact q3 p z
      | _ => cases e
section
variable {X : Cx}
def tLenSetT (K : PySem.W.Frag) (ta : TE) : TE := fun σ H Q => ta σ H fun x H1 => ∃ (l : Addr) (ks : List (Addr × List Int)), x = V.ref l ∧ SqT K H1 l (ks.map fun p => V.ref p.1) ∧ (∀ p ∈ ks, SqT K H1 p.1 (p.2.map V.int)) ∧ ks.length < 64 ∧ Q (.int (ddL (ks.map (·.2))).length) H1
theorem pe_lenSetT {a : Expr} {ta : TE} {p p2 q pos : Pos} (hc : X.calm = true) (hu : X.A.units + 64 < cLine) (hg : Gl X "len") (hm : X.mg "len" = none) (hg2 : Gl X "set") (hm2 : X.mg "set" = none) (ha : PE X a ta)
    (na : starEach [a] X.env = (false, eval a X.env) :: starEach [] X.env := by rfl) : PE X (.Call (.Name "len" p) [.Call (.Name "set" p2) [a] [] q] [] pos) (tLenSetT X.K ta) := by
  refine ⟨fun pins s σ H Q I h => ?_⟩
  refine Call_ (ld_blt I hg hm PySem.boot_len ?_)
  refine PyProof.Rows.callWith_builtin1 (PyProof.Rows.args_cons ?_ rfl) rfl rfl
  refine Call_ (ld_blt I hg2 hm2 PyProof.Rows.boot_set ?_)
  refine PyProof.Rows.callWith_type1 (PyProof.Rows.args_cons (thn (ha.run pins s σ H _ I h) fun v s1 ⟨x, H1, I1, r1, q1⟩ => PyProof.Rows.args_nil ?_) na) na rfl
  obtain ⟨l, ks, rfl, hq, hk, h1, q1⟩ := q1
  cases r1
  obtain ⟨its, r, pl, hz⟩ := I1.tuple hq
  refine call_set_tt (P := X.prog) (w := X.w) ks (I1.ok.hd hc) pl (by simpa using refs_of_vals r) (fun p hp => I1.isT (hk p hp)) h1 (by omega) fun h' tk L es ep t R g kp => ?_
  refine PyProof.Rows.args_nil ?_
  have I2 : Inv X pins σ H1 { s1 with heap := h', toks := tk } := I1.kept fun b o e => kp b o e
  obtain ⟨o, ho, hex, hd⟩ := R.ob
  have hs : es.size = L.length := R.size (s := { s1 with heap := h', toks := tk })
  have hle := g.len
  refine call_len_set ho hex hd (R.fits (s := { s1 with heap := h', toks := tk })) (by rw [hs]; omega) ⟨.int (ddL (ks.map (·.2))).length, H1, I2.tok _, ⟨_, by rw [hs, got_len g R.nd]⟩, q1⟩
def kLenSetT (f : Rho → Option T) : Rho → Option T := fun ρ => (f ρ).bind fun t => match t with
  | .fr (.tuple ds) => (intTs ds).bind fun nss => if nss.length < 64 then some (.fr (.int (ddL nss).length)) else none
  | _ => none
theorem ek_lenSetT {a : Expr} {f : Rho → Option T} {p p2 q pos : Pos} (hc : X.calm = true) (hu : X.A.units + 64 < cLine) (hg : Gl X "len") (hm : X.mg "len" = none) (hg2 : Gl X "set") (hm2 : X.mg "set" = none) (ha : EK X a f)
    (na : starEach [a] X.env = (false, eval a X.env) :: starEach [] X.env := by rfl) : EK X (.Call (.Name "len" p) [.Call (.Name "set" p2) [a] [] q] [] pos) (kLenSetT f) := (pe_lenSetT hc hu hg hm hg2 hm2 ha na).lv fun σ H Q ⟨M, ρ, F, u, g', eq, q⟩ => by
  obtain ⟨t, e1, e⟩ := Option.bind_eq_some_iff.mp eq
  refine ⟨M, ρ, F, t, g', e1, fun M1 H1 v R x1 r1 => ?_⟩
  split at e
  · obtain ⟨nss, e2, e⟩ := Option.bind_eq_some_iff.mp e
    split at e
    · next hl =>
      cases e
      obtain ⟨l, xs, rfl, h1, h2⟩ := r1.fr_inv.1.tup_inv
      obtain ⟨ks, rfl, rfl, h3⟩ := intTs_dz e2 h2
      have m := x1.le
      exact ⟨l, ks, rfl, Same.tup m h1, fun p hp => Same.tup m (h3 p hp), by simpa using hl, q M1 H1 _ _ x1 (.fr (.int _))⟩
    · cases e
  · cases e
def kLenSetU (f : Rho → Option T) : Rho → Option T := fun ρ => match kLenSetT f ρ with
  | some t => some t
  | none => kLenSet f ρ
theorem ek_lenSetU {a : Expr} {f : Rho → Option T} {p p2 q pos : Pos} (hu : X.A.units + 64 < cLine) (hc : X.calm = true) (hg : Gl X "len") (hm : X.mg "len" = none) (hg2 : Gl X "set") (hm2 : X.mg "set" = none) (ha : EK X a f)
    (na : starEach [a] X.env = (false, eval a X.env) :: starEach [] X.env := by rfl) : EK X (.Call (.Name "len" p) [.Call (.Name "set" p2) [a] [] q] [] pos) (kLenSetU f) := ⟨fun pins s σ H Q I ⟨M, ρ, F, t, g, e, q⟩ => by
  unfold kLenSetU at e
  split at e
  · next t' e1 => cases e; exact (ek_lenSetT hc hu hg hm hg2 hm2 ha na).run pins s σ H Q I ⟨M, ρ, F, _, g, e1, q⟩
  · exact (ek_lenSet hc hg hm hg2 hm2 ha na).run pins s σ H Q I ⟨M, ρ, F, t, g, e, q⟩⟩
end
end Lv

set_option maxHeartbeats 2000000
namespace Lv
open PySem PySem.Spec PyProof.Rows L2
/-! ### len(set(a list of tuples of ints)) -/
def opLenSetL (t : T) : Option T := (T.asL t).bind fun ds => (intTs ds).bind fun nss => if nss.length < 64 then some (.fr (.int (ddL nss).length)) else none
section
variable {X : Cx} {W : WS}
def tLenSetL (K : PySem.W.Frag) (ta : TE) : TE := fun σ H Q => ta σ H fun x H1 => ∃ (l : Addr) (ks : List (Addr × List Int)), x = V.ref l ∧ SqL K H1 l (ks.map fun p => V.ref p.1) ∧ (∀ p ∈ ks, SqT K H1 p.1 (p.2.map V.int)) ∧ ks.length < 64 ∧ Q (.int (ddL (ks.map (·.2))).length) H1
theorem pe_lenSetL {a : Expr} {ta : TE} {p p2 q pos : Pos} (hc : X.calm = true) (hu : X.A.units + 64 < cLine) (hg : Gl X "len") (hm : X.mg "len" = none) (hg2 : Gl X "set") (hm2 : X.mg "set" = none) (ha : PE X a ta)
    (na : starEach [a] X.env = (false, eval a X.env) :: starEach [] X.env := by rfl) : PE X (.Call (.Name "len" p) [.Call (.Name "set" p2) [a] [] q] [] pos) (tLenSetL X.K ta) := by
  refine ⟨fun pins s σ H Q I h => ?_⟩
  refine Call_ (ld_blt I hg hm PySem.boot_len ?_)
  refine PyProof.Rows.callWith_builtin1 (PyProof.Rows.args_cons ?_ rfl) rfl rfl
  refine Call_ (ld_blt I hg2 hm2 PyProof.Rows.boot_set ?_)
  refine PyProof.Rows.callWith_type1 (PyProof.Rows.args_cons (thn (ha.run pins s σ H _ I h) fun v s1 ⟨x, H1, I1, r1, q1⟩ => PyProof.Rows.args_nil ?_) na) na rfl
  obtain ⟨l, ks, rfl, hq, hk, h1, q1⟩ := q1
  cases r1
  obtain ⟨its, r, pl, hz⟩ := I1.list hq
  refine call_set_tups (P := X.prog) (w := X.w) ks (I1.ok.hd hc) pl.isList (by simpa using refs_of_vals r) (fun p hp => I1.isT (hk p hp)) h1 (by omega) fun h' tk L es ep t R g kp => ?_
  refine PyProof.Rows.args_nil ?_
  have I2 : Inv X pins σ H1 { s1 with heap := h', toks := tk } := I1.kept fun b o e => kp b o e
  obtain ⟨o, ho, hex, hd⟩ := R.ob
  have hs : es.size = L.length := R.size (s := { s1 with heap := h', toks := tk })
  have hle := g.len
  refine call_len_set ho hex hd (R.fits (s := { s1 with heap := h', toks := tk })) (by rw [hs]; omega) ⟨.int (ddL (ks.map (·.2))).length, H1, I2.tok _, ⟨_, by rw [hs, got_len g R.nd]⟩, q1⟩
def eLenSetL (f : Rho → Option (Rs T)) : Rho → Option (Rs T) := fun ρ => bnd (f ρ) fun t ρ1 => (opLenSetL t).map fun u => .ok u ρ1
theorem ee_lenSetL {a : Expr} {f : Rho → Option (Rs T)} {p p2 q pos : Pos} (hu : X.A.units + 64 < cLine) (hc : X.calm = true) (hg : Gl X "len") (hm : X.mg "len" = none) (hg2 : Gl X "set") (hm2 : X.mg "set" = none) (ha : EE X W a f)
    (na : starEach [a] X.env = (false, eval a X.env) :: starEach [] X.env := by rfl) : EE X W (.Call (.Name "len" p) [.Call (.Name "set" p2) [a] [] q] [] pos) (eLenSetL f) := (pe_lenSetL hc hu hg hm hg2 hm2 ha na).lv fun σ H Q h => te_bind (k := fun t ρ1 => (opLenSetL t).map fun u => .ok u ρ1) h fun M H1 t v R m r h => by
  cases e : opLenSetL t with
  | none => rw [e] at h; exact te_none h
  | some u =>
    rw [e] at h
    unfold opLenSetL at e
    obtain ⟨ds, e2, e⟩ := Option.bind_eq_some_iff.mp e
    obtain ⟨nss, e3, e⟩ := Option.bind_eq_some_iff.mp e
    split at e
    · next hl =>
      cases e
      obtain ⟨l, xs, rfl, h1, h2⟩ := r.asL_inv m e2
      obtain ⟨ks, rfl, rfl, h3⟩ := intTs_dz e3 h2
      exact ⟨l, ks, rfl, h1, fun p hp => Same.tup m (h3 p hp), by simpa using hl, te_pure h fun _ => .int _⟩
    · cases e
end
end Lv

set_option maxHeartbeats 2000000
namespace Lv
open PySem PySem.Spec PyProof.Rows L2
/-! ### a block over a list of one's own, which stays as it is -/
def cLoopL (own : List Nat) (iv : Nat) (g : D → Rho → Option Rho) (fc : Rho → Option (Rs Bool)) (fe : Rho → Option (Rs T)) : Nat → Nat → Rho → Option (List T × Rho)
  | 0, k, ρ => (match slot ρ iv with
    | some (.lst ts) => if ts.length ≤ k then some ([], ρ) else none
    | _ => none)
  | m + 1, k, ρ => (match slot ρ iv with
    | some (.lst ts) => (match ts[k]? with
      | some (.fr d) => (match g d ρ with
        | some ρ1 => (match fc ρ1 with
          | some (.ok true ρ2) => (match fe ρ2 with
            | some (.ok t ρ3) => (match cLoopL own iv g fc fe m (k + 1) (wipeR ρ3 own) with
              | some (ts, ρ4) => some (t :: ts, ρ4)
              | none => none)
            | _ => none)
          | some (.ok false ρ2) => cLoopL own iv g fc fe m (k + 1) (wipeR ρ2 own)
          | _ => none)
        | none => none)
      | _ => none)
    | _ => none)
def eLcL (own : List Nat) (iv : Nat) (g : D → Rho → Option Rho) (fc : Rho → Option (Rs Bool)) (fe : Rho → Option (Rs T)) : Rho → Option (Rs T) := fun ρ => match slot ρ iv with
  | some (.lst ts) => if iv ∉ own then (cLoopL own iv g fc fe ts.length 0 (wipeR ρ own)).map fun q => .ok (.lst q.1) (backR ρ q.2 own) else none
  | _ => none
theorem wipeR_get {ρ : Rho} {vs : List Nat} {j : Nat} (h : j ∉ vs) : (wipeR ρ vs)[j]? = ρ[j]? := by
  induction vs with
  | nil => rfl
  | cons v vs ih =>
    simp only [List.mem_cons, not_or] at h
    show ((wipeR ρ vs).set v none)[j]? = _
    rw [List.getElem?_set_ne (Ne.symm h.1), ih h.2]
section
variable {K : PySem.W.Frag} {M H : Hp}
theorem RpL.at_ {ts : List T} : ∀ {vs : List V} {R : Fp} {i : Nat} {t : T}, RpL K M H ts vs R → ts[i]? = some t → ∃ v R', vs[i]? = some v ∧ Rp K M H t v R' := by
  induction ts with
  | nil => intro vs R i t r e; cases e
  | cons x ts ih =>
    intro vs R i t r e
    cases r with
    | cons h t' dj =>
      cases i with
      | zero => cases e; exact ⟨_, _, rfl, h⟩
      | succ i =>
        obtain ⟨v, R', e1, r1⟩ := ih (i := i) t' (by simpa using e)
        exact ⟨v, R', by simpa using e1, r1⟩
theorem te_lcL {W : WS} {own as : List Nat} {iv : Nat} {gt : D → Rho → Option Rho} {fc : Rho → Option (Rs Bool)} {fe : Rho → Option (Rs T)} (has : ∀ j ∈ as, j ∈ own) (σ : L2.St) (H0 : Hp) (Q : VK)
    (h : tE K W (eLcL own iv gt fc fe) σ H0 Q) : tLc (iSeq K (tVar iv)) (tG K as gt) (tT K W0 fc) (tE K W0 fe) own σ H0 Q := by
  obtain ⟨M, ρ, F, r, g, e, q⟩ := h
  unfold eLcL at e
  split at e
  · next ts0 es =>
    split at e
    · next niv =>
      obtain ⟨⟨tsF, ρe⟩, e2, e⟩ := Option.map_eq_some_iff.mp e
      subst e
      obtain ⟨v0, h0, r0⟩ := g.sl iv _ (slot_some es)
      obtain ⟨a, vs0, R0, rfl, ha0, _, hr0, _, _⟩ := r0.lst_inv
      refine ⟨_, h0, a, vs0, rfl, .inl ⟨.inl (.inl ha0), fun hz => ?_⟩⟩
      have hl : ts0.length ≤ SZ := by rw [← hr0.length]; exact hz
      intro D nD
      have aw : (L2.wipe σ own)[iv]? = some (some (.ref a)) := by rw [wipe_get niv]; exact h0
      refine ⟨fun i m H => m + i = ts0.length ∧ ∃ Mi ρi Fi ts RD rest, Good K Mi H (L2.wipe σ own) ρi Fi ∧ cLoopL own iv gt fc fe m i ρi = some (rest, ρe) ∧ Rp K Mi H (.lst ts) (.ref D) RD ∧ (∀ a, RD a → ¬ Al Fi a) ∧ tsF = ts ++ rest ∧ ts.length ≤ i ∧
        Stp M H0 (Al F) Mi H (fun a => RD a ∨ Al Fi a), ?_, ?_⟩
      · obtain ⟨F2, g2, s2⟩ := g.wipe own
        have x := Ext.new (o := .lst []) g.le nD
        have mD : M D = none := Same.out g.le nD
        refine ⟨ts0.length, rfl, M, _, F2, [], _, tsF, g2.ext x, e2, .lst upd_same mD .nil id, fun a z y => ?_, rfl, Nat.zero_le _, x.stp fun a z => ?_⟩
        · rcases z with z | z
          · subst z
            obtain ⟨_, o, eo⟩ := g.own _ (s2 _ y)
            rw [nD] at eo; cases eo
          · exact z.elim
        · rcases z with (z | z) | z
          · subst z; exact .inr nD
          · exact z.elim
          · exact .inl (s2 a z)
      · rintro i m H ⟨hm, Mi, ρi, Fi, ts, RD, rest, gi, ei, rp, dj, et, hts, Si⟩
        cases m with
        | succ m =>
          have hi : i < ts0.length := by omega
          simp only [cLoopL] at ei
          split at ei
          · next tl esl =>
            obtain ⟨vi, hvi, ri⟩ := gi.sl iv _ (slot_some esl)
            rw [aw] at hvi
            cases hvi
            obtain ⟨a', vsi, Ri, ea, hai, _, hri, _, _⟩ := ri.lst_inv
            cases ea
            split at ei
            · next d ed =>
              obtain ⟨x0, Rx, ex0, rx⟩ := hri.at_ ed
              refine .inr ⟨⟨vsi, x0, .inl (.inl hai), ex0⟩, fun H' => ∃ m', m' + (i + 1) = ts0.length ∧ ∃ Mi ρi Fi ts RD rest, Good K Mi H' (L2.wipe σ own) ρi Fi ∧ cLoopL own iv gt fc fe m' (i + 1) ρi = some (rest, ρe) ∧ Rp K Mi H' (.lst ts) (.ref D) RD ∧ (∀ a, RD a → ¬ Al Fi a) ∧ tsF = ts ++ rest ∧ ts.length ≤ i + 1 ∧
                Stp M H0 (Al F) Mi H' (fun a => RD a ∨ Al Fi a), fun H' ⟨m', h1, h2⟩ => ⟨m', by omega, h1, h2⟩, fun x H' y => ?_⟩
              obtain ⟨rfl, y⟩ := y
              have y2 := y vsi (.inl (.inl hai))
              rw [ex0] at y2
              cases y2
              split at ei
              · next ρ' eg =>
                refine ⟨Mi, ρi, Fi, d, ρ', gi, rx.fr_inv.1, eg, fun σ2 F2 g2 sub ks kl => ?_⟩
                have hlen : σ2.length = σ.length := kl.trans (wipe_length σ own)
                have hw : L2.wipe σ2 own = L2.wipe σ own := wipe_congr hlen fun j hj => ks j fun z => hj (has j z)
                refine ⟨hw, ?_⟩
                have rp3 := rp
                have S3 := Si
                have dj2 : ∀ a, RD a → ¬ Al F2 a := fun a z y => dj a z (sub a y)
                split at ei
                · next ρ2 ec =>
                  refine ⟨Mi, ρ', F2, _, g2, ec, fun M4 H4 F4 S4 g4 => ?_⟩
                  refine iteT ?_
                  have rp4 := rp3.apart S4 dj2
                  have own3 := rp3.own
                  have dj4 : ∀ a, RD a → ¬ Al F4 a := fun a z y => by
                    rcases S4.p a y with w | w
                    · exact dj2 a z w
                    · obtain ⟨_, o, eo⟩ := own3 a z
                      rw [w] at eo; cases eo
                  have S4' : Stp M H0 (Al F) M4 H4 (fun a => RD a ∨ Al F4 a) := (S3.sub (fun _ z => z) fun a (z : RD a ∨ Al F2 a) => z.imp_right (sub a)).trans ⟨S4.m, fun a o e n => S4.h a o e fun z => n (.inr z), fun a h1 h2 => (S4.n a h1 h2).imp_left .inr, fun a z => z.elim (fun z => .inl (.inl z)) fun z => (S4.p a z).imp_left .inr⟩
                  split at ei
                  · next t ρ3 ee =>
                    split at ei
                    · next ts' ρ4 el =>
                      cases ei
                      refine ⟨M4, ρ2, F4, _, g4, ee, fun M5 H5 v5 R5 F5 S5 g5 r5 d5 => ?_⟩
                      have own4 := rp4.own
                      have rp5 := rp4.apart S5 dj4
                      have new5 : ∀ a, (R5 a ∨ Al F5 a) → ¬ RD a := fun a z y => by
                        rcases S5.p a z with w | w
                        · exact dj4 a y w
                        · obtain ⟨_, o, eo⟩ := own4 a y
                          rw [w] at eo; cases eo
                      obtain ⟨a, vs, R', ea, h1, h2, h3, h4, h5⟩ := rp5.lst_inv
                      cases ea
                      have hvl := h3.length
                      refine ⟨vs, h1, by rw [hvl]; exact Nat.lt_of_lt_of_le (Nat.lt_of_le_of_lt hts hi) (sz_ok hl), m, by omega, ?_⟩
                      obtain ⟨F6, g6, s6⟩ := g5.wipe own
                      rw [hw] at g6
                      have nF6 : ∀ b, RD b → ¬ Al F6 b := fun b z y => new5 b (.inr (s6 b y)) z
                      obtain ⟨R3, g7, rp7, e7, S7⟩ := list_grow g6 h1 h2 h3 h4 r5 (fun z => new5 _ (.inl z) ((h5 _).mpr (.inl rfl))) (fun b z y => new5 b (.inl y) ((h5 b).mpr (.inr z))) (nF6 _ ((h5 _).mpr (.inl rfl)))
                      refine ⟨M5, _, F6, ts ++ [t], R3, ts', g7, el, rp7, fun b z y => ?_, by rw [et]; simp, by simpa using hts, ?_⟩
                      · rcases (e7 b).mp z with z | z
                        · exact nF6 b ((h5 b).mpr z) y
                        · exact d5 b z (s6 b y)
                      · have S5' : Stp M H0 (Al F) M5 H5 (fun a => (RD a ∨ R5 a) ∨ Al F6 a) := S4'.trans ⟨S5.m, fun a o e n => S5.h a o e fun z => n (.inr z), fun a h1 h2 => (S5.n a h1 h2).imp_left .inr, fun a z => by
                          rcases z with (z | z) | z
                          · exact .inl (.inl z)
                          · exact (S5.p a (.inl z)).imp_left .inr
                          · exact (S5.p a (.inr (s6 a z))).imp_left .inr⟩
                        refine S5'.trans ⟨S7.m, fun a o e n => S7.h a o e fun z => n (.inl (.inl (by rw [z]; exact (h5 _).mpr (.inl rfl)))), fun a h1 h2 => absurd h1 h2, fun a z => ?_⟩
                        rcases z with z | z
                        · rcases (e7 a).mp z with z | z
                          · exact .inl (.inl (.inl ((h5 a).mpr z)))
                          · exact .inl (.inl (.inr z))
                        · exact .inl (.inr z)
                    · cases ei
                  · cases ei
                · next ρ2 ec =>
                  refine ⟨Mi, ρ', F2, _, g2, ec, fun M4 H4 F4 S4 g4 => ?_⟩
                  refine iteF ?_
                  have rp4 := rp3.apart S4 dj2
                  have own3 := rp3.own
                  have dj4 : ∀ a, RD a → ¬ Al F4 a := fun a z y => by
                    rcases S4.p a y with w | w
                    · exact dj2 a z w
                    · obtain ⟨_, o, eo⟩ := own3 a z
                      rw [w] at eo; cases eo
                  obtain ⟨F6, g6, s6⟩ := g4.wipe own
                  rw [hw] at g6
                  refine ⟨m, by omega, M4, _, F6, ts, RD, rest, g6, ei, rp4, fun a z y => dj4 a z (s6 a y), et, by omega, ?_⟩
                  exact (S3.sub (fun _ z => z) fun a (z : RD a ∨ Al F2 a) => z.imp_right (sub a)).trans ⟨S4.m, fun a o e n => S4.h a o e fun z => n (.inr z), fun a h1 h2 => (S4.n a h1 h2).imp_left .inr, fun a z => z.elim (fun z => .inl (.inl z)) fun z => (S4.p a (s6 a z)).imp_left .inr⟩
                · cases ei
              · cases ei
            · cases ei
          · cases ei
        | zero =>
          simp only [cLoopL] at ei
          split at ei
          · next tl esl =>
            split at ei
            · next hle =>
              obtain ⟨vi, hvi, ri⟩ := gi.sl iv _ (slot_some esl)
              rw [aw] at hvi
              cases hvi
              obtain ⟨a', vsi, Ri, ea, hai, _, hri, _, _⟩ := ri.lst_inv
              cases ea
              refine .inl ⟨⟨vsi, .inl (.inl hai), by rw [hri.length]; exact hle⟩, ?_⟩
              cases ei
              rw [List.append_nil] at et
              subst et
              refine q Mi H (.ref D) RD (fun j a => if j ∈ own then False else Fi j a) (Si.sub (fun _ z => z) fun a z => ?_) ?_ rp fun a z ⟨j, y⟩ => ?_
              · rcases z with z | ⟨j, z⟩
                · exact .inl z
                · by_cases y : j ∈ own
                  · simp [y] at z
                  · simp only [y, if_false] at z; exact .inr ⟨j, z⟩
              · refine ⟨gi.le, by rw [backR_len, gi.len, wipe_length], fun j t e => ?_, fun j h a z => ?_, fun j k a y z => ?_⟩
                · by_cases y : j ∈ own
                  · obtain ⟨d, rfl, e3⟩ := backR_own y e
                    obtain ⟨v, h1, h2⟩ := g.sl j _ e3
                    refine ⟨v, h1, ?_⟩
                    simp only [y, if_true]
                    exact .fr (h2.fr_inv.1.mono Si.m)
                  · rw [backR_get y] at e
                    obtain ⟨v, h1, h2⟩ := gi.sl j t e
                    rw [wipe_get y] at h1
                    refine ⟨v, h1, ?_⟩
                    simp only [y, if_false]
                    exact h2
                · by_cases y : j ∈ own
                  · simp [y] at z
                  · simp only [y, if_false] at z
                    exact gi.em j (fun t e => h t (by rw [backR_get y]; exact e)) a z
                · by_cases y1 : j ∈ own
                  · simp [y1] at y
                  · by_cases y2 : k ∈ own
                    · simp [y2] at z
                    · simp only [y1, y2, if_false] at y z
                      exact gi.dj j k a y z
              · by_cases y2 : j ∈ own
                · simp [y2] at y
                · simp only [y2, if_false] at y
                  exact dj a z ⟨j, y⟩
            · cases ei
          · cases ei
    · cases e
  · cases e
end
section
variable {X : Cx} {W : WS} {pos : Pos}
theorem ee_lcL {elt tg : Expr} {ifs : List Expr} {scope : Scope} {own : List (Str × Nat)} {as : List Nat} {iv : Nat} {x : Str} {px : Pos} {g : D → Rho → Option Rho} {fc : Rho → Option (Rs Bool)} {fe : Rho → Option (Rs T)} (has : ∀ j ∈ as, j ∈ own.map (·.2)) (hc : X.calm = true) (hN : X.N.Nodup) (hi : PE X (.Name x px) (tVar iv)) (ok : blkC X.N X.env.scope scope own = true)
    (hg : ∀ (s : Shared) (H : Hp) (C : Addr) (cl : List (Str × Addr)) (fp : List Addr), EG (X.blk s H scope (compEnvC scope cl C X.env) fp) as tg g) (ht : ∀ (s : Shared) (H : Hp) (C : Addr) (cl : List (Str × Addr)) (fp : List Addr), ETs (X.blk s H scope (compEnvC scope cl C X.env) fp) W0 ifs fc)
    (he : ∀ (s : Shared) (H : Hp) (C : Addr) (cl : List (Str × Addr)) (fp : List Addr), EE (X.blk s H scope (compEnvC scope cl C X.env) fp) W0 elt fe) (hs : ∀ y, foldedSetIterable (.Name x px) X.env y = pure y := by intro _; rfl) :
    EE X W (.ListComp elt [⟨tg, .Name x px, ifs, 0⟩] scope pos) (eLcL (own.map (·.2)) iv g fc fe) := (pe_lc hc hN (pi_seq hi) (blkOk_by ok) hg ht he hs).lv fun σ H Q h => te_lcL has σ H Q h
end
end Lv

set_option maxHeartbeats 2000000
namespace Lv
open PySem PySem.Spec PyProof.Rows L2
section
variable {α β : Type} {ρ ρ1 : Rho} {f g h : Rho → Option T} {F G : Rho → Option (Rs T)} {A B : Rho → Option (Rs Bool)} {s t u : Rho → Option Out} {op op' : T → T → Option T} {i j : Nat} {d : D}
theorem bnd_ok {a : α} {k : α → Rho → Option (Rs β)} : bnd (some (.ok a ρ)) k = k a ρ := rfl
theorem bnd_ex {c : Str} {k : α → Rho → Option (Rs β)} : bnd (some (.ex c ρ)) k = some (.ex c ρ) := rfl
theorem ofR_ok {a : α} {k : α → Rho → Option Out} : ofR (some (.ok a ρ)) k = k a ρ := rfl
theorem ofR_ex {c : Str} {k : α → Rho → Option Out} : ofR (some (.ex c ρ)) k = some (.ex c ρ) := rfl
theorem SZ_eq : SZ = 16777216 := rfl
theorem kC_ap : kC d ρ = some (.fr d) := rfl
theorem slot_c0 {o : T} {r : Rho} : slot (some o :: r) 0 = some o := rfl
theorem slot_cs {o : Option T} {r : Rho} {n : Nat} : slot (o :: r) (n + 1) = slot r n := rfl
theorem kV_ap : kV i ρ = slot ρ i := rfl
def frR (ρ : Rho) : Option T → Option (Rs T)
  | some (.fr d) => some (.ok (.fr d) ρ)
  | _ => none
theorem frR_ok : frR ρ (some (.fr d)) = some (.ok (.fr d) ρ) := rfl
theorem kOk_ap : kOk f ρ = frR ρ (f ρ) := rfl
theorem k1_ap {op : T → Option T} : k1 op f ρ = (f ρ).bind op := rfl
theorem k2_ap : k2 op f g ρ = (f ρ).bind fun a => (g ρ).bind fun b => op a b := rfl
theorem e1_ap {op : T → Option T} : e1 op F ρ = bnd (F ρ) fun a ρ1 => (op a).map fun t => .ok t ρ1 := rfl
def okR (ρ : Rho) : Option T → Option (Rs T)
  | some t => some (.ok t ρ)
  | none => none
theorem okR_ok {t : T} : okR ρ (some t) = some (.ok t ρ) := rfl
theorem okR_map {o : Option T} : (o.map fun t => Rs.ok t ρ) = okR ρ o := by cases o <;> rfl
def e2b (op : T → T → Option T) (a : T) : Option (Rs T) → Option (Rs T)
  | some (.ok b ρ) => okR ρ (op a b)
  | r => r
def e2a (op : T → T → Option T) (G : Rho → Option (Rs T)) : Option (Rs T) → Option (Rs T)
  | some (.ok a ρ) => e2b op a (G ρ)
  | r => r
theorem e2a_ok {a : T} : e2a op G (some (.ok a ρ)) = e2b op a (G ρ) := rfl
theorem e2b_ok {a b : T} : e2b op a (some (.ok b ρ)) = okR ρ (op a b) := rfl
theorem e2a_ex {c : Str} : e2a op G (some (.ex c ρ)) = some (.ex c ρ) := rfl
theorem e2b_ex {a : T} {c : Str} : e2b op a (some (.ex c ρ)) = some (.ex c ρ) := rfl
theorem e2_ap : e2 op F G ρ = e2a op G (F ρ) := by
  unfold e2
  rcases F ρ with _ | r
  · rfl
  · cases r with
    | ex c ρ' => rfl
    | ok a ρ1 =>
      simp only [bnd_ok, e2a_ok]
      rcases G ρ1 with _ | r
      · rfl
      · cases r with
        | ex c ρ' => rfl
        | ok b ρ2 => simp only [bnd_ok, e2b_ok, okR_map]
theorem eMv_ap : eMv i ρ = (match slot ρ i with | some t => some (.ok t (ρ.set i none)) | none => none) := by
  unfold eMv slot
  rcases ρ[i]? with _ | _ | _ <;> rfl
def cpk (i : Nat) (ρ : Rho) : Option T → Option (Rs T)
  | some t => t.dat.map fun d => .ok (.fr d) (ρ.set i (some (.fr d)))
  | none => none
theorem cpk_ok {t : T} : cpk i ρ (some t) = t.dat.map fun d => .ok (.fr d) (ρ.set i (some (.fr d))) := rfl
theorem eCp_ap : eCp i ρ = cpk i ρ (slot ρ i) := by
  unfold eCp slot
  rcases ρ[i]? with _ | _ | _ <;> rfl
theorem eFz_ap : eFz F ρ = bnd (F ρ) fun t ρ' => t.dat.map fun d => .ok (.fr d) ρ' := rfl
theorem kNil_ap : kNil ρ = some [] := rfl
theorem kCons_ap {L : Rho → Option (List T)} : kCons f L ρ = (f ρ).bind fun t => (L ρ).map (t :: ·) := rfl
theorem eNil_ap : eNil ρ = some (.ok [] ρ) := rfl
def ecb (t : T) : Option (Rs (List Ar)) → Option (Rs (List Ar))
  | some (.ok as ρ) => some (.ok (.own t :: as) ρ)
  | r => r
def eca (L : Rho → Option (Rs (List Ar))) : Option (Rs T) → Option (Rs (List Ar))
  | some (.ok t ρ) => ecb t (L ρ)
  | some (.ex c ρ) => some (.ex c ρ)
  | none => none
theorem ecb_ok {t : T} {as : List Ar} : ecb t (some (.ok as ρ)) = some (.ok (.own t :: as) ρ) := rfl
theorem ecb_ex {t : T} {c : Str} : ecb t (some (.ex c ρ)) = some (.ex c ρ) := rfl
theorem eca_ok {L : Rho → Option (Rs (List Ar))} {t : T} : eca L (some (.ok t ρ)) = ecb t (L ρ) := rfl
theorem eca_ex {L : Rho → Option (Rs (List Ar))} {c : Str} : eca L (some (.ex c ρ)) = some (.ex c ρ) := rfl
theorem eCons_ap {L : Rho → Option (Rs (List Ar))} : eCons F L ρ = eca L (F ρ) := by
  unfold eCons
  rcases F ρ with _ | r
  · rfl
  · cases r with
    | ex c ρ' => rfl
    | ok a ρ1 =>
      simp only [bnd_ok, eca_ok]
      rcases L ρ1 with _ | r
      · rfl
      · cases r <;> rfl
theorem eBor_ap {L : Rho → Option (Rs (List Ar))} : eBor i L ρ = (match slot ρ i with | some _ => bnd (L ρ) fun as ρ2 => some (.ok (.bor i :: as) ρ2) | none => none) := by
  unfold eBor slot
  rcases ρ[i]? with _ | _ | _ <;> rfl
def rT : Option Ret → Option T
  | some (.ok t _) => some t
  | _ => none
theorem rT_ok {t : T} {os : List (Option T)} : rT (some (.ok t os)) = some t := rfl
theorem kCall_ap {L : Rho → Option (List T)} {sem : List T → Option Ret} : kCall sem L ρ = (L ρ).bind fun ts => if allF ts = true then rT (sem ts) else none := rfl
def rE (as : List Ar) (ρ2 : Rho) : Option Ret → Option (Rs T)
  | some (.ok t os) => some (.ok t (putA as os ρ2))
  | some (.ex c) => some (.ex c ρ2)
  | none => none
theorem rE_ok {as : List Ar} {t : T} {os : List (Option T)} : rE as ρ (some (.ok t os)) = some (.ok t (putA as os ρ)) := rfl
theorem rE_ex {as : List Ar} {c : Str} : rE as ρ (some (.ex c)) = some (.ex c ρ) := rfl
def rA (sem : List T → Option Ret) (as : List Ar) : Option (List T × Rho) → Option (Rs T)
  | some (ts, ρ2) => rE as ρ2 (sem ts)
  | none => none
theorem rA_ok {sem : List T → Option Ret} {as : List Ar} {ts : List T} : rA sem as (some (ts, ρ)) = rE as ρ (sem ts) := rfl
theorem eCall_ap {L : Rho → Option (Rs (List Ar))} {sem : List T → Option Ret} : eCall sem L ρ = bnd (L ρ) fun as ρ1 => rA sem as (takeA as ρ1) := by
  unfold eCall
  congr 1
theorem takeA_nil : takeA [] ρ = some ([], ρ) := rfl
def tkc (t : T) : Option (List T × Rho) → Option (List T × Rho)
  | some (ts, ρ') => some (t :: ts, ρ')
  | none => none
theorem tkc_ok {t : T} {ts : List T} : tkc t (some (ts, ρ)) = some (t :: ts, ρ) := rfl
theorem takeA_own {t : T} {r : List Ar} : takeA (.own t :: r) ρ = tkc t (takeA r ρ) := by
  simp only [takeA]; cases takeA r ρ with
  | none => rfl
  | some q => rfl
theorem takeA_bor {r : List Ar} : takeA (.bor i :: r) ρ = (match slot ρ i with | some t => tkc t (takeA r (ρ.set i none)) | none => none) := by
  simp only [takeA]; unfold slot
  rcases ρ[i]? with _ | _ | t
  · rfl
  · rfl
  · show (match takeA r (ρ.set i none) with | some (ts, ρ') => some (t :: ts, ρ') | none => none) = tkc t (takeA r (ρ.set i none))
    cases takeA r (ρ.set i none) with
    | none => rfl
    | some q => rfl
theorem putA_nil {os : List (Option T)} : putA [] os ρ = ρ := by simp [putA]
theorem putA_own {t : T} {r : List Ar} {o : Option T} {os : List (Option T)} : putA (.own t :: r) (o :: os) ρ = putA r os ρ := rfl
theorem putA_bor {r : List Ar} {o : Option T} {os : List (Option T)} : putA (.bor i :: r) (o :: os) ρ = putA r os (ρ.set i o) := rfl
theorem allF_nil : allF [] = true := rfl
theorem allF_cons {r : List T} : allF (.fr d :: r) = allF r := rfl
theorem tV_ap : tV F ρ = bnd (F ρ) fun t ρ1 => (truth t).map fun b => .ok b ρ1 := rfl
theorem tVK_ap : tVK f ρ = (f ρ).bind fun t => (truth t).map fun b => .ok b ρ := rfl
theorem tB_ap : tB F ρ = bnd (F ρ) fun t ρ1 => (isB t).map fun b => .ok b ρ1 := rfl
theorem tBK_ap : tBK f ρ = (f ρ).bind fun t => (isB t).map fun b => .ok b ρ := rfl
theorem tNot_ap : tNot A ρ = bnd (A ρ) fun b ρ1 => some (.ok (!b) ρ1) := rfl
def tan (B : Rho → Option (Rs Bool)) : Option (Rs Bool) → Option (Rs Bool)
  | some (.ok true ρ) => B ρ
  | r => r
def tor (B : Rho → Option (Rs Bool)) : Option (Rs Bool) → Option (Rs Bool)
  | some (.ok false ρ) => B ρ
  | r => r
theorem tan_t : tan B (some (.ok true ρ)) = B ρ := rfl
theorem tan_f : tan B (some (.ok false ρ)) = some (.ok false ρ) := rfl
theorem tan_ex {c : Str} : tan B (some (.ex c ρ)) = some (.ex c ρ) := rfl
theorem tor_t : tor B (some (.ok true ρ)) = some (.ok true ρ) := rfl
theorem tor_f : tor B (some (.ok false ρ)) = B ρ := rfl
theorem tor_ex {c : Str} : tor B (some (.ex c ρ)) = some (.ex c ρ) := rfl
theorem tAnd_ap : tAnd A B ρ = tan B (A ρ) := by
  unfold tAnd
  rcases A ρ with _ | r
  · rfl
  · cases r with
    | ex c ρ' => rfl
    | ok b ρ1 => cases b <;> rfl
theorem tOr_ap : tOr A B ρ = tor B (A ρ) := by
  unfold tOr
  rcases A ρ with _ | r
  · rfl
  · cases r with
    | ex c ρ' => rfl
    | ok b ρ1 => cases b <;> rfl
theorem isB_bl {b : Bool} : isB (.fr (.bool b)) = some b := rfl
theorem truth_bl {b : Bool} : truth (.fr (.bool b)) = some b := rfl
theorem truth_lst {xs : List T} : truth (.lst xs) = some (!xs.isEmpty) := rfl
theorem truth_list {xs : List D} : truth (.fr (.list xs)) = some (!xs.isEmpty) := rfl
theorem truth_int {k : Int} : truth (.fr (.int k)) = some (decide (k ≠ 0)) := rfl
def ean (G : Rho → Option (Rs T)) : Option (Rs T) → Option (Rs T)
  | some (.ok (.fr (.bool true)) ρ) => G ρ
  | some (.ok (.fr (.bool false)) ρ) => some (.ok (.fr (.bool false)) ρ)
  | r => eAnd (fun _ => r) G []
theorem ean_t : ean G (some (.ok (.fr (.bool true)) ρ)) = G ρ := rfl
theorem ean_f : ean G (some (.ok (.fr (.bool false)) ρ)) = some (.ok (.fr (.bool false)) ρ) := rfl
theorem eAnd_ap : eAnd F G ρ = ean G (F ρ) := by
  unfold ean
  split
  · next ρ1 e => unfold eAnd; rw [e]; rfl
  · next ρ1 e => unfold eAnd; rw [e]; rfl
  · next => rfl
def eor (G : Rho → Option (Rs T)) : Option (Rs T) → Option (Rs T)
  | some (.ok (.fr (.bool false)) ρ) => G ρ
  | some (.ok (.fr (.bool true)) ρ) => some (.ok (.fr (.bool true)) ρ)
  | r => eOr (fun _ => r) G []
theorem eor_t : eor G (some (.ok (.fr (.bool true)) ρ)) = some (.ok (.fr (.bool true)) ρ) := rfl
theorem eor_f : eor G (some (.ok (.fr (.bool false)) ρ)) = G ρ := rfl
theorem eOr_ap : eOr F G ρ = eor G (F ρ) := by
  unfold eor
  split
  · next ρ1 e => unfold eOr; rw [e]; rfl
  · next ρ1 e => unfold eOr; rw [e]; rfl
  · next => rfl
theorem eNot_ap : eNot F ρ = bnd (F ρ) fun t ρ1 => (truth t).map fun b => .ok (.fr (.bool (!b))) ρ1 := rfl
def ifk {α : Type} (s t : Rho → Option (Rs α)) : Option (Rs Bool) → Option (Rs α)
  | some (.ok true ρ) => s ρ
  | some (.ok false ρ) => t ρ
  | some (.ex c ρ) => some (.ex c ρ)
  | none => none
theorem ifk_t {s t : Rho → Option (Rs T)} : ifk s t (some (.ok true ρ)) = s ρ := rfl
theorem ifk_f {s t : Rho → Option (Rs T)} : ifk s t (some (.ok false ρ)) = t ρ := rfl
theorem ifk_ex {s t : Rho → Option (Rs T)} {c : Str} : ifk s t (some (.ex c ρ)) = some (.ex c ρ) := rfl
theorem eIf_ap : eIf A F G ρ = ifk F G (A ρ) := by
  unfold eIf
  rcases A ρ with _ | r
  · rfl
  · cases r with
    | ex c ρ' => rfl
    | ok b ρ1 => cases b <;> rfl
def chk (op' : T → T → Option T) (b : T) (h : Rho → Option T) (ρ : Rho) : Option T → Option T
  | some (.fr (.bool true)) => (h ρ).bind fun c => op' b c
  | some (.fr (.bool false)) => some (.fr (.bool false))
  | r => kCh (fun _ _ => r) op' (fun _ => some b) (fun _ => some b) h ρ
theorem chk_t {b : T} : chk op' b h ρ (some (.fr (.bool true))) = (h ρ).bind fun c => op' b c := rfl
theorem chk_f {b : T} : chk op' b h ρ (some (.fr (.bool false))) = some (.fr (.bool false)) := rfl
theorem kCh_ap : kCh op op' f g h ρ = (f ρ).bind fun a => (g ρ).bind fun b => chk op' b h ρ (op a b) := by
  unfold kCh
  cases f ρ with
  | none => rfl
  | some a =>
    cases g ρ with
    | none => rfl
    | some b =>
      simp only [Option.bind_some]
      unfold chk
      split
      · next e => rw [e]; rfl
      · next e => rw [e]; rfl
      · next => rfl
theorem kN_ap {L : Rho → Option (List T)} {op : List T → Option T} : kN op L ρ = (L ρ).bind op := rfl
theorem eN_ap {L : Rho → Option (Rs (List Ar))} {op : List T → Option T} : eN op L ρ = bnd (L ρ) fun as ρ1 => (ownsA as).bind fun ts => (op ts).map fun t => .ok t ρ1 := rfl
theorem ownsA_nil : ownsA [] = some [] := rfl
theorem ownsA_own {t : T} {r : List Ar} : ownsA (.own t :: r) = (ownsA r).map (t :: ·) := rfl
theorem kTup_ap {L : Rho → Option (List T)} : kTup L ρ = (L ρ).bind fun ts => (allFr ts).bind fun ds => if ds.length ≤ SZ then some (.fr (.tuple ds)) else none := rfl
theorem kLst_ap {L : Rho → Option (List T)} : kLst L ρ = (L ρ).bind fun ts => (allFr ts).bind fun ds => if ds.length ≤ SZ then some (.lst (ds.map .fr)) else none := rfl
theorem eTup_ap {L : Rho → Option (Rs (List Ar))} : eTup L ρ = bnd (L ρ) fun as ρ1 => (ownsA as).bind fun ts => (T.datL ts).bind fun ds => if ds.length ≤ SZ then some (.ok (.fr (.tuple ds)) ρ1) else none := rfl
theorem eLst_ap {L : Rho → Option (Rs (List Ar))} : eLst L ρ = bnd (L ρ) fun as ρ1 => (ownsA as).bind fun ts => if ts.length ≤ SZ then some (.ok (.lst ts) ρ1) else none := rfl
theorem kIsi_ap {n : String} : kIsi n f ρ = (f ρ).bind fun t => (typT t).map fun s => .fr (.bool (isaB s n)) := rfl
theorem kSl_ap {lo hi : Rho → Option (Option Int)} : kSl f lo hi ρ = (f ρ).bind fun t => (lo ρ).bind fun l => (hi ρ).bind fun h => opSl l h t := rfl
theorem eSl_ap {lo hi : Rho → Option (Option Int)} : eSl F lo hi ρ = bnd (F ρ) fun t ρ1 => (lo ρ1).bind fun l => (hi ρ1).bind fun h => (opSl l h t).map fun u => .ok u ρ1 := rfl
def parI : Option T → Option (Option Int)
  | some (.fr (.int i)) => some (some i)
  | _ => none
theorem parI_ok {k : Int} : parI (some (.fr (.int k))) = some (some k) := rfl
theorem kPart_ap : kPart f ρ = parI (f ρ) := rfl
theorem kNoPart_ap : kNoPart ρ = some none := rfl
theorem kRev_ap : kRev f ρ = (f ρ).bind fun t => (T.asL t).map fun ds => .lst (ds.reverse.map .fr) := rfl
theorem gN_ap : gN i d ρ = if i < ρ.length then some (ρ.set i (some (.fr d))) else none := rfl
theorem gTp_tup {n : Nat} {gs : List D → Rho → Option Rho} {ds : List D} : gTp n gs (.tuple ds) ρ = if ds.length = n then gs ds ρ else none := by unfold gTp; rfl
theorem gCs_cons {a : D → Rho → Option Rho} {gs : List D → Rho → Option Rho} {ds : List D} : gCs a gs (d :: ds) ρ = (a d ρ).bind (gs ds) := by unfold gCs; rfl
theorem gNl_nil : gNl [] ρ = some ρ := rfl
theorem iIt_ap : iIt F ρ = bnd (F ρ) fun t ρ1 => (T.dat t).bind fun d => (itemsD d).map fun ds => .ok ds ρ1 := rfl
theorem items_list {ds : List D} : itemsD (.list ds) = some ds := rfl
theorem items_tuple {ds : List D} : itemsD (.tuple ds) = some ds := rfl
def rg1 (ρ1 : Rho) : List Ar → Option (Rs (List D))
  | [.own (.fr (.int j))] => if j ≤ 16777216 ∧ -16777216 ≤ j then some (.ok (rngD 0 j.toNat) ρ1) else none
  | _ => none
theorem iRange1_ap {L : Rho → Option (Rs (List Ar))} : iRange1 L ρ = bnd (L ρ) fun as ρ1 => rg1 ρ1 as := rfl
theorem rg1_ok {k : Int} : rg1 ρ [.own (.fr (.int k))] = if k ≤ 16777216 ∧ -16777216 ≤ k then some (.ok (rngD 0 k.toNat) ρ) else none := rfl
def rg2 (ρ1 : Rho) : List Ar → Option (Rs (List D))
  | [.own (.fr (.int i)), .own (.fr (.int j))] => if -4000000000000000000 ≤ i ∧ i ≤ 4000000000000000000 ∧ -4000000000000000000 ≤ j ∧ j ≤ 4000000000000000000 ∧ j - i ≤ 16777216 then some (.ok (rngD i (j - i).toNat) ρ1) else none
  | _ => none
theorem iRange2_ap {L : Rho → Option (Rs (List Ar))} : iRange2 L ρ = bnd (L ρ) fun as ρ1 => rg2 ρ1 as := rfl
theorem rg2_ok {i j : Int} : rg2 ρ [.own (.fr (.int i)), .own (.fr (.int j))] = if -4000000000000000000 ≤ i ∧ i ≤ 4000000000000000000 ∧ -4000000000000000000 ≤ j ∧ j ≤ 4000000000000000000 ∧ j - i ≤ 16777216 then some (.ok (rngD i (j - i).toNat) ρ) else none := rfl
theorem tYesF_ap : tYesF ρ = some (.ok true ρ) := rfl
/-! statements -/
def nxt (k : Rho → Option Out) : Option Out → Option Out
  | some (.nx ρ1) => k ρ1
  | o => o
theorem nxt_nx {k : Rho → Option Out} : nxt k (some (.nx ρ)) = k ρ := rfl
theorem nxt_rt {k : Rho → Option Out} {t : T} : nxt k (some (.rt t ρ)) = some (.rt t ρ) := rfl
theorem nxt_ex {k : Rho → Option Out} {c : Str} : nxt k (some (.ex c ρ)) = some (.ex c ρ) := rfl
theorem nxt_bk {k : Rho → Option Out} : nxt k (some (.bk ρ)) = some (.bk ρ) := rfl
theorem nxt_ct {k : Rho → Option Out} : nxt k (some (.ct ρ)) = some (.ct ρ) := rfl
theorem sSeq_ap : sSeq s t ρ = nxt t (s ρ) := rfl
theorem sNil_ap : sNil ρ = some (.nx ρ) := rfl
theorem sBk_ap : sBk ρ = some (.bk ρ) := rfl
theorem sCt_ap : sCt ρ = some (.ct ρ) := rfl
theorem sRaise_ap {c : Str} : sRaise c ρ = some (.ex c ρ) := rfl
theorem sExpr_ap : sExpr F ρ = ofR (F ρ) fun _ ρ1 => some (.nx ρ1) := rfl
theorem sRet_ap : sRet F ρ = ofR (F ρ) fun t ρ1 => some (.rt t ρ1) := rfl
theorem sRetN_ap : sRetN ρ = some (.rt (.fr .none) ρ) := rfl
def ifs (s t : Rho → Option Out) : Option (Rs Bool) → Option Out
  | some (.ok true ρ) => s ρ
  | some (.ok false ρ) => t ρ
  | some (.ex c ρ) => some (.ex c ρ)
  | none => none
theorem ifs_t : ifs s t (some (.ok true ρ)) = s ρ := rfl
theorem ifs_f : ifs s t (some (.ok false ρ)) = t ρ := rfl
theorem ifs_ex {c : Str} : ifs s t (some (.ex c ρ)) = some (.ex c ρ) := rfl
theorem sIf_ap : sIf A s t ρ = ifs s t (A ρ) := by
  unfold sIf
  rcases A ρ with _ | r
  · rfl
  · cases r with
    | ex c ρ' => rfl
    | ok b ρ1 => cases b <;> rfl
theorem sSet_ap : sSet i F ρ = ofR (F ρ) fun t ρ1 => if i < ρ1.length then some (.nx (ρ1.set i (some t))) else none := rfl
theorem sTgt_ap {g : D → Rho → Option Rho} : sTgt g F ρ = ofR (F ρ) fun t ρ1 => (T.dat t).bind fun d => (g d ρ1).map fun ρ2 => .nx ρ2 := rfl
def kild (ks : List Nat) : Option Out → Option Out
  | some (.nx ρ1) => some (.nx (wipeR ρ1 ks))
  | some (.ct ρ1) => some (.ct (wipeR ρ1 ks))
  | o => o
theorem kild_nx {ks : List Nat} : kild ks (some (.nx ρ)) = some (.nx (wipeR ρ ks)) := rfl
theorem kild_ct {ks : List Nat} : kild ks (some (.ct ρ)) = some (.ct (wipeR ρ ks)) := rfl
theorem kild_rt {ks : List Nat} {t : T} : kild ks (some (.rt t ρ)) = some (.rt t ρ) := rfl
theorem kild_bk {ks : List Nat} : kild ks (some (.bk ρ)) = some (.bk ρ) := rfl
theorem kild_ex {ks : List Nat} {c : Str} : kild ks (some (.ex c ρ)) = some (.ex c ρ) := rfl
theorem kill_ap {ks : List Nat} : kill ks s ρ = kild ks (s ρ) := by unfold kill kild; rfl
theorem wipe_nil : wipeR ρ [] = ρ := rfl
theorem wipe_cons {n : Nat} {ns : List Nat} : wipeR ρ (n :: ns) = (wipeR ρ ns).set n none := rfl
def app0 (i : Nat) (t : T) (ρ1 : Rho) : Option T → Option Out
  | some (.lst ts) => if ts.length < SZ then some (.nx (ρ1.set i (some (.lst (ts ++ [t]))))) else none
  | _ => none
theorem app0_ok {t : T} {ts : List T} : app0 i t ρ (some (.lst ts)) = if ts.length < SZ then some (.nx (ρ.set i (some (.lst (ts ++ [t]))))) else none := rfl
def isLst : Option T → Bool
  | some (.lst _) => true
  | _ => false
theorem isLst_ok {ts : List T} : isLst (some (.lst ts)) = true := rfl
theorem sApp0_ap : sApp0 i F ρ = if isLst (slot ρ i) = true then ofR (F ρ) (fun t ρ1 => app0 i t ρ1 (slot ρ1 i)) else none := by
  unfold sApp0
  cases slot ρ i with
  | none => rfl
  | some t => cases t <;> first | rfl | (simp only [isLst]; rfl)
theorem sFor_ap {fi : Rho → Option (Rs (List D))} {g : D → Rho → Option Rho} : sFor fi g s ρ = ofR (fi ρ) fun ds ρ1 => loopF g s sNil ds ρ1 := rfl
theorem sForE_ap {fi : Rho → Option (Rs (List D))} {g : D → Rho → Option Rho} : sForE fi g s t ρ = ofR (fi ρ) fun ds ρ1 => loopF g s t ds ρ1 := rfl
theorem eLc_ap {own : List Nat} {fi : Rho → Option (Rs (List D))} {g : D → Rho → Option Rho} {fc : Rho → Option (Rs Bool)} {fe : Rho → Option (Rs T)} : eLc own fi g fc fe ρ = bnd (fi ρ) fun ds ρ1 => (cLoop own g fc fe ds (wipeR ρ1 own)).map fun q => .ok (.lst q.1) (backR ρ1 q.2 own) := rfl
theorem back_nil {ρ0 : Rho} : backR ρ0 ρ [] = ρ := rfl
def bk1 : Option (Option T) → Option T
  | some (some (.fr d)) => some (.fr d)
  | _ => none
theorem back_cons {ρ0 : Rho} {n : Nat} {ns : List Nat} : backR ρ0 ρ (n :: ns) = (backR ρ0 ρ ns).set n (bk1 ρ0[n]?) := by
  simp only [backR]; congr 1
theorem bk1_none : bk1 (some none) = none := rfl
theorem bk1_fr : bk1 (some (some (.fr d))) = some (.fr d) := rfl
theorem bk1_lst {xs : List T} : bk1 (some (some (.lst xs))) = none := rfl
/-! what a def gives -/
def endD (pin : List Nat) (ts : List T) : Option Out → Option Ret
  | some (.rt t ρ) => some (.ok t (outs pin ρ ts 0))
  | some (.nx ρ) => some (.ok (.fr .none) (outs pin ρ ts 0))
  | some (.ex c _) => some (.ex c)
  | _ => none
theorem endD_rt {pin : List Nat} {ts : List T} {t : T} : endD pin ts (some (.rt t ρ)) = some (.ok t (outs pin ρ ts 0)) := rfl
theorem endD_nx {pin : List Nat} {ts : List T} : endD pin ts (some (.nx ρ)) = some (.ok (.fr .none) (outs pin ρ ts 0)) := rfl
theorem endD_ex {pin : List Nat} {ts : List T} {c : Str} : endD pin ts (some (.ex c ρ)) = some (.ex c) := rfl
theorem semD_ap {n m : Nat} {pin : List Nat} {ts : List T} (hl : ts.length = n) : semD n m pin s ts = endD pin ts (s (ts.map some ++ List.replicate m none)) := by
  unfold semD; rw [if_pos hl]
  rcases s (ts.map some ++ List.replicate m none) with _ | o
  · rfl
  · cases o <;> rfl
theorem semD_1 {m : Nat} {pin : List Nat} {a0 : T} : semD 1 m pin s [a0] = endD pin [a0] (s (some a0 :: List.replicate m none)) := semD_ap rfl
theorem semD_2 {m : Nat} {pin : List Nat} {a0 a1 : T} : semD 2 m pin s [a0, a1] = endD pin [a0, a1] (s (some a0 :: some a1 :: List.replicate m none)) := semD_ap rfl
theorem semD_3 {m : Nat} {pin : List Nat} {a0 a1 a2 : T} : semD 3 m pin s [a0, a1, a2] = endD pin [a0, a1, a2] (s (some a0 :: some a1 :: some a2 :: List.replicate m none)) := semD_ap rfl
theorem semD_4 {m : Nat} {pin : List Nat} {a0 a1 a2 a3 : T} : semD 4 m pin s [a0, a1, a2, a3] = endD pin [a0, a1, a2, a3] (s (some a0 :: some a1 :: some a2 :: some a3 :: List.replicate m none)) := semD_ap rfl
theorem semD_5 {m : Nat} {pin : List Nat} {a0 a1 a2 a3 a4 : T} : semD 5 m pin s [a0, a1, a2, a3, a4] = endD pin [a0, a1, a2, a3, a4] (s (some a0 :: some a1 :: some a2 :: some a3 :: some a4 :: List.replicate m none)) := semD_ap rfl
theorem semD_6 {m : Nat} {pin : List Nat} {a0 a1 a2 a3 a4 a5 : T} : semD 6 m pin s [a0, a1, a2, a3, a4, a5] = endD pin [a0, a1, a2, a3, a4, a5] (s (some a0 :: some a1 :: some a2 :: some a3 :: some a4 :: some a5 :: List.replicate m none)) := semD_ap rfl
theorem semD_7 {m : Nat} {pin : List Nat} {a0 a1 a2 a3 a4 a5 a6 : T} : semD 7 m pin s [a0, a1, a2, a3, a4, a5, a6] = endD pin [a0, a1, a2, a3, a4, a5, a6] (s (some a0 :: some a1 :: some a2 :: some a3 :: some a4 :: some a5 :: some a6 :: List.replicate m none)) := semD_ap rfl
theorem semD_8 {m : Nat} {pin : List Nat} {a0 a1 a2 a3 a4 a5 a6 a7 : T} : semD 8 m pin s [a0, a1, a2, a3, a4, a5, a6, a7] = endD pin [a0, a1, a2, a3, a4, a5, a6, a7] (s (some a0 :: some a1 :: some a2 :: some a3 :: some a4 :: some a5 :: some a6 :: some a7 :: List.replicate m none)) := semD_ap rfl
theorem outs_nil {pin : List Nat} {n : Nat} : outs pin ρ [] n = [] := rfl
theorem outs_cons {pin : List Nat} {n : Nat} {t : T} {r : List T} : outs pin ρ (t :: r) n = (if n ∈ pin then slot ρ n else frO t) :: outs pin ρ r (n + 1) := rfl
theorem frO_fr : frO (.fr d) = some (.fr d) := rfl
/-! numbers -/
section
variable {a b : Int}
theorem opAdd_i : opAdd (.fr (.int a)) (.fr (.int b)) = some (.fr (.int (a + b))) := rfl
theorem opAddI_i : opAddI (.fr (.int a)) (.fr (.int b)) = some (.fr (.int (a + b))) := rfl
theorem opSub_i : opSub (.fr (.int a)) (.fr (.int b)) = some (.fr (.int (a - b))) := rfl
theorem opMod_i (h : 0 < b) : opMod (.fr (.int a)) (.fr (.int b)) = some (.fr (.int (a % b))) := by simp [opMod, opInt, h]
theorem opFdiv_i (h : 0 < b) (h2 : b < 1073741824) : opFdiv (.fr (.int a)) (.fr (.int b)) = some (.fr (.int (a / b))) := by simp [opFdiv, opInt, h, h2]
theorem opMul_r (h : -18446744073709551616 < b) (h2 : b < 18446744073709551616) : opMul (.fr (.int a)) (.fr (.int b)) = some (.fr (.int (a * b))) := by simp [opMul, h, h2]
theorem opMul_l (h : -18446744073709551616 < a) (h2 : a < 18446744073709551616) : opMul (.fr (.int a)) (.fr (.int b)) = some (.fr (.int (a * b))) := by simp [opMul, h, h2]
theorem opPow_i (h : 0 ≤ b) (h1 : b ≤ 1000000) (h2 : a.natAbs < 18446744073709551616) : opPow (.fr (.int a)) (.fr (.int b)) = some (.fr (.int (a ^ b.toNat))) := by simp [opPow, opInt, h, h1, h2]
theorem okD_int : okD (.int a) = true := rfl
theorem eqv_int : PyData.eqv (.int a) (.int b) = decide (a = b) := by
  simp only [PyData.eqv]
  by_cases h : a = b <;> simp [h]
theorem opEq_i : opEq (.fr (.int a)) (.fr (.int b)) = some (.fr (.bool (decide (a = b)))) := by
  show (if okD (.int a) = true ∧ okD (.int b) = true then (some (PyData.eqv (.int a) (.int b))).map fun k => T.fr (.bool k) else none) = _
  rw [if_pos ⟨rfl, rfl⟩, eqv_int]; rfl
theorem opNe_i : opNe (.fr (.int a)) (.fr (.int b)) = some (.fr (.bool (!decide (a = b)))) := by
  show (if okD (.int a) = true ∧ okD (.int b) = true then (some (!PyData.eqv (.int a) (.int b))).map fun k => T.fr (.bool k) else none) = _
  rw [if_pos ⟨rfl, rfl⟩, eqv_int]; rfl
theorem opLt_i : opLt (.fr (.int a)) (.fr (.int b)) = some (.fr (.bool (decide (a < b)))) := rfl
theorem opGt_i : opGt (.fr (.int a)) (.fr (.int b)) = some (.fr (.bool (decide (b < a)))) := rfl
theorem opLe_i : opLe (.fr (.int a)) (.fr (.int b)) = some (.fr (.bool (!decide (b < a)))) := rfl
theorem opGe_i : opGe (.fr (.int a)) (.fr (.int b)) = some (.fr (.bool (!decide (a < b)))) := rfl
theorem opNeg_i : opNeg (.fr (.int a)) = some (.fr (.int (-a))) := rfl
end
theorem opLen_list {ds : List D} : opLen [.fr (.list ds)] = some (.fr (.int ds.length)) := rfl
theorem opLen_tup {ds : List D} : opLen [.fr (.tuple ds)] = some (.fr (.int ds.length)) := rfl
theorem opLen_lst {ds : List T} : opLen [.lst ds] = some (.fr (.int ds.length)) := rfl
theorem atI_nat {α : Type} {xs : List α} {n : Int} (h : 0 ≤ n) (h2 : n < xs.length) : atI xs n = xs[n.toNat]? := by
  unfold atI
  have e : ixN xs.length n = some n.toNat := by
    unfold ixN
    first
      | (simp [h, h2]; done)
      | (split <;> first | rfl | omega)
      | (simp only []; split <;> omega)
  rw [e]; rfl
theorem opIx_list {ds : List D} {k : Int} : opIx (.fr (.list ds)) (.fr (.int k)) = (atI ds k).map .fr := rfl
theorem opIx_tup {ds : List D} {k : Int} : opIx (.fr (.tuple ds)) (.fr (.int k)) = (atI ds k).map .fr := rfl
theorem opIx_lst {ds : List T} {k : Int} : opIx (.lst ds) (.fr (.int k)) = atI ds k := rfl
theorem frOp_ap {a b : T} : frOp op a b = onlyFr (op a b) := rfl
theorem onlyFr_fr : onlyFr (some (.fr d)) = some (.fr d) := rfl
theorem dat_fr : T.dat (.fr d) = some d := rfl
theorem dat_lst {xs : List T} : T.dat (.lst xs) = (T.datL xs).map .list := by simp [T.dat]
theorem datL_nil : T.datL [] = some [] := by simp [T.datL]
theorem datL_fr {xs : List T} : T.datL (.fr d :: xs) = (T.datL xs).map (d :: ·) := by
  simp only [T.datL, T.dat]; cases T.datL xs <;> rfl
theorem datL_lst {xs ys : List T} : T.datL (.lst ys :: xs) = ((T.datL ys).map PyData.list).bind fun d => (T.datL xs).map (d :: ·) := by
  simp only [T.datL, T.dat]; cases T.datL ys <;> cases T.datL xs <;> rfl
theorem allFr_nil : allFr [] = some [] := rfl
theorem allFr_cons {xs : List T} : allFr (.fr d :: xs) = (allFr xs).map (d :: ·) := rfl
theorem asS_list {ds : List D} : T.asS (.fr (.list ds)) = some ds := rfl
theorem asS_tup {ds : List D} : T.asS (.fr (.tuple ds)) = some ds := rfl
theorem opList_ap {t : T} : opList [t] = (T.asS t).map fun ds => .lst (ds.map .fr) := rfl
theorem opTuple_ap {t : T} : opTuple [t] = (T.asS t).map fun ds => .fr (.tuple ds) := rfl
theorem ixN_nat {n : Nat} {k : Int} (h : 0 ≤ k) (h2 : k < n) : ixN n k = some k.toNat := by unfold ixN; rw [if_pos h, if_pos h2]
theorem atI_0 {α : Type} {x : α} {xs : List α} : atI (x :: xs) 0 = some x := by
  unfold atI; rw [ixN_nat (by omega) (by simp only [List.length_cons]; omega)]; rfl
theorem atI_1 {α : Type} {x y : α} {xs : List α} : atI (x :: y :: xs) 1 = some y := by
  unfold atI; rw [ixN_nat (by omega) (by simp only [List.length_cons]; omega)]; rfl
theorem atI_2 {α : Type} {x y z : α} {xs : List α} : atI (x :: y :: z :: xs) 2 = some z := by
  unfold atI; rw [ixN_nat (by omega) (by simp only [List.length_cons]; omega)]; rfl
theorem atI_3 {α : Type} {x y z u : α} {xs : List α} : atI (x :: y :: z :: u :: xs) 3 = some u := by
  unfold atI; rw [ixN_nat (by omega) (by simp only [List.length_cons]; omega)]; rfl
theorem atI_4 {α : Type} {x y z u v : α} {xs : List α} : atI (x :: y :: z :: u :: v :: xs) 4 = some v := by
  unfold atI; rw [ixN_nat (by omega) (by simp only [List.length_cons]; omega)]; rfl
theorem atI_map {α β : Type} {f : α → β} {xs : List α} {k : Int} : atI (xs.map f) k = (atI xs k).map f := by
  unfold atI; rw [List.length_map]; cases ixN xs.length k with
  | none => rfl
  | some j => simp
theorem atI_get {α : Type} [Inhabited α] {xs : List α} {k : Int} (h : 0 ≤ k) (h2 : k < xs.length) : atI xs k = some (xs[k.toNat]?.getD default) := by
  unfold atI; rw [ixN_nat h h2]
  simp only [Option.bind_some]
  have : k.toNat < xs.length := by omega
  rw [List.getElem?_eq_getElem this]; rfl
theorem atI_int {xs : List Int} {k : Int} (h : 0 ≤ k) (h2 : k < xs.length) : atI xs k = some (xs[k.toNat]?.getD 0) := by
  unfold atI; rw [ixN_nat h h2]
  simp only [Option.bind_some]
  have : k.toNat < xs.length := by omega
  rw [List.getElem?_eq_getElem this]; rfl
theorem pV_ap {i : Nat} : pV i ρ = (slot ρ i).map fun _ => (i, []) := rfl
theorem getAt_ap {i : Nat} {p : List Sg} : getAt ρ i p = (slot ρ i).bind (getP p) := rfl
theorem getP_nil {t : T} : getP [] t = some t := by cases t <;> rfl
theorem getP_ix {j : Nat} {p : List Sg} {ts : List T} : getP (.ix j :: p) (.lst ts) = (ts[j]?).bind (getP p) := rfl
theorem setAt_ap {i : Nat} {p : List Sg} {u : T} : setAt ρ i p u = (slot ρ i).bind fun t0 => (setP u p t0).map fun t2 => ρ.set i (some t2) := rfl
theorem setP_nil {u t : T} : setP u [] t = some u := by cases t <;> rfl
theorem setP_ix {u : T} {j : Nat} {p : List Sg} {ts : List T} : setP u (.ix j :: p) (.lst ts) = (ts[j]?).bind fun t => (setP u p t).map fun t' => .lst (ts.set j t') := rfl
def pix (q : Nat × List Sg) : Option T → Option T → Option (Nat × List Sg)
  | some (.lst ts), some (.fr (.int k)) => (ixN ts.length k).map fun j => (q.1, q.2 ++ [.ix j])
  | _, _ => none
theorem pix_ok {q : Nat × List Sg} {ts : List T} {k : Int} : pix q (some (.lst ts)) (some (.fr (.int k))) = (ixN ts.length k).map fun j => (q.1, q.2 ++ [.ix j]) := rfl
theorem pIx_ap {lp : Rho → Option (Nat × List Sg)} : pIx lp f ρ = (lp ρ).bind fun q => pix q (getAt ρ q.1 q.2) (f ρ) := rfl
def six (t : T) (ρ1 : Rho) (q : Nat × List Sg) : Option T → Option T → Option Out
  | some (.lst ts), some (.fr (.int k)) => (ixN ts.length k).bind fun j => (setAt ρ1 q.1 q.2 (.lst (ts.set j t))).map .nx
  | _, _ => none
theorem six_ok {t : T} {q : Nat × List Sg} {ts : List T} {k : Int} : six t ρ q (some (.lst ts)) (some (.fr (.int k))) = (ixN ts.length k).bind fun j => (setAt ρ q.1 q.2 (.lst (ts.set j t))).map .nx := rfl
theorem sSetIx_ap {lp : Rho → Option (Nat × List Sg)} : sSetIx lp f F ρ = ofR (F ρ) fun t ρ1 => (lp ρ1).bind fun q => six t ρ1 q (getAt ρ1 q.1 q.2) (f ρ1) := rfl
def pp0 (q : Nat × List Sg) (ρ : Rho) : Option T → Option (Rs T)
  | some (.lst ts) => (ts[ts.length - 1]?).bind fun t => (setAt ρ q.1 q.2 (.lst ts.dropLast)).map fun ρ2 => .ok t ρ2
  | _ => none
theorem pp0_ok {q : Nat × List Sg} {ts : List T} : pp0 q ρ (some (.lst ts)) = (ts[ts.length - 1]?).bind fun t => (setAt ρ q.1 q.2 (.lst ts.dropLast)).map fun ρ2 => .ok t ρ2 := rfl
theorem ePop_ap {lp : Rho → Option (Nat × List Sg)} : ePop lp ρ = (lp ρ).bind fun q => pp0 q ρ (getAt ρ q.1 q.2) := rfl
def par2 (i j : Nat) (ρ1 : Rho) : List Ar → Option Out
  | [.own (.fr d1), .own (.fr d2)] => if i < ρ1.length ∧ j < ρ1.length then some (.nx ((ρ1.set i (some (.fr d1))).set j (some (.fr d2)))) else none
  | _ => none
theorem par2_ok {i j : Nat} {d1 d2 : D} : par2 i j ρ [.own (.fr d1), .own (.fr d2)] = if i < ρ.length ∧ j < ρ.length then some (.nx ((ρ.set i (some (.fr d1))).set j (some (.fr d2)))) else none := rfl
theorem sPar_ap {i j : Nat} {L : Rho → Option (Rs (List Ar))} : sPar i j L ρ = ofR (L ρ) fun as ρ1 => par2 i j ρ1 as := rfl
def aug1 (i : Nat) (op : T → T → Option T) (r : Option (Rs T)) : Option T → Option Out
  | some (.fr d) => ofR r fun t ρ1 => (op (.fr d) t).bind fun u => if i < ρ1.length then some (.nx (ρ1.set i (some u))) else none
  | _ => none
theorem aug1_ok {r : Option (Rs T)} : aug1 i op r (some (.fr d)) = ofR r fun t ρ1 => (op (.fr d) t).bind fun u => if i < ρ1.length then some (.nx (ρ1.set i (some u))) else none := rfl
theorem sAug_ap : sAug i op F ρ = aug1 i op (F ρ) (slot ρ i) := by
  unfold sAug slot
  rcases ρ[i]? with _ | _ | t
  · rfl
  · rfl
  · cases t <;> rfl
theorem opIsN_ap {n : Bool} {t : T} : opIsN n t (.fr .none) = some (.fr (.bool (isNoT t ^^ n))) := by cases t <;> rfl
theorem isNoT_none : isNoT (.fr .none) = true := rfl
theorem isNoT_int {a : Int} : isNoT (.fr (.int a)) = false := rfl
theorem isNoT_list {a : List D} : isNoT (.fr (.list a)) = false := rfl
theorem isNoT_tup {a : List D} : isNoT (.fr (.tuple a)) = false := rfl
theorem isNoT_lst {a : List T} : isNoT (.lst a) = false := rfl
theorem typT_fr : typT (.fr d) = some (typD d) := rfl
theorem typT_lst {xs : List T} : typT (.lst xs) = some "list" := rfl
theorem typD_none : typD .none = "NoneType" := rfl
theorem typD_bool {b : Bool} : typD (.bool b) = "bool" := rfl
theorem typD_int {a : Int} : typD (.int a) = "int" := rfl
theorem typD_str {a : Str} : typD (.str a) = "str" := rfl
theorem typD_list {a : List D} : typD (.list a) = "list" := rfl
theorem typD_tuple {a : List D} : typD (.tuple a) = "tuple" := rfl
theorem isa_NoneType_bool : isaB "NoneType" "bool" = false := by decide
theorem isa_NoneType_int : isaB "NoneType" "int" = false := by decide
theorem isa_NoneType_str : isaB "NoneType" "str" = false := by decide
theorem isa_NoneType_list : isaB "NoneType" "list" = false := by decide
theorem isa_NoneType_tuple : isaB "NoneType" "tuple" = false := by decide
theorem isa_NoneType_dict : isaB "NoneType" "dict" = false := by decide
theorem isa_bool_bool : isaB "bool" "bool" = true := by decide
theorem isa_bool_int : isaB "bool" "int" = true := by decide
theorem isa_bool_str : isaB "bool" "str" = false := by decide
theorem isa_bool_list : isaB "bool" "list" = false := by decide
theorem isa_bool_tuple : isaB "bool" "tuple" = false := by decide
theorem isa_bool_dict : isaB "bool" "dict" = false := by decide
theorem isa_int_bool : isaB "int" "bool" = false := by decide
theorem isa_int_int : isaB "int" "int" = true := by decide
theorem isa_int_str : isaB "int" "str" = false := by decide
theorem isa_int_list : isaB "int" "list" = false := by decide
theorem isa_int_tuple : isaB "int" "tuple" = false := by decide
theorem isa_int_dict : isaB "int" "dict" = false := by decide
theorem isa_str_bool : isaB "str" "bool" = false := by decide
theorem isa_str_int : isaB "str" "int" = false := by decide
theorem isa_str_str : isaB "str" "str" = true := by decide
theorem isa_str_list : isaB "str" "list" = false := by decide
theorem isa_str_tuple : isaB "str" "tuple" = false := by decide
theorem isa_str_dict : isaB "str" "dict" = false := by decide
theorem isa_list_bool : isaB "list" "bool" = false := by decide
theorem isa_list_int : isaB "list" "int" = false := by decide
theorem isa_list_str : isaB "list" "str" = false := by decide
theorem isa_list_list : isaB "list" "list" = true := by decide
theorem isa_list_tuple : isaB "list" "tuple" = false := by decide
theorem isa_list_dict : isaB "list" "dict" = false := by decide
theorem isa_tuple_bool : isaB "tuple" "bool" = false := by decide
theorem isa_tuple_int : isaB "tuple" "int" = false := by decide
theorem isa_tuple_str : isaB "tuple" "str" = false := by decide
theorem isa_tuple_list : isaB "tuple" "list" = false := by decide
theorem isa_tuple_tuple : isaB "tuple" "tuple" = true := by decide
theorem isa_tuple_dict : isaB "tuple" "dict" = false := by decide
theorem isa_dict_bool : isaB "dict" "bool" = false := by decide
theorem isa_dict_int : isaB "dict" "int" = false := by decide
theorem isa_dict_str : isaB "dict" "str" = false := by decide
theorem isa_dict_list : isaB "dict" "list" = false := by decide
theorem isa_dict_tuple : isaB "dict" "tuple" = false := by decide
theorem isa_dict_dict : isaB "dict" "dict" = true := by decide
/-! loops -/
/-- a loop with an invariant -/
theorem loopF_inv {g : D → Rho → Option Rho} {fb : Rho → Option Out} (I : List D → Rho → Prop) : ∀ {ds : List D} {ρ : Rho}, I ds ρ → (∀ d r ρ, d ∈ ds → I (d :: r) ρ → ∃ ρ1 ρ2, g d ρ = some ρ1 ∧ fb ρ1 = some (.nx ρ2) ∧ I r ρ2) → ∃ ρ', loopF g fb sNil ds ρ = some (.nx ρ') ∧ I [] ρ'
  | [], ρ, h, _ => ⟨ρ, rfl, h⟩
  | d :: ds, ρ, h, st => by
    obtain ⟨ρ1, ρ2, e1, e2, h2⟩ := st d ds ρ (by simp) h
    obtain ⟨ρ', e3, h3⟩ := loopF_inv I h2 fun d' r ρ hd => st d' r ρ (by simp [hd])
    exact ⟨ρ', by simp only [loopF, e1, e2, e3], h3⟩
theorem for_inv {fi : Rho → Option (Rs (List D))} {g : D → Rho → Option Rho} {fb : Rho → Option Out} {ρ1 : Rho} {ds : List D} (e : fi ρ = some (.ok ds ρ1)) (I : List D → Rho → Prop) (h : I ds ρ1) (st : ∀ d r ρ, d ∈ ds → I (d :: r) ρ → ∃ ρ2, (g d ρ).bind fb = some (.nx ρ2) ∧ I r ρ2) :
    ∃ ρ', sFor fi g fb ρ = some (.nx ρ') ∧ I [] ρ' := by
  rw [sFor_ap, e, ofR_ok]
  refine loopF_inv I h fun d r ρ hd hi => ?_
  obtain ⟨ρ2, e2, h2⟩ := st d r ρ hd hi
  obtain ⟨ρ1, q1, q2⟩ := Option.bind_eq_some_iff.mp e2
  exact ⟨ρ1, ρ2, q1, q2, h2⟩
theorem rngD_cons {lo : Int} {n : Nat} : rngD lo (n + 1) = .int lo :: rngD (lo + 1) n := by
  unfold rngD
  rw [List.range_succ_eq_map]
  simp only [List.map_cons, List.map_map, List.cons.injEq]
  refine ⟨by simp, List.map_congr_left fun i _ => ?_⟩
  simp only [Function.comp]
  congr 1
  omega
theorem rngD_zero {lo : Int} : rngD lo 0 = [] := rfl
theorem rngD_len {lo : Int} {n : Nat} : (rngD lo n).length = n := by simp [rngD]
theorem rngD_mem {lo : Int} {n : Nat} {d : D} (h : d ∈ rngD lo n) : ∃ k : Nat, k < n ∧ d = .int (lo + k) := by
  unfold rngD at h
  obtain ⟨k, h1, rfl⟩ := List.mem_map.mp h
  exact ⟨k, List.mem_range.mp h1, rfl⟩
theorem loop_rng {g : D → Rho → Option Rho} {fb : Rho → Option Out} (I : Nat → Rho → Prop) : ∀ {m n : Nat} {ρ : Rho}, I m ρ → (∀ k ρ, m ≤ k → k < m + n → I k ρ → ∃ ρ2, (g (.int k) ρ).bind fb = some (.nx ρ2) ∧ I (k + 1) ρ2) → ∃ ρ', loopF g fb sNil (rngD m n) ρ = some (.nx ρ') ∧ I (m + n) ρ'
  | m, 0, ρ, h, _ => ⟨ρ, by rw [rngD_zero]; rfl, h⟩
  | m, n + 1, ρ, h, st => by
    obtain ⟨ρ2, e2, h2⟩ := st m ρ (Nat.le_refl m) (by omega) h
    obtain ⟨ρ1, q1, q2⟩ := Option.bind_eq_some_iff.mp e2
    obtain ⟨ρ', e3, h3⟩ := loop_rng (m := m + 1) (n := n) I h2 fun k ρ h1 h2 => st k ρ (by omega) (by omega)
    refine ⟨ρ', ?_, by rw [show m + (n + 1) = m + 1 + n by omega]; exact h3⟩
    rw [rngD_cons]
    simp only [loopF, q1, q2]
    exact e3
/-- for k in range(n), with what holds ahead of each turn -/
theorem for_rng {fi : Rho → Option (Rs (List D))} {g : D → Rho → Option Rho} {fb : Rho → Option Out} {ρ1 : Rho} {n : Nat} (e : fi ρ = some (.ok (rngD 0 n) ρ1)) (I : Nat → Rho → Prop) (h : I 0 ρ1) (st : ∀ k ρ, k < n → I k ρ → ∃ ρ2, (g (.int k) ρ).bind fb = some (.nx ρ2) ∧ I (k + 1) ρ2) :
    ∃ ρ', sFor fi g fb ρ = some (.nx ρ') ∧ I n ρ' := by
  rw [sFor_ap, e, ofR_ok]
  have := loop_rng (g := g) (fb := fb) (m := 0) (n := n) I h fun k ρ _ h2 => st k ρ (by omega)
  simpa using this
theorem loopF_cons {g : D → Rho → Option Rho} {fb fe : Rho → Option Out} {ds : List D} {ρ1 ρ2 : Rho} (e1 : g d ρ = some ρ1) (e2 : fb ρ1 = some (.nx ρ2)) : loopF g fb fe (d :: ds) ρ = loopF g fb fe ds ρ2 := by simp only [loopF, e1, e2]
theorem loopF_nil {g : D → Rho → Option Rho} {fb fe : Rho → Option Out} : loopF g fb fe [] ρ = fe ρ := rfl
/-- a block: what is kept, and of it -/
theorem cLoop_map {own : List Nat} {g : D → Rho → Option Rho} {fc : Rho → Option (Rs Bool)} {fe : Rho → Option (Rs T)} {p : D → Bool} {v : D → T} {σ : Rho} : ∀ {ds : List D}, (∀ d ∈ ds, ∃ ρ1 ρ2, g d σ = some ρ1 ∧ fc ρ1 = some (.ok (p d) ρ2) ∧ (p d = true → ∃ ρ3, fe ρ2 = some (.ok (v d) ρ3) ∧ wipeR ρ3 own = σ) ∧ (p d = false → wipeR ρ2 own = σ)) →
    cLoop own g fc fe ds σ = some ((ds.filter p).map v, σ)
  | [], _ => rfl
  | d :: ds, h => by
    obtain ⟨ρ1, ρ2, e1, e2, h1, h2⟩ := h d (by simp)
    have ih := cLoop_map (own := own) (g := g) (fc := fc) (fe := fe) (p := p) (v := v) (σ := σ) (ds := ds) fun d' hd => h d' (by simp [hd])
    cases q : p d with
    | true =>
      obtain ⟨ρ3, e3, e4⟩ := h1 q
      rw [q] at e2
      simp only [cLoop, e1, e2, e3, e4, ih, List.filter_cons, q, if_true, List.map_cons]
    | false =>
      have e4 := h2 q
      rw [q] at e2
      simp only [cLoop, e1, e2, e4, ih, List.filter_cons, q, Bool.false_eq_true, if_false]
/-- a block that changes what stands: what is kept is part of what was walked -/
theorem cLoop_sub {own : List Nat} {g : D → Rho → Option Rho} {fc : Rho → Option (Rs Bool)} {fe : Rho → Option (Rs T)} {v : D → T} (I : Rho → Prop) : ∀ {ds : List D} {ρ : Rho}, I ρ →
    (∀ d ∈ ds, ∀ ρ, I ρ → ∃ b ρ2, (g d ρ).bind fc = some (.ok b ρ2) ∧ (b = true → ∃ ρ3, fe ρ2 = some (.ok (v d) ρ3) ∧ I (wipeR ρ3 own)) ∧ (b = false → I (wipeR ρ2 own))) →
    ∃ (es : List D) (ρ' : Rho), es.Sublist ds ∧ cLoop own g fc fe ds ρ = some (es.map v, ρ') ∧ I ρ'
  | [], ρ, h, _ => ⟨[], ρ, .slnil, rfl, h⟩
  | d :: ds, ρ, h, st => by
    obtain ⟨b, ρ2, e, h1, h2⟩ := st d (by simp) ρ h
    obtain ⟨ρ1, q1, q2⟩ := Option.bind_eq_some_iff.mp e
    cases b with
    | true =>
      obtain ⟨ρ3, e3, i3⟩ := h1 rfl
      obtain ⟨es, ρ', s, e4, i4⟩ := cLoop_sub (ds := ds) I i3 fun d' hd => st d' (by simp [hd])
      exact ⟨d :: es, ρ', s.cons₂ d, by simp only [cLoop, q1, q2, e3, e4, List.map_cons], i4⟩
    | false =>
      obtain ⟨es, ρ', s, e4, i4⟩ := cLoop_sub (ds := ds) I (h2 rfl) fun d' hd => st d' (by simp [hd])
      exact ⟨es, ρ', s.cons d, by simp only [cLoop, q1, q2, e4], i4⟩
/-- the same for each that is walked -/
theorem cLoop_map1 {own : List Nat} {g : D → Rho → Option Rho} {fc : Rho → Option (Rs Bool)} {fe : Rho → Option (Rs T)} {p : D → Bool} {v : D → T} {σ : Rho} {ds : List D}
    (h : ∀ d ∈ ds, ∃ ρ2, (g d σ).bind fc = some (.ok (p d) ρ2) ∧ (p d = true → ∃ ρ3, fe ρ2 = some (.ok (v d) ρ3) ∧ wipeR ρ3 own = σ) ∧ (p d = false → wipeR ρ2 own = σ)) : cLoop own g fc fe ds σ = some ((ds.filter p).map v, σ) :=
  cLoop_map fun d hd => by
    obtain ⟨ρ2, e, h1, h2⟩ := h d hd
    obtain ⟨ρ1, q1, q2⟩ := Option.bind_eq_some_iff.mp e
    exact ⟨ρ1, ρ2, q1, q2, h1, h2⟩
/-! data that can be compared -/
def okN (n : Nat) (d : D) : Prop := d.plain = true ∧ d.depth ≤ n
theorem okN_le {n m : Nat} {d : D} (h : okN n d) (l : n ≤ m) : okN m d := ⟨h.1, Nat.le_trans h.2 l⟩
theorem okN_okD {n : Nat} {d : D} (h : okN n d) (l : n ≤ 60) : okD d = true := by
  unfold okD; rw [h.1, decide_eq_true (Nat.le_trans h.2 l)]; rfl
theorem okN_int {a : Int} : okN 1 (.int a) := ⟨rfl, by simp [PyData.depth]⟩
theorem okN_str {a : Str} : okN 1 (.str a) := ⟨rfl, by simp [PyData.depth]⟩
theorem okN_bool {a : Bool} : okN 1 (.bool a) := ⟨rfl, by simp [PyData.depth]⟩
theorem okN_none : okN 1 .none := ⟨rfl, by simp [PyData.depth]⟩
theorem okN_all {n : Nat} : ∀ {ds : List D}, (∀ d ∈ ds, okN n d) → PyData.plainAll ds = true ∧ PyData.depthAll ds ≤ n
  | [], _ => ⟨rfl, by simp [PyData.depthAll]⟩
  | d :: ds, h => by
    obtain ⟨h1, h2⟩ := h d (by simp)
    obtain ⟨h3, h4⟩ := okN_all (ds := ds) fun d' hd => h d' (by simp [hd])
    exact ⟨by simp [PyData.plainAll, h1, h3], by simp [PyData.depthAll]; omega⟩
theorem okN_list {n : Nat} {ds : List D} (h : ∀ d ∈ ds, okN n d) : okN (n + 1) (.list ds) := by
  obtain ⟨h1, h2⟩ := okN_all h
  exact ⟨by simpa [PyData.plain] using h1, by simp [PyData.depth]; omega⟩
theorem okN_tuple {n : Nat} {ds : List D} (h : ∀ d ∈ ds, okN n d) : okN (n + 1) (.tuple ds) := by
  obtain ⟨h1, h2⟩ := okN_all h
  exact ⟨by simpa [PyData.plain] using h1, by simp [PyData.depth]; omega⟩
theorem okD_ints {ks : List Int} : okD (.list (ks.map .int)) = true := okN_okD (n := 2) (okN_list fun d hd => by obtain ⟨k, _, rfl⟩ := List.mem_map.mp hd; exact okN_int) (by omega)
theorem any_ints {a : Int} : ∀ {ks : List Int}, ((ks.map PyData.int).any fun z => PyData.eqv z (.int a)) = decide (a ∈ ks)
  | [] => rfl
  | k :: ks => by
    rw [List.map_cons, List.any_cons, any_ints, eqv_int]
    by_cases h : k = a <;> by_cases h2 : a ∈ ks <;> simp [h, h2, eq_comm]
    exact fun e => h e.symm
theorem opIn_ints {n : Bool} {a : Int} {ks : List Int} : opInS n (.fr (.int a)) (.fr (.list (ks.map .int))) = some (.fr (.bool (decide (a ∈ ks) ^^ n))) := by
  show (if okD (.int a) = true ∧ okD (.list (ks.map .int)) = true then (some (((ks.map PyData.int).any fun z => PyData.eqv z (.int a)) ^^ n)).map fun k => T.fr (.bool k) else none) = _
  rw [if_pos ⟨rfl, okD_ints⟩, any_ints]; rfl
theorem opEq_fr {x y : D} (h1 : okD x = true) (h2 : okD y = true) : opEq (.fr x) (.fr y) = some (.fr (.bool (PyData.eqv x y))) := by
  show (if okD x = true ∧ okD y = true then (some (PyData.eqv x y)).map fun k => T.fr (.bool k) else none) = _
  rw [if_pos ⟨h1, h2⟩]; rfl
theorem opEq_emp : opEq (.lst []) (.lst []) = some (.fr (.bool true)) := rfl
theorem opEq_fe : opEq (.fr (.list [])) (.lst []) = some (.fr (.bool true)) := rfl
theorem opEq_fn {d : D} {ds : List D} (h : okD (.list (d :: ds)) = true) : opEq (.fr (.list (d :: ds))) (.lst []) = some (.fr (.bool false)) := by
  show (if okD (.list (d :: ds)) = true ∧ okD (.list []) = true then (some (PyData.eqv (.list (d :: ds)) (.list []))).map fun k => T.fr (.bool k) else none) = _
  rw [if_pos ⟨h, rfl⟩]; rfl
theorem fr_ints (ks : List Int) : (ks.map fun k => T.fr (.int k)) = (ks.map PyData.int).map T.fr := by simp
theorem datL_fr_map {α : Type} (f : α → D) (xs : List α) : T.datL (xs.map fun x => T.fr (f x)) = some (xs.map f) := by
  have : (xs.map fun x => T.fr (f x)) = (xs.map f).map T.fr := by simp
  rw [this, datL_map]
end
end Lv

set_option maxHeartbeats 2000000
namespace Lv
open PySem PySem.Spec PyProof.Rows L2
section
variable {ρ : Rho} {s : Rho → Option Out} {c : Str} {m : ExT}
/-! try -/
def tryR (m : ExT) (hs : List (Str × (Rho → Option Out))) : Option Out → Option Out
  | some (.ex c ρ1) => handle m hs c ρ1
  | o => o
theorem sTry_ap {hs : List (Str × (Rho → Option Out))} : sTry m s hs ρ = tryR m hs (s ρ) := rfl
theorem tryR_nx {hs : List (Str × (Rho → Option Out))} : tryR m hs (some (.nx ρ)) = some (.nx ρ) := rfl
theorem tryR_rt {hs : List (Str × (Rho → Option Out))} {t : T} : tryR m hs (some (.rt t ρ)) = some (.rt t ρ) := rfl
theorem tryR_ex {hs : List (Str × (Rho → Option Out))} : tryR m hs (some (.ex c ρ)) = handle m hs c ρ := rfl
def hdl (b : Option Bool) (f : Rho → Option Out) (k : Option Out) (ρ : Rho) : Option Out := match b with
  | some true => f ρ
  | some false => k
  | none => none
theorem hdl_t {f : Rho → Option Out} {k : Option Out} : hdl (some true) f k ρ = f ρ := rfl
theorem hdl_f {f : Rho → Option Out} {k : Option Out} : hdl (some false) f k ρ = k := rfl
theorem handle_nil : handle m [] c ρ = some (.ex c ρ) := rfl
theorem handle_ap {x : Str} {f : Rho → Option Out} {r : List (Str × (Rho → Option Out))} : handle m ((x, f) :: r) c ρ = hdl (exLook m c x) f (handle m r c ρ) ρ := by
  simp only [handle]; unfold hdl; rfl
/-! lists of ints -/
theorem asL_list {ds : List D} : T.asL (.fr (.list ds)) = some ds := rfl
theorem asL_map {ds : List D} : T.asL (.lst (ds.map .fr)) = some ds := allFr_map ds
theorem opSum_fr {ks : List Int} : opSum [.fr (.list (ks.map .int))] = some (.fr (.int ks.sum)) := by
  show ((T.asL (.fr (.list (ks.map .int)))).bind fun ds => (intsD ds).map fun ns => T.fr (.int ns.sum)) = _
  rw [asL_list, Option.bind_some, intsD_map]; rfl
theorem opSum_lst {ks : List Int} : opSum [.lst ((ks.map .int).map .fr)] = some (.fr (.int ks.sum)) := by
  show ((T.asL (.lst ((ks.map .int).map .fr))).bind fun ds => (intsD ds).map fun ns => T.fr (.int ns.sum)) = _
  rw [asL_map, Option.bind_some, intsD_map]; rfl
theorem canLt_ints {ks : List Int} : (((ks.map PyData.int).all fun a => (ks.map PyData.int).all fun b => canLt a b) && (ks.map PyData.int).all okD) = true := by
  simp only [Bool.and_eq_true, List.all_eq_true]
  refine ⟨fun a ha b hb => ?_, fun a ha => ?_⟩
  · obtain ⟨x, _, rfl⟩ := List.mem_map.mp ha
    obtain ⟨y, _, rfl⟩ := List.mem_map.mp hb
    rfl
  · obtain ⟨x, _, rfl⟩ := List.mem_map.mp ha
    rfl
theorem fold_min {k : Int} : ∀ {ks : List Int}, (ks.map PyData.int).foldl (fun a y => if ltD y a then y else a) (.int k) = .int (ks.foldl (fun a y => if y < a then y else a) k)
  | [] => rfl
  | x :: ks => by
    simp only [List.map_cons, List.foldl_cons]
    rw [show ltD (.int x) (.int k) = decide (x < k) from rfl]
    by_cases h : x < k
    · simp only [h, decide_true, if_true]; exact fold_min
    · simp only [h, decide_false, if_false, Bool.false_eq_true]; exact fold_min
theorem fold_max {k : Int} : ∀ {ks : List Int}, (ks.map PyData.int).foldl (fun a y => if ltD a y then y else a) (.int k) = .int (ks.foldl (fun a y => if a < y then y else a) k)
  | [] => rfl
  | x :: ks => by
    simp only [List.map_cons, List.foldl_cons]
    rw [show ltD (.int k) (.int x) = decide (k < x) from rfl]
    by_cases h : k < x
    · simp only [h, decide_true, if_true]; exact fold_max
    · simp only [h, decide_false, if_false, Bool.false_eq_true]; exact fold_max
def minI (k : Int) (ks : List Int) : Int := ks.foldl (fun a y => if y < a then y else a) k
def maxI (k : Int) (ks : List Int) : Int := ks.foldl (fun a y => if a < y then y else a) k
theorem opMin_as {t : T} {k : Int} {ks : List Int} (h : T.asL t = some ((k :: ks).map .int)) : opMin [t] = some (.fr (.int (minI k ks))) := by
  show opMin1 t = _
  unfold opMin1
  rw [h, Option.bind_some, if_pos canLt_ints]
  show some (T.fr ((ks.map PyData.int).foldl (fun a y => if ltD y a then y else a) (.int k))) = _
  rw [fold_min]; rfl
theorem opMax_as {t : T} {k : Int} {ks : List Int} (h : T.asL t = some ((k :: ks).map .int)) : opMax [t] = some (.fr (.int (maxI k ks))) := by
  show opMax1 t = _
  unfold opMax1
  rw [h, Option.bind_some, if_pos canLt_ints]
  show some (T.fr ((ks.map PyData.int).foldl (fun a y => if ltD a y then y else a) (.int k))) = _
  rw [fold_max]; rfl
theorem opMin_2 {a b : Int} : opMin [.fr (.int a), .fr (.int b)] = some (.fr (.int (if b < a then b else a))) := rfl
theorem opMax_2 {a b : Int} : opMax [.fr (.int a), .fr (.int b)] = some (.fr (.int (if b > a then b else a))) := rfl
theorem minI_le : ∀ {ks : List Int} {k : Int}, minI k ks ≤ k ∧ ∀ x ∈ ks, minI k ks ≤ x
  | [], k => ⟨Int.le_refl _, fun x h => by simp at h⟩
  | y :: ks, k => by
    have e : minI k (y :: ks) = minI (if y < k then y else k) ks := rfl
    obtain ⟨h1, h2⟩ := minI_le (ks := ks) (k := if y < k then y else k)
    rw [e]
    have hm : (if y < k then y else k) ≤ y ∧ (if y < k then y else k) ≤ k := by split <;> omega
    refine ⟨by omega, fun x hx => ?_⟩
    rcases List.mem_cons.mp hx with z | z
    · subst z; omega
    · exact h2 x z
theorem minI_mem : ∀ {ks : List Int} {k : Int}, minI k ks = k ∨ minI k ks ∈ ks
  | [], k => .inl rfl
  | y :: ks, k => by
    have e : minI k (y :: ks) = minI (if y < k then y else k) ks := rfl
    rw [e]
    rcases minI_mem (ks := ks) (k := if y < k then y else k) with h | h
    · rw [h]; split
      · right; simp
      · left; rfl
    · right; simp [h]
theorem maxI_ge : ∀ {ks : List Int} {k : Int}, k ≤ maxI k ks ∧ ∀ x ∈ ks, x ≤ maxI k ks
  | [], k => ⟨Int.le_refl _, fun x h => by simp at h⟩
  | y :: ks, k => by
    have e : maxI k (y :: ks) = maxI (if k < y then y else k) ks := rfl
    obtain ⟨h1, h2⟩ := maxI_ge (ks := ks) (k := if k < y then y else k)
    rw [e]
    have hm : y ≤ (if k < y then y else k) ∧ k ≤ (if k < y then y else k) := by split <;> omega
    refine ⟨by omega, fun x hx => ?_⟩
    rcases List.mem_cons.mp hx with z | z
    · subst z; omega
    · exact h2 x z
theorem maxI_mem : ∀ {ks : List Int} {k : Int}, maxI k ks = k ∨ maxI k ks ∈ ks
  | [], k => .inl rfl
  | y :: ks, k => by
    have e : maxI k (y :: ks) = maxI (if k < y then y else k) ks := rfl
    rw [e]
    rcases maxI_mem (ks := ks) (k := if k < y then y else k) with h | h
    · rw [h]; split
      · right; simp
      · left; rfl
    · right; simp [h]
/-! slices -/
theorem opSl_list {lo hi : Option Int} {ds : List D} : opSl lo hi (.fr (.list ds)) = some (.lst ((cutL ds lo hi).map .fr)) := rfl
theorem opSl_map {lo hi : Option Int} {ds : List D} : opSl lo hi (.lst (ds.map .fr)) = some (.lst ((cutL ds lo hi).map .fr)) := by
  unfold opSl; simp only [asL_map, Option.map_some]
theorem opSl_tup {lo hi : Option Int} {ds : List D} : opSl lo hi (.fr (.tuple ds)) = some (.fr (.tuple (cutL ds lo hi))) := rfl
theorem cutL_take {α : Type} {xs : List α} {k : Int} (h : 0 ≤ k) : cutL xs none (some k) = xs.take k.toNat := by
  unfold cutL HT.sIx
  simp only [List.drop_zero, Nat.sub_zero]
  rw [if_neg (by omega)]
  by_cases q : k.toNat ≤ xs.length
  · rw [Nat.min_eq_left q]
  · rw [Nat.min_eq_right (by omega), List.take_of_length_le (Nat.le_refl _), List.take_of_length_le (by omega)]
theorem cutL_drop {α : Type} {xs : List α} {k : Int} (h : 0 ≤ k) : cutL xs (some k) none = xs.drop k.toNat := by
  unfold cutL HT.sIx
  simp only
  rw [if_neg (by omega)]
  by_cases q : k.toNat ≤ xs.length
  · rw [Nat.min_eq_left q, List.take_of_length_le (by simp)]
  · rw [Nat.min_eq_right (by omega), List.drop_of_length_le (Nat.le_refl _), List.drop_of_length_le (show xs.length ≤ k.toNat by omega)]; simp
theorem cutL_last {α : Type} {xs : List α} : cutL xs none (some (-1)) = xs.dropLast := by
  unfold cutL HT.sIx
  simp only [List.drop_zero, Nat.sub_zero]
  rw [if_pos (by omega), List.dropLast_eq_take]
  congr 1
  omega
theorem cutL_map {α β : Type} {f : α → β} {xs : List α} {lo hi : Option Int} : cutL (xs.map f) lo hi = (cutL xs lo hi).map f := by
  unfold cutL; simp
theorem atI_m1 {α : Type} {xs : List α} (h : xs ≠ []) : atI xs (-1) = xs.getLast? := by
  unfold atI ixN
  have : 0 < xs.length := List.length_pos_iff.mpr h
  rw [if_neg (by omega), if_pos (by omega), List.getLast?_eq_getElem?]
  simp only [Option.bind_some]
  congr 1
  omega
theorem atI_neg {α : Type} {xs : List α} {k : Int} (h : k < 0) (h2 : -(xs.length : Int) ≤ k) : atI xs k = xs[(k + xs.length).toNat]? := by
  unfold atI ixN
  rw [if_neg (by omega), if_pos (by omega)]; rfl
end
/-! loops that may return -/
section
variable {g : D → Rho → Option Rho} {fb : Rho → Option Out}
theorem loop_rngR (I : Nat → Rho → Prop) (R : Nat → T → Rho → Prop) : ∀ {m n : Nat} {ρ : Rho}, I m ρ →
    (∀ k ρ, m ≤ k → k < m + n → I k ρ → (∃ ρ2, (g (.int k) ρ).bind fb = some (.nx ρ2) ∧ I (k + 1) ρ2) ∨ ∃ t ρ2, (g (.int k) ρ).bind fb = some (.rt t ρ2) ∧ R k t ρ2) →
    (∃ ρ', loopF g fb sNil (rngD m n) ρ = some (.nx ρ') ∧ I (m + n) ρ') ∨ ∃ k t ρ', k < m + n ∧ loopF g fb sNil (rngD m n) ρ = some (.rt t ρ') ∧ R k t ρ'
  | m, 0, ρ, h, _ => .inl ⟨ρ, by rw [rngD_zero]; rfl, h⟩
  | m, n + 1, ρ, h, st => by
    rw [rngD_cons]
    rcases st m ρ (Nat.le_refl m) (by omega) h with ⟨ρ2, e2, h2⟩ | ⟨t, ρ2, e2, h2⟩
    · obtain ⟨ρ1, q1, q2⟩ := Option.bind_eq_some_iff.mp e2
      have ih := loop_rngR (m := m + 1) (n := n) I R h2 fun k ρ h1 h2 => st k ρ (by omega) (by omega)
      have ea : m + 1 + n = m + (n + 1) := by omega
      rw [ea] at ih
      rcases ih with ⟨ρ', e3, h3⟩ | ⟨k, t, ρ', hk, e3, h3⟩
      · exact .inl ⟨ρ', by simp only [loopF, q1, q2]; exact e3, h3⟩
      · exact .inr ⟨k, t, ρ', hk, by simp only [loopF, q1, q2]; exact e3, h3⟩
    · obtain ⟨ρ1, q1, q2⟩ := Option.bind_eq_some_iff.mp e2
      exact .inr ⟨m, t, ρ2, by omega, by simp only [loopF, q1, q2], h2⟩
theorem for_rngR {fi : Rho → Option (Rs (List D))} {ρ ρ1 : Rho} {n : Nat} (e : fi ρ = some (.ok (rngD 0 n) ρ1)) (I : Nat → Rho → Prop) (R : Nat → T → Rho → Prop) (h : I 0 ρ1)
    (st : ∀ k ρ, k < n → I k ρ → (∃ ρ2, (g (.int k) ρ).bind fb = some (.nx ρ2) ∧ I (k + 1) ρ2) ∨ ∃ t ρ2, (g (.int k) ρ).bind fb = some (.rt t ρ2) ∧ R k t ρ2) :
    (∃ ρ', sFor fi g fb ρ = some (.nx ρ') ∧ I n ρ') ∨ ∃ k t ρ', k < n ∧ sFor fi g fb ρ = some (.rt t ρ') ∧ R k t ρ' := by
  rw [sFor_ap, e, ofR_ok]
  have := loop_rngR (g := g) (fb := fb) (m := 0) (n := n) I R h fun k ρ _ h2 => st k ρ (by omega)
  simpa using this
end
/-- a block over range(lo, lo + n) -/
theorem cLoop_rng {own : List Nat} {g : D → Rho → Option Rho} {fc : Rho → Option (Rs Bool)} {fe : Rho → Option (Rs T)} {p : Int → Bool} {v : Int → D} {σ : Rho} {lo : Int} {n : Nat}
    (h : ∀ k : Int, lo ≤ k → k < lo + n → ∃ ρ2, (g (.int k) σ).bind fc = some (.ok (p k) ρ2) ∧ (p k = true → ∃ ρ3, fe ρ2 = some (.ok (.fr (v k)) ρ3) ∧ wipeR ρ3 own = σ) ∧ (p k = false → wipeR ρ2 own = σ)) :
    cLoop own g fc fe (rngD lo n) σ = some (((((List.range n).map fun i : Nat => lo + i).filter p).map v).map .fr, σ) := by
  have e : rngD lo n = ((List.range n).map fun i : Nat => lo + i).map PyData.int := by simp [rngD]
  rw [cLoop_map1 (p := fun d => match d with | .int k => p k | _ => false) (v := fun d => match d with | .int k => .fr (v k) | _ => .fr .none) (fun d hd => by
    obtain ⟨k, hk, rfl⟩ := rngD_mem hd
    exact h (lo + k) (by omega) (by omega)), e, List.filter_map, List.map_map, List.map_map]
  rfl
/-- a block over a list of ints -/
theorem cLoop_ints {own : List Nat} {g : D → Rho → Option Rho} {fc : Rho → Option (Rs Bool)} {fe : Rho → Option (Rs T)} {p : Int → Bool} {v : Int → D} {σ : Rho} {ks : List Int}
    (h : ∀ k ∈ ks, ∃ ρ2, (g (.int k) σ).bind fc = some (.ok (p k) ρ2) ∧ (p k = true → ∃ ρ3, fe ρ2 = some (.ok (.fr (v k)) ρ3) ∧ wipeR ρ3 own = σ) ∧ (p k = false → wipeR ρ2 own = σ)) :
    cLoop own g fc fe (ks.map .int) σ = some (((ks.filter p).map v).map .fr, σ) := by
  rw [cLoop_map1 (p := fun d => match d with | .int k => p k | _ => false) (v := fun d => match d with | .int k => .fr (v k) | _ => .fr .none) (fun d hd => by
    obtain ⟨k, hk, rfl⟩ := List.mem_map.mp hd
    exact h k hk), List.filter_map, List.map_map, List.map_map]
  rfl
/-- a block without a condition whose elements change what stands -/
theorem cLoop_eff {α : Type} {own : List Nat} {g : D → Rho → Option Rho} {fe : Rho → Option (Rs T)} {v : α → T} {P : α → Prop} (I : Rho → Prop) : ∀ {ds : List D} {ρ : Rho}, I ρ →
    (∀ d ∈ ds, ∀ ρ, I ρ → ∃ a ρ3, (g d ρ).bind fe = some (.ok (v a) ρ3) ∧ P a ∧ I (wipeR ρ3 own)) →
    ∃ (as : List α) (ρ' : Rho), as.length = ds.length ∧ (∀ a ∈ as, P a) ∧ cLoop own g tYesF fe ds ρ = some (as.map v, ρ') ∧ I ρ'
  | [], ρ, h, _ => ⟨[], ρ, rfl, by simp, rfl, h⟩
  | d :: ds, ρ, h, st => by
    obtain ⟨a, ρ3, e, hp, h3⟩ := st d (by simp) ρ h
    obtain ⟨ρ1, q1, q2⟩ := Option.bind_eq_some_iff.mp e
    obtain ⟨as, ρ', hl, ha, e4, i4⟩ := cLoop_eff (ds := ds) I h3 fun d' hd => st d' (by simp [hd])
    exact ⟨a :: as, ρ', by simp [hl], fun x hx => by
      rcases List.mem_cons.mp hx with z | z
      · subst z; exact hp
      · exact ha x z, by simp only [cLoop, q1, tYesF, q2, e4, List.map_cons], i4⟩
theorem atI_range {α : Type} {f : Nat → α} {n : Nat} {k : Int} (h : 0 ≤ k) (h2 : k < n) : atI ((List.range n).map f) k = some (f k.toNat) := by
  unfold atI; rw [ixN_nat h (by simpa using h2)]
  simp only [Option.bind_some]
  have : k.toNat < n := by omega
  simp [this]
theorem filter_le {n e : Nat} (h : e < n) : (List.range n).filter (fun k => decide (k ≤ e)) = List.range (e + 1) := by
  induction n with
  | zero => omega
  | succ n ih =>
    rw [List.range_succ, List.filter_append]
    by_cases q : e < n
    · rw [ih q]
      simp; omega
    · have : e = n := by omega
      subst this
      have e1 : (List.range e).filter (fun k => decide (k ≤ e)) = List.range e := List.filter_eq_self.mpr fun k hk => by have := List.mem_range.mp hk; simp; omega
      rw [e1, List.range_succ]; simp
theorem rng_map {n : Nat} {p : Int → Bool} {α : Type} {v : Int → α} : ((((List.range n).map fun i : Nat => (0 : Int) + i).filter p).map v) = ((List.range n).filter fun i : Nat => p i).map fun i : Nat => v i := by
  rw [List.filter_map, List.map_map]
  simp only [Function.comp_def, Int.zero_add]
/-! more statements and methods -/
section
variable {ρ : Rho} {f : Rho → Option T} {F G : Rho → Option (Rs T)} {i j l : Nat} {d : D}
def gsx (d : D) (ρ : Rho) (q : Nat × List Sg) : Option T → Option T → Option Rho
  | some (.lst ts), some (.fr (.int k)) => (ixN ts.length k).bind fun j => setAt ρ q.1 q.2 (.lst (ts.set j (.fr d)))
  | _, _ => none
theorem gsx_ok {q : Nat × List Sg} {ts : List T} {k : Int} : gsx d ρ q (some (.lst ts)) (some (.fr (.int k))) = (ixN ts.length k).bind fun j => setAt ρ q.1 q.2 (.lst (ts.set j (.fr d))) := rfl
theorem gSi_ap {lp : Rho → Option (Nat × List Sg)} : gSi lp f d ρ = (lp ρ).bind fun q => gsx d ρ q (getAt ρ q.1 q.2) (f ρ) := rfl
def sxf (i : Nat) (ρ2 : Rho) (d : D) : Option T → T → Option Out
  | some (.lst ts), .fr (.int k) => (ixN ts.length k).map fun j => .nx (ρ2.set i (some (.lst (ts.set j (.fr d)))))
  | _, _ => none
theorem sxf_ok {ts : List T} {k : Int} : sxf i ρ d (some (.lst ts)) (.fr (.int k)) = (ixN ts.length k).map fun j => .nx (ρ.set i (some (.lst (ts.set j (.fr d))))) := rfl
def sxe (i : Nat) (fi : Rho → Option (Rs T)) (ρ1 : Rho) : T → Option T → Option Out
  | .fr d, some _ => ofR (fi ρ1) fun kt ρ2 => sxf i ρ2 d (slot ρ2 i) kt
  | _, _ => none
theorem sxe_ok {t : T} : sxe i F ρ (.fr d) (some t) = ofR (F ρ) fun kt ρ2 => sxf i ρ2 d (slot ρ2 i) kt := rfl
theorem sSetIxE_ap : sSetIxE i F G ρ = ofR (G ρ) fun t ρ1 => sxe i F ρ1 t (slot ρ1 i) := rfl
def sx0 (i : Nat) (ρ1 : Rho) : Option T → T → Option Out
  | some (.lst ts), .lst us => if ts.length + us.length ≤ SZ then some (.nx (ρ1.set i (some (.lst (ts ++ us))))) else none
  | _, _ => none
theorem sx0_ok {ts us : List T} : sx0 i ρ (some (.lst ts)) (.lst us) = if ts.length + us.length ≤ SZ then some (.nx (ρ.set i (some (.lst (ts ++ us))))) else none := rfl
theorem sExt0_ap : sExt0 i F ρ = if isLst (slot ρ i) = true then ofR (F ρ) (fun t ρ1 => sx0 i ρ1 (slot ρ1 i) t) else none := by
  unfold sExt0
  cases slot ρ i with
  | none => rfl
  | some t => cases t <;> first | rfl | (simp only [isLst]; rfl)
def par3 (i j l : Nat) (ρ1 : Rho) : List Ar → Option Out
  | [.own (.fr d1), .own (.fr d2), .own (.fr d3)] => if i < ρ1.length ∧ j < ρ1.length ∧ l < ρ1.length then some (.nx (((ρ1.set i (some (.fr d1))).set j (some (.fr d2))).set l (some (.fr d3)))) else none
  | _ => none
theorem par3_ok {d1 d2 d3 : D} : par3 i j l ρ [.own (.fr d1), .own (.fr d2), .own (.fr d3)] = if i < ρ.length ∧ j < ρ.length ∧ l < ρ.length then some (.nx (((ρ.set i (some (.fr d1))).set j (some (.fr d2))).set l (some (.fr d3)))) else none := rfl
theorem sPar3_ap {L : Rho → Option (Rs (List Ar))} : sPar3 i j l L ρ = ofR (L ρ) fun as ρ1 => par3 i j l ρ1 as := rfl
theorem kMt_ap {op : T → List T → Option T} {L : Rho → Option (List T)} : kMt op f L ρ = (f ρ).bind fun t => (L ρ).bind fun ts => op t ts := rfl
theorem kLenSet_ap : kLenSet f ρ = (f ρ).bind opLenSet := rfl
def rg3 (ρ1 : Rho) : List Ar → Option (Rs (List D))
  | [.own (.fr (.int i)), .own (.fr (.int j)), .own (.fr (.int c))] => if c ≠ 0 ∧ c.natAbs < 1073741824 ∧ Builtin.Range.small i j c = true ∧ 0 ≤ Builtin.Range.rangeSize i j c ∧ Builtin.Range.rangeSize i j c ≤ 16777216 then some (.ok (rngC i c (Builtin.Range.rangeSize i j c).toNat) ρ1) else none
  | _ => none
theorem iRange3_ap {L : Rho → Option (Rs (List Ar))} : iRange3 L ρ = bnd (L ρ) fun as ρ1 => rg3 ρ1 as := rfl
theorem plain_ints : ∀ {ks : List Int}, PyData.plainAll (ks.map .int) = true
  | [] => rfl
  | k :: ks => by simp [PyData.plainAll, PyData.plain, plain_ints (ks := ks)]
theorem countP_ints (x : Int) : ∀ t : List Int, ((t.map PyData.int).countP fun z => PyData.eqv z (.int x)) = t.count x
  | [] => rfl
  | y :: t => by
    rw [List.map_cons, List.countP_cons, countP_ints x t, eqv_int, List.count_cons]
    simp
theorem opCount_as {t : T} {ks : List Int} {x : Int} (h : T.asL t = some (ks.map .int)) : opCount t [.fr (.int x)] = some (.fr (.int (ks.count x : Nat))) := by
  show ((T.asL t).bind fun ds => (T.dat (.fr (.int x))).bind fun d => if PyData.plainAll ds = true ∧ okD d = true then some (T.fr (.int (ds.countP fun z => PyData.eqv z d : Nat))) else none) = _
  rw [h, Option.bind_some, dat_fr, Option.bind_some, if_pos ⟨plain_ints, rfl⟩, countP_ints]
theorem opCount_fr {ks : List Int} {x : Int} : opCount (.fr (.list (ks.map .int))) [.fr (.int x)] = some (.fr (.int (ks.count x : Nat))) := opCount_as rfl
theorem opIndex_as {t : T} {ks : List Int} {x : Int} {j : Nat} (h : T.asL t = some (ks.map .int)) (hl : ks.length ≤ 16777216) (hf : ((ks.map PyData.int).findIdx? fun z => PyData.eqv z (.int x)) = some j) : opIndex t [.fr (.int x)] = some (.fr (.int (j : Nat))) := by
  show ((T.asL t).bind fun ds => (T.dat (.fr (.int x))).bind fun d => if PyData.plainAll ds = true ∧ okD d = true ∧ ds.length ≤ SZ then (ds.findIdx? fun z => PyData.eqv z d).map fun j : Nat => T.fr (.int (j : Int)) else none) = _
  rw [h, Option.bind_some, dat_fr, Option.bind_some, if_pos ⟨plain_ints, rfl, by rw [List.length_map]; exact hl⟩, hf]; rfl
theorem opIn_dat {n : Bool} {a : Int} {t : T} {ks : List Int} (h : T.dat t = some (.list (ks.map .int))) : opInS n (.fr (.int a)) t = some (.fr (.bool (decide (a ∈ ks) ^^ n))) := by
  rw [← opIn_ints (n := n) (a := a) (ks := ks)]
  unfold opInS opData
  rw [h]; rfl
theorem dat_map {ds : List D} : T.dat (.lst (ds.map .fr)) = some (.list ds) := by rw [dat_lst, datL_map]; rfl
theorem opAdd_ll {xs ys : List D} (h : xs.length + ys.length ≤ 16777216) : opAdd (.lst (xs.map .fr)) (.lst (ys.map .fr)) = some (.lst ((xs ++ ys).map .fr)) := by
  unfold opAdd
  simp only [asL_map]
  rw [if_pos h]
theorem opAdd_fl {xs ys : List D} (h : xs.length + ys.length ≤ 16777216) : opAdd (.fr (.list xs)) (.lst (ys.map .fr)) = some (.lst ((xs ++ ys).map .fr)) := by
  unfold opAdd
  simp only [asL_map, asL_list]
  rw [if_pos h]
theorem opAdd_lf {xs ys : List D} (h : xs.length + ys.length ≤ 16777216) : opAdd (.lst (xs.map .fr)) (.fr (.list ys)) = some (.lst ((xs ++ ys).map .fr)) := by
  unfold opAdd
  simp only [asL_map, asL_list]
  rw [if_pos h]
theorem opAdd_ff {xs ys : List D} (h : xs.length + ys.length ≤ 16777216) : opAdd (.fr (.list xs)) (.fr (.list ys)) = some (.lst ((xs ++ ys).map .fr)) := by
  unfold opAdd
  simp only [asL_list]
  rw [if_pos h]
theorem eqvAll_ints : ∀ {a b : List Int}, PyData.eqvAll (a.map .int) (b.map .int) = decide (a = b)
  | [], [] => by simp [PyData.eqvAll]
  | [], y :: b => by simp [PyData.eqvAll]
  | x :: a, [] => by simp [PyData.eqvAll]
  | x :: a, y :: b => by
    rw [List.map_cons, List.map_cons, PyData.eqvAll, eqv_int, eqvAll_ints]
    by_cases h : x = y <;> by_cases h2 : a = b <;> simp [h, h2]
theorem opEq_lists {a b : List Int} : opEq (.fr (.list (a.map .int))) (.fr (.list (b.map .int))) = some (.fr (.bool (decide (a = b)))) := by
  rw [opEq_fr okD_ints okD_ints]
  show some (T.fr (.bool (PyData.eqvAll (a.map .int) (b.map .int)))) = _
  rw [eqvAll_ints]
theorem okD_tup_ints {ks : List Int} : okD (.tuple (ks.map .int)) = true := okN_okD (n := 2) (okN_tuple fun d hd => by obtain ⟨k, _, rfl⟩ := List.mem_map.mp hd; exact okN_int) (by omega)
theorem opEq_tups {a b : List Int} : opEq (.fr (.tuple (a.map .int))) (.fr (.tuple (b.map .int))) = some (.fr (.bool (decide (a = b)))) := by
  rw [opEq_fr okD_tup_ints okD_tup_ints]
  show some (T.fr (.bool (PyData.eqvAll (a.map .int) (b.map .int)))) = _
  rw [eqvAll_ints]
theorem opEq_2 {a b c d : Int} : opEq (.fr (.tuple [.int a, .int b])) (.fr (.tuple [.int c, .int d])) = some (.fr (.bool (decide (a = c) && decide (b = d)))) := by
  have := opEq_tups (a := [a, b]) (b := [c, d])
  simp only [List.map_cons, List.map_nil] at this
  rw [this]
  by_cases h : a = c <;> by_cases h2 : b = d <;> simp [h, h2]
theorem opNe_bl {a b : Bool} : opNe (.fr (.bool a)) (.fr (.bool b)) = some (.fr (.bool (a != b))) := by cases a <;> cases b <;> rfl
theorem opEq_bl {a b : Bool} : opEq (.fr (.bool a)) (.fr (.bool b)) = some (.fr (.bool (a == b))) := by cases a <;> cases b <;> rfl
end
/-- what is handed back of frozen arguments -/
theorem outs_frs {ρ : Rho} : ∀ (ds : List D) (n : Nat), outs [] ρ (ds.map .fr) n = ds.map fun d => some (.fr d)
  | [], _ => rfl
  | d :: ds, n => by
    rw [List.map_cons, outs_cons, outs_frs ds]
    simp only [List.not_mem_nil, if_false, frO_fr, List.map_cons]
theorem os_frs {n m : Nat} {f : Rho → Option Out} {ds : List D} {t : T} {os : List (Option T)} (h : semD n m [] f (ds.map .fr) = some (.ok t os)) : os = ds.map fun d => some (.fr d) := by
  unfold semD at h
  split at h
  · split at h
    · cases h; exact outs_frs ds 0
    · cases h; exact outs_frs ds 0
    · cases h
    · cases h
  · cases h
theorem os_1 {m : Nat} {f : Rho → Option Out} {a : D} {t : T} {os : List (Option T)} (h : semD 1 m [] f [.fr a] = some (.ok t os)) : os = [some (.fr a)] := os_frs (ds := [a]) h
theorem os_2 {m : Nat} {f : Rho → Option Out} {a b : D} {t : T} {os : List (Option T)} (h : semD 2 m [] f [.fr a, .fr b] = some (.ok t os)) : os = [some (.fr a), some (.fr b)] := os_frs (ds := [a, b]) h
theorem os_3 {m : Nat} {f : Rho → Option Out} {a b c : D} {t : T} {os : List (Option T)} (h : semD 3 m [] f [.fr a, .fr b, .fr c] = some (.ok t os)) : os = [some (.fr a), some (.fr b), some (.fr c)] := os_frs (ds := [a, b, c]) h
theorem os_4 {m : Nat} {f : Rho → Option Out} {a b c d : D} {t : T} {os : List (Option T)} (h : semD 4 m [] f [.fr a, .fr b, .fr c, .fr d] = some (.ok t os)) : os = [some (.fr a), some (.fr b), some (.fr c), some (.fr d)] := os_frs (ds := [a, b, c, d]) h
end Lv

set_option maxHeartbeats 2000000
namespace Lv
open PySem PySem.Spec PyProof.Rows L2
/-! texts -/
theorem ofString_inj {a b : String} : Str.ofString a = Str.ofString b ↔ a = b := by
  constructor
  · intro h
    rw [Str.ofString_eq_toList, Str.ofString_eq_toList] at h
    have h1 : (a.toList.map Char.toNat).toArray = (b.toList.map Char.toNat).toArray := congrArg Str.cps h
    have h2 : a.toList.map Char.toNat = b.toList.map Char.toNat := by simpa using h1
    have h3 : a.toList = b.toList := by
      have inj : ∀ c d : Char, c.toNat = d.toNat → c = d := fun c d e => Char.ext (UInt32.toNat_inj.mp e)
      generalize a.toList = x at h2
      generalize b.toList = y at h2
      induction x generalizing y with
      | nil => cases y with
        | nil => rfl
        | cons _ _ => cases h2
      | cons c x ih => cases y with
        | nil => cases h2
        | cons d y =>
          rw [List.map_cons, List.map_cons] at h2
          obtain ⟨e1, e2⟩ := List.cons.inj h2
          rw [inj c d e1, ih y e2]
    exact String.toList_inj.mp h3
  · intro h; rw [h]
section
variable {a b c : Str} {n : Bool}
theorem eqv_str : PyData.eqv (.str a) (.str b) = decide (a = b) := by
  simp only [PyData.eqv]
  by_cases h : a = b <;> simp [h]
theorem opEq_s : opEq (.fr (.str a)) (.fr (.str b)) = some (.fr (.bool (decide (a = b)))) := by
  rw [opEq_fr (okN_okD okN_str (by omega)) (okN_okD okN_str (by omega)), eqv_str]
theorem opNe_fr {x y : D} (h1 : okD x = true) (h2 : okD y = true) : opNe (.fr x) (.fr y) = some (.fr (.bool (!PyData.eqv x y))) := by
  show (if okD x = true ∧ okD y = true then (some (!PyData.eqv x y)).map fun k => T.fr (.bool k) else none) = _
  rw [if_pos ⟨h1, h2⟩]; rfl
theorem opNe_s : opNe (.fr (.str a)) (.fr (.str b)) = some (.fr (.bool (!decide (a = b)))) := by
  rw [opNe_fr (okN_okD okN_str (by omega)) (okN_okD okN_str (by omega)), eqv_str]
theorem opIn_d {x : D} {ds : List D} (h1 : okD x = true) (h2 : okD (.tuple ds) = true) : opInS n (.fr x) (.fr (.tuple ds)) = some (.fr (.bool ((ds.any fun z => PyData.eqv z x) ^^ n))) := by
  show (if okD x = true ∧ okD (.tuple ds) = true then (some ((ds.any fun z => PyData.eqv z x) ^^ n)).map fun k => T.fr (.bool k) else none) = _
  rw [if_pos ⟨h1, h2⟩]; rfl
theorem opIn_s2 : opInS n (.fr (.str a)) (.fr (.tuple [.str b, .str c])) = some (.fr (.bool ((decide (b = a) || decide (c = a)) ^^ n))) := by
  rw [opIn_d (okN_okD okN_str (by omega)) (okN_okD (n := 2) (okN_tuple fun d hd => by
    simp only [List.mem_cons, List.not_mem_nil, or_false] at hd
    rcases hd with rfl | rfl <;> exact okN_str) (by omega))]
  simp only [List.any_cons, List.any_nil, eqv_str, Bool.or_false]
theorem opIn_i2 {a b c : Int} : opInS n (.fr (.int a)) (.fr (.tuple [.int b, .int c])) = some (.fr (.bool ((decide (b = a) || decide (c = a)) ^^ n))) := by
  rw [opIn_d (okN_okD okN_int (by omega)) (okN_okD (n := 2) (okN_tuple fun d hd => by
    simp only [List.mem_cons, List.not_mem_nil, or_false] at hd
    rcases hd with rfl | rfl <;> exact okN_int) (by omega))]
  simp only [List.any_cons, List.any_nil, eqv_int, Bool.or_false]
theorem truth_tup {xs : List D} : truth (.fr (.tuple xs)) = some (!xs.isEmpty) := rfl
theorem opAbs_i {a : Int} : opAbs [.fr (.int a)] = some (.fr (.int (if a < 0 then -a else a))) := rfl
end
/-! different ints in a list -/
theorem step_dedup_mem {l : List Int} {x y : Int} : y ∈ step_dedup l x ↔ y ∈ l ∨ y = x := by
  unfold step_dedup
  split
  · next h =>
    constructor
    · exact .inl
    · rintro (q | q)
      · exact q
      · subst q
        obtain ⟨z, hz, e⟩ := List.any_eq_true.mp h
        rw [← beq_iff_eq.mp e]; exact hz
  · simp
theorem dedup_len : ∀ (l acc : List Int), (l.foldl step_dedup acc).length ≤ acc.length + l.length ∧ ((l.foldl step_dedup acc).length = acc.length + l.length ↔ l.Nodup ∧ ∀ x ∈ l, x ∉ acc)
  | [], acc => by simp
  | x :: l, acc => by
    obtain ⟨h1, h2⟩ := dedup_len l (step_dedup acc x)
    rw [List.foldl_cons]
    by_cases h : x ∈ acc
    · have e : step_dedup acc x = acc := by
        unfold step_dedup
        rw [if_pos (List.any_eq_true.mpr ⟨x, h, by simp⟩)]
      rw [e] at h1 h2 ⊢
      simp only [List.length_cons]
      refine ⟨by omega, ⟨fun q => by omega, fun q => absurd h (q.2 x (by simp))⟩⟩
    · have e : step_dedup acc x = acc ++ [x] := by
        unfold step_dedup
        rw [if_neg (fun q => by
          obtain ⟨z, hz, e⟩ := List.any_eq_true.mp q
          exact h (by rw [← beq_iff_eq.mp e]; exact hz))]
      rw [e] at h1 h2 ⊢
      simp only [List.length_append, List.length_cons, List.length_nil] at h1 h2 ⊢
      refine ⟨by omega, ?_⟩
      rw [show acc.length + (l.length + 1) = acc.length + (0 + 1) + l.length by omega, h2, List.nodup_cons]
      constructor
      · rintro ⟨a, b⟩
        refine ⟨⟨fun q => b x q (by simp), a⟩, fun y hy => ?_⟩
        rcases List.mem_cons.mp hy with z | z
        · subst z; exact h
        · exact fun q => b y z (by simp [q])
      · rintro ⟨⟨a, b⟩, c⟩
        refine ⟨b, fun y hy q => ?_⟩
        rcases List.mem_append.mp q with z | z
        · exact c y (by simp [hy]) z
        · simp at z; subst z; exact a hy
theorem dd_eq (ns : List Int) : dd ns = ns.foldl step_dedup [] := by
  unfold dd firstMet
  congr 1
  apply List.ext_getElem
  · simp
  · intro i h1 h2
    simp [h2]
theorem dd_full {ns : List Int} : (dd ns).length = ns.length ↔ ns.Nodup := by
  rw [dd_eq]
  have := (dedup_len ns []).2
  simpa using this
theorem opLenSet_as {t : T} {ks : List Int} (h : T.asL t = some (ks.map .int)) (hl : ks.length < 4000) : opLenSet t = some (.fr (.int ((dd ks).length : Nat))) := by
  unfold opLenSet
  rw [h, Option.bind_some, intsD_map, Option.bind_some, if_pos hl]
end Lv

set_option maxHeartbeats 0
namespace K68
open PySem PySem.Spec PyProof.Rows L2 Lv
def exTab : ExT := []
def is_number_b : Rho → Option Out := (sRet (eFz (eAnd (kOk (kIsi "int" (kV 0))) (eAnd (eNot (kOk (kIsi "bool" (kV 0)))) (kOk (kCh opLe opLe (kV 1) (kV 0) (kV 2)))))))
def is_number_sem : List T → Option Ret := semD 3 0 [] is_number_b
def check_number_b : Rho → Option Out := (sIf (tNot (tVK (kCall is_number_sem (kCons (kV 0) (kCons (kV 1) (kCons (kV 2) kNil)))))) (sRaise "BadArgument") sNil)
def check_number_sem : List T → Option Ret := semD 3 0 [] check_number_b
def is_result_b : Rho → Option Out := (sSeq (sIf (tOr (tNot (tVK (kIsi "tuple" (kV 0)))) (tBK (k2 opNe (kN opLen (kCons (kV 0) kNil)) (kC (.int 5))))) (sRet (kOk (kC (.bool false)))) sNil)
  (sSeq (sTgt (gTp 5 (gCs (gN 1) (gCs (gN 2) (gCs (gN 3) (gCs (gN 4) (gCs (gN 5) gNl)))))) (kOk (kV 0)))
  (sSeq (sIf (tOr (tNot (tVK (kCall is_number_sem (kCons (kV 1) (kCons (kC (.int 0)) (kCons (k2 opSub (kC (.int 200)) (kC (.int 1))) kNil)))))) (tNot (tVK (kCall is_number_sem (kCons (kV 2) (kCons (kC (.int 0)) (kCons (k2 opSub (kC (.int 20)) (kC (.int 1))) kNil))))))) (sRet (kOk (kC (.bool false)))) sNil)
  (sSeq (sIf (tOr (tNot (tVK (kCall is_number_sem (kCons (kV 3) (kCons (kC (.int 0)) (kCons (k2 opSub (kC (.int 10000)) (kC (.int 1))) kNil)))))) (tOr (tNot (tVK (kCall is_number_sem (kCons (kV 4) (kCons (k1 opNeg (kC (.int 1))) (kCons (kC (.int 1000000)) kNil)))))) (tBK (k2 opEq (kV 4) (kC (.int 0)))))) (sRet (kOk (kC (.bool false)))) sNil)
  (sRet (kOk (kCall is_number_sem (kCons (kV 5) (kCons (kC (.int 0)) (kCons (kC (.int 99)) kNil))))))))))
def is_result_sem : List T → Option Ret := semD 1 5 [] is_result_b
def check_results_c1  : Rho → Option (Rs T) := eLc [2] (iIt (kOk (kV 1))) (gN 2) (tNot (tVK (kCall is_result_sem (kCons (kV 2) kNil)))) (kOk (kV 2))
def check_results_c2  : Rho → Option (Rs T) := eLc [2] (iIt (kOk (kV 1))) (gN 2) tYesF (kOk (kTup (kCons (k2 opIx (kV 2) (kC (.int 0))) (kCons (k2 opIx (kV 2) (kC (.int 1))) kNil))))
def check_results_b : Rho → Option Out := (sSeq (sIf (tOr (tNot (tVK (kIsi "tuple" (kV 0)))) (tBK (k2 opNe (kN opLen (kCons (kV 0) kNil)) (kC (.int 2))))) (sRaise "BadArgument") sNil)
  (sSeq (sExpr (eCall check_number_sem (eCons (kOk (k2 opIx (kV 0) (kC (.int 0)))) (eCons (kOk (kC (.int 1))) (eCons (kOk (kC (.int 1000000))) eNil)))))
  (sSeq (sExpr (eCall check_number_sem (eCons (kOk (k2 opIx (kV 0) (kC (.int 1)))) (eCons (kOk (kC (.int 0))) (eCons (kOk (kC (.int 1000000))) eNil)))))
  (sSeq (sIf (tOr (tNot (tVK (kIsi "list" (kV 1)))) (tNot (tBK (kCh opLe opLe (kC (.int 1)) (kN opLen (kCons (kV 1) kNil)) (kC (.int 500)))))) (sRaise "BadArgument") sNil)
  (sSeq (sIf (tV check_results_c1) (sRaise "BadArgument") sNil)
  (sIf (tB (e2 opNe (eLenSetL check_results_c2) (kOk (kN opLen (kCons (kV 1) kNil))))) (sRaise "BadArgument") sNil))))))
def check_results_sem : List T → Option Ret := semD 2 1 [] check_results_b
def full_of_b : Rho → Option Out := (sSeq (sTgt (gTp 5 (gCs (gN 2) (gCs (gN 3) (gCs (gN 4) (gCs (gN 5) (gCs (gN 6) gNl)))))) (kOk (kV 1)))
  (sRet (eFz (eIf (tAnd (tBK (k2 opNe (kV 5) (k1 opNeg (kC (.int 1))))) (tBK (k2 opLe (kV 5) (k2 opIx (kV 0) (kC (.int 0)))))) (e2 opAdd (kOk (kV 5)) (e2 opMul (kOk (k2 opIx (kV 0) (kC (.int 1)))) (kOk (kV 6)))) (kOk (kC .none))))))
def full_of_sem : List T → Option Ret := semD 2 5 [] full_of_b
def full_times_c1  : Rho → Option (Rs T) := eLc [2] (iIt (kOk (kV 1))) (gN 2) tYesF (kOk (kCall full_of_sem (kCons (kV 0) (kCons (kV 2) kNil))))
def full_times_b : Rho → Option Out := (sSeq (sExpr (eCall check_results_sem (eCons (kOk (kV 0)) (eCons (kOk (kV 1)) eNil))))
  (sRet (eFz full_times_c1)))
def full_times_sem : List T → Option Ret := semD 2 1 [] full_times_b
def outs_b1  : Rho → Option Out := kill [3, 4] (sSeq (sSet 4 (kOk (kCall full_of_sem (kCons (kV 0) (kCons (kV 3) kNil)))))
  (sIf (tBK (k2 (opIsN true) (kV 4) (kC .none))) (sApp0 2 (kOk (kTup (kCons (k2 opIx (kV 3) (kC (.int 0))) (kCons (k2 opIx (kV 3) (kC (.int 1))) (kCons (k2 opIx (kV 3) (kC (.int 2))) (kCons (kV 4) kNil))))))) sNil))
def outs_l2  : Rho → Option Out := sFor (iIt (kOk (kV 1))) (gN 3) outs_b1
def outs_b : Rho → Option Out := (sSeq (sSet 2 (eLst eNil))
  (sSeq outs_l2
  (sRet (eFz (eMv 2)))))
def outs_sem : List T → Option Ret := semD 2 3 [] outs_b
def ranked_b1  : Rho → Option Out := kill [2, 3, 4] (sSeq (sSet 4 (eFz (e2 opAdd (kOk (kN opLen (kCons (kV 1) kNil))) (kOk (kC (.int 1))))))
  (sSeq (sIf (tAnd (tVK (kV 1)) (tBK (k2 opEq (k2 opIx (k2 opIx (kV 1) (k1 opNeg (kC (.int 1)))) (kC (.int 1))) (kV 2)))) (sSet 4 (kOk (k2 opIx (k2 opIx (kV 1) (k1 opNeg (kC (.int 1)))) (kC (.int 0))))) sNil)
  (sApp0 1 (kOk (kTup (kCons (kV 4) (kCons (kV 2) (kCons (kV 3) kNil))))))))
def ranked_l2  : Rho → Option Out := sFor (iIt (eN opSorted (eCons (kOk (kV 0)) eNil))) (gTp 2 (gCs (gN 2) (gCs (gN 3) gNl))) ranked_b1
def ranked_b : Rho → Option Out := (sSeq (sSet 1 (eLst eNil))
  (sSeq ranked_l2
  (sRet (eFz (eMv 1)))))
def ranked_sem : List T → Option Ret := semD 1 4 [] ranked_b
def ranking_c1  : Rho → Option (Rs T) := eLc [6] (iIt (kOk (kCall outs_sem (kCons (kV 0) (kCons (kV 1) kNil))))) (gN 6) (tBK (k2 opEq (k2 opIx (kV 6) (kC (.int 1))) (kV 2))) (kOk (kTup (kCons (k2 opIx (kV 6) (kC (.int 3))) (kCons (k2 opIx (kV 6) (kC (.int 0))) kNil))))
def ranking_c2  : Rho → Option (Rs T) := eLc [7] (iIt (kOk (kV 3))) (gN 7) tYesF (kOk (k2 opIx (kV 7) (kC (.int 1))))
def ranking_c3  : Rho → Option (Rs T) := eLc [7] (iIt (kOk (kV 3))) (gN 7) tYesF (kOk (k2 opIx (kV 7) (kC (.int 1))))
def ranking_c4  : Rho → Option (Rs T) := eLc [6] (iIt (kOk (kV 1))) (gN 6) (tAnd (tBK (k2 opEq (k2 opIx (kV 6) (kC (.int 1))) (kV 2))) (tBK (k2 (opInS true) (k2 opIx (kV 6) (kC (.int 0))) (kV 4)))) (kOk (k2 opIx (kV 6) (kC (.int 0))))
def ranking_c5  : Rho → Option (Rs T) := eLc [8, 9, 10] (iIt (kOk (kCall ranked_sem (kCons (kV 3) kNil)))) (gTp 3 (gCs (gN 8) (gCs (gN 9) (gCs (gN 10) gNl)))) tYesF (kOk (kTup (kCons (kV 8) (kCons (kV 10) (kCons (kV 9) kNil)))))
def ranking_c6  : Rho → Option (Rs T) := eLc [10] (iIt (kOk (kV 5))) (gN 10) tYesF (kOk (kTup (kCons (kC .none) (kCons (kV 10) (kCons (kC .none) kNil)))))
def ranking_b : Rho → Option Out := (sSeq (sExpr (eCall check_results_sem (eCons (kOk (kV 0)) (eCons (kOk (kV 1)) eNil))))
  (sSeq (sExpr (eCall check_number_sem (eCons (kOk (kV 2)) (eCons (kOk (kC (.int 0))) (eCons (kOk (k2 opSub (kC (.int 20)) (kC (.int 1)))) eNil)))))
  (sSeq (sSet 3 (eFz ranking_c1))
  (sSeq (sSet 4 (eFz ranking_c3))
  (sSeq (sSet 5 (eFz (eN opSorted (eCons ranking_c4 eNil))))
  (sRet (eFz (e2 opAdd ranking_c5 ranking_c6))))))))
def ranking_sem : List T → Option Ret := semD 3 8 [] ranking_b
def records_c1  : Rho → Option (Rs T) := eLc [8] (iIt (kOk (kCall outs_sem (kCons (kV 0) (kCons (kV 1) kNil))))) (gN 8) (tBK (k2 opEq (k2 opIx (kV 8) (kC (.int 1))) (kV 2))) (kOk (kV 8))
def records_c2  : Rho → Option (Rs T) := eLc [8] (iIt (kOk (kCall outs_sem (kCons (kV 0) (kCons (kV 1) kNil))))) (gN 8) (tBK (k2 opEq (k2 opIx (kV 8) (kC (.int 1))) (kV 2))) (kOk (kV 8))
def records_c3  : Rho → Option (Rs T) := eLc [7] (iRange1 (eCons (kOk (kN opLen (kCons (kV 3) kNil))) eNil)) (gN 7) tYesF (kOk (kTup (kCons (k2 opIx (k2 opIx (kV 3) (kV 7)) (kC (.int 2))) (kCons (kV 7) kNil))))
def records_b4  : Rho → Option Out := kill [6, 7] (sIf (tOr (tNot (tVK (kV 5))) (tBK (k2 opLt (k2 opIx (k2 opIx (kV 3) (kV 7)) (kC (.int 3))) (k2 opIx (k2 opIx (kV 5) (k1 opNeg (kC (.int 1)))) (kC (.int 2)))))) (sApp0 5 (kOk (kTup (kCons (kV 6) (kCons (k2 opIx (k2 opIx (kV 3) (kV 7)) (kC (.int 0))) (kCons (k2 opIx (k2 opIx (kV 3) (kV 7)) (kC (.int 3))) kNil)))))) sNil)
def records_l5  : Rho → Option Out := sFor (iIt (kOk (kV 4))) (gTp 2 (gCs (gN 6) (gCs (gN 7) gNl))) records_b4
def records_b : Rho → Option Out := (sSeq (sExpr (eCall check_results_sem (eCons (kOk (kV 0)) (eCons (kOk (kV 1)) eNil))))
  (sSeq (sExpr (eCall check_number_sem (eCons (kOk (kV 2)) (eCons (kOk (kC (.int 0))) (eCons (kOk (k2 opSub (kC (.int 20)) (kC (.int 1)))) eNil)))))
  (sSeq (sSet 3 (eFz records_c2))
  (sSeq (sSet 4 (eFz (eN opSorted (eCons records_c3 eNil))))
  (sSeq (sSet 5 (eLst eNil))
  (sSeq records_l5
  (sRet (eFz (eMv 5)))))))))
def records_sem : List T → Option Ret := semD 3 6 [] records_b
def law_mixed_b : Rho → Option Out := (sSeq (sSet 2 (kOk (k2 opMod (k2 opAdd (k2 opAdd (k2 opMul (kV 0) (kC (.int 48271))) (k2 opMul (kV 1) (kC (.int 69621)))) (kC (.int 12345))) (kC (.int 2147483647)))))
  (sRet (kOk (k2 opMod (k2 opAdd (k2 opMul (kV 2) (k2 opAdd (k2 opFdiv (kV 2) (kC (.int 65536))) (kC (.int 3)))) (kV 1)) (kC (.int 2147483647))))))
def law_mixed_sem : List T → Option Ret := semD 2 1 [] law_mixed_b
def law_numbers_b1  : Rho → Option Out := kill [4] (sIf (tBK (k2 opGt (kV 3) (kC (.int 0)))) (sSeq (sApp0 1 (kOk (k2 opMod (kV 3) (kC (.int 1000000)))))
  (sSet 3 (kOk (k2 opFdiv (kV 3) (kC (.int 1000000)))))) sNil)
def law_numbers_l2  : Rho → Option Out := sFor (iRange1 (eCons (kOk (kC (.int 60))) eNil)) (gN 4) law_numbers_b1
def law_numbers_b3  : Rho → Option Out := kill [4] (sApp0 1 (kOk (k2 opMod (kCall law_mixed_sem (kCons (kCall law_mixed_sem (kCons (k2 opMod (kV 2) (kC (.int 2147483647))) (kCons (kV 4) kNil))) (kCons (k2 opAdd (kV 4) (kC (.int 7))) kNil))) (kC (.int 1000000)))))
def law_numbers_l4  : Rho → Option Out := sFor (iRange1 (eCons (kOk (kC (.int 5))) eNil)) (gN 4) law_numbers_b3
def law_numbers_b5  : Rho → Option Out := kill [2, 3, 4] (sIf (tBK (k2 opGe (kV 2) (k2 opPow (kC (.int 10)) (kC (.int 18))))) (sSeq (sSet 3 (kOk (kV 2)))
  law_numbers_l2) (sSeq (sApp0 1 (kOk (k2 opMod (kV 2) (kC (.int 1000000)))))
  law_numbers_l4))
def law_numbers_l6  : Rho → Option Out := sFor (iIt (kOk (kV 0))) (gN 2) law_numbers_b5
def law_numbers_b : Rho → Option Out := (sSeq (sSet 1 (eLst eNil))
  (sSeq law_numbers_l6
  (sRet (eFz (eMv 1)))))
def law_numbers_sem : List T → Option Ret := semD 1 4 [] law_numbers_b
def law_draw_b : Rho → Option Out := (sSeq (sSet 1 (kOk (k2 opIx (kV 0) (kC (.int 1)))))
  (sSeq (sSetIx (pV 0) (kC (.int 1)) (eFz (e2 opAdd (kOk (kV 1)) (kOk (kC (.int 1))))))
  (sSeq (sIf (tBK (k2 opLt (kV 1) (kN opLen (kCons (k2 opIx (kV 0) (kC (.int 0))) kNil)))) (sRet (kOk (k2 opIx (k2 opIx (kV 0) (kC (.int 0))) (kV 1)))) sNil)
  (sSeq (sSet 2 (eFz (e2 opAdd (kOk (kC (.int 1))) (kOk (kV 1)))))
  (sSeq (sIf (tBK (k2 opGt (kN opLen (kCons (k2 opIx (kV 0) (kC (.int 0))) kNil)) (kC (.int 0)))) (sSet 2 (eFz (e2 opAdd (kOk (kV 2)) (e2 opMul (kOk (kC (.int 1009))) (kOk (k2 opIx (k2 opIx (kV 0) (kC (.int 0))) (kC (.int 0)))))))) sNil)
  (sRet (kOk (k2 opMod (kCall law_mixed_sem (kCons (kCall law_mixed_sem (kCons (kV 2) (kCons (kV 1) kNil))) (kCons (kC (.int 5)) kNil))) (kC (.int 1000000))))))))))
def law_draw_sem : List T → Option Ret := semD 1 2 [0] law_draw_b
def law_equal_b (r_law_equal : List T → Option Ret) (r_law_all_equal : List T → Option Ret) : Rho → Option Out := (sSeq (sIf (tVK (kIsi "list" (kV 1))) (sRet (eFz (eAnd (kOk (kIsi "list" (kV 0))) (eAnd (kOk (k2 opEq (kN opLen (kCons (kV 0) kNil)) (kN opLen (kCons (kV 1) kNil)))) (kOk (kCall r_law_all_equal (kCons (kV 0) (kCons (kV 1) kNil)))))))) sNil)
  (sSeq (sIf (tVK (kIsi "tuple" (kV 1))) (sRet (eFz (eAnd (kOk (kIsi "tuple" (kV 0))) (eAnd (kOk (k2 opEq (kN opLen (kCons (kV 0) kNil)) (kN opLen (kCons (kV 1) kNil)))) (kOk (kCall r_law_all_equal (kCons (kV 0) (kCons (kV 1) kNil)))))))) sNil)
  (sSeq (sIf (tVK (kIsi "bool" (kV 1))) (sRet (eFz (eAnd (kOk (kIsi "bool" (kV 0))) (kOk (k2 opEq (kV 0) (kV 1)))))) sNil)
  (sSeq (sIf (tVK (kIsi "int" (kV 1))) (sRet (eFz (eAnd (kOk (kIsi "int" (kV 0))) (eAnd (eNot (kOk (kIsi "bool" (kV 0)))) (kOk (k2 opEq (kV 0) (kV 1))))))) sNil)
  (sSeq (sIf (tVK (kIsi "str" (kV 1))) (sRet (eFz (eAnd (kOk (kIsi "str" (kV 0))) (kOk (k2 opEq (kV 0) (kV 1)))))) sNil)
  (sRet (kOk (k2 (opIsN false) (kV 0) (kC .none)))))))))
def law_all_equal_b1 (r_law_equal : List T → Option Ret) (r_law_all_equal : List T → Option Ret) : Rho → Option Out := kill [2] (sIf (tNot (tVK (kCall r_law_equal (kCons (k2 opIx (kV 0) (kV 2)) (kCons (k2 opIx (kV 1) (kV 2)) kNil))))) (sRet (kOk (kC (.bool false)))) sNil)
def law_all_equal_l2 (r_law_equal : List T → Option Ret) (r_law_all_equal : List T → Option Ret) : Rho → Option Out := sFor (iRange1 (eCons (kOk (kN opLen (kCons (kV 1) kNil))) eNil)) (gN 2) (law_all_equal_b1 r_law_equal r_law_all_equal)
def law_all_equal_b (r_law_equal : List T → Option Ret) (r_law_all_equal : List T → Option Ret) : Rho → Option Out := (sSeq (law_all_equal_l2 r_law_equal r_law_all_equal)
  (sRet (kOk (kC (.bool true)))))
def law_equal_rec : Nat → Nat → List T → Option Ret
  | 0, _ => fun _ => none
  | n + 1, 0 => semD 2 0 [] (law_equal_b (law_equal_rec n 0) (law_equal_rec n 1))
  | n + 1, _ => semD 2 1 [] (law_all_equal_b (law_equal_rec n 0) (law_equal_rec n 1))
abbrev law_equal_sem (n : Nat) : List T → Option Ret := law_equal_rec n 0
abbrev law_all_equal_sem (n : Nat) : List T → Option Ret := law_equal_rec n 1
def law_results_c1  : Rho → Option (Rs T) := eLcL [9] 4 (gN 9) (tAnd (tBK (k2 opEq (k2 opIx (kV 9) (kC (.int 0))) (kV 6))) (tBK (k2 opEq (k2 opIx (kV 9) (kC (.int 1))) (kV 7)))) (kOk (kV 9))
def law_results_b2  : Rho → Option Out := kill [5, 6, 7, 8] (sSeq (sTgt (gTp 2 (gCs (gN 6) (gCs (gN 7) gNl))) (eTup (eCons (e2 opMod (eCall law_draw_sem (eBor 0 eNil)) (kOk (kV 1))) (eCons (e2 opMod (eCall law_draw_sem (eBor 0 eNil)) (kOk (kV 2))) eNil))))
  (sIf (tB (e2 opEq law_results_c1 (eLst eNil))) (sSeq (sSet 8 (eFz (e2 (frOp opIx) (eLst (eCons (kOk (k1 opNeg (kC (.int 1)))) (eCons (eFz (e2 opAdd (kOk (kC (.int 1))) (e2 opMod (eCall law_draw_sem (eBor 0 eNil)) (kOk (kC (.int 6)))))) (eCons (eFz (e2 opAdd (kOk (kC (.int 1))) (e2 opMod (eCall law_draw_sem (eBor 0 eNil)) (kOk (kC (.int 40)))))) (eCons (kOk (k2 opPow (kC (.int 10)) (kC (.int 6)))) eNil))))) (e2 opMod (eCall law_draw_sem (eBor 0 eNil)) (kOk (kC (.int 4)))))))
  (sApp0 4 (eFz (eTup (eCons (kOk (kV 6)) (eCons (kOk (kV 7)) (eCons (e2 opMod (eCall law_draw_sem (eBor 0 eNil)) (kOk (kC (.int 4)))) (eCons (kOk (kV 8)) (eCons (e2 opMod (eCall law_draw_sem (eBor 0 eNil)) (kOk (kC (.int 3)))) eNil))))))))) sNil))
def law_results_l3  : Rho → Option Out := sFor (iRange1 (eCons (kOk (kV 3)) eNil)) (gN 5) law_results_b2
def law_results_b : Rho → Option Out := (sSeq (sSet 4 (eLst eNil))
  (sSeq law_results_l3
  (sRet (eFz (eMv 4)))))
def law_results_sem : List T → Option Ret := semD 4 6 [0] law_results_b
def law_rules_b : Rho → Option Out := (sRet (eFz (eTup (eCons (e2 (frOp opIx) (eLst (eCons (kOk (kC (.int 5))) (eCons (kOk (kC (.int 30))) (eCons (kOk (k2 opPow (kC (.int 10)) (kC (.int 6)))) eNil)))) (e2 opMod (eCall law_draw_sem (eBor 0 eNil)) (kOk (kC (.int 3))))) (eCons (e2 (frOp opIx) (eLst (eCons (kOk (kC (.int 0))) (eCons (kOk (kC (.int 1))) (eCons (kOk (kC (.int 7))) (eCons (kOk (k2 opPow (kC (.int 10)) (kC (.int 6)))) eNil))))) (e2 opMod (eCall law_draw_sem (eBor 0 eNil)) (kOk (kC (.int 4))))) eNil)))))
def law_rules_sem : List T → Option Ret := semD 1 0 [0] law_rules_b
def law_full_b : Rho → Option Out := (sSeq (sIf (tOr (tBK (k2 opEq (k2 opIx (kV 1) (kC (.int 3))) (k1 opNeg (kC (.int 1))))) (tBK (k2 opGt (k2 opIx (kV 1) (kC (.int 3))) (k2 opIx (kV 0) (kC (.int 0)))))) (sRet (kOk (kC .none))) sNil)
  (sRet (eFz (e2 opAdd (kOk (k2 opIx (kV 1) (kC (.int 3)))) (e2 opMul (kOk (k2 opIx (kV 0) (kC (.int 1)))) (kOk (k2 opIx (kV 1) (kC (.int 4)))))))))
def law_full_sem : List T → Option Ret := semD 2 0 [] law_full_b
def law_c1  : Rho → Option (Rs T) := eLc [14] (iIt (kOk (kV 2))) (gN 14) tYesF (kOk (kCall law_full_sem (kCons (kV 3) (kCons (kV 14) kNil))))
def law_c2  : Rho → Option (Rs T) := eLc [14] (iIt (kOk (kV 2))) (gN 14) tYesF (kOk (kCall law_full_sem (kCons (kV 3) (kCons (kV 14) kNil))))
def law_c3  : Rho → Option (Rs T) := eLc [13] (iRange1 (eCons (kOk (kN opLen (kCons (kV 2) kNil))) eNil)) (gN 13) (tAnd (tBK (k2 opEq (k2 opIx (k2 opIx (kV 2) (kV 13)) (kC (.int 1))) (kV 6))) (tBK (k2 (opIsN true) (k2 opIx (kV 5) (kV 13)) (kC .none)))) (kOk (kTup (kCons (k2 opIx (kV 5) (kV 13)) (kCons (k2 opIx (k2 opIx (kV 2) (kV 13)) (kC (.int 0))) kNil))))
def law_c4  : Rho → Option (Rs T) := eLc [14] (iIt (kOk (kV 7))) (gN 14) (tBK (k2 opLt (k2 opIx (kV 14) (kC (.int 0))) (kV 9))) (kOk (kV 14))
def law_b5  : Rho → Option Out := kill [9, 10] (sApp0 8 (eFz (eTup (eCons (e2 opAdd (kOk (kC (.int 1))) (eN opLen (eCons law_c4 eNil))) (eCons (kOk (kV 10)) (eCons (kOk (kV 9)) eNil))))))
def law_l6  : Rho → Option Out := sFor (iIt (eN opSorted (eCons (kOk (kV 7)) eNil))) (gTp 2 (gCs (gN 9) (gCs (gN 10) gNl))) law_b5
def law_c7  : Rho → Option (Rs T) := eLc [13] (iRange1 (eCons (kOk (kN opLen (kCons (kV 2) kNil))) eNil)) (gN 13) (tAnd (tBK (k2 opEq (k2 opIx (k2 opIx (kV 2) (kV 13)) (kC (.int 1))) (kV 6))) (tBK (k2 (opIsN false) (k2 opIx (kV 5) (kV 13)) (kC .none)))) (kOk (k2 opIx (k2 opIx (kV 2) (kV 13)) (kC (.int 0))))
def law_c8  : Rho → Option (Rs T) := eLc [10] (iIt (eN opSorted (eCons law_c7 eNil))) (gN 10) tYesF (kOk (kTup (kCons (kC .none) (kCons (kV 10) (kCons (kC .none) kNil)))))
def law_b9  : Rho → Option Out := kill [13] (sIf (tAnd (tBK (k2 opEq (k2 opIx (k2 opIx (kV 2) (kV 13)) (kC (.int 1))) (kV 6))) (tAnd (tBK (k2 opEq (k2 opIx (k2 opIx (kV 2) (kV 13)) (kC (.int 2))) (kV 12))) (tAnd (tBK (k2 (opIsN true) (k2 opIx (kV 5) (kV 13)) (kC .none))) (tOr (tBK (k2 (opIsN false) (kV 11) (kC .none))) (tBK (k2 opLt (k2 opIx (kV 5) (kV 13)) (kV 11))))))) (sSeq (sSet 11 (kOk (k2 opIx (kV 5) (kV 13))))
  (sApp0 8 (kOk (kTup (kCons (kV 12) (kCons (k2 opIx (k2 opIx (kV 2) (kV 13)) (kC (.int 0))) (kCons (kV 11) kNil))))))) sNil)
def law_l10  : Rho → Option Out := sFor (iRange1 (eCons (kOk (kN opLen (kCons (kV 2) kNil))) eNil)) (gN 13) law_b9
def law_b11  : Rho → Option Out := kill [12, 13] law_l10
def law_l12  : Rho → Option Out := sFor (iRange1 (eCons (kOk (kC (.int 4))) eNil)) (gN 12) law_b11
def law_b13  : Rho → Option Out := kill [6, 7, 8, 9, 10, 11, 12, 13] (sSeq (sSet 7 (eFz law_c3))
  (sSeq (sSet 8 (eLst eNil))
  (sSeq law_l6
  (sSeq (sSet 8 (e2 opAdd (eMv 8) law_c8))
  (sSeq (sIf (tNot (tV (eCall (law_equal_sem 12) (eCons (eFz (eCall ranking_sem (eCons (kOk (kV 3)) (eCons (kOk (kV 2)) (eCons (kOk (kV 6)) eNil))))) (eCons (eCp 8) eNil))))) (sRet (kOk (kC (.bool false)))) sNil)
  (sSeq (sSet 11 (kOk (kC .none)))
  (sSeq (sSet 8 (eLst eNil))
  (sSeq law_l12
  (sIf (tNot (tV (eCall (law_equal_sem 12) (eCons (eFz (eCall records_sem (eCons (kOk (kV 3)) (eCons (kOk (kV 2)) (eCons (kOk (kV 6)) eNil))))) (eCons (eCp 8) eNil))))) (sRet (kOk (kC (.bool false)))) sNil)))))))))
def law_l14  : Rho → Option Out := sFor (iIt (eLst (eCons (kOk (kC (.int 0))) (eCons (kOk (kC (.int 1))) (eCons (kOk (kC (.int 2))) (eCons (kOk (kC (.int 19))) eNil)))))) (gN 6) law_b13
def law_b : Rho → Option Out := (sSeq (sSet 1 (eLst (eCons (kOk (kCall law_numbers_sem (kCons (kV 0) kNil))) (eCons (kOk (kC (.int 0))) eNil))))
  (sSeq (sSet 2 (eFz (eCall law_results_sem (eBor 1 (eCons (eFz (e2 opAdd (kOk (kC (.int 1))) (e2 opMod (eCall law_draw_sem (eBor 1 eNil)) (kOk (kC (.int 8)))))) (eCons (eFz (e2 opAdd (kOk (kC (.int 1))) (e2 opMod (eCall law_draw_sem (eBor 1 eNil)) (kOk (kC (.int 4)))))) (eCons (eFz (e2 opAdd (kOk (kC (.int 1))) (e2 opMod (eCall law_draw_sem (eBor 1 eNil)) (kOk (kC (.int 24)))))) eNil)))))))
  (sSeq (sSet 3 (eFz (eCall law_rules_sem (eBor 1 eNil))))
  (sSeq (sSet 4 (eFz (eN opList (eCons (kOk (kV 2)) eNil))))
  (sSeq (sSet 5 (eFz law_c2))
  (sSeq (sIf (tOr (tNot (tV (eCall (law_equal_sem 12) (eCons (eFz (eCall full_times_sem (eCons (kOk (kV 3)) (eCons (kOk (kV 2)) eNil)))) (eCons (kOk (kV 5)) eNil))))) (tBK (k2 opNe (kV 2) (kV 4)))) (sRet (kOk (kC (.bool false)))) sNil)
  (sSeq law_l14
  (sRet (kOk (kC (.bool true)))))))))))
def law_sem : List T → Option Ret := semD 1 14 [] law_b
end K68

set_option maxHeartbeats 1000000
namespace Lv
namespace Ty
open PySem PySem.Spec PyProof.Rows L2 Lv
/-! ### typed programs -/
inductive P (α : Type) where
  | fail
  | ex (c : Str)
  | ok (a : α)
def P.bind {α β : Type} (t : P α) (k : α → P β) : P β := match t with
  | .ok a => k a
  | .ex c => .ex c
  | .fail => .fail
theorem b_ok {α β : Type} {a : α} {f : α → P β} : P.bind (.ok a) f = f a := rfl
def og {α β : Type} (o : Option α) (k : α → P β) : P β := match o with
  | some a => k a
  | none => .fail
def P.val {α : Type} : P α → Option α
  | .ok a => some a
  | _ => none
inductive C (σ R : Type) where
  | nx (s : σ)
  | bk (s : σ)
  | rt (r : R)
def foldP {α σ : Type} : List α → σ → (α → σ → P σ) → P σ
  | [], s, _ => .ok s
  | x :: xs, s, f => (f x s).bind fun s1 => foldP xs s1 f
def forB {α σ : Type} : List α → σ → (α → σ → P (Bool × σ)) → P σ
  | [], s, _ => .ok s
  | x :: xs, s, f => (f x s).bind fun q => if q.1 = true then forB xs q.2 f else .ok q.2
def forK {α σ R ω : Type} : List α → σ → (α → σ → P (C σ R)) → (σ → P ω) → (R → P ω) → P ω
  | [], s, _, k, _ => k s
  | x :: xs, s, f, k, kr => (f x s).bind fun q => match q with
    | .nx s1 => forK xs s1 f k kr
    | .bk s1 => k s1
    | .rt r => kr r
def whileP {σ : Type} (c : σ → P Bool) (f : σ → P σ) : Nat → σ → P σ
  | 0, _ => .fail
  | n + 1, s => (c s).bind fun b => if b = true then (f s).bind fun s1 => whileP c f n s1 else .ok s
def whileK {σ R ω : Type} (c : σ → P Bool) (f : σ → P (C σ R)) (k : σ → P ω) (kr : R → P ω) : Nat → σ → P ω
  | 0, _ => .fail
  | n + 1, s => (c s).bind fun b => if b = true then (f s).bind fun q => (match q with
    | .nx s1 => whileK c f k kr n s1
    | .bk s1 => k s1
    | .rt r => kr r) else k s
def mapP {α β : Type} : List α → (α → P β) → P (List β)
  | [], _ => .ok []
  | x :: xs, f => (f x).bind fun b => (mapP xs f).bind fun bs => .ok (b :: bs)
def lcP {α β : Type} : List α → (α → P (Option β)) → P (List β)
  | [], _ => .ok []
  | x :: xs, f => (f x).bind fun o => (lcP xs f).bind fun bs => .ok (match o with
    | some b => b :: bs
    | none => bs)
def mapS {α β σ : Type} : List α → σ → (α → σ → P (β × σ)) → P (List β × σ)
  | [], s, _ => .ok ([], s)
  | x :: xs, s, f => (f x s).bind fun q => (mapS xs q.2 f).bind fun r => .ok (q.1 :: r.1, r.2)
def lcS {α β σ : Type} : List α → σ → (α → σ → P (Option β × σ)) → P (List β × σ)
  | [], s, _ => .ok ([], s)
  | x :: xs, s, f => (f x s).bind fun q => (lcS xs q.2 f).bind fun r => .ok (match q.1 with
    | some b => b :: r.1
    | none => r.1, r.2)
/-! ### what is known of the slots -/
abbrev Ev := List (Option T)
structure Ag (Γ : Ev) (ρ : Rho) : Prop where
  len : ρ.length = Γ.length
  at_ : ∀ (i : Nat) (t : T), Γ[i]? = some (some t) → ρ[i]? = some (some t)
def mask : List Bool → Ev → Ev
  | b :: m, g :: Γ => (match b with
    | true => g
    | false => none) :: mask m Γ
  | _, Γ => Γ
theorem mask_len : ∀ (m : List Bool) (Γ : Ev), (mask m Γ).length = Γ.length
  | [], _ => rfl
  | _ :: _, [] => rfl
  | b :: m, g :: Γ => by simp [mask, mask_len m Γ]
theorem mask_at : ∀ (m : List Bool) (Γ : Ev) (i : Nat) (t : T), (mask m Γ)[i]? = some (some t) → Γ[i]? = some (some t)
  | [], _, _, _, h => h
  | _ :: _, [], _, _, h => h
  | b :: m, g :: Γ, 0, t, h => by
    cases b
    · simp [mask] at h
    · simpa [mask] using h
  | b :: m, g :: Γ, i + 1, t, h => by
    simp only [mask, List.getElem?_cons_succ] at h ⊢
    exact mask_at m Γ i t h
theorem wk {Γ : Ev} (m : List Bool) (ρ : Rho) (h : Ag Γ ρ) : Ag (mask m Γ) ρ := ⟨by rw [mask_len]; exact h.len, fun i t e => h.at_ i t (mask_at m Γ i t e)⟩
theorem Ag.set {Γ : Ev} {ρ : Rho} (h : Ag Γ ρ) (i : Nat) (o : Option T) : Ag (Γ.set i o) (ρ.set i o) := ⟨by simp [h.len], fun j t e => by
  rw [List.getElem?_set] at e ⊢
  split
  · next q =>
    rw [if_pos q] at e
    split at e
    · next q2 => rw [if_pos (by rw [h.len]; exact q2)]; exact e
    · cases e
  · next q => rw [if_neg q] at e; exact h.at_ j t e⟩
theorem Ag.drop {Γ : Ev} {ρ : Rho} (h : Ag Γ ρ) (i : Nat) (o : Option T) : Ag (Γ.set i none) (ρ.set i o) := ⟨by simp [h.len], fun j t e => by
  rw [List.getElem?_set] at e ⊢
  split
  · next q => rw [if_pos q] at e; split at e <;> cases e
  · next q => rw [if_neg q] at e; exact h.at_ j t e⟩
theorem Ag.wipe {Γ : Ev} {ρ : Rho} (h : Ag Γ ρ) : ∀ ks : List Nat, Ag (wipeR Γ ks) (wipeR ρ ks)
  | [] => h
  | k :: ks => (h.wipe ks).set k none
theorem Ag.refl {ρ : Rho} : Ag ρ ρ := ⟨rfl, fun _ _ e => e⟩
theorem Ag.slot {Γ : Ev} {ρ : Rho} {i : Nat} {t : T} (h : Ag Γ ρ) (e : Γ[i]? = some (some t)) : slot ρ i = some t := slot_of (h.at_ i t e)
theorem Ag.lt {Γ : Ev} {ρ : Rho} {i : Nat} (h : Ag Γ ρ) (e : i < Γ.length) : i < ρ.length := by rw [h.len]; exact e
/-! ### pure parts -/
def PK (k : Rho → Option T) (Γ : Ev) (a : T) : Prop := ∀ ρ, Ag Γ ρ → k ρ = some a
def PL (k : Rho → Option (List T)) (Γ : Ev) (as : List T) : Prop := ∀ ρ, Ag Γ ρ → k ρ = some as
def PP (k : Rho → Option (Option Int)) (Γ : Ev) (o : Option Int) : Prop := ∀ ρ, Ag Γ ρ → k ρ = some o
section
variable {Γ : Ev} {f g h : Rho → Option T} {l : Rho → Option (List T)} {a b c d : T} {as : List T}
theorem pk_c {d : D} : PK (kC d) Γ (.fr d) := fun _ _ => rfl
theorem pk_v {i : Nat} (e : Γ[i]? = some (some a)) : PK (kV i) Γ a := fun ρ h => by rw [kV_ap, h.slot e]
theorem pk_1 {op : T → Option T} (hf : PK f Γ a) (ho : op a = some b) : PK (k1 op f) Γ b := fun ρ h => by rw [k1_ap, hf ρ h]; exact ho
theorem pk_2 {op : T → T → Option T} (hf : PK f Γ a) (hg : PK g Γ b) (ho : op a b = some c) : PK (k2 op f g) Γ c := fun ρ h => by rw [k2_ap, hf ρ h, hg ρ h]; exact ho
theorem pk_ch {op op' : T → T → Option T} {x y : Bool} (hf : PK f Γ a) (hg : PK g Γ b) (hh : PK h Γ c) (h1 : op a b = some (.fr (.bool x))) (h2 : op' b c = some (.fr (.bool y))) : PK (kCh op op' f g h) Γ (.fr (.bool (x && y))) := fun ρ r => by
  unfold kCh
  rw [hf ρ r, hg ρ r]
  simp only [Option.bind_some, h1]
  cases x
  · rfl
  · simp only [hh ρ r, Option.bind_some, h2, Bool.true_and]
theorem pl_nil : PL kNil Γ [] := fun _ _ => rfl
theorem pl_cons (hf : PK f Γ a) (hl : PL l Γ as) : PL (kCons f l) Γ (a :: as) := fun ρ h => by rw [kCons_ap, hf ρ h, hl ρ h]; rfl
theorem pk_n {op : List T → Option T} (hl : PL l Γ as) (ho : op as = some b) : PK (kN op l) Γ b := fun ρ h => by unfold kN; rw [hl ρ h]; exact ho
theorem pk_mt {op : T → List T → Option T} (hf : PK f Γ a) (hl : PL l Γ as) (ho : op a as = some b) : PK (kMt op f l) Γ b := fun ρ h => by rw [kMt_ap, hf ρ h, hl ρ h]; exact ho
theorem pk_tup {ds : List D} (hl : PL l Γ as) (e : allFr as = some ds) (hz : ds.length ≤ SZ) : PK (kTup l) Γ (.fr (.tuple ds)) := fun ρ h => by
  unfold kTup; rw [hl ρ h]; simp only [Option.bind_some, e, if_pos hz]
theorem pk_lst {ds : List D} (hl : PL l Γ as) (e : allFr as = some ds) (hz : ds.length ≤ SZ) : PK (kLst l) Γ (.lst (ds.map .fr)) := fun ρ h => by
  unfold kLst; rw [hl ρ h]; simp only [Option.bind_some, e, if_pos hz]
theorem pk_isi {n s : String} {b : Bool} (hf : PK f Γ a) (e : typT a = some s) (hb : isaB s n = b) : PK (kIsi n f) Γ (.fr (.bool b)) := fun ρ h => by
  unfold kIsi; rw [hf ρ h]; simp only [Option.bind_some, e, Option.map_some, hb]
theorem pk_rev {ds : List D} (hf : PK f Γ a) (e : T.asL a = some ds) : PK (kRev f) Γ (.lst (ds.reverse.map .fr)) := fun ρ h => by
  unfold kRev; rw [hf ρ h]; simp only [Option.bind_some, e, Option.map_some]
theorem pk_lenSet (hf : PK f Γ a) (e : opLenSet a = some b) : PK (kLenSet f) Γ b := fun ρ h => by rw [kLenSet_ap, hf ρ h]; exact e
theorem pp_none : PP kNoPart Γ none := fun _ _ => rfl
theorem pp_some {i : Int} (hf : PK f Γ (.fr (.int i))) : PP (kPart f) Γ (some i) := fun ρ h => by unfold kPart; rw [hf ρ h]
theorem pk_sl {lo hi : Rho → Option (Option Int)} {x y : Option Int} (hf : PK f Γ a) (hl : PP lo Γ x) (hh : PP hi Γ y) (e : opSl x y a = some b) : PK (kSl f lo hi) Γ b := fun ρ h => by
  unfold kSl; rw [hf ρ h, hl ρ h, hh ρ h]; exact e
theorem pk_tr {x y : Int} (hf : PK f Γ (.fr (.int x))) (hg : PK g Γ (.fr (.int y))) (e : rgOkB x y = true) : PK (kTR f g) Γ (.fr (.tuple (rngD x (y - x).toNat))) := fun ρ h => by
  unfold kTR; rw [hf ρ h, hg ρ h]; simp only [rgI, Option.bind_some, if_pos e]
end
/-! ### what a def does -/
def SimD {R : Type} (o : Option Ret) (t : P R) (er : R → T) (os : R → List (Option T)) : Prop := match t with
  | .fail => True
  | .ex c => o = some (.ex c)
  | .ok r => o = some (.ok (er r) (os r))
theorem pk_call {R : Type} {Γ : Ev} {l : Rho → Option (List T)} {as : List T} {sem : List T → Option Ret} {t : P R} {er : R → T} {os : R → List (Option T)} {r : R} (hl : PL l Γ as) (ha : allF as = true) (h : SimD (sem as) t er os) (e : t.val = some r) : PK (kCall sem l) Γ (er r) := fun ρ q => by
  rw [kCall_ap, hl ρ q]
  simp only [Option.bind_some, if_pos ha]
  cases t with
  | fail => cases e
  | ex c => cases e
  | ok r' => cases e; rw [show sem as = some (.ok (er r) (os r)) from h]; rfl
/-! ### with effects -/
section
variable {α β γ R : Type} {X Γ : Ev}
/-- the same for all of them -/
def SX {W : Type} (X : Ev) (e : Rho → Option (Rs W)) (Γ : Ev) (t : P α) (v : α → W) (Γ' : α → Ev) : Prop := ∀ ρ, Ag Γ ρ → match t with
  | .fail => True
  | .ex c => ∃ ρ', e ρ = some (.ex c ρ') ∧ Ag X ρ'
  | .ok a => ∃ ρ', e ρ = some (.ok (v a) ρ') ∧ Ag (Γ' a) ρ'
/-- guards ahead -/
theorem sx_og {W : Type} {e : Rho → Option (Rs W)} {o : Option β} {t : β → P α} {v : α → W} {Γ' : α → Ev} (h : ∀ x, o = some x → SX X e Γ (t x) v Γ') : SX X e Γ (og o t) v Γ' := fun ρ a => by
  cases o with
  | none => trivial
  | some x => exact h x rfl ρ a
/-- the same value, told otherwise -/
theorem sx_k {e : Rho → Option T} {d : D} (h : PK e Γ (.fr d)) {x : α} {v : α → T} (hv : v x = .fr d) : SX X (kOk e) Γ (.ok x) v (fun _ => Γ) := fun ρ a => ⟨ρ, by rw [kOk_ap, h ρ a, hv]; rfl, a⟩
/-- one behind the other -/
theorem sx_bnd {V W : Type} {e : Rho → Option (Rs V)} {k : V → Rho → Option (Rs W)} {t : P α} {v : α → V} {Γ1 : α → Ev} {u : α → P β} {w : β → W} {Γ2 : β → Ev} (he : SX X e Γ t v Γ1) (hk : ∀ a, SX X (k (v a)) (Γ1 a) (u a) w Γ2) : SX X (fun ρ => bnd (e ρ) k) Γ (t.bind u) w Γ2 := fun ρ g => by
  have h := he ρ g
  cases t with
  | fail => trivial
  | ex c =>
    obtain ⟨ρ', e1, g1⟩ := h
    exact ⟨ρ', by show bnd (e ρ) k = _; rw [e1]; rfl, g1⟩
  | ok a =>
    obtain ⟨ρ', e1, g1⟩ := h
    have h2 := hk a ρ' g1
    show match u a with
      | .fail => True
      | .ex c => ∃ ρ', bnd (e ρ) k = some (.ex c ρ') ∧ Ag X ρ'
      | .ok b => ∃ ρ', bnd (e ρ) k = some (.ok (w b) ρ') ∧ Ag (Γ2 b) ρ'
    rw [e1]
    exact h2
/-- a pure step behind -/
theorem sx_map {V W : Type} {e : Rho → Option (Rs V)} {k : V → Rho → Option (Rs W)} {t : P α} {v : α → V} {Γ1 : α → Ev} {w : α → W} (he : SX X e Γ t v Γ1) (hk : ∀ a ρ, Ag (Γ1 a) ρ → k (v a) ρ = some (.ok (w a) ρ)) : SX X (fun ρ => bnd (e ρ) k) Γ t w Γ1 := fun ρ g => by
  have h := he ρ g
  cases t with
  | fail => trivial
  | ex c =>
    obtain ⟨ρ', e1, g1⟩ := h
    exact ⟨ρ', by show bnd (e ρ) k = _; rw [e1]; rfl, g1⟩
  | ok a =>
    obtain ⟨ρ', e1, g1⟩ := h
    exact ⟨ρ', by show bnd (e ρ) k = _; rw [e1]; exact hk a ρ' g1, g1⟩
/-- a value that is there at once -/
theorem sx_ret {W : Type} {e : Rho → Option (Rs W)} {x : α} {v : α → W} {Γ' : α → Ev} (h : ∀ ρ, Ag Γ ρ → ∃ ρ', e ρ = some (.ok (v x) ρ') ∧ Ag (Γ' x) ρ') : SX X e Γ (.ok x) v Γ' := h

/-! the pieces -/
variable {f g h : Rho → Option (Rs T)} {l : Rho → Option (Rs (List Ar))} {c c2 : Rho → Option (Rs Bool)} {δ : Type} {Γ1 : α → Ev} {Γ2 : β → Ev} {t : P α} {u : α → P β} {v : α → T} {w : β → T}
theorem sx_eq {W : Type} {e e' : Rho → Option (Rs W)} {t : P α} {v : α → W} {Γ' : α → Ev} (q : ∀ ρ, e ρ = e' ρ) (h : SX X e' Γ t v Γ') : SX X e Γ t v Γ' := fun ρ a => by rw [q ρ]; exact h ρ a
theorem sx_e1 {op : T → Option T} {w : α → T} (hf : SX X f Γ t v Γ1) (ho : ∀ a, op (v a) = some (w a)) : SX X (e1 op f) Γ t w Γ1 := sx_map hf fun a ρ _ => by simp [ho a]
/-- both with effects -/
theorem sx_e2 {op : T → T → Option T} {w2 : α → β → T} {z : α × β → T} (hf : SX X f Γ t v Γ1) (hg : ∀ a, SX X g (Γ1 a) (u a) (w2 a) Γ2) (ho : ∀ a b, op (v a) (w2 a b) = some (z (a, b))) : SX X (e2 op f g) Γ (t.bind fun a => (u a).bind fun b => .ok (a, b)) z (fun q => Γ2 q.2) :=
  sx_bnd hf fun a => sx_bnd (hg a) fun b => fun ρ r => ⟨ρ, by simp [ho a b], r⟩
/-- the right one pure -/
theorem sx_e2l {Γ0 : α → Ev} {op : T → T → Option T} {w2 : α → T} {z : α → T} (hf : SX X f Γ t v Γ1) (hg : ∀ a, SX X g (Γ1 a) (.ok ()) (fun _ => w2 a) (fun _ => Γ0 a)) (ho : ∀ a, op (v a) (w2 a) = some (z a)) : SX X (e2 op f g) Γ t z Γ0 := fun ρ r => by
  have q := hf ρ r
  cases t with
  | fail => trivial
  | ex c => obtain ⟨ρ', e1, g1⟩ := q; exact ⟨ρ', by unfold e2; rw [e1]; rfl, g1⟩
  | ok a =>
    obtain ⟨ρ', e1, g1⟩ := q
    obtain ⟨ρ2, e2', g2⟩ := hg a ρ' g1
    exact ⟨ρ2, by unfold e2; rw [e1, bnd_ok, e2', bnd_ok, ho a]; rfl, g2⟩
/-- the left one pure -/
theorem sx_e2r {Γ0 : Ev} {op : T → T → Option T} {v : T} {z : β → T} {u : P β} (hf : SX X f Γ (.ok ()) (fun _ => v) (fun _ => Γ0)) (hg : SX X g Γ0 u w Γ2) (ho : ∀ b, op v (w b) = some (z b)) : SX X (e2 op f g) Γ u z Γ2 := fun ρ r => by
  obtain ⟨ρ1, e1, g1⟩ := hf ρ r
  have q := hg ρ1 g1
  cases u with
  | fail => trivial
  | ex c => obtain ⟨ρ', e3, g3⟩ := q; exact ⟨ρ', by unfold e2; rw [e1, bnd_ok, e3]; rfl, g3⟩
  | ok a =>
    obtain ⟨ρ', e3, g3⟩ := q
    exact ⟨ρ', by unfold e2; rw [e1, bnd_ok, e3, bnd_ok, ho a]; rfl, g3⟩
theorem sa_nil : SX X eNil Γ (.ok ()) (fun _ => []) (fun _ => Γ) := fun ρ r => ⟨ρ, rfl, r⟩
theorem sa_cons {w : α → β → List Ar} {z : α × β → List Ar} (hf : SX X f Γ t v Γ1) (hg : ∀ a, SX X l (Γ1 a) (u a) (w a) Γ2) (hz : ∀ a b, z (a, b) = .own (v a) :: w a b) : SX X (eCons f l) Γ (t.bind fun a => (u a).bind fun b => .ok (a, b)) z (fun q => Γ2 q.2) :=
  sx_bnd hf fun a => sx_bnd (hg a) fun b => fun ρ r => ⟨ρ, by rw [hz], r⟩
theorem sa_consl {Γ0 : α → Ev} {w : α → List Ar} {z : α → List Ar} (hf : SX X f Γ t v Γ1) (hg : ∀ a, SX X l (Γ1 a) (.ok ()) (fun _ => w a) (fun _ => Γ0 a)) (hz : ∀ a, z a = .own (v a) :: w a) : SX X (eCons f l) Γ t z Γ0 := fun ρ r => by
  have q := hf ρ r
  cases t with
  | fail => trivial
  | ex c => obtain ⟨ρ', e1, g1⟩ := q; exact ⟨ρ', by unfold eCons; rw [e1]; rfl, g1⟩
  | ok a =>
    obtain ⟨ρ', e1, g1⟩ := q
    obtain ⟨ρ2, e2', g2⟩ := hg a ρ' g1
    exact ⟨ρ2, by unfold eCons; rw [e1, bnd_ok, e2', bnd_ok, hz a], g2⟩
theorem sa_consr {Γ0 : Ev} {v : T} {w z : β → List Ar} {u : P β} (hf : SX X f Γ (.ok ()) (fun _ => v) (fun _ => Γ0)) (hg : SX X l Γ0 u w Γ2) (hz : ∀ b, z b = .own v :: w b) : SX X (eCons f l) Γ u z Γ2 := fun ρ r => by
  obtain ⟨ρ1, e1, g1⟩ := hf ρ r
  have q := hg ρ1 g1
  cases u with
  | fail => trivial
  | ex c => obtain ⟨ρ', e3, g3⟩ := q; exact ⟨ρ', by unfold eCons; rw [e1, bnd_ok, e3]; rfl, g3⟩
  | ok a =>
    obtain ⟨ρ', e3, g3⟩ := q
    exact ⟨ρ', by unfold eCons; rw [e1, bnd_ok, e3, bnd_ok, hz a], g3⟩
theorem sa_bor {i : Nat} {a : T} {w z : β → List Ar} {u : P β} (e : Γ[i]? = some (some a)) (hg : SX X l Γ u w Γ2) (hz : ∀ b, z b = .bor i :: w b) : SX X (eBor i l) Γ u z Γ2 := fun ρ r => by
  have q := hg ρ r
  cases u with
  | fail => trivial
  | ex c => obtain ⟨ρ', e3, g3⟩ := q; exact ⟨ρ', by rw [eBor_ap, r.slot e]; simp only [e3]; rfl, g3⟩
  | ok b =>
    obtain ⟨ρ', e3, g3⟩ := q
    exact ⟨ρ', by rw [eBor_ap, r.slot e]; simp only [e3, hz b]; rfl, g3⟩
theorem sx_fz {w : α → D} (hf : SX X f Γ t v Γ1) (hd : ∀ a, (v a).dat = some (w a)) : SX X (eFz f) Γ t (fun a => .fr (w a)) Γ1 := sx_map hf fun a ρ _ => by simp [hd a]
theorem sx_n {op : List T → Option T} {as : α → List Ar} {ts : α → List T} {w : α → T} (hl : SX X l Γ t as Γ1) (h1 : ∀ a, ownsA (as a) = some (ts a)) (h2 : ∀ a, op (ts a) = some (w a)) : SX X (eN op l) Γ t w Γ1 := sx_map hl fun a ρ _ => by simp [h1 a, h2 a]
theorem sx_tup {as : α → List Ar} {ts : α → List T} {ds : α → List D} (hl : SX X l Γ t as Γ1) (h1 : ∀ a, ownsA (as a) = some (ts a)) (h2 : ∀ a, T.datL (ts a) = some (ds a)) (h3 : ∀ a, (ds a).length ≤ SZ) : SX X (eTup l) Γ t (fun a => .fr (.tuple (ds a))) Γ1 := sx_map hl fun a ρ _ => by simp only [h1 a, h2 a, Option.bind_some, if_pos (h3 a)]
theorem sx_lst {as : α → List Ar} {ts : α → List T} (hl : SX X l Γ t as Γ1) (h1 : ∀ a, ownsA (as a) = some (ts a)) (h3 : ∀ a, (ts a).length ≤ SZ) : SX X (eLst l) Γ t (fun a => .lst (ts a)) Γ1 := sx_map hl fun a ρ _ => by simp only [h1 a, Option.bind_some, if_pos (h3 a)]
theorem sx_mv {i : Nat} {a : T} (e : Γ[i]? = some (some a)) : SX X (eMv i) Γ (.ok ()) (fun _ => a) (fun _ => Γ.set i none) := fun ρ r => ⟨_, by rw [eMv_ap, r.slot e], r.set i none⟩
theorem sx_cp {i : Nat} {a : T} {d : D} (e : Γ[i]? = some (some a)) (hd : a.dat = some d) : SX X (eCp i) Γ (.ok ()) (fun _ => .fr d) (fun _ => Γ.set i (some (.fr d))) := fun ρ r => ⟨_, by rw [eCp_ap, r.slot e, cpk_ok, hd]; rfl, r.set i _⟩
theorem sx_sl {lo hi : Rho → Option (Option Int)} {x y : α → Option Int} {w : α → T} (hf : SX X f Γ t v Γ1) (hl : ∀ a, PP lo (Γ1 a) (x a)) (hh : ∀ a, PP hi (Γ1 a) (y a)) (e : ∀ a, opSl (x a) (y a) (v a) = some (w a)) : SX X (eSl f lo hi) Γ t w Γ1 := sx_map hf fun a ρ r => by simp only [hl a ρ r, hh a ρ r, Option.bind_some, e a, Option.map_some]
theorem sx_lr {f g : Rho → Option T} {x y : Int} (hf : PK f Γ (.fr (.int x))) (hg : PK g Γ (.fr (.int y))) (e : rgOkB x y = true) : SX X (eLR f g) Γ (.ok ()) (fun _ => .lst ((rngD x (y - x).toNat).map .fr)) (fun _ => Γ) := fun ρ h => ⟨ρ, by
  unfold eLR; rw [hf ρ h, hg ρ h]; simp only [rgI, Option.bind_some, if_pos e], h⟩
theorem sx_not {b : α → Bool} (hf : SX X f Γ t v Γ1) (hd : ∀ a, truth (v a) = some (b a)) : SX X (eNot f) Γ t (fun a => .fr (.bool (!b a))) Γ1 := sx_map hf fun a ρ _ => by simp [hd a]
theorem st_v {b : α → Bool} (hf : SX X f Γ t v Γ1) (hd : ∀ a, truth (v a) = some (b a)) : SX X (tV f) Γ t b Γ1 := sx_map hf fun a ρ _ => by simp [hd a]
theorem st_b {b : α → Bool} (hf : SX X f Γ t v Γ1) (hd : ∀ a, isB (v a) = some (b a)) : SX X (tB f) Γ t b Γ1 := sx_map hf fun a ρ _ => by simp [hd a]
theorem st_vk {f : Rho → Option T} {a : T} {b : Bool} {x : α} {z : α → Bool} (hf : PK f Γ a) (hd : truth a = some b) (hz : z x = b) : SX X (tVK f) Γ (.ok x) z (fun _ => Γ) := fun ρ r => ⟨ρ, by rw [tVK_ap, hf ρ r]; simp [hd, hz], r⟩
theorem st_bk {f : Rho → Option T} {a : T} {b : Bool} {x : α} {z : α → Bool} (hf : PK f Γ a) (hd : isB a = some b) (hz : z x = b) : SX X (tBK f) Γ (.ok x) z (fun _ => Γ) := fun ρ r => ⟨ρ, by rw [tBK_ap, hf ρ r]; simp [hd, hz], r⟩
theorem st_yes : SX X tYesF Γ (.ok ()) (fun _ => true) (fun _ => Γ) := fun ρ r => ⟨ρ, rfl, r⟩
theorem st_not {b : α → Bool} (hf : SX X c Γ t b Γ1) : SX X (tNot c) Γ t (fun a => !b a) Γ1 := sx_map hf fun a ρ _ => rfl
/-- both pure -/
theorem st_and {a b : Bool} (hf : SX X c Γ (.ok ()) (fun _ => a) (fun _ => Γ)) (hg : SX X c2 Γ (.ok ()) (fun _ => b) (fun _ => Γ)) : SX X (tAnd c c2) Γ (.ok ()) (fun _ => a && b) (fun _ => Γ) := fun ρ r => by
  obtain ⟨ρ1, e1, g1⟩ := hf ρ r
  obtain ⟨ρ2, e2, g2⟩ := hg ρ1 g1
  unfold tAnd
  rw [e1, bnd_ok]
  cases a
  · exact ⟨ρ1, rfl, g1⟩
  · exact ⟨ρ2, by simp [e2], g2⟩
theorem st_or {a b : Bool} (hf : SX X c Γ (.ok ()) (fun _ => a) (fun _ => Γ)) (hg : SX X c2 Γ (.ok ()) (fun _ => b) (fun _ => Γ)) : SX X (tOr c c2) Γ (.ok ()) (fun _ => a || b) (fun _ => Γ) := fun ρ r => by
  obtain ⟨ρ1, e1, g1⟩ := hf ρ r
  obtain ⟨ρ2, e2, g2⟩ := hg ρ1 g1
  unfold tOr
  rw [e1, bnd_ok]
  cases a
  · exact ⟨ρ2, by simp [e2], g2⟩
  · exact ⟨ρ1, rfl, g1⟩
/-- general: the second may have effects; ends told by γ -/
theorem st_andM {a : α → Bool} {u : α → P γ} {z : γ → Bool} {Γ3 : γ → Ev} (r : α → γ) (hf : SX X c Γ t a Γ1) (hg : ∀ x, a x = true → SX X c2 (Γ1 x) (u x) z Γ3) (h0 : ∀ x, a x = false → z (r x) = false) (h1 : ∀ x ρ, Ag (Γ1 x) ρ → Ag (Γ3 (r x)) ρ) :
    SX X (tAnd c c2) Γ (t.bind fun x => if a x = true then u x else .ok (r x)) z Γ3 := sx_bnd hf fun x => fun ρ q => by
  by_cases e : a x = true
  · simp only [e, if_true]; exact hg x e ρ q
  · have e' : a x = false := by simpa using e
    simp only [e', Bool.false_eq_true, if_false]
    exact ⟨ρ, by rw [h0 x e'], h1 x ρ q⟩
theorem st_orM {a : α → Bool} {u : α → P γ} {z : γ → Bool} {Γ3 : γ → Ev} (r : α → γ) (hf : SX X c Γ t a Γ1) (hg : ∀ x, a x = false → SX X c2 (Γ1 x) (u x) z Γ3) (h0 : ∀ x, a x = true → z (r x) = true) (h1 : ∀ x ρ, Ag (Γ1 x) ρ → Ag (Γ3 (r x)) ρ) :
    SX X (tOr c c2) Γ (t.bind fun x => if a x = true then .ok (r x) else u x) z Γ3 := sx_bnd hf fun x => fun ρ q => by
  by_cases e : a x = true
  · simp only [e, if_true]
    exact ⟨ρ, by rw [h0 x e], h1 x ρ q⟩
  · have e' : a x = false := by simpa using e
    simp only [e', Bool.false_eq_true, if_false]; exact hg x e' ρ q
/-- values: and, or -/
theorem sx_andM {a : α → Bool} {u : α → P γ} {z : γ → T} {Γ3 : γ → Ev} (r : α → γ) (hf : SX X f Γ t (fun x => .fr (.bool (a x))) Γ1) (hg : ∀ x, a x = true → SX X g (Γ1 x) (u x) z Γ3) (h0 : ∀ x, a x = false → z (r x) = .fr (.bool false)) (h1 : ∀ x ρ, Ag (Γ1 x) ρ → Ag (Γ3 (r x)) ρ) :
    SX X (eAnd f g) Γ (t.bind fun x => if a x = true then u x else .ok (r x)) z Γ3 := sx_bnd hf fun x => fun ρ q => by
  by_cases e : a x = true
  · simp only [e, if_true]; exact hg x e ρ q
  · have e' : a x = false := by simpa using e
    simp only [e', Bool.false_eq_true, if_false]
    exact ⟨ρ, by rw [h0 x e'], h1 x ρ q⟩
theorem sx_orM {a : α → Bool} {u : α → P γ} {z : γ → T} {Γ3 : γ → Ev} (r : α → γ) (hf : SX X f Γ t (fun x => .fr (.bool (a x))) Γ1) (hg : ∀ x, a x = false → SX X g (Γ1 x) (u x) z Γ3) (h0 : ∀ x, a x = true → z (r x) = .fr (.bool true)) (h1 : ∀ x ρ, Ag (Γ1 x) ρ → Ag (Γ3 (r x)) ρ) :
    SX X (eOr f g) Γ (t.bind fun x => if a x = true then .ok (r x) else u x) z Γ3 := sx_bnd hf fun x => fun ρ q => by
  by_cases e : a x = true
  · simp only [e, if_true]
    exact ⟨ρ, by rw [h0 x e], h1 x ρ q⟩
  · have e' : a x = false := by simpa using e
    simp only [e', Bool.false_eq_true, if_false]; exact hg x e' ρ q
theorem sx_and {a b : Bool} (hf : SX X f Γ (.ok ()) (fun _ => .fr (.bool a)) (fun _ => Γ)) (hg : SX X g Γ (.ok ()) (fun _ => .fr (.bool b)) (fun _ => Γ)) : SX X (eAnd f g) Γ (.ok ()) (fun _ => .fr (.bool (a && b))) (fun _ => Γ) := fun ρ r => by
  obtain ⟨ρ1, e1, g1⟩ := hf ρ r
  obtain ⟨ρ2, e2, g2⟩ := hg ρ1 g1
  unfold eAnd
  rw [e1, bnd_ok]
  cases a
  · exact ⟨ρ1, rfl, g1⟩
  · exact ⟨ρ2, by simp [e2], g2⟩
theorem sx_or {a b : Bool} (hf : SX X f Γ (.ok ()) (fun _ => .fr (.bool a)) (fun _ => Γ)) (hg : SX X g Γ (.ok ()) (fun _ => .fr (.bool b)) (fun _ => Γ)) : SX X (eOr f g) Γ (.ok ()) (fun _ => .fr (.bool (a || b))) (fun _ => Γ) := fun ρ r => by
  obtain ⟨ρ1, e1, g1⟩ := hf ρ r
  obtain ⟨ρ2, e2, g2⟩ := hg ρ1 g1
  unfold eOr
  rw [e1, bnd_ok]
  cases a
  · exact ⟨ρ2, by simp [e2], g2⟩
  · exact ⟨ρ1, rfl, g1⟩
/-- if of values -/
theorem sx_if {a : α → Bool} {u u2 : α → P γ} {z : γ → T} {Γ3 : γ → Ev} (hc : SX X c Γ t a Γ1) (hf : ∀ x, a x = true → SX X f (Γ1 x) (u x) z Γ3) (hg : ∀ x, a x = false → SX X g (Γ1 x) (u2 x) z Γ3) :
    SX X (eIf c f g) Γ (t.bind fun x => if a x = true then u x else u2 x) z Γ3 := sx_bnd hc fun x => fun ρ q => by
  by_cases e : a x = true
  · simp only [e, if_true]; exact hf x e ρ q
  · have e' : a x = false := by simpa using e
    simp only [e', Bool.false_eq_true, if_false]; exact hg x e' ρ q
theorem sx_ifp {a : Bool} {x y : T} (hc : SX X c Γ (.ok ()) (fun _ => a) (fun _ => Γ)) (hf : SX X f Γ (.ok ()) (fun _ => x) (fun _ => Γ)) (hg : SX X g Γ (.ok ()) (fun _ => y) (fun _ => Γ)) (z : T) (h1 : a = true → z = x) (h2 : a = false → z = y) : SX X (eIf c f g) Γ (.ok ()) (fun _ => z) (fun _ => Γ) := fun ρ r => by
  obtain ⟨ρ1, e1, g1⟩ := hc ρ r
  unfold eIf
  rw [e1, bnd_ok]
  cases a
  · rw [h2 rfl]; exact hg ρ1 g1
  · rw [h1 rfl]; exact hf ρ1 g1
/-- weaker, told by other data -/
theorem sx_re {W : Type} {e : Rho → Option (Rs W)} {v : α → W} {w : γ → W} {Γ3 : γ → Ev} (r : α → γ) (h : SX X e Γ t v Γ1) (hv : ∀ a, w (r a) = v a) (hg : ∀ a ρ, Ag (Γ1 a) ρ → Ag (Γ3 (r a)) ρ) : SX X e Γ (t.bind fun a => .ok (r a)) w Γ3 := fun ρ q => by
  have h := h ρ q
  cases t with
  | fail => trivial
  | ex c => exact h
  | ok a =>
    obtain ⟨ρ', e1, g1⟩ := h
    exact ⟨ρ', by rw [e1, hv a], hg a ρ' g1⟩
/-- calls -/
theorem Ag.take : ∀ {as : List Ar} {Γ Γ' : Ev} {ρ : Rho} {ts : List T}, Ag Γ ρ → takeA as Γ = some (ts, Γ') → ∃ ρ', takeA as ρ = some (ts, ρ') ∧ Ag Γ' ρ'
  | [], Γ, Γ', ρ, ts, g, e => by cases e; exact ⟨ρ, rfl, g⟩
  | .own t :: as, Γ, Γ', ρ, ts, g, e => by
    simp only [takeA] at e ⊢
    split at e
    · next ts2 ρ2 e2 =>
      cases e
      obtain ⟨ρ', e3, g3⟩ := g.take e2
      exact ⟨ρ', by rw [e3], g3⟩
    · cases e
  | .bor i :: as, Γ, Γ', ρ, ts, g, e => by
    simp only [takeA] at e ⊢
    split at e
    · next t e1 =>
      split at e
      · next ts2 ρ2 e2 =>
        cases e
        obtain ⟨ρ', e3, g3⟩ := (g.set i none).take e2
        exact ⟨ρ', by rw [g.at_ i t e1]; simp only [e3], g3⟩
      · cases e
    · cases e
theorem Ag.put : ∀ {as : List Ar} {os : List (Option T)} {Γ : Ev} {ρ : Rho}, Ag Γ ρ → Ag (putA as os Γ) (putA as os ρ)
  | .own _ :: as, _ :: os, Γ, ρ, g => g.put (as := as) (os := os)
  | .bor i :: as, o :: os, Γ, ρ, g => (g.set i o).put (as := as) (os := os)
  | [], _, _, _, g => by simpa [putA] using g
  | .own _ :: _, [], _, _, g => by simpa [putA] using g
  | .bor _ :: _, [], _, _, g => by simpa [putA] using g
/-- a call: its arguments told by a, its end by r -/
theorem sx_call {sem : List T → Option Ret} {as : α → List Ar} {ts : α → List T} {Γt : α → Ev} {ft : α → P R} {er : R → T} {os : α → R → List (Option T)} {z : α × R → T} {Γ3 : α × R → Ev} (hl : SX X l Γ t as Γ1) (ht : ∀ a, takeA (as a) (Γ1 a) = some (ts a, Γt a)) (h : ∀ a, SimD (sem (ts a)) (ft a) er (os a)) (hx : ∀ a ρ, Ag (Γt a) ρ → Ag X ρ)
    (hz : ∀ a r, z (a, r) = er r) (h3 : ∀ a r, Γ3 (a, r) = putA (as a) (os a r) (Γt a)) : SX X (eCall sem l) Γ (t.bind fun a => (ft a).bind fun r => .ok (a, r)) z Γ3 := sx_eq (fun ρ => eCall_ap) (sx_bnd hl fun a ρ q => by
  obtain ⟨ρ2, e2, g2⟩ := q.take (ht a)
  have hs := h a
  simp only [e2]
  cases e : ft a with
  | fail => trivial
  | ex c => rw [e] at hs; exact ⟨ρ2, by rw [rA_ok, show sem (ts a) = some (.ex c) from hs]; rfl, hx a ρ2 g2⟩
  | ok r => rw [e] at hs; exact ⟨_, by rw [rA_ok, show sem (ts a) = some (.ok (er r) (os a r)) from hs, hz]; rfl, by rw [h3]; exact g2.put⟩)
/-- the arguments pure -/
theorem sx_callp {Γ0 : Ev} {sem : List T → Option Ret} {as : List Ar} {ts : List T} {Γt : Ev} {ft : P R} {er : R → T} {os : R → List (Option T)} {Γ3 : R → Ev} (hl : SX X l Γ (.ok ()) (fun _ => as) (fun _ => Γ0)) (ht : takeA as Γ0 = some (ts, Γt)) (h : SimD (sem ts) ft er os) (hx : ∀ ρ, Ag Γt ρ → Ag X ρ)
    (h3 : ∀ r, Γ3 r = putA as (os r) Γt) : SX X (eCall sem l) Γ ft er Γ3 := fun ρ q => by
  obtain ⟨ρ1, e1, g1⟩ := hl ρ q
  obtain ⟨ρ2, e2, g2⟩ := g1.take ht
  rw [eCall_ap, e1, bnd_ok, e2]
  cases e : ft with
  | fail => trivial
  | ex c => rw [e] at h; exact ⟨ρ2, by rw [rA_ok, show sem ts = some (.ex c) from h]; rfl, hx ρ2 g2⟩
  | ok r => rw [e] at h; exact ⟨_, by rw [rA_ok, show sem ts = some (.ok (er r) (os r)) from h]; rfl, by rw [h3]; exact g2.put⟩
end
end Ty
end Lv

set_option maxHeartbeats 1000000
namespace Lv
namespace Ty
open PySem PySem.Spec PyProof.Rows L2 Lv
section
variable {α β γ R σ ω : Type} {X Γ : Ev}
/-! ### targets, what is walked -/
def SG (g : D → Rho → Option Rho) (d : D) (Γ Γ' : Ev) : Prop := ∀ ρ, Ag Γ ρ → ∃ ρ', g d ρ = some ρ' ∧ Ag Γ' ρ'
def SGs (g : List D → Rho → Option Rho) (ds : List D) (Γ Γ' : Ev) : Prop := ∀ ρ, Ag Γ ρ → ∃ ρ', g ds ρ = some ρ' ∧ Ag Γ' ρ'
theorem sg_n {i : Nat} {d : D} (h : i < Γ.length) : SG (gN i) d Γ (Γ.set i (some (.fr d))) := fun ρ r => ⟨_, by unfold gN; rw [if_pos (r.lt h)], r.set i _⟩
theorem sgs_nil : SGs gNl [] Γ Γ := fun ρ r => ⟨ρ, rfl, r⟩
theorem sgs_cons {g : D → Rho → Option Rho} {gs : List D → Rho → Option Rho} {d : D} {ds : List D} {Γ1 Γ2 : Ev} (h : SG g d Γ Γ1) (hs : SGs gs ds Γ1 Γ2) : SGs (gCs g gs) (d :: ds) Γ Γ2 := fun ρ r => by
  obtain ⟨ρ1, e1, g1⟩ := h ρ r
  obtain ⟨ρ2, e2, g2⟩ := hs ρ1 g1
  exact ⟨ρ2, by unfold gCs; simp [e1, e2], g2⟩
theorem sg_tp {n : Nat} {gs : List D → Rho → Option Rho} {ds : List D} {Γ1 : Ev} (hs : SGs gs ds Γ Γ1) (h : ds.length = n) : SG (gTp n gs) (.tuple ds) Γ Γ1 := fun ρ r => by
  obtain ⟨ρ2, e2, g2⟩ := hs ρ r
  exact ⟨ρ2, by unfold gTp; simp [h, e2], g2⟩
variable {f : Rho → Option (Rs T)} {l : Rho → Option (Rs (List Ar))} {c : Rho → Option (Rs Bool)} {fi : Rho → Option (Rs (List D))} {Γ1 : α → Ev} {t : P α} {v : α → T}
theorem si_it {ds : α → List D} {d : α → D} (hf : SX X f Γ t v Γ1) (h1 : ∀ a, (v a).dat = some (d a)) (h2 : ∀ a, itemsD (d a) = some (ds a)) : SX X (iIt f) Γ t ds Γ1 := sx_map hf fun a ρ _ => by simp [h1 a, h2 a]
theorem si_r1 {as : α → List Ar} {j : α → Int} (hl : SX X l Γ t as Γ1) (h : ∀ a, as a = [.own (.fr (.int (j a)))]) (hj : ∀ a, j a ≤ 16777216 ∧ -16777216 ≤ j a) : SX X (iRange1 l) Γ t (fun a => rngD 0 (j a).toNat) Γ1 := sx_map hl fun a ρ _ => by simp only [h a, if_pos (hj a)]
theorem si_r2 {as : α → List Ar} {i j : α → Int} (hl : SX X l Γ t as Γ1) (h : ∀ a, as a = [.own (.fr (.int (i a))), .own (.fr (.int (j a)))]) (hj : ∀ a, -4000000000000000000 ≤ i a ∧ i a ≤ 4000000000000000000 ∧ -4000000000000000000 ≤ j a ∧ j a ≤ 4000000000000000000 ∧ j a - i a ≤ 16777216) : SX X (iRange2 l) Γ t (fun a => rngD (i a) (j a - i a).toNat) Γ1 := sx_map hl fun a ρ _ => by simp only [h a, if_pos (hj a)]
theorem si_r3 {as : α → List Ar} {i j c : α → Int} (hl : SX X l Γ t as Γ1) (h : ∀ a, as a = [.own (.fr (.int (i a))), .own (.fr (.int (j a))), .own (.fr (.int (c a)))]) (hj : ∀ a, c a ≠ 0 ∧ (c a).natAbs < 1073741824 ∧ Builtin.Range.small (i a) (j a) (c a) = true ∧ 0 ≤ Builtin.Range.rangeSize (i a) (j a) (c a) ∧ Builtin.Range.rangeSize (i a) (j a) (c a) ≤ 16777216) : SX X (iRange3 l) Γ t (fun a => rngC (i a) (c a) (Builtin.Range.rangeSize (i a) (j a) (c a)).toNat) Γ1 := sx_map hl fun a ρ _ => by simp only [h a, if_pos (hj a)]
/-! ### statements -/
def SY (X : Ev) (s : Rho → Option Out) (Γ : Ev) (G : P ω) (Ψ : ω → Out → Prop) : Prop := ∀ ρ, Ag Γ ρ → match G with
  | .fail => True
  | .ex c => ∃ ρ', s ρ = some (.ex c ρ') ∧ Ag X ρ'
  | .ok w => ∃ o, s ρ = some o ∧ Ψ w o
def nxO (Γo : σ → Ev) : σ → Out → Prop := fun a o => ∃ ρ', o = .nx ρ' ∧ Ag (Γo a) ρ'
def fnO (er : R → T) (pn : R → Ev) : R → Out → Prop := fun r o => ∃ ρ', (o = .rt (er r) ρ' ∨ (o = .nx ρ' ∧ er r = .fr .none)) ∧ Ag (pn r) ρ'
def lpO (Γo : σ → Ev) : σ → Out → Prop := fun a o => ∃ ρ', (o = .nx ρ' ∨ o = .ct ρ') ∧ Ag (Γo a) ρ'
def lbO (Γo : σ → Ev) : Bool × σ → Out → Prop := fun q o => if q.1 = true then lpO Γo q.2 o else ∃ ρ', o = .bk ρ' ∧ Ag (Γo q.2) ρ'
def lkO (Γo : σ → Ev) (ΨR : R → Out → Prop) : C σ R → Out → Prop := fun q o => match q with
  | .nx s => lpO Γo s o
  | .bk s => ∃ ρ', o = .bk ρ' ∧ Ag (Γo s) ρ'
  | .rt r => (∃ x ρ', o = .rt x ρ') ∧ ΨR r o
variable {s s1 s2 s3 : Rho → Option Out} {G : P ω} {Ψ : ω → Out → Prop}
theorem sy_eq (q : ∀ ρ, s ρ = s1 ρ) (h : SY X s1 Γ G Ψ) : SY X s Γ G Ψ := fun ρ a => by rw [q ρ]; exact h ρ a
theorem sy_og {o : Option β} {G : β → P ω} (h : ∀ x, o = some x → SY X s Γ (G x) Ψ) : SY X s Γ (og o G) Ψ := fun ρ a => by
  cases o with
  | none => trivial
  | some x => exact h x rfl ρ a
theorem sy_lt {o : α} {G : α → P ω} (h : ∀ x, x = o → SY X s Γ (G x) Ψ) : SY X s Γ (P.bind (.ok o) G) Ψ := h o rfl
theorem sy_seq {G1 : P α} {G2 : α → P ω} (h1 : SY X s1 Γ G1 (nxO Γ1)) (h2 : ∀ a, SY X s2 (Γ1 a) (G2 a) Ψ) : SY X (sSeq s1 s2) Γ (G1.bind G2) Ψ := fun ρ g => by
  have h := h1 ρ g
  unfold sSeq
  cases G1 with
  | fail => trivial
  | ex c => obtain ⟨ρ', e, g'⟩ := h; exact ⟨ρ', by rw [e], g'⟩
  | ok a => obtain ⟨o, e, ρ', rfl, g'⟩ := h; rw [e]; exact h2 a ρ' g'
theorem sy_last {G1 : P α} {w : α → ω} (h1 : SY X s Γ G1 (nxO Γ1)) (hw : ∀ a ρ, Ag (Γ1 a) ρ → Ψ (w a) (.nx ρ)) : SY X s Γ (G1.bind fun a => .ok (w a)) Ψ := fun ρ g => by
  have h := h1 ρ g
  cases G1 with
  | fail => trivial
  | ex c => exact h
  | ok a => obtain ⟨o, e, ρ', rfl, g'⟩ := h; exact ⟨_, e, hw a ρ' g'⟩
theorem sy_nil : SY X sNil Γ (.ok ()) (nxO fun _ => Γ) := fun ρ g => ⟨_, rfl, ρ, rfl, g⟩
theorem sy_nilseq (h : SY X s Γ G Ψ) : SY X (sSeq sNil s) Γ G Ψ := h
theorem sy_assoc (h : SY X (sSeq s1 (sSeq s2 s3)) Γ G Ψ) : SY X (sSeq (sSeq s1 s2) s3) Γ G Ψ := sy_eq (fun ρ => by unfold sSeq; cases s1 ρ with
  | none => rfl
  | some o => cases o <;> rfl) h
theorem sy_killassoc {ks : List Nat} (h : SY X s Γ G Ψ) : SY X s Γ G Ψ := h
theorem of_sx {w : α → ω} {k : T → Rho → Option Out} (hf : SX X f Γ t v Γ1) (hk : ∀ a ρ, Ag (Γ1 a) ρ → ∃ o, k (v a) ρ = some o ∧ Ψ (w a) o) : SY X (fun ρ => ofR (f ρ) k) Γ (t.bind fun a => .ok (w a)) Ψ := fun ρ g => by
  have h := hf ρ g
  cases t with
  | fail => trivial
  | ex c => obtain ⟨ρ', e, g'⟩ := h; exact ⟨ρ', by show ofR (f ρ) k = _; rw [e]; rfl, g'⟩
  | ok a =>
    obtain ⟨ρ', e, g'⟩ := h
    obtain ⟨o, e2, q⟩ := hk a ρ' g'
    exact ⟨o, by show ofR (f ρ) k = _; rw [e]; exact e2, q⟩
theorem of_sxn {W : Type} {f : Rho → Option (Rs W)} {v : α → W} {Γ2 : α → Ev} {k : W → Rho → Option Out} (hf : SX X f Γ t v Γ1) (hk : ∀ a ρ, Ag (Γ1 a) ρ → ∃ ρ', k (v a) ρ = some (.nx ρ') ∧ Ag (Γ2 a) ρ') : SY X (fun ρ => ofR (f ρ) k) Γ t (nxO Γ2) := fun ρ g => by
  have h := hf ρ g
  cases t with
  | fail => trivial
  | ex c => obtain ⟨ρ', e, g'⟩ := h; exact ⟨ρ', by show ofR (f ρ) k = _; rw [e]; rfl, g'⟩
  | ok a =>
    obtain ⟨ρ', e, g'⟩ := h
    obtain ⟨ρ2, e2, q⟩ := hk a ρ' g'
    exact ⟨_, by show ofR (f ρ) k = _; rw [e]; exact e2, ρ2, rfl, q⟩
theorem sy_set {i : Nat} (hf : SX X f Γ t v Γ1) (hl : ∀ a, i < (Γ1 a).length) : SY X (sSet i f) Γ t (nxO fun a => (Γ1 a).set i (some (v a))) := of_sxn hf fun a ρ g => ⟨_, by rw [if_pos (g.lt (hl a))], g.set i _⟩
theorem sy_expr (hf : SX X f Γ t v Γ1) : SY X (sExpr f) Γ t (nxO Γ1) := of_sxn hf fun a ρ g => ⟨_, rfl, g⟩
theorem sy_tgt {g : D → Rho → Option Rho} {d : α → D} {Γ2 : α → Ev} (hf : SX X f Γ t v Γ1) (hd : ∀ a, (v a).dat = some (d a)) (hg : ∀ a, SG g (d a) (Γ1 a) (Γ2 a)) : SY X (sTgt g f) Γ t (nxO Γ2) := of_sxn hf fun a ρ q => by
  obtain ⟨ρ', e, g'⟩ := hg a ρ q
  exact ⟨ρ', by simp [hd a, e], g'⟩
theorem sy_par {i j : Nat} {as : α → List Ar} {d e : α → D} (hf : SX X l Γ t as Γ1) (h : ∀ a, as a = [.own (.fr (d a)), .own (.fr (e a))]) (hl : ∀ a, i < (Γ1 a).length ∧ j < (Γ1 a).length) : SY X (sPar i j l) Γ t (nxO fun a => ((Γ1 a).set i (some (.fr (d a)))).set j (some (.fr (e a)))) := of_sxn hf fun a ρ g => ⟨_, by rw [h a]; simp only [if_pos (⟨g.lt (hl a).1, g.lt (hl a).2⟩ : i < ρ.length ∧ j < ρ.length)], (g.set i _).set j _⟩
theorem sy_par3 {i j m : Nat} {as : α → List Ar} {d e h : α → D} (hf : SX X l Γ t as Γ1) (hh : ∀ a, as a = [.own (.fr (d a)), .own (.fr (e a)), .own (.fr (h a))]) (hl : ∀ a, i < (Γ1 a).length ∧ j < (Γ1 a).length ∧ m < (Γ1 a).length) : SY X (sPar3 i j m l) Γ t (nxO fun a => (((Γ1 a).set i (some (.fr (d a)))).set j (some (.fr (e a)))).set m (some (.fr (h a)))) := of_sxn hf fun a ρ g => ⟨_, by rw [hh a]; simp only [if_pos (⟨g.lt (hl a).1, g.lt (hl a).2.1, g.lt (hl a).2.2⟩ : i < ρ.length ∧ j < ρ.length ∧ m < ρ.length)], ((g.set i _).set j _).set m _⟩
theorem sy_aug {i : Nat} {op : T → T → Option T} {d : D} {u : α → T} (e : Γ[i]? = some (some (.fr d))) (hf : SX X f Γ t v Γ1) (ho : ∀ a, op (.fr d) (v a) = some (u a)) (hl : ∀ a, i < (Γ1 a).length) : SY X (sAug i op f) Γ t (nxO fun a => (Γ1 a).set i (some (u a))) := fun ρ g => by
  have q : sAug i op f ρ = ofR (f ρ) fun t ρ1 => (op (.fr d) t).bind fun u => if i < ρ1.length then some (.nx (ρ1.set i (some u))) else none := by unfold sAug; rw [g.at_ i _ e]
  have h := of_sxn (k := fun t ρ1 => (op (.fr d) t).bind fun u => if i < ρ1.length then some (.nx (ρ1.set i (some u))) else none) (Γ2 := fun a => (Γ1 a).set i (some (u a))) hf (fun a ρ g => ⟨_, by simp only [ho a, Option.bind_some, if_pos (g.lt (hl a))], g.set i _⟩) ρ g
  rw [q]; exact h
theorem sy_ret {er : ω → T} {pn : ω → Ev} (r : α → ω) (hf : SX X f Γ t v Γ1) (hv : ∀ a, er (r a) = v a) (hp : ∀ a ρ, Ag (Γ1 a) ρ → Ag (pn (r a)) ρ) : SY X (sRet f) Γ (t.bind fun a => .ok (r a)) (fnO er pn) := of_sx hf fun a ρ g => ⟨_, rfl, ρ, .inl (by rw [hv]), hp a ρ g⟩
theorem sy_retk {Γo : σ → Ev} {er : R → T} {pn : R → Ev} (r : α → R) (hf : SX X f Γ t v Γ1) (hv : ∀ a, er (r a) = v a) (hp : ∀ a ρ, Ag (Γ1 a) ρ → Ag (pn (r a)) ρ) : SY X (sRet f) Γ (t.bind fun a => .ok (.rt (r a))) (lkO Γo (fnO er pn)) := of_sx hf fun a ρ g => ⟨_, rfl, ⟨_, _, rfl⟩, ρ, .inl (by rw [hv]), hp a ρ g⟩
theorem sy_retkk {Γo : σ → Ev} {Γi : β → Ev} {er : R → T} {pn : R → Ev} (r : α → R) (hf : SX X f Γ t v Γ1) (hv : ∀ a, er (r a) = v a) (hp : ∀ a ρ, Ag (Γ1 a) ρ → Ag (pn (r a)) ρ) : SY X (sRet f) Γ (t.bind fun a => .ok (.rt (.rt (r a)))) (lkO Γi (lkO Γo (fnO er pn))) := of_sx hf fun a ρ g => ⟨_, rfl, ⟨_, _, rfl⟩, ⟨_, _, rfl⟩, ρ, .inl (by rw [hv]), hp a ρ g⟩
theorem sy_retN {f : Rho → Option (Rs T)} {Ψ : ω → Out → Prop} (h : SY X (sRet (kOk (kC .none))) Γ G Ψ) : SY X sRetN Γ G Ψ := h
theorem sy_retseq (h : SY X (sRet f) Γ G Ψ) : SY X (sSeq (sRet f) s) Γ G Ψ := sy_eq (fun ρ => by unfold sSeq sRet; cases f ρ with
  | none => rfl
  | some o => cases o <;> rfl) h
theorem sy_retNseq (h : SY X sRetN Γ G Ψ) : SY X (sSeq sRetN s) Γ G Ψ := h
theorem sy_raise {c : Str} (hx : ∀ ρ, Ag Γ ρ → Ag X ρ) : SY X (sRaise c) Γ (.ex c : P ω) Ψ := fun ρ g => ⟨ρ, rfl, hx ρ g⟩
theorem sy_raiseseq {c : Str} (h : SY X (sRaise c) Γ G Ψ) : SY X (sSeq (sRaise c) s) Γ G Ψ := h
theorem sy_bkseq (h : SY X sBk Γ G Ψ) : SY X (sSeq sBk s) Γ G Ψ := h
theorem sy_ctseq (h : SY X sCt Γ G Ψ) : SY X (sSeq sCt s) Γ G Ψ := h
theorem sy_bkb {Γo : σ → Ev} (a : σ) (h : ∀ ρ, Ag Γ ρ → Ag (Γo a) ρ) : SY X sBk Γ (.ok (false, a)) (lbO Γo) := fun ρ g => ⟨_, rfl, ρ, rfl, h ρ g⟩
theorem sy_ctb {Γo : σ → Ev} (a : σ) (h : ∀ ρ, Ag Γ ρ → Ag (Γo a) ρ) : SY X sCt Γ (.ok (true, a)) (lbO Γo) := fun ρ g => ⟨_, rfl, ρ, .inr rfl, h ρ g⟩
theorem sy_ctp {Γo : σ → Ev} (a : σ) (h : ∀ ρ, Ag Γ ρ → Ag (Γo a) ρ) : SY X sCt Γ (.ok a) (lpO Γo) := fun ρ g => ⟨_, rfl, ρ, .inr rfl, h ρ g⟩
theorem sy_bkk {Γo : σ → Ev} {ΨR : R → Out → Prop} (a : σ) (h : ∀ ρ, Ag Γ ρ → Ag (Γo a) ρ) : SY X sBk Γ (.ok (.bk a)) (lkO Γo ΨR) := fun ρ g => ⟨_, rfl, ρ, rfl, h ρ g⟩
theorem sy_ctk {Γo : σ → Ev} {ΨR : R → Out → Prop} (a : σ) (h : ∀ ρ, Ag Γ ρ → Ag (Γo a) ρ) : SY X sCt Γ (.ok (.nx a)) (lkO Γo ΨR) := fun ρ g => ⟨_, rfl, ρ, .inr rfl, h ρ g⟩
theorem sy_if {a : α → Bool} {u u2 : α → P ω} (hc : SX X c Γ t a Γ1) (hf : ∀ x, a x = true → SY X s1 (Γ1 x) (u x) Ψ) (hg : ∀ x, a x = false → SY X s2 (Γ1 x) (u2 x) Ψ) : SY X (sIf c s1 s2) Γ (t.bind fun x => if a x = true then u x else u2 x) Ψ := fun ρ g => by
  have h := hc ρ g
  unfold sIf
  cases t with
  | fail => trivial
  | ex c => obtain ⟨ρ', e, g'⟩ := h; exact ⟨ρ', by rw [e]; rfl, g'⟩
  | ok x =>
    obtain ⟨ρ', e, g'⟩ := h
    rw [e, ofR_ok]
    by_cases q : a x = true
    · show match (if a x = true then u x else u2 x) with | .fail => True | .ex c => _ | .ok w => _
      rw [if_pos q, if_pos q]; exact hf x q ρ' g'
    · have q' : a x = false := by simpa using q
      show match (if a x = true then u x else u2 x) with | .fail => True | .ex c => _ | .ok w => _
      rw [if_neg q, if_neg q]; exact hg x q' ρ' g'
theorem sy_ifseq (h : SY X (sIf c (sSeq s1 s3) (sSeq s2 s3)) Γ G Ψ) : SY X (sSeq (sIf c s1 s2) s3) Γ G Ψ := sy_eq (fun ρ => by unfold sSeq sIf; cases c ρ with
  | none => rfl
  | some o => cases o with
    | ex c ρ' => rfl
    | ok b ρ' => cases b <;> rfl) h
/-! what a list becomes -/
theorem sy_app0 {i : Nat} {ts : List T} {us : α → List T} (e : Γ[i]? = some (some (.lst ts))) (hf : SX X f Γ t v Γ1) (e2 : ∀ a, (Γ1 a)[i]? = some (some (.lst (us a)))) (hs : ∀ a, (us a).length < SZ) : SY X (sApp0 i f) Γ t (nxO fun a => (Γ1 a).set i (some (.lst (us a ++ [v a])))) := fun ρ g => by
  have q : sApp0 i f ρ = ofR (f ρ) fun t ρ1 => (match slot ρ1 i with
    | some (.lst ts) => if ts.length < SZ then some (.nx (ρ1.set i (some (.lst (ts ++ [t]))))) else none
    | _ => none) := by unfold sApp0; rw [g.slot e]; try rfl
  have h := of_sxn (k := fun t ρ1 => (match slot ρ1 i with
    | some (.lst ts) => if ts.length < SZ then some (.nx (ρ1.set i (some (.lst (ts ++ [t]))))) else none
    | _ => none)) (Γ2 := fun a => (Γ1 a).set i (some (.lst (us a ++ [v a])))) hf (fun a ρ g => ⟨_, by rw [g.slot (e2 a)]; simp only [if_pos (hs a)], g.set i _⟩) ρ g
  rw [q]; exact h
/-! kill -/
theorem sy_killN {ks : List Nat} {Γo : α → Ev} {G : P α} (h : SY X s Γ G (nxO Γo)) (hk : ∀ a, wipeR (Γo a) ks = Γo a) : SY X (kill ks s) Γ G (nxO Γo) := fun ρ g => by
  have q := h ρ g
  cases G with
  | fail => trivial
  | ex c => obtain ⟨ρ', e, g'⟩ := q; exact ⟨ρ', by unfold kill; rw [e], g'⟩
  | ok a => obtain ⟨o, e, ρ', rfl, g'⟩ := q; exact ⟨_, by unfold kill; rw [e], _, rfl, by have := g'.wipe ks; rw [hk] at this; exact this⟩
theorem lp_kill {ks : List Nat} {Γo : α → Ev} {a : α} {o : Out} (q : lpO Γo a o) (hk : wipeR (Γo a) ks = Γo a) : ∃ o', (∀ ρ, s ρ = some o → kill ks s ρ = some o') ∧ lpO Γo a o' := by
  obtain ⟨ρ', e | e, g'⟩ := q
  · subst e; exact ⟨.nx (wipeR ρ' ks), fun ρ e => by unfold kill; rw [e], _, .inl rfl, by have := g'.wipe ks; rw [hk] at this; exact this⟩
  · subst e; exact ⟨.ct (wipeR ρ' ks), fun ρ e => by unfold kill; rw [e], _, .inr rfl, by have := g'.wipe ks; rw [hk] at this; exact this⟩
theorem sy_killP {ks : List Nat} {Γo : α → Ev} {G : P α} (h : SY X s Γ G (lpO Γo)) (hk : ∀ a, wipeR (Γo a) ks = Γo a) : SY X (kill ks s) Γ G (lpO Γo) := fun ρ g => by
  have q := h ρ g
  cases G with
  | fail => trivial
  | ex c => obtain ⟨ρ', e, g'⟩ := q; exact ⟨ρ', by unfold kill; rw [e], g'⟩
  | ok a =>
    obtain ⟨o, e, q⟩ := q
    obtain ⟨o', h1, h2⟩ := lp_kill (s := s) q (hk a)
    exact ⟨o', h1 ρ e, h2⟩
theorem sy_killB {ks : List Nat} {Γo : α → Ev} {G : P (Bool × α)} (h : SY X s Γ G (lbO Γo)) (hk : ∀ a, wipeR (Γo a) ks = Γo a) : SY X (kill ks s) Γ G (lbO Γo) := fun ρ g => by
  have q := h ρ g
  cases G with
  | fail => trivial
  | ex c => obtain ⟨ρ', e, g'⟩ := q; exact ⟨ρ', by unfold kill; rw [e], g'⟩
  | ok a =>
    obtain ⟨o, e, q⟩ := q
    unfold lbO at q
    split at q
    · next z =>
      obtain ⟨o', h1, h2⟩ := lp_kill (s := s) q (hk a.2)
      exact ⟨o', h1 ρ e, by unfold lbO; rw [if_pos z]; exact h2⟩
    · next z => obtain ⟨ρ', e2, g'⟩ := q; subst e2; exact ⟨_, by unfold kill; rw [e], by unfold lbO; rw [if_neg z]; exact ⟨ρ', rfl, g'⟩⟩
theorem sy_killK {ks : List Nat} {Γo : α → Ev} {ΨR : R → Out → Prop} {G : P (C α R)} (h : SY X s Γ G (lkO Γo ΨR)) (hk : ∀ a, wipeR (Γo a) ks = Γo a) : SY X (kill ks s) Γ G (lkO Γo ΨR) := fun ρ g => by
  have q := h ρ g
  cases G with
  | fail => trivial
  | ex c => obtain ⟨ρ', e, g'⟩ := q; exact ⟨ρ', by unfold kill; rw [e], g'⟩
  | ok a =>
    obtain ⟨o, e, q⟩ := q
    cases a with
    | nx a =>
      obtain ⟨o', h1, h2⟩ := lp_kill (s := s) q (hk a)
      exact ⟨o', h1 ρ e, h2⟩
    | bk a => obtain ⟨ρ', e2, g'⟩ := q; subst e2; exact ⟨_, by unfold kill; rw [e], ρ', rfl, g'⟩
    | rt r => obtain ⟨⟨x, ρ', e2⟩, q⟩ := q; subst e2; exact ⟨_, by unfold kill; rw [e], ⟨x, ρ', rfl⟩, q⟩
/-! loops -/
theorem loop_fold {g : D → Rho → Option Rho} {fb : Rho → Option Out} {enc : β → D} {Γo : σ → Ev} {Γg : β → σ → Ev} {body : β → σ → P σ} (hg : ∀ x s, SG g (enc x) (Γo s) (Γg x s)) (hb : ∀ x s, SY X fb (Γg x s) (body x s) (lpO Γo)) : ∀ (xs : List β) (s : σ) (ρ : Rho), Ag (Γo s) ρ → match foldP xs s body with
    | .fail => True
    | .ex c => ∃ ρ', loopF g fb sNil (xs.map enc) ρ = some (.ex c ρ') ∧ Ag X ρ'
    | .ok w => ∃ o, loopF g fb sNil (xs.map enc) ρ = some o ∧ nxO Γo w o
  | [], s, ρ, a => ⟨_, rfl, ρ, rfl, a⟩
  | x :: xs, s, ρ, a => by
    obtain ⟨ρ1, e1, g1⟩ := hg x s ρ a
    have q := hb x s ρ1 g1
    simp only [foldP, List.map_cons, loopF, e1]
    cases e : body x s with
    | fail => trivial
    | ex c => rw [e] at q; obtain ⟨ρ2, e2, g2⟩ := q; exact ⟨ρ2, by rw [e2], g2⟩
    | ok s1 =>
      rw [e] at q
      obtain ⟨o, e2, ρ2, z, g2⟩ := q
      have ih := loop_fold hg hb xs s1 ρ2 g2
      rcases z with z | z
      · subst z; rw [e2]; exact ih
      · subst z; rw [e2]; exact ih
theorem loop_b {g : D → Rho → Option Rho} {fb : Rho → Option Out} {enc : β → D} {Γo : σ → Ev} {Γg : β → σ → Ev} {body : β → σ → P (Bool × σ)} (hg : ∀ x s, SG g (enc x) (Γo s) (Γg x s)) (hb : ∀ x s, SY X fb (Γg x s) (body x s) (lbO Γo)) : ∀ (xs : List β) (s : σ) (ρ : Rho), Ag (Γo s) ρ → match forB xs s body with
    | .fail => True
    | .ex c => ∃ ρ', loopF g fb sNil (xs.map enc) ρ = some (.ex c ρ') ∧ Ag X ρ'
    | .ok w => ∃ o, loopF g fb sNil (xs.map enc) ρ = some o ∧ nxO Γo w o
  | [], s, ρ, a => ⟨_, rfl, ρ, rfl, a⟩
  | x :: xs, s, ρ, a => by
    obtain ⟨ρ1, e1, g1⟩ := hg x s ρ a
    have q := hb x s ρ1 g1
    simp only [forB, List.map_cons, loopF, e1]
    cases e : body x s with
    | fail => trivial
    | ex c => rw [e] at q; obtain ⟨ρ2, e2, g2⟩ := q; exact ⟨ρ2, by rw [e2], g2⟩
    | ok s1 =>
      rw [e] at q
      obtain ⟨o, e2, q⟩ := q
      obtain ⟨b, s1⟩ := s1
      cases b with
      | true =>
        obtain ⟨ρ2, z, g2⟩ := (q : lpO Γo s1 o)
        have ih := loop_b hg hb xs s1 ρ2 g2
        rcases z with z | z
        · subst z; rw [e2]; exact ih
        · subst z; rw [e2]; exact ih
      | false =>
        obtain ⟨ρ2, z, g2⟩ := (q : ∃ ρ', o = .bk ρ' ∧ Ag (Γo s1) ρ')
        subst z; rw [e2]; exact ⟨_, rfl, ρ2, rfl, g2⟩
variable {xs : α → List β} {st : α → σ} {g : D → Rho → Option Rho} {fb : Rho → Option Out} {enc : β → D} {Γo : σ → Ev} {Γg : β → σ → Ev}
theorem sy_for {ds : α → List D} {body : β → σ → P σ} (hi : SX X fi Γ t ds Γ1) (hd : ∀ a, ds a = (xs a).map enc) (h0 : ∀ a ρ, Ag (Γ1 a) ρ → Ag (Γo (st a)) ρ) (hg : ∀ x s, SG g (enc x) (Γo s) (Γg x s)) (hb : ∀ x s, SY X fb (Γg x s) (body x s) (lpO Γo)) :
    SY X (sFor fi g fb) Γ (t.bind fun a => foldP (xs a) (st a) body) (nxO Γo) := fun ρ q => by
  have h := hi ρ q
  unfold sFor
  cases t with
  | fail => trivial
  | ex c => obtain ⟨ρ', e, g'⟩ := h; exact ⟨ρ', by rw [e]; rfl, g'⟩
  | ok a =>
    obtain ⟨ρ', e, g'⟩ := h
    rw [e, ofR_ok, hd a]
    exact loop_fold hg hb (xs a) (st a) ρ' (h0 a ρ' g')
theorem sy_forB {ds : α → List D} {body : β → σ → P (Bool × σ)} (hi : SX X fi Γ t ds Γ1) (hd : ∀ a, ds a = (xs a).map enc) (h0 : ∀ a ρ, Ag (Γ1 a) ρ → Ag (Γo (st a)) ρ) (hg : ∀ x s, SG g (enc x) (Γo s) (Γg x s)) (hb : ∀ x s, SY X fb (Γg x s) (body x s) (lbO Γo)) :
    SY X (sFor fi g fb) Γ (t.bind fun a => forB (xs a) (st a) body) (nxO Γo) := fun ρ q => by
  have h := hi ρ q
  unfold sFor
  cases t with
  | fail => trivial
  | ex c => obtain ⟨ρ', e, g'⟩ := h; exact ⟨ρ', by rw [e]; rfl, g'⟩
  | ok a =>
    obtain ⟨ρ', e, g'⟩ := h
    rw [e, ofR_ok, hd a]
    exact loop_b hg hb (xs a) (st a) ρ' (h0 a ρ' g')
theorem loop_k {body : β → σ → P (C σ R)} {k : σ → P ω} {kr : R → P ω} {ΨR : R → Out → Prop} (hg : ∀ x s, SG g (enc x) (Γo s) (Γg x s)) (hb : ∀ x s, SY X fb (Γg x s) (body x s) (lkO Γo ΨR)) (hk : ∀ s, SY X s3 (Γo s) (k s) Ψ)
    (hr : ∀ r x ρ, ΨR r (.rt x ρ) → ∃ w, kr r = .ok w ∧ Ψ w (.rt x ρ)) : ∀ (xs : List β) (s : σ) (ρ : Rho), Ag (Γo s) ρ → match forK xs s body k kr with
    | .fail => True
    | .ex c => ∃ ρ', sSeq (loopF g fb sNil (xs.map enc)) s3 ρ = some (.ex c ρ') ∧ Ag X ρ'
    | .ok w => ∃ o, sSeq (loopF g fb sNil (xs.map enc)) s3 ρ = some o ∧ Ψ w o
  | [], s, ρ, a => hk s ρ a
  | x :: xs, s, ρ, a => by
    obtain ⟨ρ1, e1, g1⟩ := hg x s ρ a
    have q := hb x s ρ1 g1
    simp only [forK, List.map_cons, sSeq, loopF, e1]
    cases e : body x s with
    | fail => trivial
    | ex c => rw [e] at q; obtain ⟨ρ2, e2, g2⟩ := q; exact ⟨ρ2, by simp only [e2], g2⟩
    | ok s1 =>
      rw [e] at q
      obtain ⟨o, e2, q⟩ := q
      cases s1 with
      | nx s1 =>
        obtain ⟨ρ2, z, g2⟩ := (q : lpO Γo s1 o)
        have ih := loop_k hg hb hk hr xs s1 ρ2 g2
        rcases z with z | z
        · subst z; simp only [e2]; exact ih
        · subst z; simp only [e2]; exact ih
      | bk s1 =>
        obtain ⟨ρ2, z, g2⟩ := (q : ∃ ρ', o = .bk ρ' ∧ Ag (Γo s1) ρ')
        subst z; simp only [e2]; exact hk s1 ρ2 g2
      | rt r =>
        obtain ⟨⟨x, ρ2, z⟩, q⟩ := q
        subst z
        obtain ⟨w, e3, q3⟩ := hr r x ρ2 q
        simp only [e2, P.bind, e3]
        exact ⟨_, rfl, q3⟩
theorem sy_forK {ds : α → List D} {body : β → σ → P (C σ R)} {k : α → σ → P ω} {kr : R → P ω} {ΨR : R → Out → Prop} (hi : SX X fi Γ t ds Γ1) (hd : ∀ a, ds a = (xs a).map enc) (h0 : ∀ a ρ, Ag (Γ1 a) ρ → Ag (Γo (st a)) ρ) (hg : ∀ x s, SG g (enc x) (Γo s) (Γg x s)) (hb : ∀ x s, SY X fb (Γg x s) (body x s) (lkO Γo ΨR)) (hk : ∀ a s, SY X s3 (Γo s) (k a s) Ψ)
    (hr : ∀ r x ρ, ΨR r (.rt x ρ) → ∃ w, kr r = .ok w ∧ Ψ w (.rt x ρ)) :
    SY X (sSeq (sFor fi g fb) s3) Γ (t.bind fun a => forK (xs a) (st a) body (k a) kr) Ψ := fun ρ q => by
  have h := hi ρ q
  cases t with
  | fail => trivial
  | ex c => obtain ⟨ρ', e, g'⟩ := h; exact ⟨ρ', by unfold sSeq sFor; rw [e]; rfl, g'⟩
  | ok a =>
    obtain ⟨ρ', e, g'⟩ := h
    have e2 : sSeq (sFor fi g fb) s3 ρ = sSeq (loopF g fb sNil ((xs a).map enc)) s3 ρ' := by unfold sSeq sFor; rw [e, ofR_ok, hd a]
    rw [e2]
    exact loop_k hg hb (hk a) hr (xs a) (st a) ρ' (h0 a ρ' g')
theorem hr_fn {er : R → T} {pn : R → Ev} : ∀ (r : R) x ρ, fnO er pn r (.rt x ρ) → ∃ w, (P.ok r) = .ok w ∧ fnO er pn w (.rt x ρ) := fun r x ρ h => ⟨r, rfl, h⟩
theorem hr_lk {Γo : σ → Ev} {ΨR : R → Out → Prop} : ∀ (r : R) x ρ, ΨR r (.rt x ρ) → ∃ w, (P.ok (C.rt r : C σ R)) = .ok w ∧ lkO Γo ΨR w (.rt x ρ) := fun r x ρ h => ⟨_, rfl, ⟨x, ρ, rfl⟩, h⟩
/-- a loop at the end of a body -/
theorem sy_endseq (h : SY X (sSeq s sNil) Γ G Ψ) : SY X s Γ G Ψ := sy_eq (fun ρ => by unfold sSeq; cases s ρ with
  | none => rfl
  | some o => cases o <;> rfl) h
theorem sy_fnend {er : R → T} {pn : R → Ev} (r : R) (hv : er r = .fr .none) (hp : ∀ ρ, Ag Γ ρ → Ag (pn r) ρ) : SY X sNil Γ (.ok r) (fnO er pn) := fun ρ g => ⟨_, rfl, ρ, .inr ⟨rfl, hv⟩, hp ρ g⟩
theorem sy_lpend {Γo : σ → Ev} (a : σ) (h : ∀ ρ, Ag Γ ρ → Ag (Γo a) ρ) : SY X sNil Γ (.ok a) (lpO Γo) := fun ρ g => ⟨_, rfl, ρ, .inl rfl, h ρ g⟩
theorem sy_nxend {Γo : σ → Ev} (a : σ) (h : ∀ ρ, Ag Γ ρ → Ag (Γo a) ρ) : SY X sNil Γ (.ok a) (nxO Γo) := fun ρ g => ⟨_, rfl, ρ, rfl, h ρ g⟩
theorem sy_lbend {Γo : σ → Ev} (a : σ) (h : ∀ ρ, Ag Γ ρ → Ag (Γo a) ρ) : SY X sNil Γ (.ok (true, a)) (lbO Γo) := fun ρ g => ⟨_, rfl, ρ, .inl rfl, h ρ g⟩
theorem sy_lkend {Γo : σ → Ev} {ΨR : R → Out → Prop} (a : σ) (h : ∀ ρ, Ag Γ ρ → Ag (Γo a) ρ) : SY X sNil Γ (.ok (.nx a)) (lkO Γo ΨR) := fun ρ g => ⟨_, rfl, ρ, .inl rfl, h ρ g⟩
/-! while -/
theorem loop_while {fc : Rho → Option (Rs Bool)} {tc : σ → P Bool} {body : σ → P σ} (hc : ∀ s, SX X fc (Γo s) (tc s) (fun b => b) (fun _ => Γo s)) (hb : ∀ s, SY X fb (Γo s) (body s) (lpO Γo)) : ∀ (n : Nat) (s : σ) (ρ : Rho), Ag (Γo s) ρ → match whileP tc body n s with
    | .fail => True
    | .ex c => ∃ ρ', loopW fc fb n ρ = some (.ex c ρ') ∧ Ag X ρ'
    | .ok w => ∃ o, loopW fc fb n ρ = some o ∧ nxO Γo w o
  | 0, s, ρ, a => trivial
  | n + 1, s, ρ, a => by
    have q := hc s ρ a
    simp only [whileP, loopW]
    cases e : tc s with
    | fail => trivial
    | ex c => rw [e] at q; obtain ⟨ρ2, e2, g2⟩ := q; exact ⟨ρ2, by rw [e2], g2⟩
    | ok b =>
      rw [e] at q
      obtain ⟨ρ1, e1, g1⟩ := q
      cases b with
      | false => simp only [e1]; exact ⟨_, rfl, ρ1, rfl, g1⟩
      | true =>
        simp only [e1, if_true]
        have q := hb s ρ1 g1
        cases e : body s with
        | fail => trivial
        | ex c => rw [e] at q; obtain ⟨ρ2, e2, g2⟩ := q; exact ⟨ρ2, by rw [e2], g2⟩
        | ok s1 =>
          rw [e] at q
          obtain ⟨o, e2, ρ2, z, g2⟩ := q
          have ih := loop_while hc hb n s1 ρ2 g2
          rcases z with z | z
          · subst z; rw [e2]; exact ih
          · subst z; rw [e2]; exact ih
theorem sy_while {fc : Rho → Option (Rs Bool)} {tc : σ → P Bool} {body : σ → P σ} {s0 : σ} (h0 : ∀ ρ, Ag Γ ρ → Ag (Γo s0) ρ) (hc : ∀ s, SX X fc (Γo s) (tc s) (fun b => b) (fun _ => Γo s)) (hb : ∀ s, SY X fb (Γo s) (body s) (lpO Γo)) : SY X (sWhile fc fb) Γ (whileP tc body big s0) (nxO Γo) := fun ρ q => loop_while hc hb big s0 ρ (h0 ρ q)
theorem loop_whileK {fc : Rho → Option (Rs Bool)} {tc : σ → P Bool} {body : σ → P (C σ R)} {k : σ → P ω} {kr : R → P ω} {ΨR : R → Out → Prop} (hc : ∀ s, SX X fc (Γo s) (tc s) (fun b => b) (fun _ => Γo s)) (hb : ∀ s, SY X fb (Γo s) (body s) (lkO Γo ΨR)) (hk : ∀ s, SY X s3 (Γo s) (k s) Ψ)
    (hr : ∀ r x ρ, ΨR r (.rt x ρ) → ∃ w, kr r = .ok w ∧ Ψ w (.rt x ρ)) : ∀ (n : Nat) (s : σ) (ρ : Rho), Ag (Γo s) ρ → match whileK tc body k kr n s with
    | .fail => True
    | .ex c => ∃ ρ', sSeq (loopW fc fb n) s3 ρ = some (.ex c ρ') ∧ Ag X ρ'
    | .ok w => ∃ o, sSeq (loopW fc fb n) s3 ρ = some o ∧ Ψ w o
  | 0, s, ρ, a => trivial
  | n + 1, s, ρ, a => by
    have q := hc s ρ a
    simp only [whileK, sSeq, loopW]
    cases e : tc s with
    | fail => trivial
    | ex c => rw [e] at q; obtain ⟨ρ2, e2, g2⟩ := q; exact ⟨ρ2, by simp only [e2], g2⟩
    | ok b =>
      rw [e] at q
      obtain ⟨ρ1, e1, g1⟩ := q
      cases b with
      | false => simp only [e1, Bool.false_eq_true, if_false]; exact hk s ρ1 g1
      | true =>
        simp only [e1, if_true]
        have q := hb s ρ1 g1
        cases e : body s with
        | fail => trivial
        | ex c => rw [e] at q; obtain ⟨ρ2, e2, g2⟩ := q; exact ⟨ρ2, by simp only [e2], g2⟩
        | ok s1 =>
          rw [e] at q
          obtain ⟨o, e2, q⟩ := q
          cases s1 with
          | nx s1 =>
            obtain ⟨ρ2, z, g2⟩ := (q : lpO Γo s1 o)
            have ih := loop_whileK hc hb hk hr n s1 ρ2 g2
            rcases z with z | z
            · subst z; simp only [e2]; exact ih
            · subst z; simp only [e2]; exact ih
          | bk s1 =>
            obtain ⟨ρ2, z, g2⟩ := (q : ∃ ρ', o = .bk ρ' ∧ Ag (Γo s1) ρ')
            subst z; simp only [e2]; exact hk s1 ρ2 g2
          | rt r =>
            obtain ⟨⟨x, ρ2, z⟩, q⟩ := q
            subst z
            obtain ⟨w, e3, q3⟩ := hr r x ρ2 q
            simp only [e2, P.bind, e3, if_true]
            exact ⟨_, rfl, q3⟩
theorem sy_whileK {fc : Rho → Option (Rs Bool)} {tc : σ → P Bool} {body : σ → P (C σ R)} {k : σ → P ω} {kr : R → P ω} {ΨR : R → Out → Prop} {s0 : σ} (h0 : ∀ ρ, Ag Γ ρ → Ag (Γo s0) ρ) (hc : ∀ s, SX X fc (Γo s) (tc s) (fun b => b) (fun _ => Γo s)) (hb : ∀ s, SY X fb (Γo s) (body s) (lkO Γo ΨR)) (hk : ∀ s, SY X s3 (Γo s) (k s) Ψ)
    (hr : ∀ r x ρ, ΨR r (.rt x ρ) → ∃ w, kr r = .ok w ∧ Ψ w (.rt x ρ)) : SY X (sSeq (sWhile fc fb) s3) Γ (whileK tc body k kr big s0) Ψ := fun ρ q => loop_whileK hc hb hk hr big s0 ρ (h0 ρ q)
/-! try -/
def tryP {ω : Type} (G : P ω) (H : Str → P ω) : P ω := match G with
  | .ex c => H c
  | t => t
theorem sy_try {m : ExT} {hs : List (Str × (Rho → Option Out))} {Y : Ev} {G : P ω} {H : Str → P ω} (hb : SY Y s Γ G Ψ) (hn : ∀ w c ρ, ¬ Ψ w (.ex c ρ)) (hh : ∀ c, SY X (handle m hs c) Y (H c) Ψ) : SY X (sTry m s hs) Γ (tryP G H) Ψ := fun ρ q => by
  have h := hb ρ q
  unfold sTry
  cases G with
  | fail => trivial
  | ex c => obtain ⟨ρ', e, g'⟩ := h; simp only [e, tryP]; exact hh c ρ' g'
  | ok w =>
    obtain ⟨o, e, q⟩ := h
    simp only [tryP]
    refine ⟨o, ?_, q⟩
    rw [e]
    cases o with
    | ex c ρ => exact absurd q (hn w c ρ)
    | _ => rfl
theorem nx_ne {Γo : σ → Ev} : ∀ w c ρ, ¬ nxO Γo w (.ex c ρ) := fun w c ρ ⟨_, e, _⟩ => by cases e
theorem fn_ne {er : R → T} {pn : R → Ev} : ∀ w c ρ, ¬ fnO er pn w (.ex c ρ) := fun w c ρ ⟨_, e, _⟩ => by rcases e with e | ⟨e, _⟩ <;> cases e
theorem lp_ne {Γo : σ → Ev} : ∀ w c ρ, ¬ lpO Γo w (.ex c ρ) := fun w c ρ ⟨_, e, _⟩ => by rcases e with e | e <;> cases e
theorem lb_ne {Γo : σ → Ev} : ∀ w c ρ, ¬ lbO Γo w (.ex c ρ) := fun w c ρ h => by
  unfold lbO at h
  split at h
  · exact lp_ne _ _ _ h
  · obtain ⟨_, e, _⟩ := h; cases e
theorem lk_ne {Γo : σ → Ev} {ΨR : R → Out → Prop} : ∀ w c ρ, ¬ lkO Γo ΨR w (.ex c ρ) := fun w c ρ h => by
  cases w with
  | nx s => exact lp_ne _ _ _ (h : lpO Γo s _)
  | bk s => obtain ⟨_, e, _⟩ := (h : ∃ ρ', _ = Out.bk ρ' ∧ _); cases e
  | rt r => obtain ⟨⟨_, _, e⟩, _⟩ := h; cases e
theorem sh_yes {m : ExT} {hs : List (Str × (Rho → Option Out))} {c x : Str} {f : Rho → Option Out} (e : exLook m c x = some true) (h : SY X f Γ G Ψ) : SY X (handle m ((x, f) :: hs) c) Γ G Ψ := sy_eq (fun ρ => by simp only [handle, e]) h
theorem sh_no {m : ExT} {hs : List (Str × (Rho → Option Out))} {c x : Str} {f : Rho → Option Out} (e : exLook m c x = some false) (h : SY X (handle m hs c) Γ G Ψ) : SY X (handle m ((x, f) :: hs) c) Γ G Ψ := sy_eq (fun ρ => by simp only [handle, e]) h
/-- which clause takes a class; the clauses' own programs told by a list -/
theorem sh_if {m : ExT} {hs : List (Str × (Rho → Option Out))} {c x : Str} {f : Rho → Option Out} {G1 G2 : P ω} (h1 : SY X f Γ G1 Ψ) (h2 : SY X (handle m hs c) Γ G2 Ψ) : SY X (handle m ((x, f) :: hs) c) Γ (match exLook m c x with | some true => G1 | some false => G2 | none => .fail) Ψ := fun ρ q => by
  simp only [handle]
  cases e : exLook m c x with
  | none => trivial
  | some b =>
    cases b
    · simp only []; exact h2 ρ q
    · simp only []; exact h1 ρ q
theorem sh_nil {m : ExT} {c : Str} (h : ∀ ρ, Ag Γ ρ → Ag X ρ) : SY X (handle m [] c) Γ (.ex c : P ω) Ψ := fun ρ q => ⟨ρ, rfl, h ρ q⟩
/-! ### defs -/
theorem outs_ag {pin : List Nat} {Γ : Ev} {ρ : Rho} (g : Ag Γ ρ) : ∀ (ts : List T) (j : Nat), (∀ i ∈ pin, (slot Γ i).isSome = true) → outs pin ρ ts j = outs pin Γ ts j
  | [], _, _ => rfl
  | t :: r, j, h => by
    simp only [outs]
    rw [outs_ag g r (j + 1) h]
    congr 1
    split
    · next hj =>
      have := h j hj
      cases e : slot Γ j with
      | none => rw [e] at this; cases this
      | some u => exact g.slot (slot_some e)
    · rfl
theorem sim_def {n m : Nat} {pin : List Nat} {body : Rho → Option Out} {ts : List T} {G : P R} {er : R → T} {pn : R → Ev} {k : Nat} (hn : ts.length = n) (hp : ∀ r, ∀ i ∈ pin, (slot (pn r) i).isSome = true) (h : SY (List.replicate k none) body (ts.map some ++ List.replicate m none) G (fnO er pn)) : SimD (semD n m pin body ts) G er (fun r => outs pin (pn r) ts 0) := by
  have q := h _ .refl
  unfold semD
  rw [if_pos hn]
  cases G with
  | fail => trivial
  | ex c => obtain ⟨ρ', e, _⟩ := q; show _ = _; rw [e]
  | ok r =>
    obtain ⟨o, e, ρ', z, g⟩ := q
    show _ = _
    rw [e]
    rcases z with z | ⟨z, z2⟩
    · subst z; simp only [outs_ag g ts 0 (hp r)]
    · subst z; simp only [outs_ag g ts 0 (hp r), z2]
end
/-! ### comprehensions -/
section
variable {α β γ R σ ω : Type} {X Γ : Ev} {fi : Rho → Option (Rs (List D))} {t : P α} {Γ1 : α → Ev} {g : D → Rho → Option Rho} {fc : Rho → Option (Rs Bool)} {fe : Rho → Option (Rs T)} {own : List Nat}
def backE (Γ0 Γ : Ev) : List Nat → Ev
  | [] => Γ
  | v :: vs => (backE Γ0 Γ vs).set v (match Γ0[v]? with
    | some (some (.fr d)) => some (.fr d)
    | _ => none)
theorem Ag.back {Γ0 Γ : Ev} {ρ0 ρ : Rho} (h0 : Ag Γ0 ρ0) (h : Ag Γ ρ) : ∀ vs : List Nat, Ag (backE Γ0 Γ vs) (backR ρ0 ρ vs)
  | [] => h
  | v :: vs => by
    simp only [backE, backR]
    split
    · next d e => rw [h0.at_ v _ e]; exact (h0.back h vs).set v _
    · exact (h0.back h vs).drop v _
/-- all pure -/
theorem cl_pure {enc : β → D} {Γc : Ev} {c : β → Bool} {v : β → T} {Γg : β → Ev} (hg : ∀ x, SG g (enc x) Γc (Γg x)) (hc : ∀ x, SX X fc (Γg x) (.ok ()) (fun _ => c x) (fun _ => Γg x)) (he : ∀ x, SX X fe (Γg x) (.ok ()) (fun _ => v x) (fun _ => Γg x)) (hw : ∀ x, wipeR (Γg x) own = Γc) :
    ∀ (xs : List β) (ρ : Rho), Ag Γc ρ → ∃ ρ', cLoop own g fc fe (xs.map enc) ρ = some ((xs.filter c).map v, ρ') ∧ Ag Γc ρ'
  | [], ρ, a => ⟨ρ, rfl, a⟩
  | x :: xs, ρ, a => by
    obtain ⟨ρ1, e1, g1⟩ := hg x ρ a
    obtain ⟨ρ2, e2, g2⟩ := hc x ρ1 g1
    simp only [List.map_cons, cLoop, e1, e2, List.filter_cons]
    cases c x with
    | false =>
      have g3 := g2.wipe own
      rw [hw x] at g3
      obtain ⟨ρ4, e4, g4⟩ := cl_pure hg hc he hw xs _ g3
      exact ⟨ρ4, by simpa using e4, g4⟩
    | true =>
      obtain ⟨ρ3, e3, g3⟩ := he x ρ2 g2
      have g4 := g3.wipe own
      rw [hw x] at g4
      obtain ⟨ρ4, e4, g4⟩ := cl_pure hg hc he hw xs _ g4
      exact ⟨ρ4, by simp [e3, e4], g4⟩
theorem sx_lc {xs : α → List β} {ds : α → List D} {enc : β → D} {c : α → β → Bool} {v : α → β → T} {Γg : α → β → Ev} (hi : SX X fi Γ t ds Γ1) (hd : ∀ a, ds a = (xs a).map enc) (hg : ∀ a x, SG g (enc x) (wipeR (Γ1 a) own) (Γg a x)) (hc : ∀ a x, SX X fc (Γg a x) (.ok ()) (fun _ => c a x) (fun _ => Γg a x)) (he : ∀ a x, SX X fe (Γg a x) (.ok ()) (fun _ => v a x) (fun _ => Γg a x)) (hw : ∀ a x, wipeR (Γg a x) own = wipeR (Γ1 a) own) :
    SX X (eLc own fi g fc fe) Γ t (fun a => .lst (((xs a).filter (c a)).map (v a))) (fun a => backE (Γ1 a) (wipeR (Γ1 a) own) own) := fun ρ q => by
  have h := hi ρ q
  unfold eLc
  cases t with
  | fail => trivial
  | ex c => obtain ⟨ρ', e, g'⟩ := h; exact ⟨ρ', by rw [e]; rfl, g'⟩
  | ok a =>
    obtain ⟨ρ1, e, g1⟩ := h
    obtain ⟨ρ2, e2, g2⟩ := cl_pure (hg a) (hc a) (he a) (hw a) (xs a) _ (g1.wipe own)
    exact ⟨_, by rw [e, bnd_ok, hd a, e2]; rfl, g1.back g2 own⟩
/-- with effects: the state σ told by Γs -/
theorem cl_st {enc : β → D} {Γs : σ → Ev} {Γg : β → σ → Ev} {body : β → σ → P (Option γ × σ)} {v : γ → T} (hg : ∀ x s, SG g (enc x) (Γs s) (Γg x s))
    (hb : ∀ x s ρ, Ag (Γg x s) ρ → match body x s with
      | .fail => True
      | .ex c => False
      | .ok (none, s1) => ∃ ρ2, fc ρ = some (.ok false ρ2) ∧ Ag (Γs s1) (wipeR ρ2 own)
      | .ok (some y, s1) => ∃ ρ2 ρ3, fc ρ = some (.ok true ρ2) ∧ fe ρ2 = some (.ok (v y) ρ3) ∧ Ag (Γs s1) (wipeR ρ3 own)) :
    ∀ (xs : List β) (s : σ) (ρ : Rho), Ag (Γs s) ρ → match lcS xs s body with
      | .fail => True
      | .ex c => False
      | .ok (ys, s1) => ∃ ρ', cLoop own g fc fe (xs.map enc) ρ = some (ys.map v, ρ') ∧ Ag (Γs s1) ρ'
  | [], s, ρ, a => ⟨ρ, rfl, a⟩
  | x :: xs, s, ρ, a => by
    obtain ⟨ρ1, e1, g1⟩ := hg x s ρ a
    have q := hb x s ρ1 g1
    simp only [List.map_cons, cLoop, e1, lcS]
    cases e : body x s with
    | fail => trivial
    | ex c => rw [e] at q; exact q.elim
    | ok r =>
      rw [e] at q
      obtain ⟨o, s1⟩ := r
      cases o with
      | none =>
        obtain ⟨ρ2, e2, g2⟩ := q
        have ih := cl_st hg hb xs s1 _ g2
        simp only [e2, P.bind]
        cases e3 : lcS xs s1 body with
        | fail => trivial
        | ex c => rw [e3] at ih; exact ih.elim
        | ok r => rw [e3] at ih; exact ih
      | some y =>
        obtain ⟨ρ2, ρ3, e2, e4, g2⟩ := q
        have ih := cl_st hg hb xs s1 _ g2
        simp only [e2, e4, P.bind]
        cases e3 : lcS xs s1 body with
        | fail => trivial
        | ex c => rw [e3] at ih; exact ih.elim
        | ok r =>
          rw [e3] at ih
          obtain ⟨ρ4, e5, g4⟩ := ih
          exact ⟨ρ4, by simp only [e5]; rfl, g4⟩
/-- nothing is raised within a comprehension -/
def noex {α : Type} : P α → P α
  | .ok a => .ok a
  | _ => .fail
theorem sx_lcS {δ ε : Type} {xs : α → List β} {st : α → σ} {ds : α → List D} {enc : β → D} {Γs : σ → Ev} {Γg : β → σ → Ev} {tc : β → σ → P δ} {c : β → σ → δ → Bool} {Γc : β → σ → δ → Ev} {te : β → σ → δ → P ε} {ve : β → σ → δ → ε → T} {Γe : β → σ → δ → ε → Ev} {y : β → σ → δ → ε → γ} {v : γ → T} {s0 : β → σ → δ → σ} {s1 : β → σ → δ → ε → σ} {Γ3 : α → List γ × σ → Ev}
    (hi : SX X fi Γ t ds Γ1) (hd : ∀ a, ds a = (xs a).map enc) (h0 : ∀ a ρ, Ag (wipeR (Γ1 a) own) ρ → Ag (Γs (st a)) ρ) (hg : ∀ x s, SG g (enc x) (Γs s) (Γg x s)) (hc : ∀ x s, SX X fc (Γg x s) (tc x s) (c x s) (Γc x s)) (he : ∀ x s a, SX X fe (Γc x s a) (te x s a) (ve x s a) (Γe x s a))
    (hy : ∀ x s a b, ve x s a b = v (y x s a b)) (hs0 : ∀ x s a ρ, Ag (wipeR (Γc x s a) own) ρ → Ag (Γs (s0 x s a)) ρ) (hs1 : ∀ x s a b ρ, Ag (wipeR (Γe x s a b) own) ρ → Ag (Γs (s1 x s a b)) ρ) (h3 : ∀ a r, Γ3 a r = backE (Γ1 a) (Γs r.2) own) :
    SX X (eLc own fi g fc fe) Γ (t.bind fun a => (noex (lcS (xs a) (st a) fun x s => noex ((tc x s).bind fun a => if c x s a = true then (te x s a).bind fun b => .ok (some (y x s a b), s1 x s a b) else .ok (none, s0 x s a)))).bind fun r => .ok (a, r)) (fun q => .lst (q.2.1.map v)) (fun q => Γ3 q.1 q.2) := fun ρ q => by
  have h := hi ρ q
  unfold eLc
  cases t with
  | fail => trivial
  | ex c => obtain ⟨ρ', e, g'⟩ := h; exact ⟨ρ', by rw [e]; rfl, g'⟩
  | ok a =>
    obtain ⟨ρ1, e, g1⟩ := h
    have key := cl_st (own := own) (g := g) (fc := fc) (fe := fe) (v := v) (body := fun x s => noex ((tc x s).bind fun a => if c x s a = true then (te x s a).bind fun b => .ok (some (y x s a b), s1 x s a b) else .ok (none, s0 x s a))) hg (fun x s ρ a => by
      have qc := hc x s ρ a
      cases e1 : tc x s with
      | fail => trivial
      | ex c => trivial
      | ok d =>
        rw [e1] at qc
        obtain ⟨ρ2, e2, g2⟩ := qc
        simp only [P.bind]
        by_cases z : c x s d = true
        · rw [if_pos z]
          have qe := he x s d ρ2 g2
          cases e3 : te x s d with
          | fail => trivial
          | ex c => trivial
          | ok b =>
            rw [e3] at qe
            obtain ⟨ρ3, e4, g3⟩ := qe
            exact ⟨ρ2, ρ3, by rw [e2, z], by rw [e4, hy], hs1 x s d b _ (g3.wipe own)⟩
        · rw [if_neg z]
          exact ⟨ρ2, by rw [e2]; simp [z], hs0 x s d _ (g2.wipe own)⟩) (xs a) (st a) (wipeR ρ1 own) (h0 a _ (g1.wipe own))
    simp only [b_ok]
    rw [e, bnd_ok, hd a]
    revert key
    generalize lcS (xs a) (st a) _ = L
    intro key
    cases L with
    | fail => exact True.intro
    | ex c => exact key.elim
    | ok r =>
      obtain ⟨ρ2, e2, g2⟩ := key
      exact ⟨_, by rw [e2]; rfl, by rw [h3]; exact g1.back g2 own⟩
end
end Ty
end Lv

set_option maxHeartbeats 1000000
namespace Lv
namespace Ty
open PySem PySem.Spec PyProof.Rows L2 Lv
/-! ### how data is told -/
abbrev eI : Int → D := .int
abbrev eB : Bool → D := .bool
abbrev eS : Str → D := .str
abbrev eU : Unit → D := fun _ => .none
abbrev eD : D → D := fun d => d
section
variable {α β γ δ ε ζ η : Type}
abbrev eL (e : α → D) : List α → D := fun xs => .list (xs.map e)
abbrev eV (e : α → D) : List α → D := fun xs => .tuple (xs.map e)
abbrev eT0 : Unit → D := fun _ => .tuple []
abbrev eT1 (e : α → D) : α → D := fun x => .tuple [e x]
abbrev eT2 (e : α → D) (f : β → D) : α × β → D := fun x => .tuple [e x.1, f x.2]
abbrev eT3 (e : α → D) (f : β → D) (g : γ → D) : α × β × γ → D := fun x => .tuple [e x.1, f x.2.1, g x.2.2]
abbrev eT4 (e : α → D) (f : β → D) (g : γ → D) (h : δ → D) : α × β × γ × δ → D := fun x => .tuple [e x.1, f x.2.1, g x.2.2.1, h x.2.2.2]
abbrev eT5 (e : α → D) (f : β → D) (g : γ → D) (h : δ → D) (i : ε → D) : α × β × γ × δ × ε → D := fun x => .tuple [e x.1, f x.2.1, g x.2.2.1, h x.2.2.2.1, i x.2.2.2.2]
abbrev eT6 (e : α → D) (f : β → D) (g : γ → D) (h : δ → D) (i : ε → D) (j : ζ → D) : α × β × γ × δ × ε × ζ → D := fun x => .tuple [e x.1, f x.2.1, g x.2.2.1, h x.2.2.2.1, i x.2.2.2.2.1, j x.2.2.2.2.2]
abbrev eT7 (e : α → D) (f : β → D) (g : γ → D) (h : δ → D) (i : ε → D) (j : ζ → D) (k : η → D) : α × β × γ × δ × ε × ζ × η → D := fun x => .tuple [e x.1, f x.2.1, g x.2.2.1, h x.2.2.2.1, i x.2.2.2.2.1, j x.2.2.2.2.2.1, k x.2.2.2.2.2.2]
abbrev eT8 {α0 α1 α2 α3 α4 α5 α6 α7 : Type} (e0 : α0 → D) (e1 : α1 → D) (e2 : α2 → D) (e3 : α3 → D) (e4 : α4 → D) (e5 : α5 → D) (e6 : α6 → D) (e7 : α7 → D) : α0 × α1 × α2 × α3 × α4 × α5 × α6 × α7 → D := fun x => .tuple [e0 x.1, e1 x.2.1, e2 x.2.2.1, e3 x.2.2.2.1, e4 x.2.2.2.2.1, e5 x.2.2.2.2.2.1, e6 x.2.2.2.2.2.2.1, e7 x.2.2.2.2.2.2.2]
abbrev eT9 {α0 α1 α2 α3 α4 α5 α6 α7 α8 : Type} (e0 : α0 → D) (e1 : α1 → D) (e2 : α2 → D) (e3 : α3 → D) (e4 : α4 → D) (e5 : α5 → D) (e6 : α6 → D) (e7 : α7 → D) (e8 : α8 → D) : α0 × α1 × α2 × α3 × α4 × α5 × α6 × α7 × α8 → D := fun x => .tuple [e0 x.1, e1 x.2.1, e2 x.2.2.1, e3 x.2.2.2.1, e4 x.2.2.2.2.1, e5 x.2.2.2.2.2.1, e6 x.2.2.2.2.2.2.1, e7 x.2.2.2.2.2.2.2.1, e8 x.2.2.2.2.2.2.2.2]
abbrev eT10 {α0 α1 α2 α3 α4 α5 α6 α7 α8 α9 : Type} (e0 : α0 → D) (e1 : α1 → D) (e2 : α2 → D) (e3 : α3 → D) (e4 : α4 → D) (e5 : α5 → D) (e6 : α6 → D) (e7 : α7 → D) (e8 : α8 → D) (e9 : α9 → D) : α0 × α1 × α2 × α3 × α4 × α5 × α6 × α7 × α8 × α9 → D := fun x => .tuple [e0 x.1, e1 x.2.1, e2 x.2.2.1, e3 x.2.2.2.1, e4 x.2.2.2.2.1, e5 x.2.2.2.2.2.1, e6 x.2.2.2.2.2.2.1, e7 x.2.2.2.2.2.2.2.1, e8 x.2.2.2.2.2.2.2.2.1, e9 x.2.2.2.2.2.2.2.2.2]
abbrev eT11 {α0 α1 α2 α3 α4 α5 α6 α7 α8 α9 α10 : Type} (e0 : α0 → D) (e1 : α1 → D) (e2 : α2 → D) (e3 : α3 → D) (e4 : α4 → D) (e5 : α5 → D) (e6 : α6 → D) (e7 : α7 → D) (e8 : α8 → D) (e9 : α9 → D) (e10 : α10 → D) : α0 × α1 × α2 × α3 × α4 × α5 × α6 × α7 × α8 × α9 × α10 → D := fun x => .tuple [e0 x.1, e1 x.2.1, e2 x.2.2.1, e3 x.2.2.2.1, e4 x.2.2.2.2.1, e5 x.2.2.2.2.2.1, e6 x.2.2.2.2.2.2.1, e7 x.2.2.2.2.2.2.2.1, e8 x.2.2.2.2.2.2.2.2.1, e9 x.2.2.2.2.2.2.2.2.2.1, e10 x.2.2.2.2.2.2.2.2.2.2]
abbrev eT12 {α0 α1 α2 α3 α4 α5 α6 α7 α8 α9 α10 α11 : Type} (e0 : α0 → D) (e1 : α1 → D) (e2 : α2 → D) (e3 : α3 → D) (e4 : α4 → D) (e5 : α5 → D) (e6 : α6 → D) (e7 : α7 → D) (e8 : α8 → D) (e9 : α9 → D) (e10 : α10 → D) (e11 : α11 → D) : α0 × α1 × α2 × α3 × α4 × α5 × α6 × α7 × α8 × α9 × α10 × α11 → D := fun x => .tuple [e0 x.1, e1 x.2.1, e2 x.2.2.1, e3 x.2.2.2.1, e4 x.2.2.2.2.1, e5 x.2.2.2.2.2.1, e6 x.2.2.2.2.2.2.1, e7 x.2.2.2.2.2.2.2.1, e8 x.2.2.2.2.2.2.2.2.1, e9 x.2.2.2.2.2.2.2.2.2.1, e10 x.2.2.2.2.2.2.2.2.2.2.1, e11 x.2.2.2.2.2.2.2.2.2.2.2]
def eO (e : α → D) : Option α → D
  | none => .none
  | some a => e a
abbrev F (e : α → D) : α → T := fun a => .fr (e a)
abbrev OL (e : α → T) : List α → T := fun xs => .lst (xs.map e)
abbrev O2 (e : α → T) (f : β → T) : α × β → T := fun x => .lst [e x.1, f x.2]
abbrev O3 (e : α → T) (f : β → T) (g : γ → T) : α × β × γ → T := fun x => .lst [e x.1, f x.2.1, g x.2.2]
abbrev O4 (e : α → T) (f : β → T) (g : γ → T) (h : δ → T) : α × β × γ × δ → T := fun x => .lst [e x.1, f x.2.1, g x.2.2.1, h x.2.2.2]
/-! data that can be compared -/
structure Nice (e : α → D) [DecidableEq α] (n : Nat) : Prop where
  ok : ∀ a, okN n (e a)
  eq : ∀ a b, PyData.eqv (e a) (e b) = decide (a = b)
variable [DecidableEq α] [DecidableEq β] [DecidableEq γ] [DecidableEq δ] [DecidableEq ε] [DecidableEq ζ] {e : α → D} {f : β → D} {g : γ → D} {h : δ → D} {i : ε → D} {j : ζ → D} {n m k l q : Nat}
theorem Nice.le (h : Nice e n) (l : n ≤ m) : Nice e m := ⟨fun a => okN_le (h.ok a) l, h.eq⟩
theorem nI : Nice eI 1 := ⟨fun _ => okN_int, fun _ _ => eqv_int⟩
theorem nB : Nice eB 1 := ⟨fun _ => okN_bool, fun a b => by cases a <;> cases b <;> rfl⟩
theorem nS : Nice eS 1 := ⟨fun _ => okN_str, fun _ _ => eqv_str⟩
theorem nU : Nice eU 1 := ⟨fun _ => okN_none, fun _ _ => rfl⟩
theorem eqvAll_map (he : Nice e n) : ∀ a b : List α, PyData.eqvAll (a.map e) (b.map e) = decide (a = b)
  | [], [] => by simp [PyData.eqvAll]
  | [], y :: b => by simp [PyData.eqvAll]
  | x :: a, [] => by simp [PyData.eqvAll]
  | x :: a, y :: b => by
    rw [List.map_cons, List.map_cons, PyData.eqvAll, he.eq, eqvAll_map he a b]
    by_cases h : x = y <;> by_cases h2 : a = b <;> simp [h, h2]
theorem nL (he : Nice e n) : Nice (eL e) (n + 1) := ⟨fun a => okN_list fun d hd => by obtain ⟨x, _, rfl⟩ := List.mem_map.mp hd; exact he.ok x, fun a b => by rw [← eqvAll_map he]; simp [PyData.eqv]⟩
theorem nV (he : Nice e n) : Nice (eV e) (n + 1) := ⟨fun a => okN_tuple fun d hd => by obtain ⟨x, _, rfl⟩ := List.mem_map.mp hd; exact he.ok x, fun a b => by rw [← eqvAll_map he]; simp [PyData.eqv]⟩
theorem nT0 : Nice eT0 1 := ⟨fun _ => okN_le (n := 1) (okN_tuple (n := 0) fun d hd => by cases hd) (by omega), fun _ _ => rfl⟩
theorem nT1 (he : Nice e n) : Nice (eT1 e) (n + 1) := ⟨fun a => okN_tuple fun d hd => by simp at hd; subst hd; exact he.ok _, fun a b => by
  simp only [PyData.eqv, PyData.eqvAll, he.eq, Bool.and_true]⟩
theorem nT2 (he : Nice e n) (hf : Nice f n) : Nice (eT2 e f) (n + 1) := ⟨fun a => okN_tuple fun d hd => by simp at hd; rcases hd with rfl | rfl; exact he.ok _; exact hf.ok _, fun a b => by
  simp only [PyData.eqv, PyData.eqvAll, he.eq, hf.eq, Bool.and_true]
  obtain ⟨a, a2⟩ := a; obtain ⟨b, b2⟩ := b
  rw [Bool.eq_iff_iff]; simp⟩
theorem nT3 (he : Nice e n) (hf : Nice f n) (hg : Nice g n) : Nice (eT3 e f g) (n + 1) := ⟨fun a => okN_tuple fun d hd => by simp at hd; rcases hd with rfl | rfl | rfl; exact he.ok _; exact hf.ok _; exact hg.ok _, fun a b => by
  simp only [PyData.eqv, PyData.eqvAll, he.eq, hf.eq, hg.eq, Bool.and_true]
  obtain ⟨a, a2, a3⟩ := a; obtain ⟨b, b2, b3⟩ := b
  rw [Bool.eq_iff_iff]; simp⟩
theorem nT4 (he : Nice e n) (hf : Nice f n) (hg : Nice g n) (hh : Nice h n) : Nice (eT4 e f g h) (n + 1) := ⟨fun a => okN_tuple fun d hd => by simp at hd; rcases hd with rfl | rfl | rfl | rfl; exact he.ok _; exact hf.ok _; exact hg.ok _; exact hh.ok _, fun a b => by
  simp only [PyData.eqv, PyData.eqvAll, he.eq, hf.eq, hg.eq, hh.eq, Bool.and_true]
  obtain ⟨a, a2, a3, a4⟩ := a; obtain ⟨b, b2, b3, b4⟩ := b
  rw [Bool.eq_iff_iff]; simp⟩
theorem nT5 (he : Nice e n) (hf : Nice f n) (hg : Nice g n) (hh : Nice h n) (hi : Nice i n) : Nice (eT5 e f g h i) (n + 1) := ⟨fun a => okN_tuple fun d hd => by simp at hd; rcases hd with rfl | rfl | rfl | rfl | rfl; exact he.ok _; exact hf.ok _; exact hg.ok _; exact hh.ok _; exact hi.ok _, fun a b => by
  simp only [PyData.eqv, PyData.eqvAll, he.eq, hf.eq, hg.eq, hh.eq, hi.eq, Bool.and_true]
  obtain ⟨a, a2, a3, a4, a5⟩ := a; obtain ⟨b, b2, b3, b4, b5⟩ := b
  rw [Bool.eq_iff_iff]; simp⟩
/-- not None -/
theorem nO (he : Nice e n) (hn : ∀ a, e a ≠ .none) (h1 : ∀ a, PyData.eqv .none (e a) = false) (h2 : ∀ a, PyData.eqv (e a) .none = false) (l : 1 ≤ n) : Nice (eO e) n := ⟨fun a => by cases a with
  | none => exact okN_le okN_none l
  | some a => exact he.ok a, fun a b => by
  cases a <;> cases b
  · rfl
  · simp [eO, h1]
  · simp [eO, h2]
  · simp [eO, he.eq]⟩
end
section
variable {α β γ : Type} {n m : Nat}
/-! as data, as items -/
theorem d_F {e : α → D} : ∀ a, (F e a).dat = some (e a) := fun _ => rfl
theorem datL_of {eT : α → T} {e : α → D} (hd : ∀ a, (eT a).dat = some (e a)) : ∀ xs : List α, T.datL (xs.map eT) = some (xs.map e)
  | [] => rfl
  | x :: xs => by rw [List.map_cons, T.datL]; simp only [hd x, datL_of hd xs]; rfl
theorem d_O {eT : α → T} {e : α → D} (hd : ∀ a, (eT a).dat = some (e a)) : ∀ xs : List α, (OL eT xs).dat = some (eL e xs) := fun xs => by
  show T.dat (.lst _) = _
  rw [T.dat, datL_of hd]; rfl
theorem allFr_of {e : α → D} : ∀ xs : List α, allFr (xs.map (F e)) = some (xs.map e)
  | [] => rfl
  | x :: xs => by rw [List.map_cons]; simp only [F, allFr]; rw [show allFr (xs.map fun a => T.fr (e a)) = _ from allFr_of xs]; rfl
theorem al_F {e : α → D} (xs : List α) : T.asL (F (eL e) xs) = some (xs.map e) := rfl
theorem al_O {e : α → D} (xs : List α) : T.asL (OL (F e) xs) = some (xs.map e) := allFr_of xs
theorem as_V {e : α → D} (xs : List α) : T.asS (F (eV e) xs) = some (xs.map e) := rfl
theorem as_F {e : α → D} (xs : List α) : T.asS (F (eL e) xs) = some (xs.map e) := rfl
theorem as_O {e : α → D} (xs : List α) : T.asS (OL (F e) xs) = some (xs.map e) := allFr_of xs
theorem of_map {e : α → D} (xs : List α) : (xs.map e).map T.fr = xs.map (F e) := by rw [List.map_map]; rfl
/-! ### what operations do -/
def catO (xs ys : List α) : Option (List α) := if xs.length + ys.length ≤ 16777216 then some (xs ++ ys) else none
def modO (a b : Int) : Option Int := if 0 < b then some (a % b) else none
def fdivO (a b : Int) : Option Int := if 0 < b ∧ b < 1073741824 then some (a / b) else none
def mulO (a b : Int) : Option Int := if (-18446744073709551616 < a ∧ a < 18446744073709551616) ∨ (-18446744073709551616 < b ∧ b < 18446744073709551616) then some (a * b) else none
def powO (a b : Int) : Option Int := if 0 ≤ b ∧ b ≤ 1000000 ∧ a.natAbs < 18446744073709551616 then some (a ^ b.toNat) else none
def shlO (a b : Int) : Option Int := if 0 ≤ b ∧ b ≤ 1000000 ∧ a.natAbs < 18446744073709551616 then some (a * 2 ^ b.toNat) else none
@[irreducible] def repO (xs : List α) (k : Int) : Option (List α) := if k < 9223372036854775808 ∧ -9223372036854775808 ≤ k ∧ xs.length * k.toNat ≤ 16777216 then some (List.replicate k.toNat xs).flatten else none
def szO (xs : List α) : Option (List α) := if xs.length < 16777216 then some xs else none
def ixO (xs : List α) (k : Int) : Option α := atI xs k
def rngO (a b : Int) : Option (List Int) := if -4000000000000000000 ≤ a ∧ a ≤ 4000000000000000000 ∧ -4000000000000000000 ≤ b ∧ b ≤ 4000000000000000000 ∧ b - a ≤ 16777216 then some ((List.range (b - a).toNat).map fun i : Nat => a + i) else none
def rng1O (j : Int) : Option (List Int) := if j ≤ 16777216 ∧ -16777216 ≤ j then some ((List.range j.toNat).map fun i : Nat => (i : Int)) else none
def setO (xs : List α) (k : Int) (y : α) : Option (List α) := (ixN xs.length k).map fun j => xs.set j y
variable {a b c : Int} {x y z : List α} {A B : T}
theorem o_add : opAdd (F eI a) (F eI b) = some (F eI (a + b)) := rfl
theorem o_addI : opAddI (F eI a) (F eI b) = some (F eI (a + b)) := rfl
theorem o_sub : opSub (F eI a) (F eI b) = some (F eI (a - b)) := rfl
theorem o_neg : opNeg (F eI a) = some (F eI (-a)) := rfl
theorem o_modc (h : 0 < b) : opMod (F eI a) (F eI b) = some (F eI (a % b)) := opMod_i h
theorem o_mod (h : modO a b = some c) : opMod (F eI a) (F eI b) = some (F eI c) := by
  unfold modO at h; split at h
  · next q => cases h; exact opMod_i q
  · cases h
theorem o_fdivc (h : 0 < b ∧ b < 1073741824) : opFdiv (F eI a) (F eI b) = some (F eI (a / b)) := opFdiv_i h.1 h.2
theorem o_fdiv (h : fdivO a b = some c) : opFdiv (F eI a) (F eI b) = some (F eI c) := by
  unfold fdivO at h; split at h
  · next q => cases h; exact opFdiv_i q.1 q.2
  · cases h
theorem o_mulr (h : -18446744073709551616 < b ∧ b < 18446744073709551616) : opMul (F eI a) (F eI b) = some (F eI (a * b)) := opMul_r h.1 h.2
theorem o_mull (h : -18446744073709551616 < a ∧ a < 18446744073709551616) : opMul (F eI a) (F eI b) = some (F eI (a * b)) := opMul_l h.1 h.2
theorem o_mul (h : mulO a b = some c) : opMul (F eI a) (F eI b) = some (F eI c) := by
  unfold mulO at h; split at h
  · next q => cases h; simp [opMul, q]
  · cases h
theorem o_pow (h : powO a b = some c) : opPow (F eI a) (F eI b) = some (F eI c) := by
  unfold powO at h; split at h
  · next q => cases h; exact opPow_i q.1 q.2.1 q.2.2
  · cases h
theorem o_shl (h : shlO a b = some c) : opShl (F eI a) (F eI b) = some (F eI c) := by
  unfold shlO at h; split at h
  · next q => cases h; simp [opShl, opInt, q]
  · cases h
theorem o_lt : opLt (F eI a) (F eI b) = some (F eB (decide (a < b))) := rfl
theorem o_gt : opGt (F eI a) (F eI b) = some (F eB (decide (b < a))) := rfl
theorem o_le : opLe (F eI a) (F eI b) = some (F eB (decide (a ≤ b))) := by
  rw [show opLe (F eI a) (F eI b) = _ from opLe_i]
  by_cases h : b < a
  · have h2 : ¬ a ≤ b := by omega
    simp [h, h2]
  · have h2 : a ≤ b := by omega
    simp [h, h2]
theorem o_ge : opGe (F eI a) (F eI b) = some (F eB (decide (b ≤ a))) := by
  rw [show opGe (F eI a) (F eI b) = _ from opGe_i]
  by_cases h : a < b
  · have h2 : ¬ b ≤ a := by omega
    simp [h, h2]
  · have h2 : b ≤ a := by omega
    simp [h, h2]
theorem opData_of {fn : D → D → Option Bool} {u v : D} (h1 : A.dat = some u) (h2 : B.dat = some v) (h3 : okD u = true) (h4 : okD v = true) : opData fn A B = (fn u v).map fun k => .fr (.bool k) := by
  unfold opData; simp only [h1, h2, h3, h4, and_self, if_true]
theorem o_eq [DecidableEq α] {e : α → D} {u v : α} (he : Nice e n) (hn : n ≤ 60) (h1 : A.dat = some (e u)) (h2 : B.dat = some (e v)) : opEq A B = some (F eB (decide (u = v))) := by
  unfold opEq; rw [opData_of h1 h2 (okN_okD (he.ok u) hn) (okN_okD (he.ok v) hn), he.eq]; rfl
theorem o_ne [DecidableEq α] {e : α → D} {u v : α} (he : Nice e n) (hn : n ≤ 60) (h1 : A.dat = some (e u)) (h2 : B.dat = some (e v)) : opNe A B = some (F eB (!decide (u = v))) := by
  unfold opNe; rw [opData_of h1 h2 (okN_okD (he.ok u) hn) (okN_okD (he.ok v) hn), he.eq]; rfl
/-- of any data -/
def eqO (u v : D) : Option Bool := if okD u = true ∧ okD v = true then some (PyData.eqv u v) else none
theorem o_eqD {u v : D} {r : Bool} (h1 : A.dat = some u) (h2 : B.dat = some v) (h : eqO u v = some r) : opEq A B = some (F eB r) := by
  unfold eqO at h; split at h
  · next q => cases h; unfold opEq; rw [opData_of h1 h2 q.1 q.2]; rfl
  · cases h
theorem o_neD {u v : D} {r : Bool} (h1 : A.dat = some u) (h2 : B.dat = some v) (h : eqO u v = some r) : opNe A B = some (F eB (!r)) := by
  unfold eqO at h; split at h
  · next q => cases h; unfold opNe; rw [opData_of h1 h2 q.1 q.2]; rfl
  · cases h
theorem any_map [DecidableEq α] {e : α → D} (he : Nice e n) (u : α) : ∀ xs : List α, (xs.map e).any (fun z => PyData.eqv z (e u)) = decide (u ∈ xs)
  | [] => by simp
  | x :: xs => by
    rw [List.map_cons, List.any_cons, he.eq, any_map he u xs]
    by_cases h1 : u = x
    · subst h1; simp
    · have h2 : x ≠ u := fun q => h1 q.symm
      simp [h1, h2]
theorem o_inL [DecidableEq α] {e : α → D} {u : α} {N : Bool} (he : Nice e n) (hn : n ≤ 59) (h1 : A.dat = some (e u)) (h2 : B.dat = some (eL e x)) : opInS N A B = some (F eB (decide (u ∈ x) ^^ N)) := by
  unfold opInS; rw [opData_of h1 h2 (okN_okD (he.ok u) (by omega)) (okN_okD ((nL he).ok x) (by omega))]
  simp only [eL, any_map he u x]; rfl
theorem o_inV [DecidableEq α] {e : α → D} {u : α} {N : Bool} (he : Nice e n) (hn : n ≤ 59) (h1 : A.dat = some (e u)) (h2 : B.dat = some (eV e x)) : opInS N A B = some (F eB (decide (u ∈ x) ^^ N)) := by
  unfold opInS; rw [opData_of h1 h2 (okN_okD (he.ok u) (by omega)) (okN_okD ((nV he).ok x) (by omega))]
  simp only [eV, any_map he u x]; rfl
theorem o_isnT {N : Bool} {r : Bool} (h : isNoT A = r) : opIsN N A (.fr .none) = some (F eB (r ^^ N)) := by simp [opIsN, h]
theorem isN_O {e : α → D} (hn : ∀ a, e a ≠ .none) (o : Option α) : isNoT (F (eO e) o) = o.isNone := by
  cases o with
  | none => rfl
  | some a =>
    show isNoT (.fr (e a)) = false
    have := hn a
    cases q : e a with
    | none => exact absurd q this
    | _ => rfl
theorem o_lenF {e : α → D} : opLen [F (eL e) x] = some (F eI (x.length : Int)) := by simp [opLen]
theorem o_lenV {e : α → D} : opLen [F (eV e) x] = some (F eI (x.length : Int)) := by simp [opLen]
theorem o_lenO {e : α → T} : opLen [OL e x] = some (F eI (x.length : Int)) := by simp [opLen]
theorem o_ixF {e : α → D} {u : α} (h : ixO x a = some u) : opIx (F (eL e) x) (F eI a) = some (F e u) := by
  show (atI (x.map e) a).map T.fr = _
  rw [atI_map, show atI x a = some u from h]; rfl
theorem o_ixV {e : α → D} {u : α} (h : ixO x a = some u) : opIx (F (eV e) x) (F eI a) = some (F e u) := by
  show (atI (x.map e) a).map T.fr = _
  rw [atI_map, show atI x a = some u from h]; rfl
theorem o_ixO {e : α → T} {u : α} (h : ixO x a = some u) : opIx (OL e x) (F eI a) = some (e u) := by
  show atI (x.map e) a = _
  rw [atI_map, show atI x a = some u from h]; rfl
theorem o_fr {op : T → T → Option T} {d : D} (h : op A B = some (.fr d)) : frOp op A B = some (.fr d) := by unfold frOp; rw [h]; rfl
theorem o_cat {e : α → D} (h1 : T.asL A = some (x.map e)) (h2 : T.asL B = some (y.map e)) (h : catO x y = some z) : opAdd A B = some (OL (F e) z) := by
  unfold catO at h; split at h
  · next q =>
    cases h
    have hA : ∀ u, opAdd A B = u → opAdd A B = u := fun _ h => h
    unfold opAdd
    split
    · cases h1
    · cases h1
    · cases h1
    · simp only [h1, h2, List.length_map, if_pos q, ← List.map_append, of_map]
  · cases h
theorem o_catV {e : α → D} (h : catO x y = some z) : opAdd (F (eV e) x) (F (eV e) y) = some (F (eV e) z) := by
  unfold catO at h; split at h
  · next q => cases h; simp [opAdd, q, F, eV]
  · cases h
theorem o_rep {e : α → D} (h : repO x a = some z) : opMul (OL (F e) x) (F eI a) = some (OL (F e) z) := by
  unfold repO at h; split at h
  · next q =>
    cases h
    show (match allFr (x.map (F e)) with | some ds => _ | none => _) = _
    rw [allFr_of]
    simp only [List.length_map, if_pos q]
    rw [show (List.replicate a.toNat (x.map e)).flatten = ((List.replicate a.toNat x).flatten).map e by rw [List.map_flatten, List.map_replicate], of_map]
  · cases h
theorem o_slF {e : α → D} {lo hi : Option Int} : opSl lo hi (F (eL e) x) = some (OL (F e) (cutL x lo hi)) := by
  show some (T.lst ((cutL (x.map e) lo hi).map .fr)) = _
  rw [cutL_map, of_map]
theorem o_slO {e : α → D} {lo hi : Option Int} : opSl lo hi (OL (F e) x) = some (OL (F e) (cutL x lo hi)) := by
  show (T.asL (OL (F e) x)).map _ = _
  rw [al_O]; simp only [Option.map_some, cutL_map, of_map]
theorem o_slV {e : α → D} {lo hi : Option Int} : opSl lo hi (F (eV e) x) = some (F (eV e) (cutL x lo hi)) := by
  show some (T.fr (.tuple (cutL (x.map e) lo hi))) = _
  rw [cutL_map]
theorem o_list {e : α → D} (h : T.asS A = some (x.map e)) : opList [A] = some (OL (F e) x) := by
  show (T.asS A).map _ = _
  rw [h]; simp only [Option.map_some, of_map]
theorem o_tuple {e : α → D} (h : T.asS A = some (x.map e)) : opTuple [A] = some (F (eV e) x) := by
  show (T.asS A).map _ = _
  rw [h]; rfl
theorem asS_L {ds : List D} (h : T.asL A = some ds) : T.asS A = some ds := by
  unfold T.asS
  split
  · cases h
  · exact h
theorem intsD_map : ∀ xs : List Int, intsD (xs.map eI) = some xs
  | [] => rfl
  | x :: xs => by rw [List.map_cons]; simp only [intsD, intsD_map xs]; rfl
end
theorem o_sum {x : List Int} {A : T} (h : T.asL A = some (x.map eI)) : opSum [A] = some (F eI x.sum) := by
  cases A with
  | fr d => cases d with
    | list ds => cases h; exact opSum_fr
    | _ => cases h
  | lst ts =>
    have := allFr_eq (show allFr ts = some (x.map eI) from h)
    subst this; exact opSum_lst
  | _ => cases h
def min1O : List Int → Option Int
  | [] => none
  | k :: ks => some (minI k ks)
def max1O : List Int → Option Int
  | [] => none
  | k :: ks => some (maxI k ks)
theorem o_min1 {x : List Int} {A : T} {r : Int} (h : T.asL A = some (x.map eI)) (h2 : min1O x = some r) : opMin [A] = some (F eI r) := by
  cases x with
  | nil => cases h2
  | cons k ks => cases h2; exact opMin_as h
theorem o_max1 {x : List Int} {A : T} {r : Int} (h : T.asL A = some (x.map eI)) (h2 : max1O x = some r) : opMax [A] = some (F eI r) := by
  cases x with
  | nil => cases h2
  | cons k ks => cases h2; exact opMax_as h
theorem o_min2 {a b : Int} : opMin [F eI a, F eI b] = some (F eI (if b < a then b else a)) := rfl
theorem o_max2 {a b : Int} : opMax [F eI a, F eI b] = some (F eI (if b > a then b else a)) := rfl
theorem o_abs {a : Int} : opAbs [F eI a] = some (F eI (if a < 0 then -a else a)) := opAbs_i
theorem o_count {x : List Int} {a : Int} {A : T} (h : T.asL A = some (x.map eI)) : opCount A [F eI a] = some (F eI (x.count a : Nat)) := opCount_as h
theorem rngD_i {n : Nat} {a : Int} : rngD a n = ((List.range n).map fun i : Nat => a + i).map eI := by simp [rngD]
theorem rngD_0 {n : Nat} : rngD 0 n = ((List.range n).map fun i : Nat => (i : Int)).map eI := by simp [rngD]
theorem r1_h {j : Int} {xs : List Int} (h : rng1O j = some xs) : (j ≤ 16777216 ∧ -16777216 ≤ j) ∧ rngD 0 j.toNat = xs.map eI := by
  unfold rng1O at h; split at h
  · next q => cases h; exact ⟨q, rngD_0⟩
  · cases h
theorem r2_h {i j : Int} {xs : List Int} (h : rngO i j = some xs) : (-4000000000000000000 ≤ i ∧ i ≤ 4000000000000000000 ∧ -4000000000000000000 ≤ j ∧ j ≤ 4000000000000000000 ∧ j - i ≤ 16777216) ∧ rngD i (j - i).toNat = xs.map eI := by
  unfold rngO at h; split at h
  · next q => cases h; exact ⟨q, rngD_i⟩
  · cases h
theorem rgOk_h {i j : Int} {xs : List Int} (h : rngO i j = some xs) : rgOkB i j = true ∧ rngD i (j - i).toNat = xs.map eI := by
  have q := r2_h h
  exact ⟨by unfold rgOkB; exact decide_eq_true q.1, q.2⟩
theorem sz_h {α : Type} {xs ys : List α} (h : szO xs = some ys) : ys = xs ∧ xs.length < 16777216 := by
  unfold szO at h; split at h
  · next q => cases h; exact ⟨rfl, q⟩
  · cases h
end Ty
end Lv

set_option maxHeartbeats 1000000
namespace Lv
namespace Ty
open PySem PySem.Spec PyProof.Rows L2 Lv
section
variable {α β γ δ R σ ω W : Type} {X Γ Γ1 Γ2 : Ev}
/-! the pure cases -/
theorem sx_val {e : Rho → Option (Rs W)} {u : W} {x : α} {w : α → W} (h : SX X e Γ (.ok ()) (fun _ => u) (fun _ => Γ1)) (hv : w x = u) : SX X e Γ (.ok x) w (fun _ => Γ1) := fun ρ r => by
  obtain ⟨ρ', e1, g1⟩ := h ρ r
  exact ⟨ρ', by rw [e1, hv], g1⟩
variable {f g : Rho → Option (Rs T)} {l : Rho → Option (Rs (List Ar))} {c : Rho → Option (Rs Bool)} {fi : Rho → Option (Rs (List D))} {s s1 s2 s3 : Rho → Option Out} {G u u2 : P ω} {Ψ : ω → Out → Prop}
theorem sy_seqp (h1 : SY X s1 Γ (.ok ()) (nxO fun _ => Γ1)) (h2 : SY X s2 Γ1 G Ψ) : SY X (sSeq s1 s2) Γ G Ψ := sy_seq (G1 := .ok ()) (G2 := fun _ => G) h1 fun _ => h2
theorem sy_retp {er : ω → T} {pn : ω → Ev} {r : ω} {v : T} (hf : SX X f Γ (.ok ()) (fun _ => v) (fun _ => Γ1)) (hv : er r = v) (hp : ∀ ρ, Ag Γ1 ρ → Ag (pn r) ρ) : SY X (sRet f) Γ (.ok r) (fnO er pn) := sy_ret (t := .ok ()) (fun _ => r) hf (fun _ => hv) (fun _ => hp)
theorem sy_retkp {Γo : σ → Ev} {er : R → T} {pn : R → Ev} {r : R} {v : T} (hf : SX X f Γ (.ok ()) (fun _ => v) (fun _ => Γ1)) (hv : er r = v) (hp : ∀ ρ, Ag Γ1 ρ → Ag (pn r) ρ) : SY X (sRet f) Γ (.ok (.rt r)) (lkO Γo (fnO er pn)) := sy_retk (t := .ok ()) (fun _ => r) hf (fun _ => hv) (fun _ => hp)
theorem sy_retkkp {Γo : σ → Ev} {Γi : β → Ev} {er : R → T} {pn : R → Ev} {r : R} {v : T} (hf : SX X f Γ (.ok ()) (fun _ => v) (fun _ => Γ1)) (hv : er r = v) (hp : ∀ ρ, Ag Γ1 ρ → Ag (pn r) ρ) : SY X (sRet f) Γ (.ok (.rt (.rt r))) (lkO Γi (lkO Γo (fnO er pn))) := sy_retkk (t := .ok ()) (fun _ => r) hf (fun _ => hv) (fun _ => hp)
theorem sy_ifp {b : Bool} (hc : SX X c Γ (.ok ()) (fun _ => b) (fun _ => Γ1)) (hf : b = true → SY X s1 Γ1 u Ψ) (hg : b = false → SY X s2 Γ1 u2 Ψ) : SY X (sIf c s1 s2) Γ (if b = true then u else u2) Ψ := sy_if (t := .ok ()) (a := fun _ => b) (u := fun _ => u) (u2 := fun _ => u2) hc (fun _ => hf) (fun _ => hg)
variable {xs : List β} {st : σ} {gt : D → Rho → Option Rho} {fb : Rho → Option Out} {enc : β → D} {Γo : σ → Ev} {Γg : β → σ → Ev} {ds : List D}
theorem sy_forp {body : β → σ → P σ} (hi : SX X fi Γ (.ok ()) (fun _ => ds) (fun _ => Γ1)) (hd : ds = xs.map enc) (h0 : ∀ ρ, Ag Γ1 ρ → Ag (Γo st) ρ) (hg : ∀ x s, SG gt (enc x) (Γo s) (Γg x s)) (hb : ∀ x s, SY X fb (Γg x s) (body x s) (lpO Γo)) : SY X (sFor fi gt fb) Γ (foldP xs st body) (nxO Γo) := sy_for (t := .ok ()) (xs := fun _ => xs) (st := fun _ => st) hi (fun _ => hd) (fun _ => h0) hg hb
theorem sy_forBp {body : β → σ → P (Bool × σ)} (hi : SX X fi Γ (.ok ()) (fun _ => ds) (fun _ => Γ1)) (hd : ds = xs.map enc) (h0 : ∀ ρ, Ag Γ1 ρ → Ag (Γo st) ρ) (hg : ∀ x s, SG gt (enc x) (Γo s) (Γg x s)) (hb : ∀ x s, SY X fb (Γg x s) (body x s) (lbO Γo)) : SY X (sFor fi gt fb) Γ (forB xs st body) (nxO Γo) := sy_forB (t := .ok ()) (xs := fun _ => xs) (st := fun _ => st) hi (fun _ => hd) (fun _ => h0) hg hb
theorem sy_forKp {body : β → σ → P (C σ R)} {k : σ → P ω} {kr : R → P ω} {ΨR : R → Out → Prop} (hi : SX X fi Γ (.ok ()) (fun _ => ds) (fun _ => Γ1)) (hd : ds = xs.map enc) (h0 : ∀ ρ, Ag Γ1 ρ → Ag (Γo st) ρ) (hg : ∀ x s, SG gt (enc x) (Γo s) (Γg x s)) (hb : ∀ x s, SY X fb (Γg x s) (body x s) (lkO Γo ΨR)) (hk : ∀ s, SY X s3 (Γo s) (k s) Ψ) (hr : ∀ r x ρ, ΨR r (.rt x ρ) → ∃ w, kr r = .ok w ∧ Ψ w (.rt x ρ)) :
    SY X (sSeq (sFor fi gt fb) s3) Γ (forK xs st body k kr) Ψ := sy_forK (t := .ok ()) (xs := fun _ => xs) (st := fun _ => st) (k := fun _ => k) hi (fun _ => hd) (fun _ => h0) hg hb (fun _ => hk) hr
/-! operations that may have no value, behind effects -/
theorem sx_e1o {op : T → T} {t : P α} {v : α → T} {Γ1 : α → Ev} : True := trivial
variable {t : P α} {ua : α → P β} {v : α → T} {Γa : α → Ev} {Γb : β → Ev}
theorem bnd_og {o : Option β} {K : β → P γ} : P.bind (og o fun x => .ok x) K = og o K := by cases o <;> rfl
theorem sx_post {f : Rho → Option (Rs W)} {e : Rho → Option (Rs T)} {v : α → W} {o : α → Option β} {z : α × β → T} (hf : SX X f Γ t v Γa) (hx : ∀ ρ c ρ', f ρ = some (.ex c ρ') → e ρ = some (.ex c ρ')) (ho : ∀ a x ρ ρ', o a = some x → f ρ = some (.ok (v a) ρ') → e ρ = some (.ok (z (a, x)) ρ')) : SX X e Γ (t.bind fun a => og (o a) fun x => .ok (a, x)) z (fun q => Γa q.1) := fun ρ r => by
  have h := hf ρ r
  cases t with
  | fail => trivial
  | ex c => obtain ⟨ρ', e1, g1⟩ := h; exact ⟨ρ', hx ρ c ρ' e1, g1⟩
  | ok a =>
    obtain ⟨ρ', e1, g1⟩ := h
    simp only [P.bind]
    cases q : o a with
    | none => trivial
    | some x => exact ⟨ρ', ho a x ρ ρ' q e1, g1⟩
theorem sx_e2lo {Γ0 : α → Ev} {op : T → T → Option T} {w2 : α → T} {o : α → Option β} {z : α × β → T} (hf : SX X f Γ t v Γa) (hg : ∀ a, SX X g (Γa a) (.ok ()) (fun _ => w2 a) (fun _ => Γ0 a)) (ho : ∀ a x, o a = some x → op (v a) (w2 a) = some (z (a, x))) : SX X (e2 op f g) Γ (t.bind fun a => og (o a) fun x => .ok (a, x)) z (fun q => Γ0 q.1) := fun ρ r => by
  have h := hf ρ r
  cases t with
  | fail => trivial
  | ex c => obtain ⟨ρ', e1, g1⟩ := h; exact ⟨ρ', by unfold e2; rw [e1]; rfl, g1⟩
  | ok a =>
    obtain ⟨ρ', e1, g1⟩ := h
    obtain ⟨ρ2, e2', g2⟩ := hg a ρ' g1
    simp only [P.bind]
    cases q : o a with
    | none => trivial
    | some x => exact ⟨ρ2, by unfold e2; rw [e1, bnd_ok, e2', bnd_ok, ho a x q]; rfl, g2⟩
theorem sx_e2ro {Γ0 : Ev} {op : T → T → Option T} {v : T} {ub : P β} {w : β → T} {o : β → Option γ} {z : β × γ → T} (hf : SX X f Γ (.ok ()) (fun _ => v) (fun _ => Γ0)) (hg : SX X g Γ0 ub w Γb) (ho : ∀ b x, o b = some x → op v (w b) = some (z (b, x))) : SX X (e2 op f g) Γ (ub.bind fun b => og (o b) fun x => .ok (b, x)) z (fun q => Γb q.1) := fun ρ r => by
  obtain ⟨ρ1, e1, g1⟩ := hf ρ r
  have q := hg ρ1 g1
  cases ub with
  | fail => trivial
  | ex c => obtain ⟨ρ', e3, g3⟩ := q; exact ⟨ρ', by unfold e2; rw [e1, bnd_ok, e3]; rfl, g3⟩
  | ok a =>
    obtain ⟨ρ', e3, g3⟩ := q
    simp only [P.bind]
    cases q : o a with
    | none => trivial
    | some x => exact ⟨ρ', by unfold e2; rw [e1, bnd_ok, e3, bnd_ok, ho a x q]; rfl, g3⟩
theorem sx_e2o {op : T → T → Option T} {w2 : α → β → T} {o : α → β → Option γ} {z : α × β × γ → T} (hf : SX X f Γ t v Γa) (hg : ∀ a, SX X g (Γa a) (ua a) (w2 a) Γb) (ho : ∀ a b x, o a b = some x → op (v a) (w2 a b) = some (z (a, b, x))) : SX X (e2 op f g) Γ (t.bind fun a => (ua a).bind fun b => og (o a b) fun x => .ok (a, b, x)) z (fun q => Γb q.2.1) := fun ρ r => by
  have h := hf ρ r
  cases t with
  | fail => trivial
  | ex c => obtain ⟨ρ', e1, g1⟩ := h; exact ⟨ρ', by unfold e2; rw [e1]; rfl, g1⟩
  | ok a =>
    obtain ⟨ρ', e1, g1⟩ := h
    have h2 := hg a ρ' g1
    simp only [P.bind]
    cases qa : ua a with
    | fail => trivial
    | ex c => rw [qa] at h2; obtain ⟨ρ2, e3, g3⟩ := h2; exact ⟨ρ2, by unfold e2; rw [e1, bnd_ok, e3]; rfl, g3⟩
    | ok b =>
      rw [qa] at h2
      obtain ⟨ρ2, e3, g3⟩ := h2
      simp only []
      cases q : o a b with
      | none => trivial
      | some x => exact ⟨ρ2, by unfold e2; rw [e1, bnd_ok, e3, bnd_ok, ho a b x q]; rfl, g3⟩
theorem sx_no {op : List T → Option T} {as : α → List Ar} {ts : α → List T} {o : α → Option β} {w : α × β → T} (hl : SX X l Γ t as Γa) (h1 : ∀ a, ownsA (as a) = some (ts a)) (h2 : ∀ a x, o a = some x → op (ts a) = some (w (a, x))) : SX X (eN op l) Γ (t.bind fun a => og (o a) fun x => .ok (a, x)) w (fun q => Γa q.1) := fun ρ r => by
  have h := hl ρ r
  cases t with
  | fail => trivial
  | ex c => obtain ⟨ρ', e1, g1⟩ := h; exact ⟨ρ', by unfold eN; rw [e1]; rfl, g1⟩
  | ok a =>
    obtain ⟨ρ', e1, g1⟩ := h
    simp only [P.bind]
    cases q : o a with
    | none => trivial
    | some x => exact ⟨ρ', by unfold eN; rw [e1, bnd_ok]; simp [h1 a, h2 a x q], g1⟩
theorem si_r1M {as : α → List Ar} {j : α → Int} (hl : SX X l Γ t as Γa) (h : ∀ a, as a = [.own (.fr (.int (j a)))]) : SX X (iRange1 l) Γ (t.bind fun a => og (rng1O (j a)) fun x => .ok (a, x)) (fun q => q.2.map eI) (fun q => Γa q.1) := fun ρ r => by
  have q := hl ρ r
  cases t with
  | fail => trivial
  | ex c => obtain ⟨ρ', e1, g1⟩ := q; exact ⟨ρ', by unfold iRange1; rw [e1]; rfl, g1⟩
  | ok a =>
    obtain ⟨ρ', e1, g1⟩ := q
    simp only [P.bind]
    cases q : rng1O (j a) with
    | none => trivial
    | some x =>
      obtain ⟨h1, h2⟩ := r1_h q
      exact ⟨ρ', by unfold iRange1; rw [e1, bnd_ok, h a]; simp only [if_pos h1, h2], g1⟩
theorem si_r2M {as : α → List Ar} {i j : α → Int} (hl : SX X l Γ t as Γa) (h : ∀ a, as a = [.own (.fr (.int (i a))), .own (.fr (.int (j a)))]) : SX X (iRange2 l) Γ (t.bind fun a => og (rngO (i a) (j a)) fun x => .ok (a, x)) (fun q => q.2.map eI) (fun q => Γa q.1) := fun ρ r => by
  have q := hl ρ r
  cases t with
  | fail => trivial
  | ex c => obtain ⟨ρ', e1, g1⟩ := q; exact ⟨ρ', by unfold iRange2; rw [e1]; rfl, g1⟩
  | ok a =>
    obtain ⟨ρ', e1, g1⟩ := q
    simp only [P.bind]
    cases q : rngO (i a) (j a) with
    | none => trivial
    | some x =>
      obtain ⟨h1, h2⟩ := r2_h q
      exact ⟨ρ', by unfold iRange2; rw [e1, bnd_ok, h a]; simp only [if_pos h1, h2], g1⟩
theorem si_r1p {j : Int} {xs : List Int} (hl : SX X l Γ (.ok ()) (fun _ => [.own (F eI j)]) (fun _ => Γ1)) (hx : rng1O j = some xs) : SX X (iRange1 l) Γ (.ok ()) (fun _ => xs.map eI) (fun _ => Γ1) := fun ρ r => by
  obtain ⟨ρ', e1, g1⟩ := hl ρ r
  obtain ⟨h1, h2⟩ := r1_h hx
  exact ⟨ρ', by unfold iRange1; rw [e1, bnd_ok]; simp only [F, if_pos h1, h2], g1⟩
theorem si_r2p {i j : Int} {xs : List Int} (hl : SX X l Γ (.ok ()) (fun _ => [.own (F eI i), .own (F eI j)]) (fun _ => Γ1)) (hx : rngO i j = some xs) : SX X (iRange2 l) Γ (.ok ()) (fun _ => xs.map eI) (fun _ => Γ1) := fun ρ r => by
  obtain ⟨ρ', e1, g1⟩ := hl ρ r
  obtain ⟨h1, h2⟩ := r2_h hx
  exact ⟨ρ', by unfold iRange2; rw [e1, bnd_ok]; simp only [F, if_pos h1, h2], g1⟩
/-! pure calls -/
theorem pk_callv {Γ : Ev} {k : Rho → Option (List T)} {as : List T} {sem : List T → Option Ret} {t : P R} {er : R → T} {os : R → List (Option T)} {r : R} (hl : PL k Γ as) (ha : allF as = true) (h : SimD (sem as) t er os) (e : t = .ok r) : PK (kCall sem k) Γ (er r) := pk_call hl ha h (by rw [e]; rfl)
theorem sx_callv {Γ0 : Ev} {sem : List T → Option Ret} {as : List Ar} {ts : List T} {Γt : Ev} {ft : P R} {er : R → T} {os : R → List (Option T)} {r : R} (hl : SX X l Γ (.ok ()) (fun _ => as) (fun _ => Γ0)) (ht : takeA as Γ0 = some (ts, Γt)) (h : SimD (sem ts) ft er os) (e : ft = .ok r) : SX X (eCall sem l) Γ (.ok ()) (fun _ => er r) (fun _ => putA as (os r) Γt) := fun ρ q => by
  obtain ⟨ρ1, e1, g1⟩ := hl ρ q
  obtain ⟨ρ2, e2, g2⟩ := g1.take ht
  subst e
  rw [eCall_ap, e1, bnd_ok, e2]
  exact ⟨_, by rw [rA_ok, show sem ts = some (.ok (er r) (os r)) from h]; rfl, g2.put⟩
theorem sx_callM {sem : List T → Option Ret} {as : α → List Ar} {ts : α → List T} {Γt : α → Ev} {ft : α → P R} {er : R → T} {os : α → R → List (Option T)} {r : α → R} (hl : SX X l Γ t as Γa) (ht : ∀ a, takeA (as a) (Γa a) = some (ts a, Γt a)) (h : ∀ a, SimD (sem (ts a)) (ft a) er (os a)) (e : ∀ a, ft a = .ok (r a)) : SX X (eCall sem l) Γ t (fun a => er (r a)) (fun a => putA (as a) (os a (r a)) (Γt a)) := sx_eq (fun ρ => eCall_ap) fun ρ q => by
  have z := hl ρ q
  cases t with
  | fail => trivial
  | ex c => obtain ⟨ρ', e1, g1⟩ := z; exact ⟨ρ', by rw [e1]; rfl, g1⟩
  | ok a =>
    obtain ⟨ρ1, e1, g1⟩ := z
    obtain ⟨ρ2, e2, g2⟩ := g1.take (ht a)
    have hs := h a
    rw [e a] at hs
    exact ⟨_, by rw [e1, bnd_ok, e2, rA_ok, show sem (ts a) = some (.ok (er (r a)) (os a (r a))) from hs]; rfl, g2.put⟩
/-! lists of data -/
theorem dl_nil : T.datL [] = some [] := rfl
theorem dl_cons {t : T} {ts : List T} {d : D} {ds : List D} (h : t.dat = some d) (hs : T.datL ts = some ds) : T.datL (t :: ts) = some (d :: ds) := by rw [T.datL]; simp only [h, hs]
theorem tr_L {e : α → D} {x : List α} : truth (F (eL e) x) = some (!x.isEmpty) := by cases x <;> rfl
theorem tr_V {e : α → D} {x : List α} : truth (F (eV e) x) = some (!x.isEmpty) := by cases x <;> rfl
theorem tr_O {e : α → T} {x : List α} : truth (OL e x) = some (!x.isEmpty) := by cases x <;> rfl
theorem tr_I {x : Int} : truth (F eI x) = some (decide (x ≠ 0)) := rfl
theorem tr_B {x : Bool} : truth (F eB x) = some x := rfl
def truO (d : D) : Option Bool := truthD d
theorem tr_D {d : D} {b : Bool} (h : truO d = some b) : truth (F eD d) = some b := h
def dO : Option T → Option D
  | some (.fr d) => some d
  | _ => none
theorem dO_h {o : Option T} {d : D} (h : dO o = some d) : o = some (F eD d) := by
  unfold dO at h; split at h
  · cases h; rfl
  · cases h
def lO : Option T → Option (List D)
  | some (.lst ts) => allFr ts
  | _ => none
theorem lO_h {o : Option T} {ds : List D} (h : lO o = some ds) : o = some (OL (F eD) ds) := by
  unfold lO at h; split at h
  · have := allFr_eq h; subst this; rfl
  · cases h
def bO : Option T → Option Bool
  | some (.fr (.bool b)) => some b
  | _ => none
theorem bO_h {o : Option T} {b : Bool} (h : bO o = some b) : o = some (F eB b) := by
  unfold bO at h; split at h
  · cases h; rfl
  · cases h
def iO : Option T → Option Int
  | some (.fr (.int b)) => some b
  | _ => none
theorem iO_h {o : Option T} {b : Int} (h : iO o = some b) : o = some (F eI b) := by
  unfold iO at h; split at h
  · cases h; rfl
  · cases h
theorem it_D {d : D} {ds : List D} (h : itemsD d = some ds) : itemsD d = some (ds.map eD) := by rw [h]; simp
/-! comprehensions, told by lists -/
variable {own : List Nat} {fc : Rho → Option (Rs Bool)} {fe : Rho → Option (Rs T)} {Γx : β → Ev} {ve : γ → T} {y : β → γ} {cb : β → Bool}
/-- the block's items pure -/
theorem sx_lcp {y : β → γ} (hi : SX X fi Γ (.ok ()) (fun _ => ds) (fun _ => Γ1)) (hd : ds = xs.map enc) (hg : ∀ x, SG gt (enc x) (wipeR Γ1 own) (Γx x)) (hc : ∀ x, SX X fc (Γx x) (.ok ()) (fun _ => cb x) (fun _ => Γx x)) (he : ∀ x, SX X fe (Γx x) (.ok ()) (fun _ => ve (y x)) (fun _ => Γx x)) (hw : ∀ x, wipeR (Γx x) own = wipeR Γ1 own) :
    SX X (eLc own fi gt fc fe) Γ (.ok ()) (fun _ => OL ve ((xs.filter cb).map y)) (fun _ => backE Γ1 (wipeR Γ1 own) own) := by
  have h := sx_lc (t := .ok ()) (xs := fun _ => xs) (c := fun _ => cb) (v := fun _ x => ve (y x)) hi (fun _ => hd) (fun _ => hg) (fun _ => hc) (fun _ => he) (fun _ => hw)
  rw [show (fun x => ve (y x)) = ve ∘ y from rfl] at h
  simp only [← List.map_map] at h
  exact h
theorem sx_lcf {ve : β → T} (hi : SX X fi Γ (.ok ()) (fun _ => ds) (fun _ => Γ1)) (hd : ds = xs.map enc) (hg : ∀ x, SG gt (enc x) (wipeR Γ1 own) (Γx x)) (hc : ∀ x, SX X fc (Γx x) (.ok ()) (fun _ => cb x) (fun _ => Γx x)) (he : ∀ x, SX X fe (Γx x) (.ok ()) (fun _ => ve x) (fun _ => Γx x)) (hw : ∀ x, wipeR (Γx x) own = wipeR Γ1 own) :
    SX X (eLc own fi gt fc fe) Γ (.ok ()) (fun _ => OL ve (xs.filter cb)) (fun _ => backE Γ1 (wipeR Γ1 own) own) :=
  sx_lc (t := .ok ()) (xs := fun _ => xs) (c := fun _ => cb) (v := fun _ x => ve x) hi (fun _ => hd) (fun _ => hg) (fun _ => hc) (fun _ => he) (fun _ => hw)
theorem sx_lcm {y : β → γ} (hi : SX X fi Γ (.ok ()) (fun _ => ds) (fun _ => Γ1)) (hd : ds = xs.map enc) (hg : ∀ x, SG gt (enc x) (wipeR Γ1 own) (Γx x)) (he : ∀ x, SX X fe (Γx x) (.ok ()) (fun _ => ve (y x)) (fun _ => Γx x)) (hw : ∀ x, wipeR (Γx x) own = wipeR Γ1 own) :
    SX X (eLc own fi gt tYesF fe) Γ (.ok ()) (fun _ => OL ve (xs.map y)) (fun _ => backE Γ1 (wipeR Γ1 own) own) := by
  have h := sx_lcp (cb := fun _ => true) hi hd hg (fun x => st_yes) he hw
  have e : xs.filter (fun _ => true) = xs := by simp
  simp only [e] at h
  exact h
/-- with effects, the items and the state told -/
theorem sx_lcMp {ε : Type} {st : σ} {Γs : σ → Ev} {Γg : β → σ → Ev} {tc : β → σ → P δ} {c : β → σ → δ → Bool} {Γc : β → σ → δ → Ev} {te : β → σ → δ → P ε} {vv : β → σ → δ → ε → T} {Γe : β → σ → δ → ε → Ev} (y : β → σ → δ → ε → γ) (s0 : β → σ → δ → σ) (s1 : β → σ → δ → ε → σ)
    (hi : SX X fi Γ (.ok ()) (fun _ => ds) (fun _ => Γ1)) (hd : ds = xs.map enc) (h0 : ∀ ρ, Ag (wipeR Γ1 own) ρ → Ag (Γs st) ρ) (hg : ∀ x s, SG gt (enc x) (Γs s) (Γg x s)) (hc : ∀ x s, SX X fc (Γg x s) (tc x s) (c x s) (Γc x s)) (he : ∀ x s a, SX X fe (Γc x s a) (te x s a) (vv x s a) (Γe x s a))
    (hy : ∀ x s a b, vv x s a b = ve (y x s a b)) (hs0 : ∀ x s a ρ, Ag (wipeR (Γc x s a) own) ρ → Ag (Γs (s0 x s a)) ρ) (hs1 : ∀ x s a b ρ, Ag (wipeR (Γe x s a b) own) ρ → Ag (Γs (s1 x s a b)) ρ) :
    SX X (eLc own fi gt fc fe) Γ (noex (lcS xs st fun x s => noex ((tc x s).bind fun a => if c x s a = true then (te x s a).bind fun b => .ok (some (y x s a b), s1 x s a b) else .ok (none, s0 x s a)))) (fun q => OL ve q.1) (fun q => backE Γ1 (Γs q.2) own) := fun ρ q => by
  have h := sx_lcS (t := .ok ()) (xs := fun _ => xs) (st := fun _ => st) (v := ve) (y := y) (s0 := s0) (s1 := s1) (Γ3 := fun _ r => backE Γ1 (Γs r.2) own) hi (fun _ => hd) (fun _ => h0) hg hc he hy hs0 hs1 (fun _ _ => rfl) ρ q
  simp only [b_ok] at h
  revert h
  generalize lcS xs st _ = L
  intro h
  cases L with
  | fail => exact True.intro
  | ex c => exact True.intro
  | ok r => exact h
theorem noex_bnd {L M : P α} {f : α → β} (h : noex L = noex M) : noex (L.bind fun r => .ok (f r)) = noex (M.bind fun r => .ok (f r)) := by
  cases L <;> cases M <;> first | rfl | (cases h; rfl) | cases h
theorem lcS_yes {γ : Type} {k : β → σ → P (γ × σ)} {xs : List β} : ∀ st : σ, noex (lcS xs st fun x s => noex ((P.ok ()).bind fun a => if (fun _ => true) a = true then (k x s).bind fun b => .ok (some b.1, b.2) else .ok (none, s))) = noex (mapS xs st fun x s => noex (k x s)) := by
  induction xs with
  | nil => intro st; rfl
  | cons x xs ih =>
    intro st
    simp only [lcS, mapS]
    cases e : k x st with
    | fail => rfl
    | ex c => rfl
    | ok b => exact noex_bnd (ih b.2)
theorem sx_mapSp {ε : Type} {st : σ} {Γs : σ → Ev} {Γg : β → σ → Ev} {te : β → σ → P ε} {vv : β → σ → ε → T} {Γe : β → σ → ε → Ev} (y : β → σ → ε → γ) (s1 : β → σ → ε → σ)
    (hi : SX X fi Γ (.ok ()) (fun _ => ds) (fun _ => Γ1)) (hd : ds = xs.map enc) (h0 : ∀ ρ, Ag (wipeR Γ1 own) ρ → Ag (Γs st) ρ) (hg : ∀ x s, SG gt (enc x) (Γs s) (Γg x s)) (he : ∀ x s, SX X fe (Γg x s) (te x s) (vv x s) (Γe x s))
    (hy : ∀ x s b, vv x s b = ve (y x s b)) (hs0 : ∀ x s ρ, Ag (wipeR (Γg x s) own) ρ → Ag (Γs s) ρ) (hs1 : ∀ x s b ρ, Ag (wipeR (Γe x s b) own) ρ → Ag (Γs (s1 x s b)) ρ) :
    SX X (eLc own fi gt tYesF fe) Γ (noex (mapS xs st fun x s => noex ((te x s).bind fun b => .ok (y x s b, s1 x s b)))) (fun q => OL ve q.1) (fun q => backE Γ1 (Γs q.2) own) := by
  have h := sx_lcMp (fc := tYesF) (tc := fun _ _ => .ok ()) (c := fun _ _ _ => true) (Γc := fun x s _ => Γg x s) (te := fun x s _ => te x s) (vv := fun x s _ => vv x s) (Γe := fun x s _ => Γe x s) (ve := ve) (fun x s _ => y x s) (fun x s _ => s) (fun x s _ => s1 x s) hi hd h0 hg (fun x s => st_yes) (fun x s _ => he x s) (fun x s _ b => hy x s b) (fun x s _ => hs0 x s) (fun x s _ b => hs1 x s b)
  have e := lcS_yes (xs := xs) (k := fun x s => (te x s).bind fun b => P.ok (y x s b, s1 x s b)) st
  have e2 : (fun (x : β) (s : σ) => noex ((P.ok ()).bind fun a => if (fun _ => true) a = true then ((te x s).bind fun b => P.ok (y x s b, s1 x s b)).bind fun b => P.ok (some b.1, b.2) else P.ok (none, s))) = (fun (x : β) (s : σ) => noex ((P.ok ()).bind fun (a : Unit) => if true = true then (te x s).bind fun b => P.ok (some (y x s b), s1 x s b) else P.ok (none, s))) := by
    funext x s
    cases te x s <;> rfl
  rw [e2] at e
  rw [← e]
  exact h
/-! sim of a def, once more -/
theorem sim_of {n m : Nat} {pin : List Nat} {body : Rho → Option Out} {ts : List T} {G : P R} {er : R → T} {pn : R → Ev} {os : R → List (Option T)} (k : Nat) (hn : ts.length = n) (hp : ∀ r, (pin.all fun i => (slot (pn r) i).isSome) = true) (ho : ∀ r, os r = outs pin (pn r) ts 0) (h : SY (List.replicate k none) body (ts.map some ++ List.replicate m none) G (fnO er pn)) : SimD (semD n m pin body ts) G er os := by
  have q := sim_def (k := k) hn (fun r i hi => List.all_eq_true.mp (hp r) i hi) h
  have e : os = fun r => outs pin (pn r) ts 0 := funext ho
  rw [e]; exact q
theorem ok_ite {c : Prop} [Decidable c] {a b : ω} : (if c then (P.ok a) else P.ok b) = P.ok (if c then a else b) := by split <;> rfl
end
end Ty
end Lv

set_option maxHeartbeats 1000000
namespace Lv
namespace Ty
open PySem PySem.Spec PyProof.Rows L2 Lv
section
variable {α β γ δ R σ ω W : Type} {X Γ Γ1 Γ2 : Ev}
theorem sx_rep {e : Rho → Option (Rs W)} {u : W} {x : α} {w : α → W} {Γ3 : α → Ev} (h : SX X e Γ (.ok ()) (fun _ => u) (fun _ => Γ1)) (hv : w x = u) (hg : ∀ ρ, Ag Γ1 ρ → Ag (Γ3 x) ρ) : SX X e Γ (.ok x) w Γ3 := fun ρ r => by
  obtain ⟨ρ', e1, g1⟩ := h ρ r
  exact ⟨ρ', by rw [e1, hv], hg ρ' g1⟩
theorem sx_re2 {e : Rho → Option (Rs W)} {u : W} {x : α} {w : α → W} {Γ3 : α → Ev} (h : SX X e Γ (.ok ()) (fun _ => u) (fun _ => Γ1)) (hv : w x = u) (hg : Γ3 x = Γ1) : SX X e Γ (.ok x) w Γ3 := sx_rep h hv (fun ρ r => by rw [hg]; exact r)
theorem sx_ifq {f g : Rho → Option (Rs T)} {c : Rho → Option (Rs Bool)} {a : Bool} {u u2 : P γ} {z : γ → T} {Γ3 : γ → Ev} (hc : SX X c Γ (.ok ()) (fun _ => a) (fun _ => Γ1)) (hf : a = true → SX X f Γ1 u z Γ3) (hg : a = false → SX X g Γ1 u2 z Γ3) : SX X (eIf c f g) Γ (if a = true then u else u2) z Γ3 := sx_if (t := .ok ()) (a := fun _ => a) (u := fun _ => u) (u2 := fun _ => u2) hc (fun _ => hf) (fun _ => hg)
theorem o_inP {A B : T} {b : Bool} (h : opInS false A B = some (F eB (b ^^ false))) : opInS false A B = some (F eB b) := by rw [h]; cases b <;> rfl
theorem o_inN {A B : T} {b : Bool} (h : opInS true A B = some (F eB (b ^^ true))) : opInS true A B = some (F eB (!b)) := by rw [h]; cases b <;> rfl
theorem o_isnP {α : Type} {A : T} {o : Option α} (h : isNoT A = o.isNone) : opIsN false A (.fr .none) = some (F eB o.isNone) := by cases o <;> simp_all [opIsN]
theorem o_isnN {α : Type} {A : T} {o : Option α} (h : isNoT A = o.isNone) : opIsN true A (.fr .none) = some (F eB o.isSome) := by cases o <;> simp_all [opIsN]
theorem o_isnP2 {A : T} {b : Bool} (h : isNoT A = b) : opIsN false A (.fr .none) = some (F eB b) := by cases b <;> simp_all [opIsN]
theorem o_isnN2 {A : T} {b : Bool} (h : isNoT A = b) : opIsN true A (.fr .none) = some (F eB (!b)) := by cases b <;> simp_all [opIsN]
theorem o_isnC {A B : T} {N b : Bool} (h : opIsN N A B = some (F eB b)) : opIsN N A B = some (F eB b) := h
theorem isB_h {A : T} {b : Bool} (h : bO (some A) = some b) : isB A = some b := by
  have := bO_h h; cases this; rfl
theorem pk_rev2 {f : Rho → Option T} {a : T} {e : α → D} {x : List α} (hf : PK f Γ a) (h : T.asL a = some (x.map e)) : PK (kRev f) Γ (OL (F e) x.reverse) := fun ρ r => by
  rw [pk_rev hf h ρ r, ← List.map_reverse, of_map]
theorem pk_tr2 {f g : Rho → Option T} {x y : Int} {xs : List Int} (hf : PK f Γ (.fr (.int x))) (hg : PK g Γ (.fr (.int y))) (h : rngO x y = some xs) : PK (kTR f g) Γ (F (eV eI) xs) := fun ρ r => by
  obtain ⟨h1, h2⟩ := rgOk_h h
  rw [pk_tr hf hg h1 ρ r, h2]
theorem sx_lr2 {f g : Rho → Option T} {x y : Int} {xs : List Int} (hf : PK f Γ (.fr (.int x))) (hg : PK g Γ (.fr (.int y))) (h : rngO x y = some xs) : SX X (eLR f g) Γ (.ok ()) (fun _ => OL (F eI) xs) (fun _ => Γ) := by
  obtain ⟨h1, h2⟩ := rgOk_h h
  have := sx_lr (X := X) hf hg h1
  rw [h2, of_map] at this
  exact this
/-! writing at places -/
theorem sy_setV {i : Nat} {ts : α → List T} {kf : Rho → Option T} {f : Rho → Option (Rs T)} {t : P α} {v : α → T} {Γa : α → Ev} {k : α → Int} {us : β → List T} (o : α → Option β) (hf : SX X f Γ t v Γa) (e : ∀ a, (Γa a)[i]? = some (some (.lst (ts a)))) (hk : ∀ a, PK kf (Γa a) (F eI (k a))) (ho : ∀ a x, o a = some x → (ixN (ts a).length (k a)).map (fun j => (ts a).set j (v a)) = some (us x)) :
    SY X (sSetIx (pV i) kf f) Γ (t.bind fun a => og (o a) fun x => .ok (a, x)) (nxO fun q => (Γa q.1).set i (some (.lst (us q.2)))) := fun ρ r => by
  have h := hf ρ r
  unfold sSetIx
  cases t with
  | fail => trivial
  | ex c => obtain ⟨ρ', e1, g1⟩ := h; exact ⟨ρ', by rw [e1]; rfl, g1⟩
  | ok a =>
    obtain ⟨ρ', e1, g1⟩ := h
    simp only [P.bind]
    cases q : o a with
    | none => trivial
    | some x =>
      refine ⟨_, ?_, _, rfl, g1.set i _⟩
      have z := ho a x q
      obtain ⟨j, z1, z2⟩ := Option.map_eq_some_iff.mp z
      have sl := g1.slot (e a)
      have hk' := hk a ρ' g1
      rw [e1, ofR_ok]
      simp only [pV, sl, Option.map_some, Option.bind_some, getAt, getP, hk', F, eI, z1, setAt, setP, z2]
theorem set_map {e : α → T} {xs ys : List α} {k : Int} {y : α} (h : setO xs k y = some ys) : (ixN (xs.map e).length k).map (fun j => (xs.map e).set j (e y)) = some (ys.map e) := by
  unfold setO at h
  obtain ⟨j, z1, z2⟩ := Option.map_eq_some_iff.mp h
  rw [List.length_map, z1, ← z2, List.map_set]; rfl
/-- tryP's clauses -/
def hdP {ω : Type} (o : Option Bool) (G1 G2 : P ω) : P ω := match o with
  | some true => G1
  | some false => G2
  | none => .fail
theorem sh_hd {G1 G2 : P ω} {Ψ : ω → Out → Prop} {m : ExT} {hs : List (Str × (Rho → Option Out))} {c x : Str} {f : Rho → Option Out} (h1 : SY X f Γ G1 Ψ) (h2 : SY X (handle m hs c) Γ G2 Ψ) : SY X (handle m ((x, f) :: hs) c) Γ (hdP (exLook m c x) G1 G2) Ψ := sh_if h1 h2
theorem app_map {e : α → T} {xs : List α} {y : α} : T.lst (xs.map e ++ [e y]) = OL e (xs ++ [y]) := by simp
theorem sy_app {i : Nat} {xs ys : List α} {e : α → T} {f : Rho → Option (Rs T)} {y : α} (h0 : Γ[i]? = some (some (OL e xs))) (hf : SX X f Γ (.ok ()) (fun _ => e y) (fun _ => Γ1)) (h1 : Γ1[i]? = some (some (OL e xs))) (hs : szO xs = some ys) : SY X (sApp0 i f) Γ (.ok ()) (nxO fun _ => Γ1.set i (some (OL e (ys ++ [y])))) := by
  obtain ⟨rfl, hl⟩ := sz_h hs
  have h := sy_app0 (us := fun _ => ys.map e) h0 hf (fun _ => h1) (fun _ => by rw [List.length_map]; exact hl)
  simp only [app_map] at h
  exact h
theorem sy_appM {i : Nat} {xs0 : List α} {xs : δ → List α} {e : α → T} {f : Rho → Option (Rs T)} {y : δ → α} {t : P δ} {Γa : δ → Ev} (h0 : Γ[i]? = some (some (OL e xs0))) (hf : SX X f Γ t (fun a => e (y a)) Γa) (h1 : ∀ a, (Γa a)[i]? = some (some (OL e (xs a)))) : SY X (sApp0 i f) Γ (t.bind fun a => og (szO (xs a)) fun ys => .ok (a, ys)) (nxO fun q => (Γa q.1).set i (some (OL e (q.2 ++ [y q.1])))) := fun ρ g => by
  have h := hf ρ g
  unfold sApp0
  rw [g.slot h0]
  cases t with
  | fail => trivial
  | ex c => obtain ⟨ρ', e1, g1⟩ := h; exact ⟨ρ', by simp only [e1]; rfl, g1⟩
  | ok a =>
    obtain ⟨ρ', e1, g1⟩ := h
    simp only [P.bind]
    cases q : szO (xs a) with
    | none => trivial
    | some ys =>
      obtain ⟨rfl, hl⟩ := sz_h q
      refine ⟨_, ?_, _, rfl, g1.set i _⟩
      simp only [e1, ofR_ok, g1.slot (h1 a), OL]
      rw [if_pos (by rw [List.length_map]; exact hl)]
      simp
theorem sy_ext {i : Nat} {xs ys zs : List α} {e : α → D} {f : Rho → Option (Rs T)} {v : T} (h0 : Γ[i]? = some (some (OL (F e) xs))) (hf : SX X f Γ (.ok ()) (fun _ => v) (fun _ => Γ1)) (h1 : Γ1[i]? = some (some (OL (F e) xs))) : True := trivial
def sortI (xs : List Int) : List Int := xs.mergeSort fun a b => decide (a ≤ b)
theorem merge_map (a b : List Int) : List.merge (a.map eI) (b.map eI) leD = (List.merge a b fun a b => decide (a ≤ b)).map eI := by
  induction a generalizing b with
  | nil => simp
  | cons x a ih =>
    induction b with
    | nil => simp
    | cons y b ih2 =>
      have e : leD (eI x) (eI y) = decide (x ≤ y) := by
        show (!decide (y < x)) = _
        by_cases h : y < x
        · have h2 : ¬ x ≤ y := by omega
          simp [h, h2]
        · have h2 : x ≤ y := by omega
          simp [h, h2]
      simp only [List.map_cons, List.cons_merge_cons, e]
      split
      · rw [List.map_cons, ← ih]; rfl
      · rw [List.map_cons, ← ih2]; rfl
end
end Ty
end Lv

set_option maxHeartbeats 1000000
namespace Lv
namespace Ty
open PySem PySem.Spec PyProof.Rows L2 Lv
section
variable {α β γ δ R σ ω W : Type} {X Γ Γ1 Γ2 : Ev}
theorem sy_at {s : Rho → Option Out} {G : P ω} {Ψ : ω → Out → Prop} (Γ : Ev) (h : SY X s Γ G Ψ) : SY X s Γ G Ψ := h
theorem sy_atP {s : Rho → Option Out} {G : P ω} (Ψ : ω → Out → Prop) (h : SY X s Γ G Ψ) : SY X s Γ G Ψ := h
theorem st_andMp {c c2 : Rho → Option (Rs Bool)} {a : Bool} {u : P γ} {z : γ → Bool} {Γ3 : γ → Ev} (r : γ) (hf : SX X c Γ (.ok ()) (fun _ => a) (fun _ => Γ1)) (hg : a = true → SX X c2 Γ1 u z Γ3) (h0 : z r = false) (h1 : ∀ ρ, Ag Γ1 ρ → Ag (Γ3 r) ρ) : SX X (tAnd c c2) Γ (if a = true then u else .ok r) z Γ3 := st_andM (t := .ok ()) (a := fun _ => a) (u := fun _ => u) (fun _ => r) hf (fun _ => hg) (fun _ _ => h0) (fun _ => h1)
theorem st_orMp {c c2 : Rho → Option (Rs Bool)} {a : Bool} {u : P γ} {z : γ → Bool} {Γ3 : γ → Ev} (r : γ) (hf : SX X c Γ (.ok ()) (fun _ => a) (fun _ => Γ1)) (hg : a = false → SX X c2 Γ1 u z Γ3) (h0 : z r = true) (h1 : ∀ ρ, Ag Γ1 ρ → Ag (Γ3 r) ρ) : SX X (tOr c c2) Γ (if a = true then .ok r else u) z Γ3 := st_orM (t := .ok ()) (a := fun _ => a) (u := fun _ => u) (fun _ => r) hf (fun _ => hg) (fun _ _ => h0) (fun _ => h1)
theorem sx_andMp {f g : Rho → Option (Rs T)} {a : Bool} {u : P γ} {z : γ → T} {Γ3 : γ → Ev} (r : γ) (hf : SX X f Γ (.ok ()) (fun _ => .fr (.bool a)) (fun _ => Γ1)) (hg : a = true → SX X g Γ1 u z Γ3) (h0 : z r = .fr (.bool false)) (h1 : ∀ ρ, Ag Γ1 ρ → Ag (Γ3 r) ρ) : SX X (eAnd f g) Γ (if a = true then u else .ok r) z Γ3 := sx_andM (t := .ok ()) (a := fun _ => a) (u := fun _ => u) (fun _ => r) hf (fun _ => hg) (fun _ _ => h0) (fun _ => h1)
theorem sx_orMp {f g : Rho → Option (Rs T)} {a : Bool} {u : P γ} {z : γ → T} {Γ3 : γ → Ev} (r : γ) (hf : SX X f Γ (.ok ()) (fun _ => .fr (.bool a)) (fun _ => Γ1)) (hg : a = false → SX X g Γ1 u z Γ3) (h0 : z r = .fr (.bool true)) (h1 : ∀ ρ, Ag Γ1 ρ → Ag (Γ3 r) ρ) : SX X (eOr f g) Γ (if a = true then .ok r else u) z Γ3 := sx_orM (t := .ok ()) (a := fun _ => a) (u := fun _ => u) (fun _ => r) hf (fun _ => hg) (fun _ _ => h0) (fun _ => h1)
def popO (xs : List α) : Option (α × List α) := (xs[xs.length - 1]?).map fun x => (x, xs.dropLast)
theorem sx_pop {i : Nat} {e : α → T} {xs : List α} {q : α × List α} (h0 : Γ[i]? = some (some (OL e xs))) (h : popO xs = some q) : SX X (ePop (pV i)) Γ (.ok ()) (fun _ => e q.1) (fun _ => Γ.set i (some (OL e q.2))) := fun ρ r => by
  unfold popO at h
  obtain ⟨x, h1, rfl⟩ := Option.map_eq_some_iff.mp h
  refine ⟨_, ?_, r.set i _⟩
  unfold ePop
  simp only [pV, r.slot h0, Option.map_some, Option.bind_some, getAt, getP, OL, setAt, setP, List.length_map, List.getElem?_map, h1, List.map_dropLast]
def popAtO (xs : List α) (k : Int) : Option (α × List α) := if -4611686018427387904 ≤ k ∧ k ≤ 4611686018427387904 then (ixN xs.length k).bind fun j => (xs[j]?).map fun x => (x, xs.eraseIdx j) else none
theorem erase_map {e : α → T} : ∀ (xs : List α) (j : Nat), (xs.map e).eraseIdx j = (xs.eraseIdx j).map e
  | [], _ => rfl
  | x :: xs, 0 => rfl
  | x :: xs, j + 1 => by simp [erase_map xs j]
theorem sx_popAt {i : Nat} {e : α → T} {xs : List α} {q : α × List α} {kf : Rho → Option T} {k : Int} (h0 : Γ[i]? = some (some (OL e xs))) (hk : PK kf Γ (F eI k)) (h : popAtO xs k = some q) : SX X (ePopAt (pV i) kf) Γ (.ok ()) (fun _ => e q.1) (fun _ => Γ.set i (some (OL e q.2))) := fun ρ r => by
  unfold popAtO at h
  split at h
  · next hk2 =>
    obtain ⟨j, h1, h2⟩ := Option.bind_eq_some_iff.mp h
    obtain ⟨x, h3, rfl⟩ := Option.map_eq_some_iff.mp h2
    refine ⟨_, ?_, r.set i _⟩
    have hk' := hk ρ r
    unfold ePopAt
    simp only [pV, r.slot h0, Option.map_some, Option.bind_some, getAt, getP, OL, hk', F, eI, if_pos hk2, List.length_map, h1, List.getElem?_map, h3, setAt, setP, erase_map]
  · cases h
def rng3O (i j c : Int) : Option (List Int) := if c ≠ 0 ∧ c.natAbs < 1073741824 ∧ Builtin.Range.small i j c = true ∧ 0 ≤ Builtin.Range.rangeSize i j c ∧ Builtin.Range.rangeSize i j c ≤ 16777216 then some ((List.range (Builtin.Range.rangeSize i j c).toNat).map fun n : Nat => i + n * c) else none
theorem si_r3p {l : Rho → Option (Rs (List Ar))} {i j c : Int} {xs : List Int} (hl : SX X l Γ (.ok ()) (fun _ => [.own (F eI i), .own (F eI j), .own (F eI c)]) (fun _ => Γ1)) (hx : rng3O i j c = some xs) : SX X (iRange3 l) Γ (.ok ()) (fun _ => xs.map eI) (fun _ => Γ1) := fun ρ r => by
  obtain ⟨ρ', e1, g1⟩ := hl ρ r
  unfold rng3O at hx
  split at hx
  · next h1 => cases hx; exact ⟨ρ', by unfold iRange3; rw [e1, bnd_ok]; simp only [F, if_pos h1]; simp [rngC], g1⟩
  · cases hx
theorem sg_si {i : Nat} {e : α → T} {xs ys : List α} {y : α} {d : D} {kf : Rho → Option T} {k : Int} (h0 : Γ[i]? = some (some (OL e xs))) (hk : PK kf Γ (F eI k)) (h : setO xs k y = some ys) (hd : e y = .fr d) : SG (gSi (pV i) kf) d Γ (Γ.set i (some (OL e ys))) := fun ρ r => by
  unfold setO at h
  obtain ⟨j, z1, rfl⟩ := Option.map_eq_some_iff.mp h
  refine ⟨_, ?_, r.set i _⟩
  have hk' := hk ρ r
  unfold gSi
  simp only [pV, r.slot h0, Option.map_some, Option.bind_some, getAt, getP, OL, hk', F, eI, List.length_map, z1, setAt, setP, ← hd, List.map_set]
def lenSetO (xs : List Int) : Option Int := if xs.length < 4000 then some ((dd xs).length : Int) else none
theorem o_lenSet {A : T} {xs : List Int} {r : Int} (h : T.asL A = some (xs.map eI)) (h2 : lenSetO xs = some r) : opLenSet A = some (F eI r) := by
  unfold lenSetO at h2
  split at h2
  · next q => cases h2; unfold opLenSet; rw [h]; simp only [Option.bind_some, intsD_map, if_pos q]
  · cases h2
theorem sy_exte {i : Nat} {e : α → T} {xs ys zs : List α} {f : Rho → Option (Rs T)} (h0 : Γ[i]? = some (some (OL e xs))) (hf : SX X f Γ (.ok ()) (fun _ => OL e ys) (fun _ => Γ1)) (h1 : Γ1[i]? = some (some (OL e xs))) (h : catO xs ys = some zs) : SY X (sExt0 i f) Γ (.ok ()) (nxO fun _ => Γ1.set i (some (OL e zs))) := fun ρ g => by
  obtain ⟨ρ', e1, g1⟩ := hf ρ g
  unfold catO at h
  split at h
  · next q =>
    cases h
    refine ⟨_, ?_, _, rfl, g1.set i _⟩
    unfold sExt0
    simp only [g.slot h0, OL, e1, ofR_ok, g1.slot h1]
    rw [if_pos (by simp only [List.length_map]; exact q), ← List.map_append]
  · cases h
theorem sy_extM {i : Nat} {e : α → T} {xs0 : List α} {xs ys : δ → List α} {t : P δ} {Γa : δ → Ev} {f : Rho → Option (Rs T)} (h0 : Γ[i]? = some (some (OL e xs0))) (hf : SX X f Γ t (fun a => OL e (ys a)) Γa) (h1 : ∀ a, (Γa a)[i]? = some (some (OL e (xs a)))) : SY X (sExt0 i f) Γ (t.bind fun a => og (catO (xs a) (ys a)) fun zs => .ok (a, zs)) (nxO fun q => (Γa q.1).set i (some (OL e q.2))) := fun ρ g => by
  have h := hf ρ g
  unfold sExt0
  simp only [g.slot h0, OL]
  cases t with
  | fail => trivial
  | ex c => obtain ⟨ρ', e1, g1⟩ := h; exact ⟨ρ', by simp only [e1]; rfl, g1⟩
  | ok a =>
    obtain ⟨ρ', e1, g1⟩ := h
    simp only [P.bind]
    cases q : catO (xs a) (ys a) with
    | none => trivial
    | some zs =>
      unfold catO at q
      split at q
      · next q2 =>
        cases q
        refine ⟨_, ?_, _, rfl, g1.set i _⟩
        simp only [e1, ofR_ok, g1.slot (h1 a), OL]
        rw [if_pos (by simp only [List.length_map]; exact q2), ← List.map_append]
      · cases q
section
variable {c c2 : Rho → Option (Rs Bool)} {f g : Rho → Option (Rs T)} {t : P α} {z : α → Bool} {y : α → T} {Γ3 : α → Ev} {s1 s2 : Rho → Option Out} {G : P ω} {Ψ : ω → Out → Prop}
theorem st_orT (hf : SX X c Γ (.ok ()) (fun _ => true) (fun _ => Γ1)) : SX X (tOr c c2) Γ (.ok ()) (fun _ => true) (fun _ => Γ1) := fun ρ r => by
  obtain ⟨ρ', e, q⟩ := hf ρ r
  exact ⟨ρ', by unfold tOr; rw [e]; rfl, q⟩
theorem st_andF (hf : SX X c Γ (.ok ()) (fun _ => false) (fun _ => Γ1)) : SX X (tAnd c c2) Γ (.ok ()) (fun _ => false) (fun _ => Γ1) := fun ρ r => by
  obtain ⟨ρ', e, q⟩ := hf ρ r
  exact ⟨ρ', by unfold tAnd; rw [e]; rfl, q⟩
theorem st_orF (hf : SX X c Γ (.ok ()) (fun _ => false) (fun _ => Γ1)) (hg : SX X c2 Γ1 t z Γ3) : SX X (tOr c c2) Γ t z Γ3 := fun ρ r => by
  obtain ⟨ρ', e, q⟩ := hf ρ r
  have h := hg ρ' q
  have e2 : tOr c c2 ρ = c2 ρ' := by unfold tOr; rw [e]; rfl
  rw [e2]; exact h
theorem st_andT (hf : SX X c Γ (.ok ()) (fun _ => true) (fun _ => Γ1)) (hg : SX X c2 Γ1 t z Γ3) : SX X (tAnd c c2) Γ t z Γ3 := fun ρ r => by
  obtain ⟨ρ', e, q⟩ := hf ρ r
  have h := hg ρ' q
  have e2 : tAnd c c2 ρ = c2 ρ' := by unfold tAnd; rw [e]; rfl
  rw [e2]; exact h
theorem sx_orT (hf : SX X f Γ (.ok ()) (fun _ => F eB true) (fun _ => Γ1)) : SX X (eOr f g) Γ (.ok ()) (fun _ => F eB true) (fun _ => Γ1) := fun ρ r => by
  obtain ⟨ρ', e, q⟩ := hf ρ r
  exact ⟨ρ', by unfold eOr; rw [e]; rfl, q⟩
theorem sx_andF (hf : SX X f Γ (.ok ()) (fun _ => F eB false) (fun _ => Γ1)) : SX X (eAnd f g) Γ (.ok ()) (fun _ => F eB false) (fun _ => Γ1) := fun ρ r => by
  obtain ⟨ρ', e, q⟩ := hf ρ r
  exact ⟨ρ', by unfold eAnd; rw [e]; rfl, q⟩
theorem sx_orF (hf : SX X f Γ (.ok ()) (fun _ => F eB false) (fun _ => Γ1)) (hg : SX X g Γ1 t y Γ3) : SX X (eOr f g) Γ t y Γ3 := fun ρ r => by
  obtain ⟨ρ', e, q⟩ := hf ρ r
  have h := hg ρ' q
  have e2 : eOr f g ρ = g ρ' := by unfold eOr; rw [e]; rfl
  rw [e2]; exact h
theorem sx_andT (hf : SX X f Γ (.ok ()) (fun _ => F eB true) (fun _ => Γ1)) (hg : SX X g Γ1 t y Γ3) : SX X (eAnd f g) Γ t y Γ3 := fun ρ r => by
  obtain ⟨ρ', e, q⟩ := hf ρ r
  have h := hg ρ' q
  have e2 : eAnd f g ρ = g ρ' := by unfold eAnd; rw [e]; rfl
  rw [e2]; exact h
theorem sx_ifT (hf : SX X c Γ (.ok ()) (fun _ => true) (fun _ => Γ1)) (hg : SX X f Γ1 t y Γ3) : SX X (eIf c f g) Γ t y Γ3 := fun ρ r => by
  obtain ⟨ρ', e, q⟩ := hf ρ r
  have h := hg ρ' q
  have e2 : eIf c f g ρ = f ρ' := by unfold eIf; rw [e]; rfl
  rw [e2]; exact h
theorem sx_ifF (hf : SX X c Γ (.ok ()) (fun _ => false) (fun _ => Γ1)) (hg : SX X g Γ1 t y Γ3) : SX X (eIf c f g) Γ t y Γ3 := fun ρ r => by
  obtain ⟨ρ', e, q⟩ := hf ρ r
  have h := hg ρ' q
  have e2 : eIf c f g ρ = g ρ' := by unfold eIf; rw [e]; rfl
  rw [e2]; exact h
theorem sy_ifT (hf : SX X c Γ (.ok ()) (fun _ => true) (fun _ => Γ1)) (h : SY X s1 Γ1 G Ψ) : SY X (sIf c s1 s2) Γ G Ψ := fun ρ r => by
  obtain ⟨ρ', e, q⟩ := hf ρ r
  have h := h ρ' q
  have e2 : sIf c s1 s2 ρ = s1 ρ' := by unfold sIf; rw [e]; rfl
  rw [e2]; exact h
theorem sy_ifF (hf : SX X c Γ (.ok ()) (fun _ => false) (fun _ => Γ1)) (h : SY X s2 Γ1 G Ψ) : SY X (sIf c s1 s2) Γ G Ψ := fun ρ r => by
  obtain ⟨ρ', e, q⟩ := hf ρ r
  have h := h ρ' q
  have e2 : sIf c s1 s2 ρ = s2 ρ' := by unfold sIf; rw [e]; rfl
  rw [e2]; exact h
end
theorem al_co {A : T} {xs : List α} {e : α → D} {e2 : β → D} {c : α → β} (h : T.asL A = some (xs.map e)) (hc : ∀ y, e2 (c y) = e y) : T.asL A = some ((xs.map c).map e2) := by
  rw [h, List.map_map]; congr 1; exact List.map_congr_left fun y _ => (hc y).symm
theorem st_notC {c : Rho → Option (Rs Bool)} {b : Bool} (hf : SX X c Γ (.ok ()) (fun _ => b) (fun _ => Γ1)) : SX X (tNot c) Γ (.ok ()) (fun _ => !b) (fun _ => Γ1) := st_not (t := .ok ()) (b := fun _ => b) hf
theorem sx_notC {f : Rho → Option (Rs T)} {b : Bool} {v : T} (hf : SX X f Γ (.ok ()) (fun _ => v) (fun _ => Γ1)) (h : truth v = some b) : SX X (eNot f) Γ (.ok ()) (fun _ => F eB (!b)) (fun _ => Γ1) := sx_not (t := .ok ()) (b := fun _ => b) hf (fun _ => h)
theorem o_con {o : Option T} {b : Bool} (h : bO o = some b) : o = some (F eB b) := bO_h h
theorem sy_fail {s : Rho → Option Out} {Ψ : ω → Out → Prop} : SY X s Γ .fail Ψ := fun _ _ => trivial
theorem o_uL {op : T → T → Option T} {e : α → D} {o : Option α} {u : α} {B r : T} (h : o = some u) (p : op (F e u) B = some r) : op (F (eO e) o) B = some r := by subst h; exact p
theorem o_uR {op : T → T → Option T} {e : α → D} {o : Option α} {u : α} {B r : T} (h : o = some u) (p : op B (F e u) = some r) : op B (F (eO e) o) = some r := by subst h; exact p
theorem o_uN {op : List T → Option T} {e : α → D} {o : Option α} {u : α} {r : T} {l : List T} (h : o = some u) (p : op (F e u :: l) = some r) : op (F (eO e) o :: l) = some r := by subst h; exact p
theorem d_u {e : α → D} {o : Option α} {u : α} (h : o = some u) : (F (eO e) o).dat = some (e u) := by subst h; rfl
theorem o_eqI {a b : Int} {k : Bool} (h : decide (a = b) = k) : opEq (F eI a) (F eI b) = some (F eB k) := by rw [← h]; exact o_eq nI (by decide) rfl rfl
theorem o_neI {a b : Int} {k : Bool} (h : (!decide (a = b)) = k) : opNe (F eI a) (F eI b) = some (F eB k) := by rw [← h]; exact o_ne nI (by decide) rfl rfl
theorem o_eqS {a b : Str} {k : Bool} (h : decide (a = b) = k) : opEq (F eS a) (F eS b) = some (F eB k) := by rw [← h]; exact o_eq nS (by decide) rfl rfl
theorem o_neS {a b : Str} {k : Bool} (h : (!decide (a = b)) = k) : opNe (F eS a) (F eS b) = some (F eB k) := by rw [← h]; exact o_ne nS (by decide) rfl rfl
theorem o_eqB {a b : Bool} {k : Bool} (h : decide (a = b) = k) : opEq (F eB a) (F eB b) = some (F eB k) := by rw [← h]; exact o_eq nB (by decide) rfl rfl
theorem o_neB {a b : Bool} {k : Bool} (h : (!decide (a = b)) = k) : opNe (F eB a) (F eB b) = some (F eB k) := by rw [← h]; exact o_ne nB (by decide) rfl rfl
def sNoF : Rho → Option (Rs T) := fun _ => none
theorem sy_setC {i : Nat} {ts us : List T} {kf : Rho → Option T} {f : Rho → Option (Rs T)} {v : T} {k : Int} (e0 : True = True) (hf : SX X f Γ (.ok ()) (fun _ => v) (fun _ => Γ1)) (e : Γ1[i]? = some (some (.lst ts))) (hk : PK kf Γ1 (F eI k)) (ho : (ixN ts.length k).map (fun j => ts.set j v) = some us) : SY X (sSetIx (pV i) kf f) Γ (.ok ()) (nxO fun _ => Γ1.set i (some (.lst us))) := by
  have h := sy_setV (t := .ok ()) (us := fun _ : Unit => us) (fun _ => some ()) hf (fun _ => e) (fun _ => hk) (fun _ _ _ => ho)
  intro ρ r
  obtain ⟨o, h1, ρ', h2, h3⟩ := h ρ r
  exact ⟨o, h1, ρ', h2, h3⟩
theorem sy_augv {s : Rho → Option Out} {u : W} {x : α} {i : Nat} {w : α → T} {y : T} (h : SY X s Γ (.ok ()) (nxO fun _ => Γ1.set i (some y))) (hv : w x = y) : SY X s Γ (.ok x) (nxO fun x => Γ1.set i (some (w x))) := fun ρ r => by
  obtain ⟨o, h1, ρ', h2, h3⟩ := h ρ r
  subst hv; exact ⟨o, h1, ρ', h2, h3⟩
end
end Ty
end Lv

set_option maxHeartbeats 1000000
namespace Lv
namespace Ty
open PySem PySem.Spec PyProof.Rows L2 Lv
/-! ### sorted and least by the order of data -/
section
variable {α : Type} {e : α → D}
def sortE (e : α → D) (xs : List α) : List α := xs.mergeSort fun a b => leD (e a) (e b)
def sortO (e : α → D) (xs : List α) : Option (List α) := if canSort (xs.map e) = true then some (sortE e xs) else none
theorem sortE_map (xs : List α) : (sortE e xs).map e = sortD (xs.map e) := by
  unfold sortE sortD
  exact List.map_mergeSort fun a _ b _ => rfl
theorem sortE_perm {xs : List α} : (sortE e xs).Perm xs := List.mergeSort_perm _ _
theorem o_sortO {A : T} {xs l : List α} (h : T.asL A = some (xs.map e)) (h2 : sortO e xs = some l) : opSorted [A] = some (OL (F e) l) := by
  unfold sortO at h2
  split at h2
  · next q =>
    cases h2
    simp only [opSorted, h, Option.bind_some, if_pos q, ← sortE_map, List.map_map]
    rfl
  · cases h2
theorem leD_I (a b : Int) : leD (eI a) (eI b) = decide (a ≤ b) := by
  show (!decide (b < a)) = _
  by_cases h : b < a
  · have h2 : ¬ a ≤ b := by omega
    simp [h, h2]
  · have h2 : a ≤ b := by omega
    simp [h, h2]
theorem canSort_I (xs : List Int) : canSort (xs.map eI) = true := by
  unfold canSort
  simp only [Bool.and_eq_true, List.all_map, List.all_eq_true, Bool.or_eq_true]
  exact ⟨⟨fun a _ => List.all_eq_true.mpr fun b _ => rfl, .inr fun a _ => rfl⟩, fun a _ => rfl⟩
theorem sortI_E (xs : List Int) : sortE eI xs = sortI xs := by
  unfold sortE sortI
  congr 1
  funext a b
  exact leD_I a b
theorem o_sortI {A : T} {xs : List Int} (h : T.asL A = some (xs.map eI)) : opSorted [A] = some (OL (F eI) (sortI xs)) :=
  o_sortO (e := eI) h (by unfold sortO; rw [if_pos (canSort_I xs), sortI_E])
theorem canSort_II (xs : List (Int × Int)) : canSort (xs.map (eT2 eI eI)) = true := by
  unfold canSort
  simp only [Bool.and_eq_true, List.all_map, List.all_eq_true, Bool.or_eq_true]
  exact ⟨⟨fun a _ => List.all_eq_true.mpr fun b _ => rfl, .inl fun a _ => rfl⟩, fun a _ => rfl⟩
theorem sortO_II (xs : List (Int × Int)) : sortO (eT2 eI eI) xs = some (sortE (eT2 eI eI) xs) := by unfold sortO; rw [if_pos (canSort_II xs)]
theorem sortI_perm (xs : List Int) : (sortI xs).Perm xs := List.mergeSort_perm _ _
theorem sortI_pw (xs : List Int) : (sortI xs).Pairwise (· ≤ ·) := by
  have := List.pairwise_mergeSort (le := fun a b : Int => decide (a ≤ b)) (fun a b c h1 h2 => by simp at *; omega) (fun a b => by simp; omega) xs
  exact this.imp fun h => by simpa using h
def inB [DecidableEq α] (u : α) (x : List α) : Bool := decide (u ∈ x)
theorem inB_iff [DecidableEq α] {u : α} {x : List α} : inB u x = true ↔ u ∈ x := by
  unfold inB; exact decide_eq_true_iff
theorem inB_not [DecidableEq α] {u : α} {x : List α} : inB u x = false ↔ u ∉ x := by
  unfold inB; exact decide_eq_false_iff_not
theorem o_inLB [DecidableEq α] {A B : T} {n : Nat} {u : α} {x : List α} {N : Bool} (he : Nice e n) (hn : n ≤ 59) (h1 : A.dat = some (e u)) (h2 : B.dat = some (eL e x)) : opInS N A B = some (F eB (inB u x ^^ N)) := o_inL he hn h1 h2
theorem o_inVB [DecidableEq α] {A B : T} {n : Nat} {u : α} {x : List α} {N : Bool} (he : Nice e n) (hn : n ≤ 59) (h1 : A.dat = some (e u)) (h2 : B.dat = some (eV e x)) : opInS N A B = some (F eB (inB u x ^^ N)) := o_inV he hn h1 h2
/-- the least of data -/
def min1E (e : α → D) (xs : List α) : Option α := if (((xs.map e).all fun a => (xs.map e).all fun b => canLt a b) && (xs.map e).all okD) = true then (match xs with
  | x :: xs => some (xs.foldl (fun a y => if ltD (e y) (e a) then y else a) x)
  | [] => none) else none
theorem foldl_min (xs : List α) : ∀ x, (xs.map e).foldl (fun a y => if ltD y a then y else a) (e x) = e (xs.foldl (fun a y => if ltD (e y) (e a) then y else a) x) := by
  induction xs with
  | nil => intro x; rfl
  | cons y ys ih =>
    intro x
    simp only [List.map_cons, List.foldl_cons]
    split
    · exact ih y
    · exact ih x
theorem o_minE {A : T} {xs : List α} {r : α} (h : T.asL A = some (xs.map e)) (h2 : min1E e xs = some r) : opMin [A] = some (F e r) := by
  show opMin1 A = _
  unfold opMin1
  unfold min1E at h2
  split at h2
  · next q =>
    simp only [h, Option.bind_some, if_pos q]
    cases xs with
    | nil => cases h2
    | cons x xs => cases h2; simp only [List.map_cons, foldl_min]
  · cases h2
end
/-! len(set(a list of pairs)) -/
def ddA {α : Type} [DecidableEq α] : List α → List α
  | [] => []
  | x :: r => if x ∈ ddA r then ddA r else x :: ddA r
def pairI (p : Int × Int) : List Int := [p.1, p.2]
theorem pairI_inj {p q : Int × Int} (h : pairI p = pairI q) : p = q := by
  unfold pairI at h
  simp only [List.cons.injEq, and_true] at h
  exact Prod.ext h.1 h.2
theorem ddL_pair : ∀ xs : List (Int × Int), ddL (xs.map pairI) = (ddA xs).map pairI
  | [] => rfl
  | x :: r => by
    have ih := ddL_pair r
    simp only [List.map_cons, ddL, ddA, ih]
    by_cases h : x ∈ ddA r
    · rw [if_pos h, if_pos (List.mem_map.mpr ⟨x, h, rfl⟩)]
    · rw [if_neg h, if_neg (fun z => by
        obtain ⟨y, hy, e⟩ := List.mem_map.mp z
        rw [pairI_inj e] at hy; exact h hy)]; rfl
theorem ddA_all {α : Type} [DecidableEq α] {xs : List α} (h : xs.Nodup) : ddA xs = xs := by
  induction xs with
  | nil => rfl
  | cons x r ih =>
    obtain ⟨h1, h2⟩ := List.nodup_cons.mp h
    simp only [ddA, ih h2, if_neg h1]
theorem intTs_pair : ∀ xs : List (Int × Int), intTs (xs.map (eT2 eI eI)) = some (xs.map pairI)
  | [] => rfl
  | x :: r => by simp only [List.map_cons, intTs, intsD, intTs_pair r]; rfl
def lenPO (xs : List (Int × Int)) : Option Int := if xs.length < 64 then some ((ddA xs).length : Int) else none
theorem o_lenP {A : T} {xs : List (Int × Int)} {r : Int} (h : T.asL A = some (xs.map (eT2 eI eI))) (h2 : lenPO xs = some r) : opLenSetL A = some (F eI r) := by
  unfold lenPO at h2
  split at h2
  · next q =>
    cases h2
    unfold opLenSetL
    simp only [h, Option.bind_some, intTs_pair, List.length_map, if_pos q, ddL_pair]
  · cases h2
section
variable {α β : Type} {X Γ : Ev} {f : Rho → Option (Rs T)} {t : P α} {v w : α → T} {Γa : α → Ev}
theorem sx_lenL (hf : SX X f Γ t v Γa) (h : ∀ a, opLenSetL (v a) = some (w a)) : SX X (eLenSetL f) Γ t w Γa := sx_map (k := fun t ρ1 => (opLenSetL t).map fun u => .ok u ρ1) hf fun a ρ _ => by simp [h a]
theorem sx_lenLo {o : α → Option β} {w : α × β → T} (hf : SX X f Γ t v Γa) (h2 : ∀ a x, o a = some x → opLenSetL (v a) = some (w (a, x))) : SX X (eLenSetL f) Γ (t.bind fun a => og (o a) fun x => .ok (a, x)) w (fun q => Γa q.1) := fun ρ r => by
  have h := hf ρ r
  cases t with
  | fail => trivial
  | ex c => obtain ⟨ρ', e1, g1⟩ := h; exact ⟨ρ', by unfold eLenSetL; rw [e1]; rfl, g1⟩
  | ok a =>
    obtain ⟨ρ', e1, g1⟩ := h
    simp only [P.bind]
    cases q : o a with
    | none => trivial
    | some x => exact ⟨ρ', by unfold eLenSetL; rw [e1, bnd_ok, h2 a x q]; rfl, g1⟩
end
end Ty
end Lv

set_option maxHeartbeats 1000000
namespace Lv
namespace Ty
open PySem PySem.Spec PyProof.Rows L2 Lv
/-! ### both with effects, the state told by both -/
section
variable {α β : Type} {X Γ : Ev} {f g : Rho → Option (Rs T)} {l : Rho → Option (Rs (List Ar))} {Γ1 : α → Ev} {t : P α} {u : α → P β} {v : α → T}
theorem sa_cons2 {Γ2 : α → β → Ev} {w : α → β → List Ar} {z : α × β → List Ar} (hf : SX X f Γ t v Γ1) (hg : ∀ a, SX X l (Γ1 a) (u a) (w a) (Γ2 a)) (hz : ∀ a b, z (a, b) = .own (v a) :: w a b) : SX X (eCons f l) Γ (t.bind fun a => (u a).bind fun b => .ok (a, b)) z (fun q => Γ2 q.1 q.2) :=
  sx_bnd hf fun a => sx_bnd (hg a) fun b => fun ρ r => ⟨ρ, by rw [hz], r⟩
theorem sx_e22 {op : T → T → Option T} {Γ2 : α → β → Ev} {w2 : α → β → T} {z : α × β → T} (hf : SX X f Γ t v Γ1) (hg : ∀ a, SX X g (Γ1 a) (u a) (w2 a) (Γ2 a)) (ho : ∀ a b, op (v a) (w2 a b) = some (z (a, b))) : SX X (e2 op f g) Γ (t.bind fun a => (u a).bind fun b => .ok (a, b)) z (fun q => Γ2 q.1 q.2) :=
  sx_bnd hf fun a => sx_bnd (hg a) fun b => fun ρ r => ⟨ρ, by simp [ho a b], r⟩
theorem sx_e2o2 {γ : Type} {op : T → T → Option T} {Γ2 : α → β → Ev} {w2 : α → β → T} {o : α → β → Option γ} {z : α × β × γ → T} (hf : SX X f Γ t v Γ1) (hg : ∀ a, SX X g (Γ1 a) (u a) (w2 a) (Γ2 a)) (ho : ∀ a b x, o a b = some x → op (v a) (w2 a b) = some (z (a, b, x))) : SX X (e2 op f g) Γ (t.bind fun a => (u a).bind fun b => og (o a b) fun x => .ok (a, b, x)) z (fun q => Γ2 q.1 q.2.1) :=
  sx_bnd hf fun a => sx_bnd (hg a) fun b => fun ρ r => by
    cases e : o a b with
    | none => exact True.intro
    | some x => exact ⟨ρ, by simp [ho a b x e], r⟩
end
/-! ### blocks over a list of one's own -/
section
variable {α β γ δ R σ ω : Type} {X Γ : Ev} {g : D → Rho → Option Rho} {fc : Rho → Option (Rs Bool)} {fe : Rho → Option (Rs T)} {own : List Nat} {iv : Nat} {enc : β → D} {xs0 : List β}
theorem at_OL {k : Nat} (hk : k < xs0.length) : (xs0.map (F enc))[k]? = some (.fr (enc xs0[k])) := by
  rw [List.getElem?_map, List.getElem?_eq_getElem hk]; rfl
theorem cl_pureL {Γc : Ev} {c : β → Bool} {v : β → T} {Γg : β → Ev} (hs : Γc[iv]? = some (some (OL (F enc) xs0))) (hg : ∀ x, SG g (enc x) Γc (Γg x)) (hc : ∀ x, SX X fc (Γg x) (.ok ()) (fun _ => c x) (fun _ => Γg x)) (he : ∀ x, SX X fe (Γg x) (.ok ()) (fun _ => v x) (fun _ => Γg x)) (hw : ∀ x, wipeR (Γg x) own = Γc) :
    ∀ (m k : Nat) (ρ : Rho), m + k = xs0.length → Ag Γc ρ → ∃ ρ', cLoopL own iv g fc fe m k ρ = some (((xs0.drop k).filter c).map v, ρ') ∧ Ag Γc ρ'
  | 0, k, ρ, hm, a => by
    refine ⟨ρ, ?_, a⟩
    simp only [cLoopL, a.slot hs, OL]
    rw [if_pos (by rw [List.length_map]; omega), List.drop_eq_nil_of_le (by omega)]; rfl
  | m + 1, k, ρ, hm, a => by
    have hk : k < xs0.length := by omega
    obtain ⟨ρ1, e1, g1⟩ := hg xs0[k] ρ a
    obtain ⟨ρ2, e2, g2⟩ := hc xs0[k] ρ1 g1
    simp only [cLoopL, a.slot hs, OL, at_OL hk, e1, e2, List.drop_eq_getElem_cons hk, List.filter_cons]
    cases c xs0[k] with
    | false =>
      have g3 := g2.wipe own
      rw [hw] at g3
      obtain ⟨ρ4, e4, g4⟩ := cl_pureL hs hg hc he hw m (k + 1) _ (by omega) g3
      exact ⟨ρ4, by simpa using e4, g4⟩
    | true =>
      obtain ⟨ρ3, e3, g3⟩ := he xs0[k] ρ2 g2
      have g4 := g3.wipe own
      rw [hw] at g4
      obtain ⟨ρ4, e4, g4⟩ := cl_pureL hs hg hc he hw m (k + 1) _ (by omega) g4
      exact ⟨ρ4, by simp [e3, e4], g4⟩
theorem eLcL_ap {ρ : Rho} (hs : slot ρ iv = some (OL (F enc) xs0)) (hn : iv ∉ own) : eLcL own iv g fc fe ρ = (cLoopL own iv g fc fe xs0.length 0 (wipeR ρ own)).map fun q => .ok (.lst q.1) (backR ρ q.2 own) := by
  unfold eLcL
  simp only [hs, OL, if_pos hn, List.length_map]
theorem wipeE_get {Γ : Ev} (hs : Γ[iv]? = some (some (OL (F enc) xs0))) (hn : iv ∉ own) : (wipeR Γ own)[iv]? = some (some (OL (F enc) xs0)) := by
  rw [wipeR_get hn]; exact hs
theorem sx_lcpL {ve : γ → T} {cb : β → Bool} {Γx : β → Ev} {y : β → γ} (hs : Γ[iv]? = some (some (OL (F enc) xs0))) (hn : iv ∉ own) (hg : ∀ x, SG g (enc x) (wipeR Γ own) (Γx x)) (hc : ∀ x, SX X fc (Γx x) (.ok ()) (fun _ => cb x) (fun _ => Γx x)) (he : ∀ x, SX X fe (Γx x) (.ok ()) (fun _ => ve (y x)) (fun _ => Γx x)) (hw : ∀ x, wipeR (Γx x) own = wipeR Γ own) :
    SX X (eLcL own iv g fc fe) Γ (.ok ()) (fun _ => OL ve ((xs0.filter cb).map y)) (fun _ => backE Γ (wipeR Γ own) own) := fun ρ q => by
  obtain ⟨ρ2, e2, g2⟩ := cl_pureL (v := fun x => ve (y x)) (wipeE_get hs hn) hg hc he hw xs0.length 0 _ (by omega) (q.wipe own)
  refine ⟨_, ?_, q.back g2 own⟩
  rw [eLcL_ap (q.slot hs) hn, e2]
  simp only [Option.map_some, List.drop_zero, OL, List.map_map]; rfl
theorem sx_lcfL {ve : β → T} {cb : β → Bool} {Γx : β → Ev} (hs : Γ[iv]? = some (some (OL (F enc) xs0))) (hn : iv ∉ own) (hg : ∀ x, SG g (enc x) (wipeR Γ own) (Γx x)) (hc : ∀ x, SX X fc (Γx x) (.ok ()) (fun _ => cb x) (fun _ => Γx x)) (he : ∀ x, SX X fe (Γx x) (.ok ()) (fun _ => ve x) (fun _ => Γx x)) (hw : ∀ x, wipeR (Γx x) own = wipeR Γ own) :
    SX X (eLcL own iv g fc fe) Γ (.ok ()) (fun _ => OL ve (xs0.filter cb)) (fun _ => backE Γ (wipeR Γ own) own) := by
  have h := sx_lcpL (ve := ve) (y := fun x => x) hs hn hg hc he hw
  simpa using h
theorem sx_lcmL {ve : γ → T} {Γx : β → Ev} {y : β → γ} (hs : Γ[iv]? = some (some (OL (F enc) xs0))) (hn : iv ∉ own) (hg : ∀ x, SG g (enc x) (wipeR Γ own) (Γx x)) (he : ∀ x, SX X fe (Γx x) (.ok ()) (fun _ => ve (y x)) (fun _ => Γx x)) (hw : ∀ x, wipeR (Γx x) own = wipeR Γ own) :
    SX X (eLcL own iv g tYesF fe) Γ (.ok ()) (fun _ => OL ve (xs0.map y)) (fun _ => backE Γ (wipeR Γ own) own) := by
  have h := sx_lcpL (ve := ve) (cb := fun _ => true) hs hn hg (fun x => st_yes) he hw
  have e : xs0.filter (fun _ => true) = xs0 := by simp
  simp only [e] at h
  exact h
theorem cl_stL {Γs : σ → Ev} {Γg : β → σ → Ev} {body : β → σ → P (Option γ × σ)} {v : γ → T} (hs : ∀ s, (Γs s)[iv]? = some (some (OL (F enc) xs0))) (hg : ∀ x s, SG g (enc x) (Γs s) (Γg x s))
    (hb : ∀ x s ρ, Ag (Γg x s) ρ → match body x s with
      | .fail => True
      | .ex c => False
      | .ok (none, s1) => ∃ ρ2, fc ρ = some (.ok false ρ2) ∧ Ag (Γs s1) (wipeR ρ2 own)
      | .ok (some y, s1) => ∃ ρ2 ρ3, fc ρ = some (.ok true ρ2) ∧ fe ρ2 = some (.ok (v y) ρ3) ∧ Ag (Γs s1) (wipeR ρ3 own)) :
    ∀ (m k : Nat) (s : σ) (ρ : Rho), m + k = xs0.length → Ag (Γs s) ρ → match lcS (xs0.drop k) s body with
      | .fail => True
      | .ex c => False
      | .ok (ys, s1) => ∃ ρ', cLoopL own iv g fc fe m k ρ = some (ys.map v, ρ') ∧ Ag (Γs s1) ρ'
  | 0, k, s, ρ, hm, a => by
    rw [List.drop_eq_nil_of_le (by omega)]
    refine ⟨ρ, ?_, a⟩
    simp only [cLoopL, a.slot (hs s), OL]
    rw [if_pos (by rw [List.length_map]; omega)]; rfl
  | m + 1, k, s, ρ, hm, a => by
    have hk : k < xs0.length := by omega
    obtain ⟨ρ1, e1, g1⟩ := hg xs0[k] s ρ a
    have q := hb xs0[k] s ρ1 g1
    simp only [List.drop_eq_getElem_cons hk, cLoopL, a.slot (hs s), OL, at_OL hk, e1, lcS]
    cases e : body xs0[k] s with
    | fail => trivial
    | ex c => rw [e] at q; exact q.elim
    | ok r =>
      rw [e] at q
      obtain ⟨o, s1⟩ := r
      cases o with
      | none =>
        obtain ⟨ρ2, e2, g2⟩ := q
        have ih := cl_stL hs hg hb m (k + 1) s1 _ (by omega) g2
        simp only [e2, P.bind]
        cases e3 : lcS (xs0.drop (k + 1)) s1 body with
        | fail => trivial
        | ex c => rw [e3] at ih; exact ih.elim
        | ok r => rw [e3] at ih; exact ih
      | some y =>
        obtain ⟨ρ2, ρ3, e2, e4, g2⟩ := q
        have ih := cl_stL hs hg hb m (k + 1) s1 _ (by omega) g2
        simp only [e2, e4, P.bind]
        cases e3 : lcS (xs0.drop (k + 1)) s1 body with
        | fail => trivial
        | ex c => rw [e3] at ih; exact ih.elim
        | ok r =>
          rw [e3] at ih
          obtain ⟨ρ4, e5, g4⟩ := ih
          exact ⟨ρ4, by simp only [e5]; rfl, g4⟩
theorem sx_lcMpL {ε : Type} {ve : γ → T} {st : σ} {Γs : σ → Ev} {Γg : β → σ → Ev} {tc : β → σ → P δ} {c : β → σ → δ → Bool} {Γc : β → σ → δ → Ev} {te : β → σ → δ → P ε} {vv : β → σ → δ → ε → T} {Γe : β → σ → δ → ε → Ev} (y : β → σ → δ → ε → γ) (s0 : β → σ → δ → σ) (s1 : β → σ → δ → ε → σ)
    (hs : Γ[iv]? = some (some (OL (F enc) xs0))) (hn : iv ∉ own) (hss : ∀ s, (Γs s)[iv]? = some (some (OL (F enc) xs0))) (h0 : ∀ ρ, Ag (wipeR Γ own) ρ → Ag (Γs st) ρ) (hg : ∀ x s, SG g (enc x) (Γs s) (Γg x s)) (hc : ∀ x s, SX X fc (Γg x s) (tc x s) (c x s) (Γc x s)) (he : ∀ x s a, SX X fe (Γc x s a) (te x s a) (vv x s a) (Γe x s a))
    (hy : ∀ x s a b, vv x s a b = ve (y x s a b)) (hs0 : ∀ x s a ρ, Ag (wipeR (Γc x s a) own) ρ → Ag (Γs (s0 x s a)) ρ) (hs1 : ∀ x s a b ρ, Ag (wipeR (Γe x s a b) own) ρ → Ag (Γs (s1 x s a b)) ρ) :
    SX X (eLcL own iv g fc fe) Γ (noex (lcS xs0 st fun x s => noex ((tc x s).bind fun a => if c x s a = true then (te x s a).bind fun b => .ok (some (y x s a b), s1 x s a b) else .ok (none, s0 x s a)))) (fun q => OL ve q.1) (fun q => backE Γ (Γs q.2) own) := fun ρ q => by
  have key := cl_stL (own := own) (g := g) (fc := fc) (fe := fe) (v := ve) (xs0 := xs0) (body := fun x s => noex ((tc x s).bind fun a => if c x s a = true then (te x s a).bind fun b => .ok (some (y x s a b), s1 x s a b) else .ok (none, s0 x s a))) hss hg (fun x s ρ a => by
    have qc := hc x s ρ a
    cases e1 : tc x s with
    | fail => trivial
    | ex c => trivial
    | ok d =>
      rw [e1] at qc
      obtain ⟨ρ2, e2, g2⟩ := qc
      simp only [P.bind]
      by_cases z : c x s d = true
      · rw [if_pos z]
        have qe := he x s d ρ2 g2
        cases e3 : te x s d with
        | fail => trivial
        | ex c => trivial
        | ok b =>
          rw [e3] at qe
          obtain ⟨ρ3, e4, g3⟩ := qe
          exact ⟨ρ2, ρ3, by rw [e2, z], by rw [e4, hy], hs1 x s d b _ (g3.wipe own)⟩
      · rw [if_neg z]
        exact ⟨ρ2, by rw [e2]; simp [z], hs0 x s d _ (g2.wipe own)⟩) xs0.length 0 st (wipeR ρ own) (by omega) (h0 _ (q.wipe own))
  rw [List.drop_zero] at key
  revert key
  generalize lcS xs0 st _ = L
  intro key
  cases L with
  | fail => exact True.intro
  | ex c => exact key.elim
  | ok r =>
    obtain ⟨ρ2, e2, g2⟩ := key
    exact ⟨_, by rw [eLcL_ap (q.slot hs) hn, e2]; rfl, q.back g2 own⟩
theorem sx_mapSpL {ε : Type} {ve : γ → T} {st : σ} {Γs : σ → Ev} {Γg : β → σ → Ev} {te : β → σ → P ε} {vv : β → σ → ε → T} {Γe : β → σ → ε → Ev} (y : β → σ → ε → γ) (s1 : β → σ → ε → σ)
    (hs : Γ[iv]? = some (some (OL (F enc) xs0))) (hn : iv ∉ own) (hss : ∀ s, (Γs s)[iv]? = some (some (OL (F enc) xs0))) (h0 : ∀ ρ, Ag (wipeR Γ own) ρ → Ag (Γs st) ρ) (hg : ∀ x s, SG g (enc x) (Γs s) (Γg x s)) (he : ∀ x s, SX X fe (Γg x s) (te x s) (vv x s) (Γe x s))
    (hy : ∀ x s b, vv x s b = ve (y x s b)) (hs0 : ∀ x s ρ, Ag (wipeR (Γg x s) own) ρ → Ag (Γs s) ρ) (hs1 : ∀ x s b ρ, Ag (wipeR (Γe x s b) own) ρ → Ag (Γs (s1 x s b)) ρ) :
    SX X (eLcL own iv g tYesF fe) Γ (noex (mapS xs0 st fun x s => noex ((te x s).bind fun b => .ok (y x s b, s1 x s b)))) (fun q => OL ve q.1) (fun q => backE Γ (Γs q.2) own) := by
  have h := sx_lcMpL (fc := tYesF) (X := X) (g := g) (fe := fe) (tc := fun _ _ => .ok ()) (c := fun _ _ _ => true) (Γc := fun x s _ => Γg x s) (te := fun x s _ => te x s) (vv := fun x s _ => vv x s) (Γe := fun x s _ => Γe x s) (ve := ve) (fun x s _ => y x s) (fun x s _ => s) (fun x s _ => s1 x s) hs hn hss h0 hg (fun x s => st_yes) (fun x s _ => he x s) (fun x s _ b => hy x s b) (fun x s _ => hs0 x s) (fun x s _ b => hs1 x s b)
  have e := lcS_yes (xs := xs0) (k := fun x s => (te x s).bind fun b => P.ok (y x s b, s1 x s b)) st
  have e2 : (fun (x : β) (s : σ) => noex ((P.ok ()).bind fun a => if (fun _ => true) a = true then ((te x s).bind fun b => P.ok (y x s b, s1 x s b)).bind fun b => P.ok (some b.1, b.2) else P.ok (none, s))) = (fun (x : β) (s : σ) => noex ((P.ok ()).bind fun (a : Unit) => if true = true then (te x s).bind fun b => P.ok (some (y x s b), s1 x s b) else P.ok (none, s))) := by
    funext x s
    cases te x s <;> rfl
  rw [e2] at e
  rw [← e]
  exact h
end
end Ty
end Lv

set_option maxHeartbeats 1000000
namespace Lv
namespace Ty
open PySem PySem.Spec PyProof.Rows L2 Lv
section
variable {α β γ δ R σ ω : Type}
/-! ### how typed programs run -/
theorem b_ex {c : Str} {f : α → P β} : P.bind (.ex c) f = .ex c := rfl
theorem g_s {a : α} {f : α → P β} : og (some a) f = f a := rfl
theorem v_ok {a : α} : (P.ok a).val = some a := rfl
theorem n_ok {a : α} : noex (P.ok a) = .ok a := rfl
theorem t_ok {a : α} {H : Str → P α} : tryP (.ok a) H = .ok a := rfl
theorem t_ex {c : Str} {H : Str → P α} : tryP (.ex c : P α) H = H c := rfl
theorem h_t {G1 G2 : P α} : hdP (some true) G1 G2 = G1 := rfl
theorem h_f {G1 G2 : P α} : hdP (some false) G1 G2 = G2 := rfl
theorem if_tt {x y : α} : (if true = true then x else y) = x := rfl
theorem if_ff {x y : α} : (if false = true then x else y) = y := rfl
/-- the whole numbers below one -/
def upto (n : Nat) : List Int := (List.range n).map fun i : Nat => (i : Int)
theorem upto_mem {n : Nat} {k : Int} : k ∈ upto n ↔ 0 ≤ k ∧ k < n := by
  unfold upto
  rw [List.mem_map]
  constructor
  · rintro ⟨i, h, rfl⟩; have := List.mem_range.mp h; omega
  · intro h; exact ⟨k.toNat, List.mem_range.mpr (by omega), by omega⟩
theorem upto_len {n : Nat} : (upto n).length = n := by simp [upto]
theorem upto_s {n : Nat} : upto (n + 1) = upto n ++ [(n : Int)] := by simp [upto, List.range_succ]
theorem rng1_ok {j : Int} (h : j ≤ 16777216) (h2 : 0 ≤ j) : rng1O j = some (upto j.toNat) := by
  unfold rng1O upto; rw [if_pos ⟨h, by omega⟩]
theorem rng1_nat {n : Nat} (h : n ≤ 16777216) : rng1O (n : Int) = some (upto n) := by
  rw [rng1_ok (by omega) (by omega)]; simp
theorem rng_ok {a b : Int} (h : -4000000000000000000 ≤ a ∧ a ≤ 4000000000000000000 ∧ -4000000000000000000 ≤ b ∧ b ≤ 4000000000000000000 ∧ b - a ≤ 16777216) : rngO a b = some ((List.range (b - a).toNat).map fun i : Nat => a + i) := if_pos h
theorem rng_mem {a b k : Int} : k ∈ ((List.range (b - a).toNat).map fun i : Nat => a + (i : Int)) ↔ a ≤ k ∧ k < b := by
  rw [List.mem_map]
  constructor
  · rintro ⟨i, h, rfl⟩; have := List.mem_range.mp h; omega
  · intro h; exact ⟨(k - a).toNat, List.mem_range.mpr (by omega), by omega⟩
theorem ix_ok {xs : List α} {k : Int} (h : 0 ≤ k) (h2 : k < xs.length) : ixO xs k = some (xs[k.toNat]'(by omega)) := by
  unfold ixO atI
  rw [ixN_nat h h2]
  simp only [Option.bind_some]
  exact List.getElem?_eq_getElem _
theorem ix_nat {xs : List α} {k : Nat} (h : k < xs.length) : ixO xs (k : Int) = some xs[k] := by
  rw [ix_ok (by omega) (by omega)]; simp
theorem ix_0 {x : α} {xs : List α} : ixO (x :: xs) 0 = some x := by rw [ix_ok (by omega) (by simp)]; rfl
theorem ix_m1 {xs : List α} (h : xs ≠ []) : ixO xs (-1) = some (xs.getLast h) := by
  unfold ixO
  rw [atI_m1 h, List.getLast?_eq_some_getLast h]
theorem ix_mem {xs : List α} {k : Int} {x : α} (h : ixO xs k = some x) : x ∈ xs := by
  unfold ixO atI at h
  obtain ⟨j, _, h2⟩ := Option.bind_eq_some_iff.mp h
  exact List.mem_of_getElem? h2
theorem szo_ok {xs : List α} (h : xs.length < 16777216) : szO xs = some xs := if_pos h
theorem cat_ok {xs ys : List α} (h : xs.length + ys.length ≤ 16777216) : catO xs ys = some (xs ++ ys) := if_pos h
theorem mod_ok {a b : Int} (h : 0 < b) : modO a b = some (a % b) := if_pos h
theorem fdiv_ok {a b : Int} (h : 0 < b) (h2 : b < 1073741824) : fdivO a b = some (a / b) := if_pos ⟨h, h2⟩
theorem mul_okr {a b : Int} (h : -18446744073709551616 < b) (h2 : b < 18446744073709551616) : mulO a b = some (a * b) := if_pos (.inr ⟨h, h2⟩)
theorem mul_okl {a b : Int} (h : -18446744073709551616 < a) (h2 : a < 18446744073709551616) : mulO a b = some (a * b) := if_pos (.inl ⟨h, h2⟩)
theorem pop_ok {xs : List α} {x : α} : popO (xs ++ [x]) = some (x, xs) := by
  unfold popO; simp
theorem eq_d {u v : D} (h1 : okD u = true) (h2 : okD v = true) : eqO u v = some (PyData.eqv u v) := if_pos ⟨h1, h2⟩
/-! loops by what stays -/
theorem foldP_inv {f : α → σ → P σ} (I : List α → σ → Prop) : ∀ {xs : List α} {s : σ}, I xs s → (∀ x r s, x ∈ xs → I (x :: r) s → ∃ s', f x s = .ok s' ∧ I r s') → ∃ s', foldP xs s f = .ok s' ∧ I [] s'
  | [], s, h, _ => ⟨s, rfl, h⟩
  | x :: xs, s, h, st => by
    obtain ⟨s1, e, h1⟩ := st x xs s (by simp) h
    obtain ⟨s2, e2, h2⟩ := foldP_inv I (xs := xs) h1 fun y r s hy => st y r s (by simp [hy])
    exact ⟨s2, by simp only [foldP, e, b_ok, e2], h2⟩
/-- numbered steps -/
theorem foldP_upto {f : Int → σ → P σ} (I : Nat → σ → Prop) (n : Nat) {s : σ} (h : I 0 s) (st : ∀ (k : Nat) s, k < n → I k s → ∃ s', f k s = .ok s' ∧ I (k + 1) s') : ∃ s', foldP (upto n) s f = .ok s' ∧ I n s' := by
  have key : ∀ (m k : Nat) (s : σ), I k s → k + m ≤ n → ∃ s', foldP ((List.range' k m).map fun i : Nat => (i : Int)) s f = .ok s' ∧ I (k + m) s' := by
    intro m
    induction m with
    | zero => intro k s h _; exact ⟨s, rfl, h⟩
    | succ m ih =>
      intro k s h hk
      obtain ⟨s1, e1, h1⟩ := st k s (by omega) h
      obtain ⟨s2, e2, h2⟩ := ih (k + 1) s1 h1 (by omega)
      refine ⟨s2, ?_, by rw [show k + (m + 1) = k + 1 + m by omega]; exact h2⟩
      rw [List.range'_succ, List.map_cons]
      simp only [foldP, e1, b_ok]
      exact e2
  have := key n 0 s h (by omega)
  rw [← List.range_eq_range'] at this
  simpa [upto] using this
theorem foldP_pure {f : α → σ → P σ} {g : σ → α → σ} : ∀ {xs : List α} {s : σ}, (∀ x ∈ xs, ∀ s, f x s = .ok (g s x)) → foldP xs s f = .ok (xs.foldl g s)
  | [], s, _ => rfl
  | x :: xs, s, h => by
    simp only [foldP, h x (by simp) s, b_ok, List.foldl_cons]
    exact foldP_pure fun y hy => h y (by simp [hy])
theorem forB_inv {f : α → σ → P (Bool × σ)} (I : List α → σ → Prop) (Q : σ → Prop) (hq : ∀ s, I [] s → Q s) : ∀ {xs : List α} {s : σ}, I xs s → (∀ x r s, x ∈ xs → I (x :: r) s → ∃ b s', f x s = .ok (b, s') ∧ if b = true then I r s' else Q s') → ∃ s', forB xs s f = .ok s' ∧ Q s'
  | [], s, h, _ => ⟨s, rfl, hq s h⟩
  | x :: xs, s, h, st => by
    obtain ⟨b, s1, e, h1⟩ := st x xs s (by simp) h
    cases b with
    | true =>
      obtain ⟨s2, e2, h2⟩ := forB_inv I Q hq (xs := xs) (by simpa using h1) fun y r s hy => st y r s (by simp [hy])
      exact ⟨s2, by simp only [forB, e, b_ok, if_true, e2], h2⟩
    | false => exact ⟨s1, by simp only [forB, e, b_ok]; rfl, by simpa using h1⟩
theorem forK_inv {f : α → σ → P (C σ R)} {k : σ → P ω} {kr : R → P ω} (I : List α → σ → Prop) (Q : P ω → Prop) (hk : ∀ s, I [] s → Q (k s)) : ∀ {xs : List α} {s : σ}, I xs s → (∀ x r s, x ∈ xs → I (x :: r) s → (∃ s', f x s = .ok (.nx s') ∧ I r s') ∨ (∃ s', f x s = .ok (.bk s') ∧ Q (k s')) ∨ ∃ t, f x s = .ok (.rt t) ∧ Q (kr t)) → Q (forK xs s f k kr)
  | [], s, h, _ => hk s h
  | x :: xs, s, h, st => by
    simp only [forK]
    rcases st x xs s (by simp) h with ⟨s1, e, h1⟩ | ⟨s1, e, h1⟩ | ⟨t, e, h1⟩
    · simp only [e, b_ok]; exact forK_inv I Q hk h1 fun y r s hy => st y r s (by simp [hy])
    · simp only [e, b_ok]; exact h1
    · simp only [e, b_ok]; exact h1
/-- the first of a list that has something, told at once -/
theorem forK_none {f : α → σ → P (C σ R)} {k : σ → P ω} {kr : R → P ω} {s : σ} : ∀ {xs : List α}, (∀ x ∈ xs, f x s = .ok (.nx s)) → forK xs s f k kr = k s
  | [], _ => rfl
  | x :: xs, h => by simp only [forK, h x (by simp), b_ok]; exact forK_none fun y hy => h y (by simp [hy])
/-! blocks -/
theorem lcS_pure {f : α → Unit → P (Option β × Unit)} {p : α → Bool} {v : α → β} : ∀ {xs : List α}, (∀ x ∈ xs, f x () = .ok (if p x = true then some (v x) else none, ())) → lcS xs () f = .ok ((xs.filter p).map v, ())
  | [], _ => rfl
  | x :: xs, h => by
    simp only [lcS, h x (by simp), b_ok, lcS_pure (xs := xs) (f := f) (p := p) (v := v) (fun y hy => h y (by simp [hy])), List.filter_cons]
    cases p x <;> rfl
theorem mapS_pure {f : α → Unit → P (β × Unit)} {v : α → β} : ∀ {xs : List α}, (∀ x ∈ xs, f x () = .ok (v x, ())) → mapS xs () f = .ok (xs.map v, ())
  | [], _ => rfl
  | x :: xs, h => by
    simp only [mapS, h x (by simp), b_ok, mapS_pure (xs := xs) (f := f) (v := v) (fun y hy => h y (by simp [hy])), List.map_cons]
theorem mapS_ex {f : α → σ → P (β × σ)} (I : σ → Prop) (Q : β → Prop) : ∀ {xs : List α} {s : σ}, I s → (∀ x ∈ xs, ∀ s, I s → ∃ y s', f x s = .ok (y, s') ∧ Q y ∧ I s') → ∃ ys s', mapS xs s f = .ok (ys, s') ∧ ys.length = xs.length ∧ (∀ y ∈ ys, Q y) ∧ I s'
  | [], s, h, _ => ⟨[], s, rfl, rfl, by simp, h⟩
  | x :: xs, s, h, st => by
    obtain ⟨y, s1, e, hy, h1⟩ := st x (by simp) s h
    obtain ⟨ys, s2, e2, hl, hq, h2⟩ := mapS_ex I Q (xs := xs) h1 fun z hz => st z (by simp [hz])
    exact ⟨y :: ys, s2, by simp only [mapS, e, b_ok, e2], by simp [hl], by simpa using ⟨hy, hq⟩, h2⟩
/-- items kept are some of the list's own -/
theorem lcS_ex {f : α → σ → P (Option β × σ)} (I : σ → Prop) (Q : β → Prop) (v : α → β) : ∀ {xs : List α} {s : σ}, I s → (∀ x ∈ xs, ∀ s, I s → ∃ o s', f x s = .ok (o, s') ∧ (∀ y, o = some y → y = v x ∧ Q y) ∧ I s') → ∃ ys s', lcS xs s f = .ok (ys, s') ∧ ys.Sublist (xs.map v) ∧ (∀ y ∈ ys, Q y) ∧ I s'
  | [], s, h, _ => ⟨[], s, rfl, by simp, by simp, h⟩
  | x :: xs, s, h, st => by
    obtain ⟨o, s1, e, hy, h1⟩ := st x (by simp) s h
    obtain ⟨ys, s2, e2, hl, hq, h2⟩ := lcS_ex I Q v (xs := xs) h1 fun z hz => st z (by simp [hz])
    cases o with
    | none => exact ⟨ys, s2, by simp only [lcS, e, b_ok, e2], by rw [List.map_cons]; exact hl.cons (v x), hq, h2⟩
    | some y =>
      obtain ⟨rfl, hy2⟩ := hy y rfl
      exact ⟨v x :: ys, s2, by simp only [lcS, e, b_ok, e2], by rw [List.map_cons]; exact hl.cons₂ (v x), by simpa using ⟨hy2, hq⟩, h2⟩
/-! while, by a measure -/
theorem big_gt (k : Nat) (h : k < 1000000000000) : ∃ n, big = n + k + 1 := ⟨big - k - 1, by
  have : big = 1000000000000 := by unfold big; rfl
  omega⟩
theorem whileP_inv {c : σ → P Bool} {f : σ → P σ} (I : σ → Prop) (m : σ → Nat) (b : σ → Bool) (hc : ∀ s, I s → c s = .ok (b s)) (hs : ∀ s, I s → b s = true → ∃ s', f s = .ok s' ∧ I s' ∧ m s' < m s) : ∀ (n : Nat) {s : σ}, I s → m s < n → ∃ s', whileP c f n s = .ok s' ∧ I s' ∧ b s' = false
  | 0, s, _, h => absurd h (by omega)
  | n + 1, s, hi, h => by
    simp only [whileP, hc s hi, b_ok]
    cases e : b s with
    | false => exact ⟨s, rfl, hi, e⟩
    | true =>
      obtain ⟨s1, e1, h1, h2⟩ := hs s hi e
      obtain ⟨s2, e2, h3⟩ := whileP_inv I m b hc hs n h1 (by omega)
      exact ⟨s2, by simp only [if_true, e1, b_ok, e2], h3⟩
theorem whileP_big {c : σ → P Bool} {f : σ → P σ} (I : σ → Prop) (m : σ → Nat) (b : σ → Bool) (hc : ∀ s, I s → c s = .ok (b s)) (hs : ∀ s, I s → b s = true → ∃ s', f s = .ok s' ∧ I s' ∧ m s' < m s) {s : σ} (hi : I s) (h : m s < 1000000000000) : ∃ s', whileP c f big s = .ok s' ∧ I s' ∧ b s' = false :=
  whileP_inv I m b hc hs big hi (by have : big = 1000000000000 := by unfold big; rfl
                                    omega)
/-! what a law needs at its end -/
theorem law_of {sem : List T → Option Ret} {ns : List Int} {t : P Bool} {os : Bool → List (Option T)} (h : SimD (sem [F (eL eI) ns]) t (fun r => F eB r) os) (e : t = .ok true) : ∃ os, sem [.fr (.list (ns.map .int))] = some (.ok (.fr (.bool true)) os) := by
  subst e; exact ⟨_, h⟩
end
end Ty
end Lv

set_option maxHeartbeats 1000000
namespace Lv
namespace Ty
open PySem PySem.Spec PyProof.Rows L2 Lv
section
variable {α β γ δ R σ ω : Type}
/-! ### backwards: what is behind a loop -/
theorem foldP_then {f : α → σ → P σ} {k : σ → P ω} {t : P ω} {xs : List α} {s : σ} (I : List α → σ → Prop) (h : I xs s) (st : ∀ x r s, x ∈ xs → I (x :: r) s → ∃ s', f x s = .ok s' ∧ I r s') (hk : ∀ s', I [] s' → k s' = t) : P.bind (foldP xs s f) k = t := by
  obtain ⟨s', e, h'⟩ := foldP_inv I h st
  rw [e, b_ok]; exact hk s' h'
theorem foldU_then {f : Int → σ → P σ} {k : σ → P ω} {t : P ω} {n : Nat} {s : σ} (I : Nat → σ → Prop) (h : I 0 s) (st : ∀ (k : Nat) s, k < n → I k s → ∃ s', f k s = .ok s' ∧ I (k + 1) s') (hk : ∀ s', I n s' → k s' = t) : P.bind (foldP (upto n) s f) k = t := by
  obtain ⟨s', e, h'⟩ := foldP_upto I n h st
  rw [e, b_ok]; exact hk s' h'
theorem lcS_then {f : α → σ → P (Option β × σ)} {k : List β × σ → P ω} {t : P ω} {xs : List α} {s : σ} (I : σ → Prop) (Q : β → Prop) (v : α → β) (h : I s) (st : ∀ x ∈ xs, ∀ s, I s → ∃ o s', f x s = .ok (o, s') ∧ (∀ y, o = some y → y = v x ∧ Q y) ∧ I s') (hk : ∀ ys s', ys.Sublist (xs.map v) → (∀ y ∈ ys, Q y) → I s' → k (ys, s') = t) : P.bind (noex (lcS xs s f)) k = t := by
  obtain ⟨ys, s', e, h1, h2, h3⟩ := lcS_ex I Q v h st
  rw [e, n_ok, b_ok]; exact hk ys s' h1 h2 h3
theorem mapS_then {f : α → σ → P (β × σ)} {k : List β × σ → P ω} {t : P ω} {xs : List α} {s : σ} (I : σ → Prop) (Q : β → Prop) (h : I s) (st : ∀ x ∈ xs, ∀ s, I s → ∃ y s', f x s = .ok (y, s') ∧ Q y ∧ I s') (hk : ∀ ys s', ys.length = xs.length → (∀ y ∈ ys, Q y) → I s' → k (ys, s') = t) : P.bind (noex (mapS xs s f)) k = t := by
  obtain ⟨ys, s', e, h1, h2, h3⟩ := mapS_ex I Q h st
  rw [e, n_ok, b_ok]; exact hk ys s' h1 h2 h3
theorem bind_then {t : P α} {k : α → P ω} {u : P ω} {a : α} (h : t = .ok a) (hk : k a = u) : P.bind t k = u := by rw [h]; exact hk
theorem og_then {o : Option α} {k : α → P ω} {u : P ω} {a : α} (h : o = some a) (hk : k a = u) : og o k = u := by rw [h]; exact hk
theorem val_then {t : P α} {k : α → P ω} {u : P ω} {a : α} (h : t = .ok a) (hk : k a = u) : og t.val k = u := by rw [h]; exact hk
/-- there is an end -/
theorem foldP_ex {f : α → σ → P σ} {k : σ → P ω} {xs : List α} {s : σ} {Q : ω → Prop} (I : List α → σ → Prop) (h : I xs s) (st : ∀ x r s, x ∈ xs → I (x :: r) s → ∃ s', f x s = .ok s' ∧ I r s') (hk : ∀ s', I [] s' → ∃ w, k s' = .ok w ∧ Q w) : ∃ w, P.bind (foldP xs s f) k = .ok w ∧ Q w := by
  obtain ⟨s', e, h'⟩ := foldP_inv I h st
  rw [e, b_ok]; exact hk s' h'
theorem lcS_exk {f : α → σ → P (Option β × σ)} {k : List β × σ → P ω} {xs : List α} {s : σ} {Z : ω → Prop} (I : σ → Prop) (Q : β → Prop) (v : α → β) (h : I s) (st : ∀ x ∈ xs, ∀ s, I s → ∃ o s', f x s = .ok (o, s') ∧ (∀ y, o = some y → y = v x ∧ Q y) ∧ I s') (hk : ∀ ys s', ys.Sublist (xs.map v) → (∀ y ∈ ys, Q y) → I s' → ∃ w, k (ys, s') = .ok w ∧ Z w) : ∃ w, P.bind (noex (lcS xs s f)) k = .ok w ∧ Z w := by
  obtain ⟨ys, s', e, h1, h2, h3⟩ := lcS_ex I Q v h st
  rw [e, n_ok, b_ok]; exact hk ys s' h1 h2 h3
theorem mapS_exk {f : α → σ → P (β × σ)} {k : List β × σ → P ω} {xs : List α} {s : σ} {Z : ω → Prop} (I : σ → Prop) (Q : β → Prop) (h : I s) (st : ∀ x ∈ xs, ∀ s, I s → ∃ y s', f x s = .ok (y, s') ∧ Q y ∧ I s') (hk : ∀ ys s', ys.length = xs.length → (∀ y ∈ ys, Q y) → I s' → ∃ w, k (ys, s') = .ok w ∧ Z w) : ∃ w, P.bind (noex (mapS xs s f)) k = .ok w ∧ Z w := by
  obtain ⟨ys, s', e, h1, h2, h3⟩ := mapS_ex I Q h st
  rw [e, n_ok, b_ok]; exact hk ys s' h1 h2 h3
theorem bind_ex {t : P α} {k : α → P ω} {Z : ω → Prop} {a : α} (h : t = .ok a) (hk : ∃ w, k a = .ok w ∧ Z w) : ∃ w, P.bind t k = .ok w ∧ Z w := by rw [h]; exact hk
end
end Ty
end Lv

set_option maxHeartbeats 0
namespace K68
open PySem PySem.Spec PyProof.Rows L2 Lv Lv.Ty
theorem law_equal_os {x y : D} {os : List (Option T)} {t : T} (h : law_equal_sem 12 [.fr x, .fr y] = some (.ok t os)) : os = [some (.fr x), some (.fr y)] := by
  have h2 : semD 2 0 [] (law_equal_b (law_equal_rec 11 0) (law_equal_rec 11 1)) [.fr x, .fr y] = some (.ok t os) := h
  unfold semD at h2
  simp only [List.length_cons, List.length_nil, if_true] at h2
  split at h2 <;> cases h2 <;> rfl
@[irreducible] def law_equal (x y : D) : P Bool := match law_equal_sem 12 [.fr x, .fr y] with
  | some (.ok (.fr (.bool b)) _) => .ok b
  | some (.ex c) => .ex c
  | _ => .fail
theorem law_equal_sim (x y : D) : SimD (law_equal_sem 12 [.fr x, .fr y]) (law_equal x y) (F eB) (fun _ => [some (.fr x), some (.fr y)]) := by
  unfold law_equal
  split
  · next b os e => rw [e]; show _ = _; rw [law_equal_os e]
  · next c e => rw [e]; rfl
  · trivial

def law_mixed (number : Int) (k : Int) : P Int :=
  P.bind (.ok (((((number * 48271) + (k * 69621)) + 12345) % 2147483647) : Int)) fun step_1 =>
  (og (mulO step_1 ((step_1 / 65536) + 3)) fun x2 =>
  .ok ((x2 + k) % 2147483647))
theorem law_mixed_sim (number : Int) (k : Int) : SimD (law_mixed_sem [((F eI) number), ((F eI) k)]) (law_mixed number k) (fun (r : Int) => (F eI) r) (fun (r : Int) => [some ((F eI) number), some ((F eI) k)]) :=
  sim_of (pn := (fun (r : Int) => [none, none, none])) 3 rfl (fun _ => rfl) (fun _ => rfl) (by
  unfold law_mixed law_mixed_b
  exact sy_at [some ((F eI) number), some ((F eI) k), none] (sy_seq (sy_set (sx_val (x := (((((number * 48271) + (k * 69621)) + 12345) % 2147483647) : Int)) (w := fun (step_1 : Int) => (F eI) step_1) (sx_k (x := ()) (v := fun _ => ((F eI) ((((number * 48271) + (k * 69621)) + 12345) % 2147483647))) (pk_2 (pk_2 (pk_2 (pk_2 (pk_v rfl) pk_c (o_mulr (by decide))) (pk_2 (pk_v rfl) pk_c (o_mulr (by decide))) o_add) pk_c o_add) pk_c (o_modc (by decide))) rfl) rfl) (fun _ => Nat.le_of_ble_eq_true rfl)) fun (step_1 : Int) => (sy_at [some ((F eI) number), some ((F eI) k), some ((F eI) step_1)] (sy_og fun (x2 : Int) hx2 => (sy_retp (r := ((x2 + k) % 2147483647)) (sx_k (x := ()) (v := fun _ => ((F eI) ((x2 + k) % 2147483647))) (pk_2 (pk_2 (pk_2 (pk_v rfl) (pk_2 (pk_2 (pk_v rfl) pk_c (o_fdivc (by decide))) pk_c o_add) (o_mul hx2)) (pk_v rfl) o_add) pk_c (o_modc (by decide))) rfl) rfl (wk [false, false, false]))))))
def law_numbers (script : (List Int)) : P (List Int) :=
  (P.bind (foldP script ([] : (List Int)) fun cell_2 s1 =>
  (og (powO 10 18) fun x3 =>
  if (decide (x3 ≤ cell_2)) = true then
  (og (rng1O 60) fun r4 =>
  P.bind (foldP r4 ((s1, cell_2) : ((List Int) × Int)) fun k_6 s5 =>
  (if (decide (0 < s5.2)) = true then
  (og (szO s5.1) fun numbers_7 =>
  P.bind (.ok ((s5.2 / 1000000) : Int)) fun rest_8 =>
  .ok ((numbers_7 ++ [(s5.2 % 1000000)]), rest_8))
  else .ok (s5.1, s5.2))) fun s9 =>
  .ok s9.1)
  else (og (szO s1) fun numbers_10 =>
  (og (rng1O 5) fun r11 =>
  P.bind (foldP r11 ((numbers_10 ++ [(cell_2 % 1000000)]) : (List Int)) fun k_13 s12 =>
  (og (law_mixed (cell_2 % 2147483647) k_13).val fun c14 =>
  og (law_mixed c14 (k_13 + 7)).val fun c15 =>
  og (szO s12) fun numbers_16 =>
  .ok (numbers_16 ++ [(c15 % 1000000)]))) fun s17 =>
  .ok s17)))) fun s18 =>
  .ok s18)
theorem law_numbers_sim (script : (List Int)) : SimD (law_numbers_sem [((F (eL eI)) script)]) (law_numbers script) (fun (r : (List Int)) => (F (eL eI)) r) (fun (r : (List Int)) => [some ((F (eL eI)) script)]) :=
  sim_of (pn := (fun (r : (List Int)) => [none, none, none, none, none])) 5 rfl (fun _ => rfl) (fun _ => rfl) (by
  unfold law_numbers law_numbers_b law_numbers_l6 law_numbers_b5 law_numbers_l2 law_numbers_b1 law_numbers_l4 law_numbers_b3
  exact sy_at [some ((F (eL eI)) script), none, none, none, none] (sy_seqp (sy_set (sx_lst sa_nil (fun _ => rfl) (fun _ => Nat.le_of_ble_eq_true rfl)) (fun _ => Nat.le_of_ble_eq_true rfl)) (sy_at [some ((F (eL eI)) script), some ((OL (F eI)) []), none, none, none] (sy_seq (sy_forp (xs := script) (st := ([] : (List Int))) (enc := eI) (Γo := fun (s1 : (List Int)) => [some ((F (eL eI)) script), some ((OL (F eI)) s1), none, none, none]) (si_it (sx_k (x := ()) (v := fun _ => ((F (eL eI)) script)) (pk_v rfl) rfl) (fun _ => (d_F (e := (eL eI)) script)) (fun _ => rfl)) rfl (wk [true, true, false, false, false]) (fun (cell_2 : Int) (s1 : (List Int)) => (sg_n (Nat.le_of_ble_eq_true rfl))) (fun (cell_2 : Int) (s1 : (List Int)) => (sy_killP (sy_at [some ((F (eL eI)) script), some ((OL (F eI)) s1), some ((F eI) cell_2), none, none] (sy_og fun (x3 : Int) hx3 => (sy_ifp (st_bk (x := ()) (z := fun _ => (decide (x3 ≤ cell_2))) (pk_2 (pk_v rfl) (pk_2 pk_c pk_c (o_pow hx3)) o_ge) rfl rfl) (fun _ => (sy_at [some ((F (eL eI)) script), some ((OL (F eI)) s1), some ((F eI) cell_2), none, none] (sy_seqp (sy_set (sx_k (x := ()) (v := fun _ => ((F eI) cell_2)) (pk_v rfl) rfl) (fun _ => Nat.le_of_ble_eq_true rfl)) (sy_at [some ((F (eL eI)) script), some ((OL (F eI)) s1), some ((F eI) cell_2), some ((F eI) cell_2), none] (sy_endseq (sy_og fun (r4 : (List Int)) hr4 => (sy_seq (sy_forp (xs := r4) (st := ((s1, cell_2) : ((List Int) × Int))) (enc := eI) (Γo := fun (s5 : ((List Int) × Int)) => [some ((F (eL eI)) script), some ((OL (F eI)) s5.1), some ((F eI) cell_2), some ((F eI) s5.2), none]) (si_r1p (sa_consr (z := fun _ => [.own ((F eI) 60)]) (sx_k (x := ()) (v := fun _ => ((F eI) 60)) pk_c rfl) sa_nil (fun _ => rfl)) hr4) rfl (wk [true, true, true, true, false]) (fun (k_6 : Int) (s5 : ((List Int) × Int)) => (sg_n (Nat.le_of_ble_eq_true rfl))) (fun (k_6 : Int) (s5 : ((List Int) × Int)) => (sy_killP (sy_at [some ((F (eL eI)) script), some ((OL (F eI)) s5.1), some ((F eI) cell_2), some ((F eI) s5.2), some ((F eI) k_6)] (sy_ifp (st_bk (x := ()) (z := fun _ => (decide (0 < s5.2))) (pk_2 (pk_v rfl) pk_c o_gt) rfl rfl) (fun _ => (sy_at [some ((F (eL eI)) script), some ((OL (F eI)) s5.1), some ((F eI) cell_2), some ((F eI) s5.2), some ((F eI) k_6)] (sy_og fun (numbers_7 : (List Int)) hnumbers_7 => (sy_seqp (sy_app (y := (s5.2 % 1000000)) rfl (sx_k (x := ()) (v := fun _ => ((F eI) (s5.2 % 1000000))) (pk_2 (pk_v rfl) pk_c (o_modc (by decide))) rfl) rfl hnumbers_7) (sy_at [some ((F (eL eI)) script), some ((OL (F eI)) (numbers_7 ++ [(s5.2 % 1000000)])), some ((F eI) cell_2), some ((F eI) s5.2), some ((F eI) k_6)] (sy_endseq (sy_seq (sy_set (sx_val (x := ((s5.2 / 1000000) : Int)) (w := fun (rest_8 : Int) => (F eI) rest_8) (sx_k (x := ()) (v := fun _ => ((F eI) (s5.2 / 1000000))) (pk_2 (pk_v rfl) pk_c (o_fdivc (by decide))) rfl) rfl) (fun _ => Nat.le_of_ble_eq_true rfl)) fun (rest_8 : Int) => (sy_at [some ((F (eL eI)) script), some ((OL (F eI)) (numbers_7 ++ [(s5.2 % 1000000)])), some ((F eI) cell_2), some ((F eI) rest_8), some ((F eI) k_6)] (sy_lpend ((numbers_7 ++ [(s5.2 % 1000000)]), rest_8) (wk [true, true, true, true, false])))))))))) (fun _ => (sy_at [some ((F (eL eI)) script), some ((OL (F eI)) s5.1), some ((F eI) cell_2), some ((F eI) s5.2), some ((F eI) k_6)] (sy_lpend (s5.1, s5.2) (wk [true, true, true, true, false])))))) (fun _ => rfl)))) fun (s9 : ((List Int) × Int)) => (sy_at [some ((F (eL eI)) script), some ((OL (F eI)) s9.1), some ((F eI) cell_2), some ((F eI) s9.2), none] (sy_lpend s9.1 (wk [true, true, false, false, false])))))))))) (fun _ => (sy_at [some ((F (eL eI)) script), some ((OL (F eI)) s1), some ((F eI) cell_2), none, none] (sy_og fun (numbers_10 : (List Int)) hnumbers_10 => (sy_seqp (sy_app (y := (cell_2 % 1000000)) rfl (sx_k (x := ()) (v := fun _ => ((F eI) (cell_2 % 1000000))) (pk_2 (pk_v rfl) pk_c (o_modc (by decide))) rfl) rfl hnumbers_10) (sy_at [some ((F (eL eI)) script), some ((OL (F eI)) (numbers_10 ++ [(cell_2 % 1000000)])), some ((F eI) cell_2), none, none] (sy_endseq (sy_og fun (r11 : (List Int)) hr11 => (sy_seq (sy_forp (xs := r11) (st := ((numbers_10 ++ [(cell_2 % 1000000)]) : (List Int))) (enc := eI) (Γo := fun (s12 : (List Int)) => [some ((F (eL eI)) script), some ((OL (F eI)) s12), some ((F eI) cell_2), none, none]) (si_r1p (sa_consr (z := fun _ => [.own ((F eI) 5)]) (sx_k (x := ()) (v := fun _ => ((F eI) 5)) pk_c rfl) sa_nil (fun _ => rfl)) hr11) rfl (wk [true, true, true, false, false]) (fun (k_13 : Int) (s12 : (List Int)) => (sg_n (Nat.le_of_ble_eq_true rfl))) (fun (k_13 : Int) (s12 : (List Int)) => (sy_killP (sy_at [some ((F (eL eI)) script), some ((OL (F eI)) s12), some ((F eI) cell_2), none, some ((F eI) k_13)] (sy_endseq (sy_og fun (c14 : Int) hc14 => (sy_og fun (c15 : Int) hc15 => (sy_og fun (numbers_16 : (List Int)) hnumbers_16 => (sy_seqp (sy_app (y := (c15 % 1000000)) rfl (sx_k (x := ()) (v := fun _ => ((F eI) (c15 % 1000000))) (pk_2 (pk_call (er := (F eI)) (r := c15) (pl_cons (pk_call (er := (F eI)) (r := c14) (pl_cons (pk_2 (pk_v rfl) pk_c (o_modc (by decide))) (pl_cons (pk_v rfl) pl_nil)) rfl (law_mixed_sim (cell_2 % 2147483647) k_13) hc14) (pl_cons (pk_2 (pk_v rfl) pk_c o_add) pl_nil)) rfl (law_mixed_sim c14 (k_13 + 7)) hc15) pk_c (o_modc (by decide))) rfl) rfl hnumbers_16) (sy_at [some ((F (eL eI)) script), some ((OL (F eI)) (numbers_16 ++ [(c15 % 1000000)])), some ((F eI) cell_2), none, some ((F eI) k_13)] (sy_lpend (numbers_16 ++ [(c15 % 1000000)]) (wk [true, true, true, false, false]))))))))) (fun _ => rfl)))) fun (s17 : (List Int)) => (sy_at [some ((F (eL eI)) script), some ((OL (F eI)) s17), some ((F eI) cell_2), none, none] (sy_lpend s17 (wk [true, true, false, false, false])))))))))))))) (fun _ => rfl)))) fun (s18 : (List Int)) => (sy_at [some ((F (eL eI)) script), some ((OL (F eI)) s18), none, none, none] (sy_retp (r := s18) (sx_fz (sx_mv rfl) (fun _ => (d_O (eT := (F eI)) (e := eI) d_F s18))) rfl (wk [false, false, false, false, false])))))))
def law_draw (draws : ((List Int) × Int)) : P (Int × ((List Int) × Int)) :=
  (if (decide (draws.2 < (((draws.1, (draws.2 + 1)).1).length : Int))) = true then
  (og (ixO ((draws.1, (draws.2 + 1)).1) draws.2) fun x1 =>
  .ok (x1, (draws.1, (draws.2 + 1))))
  else P.bind (.ok ((1 + draws.2) : Int)) fun first_2 =>
  P.bind ((if (decide (0 < (((draws.1, (draws.2 + 1)).1).length : Int))) = true then
  (og (ixO ((draws.1, (draws.2 + 1)).1) 0) fun x3 =>
  P.bind (.ok ((first_2 + (1009 * x3)) : Int)) fun first_4 =>
  .ok first_4)
  else .ok first_2)) fun j5 =>
  (og (law_mixed j5 draws.2).val fun c6 =>
  og (law_mixed c6 5).val fun c7 =>
  .ok ((c7 % 1000000), (draws.1, (draws.2 + 1)))))
theorem law_draw_sim (draws : ((List Int) × Int)) : SimD (law_draw_sem [((O2 (F (eL eI)) (F eI)) draws)]) (law_draw draws) (fun (r : (Int × ((List Int) × Int))) => (F eI) r.1) (fun (r : (Int × ((List Int) × Int))) => [some ((O2 (F (eL eI)) (F eI)) r.2)]) :=
  sim_of (pn := (fun (r : (Int × ((List Int) × Int))) => [some ((O2 (F (eL eI)) (F eI)) r.2), none, none])) 3 rfl (fun _ => rfl) (fun _ => rfl) (by
  unfold law_draw law_draw_b
  exact sy_at [some ((O2 (F (eL eI)) (F eI)) draws), none, none] (sy_seqp (sy_set (sx_k (x := ()) (v := fun _ => ((F eI) draws.2)) (pk_2 (pk_v rfl) pk_c rfl) rfl) (fun _ => Nat.le_of_ble_eq_true rfl)) (sy_at [some ((O2 (F (eL eI)) (F eI)) draws), some ((F eI) draws.2), none] (sy_seqp (sy_setC (ts := _) (us := [(F (eL eI)) draws.1, (F eI) (draws.2 + 1)]) rfl (sx_fz (sx_e2r (z := fun _ => ((F eI) (draws.2 + 1))) (sx_k (x := ()) (v := fun _ => ((F eI) draws.2)) (pk_v rfl) rfl) (sx_k (x := ()) (v := fun _ => ((F eI) 1)) pk_c rfl) (fun _ => o_add)) (fun _ => (d_F (e := eI) (draws.2 + 1)))) rfl pk_c rfl) (sy_at [some ((O2 (F (eL eI)) (F eI)) (draws.1, (draws.2 + 1))), some ((F eI) draws.2), none] (sy_ifseq (sy_ifp (st_bk (x := ()) (z := fun _ => (decide (draws.2 < (((draws.1, (draws.2 + 1)).1).length : Int)))) (pk_2 (pk_v rfl) (pk_n (pl_cons (pk_2 (pk_v rfl) pk_c rfl) pl_nil) o_lenF) o_lt) rfl rfl) (fun _ => (sy_at [some ((O2 (F (eL eI)) (F eI)) (draws.1, (draws.2 + 1))), some ((F eI) draws.2), none] (sy_retseq (sy_og fun (x1 : Int) hx1 => (sy_retp (r := (x1, (draws.1, (draws.2 + 1)))) (sx_k (x := ()) (v := fun _ => ((F eI) x1)) (pk_2 (pk_2 (pk_v rfl) pk_c rfl) (pk_v rfl) (o_ixF hx1)) rfl) rfl (wk [true, false, false])))))) (fun _ => (sy_at [some ((O2 (F (eL eI)) (F eI)) (draws.1, (draws.2 + 1))), some ((F eI) draws.2), none] (sy_nilseq (sy_seq (sy_set (sx_val (x := ((1 + draws.2) : Int)) (w := fun (first_2 : Int) => (F eI) first_2) (sx_fz (sx_e2r (z := fun _ => ((F eI) (1 + draws.2))) (sx_k (x := ()) (v := fun _ => ((F eI) 1)) pk_c rfl) (sx_k (x := ()) (v := fun _ => ((F eI) draws.2)) (pk_v rfl) rfl) (fun _ => o_add)) (fun _ => (d_F (e := eI) (1 + draws.2)))) rfl) (fun _ => Nat.le_of_ble_eq_true rfl)) fun (first_2 : Int) => (sy_at [some ((O2 (F (eL eI)) (F eI)) (draws.1, (draws.2 + 1))), some ((F eI) draws.2), some ((F eI) first_2)] (sy_seq (sy_atP (nxO fun (j5 : Int) => [some ((O2 (F (eL eI)) (F eI)) (draws.1, (draws.2 + 1))), some ((F eI) draws.2), some ((F eI) j5)]) (sy_ifp (st_bk (x := ()) (z := fun _ => (decide (0 < (((draws.1, (draws.2 + 1)).1).length : Int)))) (pk_2 (pk_n (pl_cons (pk_2 (pk_v rfl) pk_c rfl) pl_nil) o_lenF) pk_c o_gt) rfl rfl) (fun _ => (sy_at [some ((O2 (F (eL eI)) (F eI)) (draws.1, (draws.2 + 1))), some ((F eI) draws.2), some ((F eI) first_2)] (sy_endseq (sy_og fun (x3 : Int) hx3 => (sy_seq (sy_set (sx_val (x := ((first_2 + (1009 * x3)) : Int)) (w := fun (first_4 : Int) => (F eI) first_4) (sx_fz (sx_e2r (z := fun _ => ((F eI) (first_2 + (1009 * x3)))) (sx_k (x := ()) (v := fun _ => ((F eI) first_2)) (pk_v rfl) rfl) (sx_e2r (z := fun _ => ((F eI) (1009 * x3))) (sx_k (x := ()) (v := fun _ => ((F eI) 1009)) pk_c rfl) (sx_k (x := ()) (v := fun _ => ((F eI) x3)) (pk_2 (pk_2 (pk_v rfl) pk_c rfl) pk_c (o_ixF hx3)) rfl) (fun _ => (o_mull (by decide)))) (fun _ => o_add)) (fun _ => (d_F (e := eI) (first_2 + (1009 * x3))))) rfl) (fun _ => Nat.le_of_ble_eq_true rfl)) fun (first_4 : Int) => (sy_at [some ((O2 (F (eL eI)) (F eI)) (draws.1, (draws.2 + 1))), some ((F eI) draws.2), some ((F eI) first_4)] (sy_nxend first_4 (wk [true, true, true])))))))) (fun _ => (sy_at [some ((O2 (F (eL eI)) (F eI)) (draws.1, (draws.2 + 1))), some ((F eI) draws.2), some ((F eI) first_2)] (sy_nxend first_2 (wk [true, true, true])))))) fun (j5 : Int) => (sy_at [some ((O2 (F (eL eI)) (F eI)) (draws.1, (draws.2 + 1))), some ((F eI) draws.2), some ((F eI) j5)] (sy_og fun (c6 : Int) hc6 => (sy_og fun (c7 : Int) hc7 => (sy_retp (r := ((c7 % 1000000), (draws.1, (draws.2 + 1)))) (sx_k (x := ()) (v := fun _ => ((F eI) (c7 % 1000000))) (pk_2 (pk_call (er := (F eI)) (r := c7) (pl_cons (pk_call (er := (F eI)) (r := c6) (pl_cons (pk_v rfl) (pl_cons (pk_v rfl) pl_nil)) rfl (law_mixed_sim j5 draws.2) hc6) (pl_cons pk_c pl_nil)) rfl (law_mixed_sim c6 5) hc7) pk_c (o_modc (by decide))) rfl) rfl (wk [true, false, false]))))))))))))))))))
def law_results (draws : ((List Int) × Int)) (teams : Int) (houses : Int) (most : Int) : P ((List (Int × Int × Int × Int × Int)) × ((List Int) × Int)) :=
  (og (rng1O most) fun r1 =>
  P.bind (foldP r1 ((draws, []) : (((List Int) × Int) × (List (Int × Int × Int × Int × Int)))) fun k_3 s2 =>
  P.bind (P.bind (P.bind (law_draw s2.1) fun a4 => og (modO a4.1 teams) fun x5 => .ok (a4, x5)) fun p6 => P.bind (P.bind (law_draw p6.1.2) fun a7 => og (modO a7.1 houses) fun x8 => .ok (a7, x8)) fun p9 => .ok (p6, p9)) fun p10 =>
  (if (decide ((s2.2.filter fun i11 => ((decide (i11.1 = p10.1.2)) && (decide (i11.2.1 = p10.2.2)))) = [])) = true then
  P.bind (P.bind (P.bind (law_draw p10.2.1.2) fun a12 => P.bind (P.bind (law_draw a12.2) fun a13 => P.bind (og (powO 10 6) fun x14 => .ok x14) fun g15 => .ok (a13, g15)) fun p16 => .ok (a12, p16)) fun p17 => P.bind (law_draw p17.2.1.2) fun a18 => og (ixO [(-1), (1 + (p17.1.1 % 6)), (1 + (p17.2.1.1 % 40)), p17.2.2] (a18.1 % 4)) fun x19 => .ok (p17, a18, x19)) fun p20 =>
  P.bind (P.bind (P.bind (law_draw p20.2.1.2) fun a21 => P.bind (law_draw a21.2) fun a22 => .ok (a21, a22)) fun p23 => og (szO s2.2) fun found_24 => .ok (p23, found_24)) fun p25 =>
  .ok (p25.1.2.2, (p25.2 ++ [(p10.1.2, p10.2.2, (p25.1.1.1 % 4), p20.2.2, (p25.1.2.1 % 3))]))
  else .ok (p10.2.1.2, s2.2))) fun s26 =>
  .ok (s26.2, s26.1))
theorem law_results_sim (draws : ((List Int) × Int)) (teams : Int) (houses : Int) (most : Int) : SimD (law_results_sem [((O2 (F (eL eI)) (F eI)) draws), ((F eI) teams), ((F eI) houses), ((F eI) most)]) (law_results draws teams houses most) (fun (r : ((List (Int × Int × Int × Int × Int)) × ((List Int) × Int))) => (F (eL (eT5 eI eI eI eI eI))) r.1) (fun (r : ((List (Int × Int × Int × Int × Int)) × ((List Int) × Int))) => [some ((O2 (F (eL eI)) (F eI)) r.2), some ((F eI) teams), some ((F eI) houses), some ((F eI) most)]) :=
  sim_of (pn := (fun (r : ((List (Int × Int × Int × Int × Int)) × ((List Int) × Int))) => [some ((O2 (F (eL eI)) (F eI)) r.2), none, none, none, none, none, none, none, none, none])) 10 rfl (fun _ => rfl) (fun _ => rfl) (by
  unfold law_results law_results_b law_results_l3 law_results_b2 law_results_c1
  exact sy_at [some ((O2 (F (eL eI)) (F eI)) draws), some ((F eI) teams), some ((F eI) houses), some ((F eI) most), none, none, none, none, none, none] (sy_seqp (sy_set (sx_lst sa_nil (fun _ => rfl) (fun _ => Nat.le_of_ble_eq_true rfl)) (fun _ => Nat.le_of_ble_eq_true rfl)) (sy_at [some ((O2 (F (eL eI)) (F eI)) draws), some ((F eI) teams), some ((F eI) houses), some ((F eI) most), some ((OL (F (eT5 eI eI eI eI eI))) []), none, none, none, none, none] (sy_og fun (r1 : (List Int)) hr1 => (sy_seq (sy_forp (xs := r1) (st := ((draws, []) : (((List Int) × Int) × (List (Int × Int × Int × Int × Int))))) (enc := eI) (Γo := fun (s2 : (((List Int) × Int) × (List (Int × Int × Int × Int × Int)))) => [some ((O2 (F (eL eI)) (F eI)) s2.1), some ((F eI) teams), some ((F eI) houses), some ((F eI) most), some ((OL (F (eT5 eI eI eI eI eI))) s2.2), none, none, none, none, none]) (si_r1p (sa_consr (z := fun _ => [.own ((F eI) most)]) (sx_k (x := ()) (v := fun _ => ((F eI) most)) (pk_v rfl) rfl) sa_nil (fun _ => rfl)) hr1) rfl (wk [true, true, true, true, true, false, false, false, false, false]) (fun (k_3 : Int) (s2 : (((List Int) × Int) × (List (Int × Int × Int × Int × Int)))) => (sg_n (Nat.le_of_ble_eq_true rfl))) (fun (k_3 : Int) (s2 : (((List Int) × Int) × (List (Int × Int × Int × Int × Int)))) => (sy_killP (sy_at [some ((O2 (F (eL eI)) (F eI)) s2.1), some ((F eI) teams), some ((F eI) houses), some ((F eI) most), some ((OL (F (eT5 eI eI eI eI eI))) s2.2), some ((F eI) k_3), none, none, none, none] (sy_seq (sy_tgt (sx_tup (sa_cons2 (z := fun (p10 : (((Int × ((List Int) × Int)) × Int) × ((Int × ((List Int) × Int)) × Int))) => [.own ((F eI) p10.1.2), .own ((F eI) p10.2.2)]) (Γ2 := fun (p6 : ((Int × ((List Int) × Int)) × Int)) (p9 : ((Int × ((List Int) × Int)) × Int)) => [some ((O2 (F (eL eI)) (F eI)) p9.1.2), some ((F eI) teams), some ((F eI) houses), some ((F eI) most), some ((OL (F (eT5 eI eI eI eI eI))) s2.2), some ((F eI) k_3), none, none, none, none]) (sx_e2lo (z := fun (p6 : ((Int × ((List Int) × Int)) × Int)) => ((F eI) p6.2)) (o := fun (a4 : (Int × ((List Int) × Int))) => (modO a4.1 teams)) (sx_callp (Γ3 := fun (a4 : (Int × ((List Int) × Int))) => [some ((O2 (F (eL eI)) (F eI)) a4.2), some ((F eI) teams), some ((F eI) houses), some ((F eI) most), some ((OL (F (eT5 eI eI eI eI eI))) s2.2), some ((F eI) k_3), none, none, none, none]) (sa_bor (z := fun _ => [.bor 0]) rfl sa_nil (fun _ => rfl)) rfl (law_draw_sim s2.1) (wk [false, false, false, false, false, false, false, false, false, false]) (fun _ => rfl)) (fun (a4 : (Int × ((List Int) × Int))) => (sx_k (x := ()) (v := fun _ => ((F eI) teams)) (pk_v rfl) rfl)) (fun (a4 : (Int × ((List Int) × Int))) (x5 : Int) hx5 => (o_mod hx5))) (fun (p6 : ((Int × ((List Int) × Int)) × Int)) => (sa_consl (z := fun (p9 : ((Int × ((List Int) × Int)) × Int)) => [.own ((F eI) p9.2)]) (sx_e2lo (z := fun (p9 : ((Int × ((List Int) × Int)) × Int)) => ((F eI) p9.2)) (o := fun (a7 : (Int × ((List Int) × Int))) => (modO a7.1 houses)) (sx_callp (Γ3 := fun (a7 : (Int × ((List Int) × Int))) => [some ((O2 (F (eL eI)) (F eI)) a7.2), some ((F eI) teams), some ((F eI) houses), some ((F eI) most), some ((OL (F (eT5 eI eI eI eI eI))) s2.2), some ((F eI) k_3), none, none, none, none]) (sa_bor (z := fun _ => [.bor 0]) rfl sa_nil (fun _ => rfl)) rfl (law_draw_sim p6.1.2) (wk [false, false, false, false, false, false, false, false, false, false]) (fun _ => rfl)) (fun (a7 : (Int × ((List Int) × Int))) => (sx_k (x := ()) (v := fun _ => ((F eI) houses)) (pk_v rfl) rfl)) (fun (a7 : (Int × ((List Int) × Int))) (x8 : Int) hx8 => (o_mod hx8))) (fun (p9 : ((Int × ((List Int) × Int)) × Int)) => sa_nil) (fun _ => rfl))) (fun _ _ => rfl)) (fun _ => rfl) (fun (p10 : (((Int × ((List Int) × Int)) × Int) × ((Int × ((List Int) × Int)) × Int))) => (dl_cons (d_F (e := eI) p10.1.2) (dl_cons (d_F (e := eI) p10.2.2) dl_nil))) (fun _ => Nat.le_of_ble_eq_true rfl)) (fun (p10 : (((Int × ((List Int) × Int)) × Int) × ((Int × ((List Int) × Int)) × Int))) => (d_F (e := (eT2 eI eI)) (p10.1.2, p10.2.2))) (fun (p10 : (((Int × ((List Int) × Int)) × Int) × ((Int × ((List Int) × Int)) × Int))) => (sg_tp (sgs_cons (sg_n (Nat.le_of_ble_eq_true rfl)) (sgs_cons (sg_n (Nat.le_of_ble_eq_true rfl)) sgs_nil)) rfl))) fun (p10 : (((Int × ((List Int) × Int)) × Int) × ((Int × ((List Int) × Int)) × Int))) => (sy_at [some ((O2 (F (eL eI)) (F eI)) p10.2.1.2), some ((F eI) teams), some ((F eI) houses), some ((F eI) most), some ((OL (F (eT5 eI eI eI eI eI))) s2.2), some ((F eI) k_3), some ((F eI) p10.1.2), some ((F eI) p10.2.2), none, none] (sy_ifp (st_b (b := fun _ => (decide ((s2.2.filter fun (i11 : (Int × Int × Int × Int × Int)) => ((decide (i11.1 = p10.1.2)) && (decide (i11.2.1 = p10.2.2)))) = []))) (sx_e2r (z := fun _ => ((F eB) (decide ((s2.2.filter fun (i11 : (Int × Int × Int × Int × Int)) => ((decide (i11.1 = p10.1.2)) && (decide (i11.2.1 = p10.2.2)))) = [])))) (sx_lcfL (xs0 := s2.2) (enc := (eT5 eI eI eI eI eI)) (ve := (F (eT5 eI eI eI eI eI))) (cb := fun (i11 : (Int × Int × Int × Int × Int)) => ((decide (i11.1 = p10.1.2)) && (decide (i11.2.1 = p10.2.2)))) rfl (by decide) (fun (i11 : (Int × Int × Int × Int × Int)) => (sg_n (Nat.le_of_ble_eq_true rfl))) (fun (i11 : (Int × Int × Int × Int × Int)) => (st_and (a := (decide (i11.1 = p10.1.2))) (b := (decide (i11.2.1 = p10.2.2))) (st_bk (x := ()) (z := fun _ => (decide (i11.1 = p10.1.2))) (pk_2 (pk_2 (pk_v rfl) pk_c rfl) (pk_v rfl) (o_eq (e := eI) (u := i11.1) (v := p10.1.2) nI (by decide) (d_F (e := eI) i11.1) (d_F (e := eI) p10.1.2))) rfl rfl) (st_bk (x := ()) (z := fun _ => (decide (i11.2.1 = p10.2.2))) (pk_2 (pk_2 (pk_v rfl) pk_c rfl) (pk_v rfl) (o_eq (e := eI) (u := i11.2.1) (v := p10.2.2) nI (by decide) (d_F (e := eI) i11.2.1) (d_F (e := eI) p10.2.2))) rfl rfl))) (fun (i11 : (Int × Int × Int × Int × Int)) => (sx_k (x := ()) (v := fun _ => ((F (eT5 eI eI eI eI eI)) i11)) (pk_v rfl) rfl)) (fun _ => rfl)) (sx_lst sa_nil (fun _ => rfl) (fun _ => Nat.le_of_ble_eq_true rfl)) (fun _ => (o_eq (e := (eL (eT5 eI eI eI eI eI))) (u := (s2.2.filter fun (i11 : (Int × Int × Int × Int × Int)) => ((decide (i11.1 = p10.1.2)) && (decide (i11.2.1 = p10.2.2))))) (v := []) (nL (nT5 nI nI nI nI nI)) (by decide) (d_O (eT := (F (eT5 eI eI eI eI eI))) (e := (eT5 eI eI eI eI eI)) d_F (s2.2.filter fun (i11 : (Int × Int × Int × Int × Int)) => ((decide (i11.1 = p10.1.2)) && (decide (i11.2.1 = p10.2.2))))) (d_O (eT := (F (eT5 eI eI eI eI eI))) (e := (eT5 eI eI eI eI eI)) d_F [])))) (fun _ => rfl)) (fun _ => (sy_at [some ((O2 (F (eL eI)) (F eI)) p10.2.1.2), some ((F eI) teams), some ((F eI) houses), some ((F eI) most), some ((OL (F (eT5 eI eI eI eI eI))) s2.2), some ((F eI) k_3), some ((F eI) p10.1.2), some ((F eI) p10.2.2), none, none] (sy_seq (sy_set (sx_fz (sx_e2o2 (z := fun (p20 : (((Int × ((List Int) × Int)) × ((Int × ((List Int) × Int)) × Int)) × (Int × ((List Int) × Int)) × Int)) => ((F eI) p20.2.2)) (o := fun (p17 : ((Int × ((List Int) × Int)) × ((Int × ((List Int) × Int)) × Int))) (a18 : (Int × ((List Int) × Int))) => (ixO [(-1), (1 + (p17.1.1 % 6)), (1 + (p17.2.1.1 % 40)), p17.2.2] (a18.1 % 4))) (Γ2 := fun (p17 : ((Int × ((List Int) × Int)) × ((Int × ((List Int) × Int)) × Int))) (a18 : (Int × ((List Int) × Int))) => [some ((O2 (F (eL eI)) (F eI)) a18.2), some ((F eI) teams), some ((F eI) houses), some ((F eI) most), some ((OL (F (eT5 eI eI eI eI eI))) s2.2), some ((F eI) k_3), some ((F eI) p10.1.2), some ((F eI) p10.2.2), none, none]) (sx_lst (sa_consr (z := fun (p17 : ((Int × ((List Int) × Int)) × ((Int × ((List Int) × Int)) × Int))) => [.own ((F eI) (-1)), .own ((F eI) (1 + (p17.1.1 % 6))), .own ((F eI) (1 + (p17.2.1.1 % 40))), .own ((F eI) p17.2.2)]) (sx_k (x := ()) (v := fun _ => ((F eI) (-1))) (pk_1 pk_c o_neg) rfl) (sa_cons2 (z := fun (p17 : ((Int × ((List Int) × Int)) × ((Int × ((List Int) × Int)) × Int))) => [.own ((F eI) (1 + (p17.1.1 % 6))), .own ((F eI) (1 + (p17.2.1.1 % 40))), .own ((F eI) p17.2.2)]) (Γ2 := fun (a12 : (Int × ((List Int) × Int))) (p16 : ((Int × ((List Int) × Int)) × Int)) => [some ((O2 (F (eL eI)) (F eI)) p16.1.2), some ((F eI) teams), some ((F eI) houses), some ((F eI) most), some ((OL (F (eT5 eI eI eI eI eI))) s2.2), some ((F eI) k_3), some ((F eI) p10.1.2), some ((F eI) p10.2.2), none, none]) (sx_fz (sx_e2r (z := fun (a12 : (Int × ((List Int) × Int))) => ((F eI) (1 + (a12.1 % 6)))) (sx_k (x := ()) (v := fun _ => ((F eI) 1)) pk_c rfl) (sx_e2l (z := fun (a12 : (Int × ((List Int) × Int))) => ((F eI) (a12.1 % 6))) (sx_callp (Γ3 := fun (a12 : (Int × ((List Int) × Int))) => [some ((O2 (F (eL eI)) (F eI)) a12.2), some ((F eI) teams), some ((F eI) houses), some ((F eI) most), some ((OL (F (eT5 eI eI eI eI eI))) s2.2), some ((F eI) k_3), some ((F eI) p10.1.2), some ((F eI) p10.2.2), none, none]) (sa_bor (z := fun _ => [.bor 0]) rfl sa_nil (fun _ => rfl)) rfl (law_draw_sim p10.2.1.2) (wk [false, false, false, false, false, false, false, false, false, false]) (fun _ => rfl)) (fun (a12 : (Int × ((List Int) × Int))) => (sx_k (x := ()) (v := fun _ => ((F eI) 6)) pk_c rfl)) (fun (a12 : (Int × ((List Int) × Int))) => (o_modc (by decide)))) (fun (a12 : (Int × ((List Int) × Int))) => o_add)) (fun (a12 : (Int × ((List Int) × Int))) => (d_F (e := eI) (1 + (a12.1 % 6))))) (fun (a12 : (Int × ((List Int) × Int))) => (sa_cons2 (z := fun (p16 : ((Int × ((List Int) × Int)) × Int)) => [.own ((F eI) (1 + (p16.1.1 % 40))), .own ((F eI) p16.2)]) (Γ2 := fun (a13 : (Int × ((List Int) × Int))) (g15 : Int) => [some ((O2 (F (eL eI)) (F eI)) a13.2), some ((F eI) teams), some ((F eI) houses), some ((F eI) most), some ((OL (F (eT5 eI eI eI eI eI))) s2.2), some ((F eI) k_3), some ((F eI) p10.1.2), some ((F eI) p10.2.2), none, none]) (sx_fz (sx_e2r (z := fun (a13 : (Int × ((List Int) × Int))) => ((F eI) (1 + (a13.1 % 40)))) (sx_k (x := ()) (v := fun _ => ((F eI) 1)) pk_c rfl) (sx_e2l (z := fun (a13 : (Int × ((List Int) × Int))) => ((F eI) (a13.1 % 40))) (sx_callp (Γ3 := fun (a13 : (Int × ((List Int) × Int))) => [some ((O2 (F (eL eI)) (F eI)) a13.2), some ((F eI) teams), some ((F eI) houses), some ((F eI) most), some ((OL (F (eT5 eI eI eI eI eI))) s2.2), some ((F eI) k_3), some ((F eI) p10.1.2), some ((F eI) p10.2.2), none, none]) (sa_bor (z := fun _ => [.bor 0]) rfl sa_nil (fun _ => rfl)) rfl (law_draw_sim a12.2) (wk [false, false, false, false, false, false, false, false, false, false]) (fun _ => rfl)) (fun (a13 : (Int × ((List Int) × Int))) => (sx_k (x := ()) (v := fun _ => ((F eI) 40)) pk_c rfl)) (fun (a13 : (Int × ((List Int) × Int))) => (o_modc (by decide)))) (fun (a13 : (Int × ((List Int) × Int))) => o_add)) (fun (a13 : (Int × ((List Int) × Int))) => (d_F (e := eI) (1 + (a13.1 % 40))))) (fun (a13 : (Int × ((List Int) × Int))) => (sa_consl (z := fun (g15 : Int) => [.own ((F eI) g15)]) (sx_og fun (x14 : Int) hx14 => (sx_k (x := x14) (v := fun (g15 : Int) => ((F eI) g15)) (pk_2 pk_c pk_c (o_pow hx14)) rfl)) (fun (g15 : Int) => sa_nil) (fun _ => rfl))) (fun _ _ => rfl))) (fun _ _ => rfl)) (fun _ => rfl)) (fun _ => rfl) (fun _ => Nat.le_of_ble_eq_true rfl)) (fun (p17 : ((Int × ((List Int) × Int)) × ((Int × ((List Int) × Int)) × Int))) => (sx_e2l (z := fun (a18 : (Int × ((List Int) × Int))) => ((F eI) (a18.1 % 4))) (sx_callp (Γ3 := fun (a18 : (Int × ((List Int) × Int))) => [some ((O2 (F (eL eI)) (F eI)) a18.2), some ((F eI) teams), some ((F eI) houses), some ((F eI) most), some ((OL (F (eT5 eI eI eI eI eI))) s2.2), some ((F eI) k_3), some ((F eI) p10.1.2), some ((F eI) p10.2.2), none, none]) (sa_bor (z := fun _ => [.bor 0]) rfl sa_nil (fun _ => rfl)) rfl (law_draw_sim p17.2.1.2) (wk [false, false, false, false, false, false, false, false, false, false]) (fun _ => rfl)) (fun (a18 : (Int × ((List Int) × Int))) => (sx_k (x := ()) (v := fun _ => ((F eI) 4)) pk_c rfl)) (fun (a18 : (Int × ((List Int) × Int))) => (o_modc (by decide))))) (fun (p17 : ((Int × ((List Int) × Int)) × ((Int × ((List Int) × Int)) × Int))) (a18 : (Int × ((List Int) × Int))) (x19 : Int) hx19 => (o_fr (o_ixO (e := (F eI)) (x := [(-1), (1 + (p17.1.1 % 6)), (1 + (p17.2.1.1 % 40)), p17.2.2]) hx19)))) (fun (p20 : (((Int × ((List Int) × Int)) × ((Int × ((List Int) × Int)) × Int)) × (Int × ((List Int) × Int)) × Int)) => (d_F (e := eI) p20.2.2))) (fun _ => Nat.le_of_ble_eq_true rfl)) fun (p20 : (((Int × ((List Int) × Int)) × ((Int × ((List Int) × Int)) × Int)) × (Int × ((List Int) × Int)) × Int)) => (sy_at [some ((O2 (F (eL eI)) (F eI)) p20.2.1.2), some ((F eI) teams), some ((F eI) houses), some ((F eI) most), some ((OL (F (eT5 eI eI eI eI eI))) s2.2), some ((F eI) k_3), some ((F eI) p10.1.2), some ((F eI) p10.2.2), some ((F eI) p20.2.2), none] (sy_endseq (sy_seq (sy_appM (y := fun (p23 : ((Int × ((List Int) × Int)) × (Int × ((List Int) × Int)))) => (p10.1.2, p10.2.2, (p23.1.1 % 4), p20.2.2, (p23.2.1 % 3))) (xs := fun (p23 : ((Int × ((List Int) × Int)) × (Int × ((List Int) × Int)))) => s2.2) rfl (sx_fz (sx_tup (sa_consr (z := fun (p23 : ((Int × ((List Int) × Int)) × (Int × ((List Int) × Int)))) => [.own ((F eI) p10.1.2), .own ((F eI) p10.2.2), .own ((F eI) (p23.1.1 % 4)), .own ((F eI) p20.2.2), .own ((F eI) (p23.2.1 % 3))]) (sx_k (x := ()) (v := fun _ => ((F eI) p10.1.2)) (pk_v rfl) rfl) (sa_consr (z := fun (p23 : ((Int × ((List Int) × Int)) × (Int × ((List Int) × Int)))) => [.own ((F eI) p10.2.2), .own ((F eI) (p23.1.1 % 4)), .own ((F eI) p20.2.2), .own ((F eI) (p23.2.1 % 3))]) (sx_k (x := ()) (v := fun _ => ((F eI) p10.2.2)) (pk_v rfl) rfl) (sa_cons2 (z := fun (p23 : ((Int × ((List Int) × Int)) × (Int × ((List Int) × Int)))) => [.own ((F eI) (p23.1.1 % 4)), .own ((F eI) p20.2.2), .own ((F eI) (p23.2.1 % 3))]) (Γ2 := fun (a21 : (Int × ((List Int) × Int))) (a22 : (Int × ((List Int) × Int))) => [some ((O2 (F (eL eI)) (F eI)) a22.2), some ((F eI) teams), some ((F eI) houses), some ((F eI) most), some ((OL (F (eT5 eI eI eI eI eI))) s2.2), some ((F eI) k_3), some ((F eI) p10.1.2), some ((F eI) p10.2.2), some ((F eI) p20.2.2), none]) (sx_e2l (z := fun (a21 : (Int × ((List Int) × Int))) => ((F eI) (a21.1 % 4))) (sx_callp (Γ3 := fun (a21 : (Int × ((List Int) × Int))) => [some ((O2 (F (eL eI)) (F eI)) a21.2), some ((F eI) teams), some ((F eI) houses), some ((F eI) most), some ((OL (F (eT5 eI eI eI eI eI))) s2.2), some ((F eI) k_3), some ((F eI) p10.1.2), some ((F eI) p10.2.2), some ((F eI) p20.2.2), none]) (sa_bor (z := fun _ => [.bor 0]) rfl sa_nil (fun _ => rfl)) rfl (law_draw_sim p20.2.1.2) (wk [false, false, false, false, false, false, false, false, false, false]) (fun _ => rfl)) (fun (a21 : (Int × ((List Int) × Int))) => (sx_k (x := ()) (v := fun _ => ((F eI) 4)) pk_c rfl)) (fun (a21 : (Int × ((List Int) × Int))) => (o_modc (by decide)))) (fun (a21 : (Int × ((List Int) × Int))) => (sa_consr (z := fun (a22 : (Int × ((List Int) × Int))) => [.own ((F eI) p20.2.2), .own ((F eI) (a22.1 % 3))]) (sx_k (x := ()) (v := fun _ => ((F eI) p20.2.2)) (pk_v rfl) rfl) (sa_consl (z := fun (a22 : (Int × ((List Int) × Int))) => [.own ((F eI) (a22.1 % 3))]) (sx_e2l (z := fun (a22 : (Int × ((List Int) × Int))) => ((F eI) (a22.1 % 3))) (sx_callp (Γ3 := fun (a22 : (Int × ((List Int) × Int))) => [some ((O2 (F (eL eI)) (F eI)) a22.2), some ((F eI) teams), some ((F eI) houses), some ((F eI) most), some ((OL (F (eT5 eI eI eI eI eI))) s2.2), some ((F eI) k_3), some ((F eI) p10.1.2), some ((F eI) p10.2.2), some ((F eI) p20.2.2), none]) (sa_bor (z := fun _ => [.bor 0]) rfl sa_nil (fun _ => rfl)) rfl (law_draw_sim a21.2) (wk [false, false, false, false, false, false, false, false, false, false]) (fun _ => rfl)) (fun (a22 : (Int × ((List Int) × Int))) => (sx_k (x := ()) (v := fun _ => ((F eI) 3)) pk_c rfl)) (fun (a22 : (Int × ((List Int) × Int))) => (o_modc (by decide)))) (fun (a22 : (Int × ((List Int) × Int))) => sa_nil) (fun _ => rfl)) (fun _ => rfl))) (fun _ _ => rfl)) (fun _ => rfl)) (fun _ => rfl)) (fun _ => rfl) (fun (p23 : ((Int × ((List Int) × Int)) × (Int × ((List Int) × Int)))) => (dl_cons (d_F (e := eI) p10.1.2) (dl_cons (d_F (e := eI) p10.2.2) (dl_cons (d_F (e := eI) (p23.1.1 % 4)) (dl_cons (d_F (e := eI) p20.2.2) (dl_cons (d_F (e := eI) (p23.2.1 % 3)) dl_nil)))))) (fun _ => Nat.le_of_ble_eq_true rfl)) (fun (p23 : ((Int × ((List Int) × Int)) × (Int × ((List Int) × Int)))) => (d_F (e := (eT5 eI eI eI eI eI)) (p10.1.2, p10.2.2, (p23.1.1 % 4), p20.2.2, (p23.2.1 % 3))))) (fun _ => rfl)) fun (p25 : (((Int × ((List Int) × Int)) × (Int × ((List Int) × Int))) × (List (Int × Int × Int × Int × Int)))) => (sy_at [some ((O2 (F (eL eI)) (F eI)) p25.1.2.2), some ((F eI) teams), some ((F eI) houses), some ((F eI) most), some ((OL (F (eT5 eI eI eI eI eI))) (p25.2 ++ [(p10.1.2, p10.2.2, (p25.1.1.1 % 4), p20.2.2, (p25.1.2.1 % 3))])), some ((F eI) k_3), some ((F eI) p10.1.2), some ((F eI) p10.2.2), some ((F eI) p20.2.2), none] (sy_lpend (p25.1.2.2, (p25.2 ++ [(p10.1.2, p10.2.2, (p25.1.1.1 % 4), p20.2.2, (p25.1.2.1 % 3))])) (wk [true, true, true, true, true, false, false, false, false, false]))))))))) (fun _ => (sy_at [some ((O2 (F (eL eI)) (F eI)) p10.2.1.2), some ((F eI) teams), some ((F eI) houses), some ((F eI) most), some ((OL (F (eT5 eI eI eI eI eI))) s2.2), some ((F eI) k_3), some ((F eI) p10.1.2), some ((F eI) p10.2.2), none, none] (sy_lpend (p10.2.1.2, s2.2) (wk [true, true, true, true, true, false, false, false, false, false])))))))) (fun _ => rfl)))) fun (s26 : (((List Int) × Int) × (List (Int × Int × Int × Int × Int)))) => (sy_at [some ((O2 (F (eL eI)) (F eI)) s26.1), some ((F eI) teams), some ((F eI) houses), some ((F eI) most), some ((OL (F (eT5 eI eI eI eI eI))) s26.2), none, none, none, none, none] (sy_retp (r := (s26.2, s26.1)) (sx_fz (sx_mv rfl) (fun _ => (d_O (eT := (F (eT5 eI eI eI eI eI))) (e := (eT5 eI eI eI eI eI)) d_F s26.2))) rfl (wk [true, false, false, false, false, false, false, false, false, false]))))))))
def law_rules (draws : ((List Int) × Int)) : P ((Int × Int) × ((List Int) × Int)) :=
  (og (powO 10 6) fun x1 =>
  P.bind (P.bind (P.bind (law_draw draws) fun a2 => og (ixO [5, 30, x1] (a2.1 % 3)) fun x3 => .ok (a2, x3)) fun p4 => P.bind (P.bind (og (powO 10 6) fun x5 => .ok x5) fun g6 => P.bind (law_draw p4.1.2) fun a7 => og (ixO [0, 1, 7, g6] (a7.1 % 4)) fun x8 => .ok (g6, a7, x8)) fun p9 => .ok (p4, p9)) fun p10 => .ok ((p10.1.2, p10.2.2.2), p10.2.2.1.2))
theorem law_rules_sim (draws : ((List Int) × Int)) : SimD (law_rules_sem [((O2 (F (eL eI)) (F eI)) draws)]) (law_rules draws) (fun (r : ((Int × Int) × ((List Int) × Int))) => (F (eT2 eI eI)) r.1) (fun (r : ((Int × Int) × ((List Int) × Int))) => [some ((O2 (F (eL eI)) (F eI)) r.2)]) :=
  sim_of (pn := (fun (r : ((Int × Int) × ((List Int) × Int))) => [some ((O2 (F (eL eI)) (F eI)) r.2)])) 1 rfl (fun _ => rfl) (fun _ => rfl) (by
  unfold law_rules law_rules_b
  exact sy_at [some ((O2 (F (eL eI)) (F eI)) draws)] (sy_og fun (x1 : Int) hx1 => (sy_ret (fun (p10 : (((Int × ((List Int) × Int)) × Int) × (Int × (Int × ((List Int) × Int)) × Int))) => ((p10.1.2, p10.2.2.2), p10.2.2.1.2)) (sx_fz (sx_tup (sa_cons2 (z := fun (p10 : (((Int × ((List Int) × Int)) × Int) × (Int × (Int × ((List Int) × Int)) × Int))) => [.own ((F eI) p10.1.2), .own ((F eI) p10.2.2.2)]) (Γ2 := fun (p4 : ((Int × ((List Int) × Int)) × Int)) (p9 : (Int × (Int × ((List Int) × Int)) × Int)) => [some ((O2 (F (eL eI)) (F eI)) p9.2.1.2)]) (sx_e2ro (z := fun (p4 : ((Int × ((List Int) × Int)) × Int)) => ((F eI) p4.2)) (o := fun (a2 : (Int × ((List Int) × Int))) => (ixO [5, 30, x1] (a2.1 % 3))) (sx_lst (sa_consr (z := fun _ => [.own ((F eI) 5), .own ((F eI) 30), .own ((F eI) x1)]) (sx_k (x := ()) (v := fun _ => ((F eI) 5)) pk_c rfl) (sa_consr (z := fun _ => [.own ((F eI) 30), .own ((F eI) x1)]) (sx_k (x := ()) (v := fun _ => ((F eI) 30)) pk_c rfl) (sa_consr (z := fun _ => [.own ((F eI) x1)]) (sx_k (x := ()) (v := fun _ => ((F eI) x1)) (pk_2 pk_c pk_c (o_pow hx1)) rfl) sa_nil (fun _ => rfl)) (fun _ => rfl)) (fun _ => rfl)) (fun _ => rfl) (fun _ => Nat.le_of_ble_eq_true rfl)) (sx_e2l (z := fun (a2 : (Int × ((List Int) × Int))) => ((F eI) (a2.1 % 3))) (sx_callp (Γ3 := fun (a2 : (Int × ((List Int) × Int))) => [some ((O2 (F (eL eI)) (F eI)) a2.2)]) (sa_bor (z := fun _ => [.bor 0]) rfl sa_nil (fun _ => rfl)) rfl (law_draw_sim draws) (wk [false]) (fun _ => rfl)) (fun (a2 : (Int × ((List Int) × Int))) => (sx_k (x := ()) (v := fun _ => ((F eI) 3)) pk_c rfl)) (fun (a2 : (Int × ((List Int) × Int))) => (o_modc (by decide)))) (fun (a2 : (Int × ((List Int) × Int))) (x3 : Int) hx3 => (o_fr (o_ixO (e := (F eI)) (x := [5, 30, x1]) hx3)))) (fun (p4 : ((Int × ((List Int) × Int)) × Int)) => (sa_consl (z := fun (p9 : (Int × (Int × ((List Int) × Int)) × Int)) => [.own ((F eI) p9.2.2)]) (sx_e2o2 (z := fun (p9 : (Int × (Int × ((List Int) × Int)) × Int)) => ((F eI) p9.2.2)) (o := fun (g6 : Int) (a7 : (Int × ((List Int) × Int))) => (ixO [0, 1, 7, g6] (a7.1 % 4))) (Γ2 := fun (g6 : Int) (a7 : (Int × ((List Int) × Int))) => [some ((O2 (F (eL eI)) (F eI)) a7.2)]) (sx_lst (sa_consr (z := fun (g6 : Int) => [.own ((F eI) 0), .own ((F eI) 1), .own ((F eI) 7), .own ((F eI) g6)]) (sx_k (x := ()) (v := fun _ => ((F eI) 0)) pk_c rfl) (sa_consr (z := fun (g6 : Int) => [.own ((F eI) 1), .own ((F eI) 7), .own ((F eI) g6)]) (sx_k (x := ()) (v := fun _ => ((F eI) 1)) pk_c rfl) (sa_consr (z := fun (g6 : Int) => [.own ((F eI) 7), .own ((F eI) g6)]) (sx_k (x := ()) (v := fun _ => ((F eI) 7)) pk_c rfl) (sa_consl (z := fun (g6 : Int) => [.own ((F eI) g6)]) (sx_og fun (x5 : Int) hx5 => (sx_k (x := x5) (v := fun (g6 : Int) => ((F eI) g6)) (pk_2 pk_c pk_c (o_pow hx5)) rfl)) (fun (g6 : Int) => sa_nil) (fun _ => rfl)) (fun _ => rfl)) (fun _ => rfl)) (fun _ => rfl)) (fun _ => rfl) (fun _ => Nat.le_of_ble_eq_true rfl)) (fun (g6 : Int) => (sx_e2l (z := fun (a7 : (Int × ((List Int) × Int))) => ((F eI) (a7.1 % 4))) (sx_callp (Γ3 := fun (a7 : (Int × ((List Int) × Int))) => [some ((O2 (F (eL eI)) (F eI)) a7.2)]) (sa_bor (z := fun _ => [.bor 0]) rfl sa_nil (fun _ => rfl)) rfl (law_draw_sim p4.1.2) (wk [false]) (fun _ => rfl)) (fun (a7 : (Int × ((List Int) × Int))) => (sx_k (x := ()) (v := fun _ => ((F eI) 4)) pk_c rfl)) (fun (a7 : (Int × ((List Int) × Int))) => (o_modc (by decide))))) (fun (g6 : Int) (a7 : (Int × ((List Int) × Int))) (x8 : Int) hx8 => (o_fr (o_ixO (e := (F eI)) (x := [0, 1, 7, g6]) hx8)))) (fun (p9 : (Int × (Int × ((List Int) × Int)) × Int)) => sa_nil) (fun _ => rfl))) (fun _ _ => rfl)) (fun _ => rfl) (fun (p10 : (((Int × ((List Int) × Int)) × Int) × (Int × (Int × ((List Int) × Int)) × Int))) => (dl_cons (d_F (e := eI) p10.1.2) (dl_cons (d_F (e := eI) p10.2.2.2) dl_nil))) (fun _ => Nat.le_of_ble_eq_true rfl)) (fun (p10 : (((Int × ((List Int) × Int)) × Int) × (Int × (Int × ((List Int) × Int)) × Int))) => (d_F (e := (eT2 eI eI)) (p10.1.2, p10.2.2.2)))) (fun _ => rfl) (fun _ => (wk [true])))))
def law_full (rules : (Int × Int)) (one : (Int × Int × Int × Int × Int)) : P (Option Int) :=
  (if ((decide (one.2.2.2.1 = (-1))) || (decide (rules.1 < one.2.2.2.1))) = true then
  .ok none
  else (og (mulO rules.2 one.2.2.2.2) fun x1 =>
  .ok (some (one.2.2.2.1 + x1))))
theorem law_full_sim (rules : (Int × Int)) (one : (Int × Int × Int × Int × Int)) : SimD (law_full_sem [((F (eT2 eI eI)) rules), ((F (eT5 eI eI eI eI eI)) one)]) (law_full rules one) (fun (r : (Option Int)) => (F (eO eI)) r) (fun (r : (Option Int)) => [some ((F (eT2 eI eI)) rules), some ((F (eT5 eI eI eI eI eI)) one)]) :=
  sim_of (pn := (fun (r : (Option Int)) => [none, none])) 2 rfl (fun _ => rfl) (fun _ => rfl) (by
  unfold law_full law_full_b
  exact sy_at [some ((F (eT2 eI eI)) rules), some ((F (eT5 eI eI eI eI eI)) one)] (sy_ifseq (sy_ifp (st_or (a := (decide (one.2.2.2.1 = (-1)))) (b := (decide (rules.1 < one.2.2.2.1))) (st_bk (x := ()) (z := fun _ => (decide (one.2.2.2.1 = (-1)))) (pk_2 (pk_2 (pk_v rfl) pk_c rfl) (pk_1 pk_c o_neg) (o_eq (e := eI) (u := one.2.2.2.1) (v := (-1)) nI (by decide) (d_F (e := eI) one.2.2.2.1) (d_F (e := eI) (-1)))) rfl rfl) (st_bk (x := ()) (z := fun _ => (decide (rules.1 < one.2.2.2.1))) (pk_2 (pk_2 (pk_v rfl) pk_c rfl) (pk_2 (pk_v rfl) pk_c rfl) o_gt) rfl rfl)) (fun _ => (sy_at [some ((F (eT2 eI eI)) rules), some ((F (eT5 eI eI eI eI eI)) one)] (sy_retseq (sy_retp (r := none) (sx_k (x := ()) (v := fun _ => ((F eU) ())) pk_c rfl) rfl (wk [false, false]))))) (fun _ => (sy_at [some ((F (eT2 eI eI)) rules), some ((F (eT5 eI eI eI eI eI)) one)] (sy_nilseq (sy_og fun (x1 : Int) hx1 => (sy_retp (r := (some (one.2.2.2.1 + x1))) (sx_fz (sx_e2r (z := fun _ => ((F eI) (one.2.2.2.1 + x1))) (sx_k (x := ()) (v := fun _ => ((F eI) one.2.2.2.1)) (pk_2 (pk_v rfl) pk_c rfl) rfl) (sx_e2r (z := fun _ => ((F eI) x1)) (sx_k (x := ()) (v := fun _ => ((F eI) rules.2)) (pk_2 (pk_v rfl) pk_c rfl) rfl) (sx_k (x := ()) (v := fun _ => ((F eI) one.2.2.2.2)) (pk_2 (pk_v rfl) pk_c rfl) rfl) (fun _ => (o_mul hx1))) (fun _ => o_add)) (fun _ => (d_F (e := eI) (one.2.2.2.1 + x1)))) rfl (wk [false, false])))))))))
def is_number_P (value : Int) (low : Int) (high : Int) : P Bool :=
  .ok ((decide (low ≤ value)) && (decide (value ≤ high)))
def is_number (value : Int) (low : Int) (high : Int) : Bool :=
  ((decide (low ≤ value)) && (decide (value ≤ high)))
theorem is_number_val (value : Int) (low : Int) (high : Int) : is_number_P value low high = .ok (is_number value low high) := by
  unfold is_number_P is_number; (try simp only [ok_ite]); try rfl
theorem is_number_sim (value : Int) (low : Int) (high : Int) : SimD (is_number_sem [((F eI) value), ((F eI) low), ((F eI) high)]) (is_number_P value low high) (fun (r : Bool) => (F eB) r) (fun (r : Bool) => [some ((F eI) value), some ((F eI) low), some ((F eI) high)]) :=
  sim_of (pn := (fun (r : Bool) => [none, none, none])) 3 rfl (fun _ => rfl) (fun _ => rfl) (by
  unfold is_number_P is_number_b
  exact sy_at [some ((F eI) value), some ((F eI) low), some ((F eI) high)] (sy_retp (r := ((decide (low ≤ value)) && (decide (value ≤ high)))) (sx_fz (sx_andT (sx_k (x := ()) (v := fun _ => ((F eB) true)) (pk_isi (s := "int") (pk_v rfl) rfl (by decide)) rfl) (sx_andT (sx_notC (b := false) (sx_k (x := ()) (v := fun _ => ((F eB) false)) (pk_isi (s := "int") (pk_v rfl) rfl (by decide)) rfl) tr_B) (sx_k (x := ()) (v := fun _ => ((F eB) ((decide (low ≤ value)) && (decide (value ≤ high))))) (pk_ch (pk_v rfl) (pk_v rfl) (pk_v rfl) o_le o_le) rfl))) (fun _ => (d_F (e := eB) ((decide (low ≤ value)) && (decide (value ≤ high)))))) rfl (wk [false, false, false])))
def check_number (value : Int) (low : Int) (high : Int) : P Unit :=
  (if (!(is_number value low high)) = true then
  .ex "BadArgument"
  else .ok ())
theorem check_number_sim (value : Int) (low : Int) (high : Int) : SimD (check_number_sem [((F eI) value), ((F eI) low), ((F eI) high)]) (check_number value low high) (fun (r : Unit) => (F eU) r) (fun (r : Unit) => [some ((F eI) value), some ((F eI) low), some ((F eI) high)]) :=
  sim_of (pn := (fun (r : Unit) => [none, none, none])) 3 rfl (fun _ => rfl) (fun _ => rfl) (by
  unfold check_number check_number_b
  exact sy_at [some ((F eI) value), some ((F eI) low), some ((F eI) high)] (sy_ifp (st_not (b := fun _ => (is_number value low high)) (st_vk (x := ()) (z := fun _ => (is_number value low high)) (pk_callv (er := (F eB)) (r := is_number value low high) (pl_cons (pk_v rfl) (pl_cons (pk_v rfl) (pl_cons (pk_v rfl) pl_nil))) rfl (is_number_sim value low high) (is_number_val value low high)) tr_B rfl)) (fun _ => (sy_at [some ((F eI) value), some ((F eI) low), some ((F eI) high)] (sy_raise (wk [false, false, false])))) (fun _ => (sy_at [some ((F eI) value), some ((F eI) low), some ((F eI) high)] (sy_fnend () rfl (wk [false, false, false]))))))
def is_result_P (value : (Int × Int × Int × Int × Int)) : P Bool :=
  (if ((!(is_number value.1 0 (200 - 1))) || (!(is_number value.2.1 0 (20 - 1)))) = true then
  .ok false
  else (if ((!(is_number value.2.2.1 0 (10000 - 1))) || ((!(is_number value.2.2.2.1 (-1) 1000000)) || (decide (value.2.2.2.1 = 0)))) = true then
  .ok false
  else .ok (is_number value.2.2.2.2 0 99)))
def is_result (value : (Int × Int × Int × Int × Int)) : Bool :=
  (if ((!(is_number value.1 0 (200 - 1))) || (!(is_number value.2.1 0 (20 - 1)))) = true then false else (if ((!(is_number value.2.2.1 0 (10000 - 1))) || ((!(is_number value.2.2.2.1 (-1) 1000000)) || (decide (value.2.2.2.1 = 0)))) = true then false else (is_number value.2.2.2.2 0 99)))
theorem is_result_val (value : (Int × Int × Int × Int × Int)) : is_result_P value = .ok (is_result value) := by
  unfold is_result_P is_result; (try simp only [ok_ite]); try rfl
theorem is_result_sim (value : (Int × Int × Int × Int × Int)) : SimD (is_result_sem [((F (eT5 eI eI eI eI eI)) value)]) (is_result_P value) (fun (r : Bool) => (F eB) r) (fun (r : Bool) => [some ((F (eT5 eI eI eI eI eI)) value)]) :=
  sim_of (pn := (fun (r : Bool) => [none, none, none, none, none, none])) 6 rfl (fun _ => rfl) (fun _ => rfl) (by
  unfold is_result_P is_result_b
  exact sy_at [some ((F (eT5 eI eI eI eI eI)) value), none, none, none, none, none] (sy_ifseq (sy_ifF (st_orF (st_notC (b := true) (st_vk (x := ()) (z := fun _ => true) (pk_isi (s := "tuple") (pk_v rfl) rfl (by decide)) tr_B rfl)) (st_bk (x := ()) (z := fun _ => false) (pk_2 (pk_n (pl_cons (pk_v rfl) pl_nil) rfl) pk_c (o_neI (a := 5) (b := 5) (by decide +kernel))) rfl rfl)) (sy_at [some ((F (eT5 eI eI eI eI eI)) value), none, none, none, none, none] (sy_nilseq (sy_seqp (sy_tgt (sx_k (x := ()) (v := fun _ => ((F (eT5 eI eI eI eI eI)) value)) (pk_v rfl) rfl) (fun _ => (d_F (e := (eT5 eI eI eI eI eI)) value)) (fun _ => (sg_tp (sgs_cons (sg_n (Nat.le_of_ble_eq_true rfl)) (sgs_cons (sg_n (Nat.le_of_ble_eq_true rfl)) (sgs_cons (sg_n (Nat.le_of_ble_eq_true rfl)) (sgs_cons (sg_n (Nat.le_of_ble_eq_true rfl)) (sgs_cons (sg_n (Nat.le_of_ble_eq_true rfl)) sgs_nil))))) rfl))) (sy_at [some ((F (eT5 eI eI eI eI eI)) value), some ((F eI) value.1), some ((F eI) value.2.1), some ((F eI) value.2.2.1), some ((F eI) value.2.2.2.1), some ((F eI) value.2.2.2.2)] (sy_ifseq (sy_ifp (st_or (a := (!(is_number value.1 0 (200 - 1)))) (b := (!(is_number value.2.1 0 (20 - 1)))) (st_not (b := fun _ => (is_number value.1 0 (200 - 1))) (st_vk (x := ()) (z := fun _ => (is_number value.1 0 (200 - 1))) (pk_callv (er := (F eB)) (r := is_number value.1 0 (200 - 1)) (pl_cons (pk_v rfl) (pl_cons pk_c (pl_cons (pk_2 pk_c pk_c o_sub) pl_nil))) rfl (is_number_sim value.1 0 (200 - 1)) (is_number_val value.1 0 (200 - 1))) tr_B rfl)) (st_not (b := fun _ => (is_number value.2.1 0 (20 - 1))) (st_vk (x := ()) (z := fun _ => (is_number value.2.1 0 (20 - 1))) (pk_callv (er := (F eB)) (r := is_number value.2.1 0 (20 - 1)) (pl_cons (pk_v rfl) (pl_cons pk_c (pl_cons (pk_2 pk_c pk_c o_sub) pl_nil))) rfl (is_number_sim value.2.1 0 (20 - 1)) (is_number_val value.2.1 0 (20 - 1))) tr_B rfl))) (fun _ => (sy_at [some ((F (eT5 eI eI eI eI eI)) value), some ((F eI) value.1), some ((F eI) value.2.1), some ((F eI) value.2.2.1), some ((F eI) value.2.2.2.1), some ((F eI) value.2.2.2.2)] (sy_retseq (sy_retp (r := false) (sx_k (x := ()) (v := fun _ => ((F eB) false)) pk_c rfl) rfl (wk [false, false, false, false, false, false]))))) (fun _ => (sy_at [some ((F (eT5 eI eI eI eI eI)) value), some ((F eI) value.1), some ((F eI) value.2.1), some ((F eI) value.2.2.1), some ((F eI) value.2.2.2.1), some ((F eI) value.2.2.2.2)] (sy_nilseq (sy_ifseq (sy_ifp (st_or (a := (!(is_number value.2.2.1 0 (10000 - 1)))) (b := ((!(is_number value.2.2.2.1 (-1) 1000000)) || (decide (value.2.2.2.1 = 0)))) (st_not (b := fun _ => (is_number value.2.2.1 0 (10000 - 1))) (st_vk (x := ()) (z := fun _ => (is_number value.2.2.1 0 (10000 - 1))) (pk_callv (er := (F eB)) (r := is_number value.2.2.1 0 (10000 - 1)) (pl_cons (pk_v rfl) (pl_cons pk_c (pl_cons (pk_2 pk_c pk_c o_sub) pl_nil))) rfl (is_number_sim value.2.2.1 0 (10000 - 1)) (is_number_val value.2.2.1 0 (10000 - 1))) tr_B rfl)) (st_or (a := (!(is_number value.2.2.2.1 (-1) 1000000))) (b := (decide (value.2.2.2.1 = 0))) (st_not (b := fun _ => (is_number value.2.2.2.1 (-1) 1000000)) (st_vk (x := ()) (z := fun _ => (is_number value.2.2.2.1 (-1) 1000000)) (pk_callv (er := (F eB)) (r := is_number value.2.2.2.1 (-1) 1000000) (pl_cons (pk_v rfl) (pl_cons (pk_1 pk_c o_neg) (pl_cons pk_c pl_nil))) rfl (is_number_sim value.2.2.2.1 (-1) 1000000) (is_number_val value.2.2.2.1 (-1) 1000000)) tr_B rfl)) (st_bk (x := ()) (z := fun _ => (decide (value.2.2.2.1 = 0))) (pk_2 (pk_v rfl) pk_c (o_eq (e := eI) (u := value.2.2.2.1) (v := 0) nI (by decide) (d_F (e := eI) value.2.2.2.1) (d_F (e := eI) 0))) rfl rfl))) (fun _ => (sy_at [some ((F (eT5 eI eI eI eI eI)) value), some ((F eI) value.1), some ((F eI) value.2.1), some ((F eI) value.2.2.1), some ((F eI) value.2.2.2.1), some ((F eI) value.2.2.2.2)] (sy_retseq (sy_retp (r := false) (sx_k (x := ()) (v := fun _ => ((F eB) false)) pk_c rfl) rfl (wk [false, false, false, false, false, false]))))) (fun _ => (sy_at [some ((F (eT5 eI eI eI eI eI)) value), some ((F eI) value.1), some ((F eI) value.2.1), some ((F eI) value.2.2.1), some ((F eI) value.2.2.2.1), some ((F eI) value.2.2.2.2)] (sy_nilseq (sy_retp (r := (is_number value.2.2.2.2 0 99)) (sx_k (x := ()) (v := fun _ => ((F eB) (is_number value.2.2.2.2 0 99))) (pk_callv (er := (F eB)) (r := is_number value.2.2.2.2 0 99) (pl_cons (pk_v rfl) (pl_cons pk_c (pl_cons pk_c pl_nil))) rfl (is_number_sim value.2.2.2.2 0 99) (is_number_val value.2.2.2.2 0 99)) rfl) rfl (wk [false, false, false, false, false, false])))))))))))))))))))
def check_results (rules : (Int × Int)) (results : (List (Int × Int × Int × Int × Int))) : P Unit :=
  P.bind (check_number rules.1 1 1000000) fun a1 =>
  P.bind (check_number rules.2 0 1000000) fun a2 =>
  (if (!((decide (1 ≤ (results.length : Int))) && (decide ((results.length : Int) ≤ 500)))) = true then
  .ex "BadArgument"
  else (if (!(results.filter fun i3 => (!(is_result i3))).isEmpty) = true then
  .ex "BadArgument"
  else (og (lenPO (results.map fun i4 => (i4.1, i4.2.1))) fun x5 =>
  if (!(decide (x5 = (results.length : Int)))) = true then
  .ex "BadArgument"
  else .ok ())))
theorem check_results_sim (rules : (Int × Int)) (results : (List (Int × Int × Int × Int × Int))) : SimD (check_results_sem [((F (eT2 eI eI)) rules), ((F (eL (eT5 eI eI eI eI eI))) results)]) (check_results rules results) (fun (r : Unit) => (F eU) r) (fun (r : Unit) => [some ((F (eT2 eI eI)) rules), some ((F (eL (eT5 eI eI eI eI eI))) results)]) :=
  sim_of (pn := (fun (r : Unit) => [none, none, none])) 3 rfl (fun _ => rfl) (fun _ => rfl) (by
  unfold check_results check_results_b check_results_c1 check_results_c2
  exact sy_at [some ((F (eT2 eI eI)) rules), some ((F (eL (eT5 eI eI eI eI eI))) results), none] (sy_ifseq (sy_ifF (st_orF (st_notC (b := true) (st_vk (x := ()) (z := fun _ => true) (pk_isi (s := "tuple") (pk_v rfl) rfl (by decide)) tr_B rfl)) (st_bk (x := ()) (z := fun _ => false) (pk_2 (pk_n (pl_cons (pk_v rfl) pl_nil) rfl) pk_c (o_neI (a := 2) (b := 2) (by decide +kernel))) rfl rfl)) (sy_at [some ((F (eT2 eI eI)) rules), some ((F (eL (eT5 eI eI eI eI eI))) results), none] (sy_nilseq (sy_seq (sy_expr (sx_callp (Γ3 := fun (a1 : Unit) => [some ((F (eT2 eI eI)) rules), some ((F (eL (eT5 eI eI eI eI eI))) results), none]) (sa_consr (z := fun _ => [.own ((F eI) rules.1), .own ((F eI) 1), .own ((F eI) 1000000)]) (sx_k (x := ()) (v := fun _ => ((F eI) rules.1)) (pk_2 (pk_v rfl) pk_c rfl) rfl) (sa_consr (z := fun _ => [.own ((F eI) 1), .own ((F eI) 1000000)]) (sx_k (x := ()) (v := fun _ => ((F eI) 1)) pk_c rfl) (sa_consr (z := fun _ => [.own ((F eI) 1000000)]) (sx_k (x := ()) (v := fun _ => ((F eI) 1000000)) pk_c rfl) sa_nil (fun _ => rfl)) (fun _ => rfl)) (fun _ => rfl)) rfl (check_number_sim rules.1 1 1000000) (wk [false, false, false]) (fun _ => rfl))) fun (a1 : Unit) => (sy_at [some ((F (eT2 eI eI)) rules), some ((F (eL (eT5 eI eI eI eI eI))) results), none] (sy_seq (sy_expr (sx_callp (Γ3 := fun (a2 : Unit) => [some ((F (eT2 eI eI)) rules), some ((F (eL (eT5 eI eI eI eI eI))) results), none]) (sa_consr (z := fun _ => [.own ((F eI) rules.2), .own ((F eI) 0), .own ((F eI) 1000000)]) (sx_k (x := ()) (v := fun _ => ((F eI) rules.2)) (pk_2 (pk_v rfl) pk_c rfl) rfl) (sa_consr (z := fun _ => [.own ((F eI) 0), .own ((F eI) 1000000)]) (sx_k (x := ()) (v := fun _ => ((F eI) 0)) pk_c rfl) (sa_consr (z := fun _ => [.own ((F eI) 1000000)]) (sx_k (x := ()) (v := fun _ => ((F eI) 1000000)) pk_c rfl) sa_nil (fun _ => rfl)) (fun _ => rfl)) (fun _ => rfl)) rfl (check_number_sim rules.2 0 1000000) (wk [false, false, false]) (fun _ => rfl))) fun (a2 : Unit) => (sy_at [some ((F (eT2 eI eI)) rules), some ((F (eL (eT5 eI eI eI eI eI))) results), none] (sy_ifseq (sy_ifp (st_orF (st_notC (b := true) (st_vk (x := ()) (z := fun _ => true) (pk_isi (s := "list") (pk_v rfl) rfl (by decide)) tr_B rfl)) (st_not (b := fun _ => ((decide (1 ≤ (results.length : Int))) && (decide ((results.length : Int) ≤ 500)))) (st_bk (x := ()) (z := fun _ => ((decide (1 ≤ (results.length : Int))) && (decide ((results.length : Int) ≤ 500)))) (pk_ch pk_c (pk_n (pl_cons (pk_v rfl) pl_nil) o_lenF) pk_c o_le o_le) rfl rfl))) (fun _ => (sy_at [some ((F (eT2 eI eI)) rules), some ((F (eL (eT5 eI eI eI eI eI))) results), none] (sy_raiseseq (sy_raise (wk [false, false, false]))))) (fun _ => (sy_at [some ((F (eT2 eI eI)) rules), some ((F (eL (eT5 eI eI eI eI eI))) results), none] (sy_nilseq (sy_ifseq (sy_ifp (st_v (b := fun _ => (!(results.filter fun (i3 : (Int × Int × Int × Int × Int)) => (!(is_result i3))).isEmpty)) (sx_lcf (xs := results) (enc := (eT5 eI eI eI eI eI)) (ve := (F (eT5 eI eI eI eI eI))) (cb := fun (i3 : (Int × Int × Int × Int × Int)) => (!(is_result i3))) (si_it (sx_k (x := ()) (v := fun _ => ((F (eL (eT5 eI eI eI eI eI))) results)) (pk_v rfl) rfl) (fun _ => (d_F (e := (eL (eT5 eI eI eI eI eI))) results)) (fun _ => rfl)) rfl (fun (i3 : (Int × Int × Int × Int × Int)) => (sg_n (Nat.le_of_ble_eq_true rfl))) (fun (i3 : (Int × Int × Int × Int × Int)) => (st_not (b := fun _ => (is_result i3)) (st_vk (x := ()) (z := fun _ => (is_result i3)) (pk_callv (er := (F eB)) (r := is_result i3) (pl_cons (pk_v rfl) pl_nil) rfl (is_result_sim i3) (is_result_val i3)) tr_B rfl))) (fun (i3 : (Int × Int × Int × Int × Int)) => (sx_k (x := ()) (v := fun _ => ((F (eT5 eI eI eI eI eI)) i3)) (pk_v rfl) rfl)) (fun _ => rfl)) (fun _ => (tr_O (e := (F (eT5 eI eI eI eI eI))) (x := (results.filter fun (i3 : (Int × Int × Int × Int × Int)) => (!(is_result i3))))))) (fun _ => (sy_at [some ((F (eT2 eI eI)) rules), some ((F (eL (eT5 eI eI eI eI eI))) results), none] (sy_raiseseq (sy_raise (wk [false, false, false]))))) (fun _ => (sy_at [some ((F (eT2 eI eI)) rules), some ((F (eL (eT5 eI eI eI eI eI))) results), none] (sy_nilseq (sy_og fun (x5 : Int) hx5 => (sy_ifp (st_b (b := fun _ => (!(decide (x5 = (results.length : Int))))) (sx_e2r (z := fun _ => ((F eB) (!(decide (x5 = (results.length : Int)))))) (sx_lenL (w := fun _ => ((F eI) x5)) (sx_lcm (xs := results) (enc := (eT5 eI eI eI eI eI)) (ve := (F (eT2 eI eI))) (y := fun (i4 : (Int × Int × Int × Int × Int)) => (i4.1, i4.2.1)) (si_it (sx_k (x := ()) (v := fun _ => ((F (eL (eT5 eI eI eI eI eI))) results)) (pk_v rfl) rfl) (fun _ => (d_F (e := (eL (eT5 eI eI eI eI eI))) results)) (fun _ => rfl)) rfl (fun (i4 : (Int × Int × Int × Int × Int)) => (sg_n (Nat.le_of_ble_eq_true rfl))) (fun (i4 : (Int × Int × Int × Int × Int)) => (sx_k (x := ()) (v := fun _ => ((F (eT2 eI eI)) (i4.1, i4.2.1))) (pk_tup (pl_cons (pk_2 (pk_v rfl) pk_c rfl) (pl_cons (pk_2 (pk_v rfl) pk_c rfl) pl_nil)) rfl (Nat.le_of_ble_eq_true rfl)) rfl)) (fun _ => rfl)) (fun _ => (o_lenP (al_O (e := (eT2 eI eI)) (results.map fun (i4 : (Int × Int × Int × Int × Int)) => (i4.1, i4.2.1))) hx5))) (sx_k (x := ()) (v := fun _ => ((F eI) (results.length : Int))) (pk_n (pl_cons (pk_v rfl) pl_nil) o_lenF) rfl) (fun _ => (o_ne (e := eI) (u := x5) (v := (results.length : Int)) nI (by decide) (d_F (e := eI) x5) (d_F (e := eI) (results.length : Int))))) (fun _ => rfl)) (fun _ => (sy_at [some ((F (eT2 eI eI)) rules), some ((F (eL (eT5 eI eI eI eI eI))) results), none] (sy_raise (wk [false, false, false])))) (fun _ => (sy_at [some ((F (eT2 eI eI)) rules), some ((F (eL (eT5 eI eI eI eI eI))) results), none] (sy_fnend () rfl (wk [false, false, false])))))))))))))))))))))))))
def full_of (rules : (Int × Int)) (result : (Int × Int × Int × Int × Int)) : P (Option Int) :=
  (P.bind (if ((!(decide (result.2.2.2.1 = (-1)))) && (decide (result.2.2.2.1 ≤ rules.1))) = true then P.bind (og (mulO rules.2 result.2.2.2.2) fun x1 => .ok x1) fun g2 => .ok (some (result.2.2.2.1 + g2)) else .ok none) fun p3 => .ok p3)
theorem full_of_sim (rules : (Int × Int)) (result : (Int × Int × Int × Int × Int)) : SimD (full_of_sem [((F (eT2 eI eI)) rules), ((F (eT5 eI eI eI eI eI)) result)]) (full_of rules result) (fun (r : (Option Int)) => (F (eO eI)) r) (fun (r : (Option Int)) => [some ((F (eT2 eI eI)) rules), some ((F (eT5 eI eI eI eI eI)) result)]) :=
  sim_of (pn := (fun (r : (Option Int)) => [none, none, none, none, none, none, none])) 7 rfl (fun _ => rfl) (fun _ => rfl) (by
  unfold full_of full_of_b
  exact sy_at [some ((F (eT2 eI eI)) rules), some ((F (eT5 eI eI eI eI eI)) result), none, none, none, none, none] (sy_seqp (sy_tgt (sx_k (x := ()) (v := fun _ => ((F (eT5 eI eI eI eI eI)) result)) (pk_v rfl) rfl) (fun _ => (d_F (e := (eT5 eI eI eI eI eI)) result)) (fun _ => (sg_tp (sgs_cons (sg_n (Nat.le_of_ble_eq_true rfl)) (sgs_cons (sg_n (Nat.le_of_ble_eq_true rfl)) (sgs_cons (sg_n (Nat.le_of_ble_eq_true rfl)) (sgs_cons (sg_n (Nat.le_of_ble_eq_true rfl)) (sgs_cons (sg_n (Nat.le_of_ble_eq_true rfl)) sgs_nil))))) rfl))) (sy_at [some ((F (eT2 eI eI)) rules), some ((F (eT5 eI eI eI eI eI)) result), some ((F eI) result.1), some ((F eI) result.2.1), some ((F eI) result.2.2.1), some ((F eI) result.2.2.2.1), some ((F eI) result.2.2.2.2)] (sy_ret (fun (p3 : (Option Int)) => p3) (sx_fz (sx_ifq (a := ((!(decide (result.2.2.2.1 = (-1)))) && (decide (result.2.2.2.1 ≤ rules.1)))) (st_and (a := (!(decide (result.2.2.2.1 = (-1))))) (b := (decide (result.2.2.2.1 ≤ rules.1))) (st_bk (x := ()) (z := fun _ => (!(decide (result.2.2.2.1 = (-1))))) (pk_2 (pk_v rfl) (pk_1 pk_c o_neg) (o_ne (e := eI) (u := result.2.2.2.1) (v := (-1)) nI (by decide) (d_F (e := eI) result.2.2.2.1) (d_F (e := eI) (-1)))) rfl rfl) (st_bk (x := ()) (z := fun _ => (decide (result.2.2.2.1 ≤ rules.1))) (pk_2 (pk_v rfl) (pk_2 (pk_v rfl) pk_c rfl) o_le) rfl rfl)) (fun _ => (sx_re (w := fun (p3 : (Option Int)) => ((F (eO eI)) p3)) (Γ3 := fun (p3 : (Option Int)) => [some ((F (eT2 eI eI)) rules), some ((F (eT5 eI eI eI eI eI)) result), some ((F eI) result.1), some ((F eI) result.2.1), some ((F eI) result.2.2.1), some ((F eI) result.2.2.2.1), some ((F eI) result.2.2.2.2)]) (fun (g2 : Int) => (some (result.2.2.2.1 + g2))) (sx_e2r (z := fun (g2 : Int) => ((F eI) (result.2.2.2.1 + g2))) (sx_k (x := ()) (v := fun _ => ((F eI) result.2.2.2.1)) (pk_v rfl) rfl) (sx_og fun (x1 : Int) hx1 => (sx_val (x := x1) (w := fun (g2 : Int) => ((F eI) g2)) (sx_e2r (z := fun _ => ((F eI) x1)) (sx_k (x := ()) (v := fun _ => ((F eI) rules.2)) (pk_2 (pk_v rfl) pk_c rfl) rfl) (sx_k (x := ()) (v := fun _ => ((F eI) result.2.2.2.2)) (pk_v rfl) rfl) (fun _ => (o_mul hx1))) rfl)) (fun (g2 : Int) => o_add)) (fun _ => rfl) (fun _ => (wk [true, true, true, true, true, true, true])))) (fun _ => (sx_rep (x := none) (w := fun (p3 : (Option Int)) => ((F (eO eI)) p3)) (Γ3 := fun (p3 : (Option Int)) => [some ((F (eT2 eI eI)) rules), some ((F (eT5 eI eI eI eI eI)) result), some ((F eI) result.1), some ((F eI) result.2.1), some ((F eI) result.2.2.1), some ((F eI) result.2.2.2.1), some ((F eI) result.2.2.2.2)]) (sx_k (x := ()) (v := fun _ => ((F eU) ())) pk_c rfl) rfl (wk [true, true, true, true, true, true, true])))) (fun (p3 : (Option Int)) => (d_F (e := (eO eI)) p3))) (fun _ => rfl) (fun _ => (wk [false, false, false, false, false, false, false]))))))
def full_times (rules : (Int × Int)) (results : (List (Int × Int × Int × Int × Int))) : P (List (Option Int)) :=
  P.bind (check_results rules results) fun a1 =>
  (P.bind (noex (mapS results (() : Unit) fun i6 s5 => noex (P.bind (og (full_of rules i6).val fun c7 => .ok c7) fun g8 => .ok (g8, ())))) fun r9 => .ok r9.1)
theorem full_times_sim (rules : (Int × Int)) (results : (List (Int × Int × Int × Int × Int))) : SimD (full_times_sem [((F (eT2 eI eI)) rules), ((F (eL (eT5 eI eI eI eI eI))) results)]) (full_times rules results) (fun (r : (List (Option Int))) => (F (eL (eO eI))) r) (fun (r : (List (Option Int))) => [some ((F (eT2 eI eI)) rules), some ((F (eL (eT5 eI eI eI eI eI))) results)]) :=
  sim_of (pn := (fun (r : (List (Option Int))) => [none, none, none])) 3 rfl (fun _ => rfl) (fun _ => rfl) (by
  unfold full_times full_times_b full_times_c1
  exact sy_at [some ((F (eT2 eI eI)) rules), some ((F (eL (eT5 eI eI eI eI eI))) results), none] (sy_seq (sy_expr (sx_callp (Γ3 := fun (a1 : Unit) => [some ((F (eT2 eI eI)) rules), some ((F (eL (eT5 eI eI eI eI eI))) results), none]) (sa_consr (z := fun _ => [.own ((F (eT2 eI eI)) rules), .own ((F (eL (eT5 eI eI eI eI eI))) results)]) (sx_k (x := ()) (v := fun _ => ((F (eT2 eI eI)) rules)) (pk_v rfl) rfl) (sa_consr (z := fun _ => [.own ((F (eL (eT5 eI eI eI eI eI))) results)]) (sx_k (x := ()) (v := fun _ => ((F (eL (eT5 eI eI eI eI eI))) results)) (pk_v rfl) rfl) sa_nil (fun _ => rfl)) (fun _ => rfl)) rfl (check_results_sim rules results) (wk [false, false, false]) (fun _ => rfl))) fun (a1 : Unit) => (sy_at [some ((F (eT2 eI eI)) rules), some ((F (eL (eT5 eI eI eI eI eI))) results), none] (sy_ret (fun (r9 : ((List (Option Int)) × Unit)) => r9.1) (sx_fz (sx_mapSp (xs := results) (enc := (eT5 eI eI eI eI eI)) (st := (() : Unit)) (ve := (F (eO eI))) (te := fun (i6 : (Int × Int × Int × Int × Int)) (s5 : Unit) => (og (full_of rules i6).val fun (c7 : (Option Int)) => .ok c7)) (Γs := fun (s5 : Unit) => [some ((F (eT2 eI eI)) rules), some ((F (eL (eT5 eI eI eI eI eI))) results), none]) (fun (i6 : (Int × Int × Int × Int × Int)) (s5 : Unit) (g8 : (Option Int)) => g8) (fun (i6 : (Int × Int × Int × Int × Int)) (s5 : Unit) (g8 : (Option Int)) => ()) (si_it (sx_k (x := ()) (v := fun _ => ((F (eL (eT5 eI eI eI eI eI))) results)) (pk_v rfl) rfl) (fun _ => (d_F (e := (eL (eT5 eI eI eI eI eI))) results)) (fun _ => rfl)) rfl (wk [true, true, false]) (fun (i6 : (Int × Int × Int × Int × Int)) (s5 : Unit) => (sg_n (Nat.le_of_ble_eq_true rfl))) (fun (i6 : (Int × Int × Int × Int × Int)) (s5 : Unit) => (sx_og fun (c7 : (Option Int)) hc7 => (sx_k (x := c7) (v := fun (g8 : (Option Int)) => ((F (eO eI)) g8)) (pk_call (er := (F (eO eI))) (r := c7) (pl_cons (pk_v rfl) (pl_cons (pk_v rfl) pl_nil)) rfl (full_of_sim rules i6) hc7) rfl))) (fun _ _ _ => rfl) (fun _ _ => (wk [true, true, false])) (fun _ _ _ => (wk [true, true, false]))) (fun (r9 : ((List (Option Int)) × Unit)) => (d_O (eT := (F (eO eI))) (e := (eO eI)) d_F r9.1))) (fun _ => rfl) (fun _ => (wk [false, false, false]))))))
def outs (rules : (Int × Int)) (results : (List (Int × Int × Int × Int × Int))) : P (List (Int × Int × Int × (Option Int))) :=
  (P.bind (foldP results ([] : (List (Int × Int × Int × (Option Int)))) fun one_2 s1 =>
  (og (full_of rules one_2).val fun c3 =>
  (if c3.isSome = true then
  (og (szO s1) fun found_4 =>
  .ok (found_4 ++ [(one_2.1, one_2.2.1, one_2.2.2.1, c3)]))
  else .ok s1))) fun s5 =>
  .ok s5)
theorem outs_sim (rules : (Int × Int)) (results : (List (Int × Int × Int × Int × Int))) : SimD (outs_sem [((F (eT2 eI eI)) rules), ((F (eL (eT5 eI eI eI eI eI))) results)]) (outs rules results) (fun (r : (List (Int × Int × Int × (Option Int)))) => (F (eL (eT4 eI eI eI (eO eI)))) r) (fun (r : (List (Int × Int × Int × (Option Int)))) => [some ((F (eT2 eI eI)) rules), some ((F (eL (eT5 eI eI eI eI eI))) results)]) :=
  sim_of (pn := (fun (r : (List (Int × Int × Int × (Option Int)))) => [none, none, none, none, none])) 5 rfl (fun _ => rfl) (fun _ => rfl) (by
  unfold outs outs_b outs_l2 outs_b1
  exact sy_at [some ((F (eT2 eI eI)) rules), some ((F (eL (eT5 eI eI eI eI eI))) results), none, none, none] (sy_seqp (sy_set (sx_lst sa_nil (fun _ => rfl) (fun _ => Nat.le_of_ble_eq_true rfl)) (fun _ => Nat.le_of_ble_eq_true rfl)) (sy_at [some ((F (eT2 eI eI)) rules), some ((F (eL (eT5 eI eI eI eI eI))) results), some ((OL (F (eT4 eI eI eI (eO eI)))) []), none, none] (sy_seq (sy_forp (xs := results) (st := ([] : (List (Int × Int × Int × (Option Int))))) (enc := (eT5 eI eI eI eI eI)) (Γo := fun (s1 : (List (Int × Int × Int × (Option Int)))) => [some ((F (eT2 eI eI)) rules), some ((F (eL (eT5 eI eI eI eI eI))) results), some ((OL (F (eT4 eI eI eI (eO eI)))) s1), none, none]) (si_it (sx_k (x := ()) (v := fun _ => ((F (eL (eT5 eI eI eI eI eI))) results)) (pk_v rfl) rfl) (fun _ => (d_F (e := (eL (eT5 eI eI eI eI eI))) results)) (fun _ => rfl)) rfl (wk [true, true, true, false, false]) (fun (one_2 : (Int × Int × Int × Int × Int)) (s1 : (List (Int × Int × Int × (Option Int)))) => (sg_n (Nat.le_of_ble_eq_true rfl))) (fun (one_2 : (Int × Int × Int × Int × Int)) (s1 : (List (Int × Int × Int × (Option Int)))) => (sy_killP (sy_at [some ((F (eT2 eI eI)) rules), some ((F (eL (eT5 eI eI eI eI eI))) results), some ((OL (F (eT4 eI eI eI (eO eI)))) s1), some ((F (eT5 eI eI eI eI eI)) one_2), none] (sy_og fun (c3 : (Option Int)) hc3 => (sy_seqp (sy_set (sx_k (x := ()) (v := fun _ => ((F (eO eI)) c3)) (pk_call (er := (F (eO eI))) (r := c3) (pl_cons (pk_v rfl) (pl_cons (pk_v rfl) pl_nil)) rfl (full_of_sim rules one_2) hc3) rfl) (fun _ => Nat.le_of_ble_eq_true rfl)) (sy_at [some ((F (eT2 eI eI)) rules), some ((F (eL (eT5 eI eI eI eI eI))) results), some ((OL (F (eT4 eI eI eI (eO eI)))) s1), some ((F (eT5 eI eI eI eI eI)) one_2), some ((F (eO eI)) c3)] (sy_ifp (st_bk (x := ()) (z := fun _ => c3.isSome) (pk_2 (pk_v rfl) pk_c (o_isnN (isN_O (fun _ h => by cases h) _))) rfl rfl) (fun _ => (sy_at [some ((F (eT2 eI eI)) rules), some ((F (eL (eT5 eI eI eI eI eI))) results), some ((OL (F (eT4 eI eI eI (eO eI)))) s1), some ((F (eT5 eI eI eI eI eI)) one_2), some ((F (eO eI)) c3)] (sy_endseq (sy_og fun (found_4 : (List (Int × Int × Int × (Option Int)))) hfound_4 => (sy_seqp (sy_app (y := (one_2.1, one_2.2.1, one_2.2.2.1, c3)) rfl (sx_k (x := ()) (v := fun _ => ((F (eT4 eI eI eI (eO eI))) (one_2.1, one_2.2.1, one_2.2.2.1, c3))) (pk_tup (pl_cons (pk_2 (pk_v rfl) pk_c rfl) (pl_cons (pk_2 (pk_v rfl) pk_c rfl) (pl_cons (pk_2 (pk_v rfl) pk_c rfl) (pl_cons (pk_v rfl) pl_nil)))) rfl (Nat.le_of_ble_eq_true rfl)) rfl) rfl hfound_4) (sy_at [some ((F (eT2 eI eI)) rules), some ((F (eL (eT5 eI eI eI eI eI))) results), some ((OL (F (eT4 eI eI eI (eO eI)))) (found_4 ++ [(one_2.1, one_2.2.1, one_2.2.2.1, c3)])), some ((F (eT5 eI eI eI eI eI)) one_2), some ((F (eO eI)) c3)] (sy_lpend (found_4 ++ [(one_2.1, one_2.2.1, one_2.2.2.1, c3)]) (wk [true, true, true, false, false])))))))) (fun _ => (sy_at [some ((F (eT2 eI eI)) rules), some ((F (eL (eT5 eI eI eI eI eI))) results), some ((OL (F (eT4 eI eI eI (eO eI)))) s1), some ((F (eT5 eI eI eI eI eI)) one_2), some ((F (eO eI)) c3)] (sy_lpend s1 (wk [true, true, true, false, false]))))))))) (fun _ => rfl)))) fun (s5 : (List (Int × Int × Int × (Option Int)))) => (sy_at [some ((F (eT2 eI eI)) rules), some ((F (eL (eT5 eI eI eI eI eI))) results), some ((OL (F (eT4 eI eI eI (eO eI)))) s5), none, none] (sy_retp (r := s5) (sx_fz (sx_mv rfl) (fun _ => (d_O (eT := (F (eT4 eI eI eI (eO eI)))) (e := (eT4 eI eI eI (eO eI))) d_F s5))) rfl (wk [false, false, false, false, false])))))))
def ranked (rows : (List ((Option Int) × Int))) : P (List (D × (Option Int) × Int)) :=
  (og (sortO (eT2 (eO eI) eI) rows) fun l1 =>
  P.bind (foldP l1 ([] : (List (D × (Option Int) × Int))) fun x3 s2 =>
  P.bind (.ok (((s2.length : Int) + 1) : Int)) fun rank_4 =>
  P.bind ((P.bind (if (!s2.isEmpty) = true then P.bind (og (ixO s2 (-1)) fun x5 => .ok x5) fun g6 => .ok (decide (g6.2.1 = x3.1)) else .ok false) fun p7 => if p7 = true then
  (og (ixO s2 (-1)) fun x8 =>
  .ok x8.1)
  else .ok (eI rank_4))) fun j9 =>
  (og (szO s2) fun found_10 =>
  .ok (found_10 ++ [(j9, x3.1, x3.2)]))) fun s11 =>
  .ok s11)
theorem ranked_sim (rows : (List ((Option Int) × Int))) : SimD (ranked_sem [((F (eL (eT2 (eO eI) eI))) rows)]) (ranked rows) (fun (r : (List (D × (Option Int) × Int))) => (F (eL (eT3 eD (eO eI) eI))) r) (fun (r : (List (D × (Option Int) × Int))) => [some ((F (eL (eT2 (eO eI) eI))) rows)]) :=
  sim_of (pn := (fun (r : (List (D × (Option Int) × Int))) => [none, none, none, none, none])) 5 rfl (fun _ => rfl) (fun _ => rfl) (by
  unfold ranked ranked_b ranked_l2 ranked_b1
  exact sy_at [some ((F (eL (eT2 (eO eI) eI))) rows), none, none, none, none] (sy_seqp (sy_set (sx_lst sa_nil (fun _ => rfl) (fun _ => Nat.le_of_ble_eq_true rfl)) (fun _ => Nat.le_of_ble_eq_true rfl)) (sy_at [some ((F (eL (eT2 (eO eI) eI))) rows), some ((OL (F (eT3 eD (eO eI) eI))) []), none, none, none] (sy_og fun (l1 : (List ((Option Int) × Int))) hl1 => (sy_seq (sy_forp (xs := l1) (st := ([] : (List (D × (Option Int) × Int)))) (enc := (eT2 (eO eI) eI)) (Γo := fun (s2 : (List (D × (Option Int) × Int))) => [some ((F (eL (eT2 (eO eI) eI))) rows), some ((OL (F (eT3 eD (eO eI) eI))) s2), none, none, none]) (si_it (sx_n (w := fun _ => ((OL (F (eT2 (eO eI) eI))) l1)) (sa_consr (z := fun _ => [.own ((F (eL (eT2 (eO eI) eI))) rows)]) (sx_k (x := ()) (v := fun _ => ((F (eL (eT2 (eO eI) eI))) rows)) (pk_v rfl) rfl) sa_nil (fun _ => rfl)) (fun _ => rfl) (fun _ => (o_sortO (e := (eT2 (eO eI) eI)) (al_F (e := (eT2 (eO eI) eI)) rows) hl1))) (fun _ => (d_O (eT := (F (eT2 (eO eI) eI))) (e := (eT2 (eO eI) eI)) d_F l1)) (fun _ => rfl)) rfl (wk [true, true, false, false, false]) (fun (x3 : ((Option Int) × Int)) (s2 : (List (D × (Option Int) × Int))) => (sg_tp (sgs_cons (sg_n (Nat.le_of_ble_eq_true rfl)) (sgs_cons (sg_n (Nat.le_of_ble_eq_true rfl)) sgs_nil)) rfl)) (fun (x3 : ((Option Int) × Int)) (s2 : (List (D × (Option Int) × Int))) => (sy_killP (sy_at [some ((F (eL (eT2 (eO eI) eI))) rows), some ((OL (F (eT3 eD (eO eI) eI))) s2), some ((F (eO eI)) x3.1), some ((F eI) x3.2), none] (sy_seq (sy_set (sx_val (x := (((s2.length : Int) + 1) : Int)) (w := fun (rank_4 : Int) => (F eI) rank_4) (sx_fz (sx_e2r (z := fun _ => ((F eI) ((s2.length : Int) + 1))) (sx_k (x := ()) (v := fun _ => ((F eI) (s2.length : Int))) (pk_n (pl_cons (pk_v rfl) pl_nil) (o_lenO (e := (F (eT3 eD (eO eI) eI))) (x := s2))) rfl) (sx_k (x := ()) (v := fun _ => ((F eI) 1)) pk_c rfl) (fun _ => o_add)) (fun _ => (d_F (e := eI) ((s2.length : Int) + 1)))) rfl) (fun _ => Nat.le_of_ble_eq_true rfl)) fun (rank_4 : Int) => (sy_at [some ((F (eL (eT2 (eO eI) eI))) rows), some ((OL (F (eT3 eD (eO eI) eI))) s2), some ((F (eO eI)) x3.1), some ((F eI) x3.2), some ((F eI) rank_4)] (sy_seq (sy_atP (nxO fun (j9 : D) => [some ((F (eL (eT2 (eO eI) eI))) rows), some ((OL (F (eT3 eD (eO eI) eI))) s2), some ((F (eO eI)) x3.1), some ((F eI) x3.2), some ((F eD) j9)]) (sy_if (a := fun (p7 : Bool) => p7) (st_andMp (a := (!s2.isEmpty)) (z := fun (p7 : Bool) => p7) (Γ3 := fun (p7 : Bool) => [some ((F (eL (eT2 (eO eI) eI))) rows), some ((OL (F (eT3 eD (eO eI) eI))) s2), some ((F (eO eI)) x3.1), some ((F eI) x3.2), some ((F eI) rank_4)]) false (st_vk (x := ()) (z := fun _ => (!s2.isEmpty)) (pk_v rfl) (tr_O (e := (F (eT3 eD (eO eI) eI))) (x := s2)) rfl) (fun _ => (sx_re (w := fun (p7 : Bool) => p7) (Γ3 := fun (p7 : Bool) => [some ((F (eL (eT2 (eO eI) eI))) rows), some ((OL (F (eT3 eD (eO eI) eI))) s2), some ((F (eO eI)) x3.1), some ((F eI) x3.2), some ((F eI) rank_4)]) (fun (g6 : (D × (Option Int) × Int)) => (decide (g6.2.1 = x3.1))) (sx_og fun (x5 : (D × (Option Int) × Int)) hx5 => (st_bk (x := x5) (z := fun (g6 : (D × (Option Int) × Int)) => (decide (g6.2.1 = x3.1))) (pk_2 (pk_2 (pk_2 (pk_v rfl) (pk_1 pk_c o_neg) (o_ixO (e := (F (eT3 eD (eO eI) eI))) (x := s2) hx5)) pk_c rfl) (pk_v rfl) (o_eq (e := (eO eI)) (u := x5.2.1) (v := x3.1) (nO nI (fun _ h => by cases h) (fun _ => by simp [PyData.eqv]) (fun _ => by simp [PyData.eqv]) (by decide)) (by decide) (d_F (e := (eO eI)) x5.2.1) (d_F (e := (eO eI)) x3.1))) rfl rfl)) (fun _ => rfl) (fun _ => (wk [true, true, true, true, true])))) rfl (wk [true, true, true, true, true])) (fun (p7 : Bool) _ => (sy_at [some ((F (eL (eT2 (eO eI) eI))) rows), some ((OL (F (eT3 eD (eO eI) eI))) s2), some ((F (eO eI)) x3.1), some ((F eI) x3.2), some ((F eI) rank_4)] (sy_endseq (sy_og fun (x8 : (D × (Option Int) × Int)) hx8 => (sy_seqp (sy_set (sx_k (x := ()) (v := fun _ => ((F eD) x8.1)) (pk_2 (pk_2 (pk_v rfl) (pk_1 pk_c o_neg) (o_ixO (e := (F (eT3 eD (eO eI) eI))) (x := s2) hx8)) pk_c rfl) rfl) (fun _ => Nat.le_of_ble_eq_true rfl)) (sy_at [some ((F (eL (eT2 (eO eI) eI))) rows), some ((OL (F (eT3 eD (eO eI) eI))) s2), some ((F (eO eI)) x3.1), some ((F eI) x3.2), some ((F eD) x8.1)] (sy_nxend x8.1 (wk [true, true, true, true, true])))))))) (fun (p7 : Bool) _ => (sy_at [some ((F (eL (eT2 (eO eI) eI))) rows), some ((OL (F (eT3 eD (eO eI) eI))) s2), some ((F (eO eI)) x3.1), some ((F eI) x3.2), some ((F eI) rank_4)] (sy_nxend (eI rank_4) (wk [true, true, true, true, true])))))) fun (j9 : D) => (sy_at [some ((F (eL (eT2 (eO eI) eI))) rows), some ((OL (F (eT3 eD (eO eI) eI))) s2), some ((F (eO eI)) x3.1), some ((F eI) x3.2), some ((F eD) j9)] (sy_endseq (sy_og fun (found_10 : (List (D × (Option Int) × Int))) hfound_10 => (sy_seqp (sy_app (y := (j9, x3.1, x3.2)) rfl (sx_k (x := ()) (v := fun _ => ((F (eT3 eD (eO eI) eI)) (j9, x3.1, x3.2))) (pk_tup (pl_cons (pk_v rfl) (pl_cons (pk_v rfl) (pl_cons (pk_v rfl) pl_nil))) rfl (Nat.le_of_ble_eq_true rfl)) rfl) rfl hfound_10) (sy_at [some ((F (eL (eT2 (eO eI) eI))) rows), some ((OL (F (eT3 eD (eO eI) eI))) (found_10 ++ [(j9, x3.1, x3.2)])), some ((F (eO eI)) x3.1), some ((F eI) x3.2), some ((F eD) j9)] (sy_lpend (found_10 ++ [(j9, x3.1, x3.2)]) (wk [true, true, false, false, false]))))))))))) (fun _ => rfl)))) fun (s11 : (List (D × (Option Int) × Int))) => (sy_at [some ((F (eL (eT2 (eO eI) eI))) rows), some ((OL (F (eT3 eD (eO eI) eI))) s11), none, none, none] (sy_retp (r := s11) (sx_fz (sx_mv rfl) (fun _ => (d_O (eT := (F (eT3 eD (eO eI) eI))) (e := (eT3 eD (eO eI) eI)) d_F s11))) rfl (wk [false, false, false, false, false]))))))))
def ranking (rules : (Int × Int)) (results : (List (Int × Int × Int × Int × Int))) (house : Int) : P (List (D × Int × (Option Int))) :=
  P.bind (check_results rules results) fun a1 =>
  P.bind (check_number house 0 (20 - 1)) fun a2 =>
  (og (outs rules results).val fun c3 =>
  P.bind (.ok (((c3.filter fun i4 => (decide (i4.2.1 = house))).map fun i4 => (i4.2.2.2, i4.1)) : (List ((Option Int) × Int)))) fun rows_5 =>
  P.bind (.ok ((rows_5.map fun i6 => i6.2) : (List Int))) fun there_7 =>
  P.bind (.ok ((sortI ((results.filter fun i8 => ((decide (i8.2.1 = house)) && (!(decide (i8.1 ∈ there_7))))).map fun i8 => i8.1)) : (List Int))) fun others_9 =>
  (og (ranked rows_5).val fun c10 =>
  og (catO (c10.map fun i11 => (i11.1, i11.2.2, i11.2.1)) ((others_9.map fun i12 => ((), i12, ())).map fun y13 => ((eU y13.1), y13.2.1, none))) fun l14 =>
  .ok l14))
theorem ranking_sim (rules : (Int × Int)) (results : (List (Int × Int × Int × Int × Int))) (house : Int) : SimD (ranking_sem [((F (eT2 eI eI)) rules), ((F (eL (eT5 eI eI eI eI eI))) results), ((F eI) house)]) (ranking rules results house) (fun (r : (List (D × Int × (Option Int)))) => (F (eL (eT3 eD eI (eO eI)))) r) (fun (r : (List (D × Int × (Option Int)))) => [some ((F (eT2 eI eI)) rules), some ((F (eL (eT5 eI eI eI eI eI))) results), some ((F eI) house)]) :=
  sim_of (pn := (fun (r : (List (D × Int × (Option Int)))) => [none, none, none, none, none, none, none, none, none, none, none])) 11 rfl (fun _ => rfl) (fun _ => rfl) (by
  unfold ranking ranking_b ranking_c1 ranking_c3 ranking_c4 ranking_c5 ranking_c6
  exact sy_at [some ((F (eT2 eI eI)) rules), some ((F (eL (eT5 eI eI eI eI eI))) results), some ((F eI) house), none, none, none, none, none, none, none, none] (sy_seq (sy_expr (sx_callp (Γ3 := fun (a1 : Unit) => [some ((F (eT2 eI eI)) rules), some ((F (eL (eT5 eI eI eI eI eI))) results), some ((F eI) house), none, none, none, none, none, none, none, none]) (sa_consr (z := fun _ => [.own ((F (eT2 eI eI)) rules), .own ((F (eL (eT5 eI eI eI eI eI))) results)]) (sx_k (x := ()) (v := fun _ => ((F (eT2 eI eI)) rules)) (pk_v rfl) rfl) (sa_consr (z := fun _ => [.own ((F (eL (eT5 eI eI eI eI eI))) results)]) (sx_k (x := ()) (v := fun _ => ((F (eL (eT5 eI eI eI eI eI))) results)) (pk_v rfl) rfl) sa_nil (fun _ => rfl)) (fun _ => rfl)) rfl (check_results_sim rules results) (wk [false, false, false, false, false, false, false, false, false, false, false]) (fun _ => rfl))) fun (a1 : Unit) => (sy_at [some ((F (eT2 eI eI)) rules), some ((F (eL (eT5 eI eI eI eI eI))) results), some ((F eI) house), none, none, none, none, none, none, none, none] (sy_seq (sy_expr (sx_callp (Γ3 := fun (a2 : Unit) => [some ((F (eT2 eI eI)) rules), some ((F (eL (eT5 eI eI eI eI eI))) results), some ((F eI) house), none, none, none, none, none, none, none, none]) (sa_consr (z := fun _ => [.own ((F eI) house), .own ((F eI) 0), .own ((F eI) (20 - 1))]) (sx_k (x := ()) (v := fun _ => ((F eI) house)) (pk_v rfl) rfl) (sa_consr (z := fun _ => [.own ((F eI) 0), .own ((F eI) (20 - 1))]) (sx_k (x := ()) (v := fun _ => ((F eI) 0)) pk_c rfl) (sa_consr (z := fun _ => [.own ((F eI) (20 - 1))]) (sx_k (x := ()) (v := fun _ => ((F eI) (20 - 1))) (pk_2 pk_c pk_c o_sub) rfl) sa_nil (fun _ => rfl)) (fun _ => rfl)) (fun _ => rfl)) rfl (check_number_sim house 0 (20 - 1)) (wk [false, false, false, false, false, false, false, false, false, false, false]) (fun _ => rfl))) fun (a2 : Unit) => (sy_at [some ((F (eT2 eI eI)) rules), some ((F (eL (eT5 eI eI eI eI eI))) results), some ((F eI) house), none, none, none, none, none, none, none, none] (sy_og fun (c3 : (List (Int × Int × Int × (Option Int)))) hc3 => (sy_seq (sy_set (sx_val (x := (((c3.filter fun (i4 : (Int × Int × Int × (Option Int))) => (decide (i4.2.1 = house))).map fun (i4 : (Int × Int × Int × (Option Int))) => (i4.2.2.2, i4.1)) : (List ((Option Int) × Int)))) (w := fun (rows_5 : (List ((Option Int) × Int))) => (F (eL (eT2 (eO eI) eI))) rows_5) (sx_fz (sx_lcp (xs := c3) (enc := (eT4 eI eI eI (eO eI))) (ve := (F (eT2 (eO eI) eI))) (cb := fun (i4 : (Int × Int × Int × (Option Int))) => (decide (i4.2.1 = house))) (y := fun (i4 : (Int × Int × Int × (Option Int))) => (i4.2.2.2, i4.1)) (si_it (sx_k (x := ()) (v := fun _ => ((F (eL (eT4 eI eI eI (eO eI)))) c3)) (pk_call (er := (F (eL (eT4 eI eI eI (eO eI))))) (r := c3) (pl_cons (pk_v rfl) (pl_cons (pk_v rfl) pl_nil)) rfl (outs_sim rules results) hc3) rfl) (fun _ => (d_F (e := (eL (eT4 eI eI eI (eO eI)))) c3)) (fun _ => rfl)) rfl (fun (i4 : (Int × Int × Int × (Option Int))) => (sg_n (Nat.le_of_ble_eq_true rfl))) (fun (i4 : (Int × Int × Int × (Option Int))) => (st_bk (x := ()) (z := fun _ => (decide (i4.2.1 = house))) (pk_2 (pk_2 (pk_v rfl) pk_c rfl) (pk_v rfl) (o_eq (e := eI) (u := i4.2.1) (v := house) nI (by decide) (d_F (e := eI) i4.2.1) (d_F (e := eI) house))) rfl rfl)) (fun (i4 : (Int × Int × Int × (Option Int))) => (sx_k (x := ()) (v := fun _ => ((F (eT2 (eO eI) eI)) (i4.2.2.2, i4.1))) (pk_tup (pl_cons (pk_2 (pk_v rfl) pk_c rfl) (pl_cons (pk_2 (pk_v rfl) pk_c rfl) pl_nil)) rfl (Nat.le_of_ble_eq_true rfl)) rfl)) (fun _ => rfl)) (fun _ => (d_O (eT := (F (eT2 (eO eI) eI))) (e := (eT2 (eO eI) eI)) d_F ((c3.filter fun (i4 : (Int × Int × Int × (Option Int))) => (decide (i4.2.1 = house))).map fun (i4 : (Int × Int × Int × (Option Int))) => (i4.2.2.2, i4.1))))) rfl) (fun _ => Nat.le_of_ble_eq_true rfl)) fun (rows_5 : (List ((Option Int) × Int))) => (sy_at [some ((F (eT2 eI eI)) rules), some ((F (eL (eT5 eI eI eI eI eI))) results), some ((F eI) house), some ((F (eL (eT2 (eO eI) eI))) rows_5), none, none, none, none, none, none, none] (sy_seq (sy_set (sx_val (x := ((rows_5.map fun (i6 : ((Option Int) × Int)) => i6.2) : (List Int))) (w := fun (there_7 : (List Int)) => (F (eL eI)) there_7) (sx_fz (sx_lcm (xs := rows_5) (enc := (eT2 (eO eI) eI)) (ve := (F eI)) (y := fun (i6 : ((Option Int) × Int)) => i6.2) (si_it (sx_k (x := ()) (v := fun _ => ((F (eL (eT2 (eO eI) eI))) rows_5)) (pk_v rfl) rfl) (fun _ => (d_F (e := (eL (eT2 (eO eI) eI))) rows_5)) (fun _ => rfl)) rfl (fun (i6 : ((Option Int) × Int)) => (sg_n (Nat.le_of_ble_eq_true rfl))) (fun (i6 : ((Option Int) × Int)) => (sx_k (x := ()) (v := fun _ => ((F eI) i6.2)) (pk_2 (pk_v rfl) pk_c rfl) rfl)) (fun _ => rfl)) (fun _ => (d_O (eT := (F eI)) (e := eI) d_F (rows_5.map fun (i6 : ((Option Int) × Int)) => i6.2)))) rfl) (fun _ => Nat.le_of_ble_eq_true rfl)) fun (there_7 : (List Int)) => (sy_at [some ((F (eT2 eI eI)) rules), some ((F (eL (eT5 eI eI eI eI eI))) results), some ((F eI) house), some ((F (eL (eT2 (eO eI) eI))) rows_5), some ((F (eL eI)) there_7), none, none, none, none, none, none] (sy_seq (sy_set (sx_val (x := ((sortI ((results.filter fun (i8 : (Int × Int × Int × Int × Int)) => ((decide (i8.2.1 = house)) && (!(decide (i8.1 ∈ there_7))))).map fun (i8 : (Int × Int × Int × Int × Int)) => i8.1)) : (List Int))) (w := fun (others_9 : (List Int)) => (F (eL eI)) others_9) (sx_fz (sx_n (w := fun _ => ((OL (F eI)) (sortI ((results.filter fun (i8 : (Int × Int × Int × Int × Int)) => ((decide (i8.2.1 = house)) && (!(decide (i8.1 ∈ there_7))))).map fun (i8 : (Int × Int × Int × Int × Int)) => i8.1)))) (sa_consr (z := fun _ => [.own ((OL (F eI)) ((results.filter fun (i8 : (Int × Int × Int × Int × Int)) => ((decide (i8.2.1 = house)) && (!(decide (i8.1 ∈ there_7))))).map fun (i8 : (Int × Int × Int × Int × Int)) => i8.1))]) (sx_lcp (xs := results) (enc := (eT5 eI eI eI eI eI)) (ve := (F eI)) (cb := fun (i8 : (Int × Int × Int × Int × Int)) => ((decide (i8.2.1 = house)) && (!(decide (i8.1 ∈ there_7))))) (y := fun (i8 : (Int × Int × Int × Int × Int)) => i8.1) (si_it (sx_k (x := ()) (v := fun _ => ((F (eL (eT5 eI eI eI eI eI))) results)) (pk_v rfl) rfl) (fun _ => (d_F (e := (eL (eT5 eI eI eI eI eI))) results)) (fun _ => rfl)) rfl (fun (i8 : (Int × Int × Int × Int × Int)) => (sg_n (Nat.le_of_ble_eq_true rfl))) (fun (i8 : (Int × Int × Int × Int × Int)) => (st_and (a := (decide (i8.2.1 = house))) (b := (!(decide (i8.1 ∈ there_7)))) (st_bk (x := ()) (z := fun _ => (decide (i8.2.1 = house))) (pk_2 (pk_2 (pk_v rfl) pk_c rfl) (pk_v rfl) (o_eq (e := eI) (u := i8.2.1) (v := house) nI (by decide) (d_F (e := eI) i8.2.1) (d_F (e := eI) house))) rfl rfl) (st_bk (x := ()) (z := fun _ => (!(decide (i8.1 ∈ there_7)))) (pk_2 (pk_2 (pk_v rfl) pk_c rfl) (pk_v rfl) (o_inN (o_inL (e := eI) (u := i8.1) (x := there_7) nI (by decide) (d_F (e := eI) i8.1) (d_F (e := (eL eI)) there_7)))) rfl rfl))) (fun (i8 : (Int × Int × Int × Int × Int)) => (sx_k (x := ()) (v := fun _ => ((F eI) i8.1)) (pk_2 (pk_v rfl) pk_c rfl) rfl)) (fun _ => rfl)) sa_nil (fun _ => rfl)) (fun _ => rfl) (fun _ => (o_sortI (al_O (e := eI) ((results.filter fun (i8 : (Int × Int × Int × Int × Int)) => ((decide (i8.2.1 = house)) && (!(decide (i8.1 ∈ there_7))))).map fun (i8 : (Int × Int × Int × Int × Int)) => i8.1))))) (fun _ => (d_O (eT := (F eI)) (e := eI) d_F (sortI ((results.filter fun (i8 : (Int × Int × Int × Int × Int)) => ((decide (i8.2.1 = house)) && (!(decide (i8.1 ∈ there_7))))).map fun (i8 : (Int × Int × Int × Int × Int)) => i8.1))))) rfl) (fun _ => Nat.le_of_ble_eq_true rfl)) fun (others_9 : (List Int)) => (sy_at [some ((F (eT2 eI eI)) rules), some ((F (eL (eT5 eI eI eI eI eI))) results), some ((F eI) house), some ((F (eL (eT2 (eO eI) eI))) rows_5), some ((F (eL eI)) there_7), some ((F (eL eI)) others_9), none, none, none, none, none] (sy_og fun (c10 : (List (D × (Option Int) × Int))) hc10 => (sy_og fun (l14 : (List (D × Int × (Option Int)))) hl14 => (sy_retp (r := l14) (sx_fz (sx_e2r (z := fun _ => ((OL (F (eT3 eD eI (eO eI)))) l14)) (sx_lcm (xs := c10) (enc := (eT3 eD (eO eI) eI)) (ve := (F (eT3 eD eI (eO eI)))) (y := fun (i11 : (D × (Option Int) × Int)) => (i11.1, i11.2.2, i11.2.1)) (si_it (sx_k (x := ()) (v := fun _ => ((F (eL (eT3 eD (eO eI) eI))) c10)) (pk_call (er := (F (eL (eT3 eD (eO eI) eI)))) (r := c10) (pl_cons (pk_v rfl) pl_nil) rfl (ranked_sim rows_5) hc10) rfl) (fun _ => (d_F (e := (eL (eT3 eD (eO eI) eI))) c10)) (fun _ => rfl)) rfl (fun (i11 : (D × (Option Int) × Int)) => (sg_tp (sgs_cons (sg_n (Nat.le_of_ble_eq_true rfl)) (sgs_cons (sg_n (Nat.le_of_ble_eq_true rfl)) (sgs_cons (sg_n (Nat.le_of_ble_eq_true rfl)) sgs_nil))) rfl)) (fun (i11 : (D × (Option Int) × Int)) => (sx_k (x := ()) (v := fun _ => ((F (eT3 eD eI (eO eI))) (i11.1, i11.2.2, i11.2.1))) (pk_tup (pl_cons (pk_v rfl) (pl_cons (pk_v rfl) (pl_cons (pk_v rfl) pl_nil))) rfl (Nat.le_of_ble_eq_true rfl)) rfl)) (fun _ => rfl)) (sx_lcm (xs := others_9) (enc := eI) (ve := (F (eT3 eU eI eU))) (y := fun (i12 : Int) => ((), i12, ())) (si_it (sx_k (x := ()) (v := fun _ => ((F (eL eI)) others_9)) (pk_v rfl) rfl) (fun _ => (d_F (e := (eL eI)) others_9)) (fun _ => rfl)) rfl (fun (i12 : Int) => (sg_n (Nat.le_of_ble_eq_true rfl))) (fun (i12 : Int) => (sx_k (x := ()) (v := fun _ => ((F (eT3 eU eI eU)) ((), i12, ()))) (pk_tup (pl_cons pk_c (pl_cons (pk_v rfl) (pl_cons pk_c pl_nil))) rfl (Nat.le_of_ble_eq_true rfl)) rfl)) (fun _ => rfl)) (fun _ => (o_cat (e := (eT3 eD eI (eO eI))) (al_O (e := (eT3 eD eI (eO eI))) (c10.map fun (i11 : (D × (Option Int) × Int)) => (i11.1, i11.2.2, i11.2.1))) (al_co (e := (eT3 eU eI eU)) (e2 := (eT3 eD eI (eO eI))) (c := fun (y13 : (Unit × Int × Unit)) => ((eU y13.1), y13.2.1, none)) (al_O (e := (eT3 eU eI eU)) (others_9.map fun (i12 : Int) => ((), i12, ()))) (fun _ => rfl)) hl14))) (fun _ => (d_O (eT := (F (eT3 eD eI (eO eI)))) (e := (eT3 eD eI (eO eI))) d_F l14))) rfl (wk [false, false, false, false, false, false, false, false, false, false, false]))))))))))))))))
def records (rules : (Int × Int)) (results : (List (Int × Int × Int × Int × Int))) (house : Int) : P (List (Int × Int × (Option Int))) :=
  P.bind (check_results rules results) fun a1 =>
  P.bind (check_number house 0 (20 - 1)) fun a2 =>
  (og (outs rules results).val fun c3 =>
  P.bind (.ok ((c3.filter fun i4 => (decide (i4.2.1 = house))) : (List (Int × Int × Int × (Option Int))))) fun rows_5 =>
  (og (rng1O (rows_5.length : Int)) fun r6 =>
  P.bind (P.bind (noex (mapS r6 (() : Unit) fun i11 s10 => noex (P.bind (og (ixO rows_5 i11) fun x12 => .ok x12) fun g13 => .ok ((g13.2.2.1, i11), ())))) fun r14 => og (sortO (eT2 eI eI) r14.1) fun l15 => .ok (r14, l15)) fun p16 =>
  (P.bind (foldP p16.2 ([] : (List (Int × Int × (Option Int)))) fun x18 s17 =>
  (P.bind (if (!(!s17.isEmpty)) = true then .ok true else P.bind (og (ixO rows_5 x18.2) fun x19 => og (ixO s17 (-1)) fun x20 => og x19.2.2.2 fun u21 => og x20.2.2 fun u22 => .ok (x19, x20, u21, u22)) fun g23 => .ok (decide (g23.2.2.1 < g23.2.2.2))) fun p24 => if p24 = true then
  (og (ixO rows_5 x18.2) fun x25 =>
  og (ixO rows_5 x18.2) fun x26 =>
  og (szO s17) fun found_27 =>
  .ok (found_27 ++ [(x18.1, x25.1, x26.2.2.2)]))
  else .ok s17)) fun s28 =>
  .ok s28)))
theorem records_sim (rules : (Int × Int)) (results : (List (Int × Int × Int × Int × Int))) (house : Int) : SimD (records_sem [((F (eT2 eI eI)) rules), ((F (eL (eT5 eI eI eI eI eI))) results), ((F eI) house)]) (records rules results house) (fun (r : (List (Int × Int × (Option Int)))) => (F (eL (eT3 eI eI (eO eI)))) r) (fun (r : (List (Int × Int × (Option Int)))) => [some ((F (eT2 eI eI)) rules), some ((F (eL (eT5 eI eI eI eI eI))) results), some ((F eI) house)]) :=
  sim_of (pn := (fun (r : (List (Int × Int × (Option Int)))) => [none, none, none, none, none, none, none, none, none])) 9 rfl (fun _ => rfl) (fun _ => rfl) (by
  unfold records records_b records_c2 records_c3 records_l5 records_b4
  exact sy_at [some ((F (eT2 eI eI)) rules), some ((F (eL (eT5 eI eI eI eI eI))) results), some ((F eI) house), none, none, none, none, none, none] (sy_seq (sy_expr (sx_callp (Γ3 := fun (a1 : Unit) => [some ((F (eT2 eI eI)) rules), some ((F (eL (eT5 eI eI eI eI eI))) results), some ((F eI) house), none, none, none, none, none, none]) (sa_consr (z := fun _ => [.own ((F (eT2 eI eI)) rules), .own ((F (eL (eT5 eI eI eI eI eI))) results)]) (sx_k (x := ()) (v := fun _ => ((F (eT2 eI eI)) rules)) (pk_v rfl) rfl) (sa_consr (z := fun _ => [.own ((F (eL (eT5 eI eI eI eI eI))) results)]) (sx_k (x := ()) (v := fun _ => ((F (eL (eT5 eI eI eI eI eI))) results)) (pk_v rfl) rfl) sa_nil (fun _ => rfl)) (fun _ => rfl)) rfl (check_results_sim rules results) (wk [false, false, false, false, false, false, false, false, false]) (fun _ => rfl))) fun (a1 : Unit) => (sy_at [some ((F (eT2 eI eI)) rules), some ((F (eL (eT5 eI eI eI eI eI))) results), some ((F eI) house), none, none, none, none, none, none] (sy_seq (sy_expr (sx_callp (Γ3 := fun (a2 : Unit) => [some ((F (eT2 eI eI)) rules), some ((F (eL (eT5 eI eI eI eI eI))) results), some ((F eI) house), none, none, none, none, none, none]) (sa_consr (z := fun _ => [.own ((F eI) house), .own ((F eI) 0), .own ((F eI) (20 - 1))]) (sx_k (x := ()) (v := fun _ => ((F eI) house)) (pk_v rfl) rfl) (sa_consr (z := fun _ => [.own ((F eI) 0), .own ((F eI) (20 - 1))]) (sx_k (x := ()) (v := fun _ => ((F eI) 0)) pk_c rfl) (sa_consr (z := fun _ => [.own ((F eI) (20 - 1))]) (sx_k (x := ()) (v := fun _ => ((F eI) (20 - 1))) (pk_2 pk_c pk_c o_sub) rfl) sa_nil (fun _ => rfl)) (fun _ => rfl)) (fun _ => rfl)) rfl (check_number_sim house 0 (20 - 1)) (wk [false, false, false, false, false, false, false, false, false]) (fun _ => rfl))) fun (a2 : Unit) => (sy_at [some ((F (eT2 eI eI)) rules), some ((F (eL (eT5 eI eI eI eI eI))) results), some ((F eI) house), none, none, none, none, none, none] (sy_og fun (c3 : (List (Int × Int × Int × (Option Int)))) hc3 => (sy_seq (sy_set (sx_val (x := ((c3.filter fun (i4 : (Int × Int × Int × (Option Int))) => (decide (i4.2.1 = house))) : (List (Int × Int × Int × (Option Int))))) (w := fun (rows_5 : (List (Int × Int × Int × (Option Int)))) => (F (eL (eT4 eI eI eI (eO eI)))) rows_5) (sx_fz (sx_lcf (xs := c3) (enc := (eT4 eI eI eI (eO eI))) (ve := (F (eT4 eI eI eI (eO eI)))) (cb := fun (i4 : (Int × Int × Int × (Option Int))) => (decide (i4.2.1 = house))) (si_it (sx_k (x := ()) (v := fun _ => ((F (eL (eT4 eI eI eI (eO eI)))) c3)) (pk_call (er := (F (eL (eT4 eI eI eI (eO eI))))) (r := c3) (pl_cons (pk_v rfl) (pl_cons (pk_v rfl) pl_nil)) rfl (outs_sim rules results) hc3) rfl) (fun _ => (d_F (e := (eL (eT4 eI eI eI (eO eI)))) c3)) (fun _ => rfl)) rfl (fun (i4 : (Int × Int × Int × (Option Int))) => (sg_n (Nat.le_of_ble_eq_true rfl))) (fun (i4 : (Int × Int × Int × (Option Int))) => (st_bk (x := ()) (z := fun _ => (decide (i4.2.1 = house))) (pk_2 (pk_2 (pk_v rfl) pk_c rfl) (pk_v rfl) (o_eq (e := eI) (u := i4.2.1) (v := house) nI (by decide) (d_F (e := eI) i4.2.1) (d_F (e := eI) house))) rfl rfl)) (fun (i4 : (Int × Int × Int × (Option Int))) => (sx_k (x := ()) (v := fun _ => ((F (eT4 eI eI eI (eO eI))) i4)) (pk_v rfl) rfl)) (fun _ => rfl)) (fun _ => (d_O (eT := (F (eT4 eI eI eI (eO eI)))) (e := (eT4 eI eI eI (eO eI))) d_F (c3.filter fun (i4 : (Int × Int × Int × (Option Int))) => (decide (i4.2.1 = house)))))) rfl) (fun _ => Nat.le_of_ble_eq_true rfl)) fun (rows_5 : (List (Int × Int × Int × (Option Int)))) => (sy_at [some ((F (eT2 eI eI)) rules), some ((F (eL (eT5 eI eI eI eI eI))) results), some ((F eI) house), some ((F (eL (eT4 eI eI eI (eO eI)))) rows_5), none, none, none, none, none] (sy_og fun (r6 : (List Int)) hr6 => (sy_seq (sy_set (sx_fz (sx_no (w := fun (p16 : (((List (Int × Int)) × Unit) × (List (Int × Int)))) => ((OL (F (eT2 eI eI))) p16.2)) (o := fun (r14 : ((List (Int × Int)) × Unit)) => (sortO (eT2 eI eI) r14.1)) (sa_consl (z := fun (r14 : ((List (Int × Int)) × Unit)) => [.own ((OL (F (eT2 eI eI))) r14.1)]) (sx_mapSp (xs := r6) (enc := eI) (st := (() : Unit)) (ve := (F (eT2 eI eI))) (te := fun (i11 : Int) (s10 : Unit) => (og (ixO rows_5 i11) fun (x12 : (Int × Int × Int × (Option Int))) => .ok x12)) (Γs := fun (s10 : Unit) => [some ((F (eT2 eI eI)) rules), some ((F (eL (eT5 eI eI eI eI eI))) results), some ((F eI) house), some ((F (eL (eT4 eI eI eI (eO eI)))) rows_5), none, none, none, none, none]) (fun (i11 : Int) (s10 : Unit) (g13 : (Int × Int × Int × (Option Int))) => (g13.2.2.1, i11)) (fun (i11 : Int) (s10 : Unit) (g13 : (Int × Int × Int × (Option Int))) => ()) (si_r1p (sa_consr (z := fun _ => [.own ((F eI) (rows_5.length : Int))]) (sx_k (x := ()) (v := fun _ => ((F eI) (rows_5.length : Int))) (pk_n (pl_cons (pk_v rfl) pl_nil) o_lenF) rfl) sa_nil (fun _ => rfl)) hr6) rfl (wk [true, true, true, true, false, false, false, false, false]) (fun (i11 : Int) (s10 : Unit) => (sg_n (Nat.le_of_ble_eq_true rfl))) (fun (i11 : Int) (s10 : Unit) => (sx_og fun (x12 : (Int × Int × Int × (Option Int))) hx12 => (sx_k (x := x12) (v := fun (g13 : (Int × Int × Int × (Option Int))) => ((F (eT2 eI eI)) (g13.2.2.1, i11))) (pk_tup (pl_cons (pk_2 (pk_2 (pk_v rfl) (pk_v rfl) (o_ixF hx12)) pk_c rfl) (pl_cons (pk_v rfl) pl_nil)) rfl (Nat.le_of_ble_eq_true rfl)) rfl))) (fun _ _ _ => rfl) (fun _ _ => (wk [true, true, true, true, false, false, false, false, false])) (fun _ _ _ => (wk [true, true, true, true, false, false, false, false, false]))) (fun (r14 : ((List (Int × Int)) × Unit)) => sa_nil) (fun _ => rfl)) (fun _ => rfl) (fun (r14 : ((List (Int × Int)) × Unit)) (l15 : (List (Int × Int))) hl15 => (o_sortO (e := (eT2 eI eI)) (al_O (e := (eT2 eI eI)) r14.1) hl15))) (fun (p16 : (((List (Int × Int)) × Unit) × (List (Int × Int)))) => (d_O (eT := (F (eT2 eI eI))) (e := (eT2 eI eI)) d_F p16.2))) (fun _ => Nat.le_of_ble_eq_true rfl)) fun (p16 : (((List (Int × Int)) × Unit) × (List (Int × Int)))) => (sy_at [some ((F (eT2 eI eI)) rules), some ((F (eL (eT5 eI eI eI eI eI))) results), some ((F eI) house), some ((F (eL (eT4 eI eI eI (eO eI)))) rows_5), some ((F (eL (eT2 eI eI))) p16.2), none, none, none, none] (sy_seqp (sy_set (sx_lst sa_nil (fun _ => rfl) (fun _ => Nat.le_of_ble_eq_true rfl)) (fun _ => Nat.le_of_ble_eq_true rfl)) (sy_at [some ((F (eT2 eI eI)) rules), some ((F (eL (eT5 eI eI eI eI eI))) results), some ((F eI) house), some ((F (eL (eT4 eI eI eI (eO eI)))) rows_5), some ((F (eL (eT2 eI eI))) p16.2), some ((OL (F (eT3 eI eI (eO eI)))) []), none, none, none] (sy_seq (sy_forp (xs := p16.2) (st := ([] : (List (Int × Int × (Option Int))))) (enc := (eT2 eI eI)) (Γo := fun (s17 : (List (Int × Int × (Option Int)))) => [some ((F (eT2 eI eI)) rules), some ((F (eL (eT5 eI eI eI eI eI))) results), some ((F eI) house), some ((F (eL (eT4 eI eI eI (eO eI)))) rows_5), some ((F (eL (eT2 eI eI))) p16.2), some ((OL (F (eT3 eI eI (eO eI)))) s17), none, none, none]) (si_it (sx_k (x := ()) (v := fun _ => ((F (eL (eT2 eI eI))) p16.2)) (pk_v rfl) rfl) (fun _ => (d_F (e := (eL (eT2 eI eI))) p16.2)) (fun _ => rfl)) rfl (wk [true, true, true, true, true, true, false, false, false]) (fun (x18 : (Int × Int)) (s17 : (List (Int × Int × (Option Int)))) => (sg_tp (sgs_cons (sg_n (Nat.le_of_ble_eq_true rfl)) (sgs_cons (sg_n (Nat.le_of_ble_eq_true rfl)) sgs_nil)) rfl)) (fun (x18 : (Int × Int)) (s17 : (List (Int × Int × (Option Int)))) => (sy_killP (sy_at [some ((F (eT2 eI eI)) rules), some ((F (eL (eT5 eI eI eI eI eI))) results), some ((F eI) house), some ((F (eL (eT4 eI eI eI (eO eI)))) rows_5), some ((F (eL (eT2 eI eI))) p16.2), some ((OL (F (eT3 eI eI (eO eI)))) s17), some ((F eI) x18.1), some ((F eI) x18.2), none] (sy_if (a := fun (p24 : Bool) => p24) (st_orMp (a := (!(!s17.isEmpty))) (z := fun (p24 : Bool) => p24) (Γ3 := fun (p24 : Bool) => [some ((F (eT2 eI eI)) rules), some ((F (eL (eT5 eI eI eI eI eI))) results), some ((F eI) house), some ((F (eL (eT4 eI eI eI (eO eI)))) rows_5), some ((F (eL (eT2 eI eI))) p16.2), some ((OL (F (eT3 eI eI (eO eI)))) s17), some ((F eI) x18.1), some ((F eI) x18.2), none]) true (st_not (b := fun _ => (!s17.isEmpty)) (st_vk (x := ()) (z := fun _ => (!s17.isEmpty)) (pk_v rfl) (tr_O (e := (F (eT3 eI eI (eO eI)))) (x := s17)) rfl)) (fun _ => (sx_re (w := fun (p24 : Bool) => p24) (Γ3 := fun (p24 : Bool) => [some ((F (eT2 eI eI)) rules), some ((F (eL (eT5 eI eI eI eI eI))) results), some ((F eI) house), some ((F (eL (eT4 eI eI eI (eO eI)))) rows_5), some ((F (eL (eT2 eI eI))) p16.2), some ((OL (F (eT3 eI eI (eO eI)))) s17), some ((F eI) x18.1), some ((F eI) x18.2), none]) (fun (g23 : ((Int × Int × Int × (Option Int)) × (Int × Int × (Option Int)) × Int × Int)) => (decide (g23.2.2.1 < g23.2.2.2))) (sx_og fun (x19 : (Int × Int × Int × (Option Int))) hx19 => (sx_og fun (x20 : (Int × Int × (Option Int))) hx20 => (sx_og fun (u21 : Int) hu21 => (sx_og fun (u22 : Int) hu22 => (st_bk (x := (x19, x20, u21, u22)) (z := fun (g23 : ((Int × Int × Int × (Option Int)) × (Int × Int × (Option Int)) × Int × Int)) => (decide (g23.2.2.1 < g23.2.2.2))) (pk_2 (pk_2 (pk_2 (pk_v rfl) (pk_v rfl) (o_ixF hx19)) pk_c rfl) (pk_2 (pk_2 (pk_v rfl) (pk_1 pk_c o_neg) (o_ixO (e := (F (eT3 eI eI (eO eI)))) (x := s17) hx20)) pk_c rfl) (o_uL (e := eI) hu21 (o_uR (e := eI) hu22 o_lt))) rfl rfl))))) (fun _ => rfl) (fun _ => (wk [true, true, true, true, true, true, true, true, false])))) rfl (wk [true, true, true, true, true, true, true, true, false])) (fun (p24 : Bool) _ => (sy_at [some ((F (eT2 eI eI)) rules), some ((F (eL (eT5 eI eI eI eI eI))) results), some ((F eI) house), some ((F (eL (eT4 eI eI eI (eO eI)))) rows_5), some ((F (eL (eT2 eI eI))) p16.2), some ((OL (F (eT3 eI eI (eO eI)))) s17), some ((F eI) x18.1), some ((F eI) x18.2), none] (sy_endseq (sy_og fun (x25 : (Int × Int × Int × (Option Int))) hx25 => (sy_og fun (x26 : (Int × Int × Int × (Option Int))) hx26 => (sy_og fun (found_27 : (List (Int × Int × (Option Int)))) hfound_27 => (sy_seqp (sy_app (y := (x18.1, x25.1, x26.2.2.2)) rfl (sx_k (x := ()) (v := fun _ => ((F (eT3 eI eI (eO eI))) (x18.1, x25.1, x26.2.2.2))) (pk_tup (pl_cons (pk_v rfl) (pl_cons (pk_2 (pk_2 (pk_v rfl) (pk_v rfl) (o_ixF hx25)) pk_c rfl) (pl_cons (pk_2 (pk_2 (pk_v rfl) (pk_v rfl) (o_ixF hx26)) pk_c rfl) pl_nil))) rfl (Nat.le_of_ble_eq_true rfl)) rfl) rfl hfound_27) (sy_at [some ((F (eT2 eI eI)) rules), some ((F (eL (eT5 eI eI eI eI eI))) results), some ((F eI) house), some ((F (eL (eT4 eI eI eI (eO eI)))) rows_5), some ((F (eL (eT2 eI eI))) p16.2), some ((OL (F (eT3 eI eI (eO eI)))) (found_27 ++ [(x18.1, x25.1, x26.2.2.2)])), some ((F eI) x18.1), some ((F eI) x18.2), none] (sy_lpend (found_27 ++ [(x18.1, x25.1, x26.2.2.2)]) (wk [true, true, true, true, true, true, false, false, false])))))))))) (fun (p24 : Bool) _ => (sy_at [some ((F (eT2 eI eI)) rules), some ((F (eL (eT5 eI eI eI eI eI))) results), some ((F eI) house), some ((F (eL (eT4 eI eI eI (eO eI)))) rows_5), some ((F (eL (eT2 eI eI))) p16.2), some ((OL (F (eT3 eI eI (eO eI)))) s17), some ((F eI) x18.1), some ((F eI) x18.2), none] (sy_lpend s17 (wk [true, true, true, true, true, true, false, false, false])))))) (fun _ => rfl)))) fun (s28 : (List (Int × Int × (Option Int)))) => (sy_at [some ((F (eT2 eI eI)) rules), some ((F (eL (eT5 eI eI eI eI eI))) results), some ((F eI) house), some ((F (eL (eT4 eI eI eI (eO eI)))) rows_5), some ((F (eL (eT2 eI eI))) p16.2), some ((OL (F (eT3 eI eI (eO eI)))) s28), none, none, none] (sy_retp (r := s28) (sx_fz (sx_mv rfl) (fun _ => (d_O (eT := (F (eT3 eI eI (eO eI)))) (e := (eT3 eI eI (eO eI))) d_F s28))) rfl (wk [false, false, false, false, false, false, false, false, false])))))))))))))))))
def law (script : (List Int)) : P Bool :=
  (og (law_numbers script).val fun c1 =>
  P.bind (P.bind (P.bind (law_draw (c1, (0 : Int))) fun a2 => P.bind (P.bind (law_draw a2.2) fun a3 => P.bind (law_draw a3.2) fun a4 => .ok (a3, a4)) fun p5 => .ok (a2, p5)) fun p6 => P.bind (law_results p6.2.2.2 (1 + (p6.1.1 % 8)) (1 + (p6.2.1.1 % 4)) (1 + (p6.2.2.1 % 24))) fun a7 => .ok (p6, a7)) fun p8 =>
  P.bind (law_rules p8.2.2) fun a9 =>
  P.bind (noex (mapS p8.2.1 (() : Unit) fun i14 s13 => noex (P.bind (og (law_full a9.1 i14).val fun c15 => .ok c15) fun g16 => .ok (g16, ())))) fun r17 =>
  (P.bind (P.bind (P.bind (full_times a9.1 p8.2.1) fun a18 => P.bind (law_equal ((eL (eO eI)) a18) ((eL (eO eI)) r17.1)) fun q19 => .ok (a18, q19)) fun p20 => (if (!p20.2) = true then .ok true else .ok (!(decide (p8.2.1 = p8.2.1))))) fun p21 => if p21 = true then
  .ok false
  else (forK [0, 1, 2, 19] (() : Unit) (fun house_23 s22 =>
  (og (rng1O (p8.2.1.length : Int)) fun r24 =>
  P.bind (noex (lcS r24 (() : Unit) fun i35 s34 => noex (P.bind ((P.bind (og (ixO p8.2.1 i35) fun x36 => .ok x36) fun g37 => (if (decide (g37.2.1 = house_23)) = true then P.bind (og (ixO r17.1 i35) fun x38 => .ok x38) fun g39 => .ok g39.isSome else .ok false))) fun p40 => if p40 = true then P.bind ((og (ixO r17.1 i35) fun x41 => og (ixO p8.2.1 i35) fun x42 => .ok (x41, x42))) fun g43 => .ok (some (g43.1, g43.2.1), ()) else .ok (none, ())))) fun r44 =>
  (og (sortO (eT2 (eO eI) eI) r44.1) fun l45 =>
  P.bind (foldP l45 ([] : (List (Int × Int × (Option Int)))) fun x47 s46 =>
  P.bind (P.bind (noex (lcS r44.1 (() : Unit) fun i53 s52 => noex (P.bind ((og i53.1 fun u54 => og x47.1 fun u55 => .ok (u54, u55))) fun g56 => if (decide (g56.1 < g56.2)) = true then P.bind (P.ok ()) fun _ => .ok (some i53, ()) else .ok (none, ())))) fun r57 => og (szO s46) fun due_58 => .ok (r57, due_58)) fun p59 =>
  .ok (p59.2 ++ [((1 + (p59.1.1.length : Int)), x47.2, x47.1)])) fun s60 =>
  (og (rng1O (p8.2.1.length : Int)) fun r61 =>
  P.bind (P.bind (P.bind (noex (lcS r61 (() : Unit) fun i71 s70 => noex (P.bind ((P.bind (og (ixO p8.2.1 i71) fun x72 => .ok x72) fun g73 => (if (decide (g73.2.1 = house_23)) = true then P.bind (og (ixO r17.1 i71) fun x74 => .ok x74) fun g75 => .ok g75.isNone else .ok false))) fun p76 => if p76 = true then P.bind ((og (ixO p8.2.1 i71) fun x77 => .ok x77)) fun g78 => .ok (some g78.1, ()) else .ok (none, ())))) fun r79 => P.bind (noex (lcS (sortI r79.1) (() : Unit) fun i82 s81 => noex (P.bind (P.ok ()) fun _ => if true = true then P.bind (P.ok ()) fun _ => .ok (some ((), i82, ()), ()) else .ok (none, ())))) fun p84r => .ok (r79, p84r)) fun p84 => og (catO (s60.map fun y85 => ((some y85.1), y85.2.1, y85.2.2)) (p84.2.1.map fun y86 => (none, y86.2.1, none))) fun l87 => .ok (p84, l87)) fun p88 =>
  (P.bind (P.bind (ranking a9.1 p8.2.1 house_23) fun a89 => P.bind (law_equal ((eL (eT3 eD eI (eO eI))) a89) ((eL (eT3 (eO eI) eI (eO eI))) p88.2)) fun q90 => .ok (a89, q90)) fun p91 => if (!p91.2) = true then
  .ok (.rt false)
  else (og (rng1O 4) fun r92 =>
  P.bind (foldP r92 (([], none) : ((List (Int × Int × (Option Int))) × (Option Int))) fun day_94 s93 =>
  (og (rng1O (p8.2.1.length : Int)) fun r95 =>
  P.bind (foldP r95 ((s93.1, s93.2) : ((List (Int × Int × (Option Int))) × (Option Int))) fun k_97 s96 =>
  (og (ixO p8.2.1 k_97) fun x98 =>
  P.bind (if (decide (x98.2.1 = house_23)) = true then P.bind (P.bind (og (ixO p8.2.1 k_97) fun x99 => .ok x99) fun g100 => (if (decide (g100.2.2.1 = day_94)) = true then P.bind (P.bind (og (ixO r17.1 k_97) fun x101 => .ok x101) fun g102 => (if g102.isSome = true then P.bind (if s96.2.isNone = true then .ok true else P.bind (og (ixO r17.1 k_97) fun x103 => og x103 fun u104 => og s96.2 fun u105 => .ok (x103, u104, u105)) fun g106 => .ok (decide (g106.2.1 < g106.2.2))) fun p107 => .ok p107 else .ok false)) fun p108 => .ok p108 else .ok false)) fun p109 => .ok p109 else .ok false) fun p110 => if p110 = true then
  (og (ixO r17.1 k_97) fun x111 =>
  (og (ixO p8.2.1 k_97) fun x112 =>
  og (szO s96.1) fun due_113 =>
  .ok ((due_113 ++ [(day_94, x112.1, x111)]), x111)))
  else .ok (s96.1, s96.2))) fun s114 =>
  .ok (s114.1, s114.2))) fun s115 =>
  (P.bind (P.bind (records a9.1 p8.2.1 house_23) fun a116 => P.bind (law_equal ((eL (eT3 eI eI (eO eI))) a116) ((eL (eT3 eI eI (eO eI))) s115.1)) fun q117 => .ok (a116, q117)) fun p118 => if (!p118.2) = true then
  .ok (.rt false)
  else .ok (.nx ()))))))))
  (fun s119 =>
  .ok true) (.ok))))
theorem law_sim (script : (List Int)) : SimD (law_sem [((F (eL eI)) script)]) (law script) (fun (r : Bool) => (F eB) r) (fun (r : Bool) => [some ((F (eL eI)) script)]) :=
  sim_of (pn := (fun (r : Bool) => [none, none, none, none, none, none, none, none, none, none, none, none, none, none, none])) 15 rfl (fun _ => rfl) (fun _ => rfl) (by
  unfold law law_b law_c2 law_l14 law_b13 law_c3 law_l6 law_b5 law_c4 law_c8 law_c7 law_l12 law_b11 law_l10 law_b9 law_equal_sem
  exact sy_at [some ((F (eL eI)) script), none, none, none, none, none, none, none, none, none, none, none, none, none, none] (sy_og fun (c1 : (List Int)) hc1 => (sy_seqp (sy_set (sx_lst (sa_consr (z := fun _ => [.own ((F (eL eI)) c1), .own ((F eI) 0)]) (sx_k (x := ()) (v := fun _ => ((F (eL eI)) c1)) (pk_call (er := (F (eL eI))) (r := c1) (pl_cons (pk_v rfl) pl_nil) rfl (law_numbers_sim script) hc1) rfl) (sa_consr (z := fun _ => [.own ((F eI) 0)]) (sx_k (x := ()) (v := fun _ => ((F eI) 0)) pk_c rfl) sa_nil (fun _ => rfl)) (fun _ => rfl)) (fun _ => rfl) (fun _ => Nat.le_of_ble_eq_true rfl)) (fun _ => Nat.le_of_ble_eq_true rfl)) (sy_at [some ((F (eL eI)) script), some ((O2 (F (eL eI)) (F eI)) (c1, (0 : Int))), none, none, none, none, none, none, none, none, none, none, none, none, none] (sy_seq (sy_set (sx_fz (sx_call (z := fun (p8 : (((Int × ((List Int) × Int)) × ((Int × ((List Int) × Int)) × (Int × ((List Int) × Int)))) × ((List (Int × Int × Int × Int × Int)) × ((List Int) × Int)))) => ((F (eL (eT5 eI eI eI eI eI))) p8.2.1)) (Γ3 := fun (p8 : (((Int × ((List Int) × Int)) × ((Int × ((List Int) × Int)) × (Int × ((List Int) × Int)))) × ((List (Int × Int × Int × Int × Int)) × ((List Int) × Int)))) => [some ((F (eL eI)) script), some ((O2 (F (eL eI)) (F eI)) p8.2.2), none, none, none, none, none, none, none, none, none, none, none, none, none]) (sa_bor (z := fun (p6 : ((Int × ((List Int) × Int)) × ((Int × ((List Int) × Int)) × (Int × ((List Int) × Int))))) => [.bor 1, .own ((F eI) (1 + (p6.1.1 % 8))), .own ((F eI) (1 + (p6.2.1.1 % 4))), .own ((F eI) (1 + (p6.2.2.1 % 24)))]) rfl (sa_cons2 (z := fun (p6 : ((Int × ((List Int) × Int)) × ((Int × ((List Int) × Int)) × (Int × ((List Int) × Int))))) => [.own ((F eI) (1 + (p6.1.1 % 8))), .own ((F eI) (1 + (p6.2.1.1 % 4))), .own ((F eI) (1 + (p6.2.2.1 % 24)))]) (Γ2 := fun (a2 : (Int × ((List Int) × Int))) (p5 : ((Int × ((List Int) × Int)) × (Int × ((List Int) × Int)))) => [some ((F (eL eI)) script), some ((O2 (F (eL eI)) (F eI)) p5.2.2), none, none, none, none, none, none, none, none, none, none, none, none, none]) (sx_fz (sx_e2r (z := fun (a2 : (Int × ((List Int) × Int))) => ((F eI) (1 + (a2.1 % 8)))) (sx_k (x := ()) (v := fun _ => ((F eI) 1)) pk_c rfl) (sx_e2l (z := fun (a2 : (Int × ((List Int) × Int))) => ((F eI) (a2.1 % 8))) (sx_callp (Γ3 := fun (a2 : (Int × ((List Int) × Int))) => [some ((F (eL eI)) script), some ((O2 (F (eL eI)) (F eI)) a2.2), none, none, none, none, none, none, none, none, none, none, none, none, none]) (sa_bor (z := fun _ => [.bor 1]) rfl sa_nil (fun _ => rfl)) rfl (law_draw_sim (c1, (0 : Int))) (wk [false, false, false, false, false, false, false, false, false, false, false, false, false, false, false]) (fun _ => rfl)) (fun (a2 : (Int × ((List Int) × Int))) => (sx_k (x := ()) (v := fun _ => ((F eI) 8)) pk_c rfl)) (fun (a2 : (Int × ((List Int) × Int))) => (o_modc (by decide)))) (fun (a2 : (Int × ((List Int) × Int))) => o_add)) (fun (a2 : (Int × ((List Int) × Int))) => (d_F (e := eI) (1 + (a2.1 % 8))))) (fun (a2 : (Int × ((List Int) × Int))) => (sa_cons2 (z := fun (p5 : ((Int × ((List Int) × Int)) × (Int × ((List Int) × Int)))) => [.own ((F eI) (1 + (p5.1.1 % 4))), .own ((F eI) (1 + (p5.2.1 % 24)))]) (Γ2 := fun (a3 : (Int × ((List Int) × Int))) (a4 : (Int × ((List Int) × Int))) => [some ((F (eL eI)) script), some ((O2 (F (eL eI)) (F eI)) a4.2), none, none, none, none, none, none, none, none, none, none, none, none, none]) (sx_fz (sx_e2r (z := fun (a3 : (Int × ((List Int) × Int))) => ((F eI) (1 + (a3.1 % 4)))) (sx_k (x := ()) (v := fun _ => ((F eI) 1)) pk_c rfl) (sx_e2l (z := fun (a3 : (Int × ((List Int) × Int))) => ((F eI) (a3.1 % 4))) (sx_callp (Γ3 := fun (a3 : (Int × ((List Int) × Int))) => [some ((F (eL eI)) script), some ((O2 (F (eL eI)) (F eI)) a3.2), none, none, none, none, none, none, none, none, none, none, none, none, none]) (sa_bor (z := fun _ => [.bor 1]) rfl sa_nil (fun _ => rfl)) rfl (law_draw_sim a2.2) (wk [false, false, false, false, false, false, false, false, false, false, false, false, false, false, false]) (fun _ => rfl)) (fun (a3 : (Int × ((List Int) × Int))) => (sx_k (x := ()) (v := fun _ => ((F eI) 4)) pk_c rfl)) (fun (a3 : (Int × ((List Int) × Int))) => (o_modc (by decide)))) (fun (a3 : (Int × ((List Int) × Int))) => o_add)) (fun (a3 : (Int × ((List Int) × Int))) => (d_F (e := eI) (1 + (a3.1 % 4))))) (fun (a3 : (Int × ((List Int) × Int))) => (sa_consl (z := fun (a4 : (Int × ((List Int) × Int))) => [.own ((F eI) (1 + (a4.1 % 24)))]) (sx_fz (sx_e2r (z := fun (a4 : (Int × ((List Int) × Int))) => ((F eI) (1 + (a4.1 % 24)))) (sx_k (x := ()) (v := fun _ => ((F eI) 1)) pk_c rfl) (sx_e2l (z := fun (a4 : (Int × ((List Int) × Int))) => ((F eI) (a4.1 % 24))) (sx_callp (Γ3 := fun (a4 : (Int × ((List Int) × Int))) => [some ((F (eL eI)) script), some ((O2 (F (eL eI)) (F eI)) a4.2), none, none, none, none, none, none, none, none, none, none, none, none, none]) (sa_bor (z := fun _ => [.bor 1]) rfl sa_nil (fun _ => rfl)) rfl (law_draw_sim a3.2) (wk [false, false, false, false, false, false, false, false, false, false, false, false, false, false, false]) (fun _ => rfl)) (fun (a4 : (Int × ((List Int) × Int))) => (sx_k (x := ()) (v := fun _ => ((F eI) 24)) pk_c rfl)) (fun (a4 : (Int × ((List Int) × Int))) => (o_modc (by decide)))) (fun (a4 : (Int × ((List Int) × Int))) => o_add)) (fun (a4 : (Int × ((List Int) × Int))) => (d_F (e := eI) (1 + (a4.1 % 24))))) (fun (a4 : (Int × ((List Int) × Int))) => sa_nil) (fun _ => rfl))) (fun _ _ => rfl))) (fun _ _ => rfl)) (fun _ => rfl)) (fun _ => rfl) (fun (p6 : ((Int × ((List Int) × Int)) × ((Int × ((List Int) × Int)) × (Int × ((List Int) × Int))))) => law_results_sim p6.2.2.2 (1 + (p6.1.1 % 8)) (1 + (p6.2.1.1 % 4)) (1 + (p6.2.2.1 % 24))) (fun _ => (wk [false, false, false, false, false, false, false, false, false, false, false, false, false, false, false])) (fun _ _ => rfl) (fun _ _ => rfl)) (fun (p8 : (((Int × ((List Int) × Int)) × ((Int × ((List Int) × Int)) × (Int × ((List Int) × Int)))) × ((List (Int × Int × Int × Int × Int)) × ((List Int) × Int)))) => (d_F (e := (eL (eT5 eI eI eI eI eI))) p8.2.1))) (fun _ => Nat.le_of_ble_eq_true rfl)) fun (p8 : (((Int × ((List Int) × Int)) × ((Int × ((List Int) × Int)) × (Int × ((List Int) × Int)))) × ((List (Int × Int × Int × Int × Int)) × ((List Int) × Int)))) => (sy_at [some ((F (eL eI)) script), some ((O2 (F (eL eI)) (F eI)) p8.2.2), some ((F (eL (eT5 eI eI eI eI eI))) p8.2.1), none, none, none, none, none, none, none, none, none, none, none, none] (sy_seq (sy_set (sx_fz (sx_callp (Γ3 := fun (a9 : ((Int × Int) × ((List Int) × Int))) => [some ((F (eL eI)) script), some ((O2 (F (eL eI)) (F eI)) a9.2), some ((F (eL (eT5 eI eI eI eI eI))) p8.2.1), none, none, none, none, none, none, none, none, none, none, none, none]) (sa_bor (z := fun _ => [.bor 1]) rfl sa_nil (fun _ => rfl)) rfl (law_rules_sim p8.2.2) (wk [false, false, false, false, false, false, false, false, false, false, false, false, false, false, false]) (fun _ => rfl)) (fun (a9 : ((Int × Int) × ((List Int) × Int))) => (d_F (e := (eT2 eI eI)) a9.1))) (fun _ => Nat.le_of_ble_eq_true rfl)) fun (a9 : ((Int × Int) × ((List Int) × Int))) => (sy_at [some ((F (eL eI)) script), some ((O2 (F (eL eI)) (F eI)) a9.2), some ((F (eL (eT5 eI eI eI eI eI))) p8.2.1), some ((F (eT2 eI eI)) a9.1), none, none, none, none, none, none, none, none, none, none, none] (sy_seqp (sy_set (sx_fz (sx_n (w := fun _ => ((OL (F (eT5 eI eI eI eI eI))) p8.2.1)) (sa_consr (z := fun _ => [.own ((F (eL (eT5 eI eI eI eI eI))) p8.2.1)]) (sx_k (x := ()) (v := fun _ => ((F (eL (eT5 eI eI eI eI eI))) p8.2.1)) (pk_v rfl) rfl) sa_nil (fun _ => rfl)) (fun _ => rfl) (fun _ => (o_list (as_F (e := (eT5 eI eI eI eI eI)) p8.2.1)))) (fun _ => (d_O (eT := (F (eT5 eI eI eI eI eI))) (e := (eT5 eI eI eI eI eI)) d_F p8.2.1))) (fun _ => Nat.le_of_ble_eq_true rfl)) (sy_at [some ((F (eL eI)) script), some ((O2 (F (eL eI)) (F eI)) a9.2), some ((F (eL (eT5 eI eI eI eI eI))) p8.2.1), some ((F (eT2 eI eI)) a9.1), some ((F (eL (eT5 eI eI eI eI eI))) p8.2.1), none, none, none, none, none, none, none, none, none, none] (sy_seq (sy_set (sx_fz (sx_mapSp (xs := p8.2.1) (enc := (eT5 eI eI eI eI eI)) (st := (() : Unit)) (ve := (F (eO eI))) (te := fun (i14 : (Int × Int × Int × Int × Int)) (s13 : Unit) => (og (law_full a9.1 i14).val fun (c15 : (Option Int)) => .ok c15)) (Γs := fun (s13 : Unit) => [some ((F (eL eI)) script), some ((O2 (F (eL eI)) (F eI)) a9.2), some ((F (eL (eT5 eI eI eI eI eI))) p8.2.1), some ((F (eT2 eI eI)) a9.1), some ((F (eL (eT5 eI eI eI eI eI))) p8.2.1), none, none, none, none, none, none, none, none, none, none]) (fun (i14 : (Int × Int × Int × Int × Int)) (s13 : Unit) (g16 : (Option Int)) => g16) (fun (i14 : (Int × Int × Int × Int × Int)) (s13 : Unit) (g16 : (Option Int)) => ()) (si_it (sx_k (x := ()) (v := fun _ => ((F (eL (eT5 eI eI eI eI eI))) p8.2.1)) (pk_v rfl) rfl) (fun _ => (d_F (e := (eL (eT5 eI eI eI eI eI))) p8.2.1)) (fun _ => rfl)) rfl (wk [true, true, true, true, true, false, false, false, false, false, false, false, false, false, false]) (fun (i14 : (Int × Int × Int × Int × Int)) (s13 : Unit) => (sg_n (Nat.le_of_ble_eq_true rfl))) (fun (i14 : (Int × Int × Int × Int × Int)) (s13 : Unit) => (sx_og fun (c15 : (Option Int)) hc15 => (sx_k (x := c15) (v := fun (g16 : (Option Int)) => ((F (eO eI)) g16)) (pk_call (er := (F (eO eI))) (r := c15) (pl_cons (pk_v rfl) (pl_cons (pk_v rfl) pl_nil)) rfl (law_full_sim a9.1 i14) hc15) rfl))) (fun _ _ _ => rfl) (fun _ _ => (wk [true, true, true, true, true, false, false, false, false, false, false, false, false, false, false])) (fun _ _ _ => (wk [true, true, true, true, true, false, false, false, false, false, false, false, false, false, false]))) (fun (r17 : ((List (Option Int)) × Unit)) => (d_O (eT := (F (eO eI))) (e := (eO eI)) d_F r17.1))) (fun _ => Nat.le_of_ble_eq_true rfl)) fun (r17 : ((List (Option Int)) × Unit)) => (sy_at [some ((F (eL eI)) script), some ((O2 (F (eL eI)) (F eI)) a9.2), some ((F (eL (eT5 eI eI eI eI eI))) p8.2.1), some ((F (eT2 eI eI)) a9.1), some ((F (eL (eT5 eI eI eI eI eI))) p8.2.1), some ((F (eL (eO eI))) r17.1), none, none, none, none, none, none, none, none, none] (sy_ifseq (sy_if (a := fun (p21 : Bool) => p21) (st_orM (a := fun (p20 : ((List (Option Int)) × Bool)) => (!p20.2)) (z := fun (p21 : Bool) => p21) (Γ3 := fun (p21 : Bool) => [some ((F (eL eI)) script), some ((O2 (F (eL eI)) (F eI)) a9.2), some ((F (eL (eT5 eI eI eI eI eI))) p8.2.1), some ((F (eT2 eI eI)) a9.1), some ((F (eL (eT5 eI eI eI eI eI))) p8.2.1), some ((F (eL (eO eI))) r17.1), none, none, none, none, none, none, none, none, none]) (fun (p20 : ((List (Option Int)) × Bool)) => true) (st_not (b := fun (p20 : ((List (Option Int)) × Bool)) => p20.2) (st_v (b := fun (p20 : ((List (Option Int)) × Bool)) => p20.2) (sx_call (z := fun (p20 : ((List (Option Int)) × Bool)) => F eB p20.2) (Γ3 := fun (p20 : ((List (Option Int)) × Bool)) => [some ((F (eL eI)) script), some ((O2 (F (eL eI)) (F eI)) a9.2), some ((F (eL (eT5 eI eI eI eI eI))) p8.2.1), some ((F (eT2 eI eI)) a9.1), some ((F (eL (eT5 eI eI eI eI eI))) p8.2.1), some ((F (eL (eO eI))) r17.1), none, none, none, none, none, none, none, none, none]) (sa_consl (z := fun (a18 : (List (Option Int))) => [.own ((F (eL (eO eI))) a18), .own ((F (eL (eO eI))) r17.1)]) (sx_fz (sx_callp (Γ3 := fun (a18 : (List (Option Int))) => [some ((F (eL eI)) script), some ((O2 (F (eL eI)) (F eI)) a9.2), some ((F (eL (eT5 eI eI eI eI eI))) p8.2.1), some ((F (eT2 eI eI)) a9.1), some ((F (eL (eT5 eI eI eI eI eI))) p8.2.1), some ((F (eL (eO eI))) r17.1), none, none, none, none, none, none, none, none, none]) (sa_consr (z := fun _ => [.own ((F (eT2 eI eI)) a9.1), .own ((F (eL (eT5 eI eI eI eI eI))) p8.2.1)]) (sx_k (x := ()) (v := fun _ => ((F (eT2 eI eI)) a9.1)) (pk_v rfl) rfl) (sa_consr (z := fun _ => [.own ((F (eL (eT5 eI eI eI eI eI))) p8.2.1)]) (sx_k (x := ()) (v := fun _ => ((F (eL (eT5 eI eI eI eI eI))) p8.2.1)) (pk_v rfl) rfl) sa_nil (fun _ => rfl)) (fun _ => rfl)) rfl (full_times_sim a9.1 p8.2.1) (wk [false, false, false, false, false, false, false, false, false, false, false, false, false, false, false]) (fun _ => rfl)) (fun (a18 : (List (Option Int))) => (d_F (e := (eL (eO eI))) a18))) (fun (a18 : (List (Option Int))) => (sa_consr (z := fun _ => [.own ((F (eL (eO eI))) r17.1)]) (sx_k (x := ()) (v := fun _ => ((F (eL (eO eI))) r17.1)) (pk_v rfl) rfl) sa_nil (fun _ => rfl))) (fun _ => rfl)) (fun _ => rfl) (fun (a18 : (List (Option Int))) => law_equal_sim ((eL (eO eI)) a18) ((eL (eO eI)) r17.1)) (fun _ => (wk [false, false, false, false, false, false, false, false, false, false, false, false, false, false, false])) (fun _ _ => rfl) (fun _ _ => rfl)) (fun (p20 : ((List (Option Int)) × Bool)) => tr_B))) (fun (p20 : ((List (Option Int)) × Bool)) _ => (sx_rep (x := (!(decide (p8.2.1 = p8.2.1)))) (w := fun (p21 : Bool) => p21) (Γ3 := fun (p21 : Bool) => [some ((F (eL eI)) script), some ((O2 (F (eL eI)) (F eI)) a9.2), some ((F (eL (eT5 eI eI eI eI eI))) p8.2.1), some ((F (eT2 eI eI)) a9.1), some ((F (eL (eT5 eI eI eI eI eI))) p8.2.1), some ((F (eL (eO eI))) r17.1), none, none, none, none, none, none, none, none, none]) (st_bk (x := ()) (z := fun _ => (!(decide (p8.2.1 = p8.2.1)))) (pk_2 (pk_v rfl) (pk_v rfl) (o_ne (e := (eL (eT5 eI eI eI eI eI))) (u := p8.2.1) (v := p8.2.1) (nL (nT5 nI nI nI nI nI)) (by decide) (d_F (e := (eL (eT5 eI eI eI eI eI))) p8.2.1) (d_F (e := (eL (eT5 eI eI eI eI eI))) p8.2.1))) rfl rfl) rfl (wk [true, true, true, true, true, true, false, false, false, false, false, false, false, false, false]))) (fun _ _ => rfl) (fun _ => (wk [true, true, true, true, true, true, false, false, false, false, false, false, false, false, false]))) (fun (p21 : Bool) _ => (sy_at [some ((F (eL eI)) script), some ((O2 (F (eL eI)) (F eI)) a9.2), some ((F (eL (eT5 eI eI eI eI eI))) p8.2.1), some ((F (eT2 eI eI)) a9.1), some ((F (eL (eT5 eI eI eI eI eI))) p8.2.1), some ((F (eL (eO eI))) r17.1), none, none, none, none, none, none, none, none, none] (sy_retseq (sy_retp (r := false) (sx_k (x := ()) (v := fun _ => ((F eB) false)) pk_c rfl) rfl (wk [false, false, false, false, false, false, false, false, false, false, false, false, false, false, false]))))) (fun (p21 : Bool) _ => (sy_at [some ((F (eL eI)) script), some ((O2 (F (eL eI)) (F eI)) a9.2), some ((F (eL (eT5 eI eI eI eI eI))) p8.2.1), some ((F (eT2 eI eI)) a9.1), some ((F (eL (eT5 eI eI eI eI eI))) p8.2.1), some ((F (eL (eO eI))) r17.1), none, none, none, none, none, none, none, none, none] (sy_nilseq (sy_forKp (ΨR := (fnO (fun (r : Bool) => (F eB) r) (fun (r : Bool) => [none, none, none, none, none, none, none, none, none, none, none, none, none, none, none]))) (xs := [0, 1, 2, 19]) (st := (() : Unit)) (enc := eI) (Γo := fun (s22 : Unit) => [some ((F (eL eI)) script), some ((O2 (F (eL eI)) (F eI)) a9.2), some ((F (eL (eT5 eI eI eI eI eI))) p8.2.1), some ((F (eT2 eI eI)) a9.1), some ((F (eL (eT5 eI eI eI eI eI))) p8.2.1), some ((F (eL (eO eI))) r17.1), none, none, none, none, none, none, none, none, none]) (si_it (sx_lst (sa_consr (z := fun _ => [.own ((F eI) 0), .own ((F eI) 1), .own ((F eI) 2), .own ((F eI) 19)]) (sx_k (x := ()) (v := fun _ => ((F eI) 0)) pk_c rfl) (sa_consr (z := fun _ => [.own ((F eI) 1), .own ((F eI) 2), .own ((F eI) 19)]) (sx_k (x := ()) (v := fun _ => ((F eI) 1)) pk_c rfl) (sa_consr (z := fun _ => [.own ((F eI) 2), .own ((F eI) 19)]) (sx_k (x := ()) (v := fun _ => ((F eI) 2)) pk_c rfl) (sa_consr (z := fun _ => [.own ((F eI) 19)]) (sx_k (x := ()) (v := fun _ => ((F eI) 19)) pk_c rfl) sa_nil (fun _ => rfl)) (fun _ => rfl)) (fun _ => rfl)) (fun _ => rfl)) (fun _ => rfl) (fun _ => Nat.le_of_ble_eq_true rfl)) (fun _ => (d_O (eT := (F eI)) (e := eI) d_F [0, 1, 2, 19])) (fun _ => rfl)) rfl (wk [true, true, true, true, true, true, false, false, false, false, false, false, false, false, false]) (fun (house_23 : Int) (s22 : Unit) => (sg_n (Nat.le_of_ble_eq_true rfl))) (fun (house_23 : Int) (s22 : Unit) => (sy_killK (sy_at [some ((F (eL eI)) script), some ((O2 (F (eL eI)) (F eI)) a9.2), some ((F (eL (eT5 eI eI eI eI eI))) p8.2.1), some ((F (eT2 eI eI)) a9.1), some ((F (eL (eT5 eI eI eI eI eI))) p8.2.1), some ((F (eL (eO eI))) r17.1), some ((F eI) house_23), none, none, none, none, none, none, none, none] (sy_og fun (r24 : (List Int)) hr24 => (sy_seq (sy_set (sx_fz (sx_lcMp (xs := r24) (enc := eI) (st := (() : Unit)) (ve := (F (eT2 (eO eI) eI))) (tc := fun (i35 : Int) (s34 : Unit) => (P.bind (og (ixO p8.2.1 i35) fun (x36 : (Int × Int × Int × Int × Int)) => .ok x36) fun (g37 : (Int × Int × Int × Int × Int)) => (if (decide (g37.2.1 = house_23)) = true then P.bind (og (ixO r17.1 i35) fun (x38 : (Option Int)) => .ok x38) fun (g39 : (Option Int)) => .ok g39.isSome else .ok false))) (c := fun (i35 : Int) (s34 : Unit) (p40 : Bool) => p40) (te := fun (i35 : Int) (s34 : Unit) (p40 : Bool) => (og (ixO r17.1 i35) fun (x41 : (Option Int)) => og (ixO p8.2.1 i35) fun (x42 : (Int × Int × Int × Int × Int)) => .ok (x41, x42))) (Γs := fun (s34 : Unit) => [some ((F (eL eI)) script), some ((O2 (F (eL eI)) (F eI)) a9.2), some ((F (eL (eT5 eI eI eI eI eI))) p8.2.1), some ((F (eT2 eI eI)) a9.1), some ((F (eL (eT5 eI eI eI eI eI))) p8.2.1), some ((F (eL (eO eI))) r17.1), some ((F eI) house_23), none, none, none, none, none, none, none, none]) (fun (i35 : Int) (s34 : Unit) (p40 : Bool) (g43 : ((Option Int) × (Int × Int × Int × Int × Int))) => (g43.1, g43.2.1)) (fun (i35 : Int) (s34 : Unit) (p40 : Bool) => ()) (fun (i35 : Int) (s34 : Unit) (p40 : Bool) (g43 : ((Option Int) × (Int × Int × Int × Int × Int))) => ()) (si_r1p (sa_consr (z := fun _ => [.own ((F eI) (p8.2.1.length : Int))]) (sx_k (x := ()) (v := fun _ => ((F eI) (p8.2.1.length : Int))) (pk_n (pl_cons (pk_v rfl) pl_nil) o_lenF) rfl) sa_nil (fun _ => rfl)) hr24) rfl (wk [true, true, true, true, true, true, true, false, false, false, false, false, false, false, false]) (fun (i35 : Int) (s34 : Unit) => (sg_n (Nat.le_of_ble_eq_true rfl))) (fun (i35 : Int) (s34 : Unit) => (st_andM (a := fun (g37 : (Int × Int × Int × Int × Int)) => (decide (g37.2.1 = house_23))) (z := fun (p40 : Bool) => p40) (Γ3 := fun (p40 : Bool) => [some ((F (eL eI)) script), some ((O2 (F (eL eI)) (F eI)) a9.2), some ((F (eL (eT5 eI eI eI eI eI))) p8.2.1), some ((F (eT2 eI eI)) a9.1), some ((F (eL (eT5 eI eI eI eI eI))) p8.2.1), some ((F (eL (eO eI))) r17.1), some ((F eI) house_23), none, none, none, none, none, none, some ((F eI) i35), none]) (fun (g37 : (Int × Int × Int × Int × Int)) => false) (sx_og fun (x36 : (Int × Int × Int × Int × Int)) hx36 => (st_bk (x := x36) (z := fun (g37 : (Int × Int × Int × Int × Int)) => (decide (g37.2.1 = house_23))) (pk_2 (pk_2 (pk_2 (pk_v rfl) (pk_v rfl) (o_ixF hx36)) pk_c rfl) (pk_v rfl) (o_eq (e := eI) (u := x36.2.1) (v := house_23) nI (by decide) (d_F (e := eI) x36.2.1) (d_F (e := eI) house_23))) rfl rfl)) (fun (g37 : (Int × Int × Int × Int × Int)) _ => (sx_re (w := fun (p40 : Bool) => p40) (Γ3 := fun (p40 : Bool) => [some ((F (eL eI)) script), some ((O2 (F (eL eI)) (F eI)) a9.2), some ((F (eL (eT5 eI eI eI eI eI))) p8.2.1), some ((F (eT2 eI eI)) a9.1), some ((F (eL (eT5 eI eI eI eI eI))) p8.2.1), some ((F (eL (eO eI))) r17.1), some ((F eI) house_23), none, none, none, none, none, none, some ((F eI) i35), none]) (fun (g39 : (Option Int)) => g39.isSome) (sx_og fun (x38 : (Option Int)) hx38 => (st_bk (x := x38) (z := fun (g39 : (Option Int)) => g39.isSome) (pk_2 (pk_2 (pk_v rfl) (pk_v rfl) (o_ixF hx38)) pk_c (o_isnN (isN_O (fun _ h => by cases h) _))) rfl rfl)) (fun _ => rfl) (fun _ => (wk [true, true, true, true, true, true, true, false, false, false, false, false, false, true, false])))) (fun _ _ => rfl) (fun _ => (wk [true, true, true, true, true, true, true, false, false, false, false, false, false, true, false])))) (fun (i35 : Int) (s34 : Unit) (p40 : Bool) => (sx_og fun (x41 : (Option Int)) hx41 => (sx_og fun (x42 : (Int × Int × Int × Int × Int)) hx42 => (sx_k (x := (x41, x42)) (v := fun (g43 : ((Option Int) × (Int × Int × Int × Int × Int))) => ((F (eT2 (eO eI) eI)) (g43.1, g43.2.1))) (pk_tup (pl_cons (pk_2 (pk_v rfl) (pk_v rfl) (o_ixF hx41)) (pl_cons (pk_2 (pk_2 (pk_v rfl) (pk_v rfl) (o_ixF hx42)) pk_c rfl) pl_nil)) rfl (Nat.le_of_ble_eq_true rfl)) rfl)))) (fun _ _ _ _ => rfl) (fun _ _ _ => (wk [true, true, true, true, true, true, true, false, false, false, false, false, false, false, false])) (fun _ _ _ _ => (wk [true, true, true, true, true, true, true, false, false, false, false, false, false, false, false]))) (fun (r44 : ((List ((Option Int) × Int)) × Unit)) => (d_O (eT := (F (eT2 (eO eI) eI))) (e := (eT2 (eO eI) eI)) d_F r44.1))) (fun _ => Nat.le_of_ble_eq_true rfl)) fun (r44 : ((List ((Option Int) × Int)) × Unit)) => (sy_at [some ((F (eL eI)) script), some ((O2 (F (eL eI)) (F eI)) a9.2), some ((F (eL (eT5 eI eI eI eI eI))) p8.2.1), some ((F (eT2 eI eI)) a9.1), some ((F (eL (eT5 eI eI eI eI eI))) p8.2.1), some ((F (eL (eO eI))) r17.1), some ((F eI) house_23), some ((F (eL (eT2 (eO eI) eI))) r44.1), none, none, none, none, none, none, none] (sy_seqp (sy_set (sx_lst sa_nil (fun _ => rfl) (fun _ => Nat.le_of_ble_eq_true rfl)) (fun _ => Nat.le_of_ble_eq_true rfl)) (sy_at [some ((F (eL eI)) script), some ((O2 (F (eL eI)) (F eI)) a9.2), some ((F (eL (eT5 eI eI eI eI eI))) p8.2.1), some ((F (eT2 eI eI)) a9.1), some ((F (eL (eT5 eI eI eI eI eI))) p8.2.1), some ((F (eL (eO eI))) r17.1), some ((F eI) house_23), some ((F (eL (eT2 (eO eI) eI))) r44.1), some ((OL (F (eT3 eI eI (eO eI)))) []), none, none, none, none, none, none] (sy_og fun (l45 : (List ((Option Int) × Int))) hl45 => (sy_seq (sy_forp (xs := l45) (st := ([] : (List (Int × Int × (Option Int))))) (enc := (eT2 (eO eI) eI)) (Γo := fun (s46 : (List (Int × Int × (Option Int)))) => [some ((F (eL eI)) script), some ((O2 (F (eL eI)) (F eI)) a9.2), some ((F (eL (eT5 eI eI eI eI eI))) p8.2.1), some ((F (eT2 eI eI)) a9.1), some ((F (eL (eT5 eI eI eI eI eI))) p8.2.1), some ((F (eL (eO eI))) r17.1), some ((F eI) house_23), some ((F (eL (eT2 (eO eI) eI))) r44.1), some ((OL (F (eT3 eI eI (eO eI)))) s46), none, none, none, none, none, none]) (si_it (sx_n (w := fun _ => ((OL (F (eT2 (eO eI) eI))) l45)) (sa_consr (z := fun _ => [.own ((F (eL (eT2 (eO eI) eI))) r44.1)]) (sx_k (x := ()) (v := fun _ => ((F (eL (eT2 (eO eI) eI))) r44.1)) (pk_v rfl) rfl) sa_nil (fun _ => rfl)) (fun _ => rfl) (fun _ => (o_sortO (e := (eT2 (eO eI) eI)) (al_F (e := (eT2 (eO eI) eI)) r44.1) hl45))) (fun _ => (d_O (eT := (F (eT2 (eO eI) eI))) (e := (eT2 (eO eI) eI)) d_F l45)) (fun _ => rfl)) rfl (wk [true, true, true, true, true, true, true, true, true, false, false, false, false, false, false]) (fun (x47 : ((Option Int) × Int)) (s46 : (List (Int × Int × (Option Int)))) => (sg_tp (sgs_cons (sg_n (Nat.le_of_ble_eq_true rfl)) (sgs_cons (sg_n (Nat.le_of_ble_eq_true rfl)) sgs_nil)) rfl)) (fun (x47 : ((Option Int) × Int)) (s46 : (List (Int × Int × (Option Int)))) => (sy_killP (sy_at [some ((F (eL eI)) script), some ((O2 (F (eL eI)) (F eI)) a9.2), some ((F (eL (eT5 eI eI eI eI eI))) p8.2.1), some ((F (eT2 eI eI)) a9.1), some ((F (eL (eT5 eI eI eI eI eI))) p8.2.1), some ((F (eL (eO eI))) r17.1), some ((F eI) house_23), some ((F (eL (eT2 (eO eI) eI))) r44.1), some ((OL (F (eT3 eI eI (eO eI)))) s46), some ((F (eO eI)) x47.1), some ((F eI) x47.2), none, none, none, none] (sy_endseq (sy_seq (sy_appM (y := fun (r57 : ((List ((Option Int) × Int)) × Unit)) => ((1 + (r57.1.length : Int)), x47.2, x47.1)) (xs := fun (r57 : ((List ((Option Int) × Int)) × Unit)) => s46) rfl (sx_fz (sx_tup (sa_consl (z := fun (r57 : ((List ((Option Int) × Int)) × Unit)) => [.own ((F eI) (1 + (r57.1.length : Int))), .own ((F eI) x47.2), .own ((F (eO eI)) x47.1)]) (sx_e2r (z := fun (r57 : ((List ((Option Int) × Int)) × Unit)) => ((F eI) (1 + (r57.1.length : Int)))) (sx_k (x := ()) (v := fun _ => ((F eI) 1)) pk_c rfl) (sx_n (w := fun (r57 : ((List ((Option Int) × Int)) × Unit)) => ((F eI) (r57.1.length : Int))) (sa_consl (z := fun (r57 : ((List ((Option Int) × Int)) × Unit)) => [.own ((OL (F (eT2 (eO eI) eI))) r57.1)]) (sx_lcMp (xs := r44.1) (enc := (eT2 (eO eI) eI)) (st := (() : Unit)) (ve := (F (eT2 (eO eI) eI))) (tc := fun (i53 : ((Option Int) × Int)) (s52 : Unit) => (og i53.1 fun (u54 : Int) => og x47.1 fun (u55 : Int) => .ok (u54, u55))) (c := fun (i53 : ((Option Int) × Int)) (s52 : Unit) (g56 : (Int × Int)) => (decide (g56.1 < g56.2))) (te := fun (i53 : ((Option Int) × Int)) (s52 : Unit) (g56 : (Int × Int)) => P.ok ()) (Γs := fun (s52 : Unit) => [some ((F (eL eI)) script), some ((O2 (F (eL eI)) (F eI)) a9.2), some ((F (eL (eT5 eI eI eI eI eI))) p8.2.1), some ((F (eT2 eI eI)) a9.1), some ((F (eL (eT5 eI eI eI eI eI))) p8.2.1), some ((F (eL (eO eI))) r17.1), some ((F eI) house_23), some ((F (eL (eT2 (eO eI) eI))) r44.1), some ((OL (F (eT3 eI eI (eO eI)))) s46), some ((F (eO eI)) x47.1), some ((F eI) x47.2), none, none, none, none]) (fun (i53 : ((Option Int) × Int)) (s52 : Unit) (g56 : (Int × Int)) _ => i53) (fun (i53 : ((Option Int) × Int)) (s52 : Unit) (g56 : (Int × Int)) => ()) (fun (i53 : ((Option Int) × Int)) (s52 : Unit) (g56 : (Int × Int)) _ => ()) (si_it (sx_k (x := ()) (v := fun _ => ((F (eL (eT2 (eO eI) eI))) r44.1)) (pk_v rfl) rfl) (fun _ => (d_F (e := (eL (eT2 (eO eI) eI))) r44.1)) (fun _ => rfl)) rfl (wk [true, true, true, true, true, true, true, true, true, true, true, false, false, false, false]) (fun (i53 : ((Option Int) × Int)) (s52 : Unit) => (sg_n (Nat.le_of_ble_eq_true rfl))) (fun (i53 : ((Option Int) × Int)) (s52 : Unit) => (sx_og fun (u54 : Int) hu54 => (sx_og fun (u55 : Int) hu55 => (st_bk (x := (u54, u55)) (z := fun (g56 : (Int × Int)) => (decide (g56.1 < g56.2))) (pk_2 (pk_2 (pk_v rfl) pk_c rfl) (pk_v rfl) (o_uL (e := eI) hu54 (o_uR (e := eI) hu55 o_lt))) rfl rfl)))) (fun (i53 : ((Option Int) × Int)) (s52 : Unit) (g56 : (Int × Int)) => (sx_k (x := ()) (v := fun _ => ((F (eT2 (eO eI) eI)) i53)) (pk_v rfl) rfl)) (fun _ _ _ _ => rfl) (fun _ _ _ => (wk [true, true, true, true, true, true, true, true, true, true, true, false, false, false, false])) (fun _ _ _ _ => (wk [true, true, true, true, true, true, true, true, true, true, true, false, false, false, false]))) (fun (r57 : ((List ((Option Int) × Int)) × Unit)) => sa_nil) (fun _ => rfl)) (fun _ => rfl) (fun (r57 : ((List ((Option Int) × Int)) × Unit)) => (o_lenO (e := (F (eT2 (eO eI) eI))) (x := r57.1)))) (fun (r57 : ((List ((Option Int) × Int)) × Unit)) => o_add)) (fun (r57 : ((List ((Option Int) × Int)) × Unit)) => (sa_consr (z := fun _ => [.own ((F eI) x47.2), .own ((F (eO eI)) x47.1)]) (sx_k (x := ()) (v := fun _ => ((F eI) x47.2)) (pk_v rfl) rfl) (sa_consr (z := fun _ => [.own ((F (eO eI)) x47.1)]) (sx_k (x := ()) (v := fun _ => ((F (eO eI)) x47.1)) (pk_v rfl) rfl) sa_nil (fun _ => rfl)) (fun _ => rfl))) (fun _ => rfl)) (fun _ => rfl) (fun (r57 : ((List ((Option Int) × Int)) × Unit)) => (dl_cons (d_F (e := eI) (1 + (r57.1.length : Int))) (dl_cons (d_F (e := eI) x47.2) (dl_cons (d_F (e := (eO eI)) x47.1) dl_nil)))) (fun _ => Nat.le_of_ble_eq_true rfl)) (fun (r57 : ((List ((Option Int) × Int)) × Unit)) => (d_F (e := (eT3 eI eI (eO eI))) ((1 + (r57.1.length : Int)), x47.2, x47.1)))) (fun _ => rfl)) fun (p59 : (((List ((Option Int) × Int)) × Unit) × (List (Int × Int × (Option Int))))) => (sy_at [some ((F (eL eI)) script), some ((O2 (F (eL eI)) (F eI)) a9.2), some ((F (eL (eT5 eI eI eI eI eI))) p8.2.1), some ((F (eT2 eI eI)) a9.1), some ((F (eL (eT5 eI eI eI eI eI))) p8.2.1), some ((F (eL (eO eI))) r17.1), some ((F eI) house_23), some ((F (eL (eT2 (eO eI) eI))) r44.1), some ((OL (F (eT3 eI eI (eO eI)))) (p59.2 ++ [((1 + (p59.1.1.length : Int)), x47.2, x47.1)])), some ((F (eO eI)) x47.1), some ((F eI) x47.2), none, none, none, none] (sy_lpend (p59.2 ++ [((1 + (p59.1.1.length : Int)), x47.2, x47.1)]) (wk [true, true, true, true, true, true, true, true, true, false, false, false, false, false, false])))))) (fun _ => rfl)))) fun (s60 : (List (Int × Int × (Option Int)))) => (sy_at [some ((F (eL eI)) script), some ((O2 (F (eL eI)) (F eI)) a9.2), some ((F (eL (eT5 eI eI eI eI eI))) p8.2.1), some ((F (eT2 eI eI)) a9.1), some ((F (eL (eT5 eI eI eI eI eI))) p8.2.1), some ((F (eL (eO eI))) r17.1), some ((F eI) house_23), some ((F (eL (eT2 (eO eI) eI))) r44.1), some ((OL (F (eT3 eI eI (eO eI)))) s60), none, none, none, none, none, none] (sy_og fun (r61 : (List Int)) hr61 => (sy_seq (sy_set (sx_e2ro (z := fun (p88 : ((((List Int) × Unit) × ((List (Unit × Int × Unit)) × Unit)) × (List ((Option Int) × Int × (Option Int))))) => ((OL (F (eT3 (eO eI) eI (eO eI)))) p88.2)) (o := fun (p84 : (((List Int) × Unit) × ((List (Unit × Int × Unit)) × Unit))) => (catO (s60.map fun (y85 : (Int × Int × (Option Int))) => ((some y85.1), y85.2.1, y85.2.2)) (p84.2.1.map fun (y86 : (Unit × Int × Unit)) => (none, y86.2.1, none)))) (sx_mv rfl) (sx_lcS (xs := fun (r79 : ((List Int) × Unit)) => (sortI r79.1)) (enc := eI) (st := fun (r79 : ((List Int) × Unit)) => (() : Unit)) (v := (F (eT3 eU eI eU))) (tc := fun (i82 : Int) (s81 : Unit) => P.ok ()) (c := fun (i82 : Int) (s81 : Unit) _ => true) (te := fun (i82 : Int) (s81 : Unit) _ => P.ok ()) (Γs := fun (s81 : Unit) => [some ((F (eL eI)) script), some ((O2 (F (eL eI)) (F eI)) a9.2), some ((F (eL (eT5 eI eI eI eI eI))) p8.2.1), some ((F (eT2 eI eI)) a9.1), some ((F (eL (eT5 eI eI eI eI eI))) p8.2.1), some ((F (eL (eO eI))) r17.1), some ((F eI) house_23), some ((F (eL (eT2 (eO eI) eI))) r44.1), none, none, none, none, none, none, none]) (y := fun (i82 : Int) (s81 : Unit) _ _ => ((), i82, ())) (s0 := fun (i82 : Int) (s81 : Unit) _ => ()) (s1 := fun (i82 : Int) (s81 : Unit) _ _ => ()) (Γ3 := fun p84a p84b => [some ((F (eL eI)) script), some ((O2 (F (eL eI)) (F eI)) a9.2), some ((F (eL (eT5 eI eI eI eI eI))) p8.2.1), some ((F (eT2 eI eI)) a9.1), some ((F (eL (eT5 eI eI eI eI eI))) p8.2.1), some ((F (eL (eO eI))) r17.1), some ((F eI) house_23), some ((F (eL (eT2 (eO eI) eI))) r44.1), none, none, none, none, none, none, none]) (si_it (sx_n (w := fun (r79 : ((List Int) × Unit)) => ((OL (F eI)) (sortI r79.1))) (sa_consl (z := fun (r79 : ((List Int) × Unit)) => [.own ((OL (F eI)) r79.1)]) (sx_lcMp (xs := r61) (enc := eI) (st := (() : Unit)) (ve := (F eI)) (tc := fun (i71 : Int) (s70 : Unit) => (P.bind (og (ixO p8.2.1 i71) fun (x72 : (Int × Int × Int × Int × Int)) => .ok x72) fun (g73 : (Int × Int × Int × Int × Int)) => (if (decide (g73.2.1 = house_23)) = true then P.bind (og (ixO r17.1 i71) fun (x74 : (Option Int)) => .ok x74) fun (g75 : (Option Int)) => .ok g75.isNone else .ok false))) (c := fun (i71 : Int) (s70 : Unit) (p76 : Bool) => p76) (te := fun (i71 : Int) (s70 : Unit) (p76 : Bool) => (og (ixO p8.2.1 i71) fun (x77 : (Int × Int × Int × Int × Int)) => .ok x77)) (Γs := fun (s70 : Unit) => [some ((F (eL eI)) script), some ((O2 (F (eL eI)) (F eI)) a9.2), some ((F (eL (eT5 eI eI eI eI eI))) p8.2.1), some ((F (eT2 eI eI)) a9.1), some ((F (eL (eT5 eI eI eI eI eI))) p8.2.1), some ((F (eL (eO eI))) r17.1), some ((F eI) house_23), some ((F (eL (eT2 (eO eI) eI))) r44.1), none, none, none, none, none, none, none]) (fun (i71 : Int) (s70 : Unit) (p76 : Bool) (g78 : (Int × Int × Int × Int × Int)) => g78.1) (fun (i71 : Int) (s70 : Unit) (p76 : Bool) => ()) (fun (i71 : Int) (s70 : Unit) (p76 : Bool) (g78 : (Int × Int × Int × Int × Int)) => ()) (si_r1p (sa_consr (z := fun _ => [.own ((F eI) (p8.2.1.length : Int))]) (sx_k (x := ()) (v := fun _ => ((F eI) (p8.2.1.length : Int))) (pk_n (pl_cons (pk_v rfl) pl_nil) o_lenF) rfl) sa_nil (fun _ => rfl)) hr61) rfl (wk [true, true, true, true, true, true, true, true, false, false, false, false, false, false, false]) (fun (i71 : Int) (s70 : Unit) => (sg_n (Nat.le_of_ble_eq_true rfl))) (fun (i71 : Int) (s70 : Unit) => (st_andM (a := fun (g73 : (Int × Int × Int × Int × Int)) => (decide (g73.2.1 = house_23))) (z := fun (p76 : Bool) => p76) (Γ3 := fun (p76 : Bool) => [some ((F (eL eI)) script), some ((O2 (F (eL eI)) (F eI)) a9.2), some ((F (eL (eT5 eI eI eI eI eI))) p8.2.1), some ((F (eT2 eI eI)) a9.1), some ((F (eL (eT5 eI eI eI eI eI))) p8.2.1), some ((F (eL (eO eI))) r17.1), some ((F eI) house_23), some ((F (eL (eT2 (eO eI) eI))) r44.1), none, none, none, none, none, some ((F eI) i71), none]) (fun (g73 : (Int × Int × Int × Int × Int)) => false) (sx_og fun (x72 : (Int × Int × Int × Int × Int)) hx72 => (st_bk (x := x72) (z := fun (g73 : (Int × Int × Int × Int × Int)) => (decide (g73.2.1 = house_23))) (pk_2 (pk_2 (pk_2 (pk_v rfl) (pk_v rfl) (o_ixF hx72)) pk_c rfl) (pk_v rfl) (o_eq (e := eI) (u := x72.2.1) (v := house_23) nI (by decide) (d_F (e := eI) x72.2.1) (d_F (e := eI) house_23))) rfl rfl)) (fun (g73 : (Int × Int × Int × Int × Int)) _ => (sx_re (w := fun (p76 : Bool) => p76) (Γ3 := fun (p76 : Bool) => [some ((F (eL eI)) script), some ((O2 (F (eL eI)) (F eI)) a9.2), some ((F (eL (eT5 eI eI eI eI eI))) p8.2.1), some ((F (eT2 eI eI)) a9.1), some ((F (eL (eT5 eI eI eI eI eI))) p8.2.1), some ((F (eL (eO eI))) r17.1), some ((F eI) house_23), some ((F (eL (eT2 (eO eI) eI))) r44.1), none, none, none, none, none, some ((F eI) i71), none]) (fun (g75 : (Option Int)) => g75.isNone) (sx_og fun (x74 : (Option Int)) hx74 => (st_bk (x := x74) (z := fun (g75 : (Option Int)) => g75.isNone) (pk_2 (pk_2 (pk_v rfl) (pk_v rfl) (o_ixF hx74)) pk_c (o_isnP (isN_O (fun _ h => by cases h) _))) rfl rfl)) (fun _ => rfl) (fun _ => (wk [true, true, true, true, true, true, true, true, false, false, false, false, false, true, false])))) (fun _ _ => rfl) (fun _ => (wk [true, true, true, true, true, true, true, true, false, false, false, false, false, true, false])))) (fun (i71 : Int) (s70 : Unit) (p76 : Bool) => (sx_og fun (x77 : (Int × Int × Int × Int × Int)) hx77 => (sx_k (x := x77) (v := fun (g78 : (Int × Int × Int × Int × Int)) => ((F eI) g78.1)) (pk_2 (pk_2 (pk_v rfl) (pk_v rfl) (o_ixF hx77)) pk_c rfl) rfl))) (fun _ _ _ _ => rfl) (fun _ _ _ => (wk [true, true, true, true, true, true, true, true, false, false, false, false, false, false, false])) (fun _ _ _ _ => (wk [true, true, true, true, true, true, true, true, false, false, false, false, false, false, false]))) (fun (r79 : ((List Int) × Unit)) => sa_nil) (fun _ => rfl)) (fun _ => rfl) (fun (r79 : ((List Int) × Unit)) => (o_sortI (al_O (e := eI) r79.1)))) (fun (r79 : ((List Int) × Unit)) => (d_O (eT := (F eI)) (e := eI) d_F (sortI r79.1))) (fun _ => rfl)) (fun _ => rfl) (fun _ => (wk [true, true, true, true, true, true, true, true, false, false, false, false, false, false, false])) (fun (i82 : Int) (s81 : Unit) => (sg_n (Nat.le_of_ble_eq_true rfl))) (fun (i82 : Int) (s81 : Unit) => st_yes) (fun (i82 : Int) (s81 : Unit) _ => (sx_k (x := ()) (v := fun _ => ((F (eT3 eU eI eU)) ((), i82, ()))) (pk_tup (pl_cons pk_c (pl_cons (pk_v rfl) (pl_cons pk_c pl_nil))) rfl (Nat.le_of_ble_eq_true rfl)) rfl)) (fun _ _ _ _ => rfl) (fun _ _ _ => (wk [true, true, true, true, true, true, true, true, false, false, false, false, false, false, false])) (fun _ _ _ _ => (wk [true, true, true, true, true, true, true, true, false, false, false, false, false, false, false])) (fun _ _ => rfl)) (fun (p84 : (((List Int) × Unit) × ((List (Unit × Int × Unit)) × Unit))) (l87 : (List ((Option Int) × Int × (Option Int)))) hl87 => (o_cat (e := (eT3 (eO eI) eI (eO eI))) (al_co (e := (eT3 eI eI (eO eI))) (e2 := (eT3 (eO eI) eI (eO eI))) (c := fun (y85 : (Int × Int × (Option Int))) => ((some y85.1), y85.2.1, y85.2.2)) (al_O (e := (eT3 eI eI (eO eI))) s60) (fun _ => rfl)) (al_co (e := (eT3 eU eI eU)) (e2 := (eT3 (eO eI) eI (eO eI))) (c := fun (y86 : (Unit × Int × Unit)) => (none, y86.2.1, none)) (al_O (e := (eT3 eU eI eU)) p84.2.1) (fun _ => rfl)) hl87))) (fun _ => Nat.le_of_ble_eq_true rfl)) fun (p88 : ((((List Int) × Unit) × ((List (Unit × Int × Unit)) × Unit)) × (List ((Option Int) × Int × (Option Int))))) => (sy_at [some ((F (eL eI)) script), some ((O2 (F (eL eI)) (F eI)) a9.2), some ((F (eL (eT5 eI eI eI eI eI))) p8.2.1), some ((F (eT2 eI eI)) a9.1), some ((F (eL (eT5 eI eI eI eI eI))) p8.2.1), some ((F (eL (eO eI))) r17.1), some ((F eI) house_23), some ((F (eL (eT2 (eO eI) eI))) r44.1), some ((OL (F (eT3 (eO eI) eI (eO eI)))) p88.2), none, none, none, none, none, none] (sy_ifseq (sy_if (a := fun (p91 : ((List (D × Int × (Option Int))) × Bool)) => (!p91.2)) (st_not (b := fun (p91 : ((List (D × Int × (Option Int))) × Bool)) => p91.2) (st_v (b := fun (p91 : ((List (D × Int × (Option Int))) × Bool)) => p91.2) (sx_call (z := fun (p91 : ((List (D × Int × (Option Int))) × Bool)) => F eB p91.2) (Γ3 := fun (p91 : ((List (D × Int × (Option Int))) × Bool)) => [some ((F (eL eI)) script), some ((O2 (F (eL eI)) (F eI)) a9.2), some ((F (eL (eT5 eI eI eI eI eI))) p8.2.1), some ((F (eT2 eI eI)) a9.1), some ((F (eL (eT5 eI eI eI eI eI))) p8.2.1), some ((F (eL (eO eI))) r17.1), some ((F eI) house_23), some ((F (eL (eT2 (eO eI) eI))) r44.1), some ((F (eL (eT3 (eO eI) eI (eO eI)))) p88.2), none, none, none, none, none, none]) (sa_consl (z := fun (a89 : (List (D × Int × (Option Int)))) => [.own ((F (eL (eT3 eD eI (eO eI)))) a89), .own ((F (eL (eT3 (eO eI) eI (eO eI)))) p88.2)]) (sx_fz (sx_callp (Γ3 := fun (a89 : (List (D × Int × (Option Int)))) => [some ((F (eL eI)) script), some ((O2 (F (eL eI)) (F eI)) a9.2), some ((F (eL (eT5 eI eI eI eI eI))) p8.2.1), some ((F (eT2 eI eI)) a9.1), some ((F (eL (eT5 eI eI eI eI eI))) p8.2.1), some ((F (eL (eO eI))) r17.1), some ((F eI) house_23), some ((F (eL (eT2 (eO eI) eI))) r44.1), some ((OL (F (eT3 (eO eI) eI (eO eI)))) p88.2), none, none, none, none, none, none]) (sa_consr (z := fun _ => [.own ((F (eT2 eI eI)) a9.1), .own ((F (eL (eT5 eI eI eI eI eI))) p8.2.1), .own ((F eI) house_23)]) (sx_k (x := ()) (v := fun _ => ((F (eT2 eI eI)) a9.1)) (pk_v rfl) rfl) (sa_consr (z := fun _ => [.own ((F (eL (eT5 eI eI eI eI eI))) p8.2.1), .own ((F eI) house_23)]) (sx_k (x := ()) (v := fun _ => ((F (eL (eT5 eI eI eI eI eI))) p8.2.1)) (pk_v rfl) rfl) (sa_consr (z := fun _ => [.own ((F eI) house_23)]) (sx_k (x := ()) (v := fun _ => ((F eI) house_23)) (pk_v rfl) rfl) sa_nil (fun _ => rfl)) (fun _ => rfl)) (fun _ => rfl)) rfl (ranking_sim a9.1 p8.2.1 house_23) (wk [false, false, false, false, false, false, false, false, false, false, false, false, false, false, false]) (fun _ => rfl)) (fun (a89 : (List (D × Int × (Option Int)))) => (d_F (e := (eL (eT3 eD eI (eO eI)))) a89))) (fun (a89 : (List (D × Int × (Option Int)))) => (sa_consr (z := fun _ => [.own ((F (eL (eT3 (eO eI) eI (eO eI)))) p88.2)]) (sx_cp rfl (d_O (eT := (F (eT3 (eO eI) eI (eO eI)))) (e := (eT3 (eO eI) eI (eO eI))) d_F p88.2)) sa_nil (fun _ => rfl))) (fun _ => rfl)) (fun _ => rfl) (fun (a89 : (List (D × Int × (Option Int)))) => law_equal_sim ((eL (eT3 eD eI (eO eI))) a89) ((eL (eT3 (eO eI) eI (eO eI))) p88.2)) (fun _ => (wk [false, false, false, false, false, false, false, false, false, false, false, false, false, false, false])) (fun _ _ => rfl) (fun _ _ => rfl)) (fun (p91 : ((List (D × Int × (Option Int))) × Bool)) => tr_B))) (fun (p91 : ((List (D × Int × (Option Int))) × Bool)) _ => (sy_at [some ((F (eL eI)) script), some ((O2 (F (eL eI)) (F eI)) a9.2), some ((F (eL (eT5 eI eI eI eI eI))) p8.2.1), some ((F (eT2 eI eI)) a9.1), some ((F (eL (eT5 eI eI eI eI eI))) p8.2.1), some ((F (eL (eO eI))) r17.1), some ((F eI) house_23), some ((F (eL (eT2 (eO eI) eI))) r44.1), some ((F (eL (eT3 (eO eI) eI (eO eI)))) p88.2), none, none, none, none, none, none] (sy_retseq (sy_retkp (r := false) (sx_k (x := ()) (v := fun _ => ((F eB) false)) pk_c rfl) rfl (wk [false, false, false, false, false, false, false, false, false, false, false, false, false, false, false]))))) (fun (p91 : ((List (D × Int × (Option Int))) × Bool)) _ => (sy_at [some ((F (eL eI)) script), some ((O2 (F (eL eI)) (F eI)) a9.2), some ((F (eL (eT5 eI eI eI eI eI))) p8.2.1), some ((F (eT2 eI eI)) a9.1), some ((F (eL (eT5 eI eI eI eI eI))) p8.2.1), some ((F (eL (eO eI))) r17.1), some ((F eI) house_23), some ((F (eL (eT2 (eO eI) eI))) r44.1), some ((F (eL (eT3 (eO eI) eI (eO eI)))) p88.2), none, none, none, none, none, none] (sy_nilseq (sy_seqp (sy_set (sx_k (x := ()) (v := fun _ => ((F eU) ())) pk_c rfl) (fun _ => Nat.le_of_ble_eq_true rfl)) (sy_at [some ((F (eL eI)) script), some ((O2 (F (eL eI)) (F eI)) a9.2), some ((F (eL (eT5 eI eI eI eI eI))) p8.2.1), some ((F (eT2 eI eI)) a9.1), some ((F (eL (eT5 eI eI eI eI eI))) p8.2.1), some ((F (eL (eO eI))) r17.1), some ((F eI) house_23), some ((F (eL (eT2 (eO eI) eI))) r44.1), some ((F (eL (eT3 (eO eI) eI (eO eI)))) p88.2), none, none, some ((F eU) ()), none, none, none] (sy_seqp (sy_set (sx_lst sa_nil (fun _ => rfl) (fun _ => Nat.le_of_ble_eq_true rfl)) (fun _ => Nat.le_of_ble_eq_true rfl)) (sy_at [some ((F (eL eI)) script), some ((O2 (F (eL eI)) (F eI)) a9.2), some ((F (eL (eT5 eI eI eI eI eI))) p8.2.1), some ((F (eT2 eI eI)) a9.1), some ((F (eL (eT5 eI eI eI eI eI))) p8.2.1), some ((F (eL (eO eI))) r17.1), some ((F eI) house_23), some ((F (eL (eT2 (eO eI) eI))) r44.1), some ((OL (F (eT3 eI eI (eO eI)))) []), none, none, some ((F eU) ()), none, none, none] (sy_og fun (r92 : (List Int)) hr92 => (sy_seq (sy_forp (xs := r92) (st := (([], none) : ((List (Int × Int × (Option Int))) × (Option Int)))) (enc := eI) (Γo := fun (s93 : ((List (Int × Int × (Option Int))) × (Option Int))) => [some ((F (eL eI)) script), some ((O2 (F (eL eI)) (F eI)) a9.2), some ((F (eL (eT5 eI eI eI eI eI))) p8.2.1), some ((F (eT2 eI eI)) a9.1), some ((F (eL (eT5 eI eI eI eI eI))) p8.2.1), some ((F (eL (eO eI))) r17.1), some ((F eI) house_23), some ((F (eL (eT2 (eO eI) eI))) r44.1), some ((OL (F (eT3 eI eI (eO eI)))) s93.1), none, none, some ((F (eO eI)) s93.2), none, none, none]) (si_r1p (sa_consr (z := fun _ => [.own ((F eI) 4)]) (sx_k (x := ()) (v := fun _ => ((F eI) 4)) pk_c rfl) sa_nil (fun _ => rfl)) hr92) rfl (wk [true, true, true, true, true, true, true, true, true, false, false, true, false, false, false]) (fun (day_94 : Int) (s93 : ((List (Int × Int × (Option Int))) × (Option Int))) => (sg_n (Nat.le_of_ble_eq_true rfl))) (fun (day_94 : Int) (s93 : ((List (Int × Int × (Option Int))) × (Option Int))) => (sy_killP (sy_at [some ((F (eL eI)) script), some ((O2 (F (eL eI)) (F eI)) a9.2), some ((F (eL (eT5 eI eI eI eI eI))) p8.2.1), some ((F (eT2 eI eI)) a9.1), some ((F (eL (eT5 eI eI eI eI eI))) p8.2.1), some ((F (eL (eO eI))) r17.1), some ((F eI) house_23), some ((F (eL (eT2 (eO eI) eI))) r44.1), some ((OL (F (eT3 eI eI (eO eI)))) s93.1), none, none, some ((F (eO eI)) s93.2), some ((F eI) day_94), none, none] (sy_endseq (sy_og fun (r95 : (List Int)) hr95 => (sy_seq (sy_forp (xs := r95) (st := ((s93.1, s93.2) : ((List (Int × Int × (Option Int))) × (Option Int)))) (enc := eI) (Γo := fun (s96 : ((List (Int × Int × (Option Int))) × (Option Int))) => [some ((F (eL eI)) script), some ((O2 (F (eL eI)) (F eI)) a9.2), some ((F (eL (eT5 eI eI eI eI eI))) p8.2.1), some ((F (eT2 eI eI)) a9.1), some ((F (eL (eT5 eI eI eI eI eI))) p8.2.1), some ((F (eL (eO eI))) r17.1), some ((F eI) house_23), some ((F (eL (eT2 (eO eI) eI))) r44.1), some ((OL (F (eT3 eI eI (eO eI)))) s96.1), none, none, some ((F (eO eI)) s96.2), some ((F eI) day_94), none, none]) (si_r1p (sa_consr (z := fun _ => [.own ((F eI) (p8.2.1.length : Int))]) (sx_k (x := ()) (v := fun _ => ((F eI) (p8.2.1.length : Int))) (pk_n (pl_cons (pk_v rfl) pl_nil) o_lenF) rfl) sa_nil (fun _ => rfl)) hr95) rfl (wk [true, true, true, true, true, true, true, true, true, false, false, true, true, false, false]) (fun (k_97 : Int) (s96 : ((List (Int × Int × (Option Int))) × (Option Int))) => (sg_n (Nat.le_of_ble_eq_true rfl))) (fun (k_97 : Int) (s96 : ((List (Int × Int × (Option Int))) × (Option Int))) => (sy_killP (sy_at [some ((F (eL eI)) script), some ((O2 (F (eL eI)) (F eI)) a9.2), some ((F (eL (eT5 eI eI eI eI eI))) p8.2.1), some ((F (eT2 eI eI)) a9.1), some ((F (eL (eT5 eI eI eI eI eI))) p8.2.1), some ((F (eL (eO eI))) r17.1), some ((F eI) house_23), some ((F (eL (eT2 (eO eI) eI))) r44.1), some ((OL (F (eT3 eI eI (eO eI)))) s96.1), none, none, some ((F (eO eI)) s96.2), some ((F eI) day_94), some ((F eI) k_97), none] (sy_og fun (x98 : (Int × Int × Int × Int × Int)) hx98 => (sy_if (a := fun (p110 : Bool) => p110) (st_andMp (a := (decide (x98.2.1 = house_23))) (z := fun (p110 : Bool) => p110) (Γ3 := fun (p110 : Bool) => [some ((F (eL eI)) script), some ((O2 (F (eL eI)) (F eI)) a9.2), some ((F (eL (eT5 eI eI eI eI eI))) p8.2.1), some ((F (eT2 eI eI)) a9.1), some ((F (eL (eT5 eI eI eI eI eI))) p8.2.1), some ((F (eL (eO eI))) r17.1), some ((F eI) house_23), some ((F (eL (eT2 (eO eI) eI))) r44.1), some ((OL (F (eT3 eI eI (eO eI)))) s96.1), none, none, some ((F (eO eI)) s96.2), some ((F eI) day_94), some ((F eI) k_97), none]) false (st_bk (x := ()) (z := fun _ => (decide (x98.2.1 = house_23))) (pk_2 (pk_2 (pk_2 (pk_v rfl) (pk_v rfl) (o_ixF hx98)) pk_c rfl) (pk_v rfl) (o_eq (e := eI) (u := x98.2.1) (v := house_23) nI (by decide) (d_F (e := eI) x98.2.1) (d_F (e := eI) house_23))) rfl rfl) (fun _ => (sx_re (w := fun (p110 : Bool) => p110) (Γ3 := fun (p110 : Bool) => [some ((F (eL eI)) script), some ((O2 (F (eL eI)) (F eI)) a9.2), some ((F (eL (eT5 eI eI eI eI eI))) p8.2.1), some ((F (eT2 eI eI)) a9.1), some ((F (eL (eT5 eI eI eI eI eI))) p8.2.1), some ((F (eL (eO eI))) r17.1), some ((F eI) house_23), some ((F (eL (eT2 (eO eI) eI))) r44.1), some ((OL (F (eT3 eI eI (eO eI)))) s96.1), none, none, some ((F (eO eI)) s96.2), some ((F eI) day_94), some ((F eI) k_97), none]) (fun (p109 : Bool) => p109) (st_andM (a := fun (g100 : (Int × Int × Int × Int × Int)) => (decide (g100.2.2.1 = day_94))) (z := fun (p109 : Bool) => p109) (Γ3 := fun (p109 : Bool) => [some ((F (eL eI)) script), some ((O2 (F (eL eI)) (F eI)) a9.2), some ((F (eL (eT5 eI eI eI eI eI))) p8.2.1), some ((F (eT2 eI eI)) a9.1), some ((F (eL (eT5 eI eI eI eI eI))) p8.2.1), some ((F (eL (eO eI))) r17.1), some ((F eI) house_23), some ((F (eL (eT2 (eO eI) eI))) r44.1), some ((OL (F (eT3 eI eI (eO eI)))) s96.1), none, none, some ((F (eO eI)) s96.2), some ((F eI) day_94), some ((F eI) k_97), none]) (fun (g100 : (Int × Int × Int × Int × Int)) => false) (sx_og fun (x99 : (Int × Int × Int × Int × Int)) hx99 => (st_bk (x := x99) (z := fun (g100 : (Int × Int × Int × Int × Int)) => (decide (g100.2.2.1 = day_94))) (pk_2 (pk_2 (pk_2 (pk_v rfl) (pk_v rfl) (o_ixF hx99)) pk_c rfl) (pk_v rfl) (o_eq (e := eI) (u := x99.2.2.1) (v := day_94) nI (by decide) (d_F (e := eI) x99.2.2.1) (d_F (e := eI) day_94))) rfl rfl)) (fun (g100 : (Int × Int × Int × Int × Int)) _ => (sx_re (w := fun (p109 : Bool) => p109) (Γ3 := fun (p109 : Bool) => [some ((F (eL eI)) script), some ((O2 (F (eL eI)) (F eI)) a9.2), some ((F (eL (eT5 eI eI eI eI eI))) p8.2.1), some ((F (eT2 eI eI)) a9.1), some ((F (eL (eT5 eI eI eI eI eI))) p8.2.1), some ((F (eL (eO eI))) r17.1), some ((F eI) house_23), some ((F (eL (eT2 (eO eI) eI))) r44.1), some ((OL (F (eT3 eI eI (eO eI)))) s96.1), none, none, some ((F (eO eI)) s96.2), some ((F eI) day_94), some ((F eI) k_97), none]) (fun (p108 : Bool) => p108) (st_andM (a := fun (g102 : (Option Int)) => g102.isSome) (z := fun (p108 : Bool) => p108) (Γ3 := fun (p108 : Bool) => [some ((F (eL eI)) script), some ((O2 (F (eL eI)) (F eI)) a9.2), some ((F (eL (eT5 eI eI eI eI eI))) p8.2.1), some ((F (eT2 eI eI)) a9.1), some ((F (eL (eT5 eI eI eI eI eI))) p8.2.1), some ((F (eL (eO eI))) r17.1), some ((F eI) house_23), some ((F (eL (eT2 (eO eI) eI))) r44.1), some ((OL (F (eT3 eI eI (eO eI)))) s96.1), none, none, some ((F (eO eI)) s96.2), some ((F eI) day_94), some ((F eI) k_97), none]) (fun (g102 : (Option Int)) => false) (sx_og fun (x101 : (Option Int)) hx101 => (st_bk (x := x101) (z := fun (g102 : (Option Int)) => g102.isSome) (pk_2 (pk_2 (pk_v rfl) (pk_v rfl) (o_ixF hx101)) pk_c (o_isnN (isN_O (fun _ h => by cases h) _))) rfl rfl)) (fun (g102 : (Option Int)) _ => (sx_re (w := fun (p108 : Bool) => p108) (Γ3 := fun (p108 : Bool) => [some ((F (eL eI)) script), some ((O2 (F (eL eI)) (F eI)) a9.2), some ((F (eL (eT5 eI eI eI eI eI))) p8.2.1), some ((F (eT2 eI eI)) a9.1), some ((F (eL (eT5 eI eI eI eI eI))) p8.2.1), some ((F (eL (eO eI))) r17.1), some ((F eI) house_23), some ((F (eL (eT2 (eO eI) eI))) r44.1), some ((OL (F (eT3 eI eI (eO eI)))) s96.1), none, none, some ((F (eO eI)) s96.2), some ((F eI) day_94), some ((F eI) k_97), none]) (fun (p107 : Bool) => p107) (st_orMp (a := s96.2.isNone) (z := fun (p107 : Bool) => p107) (Γ3 := fun (p107 : Bool) => [some ((F (eL eI)) script), some ((O2 (F (eL eI)) (F eI)) a9.2), some ((F (eL (eT5 eI eI eI eI eI))) p8.2.1), some ((F (eT2 eI eI)) a9.1), some ((F (eL (eT5 eI eI eI eI eI))) p8.2.1), some ((F (eL (eO eI))) r17.1), some ((F eI) house_23), some ((F (eL (eT2 (eO eI) eI))) r44.1), some ((OL (F (eT3 eI eI (eO eI)))) s96.1), none, none, some ((F (eO eI)) s96.2), some ((F eI) day_94), some ((F eI) k_97), none]) true (st_bk (x := ()) (z := fun _ => s96.2.isNone) (pk_2 (pk_v rfl) pk_c (o_isnP (isN_O (fun _ h => by cases h) _))) rfl rfl) (fun _ => (sx_re (w := fun (p107 : Bool) => p107) (Γ3 := fun (p107 : Bool) => [some ((F (eL eI)) script), some ((O2 (F (eL eI)) (F eI)) a9.2), some ((F (eL (eT5 eI eI eI eI eI))) p8.2.1), some ((F (eT2 eI eI)) a9.1), some ((F (eL (eT5 eI eI eI eI eI))) p8.2.1), some ((F (eL (eO eI))) r17.1), some ((F eI) house_23), some ((F (eL (eT2 (eO eI) eI))) r44.1), some ((OL (F (eT3 eI eI (eO eI)))) s96.1), none, none, some ((F (eO eI)) s96.2), some ((F eI) day_94), some ((F eI) k_97), none]) (fun (g106 : ((Option Int) × Int × Int)) => (decide (g106.2.1 < g106.2.2))) (sx_og fun (x103 : (Option Int)) hx103 => (sx_og fun (u104 : Int) hu104 => (sx_og fun (u105 : Int) hu105 => (st_bk (x := (x103, u104, u105)) (z := fun (g106 : ((Option Int) × Int × Int)) => (decide (g106.2.1 < g106.2.2))) (pk_2 (pk_2 (pk_v rfl) (pk_v rfl) (o_ixF hx103)) (pk_v rfl) (o_uL (e := eI) hu104 (o_uR (e := eI) hu105 o_lt))) rfl rfl)))) (fun _ => rfl) (fun _ => (wk [true, true, true, true, true, true, true, true, true, false, false, true, true, true, false])))) rfl (wk [true, true, true, true, true, true, true, true, true, false, false, true, true, true, false])) (fun _ => rfl) (fun _ => (wk [true, true, true, true, true, true, true, true, true, false, false, true, true, true, false])))) (fun _ _ => rfl) (fun _ => (wk [true, true, true, true, true, true, true, true, true, false, false, true, true, true, false]))) (fun _ => rfl) (fun _ => (wk [true, true, true, true, true, true, true, true, true, false, false, true, true, true, false])))) (fun _ _ => rfl) (fun _ => (wk [true, true, true, true, true, true, true, true, true, false, false, true, true, true, false]))) (fun _ => rfl) (fun _ => (wk [true, true, true, true, true, true, true, true, true, false, false, true, true, true, false])))) rfl (wk [true, true, true, true, true, true, true, true, true, false, false, true, true, true, false])) (fun (p110 : Bool) _ => (sy_at [some ((F (eL eI)) script), some ((O2 (F (eL eI)) (F eI)) a9.2), some ((F (eL (eT5 eI eI eI eI eI))) p8.2.1), some ((F (eT2 eI eI)) a9.1), some ((F (eL (eT5 eI eI eI eI eI))) p8.2.1), some ((F (eL (eO eI))) r17.1), some ((F eI) house_23), some ((F (eL (eT2 (eO eI) eI))) r44.1), some ((OL (F (eT3 eI eI (eO eI)))) s96.1), none, none, some ((F (eO eI)) s96.2), some ((F eI) day_94), some ((F eI) k_97), none] (sy_og fun (x111 : (Option Int)) hx111 => (sy_seqp (sy_set (sx_k (x := ()) (v := fun _ => ((F (eO eI)) x111)) (pk_2 (pk_v rfl) (pk_v rfl) (o_ixF hx111)) rfl) (fun _ => Nat.le_of_ble_eq_true rfl)) (sy_at [some ((F (eL eI)) script), some ((O2 (F (eL eI)) (F eI)) a9.2), some ((F (eL (eT5 eI eI eI eI eI))) p8.2.1), some ((F (eT2 eI eI)) a9.1), some ((F (eL (eT5 eI eI eI eI eI))) p8.2.1), some ((F (eL (eO eI))) r17.1), some ((F eI) house_23), some ((F (eL (eT2 (eO eI) eI))) r44.1), some ((OL (F (eT3 eI eI (eO eI)))) s96.1), none, none, some ((F (eO eI)) x111), some ((F eI) day_94), some ((F eI) k_97), none] (sy_endseq (sy_og fun (x112 : (Int × Int × Int × Int × Int)) hx112 => (sy_og fun (due_113 : (List (Int × Int × (Option Int)))) hdue_113 => (sy_seqp (sy_app (y := (day_94, x112.1, x111)) rfl (sx_k (x := ()) (v := fun _ => ((F (eT3 eI eI (eO eI))) (day_94, x112.1, x111))) (pk_tup (pl_cons (pk_v rfl) (pl_cons (pk_2 (pk_2 (pk_v rfl) (pk_v rfl) (o_ixF hx112)) pk_c rfl) (pl_cons (pk_v rfl) pl_nil))) rfl (Nat.le_of_ble_eq_true rfl)) rfl) rfl hdue_113) (sy_at [some ((F (eL eI)) script), some ((O2 (F (eL eI)) (F eI)) a9.2), some ((F (eL (eT5 eI eI eI eI eI))) p8.2.1), some ((F (eT2 eI eI)) a9.1), some ((F (eL (eT5 eI eI eI eI eI))) p8.2.1), some ((F (eL (eO eI))) r17.1), some ((F eI) house_23), some ((F (eL (eT2 (eO eI) eI))) r44.1), some ((OL (F (eT3 eI eI (eO eI)))) (due_113 ++ [(day_94, x112.1, x111)])), none, none, some ((F (eO eI)) x111), some ((F eI) day_94), some ((F eI) k_97), none] (sy_lpend ((due_113 ++ [(day_94, x112.1, x111)]), x111) (wk [true, true, true, true, true, true, true, true, true, false, false, true, true, false, false])))))))))))) (fun (p110 : Bool) _ => (sy_at [some ((F (eL eI)) script), some ((O2 (F (eL eI)) (F eI)) a9.2), some ((F (eL (eT5 eI eI eI eI eI))) p8.2.1), some ((F (eT2 eI eI)) a9.1), some ((F (eL (eT5 eI eI eI eI eI))) p8.2.1), some ((F (eL (eO eI))) r17.1), some ((F eI) house_23), some ((F (eL (eT2 (eO eI) eI))) r44.1), some ((OL (F (eT3 eI eI (eO eI)))) s96.1), none, none, some ((F (eO eI)) s96.2), some ((F eI) day_94), some ((F eI) k_97), none] (sy_lpend (s96.1, s96.2) (wk [true, true, true, true, true, true, true, true, true, false, false, true, true, false, false]))))))) (fun _ => rfl)))) fun (s114 : ((List (Int × Int × (Option Int))) × (Option Int))) => (sy_at [some ((F (eL eI)) script), some ((O2 (F (eL eI)) (F eI)) a9.2), some ((F (eL (eT5 eI eI eI eI eI))) p8.2.1), some ((F (eT2 eI eI)) a9.1), some ((F (eL (eT5 eI eI eI eI eI))) p8.2.1), some ((F (eL (eO eI))) r17.1), some ((F eI) house_23), some ((F (eL (eT2 (eO eI) eI))) r44.1), some ((OL (F (eT3 eI eI (eO eI)))) s114.1), none, none, some ((F (eO eI)) s114.2), some ((F eI) day_94), none, none] (sy_lpend (s114.1, s114.2) (wk [true, true, true, true, true, true, true, true, true, false, false, true, false, false, false]))))))) (fun _ => rfl)))) fun (s115 : ((List (Int × Int × (Option Int))) × (Option Int))) => (sy_at [some ((F (eL eI)) script), some ((O2 (F (eL eI)) (F eI)) a9.2), some ((F (eL (eT5 eI eI eI eI eI))) p8.2.1), some ((F (eT2 eI eI)) a9.1), some ((F (eL (eT5 eI eI eI eI eI))) p8.2.1), some ((F (eL (eO eI))) r17.1), some ((F eI) house_23), some ((F (eL (eT2 (eO eI) eI))) r44.1), some ((OL (F (eT3 eI eI (eO eI)))) s115.1), none, none, some ((F (eO eI)) s115.2), none, none, none] (sy_if (a := fun (p118 : ((List (Int × Int × (Option Int))) × Bool)) => (!p118.2)) (st_not (b := fun (p118 : ((List (Int × Int × (Option Int))) × Bool)) => p118.2) (st_v (b := fun (p118 : ((List (Int × Int × (Option Int))) × Bool)) => p118.2) (sx_call (z := fun (p118 : ((List (Int × Int × (Option Int))) × Bool)) => F eB p118.2) (Γ3 := fun (p118 : ((List (Int × Int × (Option Int))) × Bool)) => [some ((F (eL eI)) script), some ((O2 (F (eL eI)) (F eI)) a9.2), some ((F (eL (eT5 eI eI eI eI eI))) p8.2.1), some ((F (eT2 eI eI)) a9.1), some ((F (eL (eT5 eI eI eI eI eI))) p8.2.1), some ((F (eL (eO eI))) r17.1), some ((F eI) house_23), some ((F (eL (eT2 (eO eI) eI))) r44.1), some ((F (eL (eT3 eI eI (eO eI)))) s115.1), none, none, some ((F (eO eI)) s115.2), none, none, none]) (sa_consl (z := fun (a116 : (List (Int × Int × (Option Int)))) => [.own ((F (eL (eT3 eI eI (eO eI)))) a116), .own ((F (eL (eT3 eI eI (eO eI)))) s115.1)]) (sx_fz (sx_callp (Γ3 := fun (a116 : (List (Int × Int × (Option Int)))) => [some ((F (eL eI)) script), some ((O2 (F (eL eI)) (F eI)) a9.2), some ((F (eL (eT5 eI eI eI eI eI))) p8.2.1), some ((F (eT2 eI eI)) a9.1), some ((F (eL (eT5 eI eI eI eI eI))) p8.2.1), some ((F (eL (eO eI))) r17.1), some ((F eI) house_23), some ((F (eL (eT2 (eO eI) eI))) r44.1), some ((OL (F (eT3 eI eI (eO eI)))) s115.1), none, none, some ((F (eO eI)) s115.2), none, none, none]) (sa_consr (z := fun _ => [.own ((F (eT2 eI eI)) a9.1), .own ((F (eL (eT5 eI eI eI eI eI))) p8.2.1), .own ((F eI) house_23)]) (sx_k (x := ()) (v := fun _ => ((F (eT2 eI eI)) a9.1)) (pk_v rfl) rfl) (sa_consr (z := fun _ => [.own ((F (eL (eT5 eI eI eI eI eI))) p8.2.1), .own ((F eI) house_23)]) (sx_k (x := ()) (v := fun _ => ((F (eL (eT5 eI eI eI eI eI))) p8.2.1)) (pk_v rfl) rfl) (sa_consr (z := fun _ => [.own ((F eI) house_23)]) (sx_k (x := ()) (v := fun _ => ((F eI) house_23)) (pk_v rfl) rfl) sa_nil (fun _ => rfl)) (fun _ => rfl)) (fun _ => rfl)) rfl (records_sim a9.1 p8.2.1 house_23) (wk [false, false, false, false, false, false, false, false, false, false, false, false, false, false, false]) (fun _ => rfl)) (fun (a116 : (List (Int × Int × (Option Int)))) => (d_F (e := (eL (eT3 eI eI (eO eI)))) a116))) (fun (a116 : (List (Int × Int × (Option Int)))) => (sa_consr (z := fun _ => [.own ((F (eL (eT3 eI eI (eO eI)))) s115.1)]) (sx_cp rfl (d_O (eT := (F (eT3 eI eI (eO eI)))) (e := (eT3 eI eI (eO eI))) d_F s115.1)) sa_nil (fun _ => rfl))) (fun _ => rfl)) (fun _ => rfl) (fun (a116 : (List (Int × Int × (Option Int)))) => law_equal_sim ((eL (eT3 eI eI (eO eI))) a116) ((eL (eT3 eI eI (eO eI))) s115.1)) (fun _ => (wk [false, false, false, false, false, false, false, false, false, false, false, false, false, false, false])) (fun _ _ => rfl) (fun _ _ => rfl)) (fun (p118 : ((List (Int × Int × (Option Int))) × Bool)) => tr_B))) (fun (p118 : ((List (Int × Int × (Option Int))) × Bool)) _ => (sy_at [some ((F (eL eI)) script), some ((O2 (F (eL eI)) (F eI)) a9.2), some ((F (eL (eT5 eI eI eI eI eI))) p8.2.1), some ((F (eT2 eI eI)) a9.1), some ((F (eL (eT5 eI eI eI eI eI))) p8.2.1), some ((F (eL (eO eI))) r17.1), some ((F eI) house_23), some ((F (eL (eT2 (eO eI) eI))) r44.1), some ((F (eL (eT3 eI eI (eO eI)))) s115.1), none, none, some ((F (eO eI)) s115.2), none, none, none] (sy_retkp (r := false) (sx_k (x := ()) (v := fun _ => ((F eB) false)) pk_c rfl) rfl (wk [false, false, false, false, false, false, false, false, false, false, false, false, false, false, false])))) (fun (p118 : ((List (Int × Int × (Option Int))) × Bool)) _ => (sy_at [some ((F (eL eI)) script), some ((O2 (F (eL eI)) (F eI)) a9.2), some ((F (eL (eT5 eI eI eI eI eI))) p8.2.1), some ((F (eT2 eI eI)) a9.1), some ((F (eL (eT5 eI eI eI eI eI))) p8.2.1), some ((F (eL (eO eI))) r17.1), some ((F eI) house_23), some ((F (eL (eT2 (eO eI) eI))) r44.1), some ((F (eL (eT3 eI eI (eO eI)))) s115.1), none, none, some ((F (eO eI)) s115.2), none, none, none] (sy_lkend () (wk [true, true, true, true, true, true, false, false, false, false, false, false, false, false, false]))))))))))))))))))))))))))))) (fun _ => rfl))) (fun (s119 : Unit) => (sy_at [some ((F (eL eI)) script), some ((O2 (F (eL eI)) (F eI)) a9.2), some ((F (eL (eT5 eI eI eI eI eI))) p8.2.1), some ((F (eT2 eI eI)) a9.1), some ((F (eL (eT5 eI eI eI eI eI))) p8.2.1), some ((F (eL (eO eI))) r17.1), none, none, none, none, none, none, none, none, none] (sy_retp (r := true) (sx_k (x := ()) (v := fun _ => ((F eB) true)) pk_c rfl) rfl (wk [false, false, false, false, false, false, false, false, false, false, false, false, false, false, false])))) hr_fn))))))))))))))))))
end K68

set_option maxHeartbeats 1000000
namespace K68
open PySem PySem.Spec PyProof.Rows L2 Lv Lv.Ty
/-! numbers, draws, the same for all laws -/
def mix (a k : Int) : Int := ((a * 48271 + k * 69621 + 12345) % 2147483647 * ((a * 48271 + k * 69621 + 12345) % 2147483647 / 65536 + 3) + k) % 2147483647
theorem mixed_ok (a k : Int) : law_mixed a k = .ok (mix a k) := by
  unfold law_mixed mix
  have b1 : 0 ≤ (a * 48271 + k * 69621 + 12345) % 2147483647 := Int.emod_nonneg _ (by decide)
  have b2 : (a * 48271 + k * 69621 + 12345) % 2147483647 < 2147483647 := Int.emod_lt_of_pos _ (by decide)
  simp (disch := omega) only [b_ok, mul_okl, g_s]
theorem mix_nn (a k : Int) : 0 ≤ mix a k := Int.emod_nonneg _ (by decide)
def dv (ms : List Int) (i : Int) : Int := if i < ms.length then ms[i.toNat]?.getD 0 else mix (mix (if 0 < ms.length then 1 + i + 1009 * ms[0]?.getD 0 else 1 + i) i) 5 % 1000000
theorem draw_ok (ms : List Int) (i : Int) (hi : 0 ≤ i) : law_draw (ms, i) = .ok (dv ms i, (ms, i + 1)) := by
  unfold law_draw dv
  by_cases h : i < ms.length
  · have e : ixO ms i = some (ms[i.toNat]?.getD 0) := by
      rw [ix_ok hi h, List.getElem?_eq_getElem (by omega)]; rfl
    simp only [b_ok, b_ex, g_s, v_ok, n_ok, t_ok, t_ex, h_t, h_f, if_tt, if_ff, decide_eq_true_eq, decide_eq_false_iff_not, Bool.and_eq_true, Bool.or_eq_true, Bool.not_eq_true', Bool.not_eq_eq_eq_not, Bool.not_true, Bool.not_false, if_true, if_false, Bool.true_and, Bool.and_true, Bool.false_and, Bool.and_false, Bool.or_false, Bool.false_or, Bool.or_true, Bool.true_or, decide_true, decide_false, reduceCtorEq, ite_true, ite_false, not_true_eq_false, not_false_eq_true, and_true, true_and, and_self, or_self, false_or, or_false, true_or, or_true, h, e]
  · by_cases h2 : (0 : Int) < ms.length
    · have h3 : 0 < ms.length := by omega
      have e : ixO ms 0 = some (ms[0]?.getD 0) := by
        rw [ix_ok (by omega) h2]; simp [h3]
      simp only [b_ok, b_ex, g_s, v_ok, n_ok, t_ok, t_ex, h_t, h_f, if_tt, if_ff, decide_eq_true_eq, decide_eq_false_iff_not, Bool.and_eq_true, Bool.or_eq_true, Bool.not_eq_true', Bool.not_eq_eq_eq_not, Bool.not_true, Bool.not_false, if_true, if_false, Bool.true_and, Bool.and_true, Bool.false_and, Bool.and_false, Bool.or_false, Bool.false_or, Bool.or_true, Bool.true_or, decide_true, decide_false, reduceCtorEq, ite_true, ite_false, not_true_eq_false, not_false_eq_true, and_true, true_and, and_self, or_self, false_or, or_false, true_or, or_true, h, h2, h3, e, mixed_ok]
    · have h3 : ¬ 0 < ms.length := by omega
      simp only [b_ok, b_ex, g_s, v_ok, n_ok, t_ok, t_ex, h_t, h_f, if_tt, if_ff, decide_eq_true_eq, decide_eq_false_iff_not, Bool.and_eq_true, Bool.or_eq_true, Bool.not_eq_true', Bool.not_eq_eq_eq_not, Bool.not_true, Bool.not_false, if_true, if_false, Bool.true_and, Bool.and_true, Bool.false_and, Bool.and_false, Bool.or_false, Bool.false_or, Bool.or_true, Bool.true_or, decide_true, decide_false, reduceCtorEq, ite_true, ite_false, not_true_eq_false, not_false_eq_true, and_true, true_and, and_self, or_self, false_or, or_false, true_or, or_true, h, h2, h3, mixed_ok]
def Few (ms : List Int) : Prop := ∀ m ∈ ms, 0 ≤ m ∧ m < 1000000
theorem dv_nn {ms : List Int} {i : Int} (hm : Few ms) : 0 ≤ dv ms i ∧ dv ms i < 1000000 := by
  unfold dv
  split
  · cases e : ms[i.toNat]? with
    | none => simp
    | some x => exact hm x (List.mem_of_getElem? e)
  · exact ⟨Int.emod_nonneg _ (by decide), Int.emod_lt_of_pos _ (by decide)⟩
theorem pow18 : powO 10 18 = some 1000000000000000000 := by
  unfold powO; rw [if_pos ⟨by decide, by decide, by decide⟩]; rfl
theorem few_app {ms : List Int} (h : Few ms) (c : Int) : Few (ms ++ [c % 1000000]) := fun m hm => by
  rcases List.mem_append.mp hm with z | z
  · exact h m z
  · simp at z; subst z; exact ⟨Int.emod_nonneg _ (by decide), Int.emod_lt_of_pos _ (by decide)⟩
theorem numbers_ok (ns : List Int) (hn : ns.length ≤ 63) : ∃ ms : List Int, Few ms ∧ law_numbers ns = .ok ms := by
  unfold law_numbers
  obtain ⟨ms, e, h1, _⟩ := foldP_inv (f := fun cell_2 s1 =>
    (og (powO 10 18) fun x3 =>
    if (decide (x3 ≤ cell_2)) = true then
    (og (rng1O 60) fun r4 =>
    P.bind (foldP r4 ((s1, cell_2) : ((List Int) × Int)) fun k_6 s5 =>
    (if (decide (0 < s5.2)) = true then
    (og (szO s5.1) fun numbers_7 =>
    P.bind (.ok ((s5.2 / 1000000) : Int)) fun rest_8 =>
    .ok ((numbers_7 ++ [(s5.2 % 1000000)]), rest_8))
    else .ok (s5.1, s5.2))) fun s9 =>
    .ok s9.1)
    else (og (szO s1) fun numbers_10 =>
    (og (rng1O 5) fun r11 =>
    P.bind (foldP r11 ((numbers_10 ++ [(cell_2 % 1000000)]) : (List Int)) fun k_13 s12 =>
    (og (law_mixed (cell_2 % 2147483647) k_13).val fun c14 =>
    og (law_mixed c14 (k_13 + 7)).val fun c15 =>
    og (szO s12) fun numbers_16 =>
    .ok (numbers_16 ++ [(c15 % 1000000)]))) fun s17 =>
    .ok s17)))) (fun r s => Few s ∧ s.length + 60 * r.length ≤ 3780) (xs := ns) (s := []) ⟨(fun m h => absurd h (by simp)), by simp; omega⟩ (fun c r s hc ⟨h1, h2⟩ => by
      simp only [List.length_cons] at h2
      simp only [pow18, g_s]
      by_cases h : (1000000000000000000 : Int) ≤ c
      · simp only [h, decide_true, if_true]
        rw [show (60 : Int) = ((60 : Nat) : Int) from rfl, rng1_nat (by omega)]
        simp only [g_s]
        obtain ⟨s', e, h3, h4⟩ := foldP_upto (f := fun k_6 s5 =>
          (if (decide (0 < s5.2)) = true then
          (og (szO s5.1) fun numbers_7 =>
          P.bind (.ok ((s5.2 / 1000000) : Int)) fun rest_8 =>
          .ok ((numbers_7 ++ [(s5.2 % 1000000)]), rest_8))
          else .ok (s5.1, s5.2))) (fun k (q : List Int × Int) => Few q.1 ∧ q.1.length ≤ s.length + k) 60 (s := (s, c)) ⟨h1, by simp⟩ (fun k q hk ⟨h3, h4⟩ => by
            by_cases hp : 0 < q.2
            · simp only [hp, decide_true, if_true, szo_ok (show q.1.length < 16777216 by omega), g_s, b_ok]
              exact ⟨_, rfl, few_app h3 _, by simp; omega⟩
            · simp only [hp, decide_false, Bool.false_eq_true, if_false]
              exact ⟨_, rfl, h3, by simp; omega⟩)
        rw [e]
        exact ⟨_, rfl, h3, by omega⟩
      · simp only [h, decide_false, Bool.false_eq_true, if_false, szo_ok (show s.length < 16777216 by omega), g_s]
        rw [show (5 : Int) = ((5 : Nat) : Int) from rfl, rng1_nat (by omega)]
        simp only [g_s]
        obtain ⟨s', e, h3, h4⟩ := foldP_upto (f := fun k_13 s12 =>
          (og (law_mixed (c % 2147483647) k_13).val fun c14 =>
          og (law_mixed c14 (k_13 + 7)).val fun c15 =>
          og (szO s12) fun numbers_16 =>
          .ok (numbers_16 ++ [(c15 % 1000000)]))) (fun k q => Few q ∧ q.length ≤ s.length + 1 + k) 5 (s := s ++ [c % 1000000]) ⟨few_app h1 _, by simp⟩ (fun k q hk ⟨h3, h4⟩ => by
            simp only [mixed_ok, v_ok, g_s, szo_ok (show q.length < 16777216 by omega)]
            exact ⟨_, rfl, few_app h3 _, by simp; omega⟩)
        rw [e]
        exact ⟨_, rfl, h3, by omega⟩)
  exact ⟨ms, h1, by rw [e]; rfl⟩
/-! equality of data -/
def eqb : Nat → D → Bool
  | 0, _ => false
  | n + 1, .list ds => match n with
    | 0 => false
    | m + 1 => ds.all (eqb m) && decide (ds.length ≤ 16777216)
  | n + 1, .tuple ds => match n with
    | 0 => false
    | m + 1 => ds.all (eqb m) && decide (ds.length ≤ 16777216)
  | _ + 1, .dict _ => false
  | _ + 1, _ => true
theorem opEq_self {d : D} (h : okD d = true) : opEq (.fr d) (.fr d) = some (.fr (.bool true)) := by
  show (if okD d = true ∧ okD d = true then (some (PyData.eqv d d)).map fun k => T.fr (.bool k) else none) = _
  rw [if_pos ⟨h, h⟩, PySem.SeqAt.eqv_refl_plain d (by unfold okD at h; simp at h; exact h.1)]; rfl
theorem all_equal_ok {m : Nat} {x : D} {ds : List D} (ih : ∀ d ∈ ds, law_equal_rec m 0 [.fr d, .fr d] = some (.ok (.fr (.bool true)) [some (.fr d), some (.fr d)])) (hl : ds.length ≤ 16777216)
    (hlen : opLen [.fr x] = some (.fr (.int ds.length))) (hix : ∀ k : Int, opIx (.fr x) (.fr (.int k)) = (atI ds k).map .fr) : law_equal_rec (m + 1) 1 [.fr x, .fr x] = some (.ok (.fr (.bool true)) [some (.fr x), some (.fr x)]) := by
  show semD 2 1 [] (law_all_equal_b (law_equal_rec m 0) (law_equal_rec m 1)) [.fr x, .fr x] = _
  unfold law_all_equal_b
  obtain ⟨ρ', e, rfl⟩ : ∃ ρ', law_all_equal_l2 (law_equal_rec m 0) (law_equal_rec m 1) [some (.fr x), some (.fr x), none] = some (.nx ρ') ∧ ρ' = [some (.fr x), some (.fr x), none] := by
    unfold law_all_equal_l2
    refine for_rng (n := ds.length) (ρ1 := [some (.fr x), some (.fr x), none]) ?_ (fun k ρ => ρ = [some (.fr x), some (.fr x), none]) rfl fun k ρ hk e => ?_
    · have h1 : ((ds.length : Nat) : Int) ≤ 16777216 := by omega
      have h2 : (-16777216 : Int) ≤ (ds.length : Nat) := by omega
      simp only [opEq_s, opNe_s, opIn_s2, opIn_i2, ofString_inj, String.reduceEq, truth_tup, opAbs_i, Bool.or_false, Bool.or_true, Bool.false_or, Bool.true_or, gsx_ok, gSi_ap, sxf_ok, sxe_ok, sSetIxE_ap, sx0_ok, sExt0_ap, par3_ok, sPar3_ap, kMt_ap, kLenSet_ap, iRange3_ap, opCount_fr, dat_map, opEq_lists, opEq_2, opNe_bl, opEq_bl, datL_map, sTry_ap, tryR_nx, tryR_rt, tryR_ex, hdl_t, hdl_f, handle_nil, handle_ap, asL_list, asL_map, opSum_fr, opSum_lst, opMin_2, opMax_2, opSl_list, opSl_map, opSl_tup, cutL_map, bnd_ok, bnd_ex, ofR_ok, ofR_ex, SZ_eq, kC_ap, slot_c0, slot_cs, kV_ap, frR_ok, kOk_ap, k1_ap, k2_ap, e1_ap, okR_ok, e2a_ok, e2b_ok, e2a_ex, e2b_ex, e2_ap, eMv_ap, cpk_ok, eCp_ap, eFz_ap, kNil_ap, kCons_ap, eNil_ap, ecb_ok, ecb_ex, eca_ok, eca_ex, eCons_ap, eBor_ap, rT_ok, kCall_ap, rE_ok, rE_ex, rA_ok, eCall_ap, takeA_nil, tkc_ok, takeA_own, takeA_bor, putA_nil, putA_own, putA_bor, allF_nil, allF_cons, tV_ap, tVK_ap, tB_ap, tBK_ap, tNot_ap, tan_t, tan_f, tan_ex, tor_t, tor_f, tor_ex, tAnd_ap, tOr_ap, isB_bl, truth_bl, truth_lst, truth_list, truth_int, ean_t, ean_f, eAnd_ap, eor_t, eor_f, eOr_ap, eNot_ap, ifk_t, ifk_f, ifk_ex, eIf_ap, chk_t, chk_f, kCh_ap, kN_ap, eN_ap, ownsA_nil, ownsA_own, kTup_ap, kLst_ap, eTup_ap, eLst_ap, kIsi_ap, kSl_ap, eSl_ap, parI_ok, kPart_ap, kNoPart_ap, kRev_ap, gN_ap, gTp_tup, gCs_cons, gNl_nil, iIt_ap, items_list, items_tuple, iRange1_ap, rg1_ok, iRange2_ap, rg2_ok, tYesF_ap, nxt_nx, nxt_rt, nxt_ex, nxt_bk, nxt_ct, sSeq_ap, sNil_ap, sBk_ap, sCt_ap, sRaise_ap, sExpr_ap, sRet_ap, sRetN_ap, ifs_t, ifs_f, ifs_ex, sIf_ap, sSet_ap, sTgt_ap, kild_nx, kild_ct, kild_rt, kild_bk, kild_ex, kill_ap, wipe_nil, wipe_cons, app0_ok, isLst_ok, sApp0_ap, sFor_ap, sForE_ap, eLc_ap, back_nil, back_cons, bk1_none, bk1_fr, bk1_lst, endD_rt, endD_nx, endD_ex, semD_1, semD_2, semD_3, semD_4, semD_5, semD_6, semD_7, semD_8, outs_nil, outs_cons, frO_fr, opAdd_i, opAddI_i, opSub_i, opMod_i, opFdiv_i, opMul_r, opMul_l, opPow_i, opEq_i, opNe_i, opLt_i, opGt_i, opLe_i, opGe_i, opNeg_i, opLen_list, opLen_tup, opLen_lst, opIx_list, opIx_tup, opIx_lst, frOp_ap, onlyFr_fr, dat_fr, dat_lst, datL_nil, datL_fr, datL_lst, allFr_nil, allFr_cons, asS_list, asS_tup, opList_ap, opTuple_ap, ixN_nat, atI_0, atI_1, atI_2, atI_3, atI_4, atI_map, atI_int, pV_ap, getAt_ap, getP_nil, getP_ix, setAt_ap, setP_nil, setP_ix, pix_ok, pIx_ap, six_ok, sSetIx_ap, pp0_ok, ePop_ap, par2_ok, sPar_ap, aug1_ok, sAug_ap, opIsN_ap, isNoT_none, isNoT_int, isNoT_list, isNoT_tup, isNoT_lst, typT_fr, typT_lst, typD_none, typD_bool, typD_int, typD_str, typD_list, typD_tuple, isa_NoneType_bool, isa_NoneType_int, isa_NoneType_str, isa_NoneType_list, isa_NoneType_tuple, isa_NoneType_dict, isa_bool_bool, isa_bool_int, isa_bool_str, isa_bool_list, isa_bool_tuple, isa_bool_dict, isa_int_bool, isa_int_int, isa_int_str, isa_int_list, isa_int_tuple, isa_int_dict, isa_str_bool, isa_str_int, isa_str_str, isa_str_list, isa_str_tuple, isa_str_dict, isa_list_bool, isa_list_int, isa_list_str, isa_list_list, isa_list_tuple, isa_list_dict, isa_tuple_bool, isa_tuple_int, isa_tuple_str, isa_tuple_list, isa_tuple_tuple, isa_tuple_dict, isa_dict_bool, isa_dict_int, isa_dict_str, isa_dict_list, isa_dict_tuple, isa_dict_dict, opEq_emp, opEq_fe, opIn_ints, Option.bind_some, Option.map_some, List.map_cons, List.map_nil, List.cons_append, List.nil_append, List.append_nil, List.replicate, List.length_cons, List.length_nil, List.set_cons_succ, List.set_cons_zero, Nat.lt_add_one, if_true, if_false, Nat.reduceAdd, Nat.reduceLT, Nat.reduceLeDiff, List.not_mem_nil, List.mem_cons, Nat.reduceEqDiff, or_false, or_true, false_or, true_or, Bool.not_true, Bool.not_false, Bool.false_eq_true, reduceIte, Option.bind_eq_bind, Int.reduceAdd, Int.reduceSub, Int.reduceMul, Int.reduceLT, Int.reduceLE, Int.reduceNeg, Int.cast_ofNat_Int, Int.natCast_one, Int.natCast_zero, Int.reduceEq, Int.reduceNe, Int.toNat_natCast, Int.reduceToNat, Int.reducePow, List.isEmpty_nil, List.isEmpty_cons, List.getElem?_cons_succ, List.getElem?_cons_zero, reduceCtorEq, Nat.succ_eq_add_one, Nat.add_zero, Nat.zero_add, and_self, and_true, true_and, decide_true, decide_false, List.reverse_cons, List.reverse_nil, Option.map_eq_map, Bool.not_eq_true, Bool.not_eq_false, Bool.xor_false, Bool.xor_true, Bool.false_xor, Bool.true_xor, Nat.reduceSub, List.dropLast_cons₂, List.dropLast_singleton, decide_eq_true_eq, List.length_map, Nat.zero_le, hlen, h1, h2, Int.toNat_natCast]
    · subst e
      unfold law_all_equal_b1
      have e2 : atI ds (k : Int) = some ds[k] := by
        unfold atI; rw [ixN_nat (by omega) (by omega)]; simp
      simp only [opEq_s, opNe_s, opIn_s2, opIn_i2, ofString_inj, String.reduceEq, truth_tup, opAbs_i, Bool.or_false, Bool.or_true, Bool.false_or, Bool.true_or, gsx_ok, gSi_ap, sxf_ok, sxe_ok, sSetIxE_ap, sx0_ok, sExt0_ap, par3_ok, sPar3_ap, kMt_ap, kLenSet_ap, iRange3_ap, opCount_fr, dat_map, opEq_lists, opEq_2, opNe_bl, opEq_bl, datL_map, sTry_ap, tryR_nx, tryR_rt, tryR_ex, hdl_t, hdl_f, handle_nil, handle_ap, asL_list, asL_map, opSum_fr, opSum_lst, opMin_2, opMax_2, opSl_list, opSl_map, opSl_tup, cutL_map, bnd_ok, bnd_ex, ofR_ok, ofR_ex, SZ_eq, kC_ap, slot_c0, slot_cs, kV_ap, frR_ok, kOk_ap, k1_ap, k2_ap, e1_ap, okR_ok, e2a_ok, e2b_ok, e2a_ex, e2b_ex, e2_ap, eMv_ap, cpk_ok, eCp_ap, eFz_ap, kNil_ap, kCons_ap, eNil_ap, ecb_ok, ecb_ex, eca_ok, eca_ex, eCons_ap, eBor_ap, rT_ok, kCall_ap, rE_ok, rE_ex, rA_ok, eCall_ap, takeA_nil, tkc_ok, takeA_own, takeA_bor, putA_nil, putA_own, putA_bor, allF_nil, allF_cons, tV_ap, tVK_ap, tB_ap, tBK_ap, tNot_ap, tan_t, tan_f, tan_ex, tor_t, tor_f, tor_ex, tAnd_ap, tOr_ap, isB_bl, truth_bl, truth_lst, truth_list, truth_int, ean_t, ean_f, eAnd_ap, eor_t, eor_f, eOr_ap, eNot_ap, ifk_t, ifk_f, ifk_ex, eIf_ap, chk_t, chk_f, kCh_ap, kN_ap, eN_ap, ownsA_nil, ownsA_own, kTup_ap, kLst_ap, eTup_ap, eLst_ap, kIsi_ap, kSl_ap, eSl_ap, parI_ok, kPart_ap, kNoPart_ap, kRev_ap, gN_ap, gTp_tup, gCs_cons, gNl_nil, iIt_ap, items_list, items_tuple, iRange1_ap, rg1_ok, iRange2_ap, rg2_ok, tYesF_ap, nxt_nx, nxt_rt, nxt_ex, nxt_bk, nxt_ct, sSeq_ap, sNil_ap, sBk_ap, sCt_ap, sRaise_ap, sExpr_ap, sRet_ap, sRetN_ap, ifs_t, ifs_f, ifs_ex, sIf_ap, sSet_ap, sTgt_ap, kild_nx, kild_ct, kild_rt, kild_bk, kild_ex, kill_ap, wipe_nil, wipe_cons, app0_ok, isLst_ok, sApp0_ap, sFor_ap, sForE_ap, eLc_ap, back_nil, back_cons, bk1_none, bk1_fr, bk1_lst, endD_rt, endD_nx, endD_ex, semD_1, semD_2, semD_3, semD_4, semD_5, semD_6, semD_7, semD_8, outs_nil, outs_cons, frO_fr, opAdd_i, opAddI_i, opSub_i, opMod_i, opFdiv_i, opMul_r, opMul_l, opPow_i, opEq_i, opNe_i, opLt_i, opGt_i, opLe_i, opGe_i, opNeg_i, opLen_list, opLen_tup, opLen_lst, opIx_list, opIx_tup, opIx_lst, frOp_ap, onlyFr_fr, dat_fr, dat_lst, datL_nil, datL_fr, datL_lst, allFr_nil, allFr_cons, asS_list, asS_tup, opList_ap, opTuple_ap, ixN_nat, atI_0, atI_1, atI_2, atI_3, atI_4, atI_map, atI_int, pV_ap, getAt_ap, getP_nil, getP_ix, setAt_ap, setP_nil, setP_ix, pix_ok, pIx_ap, six_ok, sSetIx_ap, pp0_ok, ePop_ap, par2_ok, sPar_ap, aug1_ok, sAug_ap, opIsN_ap, isNoT_none, isNoT_int, isNoT_list, isNoT_tup, isNoT_lst, typT_fr, typT_lst, typD_none, typD_bool, typD_int, typD_str, typD_list, typD_tuple, isa_NoneType_bool, isa_NoneType_int, isa_NoneType_str, isa_NoneType_list, isa_NoneType_tuple, isa_NoneType_dict, isa_bool_bool, isa_bool_int, isa_bool_str, isa_bool_list, isa_bool_tuple, isa_bool_dict, isa_int_bool, isa_int_int, isa_int_str, isa_int_list, isa_int_tuple, isa_int_dict, isa_str_bool, isa_str_int, isa_str_str, isa_str_list, isa_str_tuple, isa_str_dict, isa_list_bool, isa_list_int, isa_list_str, isa_list_list, isa_list_tuple, isa_list_dict, isa_tuple_bool, isa_tuple_int, isa_tuple_str, isa_tuple_list, isa_tuple_tuple, isa_tuple_dict, isa_dict_bool, isa_dict_int, isa_dict_str, isa_dict_list, isa_dict_tuple, isa_dict_dict, opEq_emp, opEq_fe, opIn_ints, Option.bind_some, Option.map_some, List.map_cons, List.map_nil, List.cons_append, List.nil_append, List.append_nil, List.replicate, List.length_cons, List.length_nil, List.set_cons_succ, List.set_cons_zero, Nat.lt_add_one, if_true, if_false, Nat.reduceAdd, Nat.reduceLT, Nat.reduceLeDiff, List.not_mem_nil, List.mem_cons, Nat.reduceEqDiff, or_false, or_true, false_or, true_or, Bool.not_true, Bool.not_false, Bool.false_eq_true, reduceIte, Option.bind_eq_bind, Int.reduceAdd, Int.reduceSub, Int.reduceMul, Int.reduceLT, Int.reduceLE, Int.reduceNeg, Int.cast_ofNat_Int, Int.natCast_one, Int.natCast_zero, Int.reduceEq, Int.reduceNe, Int.toNat_natCast, Int.reduceToNat, Int.reducePow, List.isEmpty_nil, List.isEmpty_cons, List.getElem?_cons_succ, List.getElem?_cons_zero, reduceCtorEq, Nat.succ_eq_add_one, Nat.add_zero, Nat.zero_add, and_self, and_true, true_and, decide_true, decide_false, List.reverse_cons, List.reverse_nil, Option.map_eq_map, Bool.not_eq_true, Bool.not_eq_false, Bool.xor_false, Bool.xor_true, Bool.false_xor, Bool.true_xor, Nat.reduceSub, List.dropLast_cons₂, List.dropLast_singleton, decide_eq_true_eq, List.length_map, Nat.zero_le, hix, e2, ih ds[k] (List.getElem_mem hk)]
      exact ⟨_, rfl, rfl⟩
  simp only [opEq_s, opNe_s, opIn_s2, opIn_i2, ofString_inj, String.reduceEq, truth_tup, opAbs_i, Bool.or_false, Bool.or_true, Bool.false_or, Bool.true_or, gsx_ok, gSi_ap, sxf_ok, sxe_ok, sSetIxE_ap, sx0_ok, sExt0_ap, par3_ok, sPar3_ap, kMt_ap, kLenSet_ap, iRange3_ap, opCount_fr, dat_map, opEq_lists, opEq_2, opNe_bl, opEq_bl, datL_map, sTry_ap, tryR_nx, tryR_rt, tryR_ex, hdl_t, hdl_f, handle_nil, handle_ap, asL_list, asL_map, opSum_fr, opSum_lst, opMin_2, opMax_2, opSl_list, opSl_map, opSl_tup, cutL_map, bnd_ok, bnd_ex, ofR_ok, ofR_ex, SZ_eq, kC_ap, slot_c0, slot_cs, kV_ap, frR_ok, kOk_ap, k1_ap, k2_ap, e1_ap, okR_ok, e2a_ok, e2b_ok, e2a_ex, e2b_ex, e2_ap, eMv_ap, cpk_ok, eCp_ap, eFz_ap, kNil_ap, kCons_ap, eNil_ap, ecb_ok, ecb_ex, eca_ok, eca_ex, eCons_ap, eBor_ap, rT_ok, kCall_ap, rE_ok, rE_ex, rA_ok, eCall_ap, takeA_nil, tkc_ok, takeA_own, takeA_bor, putA_nil, putA_own, putA_bor, allF_nil, allF_cons, tV_ap, tVK_ap, tB_ap, tBK_ap, tNot_ap, tan_t, tan_f, tan_ex, tor_t, tor_f, tor_ex, tAnd_ap, tOr_ap, isB_bl, truth_bl, truth_lst, truth_list, truth_int, ean_t, ean_f, eAnd_ap, eor_t, eor_f, eOr_ap, eNot_ap, ifk_t, ifk_f, ifk_ex, eIf_ap, chk_t, chk_f, kCh_ap, kN_ap, eN_ap, ownsA_nil, ownsA_own, kTup_ap, kLst_ap, eTup_ap, eLst_ap, kIsi_ap, kSl_ap, eSl_ap, parI_ok, kPart_ap, kNoPart_ap, kRev_ap, gN_ap, gTp_tup, gCs_cons, gNl_nil, iIt_ap, items_list, items_tuple, iRange1_ap, rg1_ok, iRange2_ap, rg2_ok, tYesF_ap, nxt_nx, nxt_rt, nxt_ex, nxt_bk, nxt_ct, sSeq_ap, sNil_ap, sBk_ap, sCt_ap, sRaise_ap, sExpr_ap, sRet_ap, sRetN_ap, ifs_t, ifs_f, ifs_ex, sIf_ap, sSet_ap, sTgt_ap, kild_nx, kild_ct, kild_rt, kild_bk, kild_ex, kill_ap, wipe_nil, wipe_cons, app0_ok, isLst_ok, sApp0_ap, sFor_ap, sForE_ap, eLc_ap, back_nil, back_cons, bk1_none, bk1_fr, bk1_lst, endD_rt, endD_nx, endD_ex, semD_1, semD_2, semD_3, semD_4, semD_5, semD_6, semD_7, semD_8, outs_nil, outs_cons, frO_fr, opAdd_i, opAddI_i, opSub_i, opMod_i, opFdiv_i, opMul_r, opMul_l, opPow_i, opEq_i, opNe_i, opLt_i, opGt_i, opLe_i, opGe_i, opNeg_i, opLen_list, opLen_tup, opLen_lst, opIx_list, opIx_tup, opIx_lst, frOp_ap, onlyFr_fr, dat_fr, dat_lst, datL_nil, datL_fr, datL_lst, allFr_nil, allFr_cons, asS_list, asS_tup, opList_ap, opTuple_ap, ixN_nat, atI_0, atI_1, atI_2, atI_3, atI_4, atI_map, atI_int, pV_ap, getAt_ap, getP_nil, getP_ix, setAt_ap, setP_nil, setP_ix, pix_ok, pIx_ap, six_ok, sSetIx_ap, pp0_ok, ePop_ap, par2_ok, sPar_ap, aug1_ok, sAug_ap, opIsN_ap, isNoT_none, isNoT_int, isNoT_list, isNoT_tup, isNoT_lst, typT_fr, typT_lst, typD_none, typD_bool, typD_int, typD_str, typD_list, typD_tuple, isa_NoneType_bool, isa_NoneType_int, isa_NoneType_str, isa_NoneType_list, isa_NoneType_tuple, isa_NoneType_dict, isa_bool_bool, isa_bool_int, isa_bool_str, isa_bool_list, isa_bool_tuple, isa_bool_dict, isa_int_bool, isa_int_int, isa_int_str, isa_int_list, isa_int_tuple, isa_int_dict, isa_str_bool, isa_str_int, isa_str_str, isa_str_list, isa_str_tuple, isa_str_dict, isa_list_bool, isa_list_int, isa_list_str, isa_list_list, isa_list_tuple, isa_list_dict, isa_tuple_bool, isa_tuple_int, isa_tuple_str, isa_tuple_list, isa_tuple_tuple, isa_tuple_dict, isa_dict_bool, isa_dict_int, isa_dict_str, isa_dict_list, isa_dict_tuple, isa_dict_dict, opEq_emp, opEq_fe, opIn_ints, Option.bind_some, Option.map_some, List.map_cons, List.map_nil, List.cons_append, List.nil_append, List.append_nil, List.replicate, List.length_cons, List.length_nil, List.set_cons_succ, List.set_cons_zero, Nat.lt_add_one, if_true, if_false, Nat.reduceAdd, Nat.reduceLT, Nat.reduceLeDiff, List.not_mem_nil, List.mem_cons, Nat.reduceEqDiff, or_false, or_true, false_or, true_or, Bool.not_true, Bool.not_false, Bool.false_eq_true, reduceIte, Option.bind_eq_bind, Int.reduceAdd, Int.reduceSub, Int.reduceMul, Int.reduceLT, Int.reduceLE, Int.reduceNeg, Int.cast_ofNat_Int, Int.natCast_one, Int.natCast_zero, Int.reduceEq, Int.reduceNe, Int.toNat_natCast, Int.reduceToNat, Int.reducePow, List.isEmpty_nil, List.isEmpty_cons, List.getElem?_cons_succ, List.getElem?_cons_zero, reduceCtorEq, Nat.succ_eq_add_one, Nat.add_zero, Nat.zero_add, and_self, and_true, true_and, decide_true, decide_false, List.reverse_cons, List.reverse_nil, Option.map_eq_map, Bool.not_eq_true, Bool.not_eq_false, Bool.xor_false, Bool.xor_true, Bool.false_xor, Bool.true_xor, Nat.reduceSub, List.dropLast_cons₂, List.dropLast_singleton, decide_eq_true_eq, List.length_map, Nat.zero_le, e]
theorem equal_ok : ∀ (n : Nat) (d : D), eqb n d = true → law_equal_rec n 0 [.fr d, .fr d] = some (.ok (.fr (.bool true)) [some (.fr d), some (.fr d)])
  | 0, _, h => by simp [eqb] at h
  | 1, .list ds, h => by simp [eqb] at h
  | 1, .tuple ds, h => by simp [eqb] at h
  | m + 2, .list ds, h => by
    simp only [eqb, Bool.and_eq_true, List.all_eq_true, decide_eq_true_eq] at h
    have e := all_equal_ok (m := m) (x := .list ds) (fun d hd => equal_ok m d (h.1 d hd)) h.2 rfl fun _ => rfl
    show semD 2 0 [] (law_equal_b (law_equal_rec (m + 1) 0) (law_equal_rec (m + 1) 1)) _ = _
    unfold law_equal_b
    simp only [opEq_s, opNe_s, opIn_s2, opIn_i2, ofString_inj, String.reduceEq, truth_tup, opAbs_i, Bool.or_false, Bool.or_true, Bool.false_or, Bool.true_or, gsx_ok, gSi_ap, sxf_ok, sxe_ok, sSetIxE_ap, sx0_ok, sExt0_ap, par3_ok, sPar3_ap, kMt_ap, kLenSet_ap, iRange3_ap, opCount_fr, dat_map, opEq_lists, opEq_2, opNe_bl, opEq_bl, datL_map, sTry_ap, tryR_nx, tryR_rt, tryR_ex, hdl_t, hdl_f, handle_nil, handle_ap, asL_list, asL_map, opSum_fr, opSum_lst, opMin_2, opMax_2, opSl_list, opSl_map, opSl_tup, cutL_map, bnd_ok, bnd_ex, ofR_ok, ofR_ex, SZ_eq, kC_ap, slot_c0, slot_cs, kV_ap, frR_ok, kOk_ap, k1_ap, k2_ap, e1_ap, okR_ok, e2a_ok, e2b_ok, e2a_ex, e2b_ex, e2_ap, eMv_ap, cpk_ok, eCp_ap, eFz_ap, kNil_ap, kCons_ap, eNil_ap, ecb_ok, ecb_ex, eca_ok, eca_ex, eCons_ap, eBor_ap, rT_ok, kCall_ap, rE_ok, rE_ex, rA_ok, eCall_ap, takeA_nil, tkc_ok, takeA_own, takeA_bor, putA_nil, putA_own, putA_bor, allF_nil, allF_cons, tV_ap, tVK_ap, tB_ap, tBK_ap, tNot_ap, tan_t, tan_f, tan_ex, tor_t, tor_f, tor_ex, tAnd_ap, tOr_ap, isB_bl, truth_bl, truth_lst, truth_list, truth_int, ean_t, ean_f, eAnd_ap, eor_t, eor_f, eOr_ap, eNot_ap, ifk_t, ifk_f, ifk_ex, eIf_ap, chk_t, chk_f, kCh_ap, kN_ap, eN_ap, ownsA_nil, ownsA_own, kTup_ap, kLst_ap, eTup_ap, eLst_ap, kIsi_ap, kSl_ap, eSl_ap, parI_ok, kPart_ap, kNoPart_ap, kRev_ap, gN_ap, gTp_tup, gCs_cons, gNl_nil, iIt_ap, items_list, items_tuple, iRange1_ap, rg1_ok, iRange2_ap, rg2_ok, tYesF_ap, nxt_nx, nxt_rt, nxt_ex, nxt_bk, nxt_ct, sSeq_ap, sNil_ap, sBk_ap, sCt_ap, sRaise_ap, sExpr_ap, sRet_ap, sRetN_ap, ifs_t, ifs_f, ifs_ex, sIf_ap, sSet_ap, sTgt_ap, kild_nx, kild_ct, kild_rt, kild_bk, kild_ex, kill_ap, wipe_nil, wipe_cons, app0_ok, isLst_ok, sApp0_ap, sFor_ap, sForE_ap, eLc_ap, back_nil, back_cons, bk1_none, bk1_fr, bk1_lst, endD_rt, endD_nx, endD_ex, semD_1, semD_2, semD_3, semD_4, semD_5, semD_6, semD_7, semD_8, outs_nil, outs_cons, frO_fr, opAdd_i, opAddI_i, opSub_i, opMod_i, opFdiv_i, opMul_r, opMul_l, opPow_i, opEq_i, opNe_i, opLt_i, opGt_i, opLe_i, opGe_i, opNeg_i, opLen_list, opLen_tup, opLen_lst, opIx_list, opIx_tup, opIx_lst, frOp_ap, onlyFr_fr, dat_fr, dat_lst, datL_nil, datL_fr, datL_lst, allFr_nil, allFr_cons, asS_list, asS_tup, opList_ap, opTuple_ap, ixN_nat, atI_0, atI_1, atI_2, atI_3, atI_4, atI_map, atI_int, pV_ap, getAt_ap, getP_nil, getP_ix, setAt_ap, setP_nil, setP_ix, pix_ok, pIx_ap, six_ok, sSetIx_ap, pp0_ok, ePop_ap, par2_ok, sPar_ap, aug1_ok, sAug_ap, opIsN_ap, isNoT_none, isNoT_int, isNoT_list, isNoT_tup, isNoT_lst, typT_fr, typT_lst, typD_none, typD_bool, typD_int, typD_str, typD_list, typD_tuple, isa_NoneType_bool, isa_NoneType_int, isa_NoneType_str, isa_NoneType_list, isa_NoneType_tuple, isa_NoneType_dict, isa_bool_bool, isa_bool_int, isa_bool_str, isa_bool_list, isa_bool_tuple, isa_bool_dict, isa_int_bool, isa_int_int, isa_int_str, isa_int_list, isa_int_tuple, isa_int_dict, isa_str_bool, isa_str_int, isa_str_str, isa_str_list, isa_str_tuple, isa_str_dict, isa_list_bool, isa_list_int, isa_list_str, isa_list_list, isa_list_tuple, isa_list_dict, isa_tuple_bool, isa_tuple_int, isa_tuple_str, isa_tuple_list, isa_tuple_tuple, isa_tuple_dict, isa_dict_bool, isa_dict_int, isa_dict_str, isa_dict_list, isa_dict_tuple, isa_dict_dict, opEq_emp, opEq_fe, opIn_ints, Option.bind_some, Option.map_some, List.map_cons, List.map_nil, List.cons_append, List.nil_append, List.append_nil, List.replicate, List.length_cons, List.length_nil, List.set_cons_succ, List.set_cons_zero, Nat.lt_add_one, if_true, if_false, Nat.reduceAdd, Nat.reduceLT, Nat.reduceLeDiff, List.not_mem_nil, List.mem_cons, Nat.reduceEqDiff, or_false, or_true, false_or, true_or, Bool.not_true, Bool.not_false, Bool.false_eq_true, reduceIte, Option.bind_eq_bind, Int.reduceAdd, Int.reduceSub, Int.reduceMul, Int.reduceLT, Int.reduceLE, Int.reduceNeg, Int.cast_ofNat_Int, Int.natCast_one, Int.natCast_zero, Int.reduceEq, Int.reduceNe, Int.toNat_natCast, Int.reduceToNat, Int.reducePow, List.isEmpty_nil, List.isEmpty_cons, List.getElem?_cons_succ, List.getElem?_cons_zero, reduceCtorEq, Nat.succ_eq_add_one, Nat.add_zero, Nat.zero_add, and_self, and_true, true_and, decide_true, decide_false, List.reverse_cons, List.reverse_nil, Option.map_eq_map, Bool.not_eq_true, Bool.not_eq_false, Bool.xor_false, Bool.xor_true, Bool.false_xor, Bool.true_xor, Nat.reduceSub, List.dropLast_cons₂, List.dropLast_singleton, decide_eq_true_eq, List.length_map, Nat.zero_le, e]
  | m + 2, .tuple ds, h => by
    simp only [eqb, Bool.and_eq_true, List.all_eq_true, decide_eq_true_eq] at h
    have e := all_equal_ok (m := m) (x := .tuple ds) (fun d hd => equal_ok m d (h.1 d hd)) h.2 rfl fun _ => rfl
    show semD 2 0 [] (law_equal_b (law_equal_rec (m + 1) 0) (law_equal_rec (m + 1) 1)) _ = _
    unfold law_equal_b
    simp only [opEq_s, opNe_s, opIn_s2, opIn_i2, ofString_inj, String.reduceEq, truth_tup, opAbs_i, Bool.or_false, Bool.or_true, Bool.false_or, Bool.true_or, gsx_ok, gSi_ap, sxf_ok, sxe_ok, sSetIxE_ap, sx0_ok, sExt0_ap, par3_ok, sPar3_ap, kMt_ap, kLenSet_ap, iRange3_ap, opCount_fr, dat_map, opEq_lists, opEq_2, opNe_bl, opEq_bl, datL_map, sTry_ap, tryR_nx, tryR_rt, tryR_ex, hdl_t, hdl_f, handle_nil, handle_ap, asL_list, asL_map, opSum_fr, opSum_lst, opMin_2, opMax_2, opSl_list, opSl_map, opSl_tup, cutL_map, bnd_ok, bnd_ex, ofR_ok, ofR_ex, SZ_eq, kC_ap, slot_c0, slot_cs, kV_ap, frR_ok, kOk_ap, k1_ap, k2_ap, e1_ap, okR_ok, e2a_ok, e2b_ok, e2a_ex, e2b_ex, e2_ap, eMv_ap, cpk_ok, eCp_ap, eFz_ap, kNil_ap, kCons_ap, eNil_ap, ecb_ok, ecb_ex, eca_ok, eca_ex, eCons_ap, eBor_ap, rT_ok, kCall_ap, rE_ok, rE_ex, rA_ok, eCall_ap, takeA_nil, tkc_ok, takeA_own, takeA_bor, putA_nil, putA_own, putA_bor, allF_nil, allF_cons, tV_ap, tVK_ap, tB_ap, tBK_ap, tNot_ap, tan_t, tan_f, tan_ex, tor_t, tor_f, tor_ex, tAnd_ap, tOr_ap, isB_bl, truth_bl, truth_lst, truth_list, truth_int, ean_t, ean_f, eAnd_ap, eor_t, eor_f, eOr_ap, eNot_ap, ifk_t, ifk_f, ifk_ex, eIf_ap, chk_t, chk_f, kCh_ap, kN_ap, eN_ap, ownsA_nil, ownsA_own, kTup_ap, kLst_ap, eTup_ap, eLst_ap, kIsi_ap, kSl_ap, eSl_ap, parI_ok, kPart_ap, kNoPart_ap, kRev_ap, gN_ap, gTp_tup, gCs_cons, gNl_nil, iIt_ap, items_list, items_tuple, iRange1_ap, rg1_ok, iRange2_ap, rg2_ok, tYesF_ap, nxt_nx, nxt_rt, nxt_ex, nxt_bk, nxt_ct, sSeq_ap, sNil_ap, sBk_ap, sCt_ap, sRaise_ap, sExpr_ap, sRet_ap, sRetN_ap, ifs_t, ifs_f, ifs_ex, sIf_ap, sSet_ap, sTgt_ap, kild_nx, kild_ct, kild_rt, kild_bk, kild_ex, kill_ap, wipe_nil, wipe_cons, app0_ok, isLst_ok, sApp0_ap, sFor_ap, sForE_ap, eLc_ap, back_nil, back_cons, bk1_none, bk1_fr, bk1_lst, endD_rt, endD_nx, endD_ex, semD_1, semD_2, semD_3, semD_4, semD_5, semD_6, semD_7, semD_8, outs_nil, outs_cons, frO_fr, opAdd_i, opAddI_i, opSub_i, opMod_i, opFdiv_i, opMul_r, opMul_l, opPow_i, opEq_i, opNe_i, opLt_i, opGt_i, opLe_i, opGe_i, opNeg_i, opLen_list, opLen_tup, opLen_lst, opIx_list, opIx_tup, opIx_lst, frOp_ap, onlyFr_fr, dat_fr, dat_lst, datL_nil, datL_fr, datL_lst, allFr_nil, allFr_cons, asS_list, asS_tup, opList_ap, opTuple_ap, ixN_nat, atI_0, atI_1, atI_2, atI_3, atI_4, atI_map, atI_int, pV_ap, getAt_ap, getP_nil, getP_ix, setAt_ap, setP_nil, setP_ix, pix_ok, pIx_ap, six_ok, sSetIx_ap, pp0_ok, ePop_ap, par2_ok, sPar_ap, aug1_ok, sAug_ap, opIsN_ap, isNoT_none, isNoT_int, isNoT_list, isNoT_tup, isNoT_lst, typT_fr, typT_lst, typD_none, typD_bool, typD_int, typD_str, typD_list, typD_tuple, isa_NoneType_bool, isa_NoneType_int, isa_NoneType_str, isa_NoneType_list, isa_NoneType_tuple, isa_NoneType_dict, isa_bool_bool, isa_bool_int, isa_bool_str, isa_bool_list, isa_bool_tuple, isa_bool_dict, isa_int_bool, isa_int_int, isa_int_str, isa_int_list, isa_int_tuple, isa_int_dict, isa_str_bool, isa_str_int, isa_str_str, isa_str_list, isa_str_tuple, isa_str_dict, isa_list_bool, isa_list_int, isa_list_str, isa_list_list, isa_list_tuple, isa_list_dict, isa_tuple_bool, isa_tuple_int, isa_tuple_str, isa_tuple_list, isa_tuple_tuple, isa_tuple_dict, isa_dict_bool, isa_dict_int, isa_dict_str, isa_dict_list, isa_dict_tuple, isa_dict_dict, opEq_emp, opEq_fe, opIn_ints, Option.bind_some, Option.map_some, List.map_cons, List.map_nil, List.cons_append, List.nil_append, List.append_nil, List.replicate, List.length_cons, List.length_nil, List.set_cons_succ, List.set_cons_zero, Nat.lt_add_one, if_true, if_false, Nat.reduceAdd, Nat.reduceLT, Nat.reduceLeDiff, List.not_mem_nil, List.mem_cons, Nat.reduceEqDiff, or_false, or_true, false_or, true_or, Bool.not_true, Bool.not_false, Bool.false_eq_true, reduceIte, Option.bind_eq_bind, Int.reduceAdd, Int.reduceSub, Int.reduceMul, Int.reduceLT, Int.reduceLE, Int.reduceNeg, Int.cast_ofNat_Int, Int.natCast_one, Int.natCast_zero, Int.reduceEq, Int.reduceNe, Int.toNat_natCast, Int.reduceToNat, Int.reducePow, List.isEmpty_nil, List.isEmpty_cons, List.getElem?_cons_succ, List.getElem?_cons_zero, reduceCtorEq, Nat.succ_eq_add_one, Nat.add_zero, Nat.zero_add, and_self, and_true, true_and, decide_true, decide_false, List.reverse_cons, List.reverse_nil, Option.map_eq_map, Bool.not_eq_true, Bool.not_eq_false, Bool.xor_false, Bool.xor_true, Bool.false_xor, Bool.true_xor, Nat.reduceSub, List.dropLast_cons₂, List.dropLast_singleton, decide_eq_true_eq, List.length_map, Nat.zero_le, e]
  | n + 1, .dict _, h => by simp [eqb] at h
  | n + 1, .none, h => by
    show semD 2 0 [] (law_equal_b (law_equal_rec n 0) (law_equal_rec n 1)) _ = _
    unfold law_equal_b
    simp only [opEq_s, opNe_s, opIn_s2, opIn_i2, ofString_inj, String.reduceEq, truth_tup, opAbs_i, Bool.or_false, Bool.or_true, Bool.false_or, Bool.true_or, gsx_ok, gSi_ap, sxf_ok, sxe_ok, sSetIxE_ap, sx0_ok, sExt0_ap, par3_ok, sPar3_ap, kMt_ap, kLenSet_ap, iRange3_ap, opCount_fr, dat_map, opEq_lists, opEq_2, opNe_bl, opEq_bl, datL_map, sTry_ap, tryR_nx, tryR_rt, tryR_ex, hdl_t, hdl_f, handle_nil, handle_ap, asL_list, asL_map, opSum_fr, opSum_lst, opMin_2, opMax_2, opSl_list, opSl_map, opSl_tup, cutL_map, bnd_ok, bnd_ex, ofR_ok, ofR_ex, SZ_eq, kC_ap, slot_c0, slot_cs, kV_ap, frR_ok, kOk_ap, k1_ap, k2_ap, e1_ap, okR_ok, e2a_ok, e2b_ok, e2a_ex, e2b_ex, e2_ap, eMv_ap, cpk_ok, eCp_ap, eFz_ap, kNil_ap, kCons_ap, eNil_ap, ecb_ok, ecb_ex, eca_ok, eca_ex, eCons_ap, eBor_ap, rT_ok, kCall_ap, rE_ok, rE_ex, rA_ok, eCall_ap, takeA_nil, tkc_ok, takeA_own, takeA_bor, putA_nil, putA_own, putA_bor, allF_nil, allF_cons, tV_ap, tVK_ap, tB_ap, tBK_ap, tNot_ap, tan_t, tan_f, tan_ex, tor_t, tor_f, tor_ex, tAnd_ap, tOr_ap, isB_bl, truth_bl, truth_lst, truth_list, truth_int, ean_t, ean_f, eAnd_ap, eor_t, eor_f, eOr_ap, eNot_ap, ifk_t, ifk_f, ifk_ex, eIf_ap, chk_t, chk_f, kCh_ap, kN_ap, eN_ap, ownsA_nil, ownsA_own, kTup_ap, kLst_ap, eTup_ap, eLst_ap, kIsi_ap, kSl_ap, eSl_ap, parI_ok, kPart_ap, kNoPart_ap, kRev_ap, gN_ap, gTp_tup, gCs_cons, gNl_nil, iIt_ap, items_list, items_tuple, iRange1_ap, rg1_ok, iRange2_ap, rg2_ok, tYesF_ap, nxt_nx, nxt_rt, nxt_ex, nxt_bk, nxt_ct, sSeq_ap, sNil_ap, sBk_ap, sCt_ap, sRaise_ap, sExpr_ap, sRet_ap, sRetN_ap, ifs_t, ifs_f, ifs_ex, sIf_ap, sSet_ap, sTgt_ap, kild_nx, kild_ct, kild_rt, kild_bk, kild_ex, kill_ap, wipe_nil, wipe_cons, app0_ok, isLst_ok, sApp0_ap, sFor_ap, sForE_ap, eLc_ap, back_nil, back_cons, bk1_none, bk1_fr, bk1_lst, endD_rt, endD_nx, endD_ex, semD_1, semD_2, semD_3, semD_4, semD_5, semD_6, semD_7, semD_8, outs_nil, outs_cons, frO_fr, opAdd_i, opAddI_i, opSub_i, opMod_i, opFdiv_i, opMul_r, opMul_l, opPow_i, opEq_i, opNe_i, opLt_i, opGt_i, opLe_i, opGe_i, opNeg_i, opLen_list, opLen_tup, opLen_lst, opIx_list, opIx_tup, opIx_lst, frOp_ap, onlyFr_fr, dat_fr, dat_lst, datL_nil, datL_fr, datL_lst, allFr_nil, allFr_cons, asS_list, asS_tup, opList_ap, opTuple_ap, ixN_nat, atI_0, atI_1, atI_2, atI_3, atI_4, atI_map, atI_int, pV_ap, getAt_ap, getP_nil, getP_ix, setAt_ap, setP_nil, setP_ix, pix_ok, pIx_ap, six_ok, sSetIx_ap, pp0_ok, ePop_ap, par2_ok, sPar_ap, aug1_ok, sAug_ap, opIsN_ap, isNoT_none, isNoT_int, isNoT_list, isNoT_tup, isNoT_lst, typT_fr, typT_lst, typD_none, typD_bool, typD_int, typD_str, typD_list, typD_tuple, isa_NoneType_bool, isa_NoneType_int, isa_NoneType_str, isa_NoneType_list, isa_NoneType_tuple, isa_NoneType_dict, isa_bool_bool, isa_bool_int, isa_bool_str, isa_bool_list, isa_bool_tuple, isa_bool_dict, isa_int_bool, isa_int_int, isa_int_str, isa_int_list, isa_int_tuple, isa_int_dict, isa_str_bool, isa_str_int, isa_str_str, isa_str_list, isa_str_tuple, isa_str_dict, isa_list_bool, isa_list_int, isa_list_str, isa_list_list, isa_list_tuple, isa_list_dict, isa_tuple_bool, isa_tuple_int, isa_tuple_str, isa_tuple_list, isa_tuple_tuple, isa_tuple_dict, isa_dict_bool, isa_dict_int, isa_dict_str, isa_dict_list, isa_dict_tuple, isa_dict_dict, opEq_emp, opEq_fe, opIn_ints, Option.bind_some, Option.map_some, List.map_cons, List.map_nil, List.cons_append, List.nil_append, List.append_nil, List.replicate, List.length_cons, List.length_nil, List.set_cons_succ, List.set_cons_zero, Nat.lt_add_one, if_true, if_false, Nat.reduceAdd, Nat.reduceLT, Nat.reduceLeDiff, List.not_mem_nil, List.mem_cons, Nat.reduceEqDiff, or_false, or_true, false_or, true_or, Bool.not_true, Bool.not_false, Bool.false_eq_true, reduceIte, Option.bind_eq_bind, Int.reduceAdd, Int.reduceSub, Int.reduceMul, Int.reduceLT, Int.reduceLE, Int.reduceNeg, Int.cast_ofNat_Int, Int.natCast_one, Int.natCast_zero, Int.reduceEq, Int.reduceNe, Int.toNat_natCast, Int.reduceToNat, Int.reducePow, List.isEmpty_nil, List.isEmpty_cons, List.getElem?_cons_succ, List.getElem?_cons_zero, reduceCtorEq, Nat.succ_eq_add_one, Nat.add_zero, Nat.zero_add, and_self, and_true, true_and, decide_true, decide_false, List.reverse_cons, List.reverse_nil, Option.map_eq_map, Bool.not_eq_true, Bool.not_eq_false, Bool.xor_false, Bool.xor_true, Bool.false_xor, Bool.true_xor, Nat.reduceSub, List.dropLast_cons₂, List.dropLast_singleton, decide_eq_true_eq, List.length_map, Nat.zero_le]
  | n + 1, .bool b, h => by
    show semD 2 0 [] (law_equal_b (law_equal_rec n 0) (law_equal_rec n 1)) _ = _
    unfold law_equal_b
    simp only [opEq_s, opNe_s, opIn_s2, opIn_i2, ofString_inj, String.reduceEq, truth_tup, opAbs_i, Bool.or_false, Bool.or_true, Bool.false_or, Bool.true_or, gsx_ok, gSi_ap, sxf_ok, sxe_ok, sSetIxE_ap, sx0_ok, sExt0_ap, par3_ok, sPar3_ap, kMt_ap, kLenSet_ap, iRange3_ap, opCount_fr, dat_map, opEq_lists, opEq_2, opNe_bl, opEq_bl, datL_map, sTry_ap, tryR_nx, tryR_rt, tryR_ex, hdl_t, hdl_f, handle_nil, handle_ap, asL_list, asL_map, opSum_fr, opSum_lst, opMin_2, opMax_2, opSl_list, opSl_map, opSl_tup, cutL_map, bnd_ok, bnd_ex, ofR_ok, ofR_ex, SZ_eq, kC_ap, slot_c0, slot_cs, kV_ap, frR_ok, kOk_ap, k1_ap, k2_ap, e1_ap, okR_ok, e2a_ok, e2b_ok, e2a_ex, e2b_ex, e2_ap, eMv_ap, cpk_ok, eCp_ap, eFz_ap, kNil_ap, kCons_ap, eNil_ap, ecb_ok, ecb_ex, eca_ok, eca_ex, eCons_ap, eBor_ap, rT_ok, kCall_ap, rE_ok, rE_ex, rA_ok, eCall_ap, takeA_nil, tkc_ok, takeA_own, takeA_bor, putA_nil, putA_own, putA_bor, allF_nil, allF_cons, tV_ap, tVK_ap, tB_ap, tBK_ap, tNot_ap, tan_t, tan_f, tan_ex, tor_t, tor_f, tor_ex, tAnd_ap, tOr_ap, isB_bl, truth_bl, truth_lst, truth_list, truth_int, ean_t, ean_f, eAnd_ap, eor_t, eor_f, eOr_ap, eNot_ap, ifk_t, ifk_f, ifk_ex, eIf_ap, chk_t, chk_f, kCh_ap, kN_ap, eN_ap, ownsA_nil, ownsA_own, kTup_ap, kLst_ap, eTup_ap, eLst_ap, kIsi_ap, kSl_ap, eSl_ap, parI_ok, kPart_ap, kNoPart_ap, kRev_ap, gN_ap, gTp_tup, gCs_cons, gNl_nil, iIt_ap, items_list, items_tuple, iRange1_ap, rg1_ok, iRange2_ap, rg2_ok, tYesF_ap, nxt_nx, nxt_rt, nxt_ex, nxt_bk, nxt_ct, sSeq_ap, sNil_ap, sBk_ap, sCt_ap, sRaise_ap, sExpr_ap, sRet_ap, sRetN_ap, ifs_t, ifs_f, ifs_ex, sIf_ap, sSet_ap, sTgt_ap, kild_nx, kild_ct, kild_rt, kild_bk, kild_ex, kill_ap, wipe_nil, wipe_cons, app0_ok, isLst_ok, sApp0_ap, sFor_ap, sForE_ap, eLc_ap, back_nil, back_cons, bk1_none, bk1_fr, bk1_lst, endD_rt, endD_nx, endD_ex, semD_1, semD_2, semD_3, semD_4, semD_5, semD_6, semD_7, semD_8, outs_nil, outs_cons, frO_fr, opAdd_i, opAddI_i, opSub_i, opMod_i, opFdiv_i, opMul_r, opMul_l, opPow_i, opEq_i, opNe_i, opLt_i, opGt_i, opLe_i, opGe_i, opNeg_i, opLen_list, opLen_tup, opLen_lst, opIx_list, opIx_tup, opIx_lst, frOp_ap, onlyFr_fr, dat_fr, dat_lst, datL_nil, datL_fr, datL_lst, allFr_nil, allFr_cons, asS_list, asS_tup, opList_ap, opTuple_ap, ixN_nat, atI_0, atI_1, atI_2, atI_3, atI_4, atI_map, atI_int, pV_ap, getAt_ap, getP_nil, getP_ix, setAt_ap, setP_nil, setP_ix, pix_ok, pIx_ap, six_ok, sSetIx_ap, pp0_ok, ePop_ap, par2_ok, sPar_ap, aug1_ok, sAug_ap, opIsN_ap, isNoT_none, isNoT_int, isNoT_list, isNoT_tup, isNoT_lst, typT_fr, typT_lst, typD_none, typD_bool, typD_int, typD_str, typD_list, typD_tuple, isa_NoneType_bool, isa_NoneType_int, isa_NoneType_str, isa_NoneType_list, isa_NoneType_tuple, isa_NoneType_dict, isa_bool_bool, isa_bool_int, isa_bool_str, isa_bool_list, isa_bool_tuple, isa_bool_dict, isa_int_bool, isa_int_int, isa_int_str, isa_int_list, isa_int_tuple, isa_int_dict, isa_str_bool, isa_str_int, isa_str_str, isa_str_list, isa_str_tuple, isa_str_dict, isa_list_bool, isa_list_int, isa_list_str, isa_list_list, isa_list_tuple, isa_list_dict, isa_tuple_bool, isa_tuple_int, isa_tuple_str, isa_tuple_list, isa_tuple_tuple, isa_tuple_dict, isa_dict_bool, isa_dict_int, isa_dict_str, isa_dict_list, isa_dict_tuple, isa_dict_dict, opEq_emp, opEq_fe, opIn_ints, Option.bind_some, Option.map_some, List.map_cons, List.map_nil, List.cons_append, List.nil_append, List.append_nil, List.replicate, List.length_cons, List.length_nil, List.set_cons_succ, List.set_cons_zero, Nat.lt_add_one, if_true, if_false, Nat.reduceAdd, Nat.reduceLT, Nat.reduceLeDiff, List.not_mem_nil, List.mem_cons, Nat.reduceEqDiff, or_false, or_true, false_or, true_or, Bool.not_true, Bool.not_false, Bool.false_eq_true, reduceIte, Option.bind_eq_bind, Int.reduceAdd, Int.reduceSub, Int.reduceMul, Int.reduceLT, Int.reduceLE, Int.reduceNeg, Int.cast_ofNat_Int, Int.natCast_one, Int.natCast_zero, Int.reduceEq, Int.reduceNe, Int.toNat_natCast, Int.reduceToNat, Int.reducePow, List.isEmpty_nil, List.isEmpty_cons, List.getElem?_cons_succ, List.getElem?_cons_zero, reduceCtorEq, Nat.succ_eq_add_one, Nat.add_zero, Nat.zero_add, and_self, and_true, true_and, decide_true, decide_false, List.reverse_cons, List.reverse_nil, Option.map_eq_map, Bool.not_eq_true, Bool.not_eq_false, Bool.xor_false, Bool.xor_true, Bool.false_xor, Bool.true_xor, Nat.reduceSub, List.dropLast_cons₂, List.dropLast_singleton, decide_eq_true_eq, List.length_map, Nat.zero_le, opEq_self (show okD (.bool b) = true from rfl)]
  | n + 1, .int b, h => by
    show semD 2 0 [] (law_equal_b (law_equal_rec n 0) (law_equal_rec n 1)) _ = _
    unfold law_equal_b
    simp only [opEq_s, opNe_s, opIn_s2, opIn_i2, ofString_inj, String.reduceEq, truth_tup, opAbs_i, Bool.or_false, Bool.or_true, Bool.false_or, Bool.true_or, gsx_ok, gSi_ap, sxf_ok, sxe_ok, sSetIxE_ap, sx0_ok, sExt0_ap, par3_ok, sPar3_ap, kMt_ap, kLenSet_ap, iRange3_ap, opCount_fr, dat_map, opEq_lists, opEq_2, opNe_bl, opEq_bl, datL_map, sTry_ap, tryR_nx, tryR_rt, tryR_ex, hdl_t, hdl_f, handle_nil, handle_ap, asL_list, asL_map, opSum_fr, opSum_lst, opMin_2, opMax_2, opSl_list, opSl_map, opSl_tup, cutL_map, bnd_ok, bnd_ex, ofR_ok, ofR_ex, SZ_eq, kC_ap, slot_c0, slot_cs, kV_ap, frR_ok, kOk_ap, k1_ap, k2_ap, e1_ap, okR_ok, e2a_ok, e2b_ok, e2a_ex, e2b_ex, e2_ap, eMv_ap, cpk_ok, eCp_ap, eFz_ap, kNil_ap, kCons_ap, eNil_ap, ecb_ok, ecb_ex, eca_ok, eca_ex, eCons_ap, eBor_ap, rT_ok, kCall_ap, rE_ok, rE_ex, rA_ok, eCall_ap, takeA_nil, tkc_ok, takeA_own, takeA_bor, putA_nil, putA_own, putA_bor, allF_nil, allF_cons, tV_ap, tVK_ap, tB_ap, tBK_ap, tNot_ap, tan_t, tan_f, tan_ex, tor_t, tor_f, tor_ex, tAnd_ap, tOr_ap, isB_bl, truth_bl, truth_lst, truth_list, truth_int, ean_t, ean_f, eAnd_ap, eor_t, eor_f, eOr_ap, eNot_ap, ifk_t, ifk_f, ifk_ex, eIf_ap, chk_t, chk_f, kCh_ap, kN_ap, eN_ap, ownsA_nil, ownsA_own, kTup_ap, kLst_ap, eTup_ap, eLst_ap, kIsi_ap, kSl_ap, eSl_ap, parI_ok, kPart_ap, kNoPart_ap, kRev_ap, gN_ap, gTp_tup, gCs_cons, gNl_nil, iIt_ap, items_list, items_tuple, iRange1_ap, rg1_ok, iRange2_ap, rg2_ok, tYesF_ap, nxt_nx, nxt_rt, nxt_ex, nxt_bk, nxt_ct, sSeq_ap, sNil_ap, sBk_ap, sCt_ap, sRaise_ap, sExpr_ap, sRet_ap, sRetN_ap, ifs_t, ifs_f, ifs_ex, sIf_ap, sSet_ap, sTgt_ap, kild_nx, kild_ct, kild_rt, kild_bk, kild_ex, kill_ap, wipe_nil, wipe_cons, app0_ok, isLst_ok, sApp0_ap, sFor_ap, sForE_ap, eLc_ap, back_nil, back_cons, bk1_none, bk1_fr, bk1_lst, endD_rt, endD_nx, endD_ex, semD_1, semD_2, semD_3, semD_4, semD_5, semD_6, semD_7, semD_8, outs_nil, outs_cons, frO_fr, opAdd_i, opAddI_i, opSub_i, opMod_i, opFdiv_i, opMul_r, opMul_l, opPow_i, opEq_i, opNe_i, opLt_i, opGt_i, opLe_i, opGe_i, opNeg_i, opLen_list, opLen_tup, opLen_lst, opIx_list, opIx_tup, opIx_lst, frOp_ap, onlyFr_fr, dat_fr, dat_lst, datL_nil, datL_fr, datL_lst, allFr_nil, allFr_cons, asS_list, asS_tup, opList_ap, opTuple_ap, ixN_nat, atI_0, atI_1, atI_2, atI_3, atI_4, atI_map, atI_int, pV_ap, getAt_ap, getP_nil, getP_ix, setAt_ap, setP_nil, setP_ix, pix_ok, pIx_ap, six_ok, sSetIx_ap, pp0_ok, ePop_ap, par2_ok, sPar_ap, aug1_ok, sAug_ap, opIsN_ap, isNoT_none, isNoT_int, isNoT_list, isNoT_tup, isNoT_lst, typT_fr, typT_lst, typD_none, typD_bool, typD_int, typD_str, typD_list, typD_tuple, isa_NoneType_bool, isa_NoneType_int, isa_NoneType_str, isa_NoneType_list, isa_NoneType_tuple, isa_NoneType_dict, isa_bool_bool, isa_bool_int, isa_bool_str, isa_bool_list, isa_bool_tuple, isa_bool_dict, isa_int_bool, isa_int_int, isa_int_str, isa_int_list, isa_int_tuple, isa_int_dict, isa_str_bool, isa_str_int, isa_str_str, isa_str_list, isa_str_tuple, isa_str_dict, isa_list_bool, isa_list_int, isa_list_str, isa_list_list, isa_list_tuple, isa_list_dict, isa_tuple_bool, isa_tuple_int, isa_tuple_str, isa_tuple_list, isa_tuple_tuple, isa_tuple_dict, isa_dict_bool, isa_dict_int, isa_dict_str, isa_dict_list, isa_dict_tuple, isa_dict_dict, opEq_emp, opEq_fe, opIn_ints, Option.bind_some, Option.map_some, List.map_cons, List.map_nil, List.cons_append, List.nil_append, List.append_nil, List.replicate, List.length_cons, List.length_nil, List.set_cons_succ, List.set_cons_zero, Nat.lt_add_one, if_true, if_false, Nat.reduceAdd, Nat.reduceLT, Nat.reduceLeDiff, List.not_mem_nil, List.mem_cons, Nat.reduceEqDiff, or_false, or_true, false_or, true_or, Bool.not_true, Bool.not_false, Bool.false_eq_true, reduceIte, Option.bind_eq_bind, Int.reduceAdd, Int.reduceSub, Int.reduceMul, Int.reduceLT, Int.reduceLE, Int.reduceNeg, Int.cast_ofNat_Int, Int.natCast_one, Int.natCast_zero, Int.reduceEq, Int.reduceNe, Int.toNat_natCast, Int.reduceToNat, Int.reducePow, List.isEmpty_nil, List.isEmpty_cons, List.getElem?_cons_succ, List.getElem?_cons_zero, reduceCtorEq, Nat.succ_eq_add_one, Nat.add_zero, Nat.zero_add, and_self, and_true, true_and, decide_true, decide_false, List.reverse_cons, List.reverse_nil, Option.map_eq_map, Bool.not_eq_true, Bool.not_eq_false, Bool.xor_false, Bool.xor_true, Bool.false_xor, Bool.true_xor, Nat.reduceSub, List.dropLast_cons₂, List.dropLast_singleton, decide_eq_true_eq, List.length_map, Nat.zero_le, opEq_self (show okD (.int b) = true from rfl)]
  | n + 1, .str b, h => by
    show semD 2 0 [] (law_equal_b (law_equal_rec n 0) (law_equal_rec n 1)) _ = _
    unfold law_equal_b
    simp only [opEq_s, opNe_s, opIn_s2, opIn_i2, ofString_inj, String.reduceEq, truth_tup, opAbs_i, Bool.or_false, Bool.or_true, Bool.false_or, Bool.true_or, gsx_ok, gSi_ap, sxf_ok, sxe_ok, sSetIxE_ap, sx0_ok, sExt0_ap, par3_ok, sPar3_ap, kMt_ap, kLenSet_ap, iRange3_ap, opCount_fr, dat_map, opEq_lists, opEq_2, opNe_bl, opEq_bl, datL_map, sTry_ap, tryR_nx, tryR_rt, tryR_ex, hdl_t, hdl_f, handle_nil, handle_ap, asL_list, asL_map, opSum_fr, opSum_lst, opMin_2, opMax_2, opSl_list, opSl_map, opSl_tup, cutL_map, bnd_ok, bnd_ex, ofR_ok, ofR_ex, SZ_eq, kC_ap, slot_c0, slot_cs, kV_ap, frR_ok, kOk_ap, k1_ap, k2_ap, e1_ap, okR_ok, e2a_ok, e2b_ok, e2a_ex, e2b_ex, e2_ap, eMv_ap, cpk_ok, eCp_ap, eFz_ap, kNil_ap, kCons_ap, eNil_ap, ecb_ok, ecb_ex, eca_ok, eca_ex, eCons_ap, eBor_ap, rT_ok, kCall_ap, rE_ok, rE_ex, rA_ok, eCall_ap, takeA_nil, tkc_ok, takeA_own, takeA_bor, putA_nil, putA_own, putA_bor, allF_nil, allF_cons, tV_ap, tVK_ap, tB_ap, tBK_ap, tNot_ap, tan_t, tan_f, tan_ex, tor_t, tor_f, tor_ex, tAnd_ap, tOr_ap, isB_bl, truth_bl, truth_lst, truth_list, truth_int, ean_t, ean_f, eAnd_ap, eor_t, eor_f, eOr_ap, eNot_ap, ifk_t, ifk_f, ifk_ex, eIf_ap, chk_t, chk_f, kCh_ap, kN_ap, eN_ap, ownsA_nil, ownsA_own, kTup_ap, kLst_ap, eTup_ap, eLst_ap, kIsi_ap, kSl_ap, eSl_ap, parI_ok, kPart_ap, kNoPart_ap, kRev_ap, gN_ap, gTp_tup, gCs_cons, gNl_nil, iIt_ap, items_list, items_tuple, iRange1_ap, rg1_ok, iRange2_ap, rg2_ok, tYesF_ap, nxt_nx, nxt_rt, nxt_ex, nxt_bk, nxt_ct, sSeq_ap, sNil_ap, sBk_ap, sCt_ap, sRaise_ap, sExpr_ap, sRet_ap, sRetN_ap, ifs_t, ifs_f, ifs_ex, sIf_ap, sSet_ap, sTgt_ap, kild_nx, kild_ct, kild_rt, kild_bk, kild_ex, kill_ap, wipe_nil, wipe_cons, app0_ok, isLst_ok, sApp0_ap, sFor_ap, sForE_ap, eLc_ap, back_nil, back_cons, bk1_none, bk1_fr, bk1_lst, endD_rt, endD_nx, endD_ex, semD_1, semD_2, semD_3, semD_4, semD_5, semD_6, semD_7, semD_8, outs_nil, outs_cons, frO_fr, opAdd_i, opAddI_i, opSub_i, opMod_i, opFdiv_i, opMul_r, opMul_l, opPow_i, opEq_i, opNe_i, opLt_i, opGt_i, opLe_i, opGe_i, opNeg_i, opLen_list, opLen_tup, opLen_lst, opIx_list, opIx_tup, opIx_lst, frOp_ap, onlyFr_fr, dat_fr, dat_lst, datL_nil, datL_fr, datL_lst, allFr_nil, allFr_cons, asS_list, asS_tup, opList_ap, opTuple_ap, ixN_nat, atI_0, atI_1, atI_2, atI_3, atI_4, atI_map, atI_int, pV_ap, getAt_ap, getP_nil, getP_ix, setAt_ap, setP_nil, setP_ix, pix_ok, pIx_ap, six_ok, sSetIx_ap, pp0_ok, ePop_ap, par2_ok, sPar_ap, aug1_ok, sAug_ap, opIsN_ap, isNoT_none, isNoT_int, isNoT_list, isNoT_tup, isNoT_lst, typT_fr, typT_lst, typD_none, typD_bool, typD_int, typD_str, typD_list, typD_tuple, isa_NoneType_bool, isa_NoneType_int, isa_NoneType_str, isa_NoneType_list, isa_NoneType_tuple, isa_NoneType_dict, isa_bool_bool, isa_bool_int, isa_bool_str, isa_bool_list, isa_bool_tuple, isa_bool_dict, isa_int_bool, isa_int_int, isa_int_str, isa_int_list, isa_int_tuple, isa_int_dict, isa_str_bool, isa_str_int, isa_str_str, isa_str_list, isa_str_tuple, isa_str_dict, isa_list_bool, isa_list_int, isa_list_str, isa_list_list, isa_list_tuple, isa_list_dict, isa_tuple_bool, isa_tuple_int, isa_tuple_str, isa_tuple_list, isa_tuple_tuple, isa_tuple_dict, isa_dict_bool, isa_dict_int, isa_dict_str, isa_dict_list, isa_dict_tuple, isa_dict_dict, opEq_emp, opEq_fe, opIn_ints, Option.bind_some, Option.map_some, List.map_cons, List.map_nil, List.cons_append, List.nil_append, List.append_nil, List.replicate, List.length_cons, List.length_nil, List.set_cons_succ, List.set_cons_zero, Nat.lt_add_one, if_true, if_false, Nat.reduceAdd, Nat.reduceLT, Nat.reduceLeDiff, List.not_mem_nil, List.mem_cons, Nat.reduceEqDiff, or_false, or_true, false_or, true_or, Bool.not_true, Bool.not_false, Bool.false_eq_true, reduceIte, Option.bind_eq_bind, Int.reduceAdd, Int.reduceSub, Int.reduceMul, Int.reduceLT, Int.reduceLE, Int.reduceNeg, Int.cast_ofNat_Int, Int.natCast_one, Int.natCast_zero, Int.reduceEq, Int.reduceNe, Int.toNat_natCast, Int.reduceToNat, Int.reducePow, List.isEmpty_nil, List.isEmpty_cons, List.getElem?_cons_succ, List.getElem?_cons_zero, reduceCtorEq, Nat.succ_eq_add_one, Nat.add_zero, Nat.zero_add, and_self, and_true, true_and, decide_true, decide_false, List.reverse_cons, List.reverse_nil, Option.map_eq_map, Bool.not_eq_true, Bool.not_eq_false, Bool.xor_false, Bool.xor_true, Bool.false_xor, Bool.true_xor, Nat.reduceSub, List.dropLast_cons₂, List.dropLast_singleton, decide_eq_true_eq, List.length_map, Nat.zero_le, opEq_self (show okD (.str b) = true from rfl)]

/-- equal data are told equal -/
theorem same_ok {d : D} (h : eqb 12 d = true) : law_equal d d = .ok true := by
  unfold law_equal
  rw [show law_equal_sem 12 [.fr d, .fr d] = _ from equal_ok 12 d h]
theorem eqb_i {n : Nat} {a : Int} : eqb (n + 1) (eI a) = true := rfl
theorem eqb_b {n : Nat} {a : Bool} : eqb (n + 1) (eB a) = true := rfl
theorem eqb_s {n : Nat} {a : Str} : eqb (n + 1) (eS a) = true := rfl
theorem eqb_u {n : Nat} {a : Unit} : eqb (n + 1) (eU a) = true := rfl
theorem eqb_l {n : Nat} {α : Type} {e : α → D} {xs : List α} (h : ∀ x ∈ xs, eqb n (e x) = true) (hl : xs.length ≤ 16777216) : eqb (n + 2) (eL e xs) = true := by
  show ((xs.map e).all (eqb n) && decide ((xs.map e).length ≤ 16777216)) = true
  simp only [Bool.and_eq_true, List.all_eq_true, decide_eq_true_eq, List.length_map]
  refine ⟨fun d hd => ?_, hl⟩
  obtain ⟨x, hx, rfl⟩ := List.mem_map.mp hd
  exact h x hx
theorem eqb_v {n : Nat} {α : Type} {e : α → D} {xs : List α} (h : ∀ x ∈ xs, eqb n (e x) = true) (hl : xs.length ≤ 16777216) : eqb (n + 2) (eV e xs) = true := by
  show ((xs.map e).all (eqb n) && decide ((xs.map e).length ≤ 16777216)) = true
  simp only [Bool.and_eq_true, List.all_eq_true, decide_eq_true_eq, List.length_map]
  refine ⟨fun d hd => ?_, hl⟩
  obtain ⟨x, hx, rfl⟩ := List.mem_map.mp hd
  exact h x hx
theorem eqb_t2 {n : Nat} {α β : Type} {e : α → D} {f : β → D} {x : α × β} (h1 : eqb n (e x.1) = true) (h2 : eqb n (f x.2) = true) : eqb (n + 2) (eT2 e f x) = true := by
  show (([e x.1, f x.2].all (eqb n)) && _) = true
  simp [h1, h2]
theorem eqb_t3 {n : Nat} {α β γ : Type} {e : α → D} {f : β → D} {g : γ → D} {x : α × β × γ} (h1 : eqb n (e x.1) = true) (h2 : eqb n (f x.2.1) = true) (h3 : eqb n (g x.2.2) = true) : eqb (n + 2) (eT3 e f g x) = true := by
  show (([e x.1, f x.2.1, g x.2.2].all (eqb n)) && _) = true
  simp [h1, h2, h3]
theorem eqb_t4 {n : Nat} {α β γ δ : Type} {e : α → D} {f : β → D} {g : γ → D} {k : δ → D} {x : α × β × γ × δ} (h1 : eqb n (e x.1) = true) (h2 : eqb n (f x.2.1) = true) (h3 : eqb n (g x.2.2.1) = true) (h4 : eqb n (k x.2.2.2) = true) : eqb (n + 2) (eT4 e f g k x) = true := by
  show (([e x.1, f x.2.1, g x.2.2.1, k x.2.2.2].all (eqb n)) && _) = true
  simp [h1, h2, h3, h4]
end K68

set_option maxHeartbeats 1000000
namespace K68
open PySem PySem.Spec PyProof.Rows L2 Lv Lv.Ty
theorem b_as {α β γ : Type} {t : P α} {f : α → P β} {g : β → P γ} : P.bind (P.bind t f) g = P.bind t fun a => P.bind (f a) g := by cases t <;> rfl
theorem b_og {α β γ : Type} {o : Option α} {f : α → P β} {g : β → P γ} : P.bind (og o f) g = og o fun a => P.bind (f a) g := by cases o <;> rfl
theorem bind_split {α ω : Type} {t : P α} {k : α → P ω} {u : P ω} (Q : α → Prop) (h : ∃ a, t = .ok a ∧ Q a) (hk : ∀ a, Q a → k a = u) : P.bind t k = u := by
  obtain ⟨a, e, q⟩ := h
  rw [e]; exact hk a q
theorem bind_splitX {α ω : Type} {Z : ω → Prop} {t : P α} {k : α → P ω} (Q : α → Prop) (h : ∃ a, t = .ok a ∧ Q a) (hk : ∀ a, Q a → ∃ w, k a = .ok w ∧ Z w) : ∃ w, P.bind t k = .ok w ∧ Z w := by
  obtain ⟨a, e, q⟩ := h
  rw [e]; exact hk a q
def Dw (ms : List Int) (s : List Int × Int) : Prop := s.1 = ms ∧ 0 ≤ s.2
theorem dw_draw {ms : List Int} {s : List Int × Int} (h : Dw ms s) : law_draw s = .ok (dv ms s.2, (ms, s.2 + 1)) := by
  obtain ⟨a, i⟩ := s
  obtain ⟨rfl, h2⟩ := h
  exact draw_ok _ _ h2
theorem dw_next {ms : List Int} {i : Int} (h : 0 ≤ i) : Dw ms (ms, i + 1) := ⟨rfl, by show 0 ≤ i + 1; omega⟩
abbrev R := Int × Int × Int × Int × Int
abbrev Ru := Int × Int
structure OkR (r : R) : Prop where
  team : 0 ≤ r.1 ∧ r.1 ≤ 7
  house : 0 ≤ r.2.1 ∧ r.2.1 ≤ 3
  day : 0 ≤ r.2.2.1 ∧ r.2.2.1 ≤ 3
  time : r.2.2.2.1 = -1 ∨ (1 ≤ r.2.2.2.1 ∧ r.2.2.2.1 ≤ 1000000)
  hints : 0 ≤ r.2.2.2.2 ∧ r.2.2.2.2 ≤ 2
def Ne2 (a b : R) : Prop := ¬ (a.1 = b.1 ∧ a.2.1 = b.2.1)
structure Ok (res : List R) : Prop where
  len : 1 ≤ res.length ∧ res.length ≤ 24
  each : ∀ r ∈ res, OkR r
  un : res.Pairwise Ne2
theorem pow6 : powO 10 6 = some 1000000 := by
  unfold powO; rw [if_pos ⟨by decide, by decide, by decide⟩]; rfl
theorem ix4 {a b c d : Int} {k : Int} (h : 0 ≤ k) (h2 : k < 4) : ∃ x, ixO [a, b, c, d] k = some x ∧ (x = a ∨ x = b ∨ x = c ∨ x = d) := by
  rcases (by omega : k = 0 ∨ k = 1 ∨ k = 2 ∨ k = 3) with e | e | e | e <;> subst e <;> exact ⟨_, rfl, by simp⟩
theorem ix3 {a b c : Int} {k : Int} (h : 0 ≤ k) (h2 : k < 3) : ∃ x, ixO [a, b, c] k = some x ∧ (x = a ∨ x = b ∨ x = c) := by
  rcases (by omega : k = 0 ∨ k = 1 ∨ k = 2) with e | e | e <;> subst e <;> exact ⟨_, rfl, by simp⟩
theorem results_ok {ms : List Int} (hm : Few ms) {s : List Int × Int} (hs : Dw ms s) {teams houses : Int} {most : Nat} (ht : 1 ≤ teams ∧ teams ≤ 8) (hh : 1 ≤ houses ∧ houses ≤ 4) (hmo : 1 ≤ most ∧ most ≤ 24) : ∃ w, law_results s teams houses most = .ok w ∧ Ok w.1 ∧ Dw ms w.2 := by
  have dn := fun i => dv_nn (ms := ms) (i := i) hm
  unfold law_results
  rw [rng1_nat (by omega), g_s]
  refine bind_splitX (fun (w : (List Int × Int) × List R) => Dw ms w.1 ∧ w.2.length ≤ most ∧ (0 < most → 1 ≤ w.2.length) ∧ (∀ r ∈ w.2, OkR r) ∧ w.2.Pairwise Ne2) ?_ ?_
  · refine foldP_upto (fun k (w : (List Int × Int) × List R) => Dw ms w.1 ∧ w.2.length ≤ k ∧ (0 < k → 1 ≤ w.2.length) ∧ (∀ r ∈ w.2, OkR r) ∧ w.2.Pairwise Ne2) most ⟨hs, by simp, fun h => absurd h (by omega), fun r h => (by cases h), .nil⟩ ?_
    rintro k ⟨st, found⟩ hk ⟨d1, h1, h2, h3, h4⟩
    dsimp only at d1 h1 h2 h3 h4 ⊢
    have d2 := dw_next (ms := ms) d1.2
    have d3 := dw_next (ms := ms) d2.2
    have a1 := Int.emod_nonneg (dv ms st.2) (show teams ≠ 0 by omega)
    have a2 := Int.emod_lt_of_pos (dv ms st.2) (show (0 : Int) < teams by omega)
    have b1 := Int.emod_nonneg (dv ms (st.2 + 1)) (show houses ≠ 0 by omega)
    have b2 := Int.emod_lt_of_pos (dv ms (st.2 + 1)) (show (0 : Int) < houses by omega)
    simp only [dw_draw d1, b_ok, mod_ok (show 0 < teams by omega), g_s, dw_draw d2, mod_ok (show 0 < houses by omega)]
    generalize dv ms st.2 % teams = team at a1 a2
    generalize dv ms (st.2 + 1) % houses = house at b1 b2
    by_cases c : (found.filter fun i11 => ((decide (i11.1 = team)) && (decide (i11.2.1 = house)))) = []
    · simp only [c, decide_true, if_true]
      have d4 := dw_next (ms := ms) d3.2
      have d5 := dw_next (ms := ms) d4.2
      have d6 := dw_next (ms := ms) d5.2
      have d7 := dw_next (ms := ms) d6.2
      obtain ⟨time, et, ht2⟩ := ix4 (a := -1) (b := 1 + dv ms (st.2 + 1 + 1) % 6) (c := 1 + dv ms (st.2 + 1 + 1 + 1) % 40) (d := 1000000) (Int.emod_nonneg (dv ms (st.2 + 1 + 1 + 1 + 1)) (show (4 : Int) ≠ 0 by omega)) (Int.emod_lt_of_pos (dv ms (st.2 + 1 + 1 + 1 + 1)) (show (0 : Int) < 4 by omega))
      simp only [dw_draw d3, dw_draw d4, dw_draw d5, dw_draw d6, dw_draw d7, b_ok, pow6, g_s, et, szo_ok (show found.length < 16777216 by omega)]
      refine ⟨_, rfl, dw_next d7.2, by simp; omega, fun _ => by simp, fun r hr => ?_, ?_⟩
      · rcases List.mem_append.mp hr with z | z
        · exact h3 r z
        · simp only [List.mem_singleton] at z
          subst z
          refine ⟨⟨a1, by dsimp only; omega⟩, ⟨b1, by dsimp only; omega⟩, ⟨Int.emod_nonneg _ (by decide), by have := Int.emod_lt_of_pos (dv ms (st.2 + 1 + 1 + 1 + 1 + 1)) (show (0 : Int) < 4 by omega); dsimp only; omega⟩, ?_, ⟨Int.emod_nonneg _ (by decide), by have := Int.emod_lt_of_pos (dv ms (st.2 + 1 + 1 + 1 + 1 + 1 + 1)) (show (0 : Int) < 3 by omega); dsimp only; omega⟩⟩
          dsimp only
          have e1 := Int.emod_nonneg (dv ms (st.2 + 1 + 1)) (show (6 : Int) ≠ 0 by omega)
          have e2 := Int.emod_lt_of_pos (dv ms (st.2 + 1 + 1)) (show (0 : Int) < 6 by omega)
          have e3 := Int.emod_nonneg (dv ms (st.2 + 1 + 1 + 1)) (show (40 : Int) ≠ 0 by omega)
          have e4 := Int.emod_lt_of_pos (dv ms (st.2 + 1 + 1 + 1)) (show (0 : Int) < 40 by omega)
          rcases ht2 with z | z | z | z <;> subst z
          · exact .inl rfl
          · right; omega
          · right; omega
          · right; decide
      · refine List.pairwise_append.mpr ⟨h4, by simp, fun a ha b hb => ?_⟩
        simp only [List.mem_singleton] at hb
        subst hb
        intro ⟨z1, z2⟩
        have : a ∈ found.filter fun i11 => ((decide (i11.1 = team)) && (decide (i11.2.1 = house))) := List.mem_filter.mpr ⟨ha, by simp [z1, z2]⟩
        rw [c] at this; cases this
    · simp only [c, decide_false, Bool.false_eq_true, if_false]
      refine ⟨_, rfl, d3, by dsimp only; omega, fun _ => ?_, h3, h4⟩
      cases found with
      | nil => exact absurd rfl c
      | cons a b => simp
  · rintro ⟨st, found⟩ ⟨d1, h1, h2, h3, h4⟩
    exact ⟨_, rfl, ⟨⟨h2 (by omega), by dsimp only at h1 ⊢; omega⟩, h3, h4⟩, d1⟩
structure OkU (ru : Ru) : Prop where
  lim : 1 ≤ ru.1 ∧ ru.1 ≤ 1000000
  pen : 0 ≤ ru.2 ∧ ru.2 ≤ 1000000
theorem rules_ok {ms : List Int} {s : List Int × Int} (hs : Dw ms s) : ∃ w, law_rules s = .ok w ∧ OkU w.1 ∧ Dw ms w.2 := by
  unfold law_rules
  have d2 := dw_next (ms := ms) hs.2
  obtain ⟨x, ex, hx⟩ := ix3 (a := 5) (b := 30) (c := 1000000) (Int.emod_nonneg (dv ms s.2) (show (3 : Int) ≠ 0 by omega)) (Int.emod_lt_of_pos (dv ms s.2) (show (0 : Int) < 3 by omega))
  obtain ⟨y, ey, hy⟩ := ix4 (a := 0) (b := 1) (c := 7) (d := 1000000) (Int.emod_nonneg (dv ms (s.2 + 1)) (show (4 : Int) ≠ 0 by omega)) (Int.emod_lt_of_pos (dv ms (s.2 + 1)) (show (0 : Int) < 4 by omega))
  simp only [pow6, g_s, dw_draw hs, dw_draw d2, b_ok, ex, ey]
  refine ⟨_, rfl, ⟨?_, ?_⟩, dw_next d2.2⟩
  · dsimp only; omega
  · dsimp only; omega
/-! full times -/
def fu (ru : Ru) (r : R) : Option Int := if r.2.2.2.1 = -1 ∨ ru.1 < r.2.2.2.1 then none else some (r.2.2.2.1 + ru.2 * r.2.2.2.2)
theorem law_full_ok (ru : Ru) {r : R} (h : OkR r) : law_full ru r = .ok (fu ru r) := by
  unfold law_full fu
  have hh := h.hints
  by_cases c : r.2.2.2.1 = -1
  · simp [c]
  · by_cases c2 : ru.1 < r.2.2.2.1
    · simp [c2]
    · simp only [c, c2, decide_false, Bool.or_self, Bool.false_eq_true, if_false, or_self, mul_okr (show -18446744073709551616 < r.2.2.2.2 by omega) (show r.2.2.2.2 < 18446744073709551616 by omega), g_s]
theorem full_of_ok (ru : Ru) {r : R} (h : OkR r) : full_of ru r = .ok (fu ru r) := by
  unfold full_of fu
  have hh := h.hints
  by_cases c : r.2.2.2.1 = -1
  · simp [c, b_ok]
  · by_cases c2 : ru.1 < r.2.2.2.1
    · have c3 : ¬ r.2.2.2.1 ≤ ru.1 := by omega
      simp [c, c2, c3, b_ok]
    · have c3 : r.2.2.2.1 ≤ ru.1 := by omega
      simp only [c, c2, c3, decide_false, decide_true, Bool.not_false, Bool.and_self, if_true, if_false, or_self, mul_okr (show -18446744073709551616 < r.2.2.2.2 by omega) (show r.2.2.2.2 < 18446744073709551616 by omega), g_s, b_ok]
theorem is_num {a lo hi : Int} (h : lo ≤ a) (h2 : a ≤ hi) : is_number a lo hi = true := by
  unfold is_number; simp; omega
theorem num_ok {a lo hi : Int} (h : lo ≤ a) (h2 : a ≤ hi) : check_number a lo hi = .ok () := by
  unfold check_number; rw [is_num h h2]; rfl
theorem is_res {r : R} (h : OkR r) : is_result r = true := by
  have h1 := h.team
  have h2 := h.house
  have h3 := h.day
  have h4 := h.time
  have h5 := h.hints
  unfold is_result
  rw [is_num (show 0 ≤ r.1 by omega) (show r.1 ≤ 200 - 1 by omega), is_num (show 0 ≤ r.2.1 by omega) (show r.2.1 ≤ 20 - 1 by omega), is_num (show 0 ≤ r.2.2.1 by omega) (show r.2.2.1 ≤ 10000 - 1 by omega), is_num (show -1 ≤ r.2.2.2.1 by omega) (show r.2.2.2.1 ≤ 1000000 by omega), is_num (show 0 ≤ r.2.2.2.2 by omega) (show r.2.2.2.2 ≤ 99 by omega)]
  have : ¬ r.2.2.2.1 = 0 := by omega
  simp [this]
theorem check_ok {ru : Ru} (u : OkU ru) {res : List R} (ok : Ok res) : check_results ru res = .ok () := by
  have hl := ok.len
  unfold check_results
  refine bind_then (num_ok u.lim.1 u.lim.2) (bind_then (num_ok u.pen.1 u.pen.2) ?_)
  have e1 : (1 : Int) ≤ res.length := by omega
  have e2 : (res.length : Int) ≤ 500 := by omega
  have e3 : (res.filter fun i3 => (!(is_result i3))) = [] := by
    rw [List.filter_eq_nil_iff]
    intro r hr
    rw [is_res (ok.each r hr)]; simp
  have e4 : lenPO (res.map fun i4 => (i4.1, i4.2.1)) = some (res.length : Int) := by
    unfold lenPO
    rw [if_pos (by rw [List.length_map]; omega), ddA_all ?_, List.length_map]
    refine List.pairwise_map.mpr (ok.un.imp fun h e => h ?_)
    simp only [Prod.mk.injEq] at e
    exact e
  simp only [e1, e2, decide_true, Bool.and_self, Bool.not_true, Bool.false_eq_true, if_false, e3, List.isEmpty_nil, e4, g_s]
theorem full_times_ok {ru : Ru} (u : OkU ru) {res : List R} (ok : Ok res) : full_times ru res = .ok (res.map (fu ru)) := by
  unfold full_times
  refine bind_then (check_ok u ok) ?_
  rw [mapS_pure (v := fu ru) (fun r hr => by
    simp only [full_of_ok ru (ok.each r hr), v_ok, g_s, b_ok, n_ok])]
  rfl
abbrev Ow := Int × Int × Int × Option Int
def ouE (ru : Ru) (r : R) : Ow := (r.1, r.2.1, r.2.2.1, fu ru r)
theorem outs_ok (ru : Ru) {res : List R} (ok : Ok res) : outs ru res = .ok ((res.filter fun r => (fu ru r).isSome).map (ouE ru)) := by
  have hl := ok.len
  unfold outs
  obtain ⟨s, e, done, e1, h1⟩ := foldP_inv (f := fun (one_2 : R) (s1 : List Ow) =>
    (og (full_of ru one_2).val fun c3 =>
    (if c3.isSome = true then
    (og (szO s1) fun found_4 =>
    .ok (found_4 ++ [(one_2.1, one_2.2.1, one_2.2.2.1, c3)]))
    else .ok s1))) (fun r (s : List Ow) => ∃ done, res = done ++ r ∧ s = (done.filter fun r => (fu ru r).isSome).map (ouE ru)) (xs := res) (s := []) ⟨[], rfl, rfl⟩ (fun x r s hx ⟨done, e1, h1⟩ => by
      simp only [full_of_ok ru (ok.each x hx), v_ok, g_s]
      by_cases c : (fu ru x).isSome = true
      · have hsz : s.length < 16777216 := by
          rw [h1, List.length_map]
          have := List.length_filter_le (fun r => (fu ru r).isSome) done
          have := congrArg List.length e1
          simp at this; omega
        simp only [c, if_true, szo_ok hsz, g_s]
        refine ⟨_, rfl, done ++ [x], by rw [e1]; simp, ?_⟩
        rw [h1, List.filter_append, List.map_append]
        simp [c, ouE]
      · simp only [c, Bool.false_eq_true, if_false]
        refine ⟨_, rfl, done ++ [x], by rw [e1]; simp, ?_⟩
        rw [h1, List.filter_append, List.map_append]
        simp [c])
  rw [List.append_nil] at e1
  subst e1
  rw [h1] at e
  exact bind_then e rfl
end K68

set_option maxHeartbeats 1000000
namespace K68
open PySem PySem.Spec PyProof.Rows L2 Lv Lv.Ty
theorem foldP_map {α β σ : Type} {f : β → σ → P σ} {g : α → β} : ∀ {xs : List α} {s : σ}, foldP (xs.map g) s f = foldP xs s fun x => f (g x)
  | [], _ => rfl
  | x :: xs, s => by
    simp only [List.map_cons, foldP]
    congr 1
    funext s1
    exact foldP_map
def rK (res : List R) (k : Int) : R := (atI res k).getD (0, 0, 0, 0, 0)
theorem rK_at {res : List R} {k : Int} (h : 0 ≤ k) (h2 : k < res.length) : ixO res k = some (rK res k) := by
  unfold ixO rK atI
  rw [ixN_nat h h2]
  simp only [Option.bind_some]
  rw [List.getElem?_eq_getElem (by omega)]; rfl
theorem rK_mem {res : List R} {k : Int} (h : 0 ≤ k) (h2 : k < res.length) : rK res k ∈ res := ix_mem (rK_at h h2)
theorem rK_full {res : List R} (ru : Ru) {k : Int} (h : 0 ≤ k) (h2 : k < res.length) : ixO (res.map (fu ru)) k = some (fu ru (rK res k)) := by
  have := rK_at h h2
  unfold ixO at this ⊢
  rw [atI_map, this]; rfl
theorem rK_map (res : List R) : (upto res.length).map (rK res) = res := by
  apply List.ext_getElem
  · simp [upto_len]
  · intro i h1 h2
    simp only [List.getElem_map, upto, List.getElem_range]
    have := rK_at (res := res) (k := (i : Int)) (by omega) (by omega)
    rw [ix_nat h2] at this
    exact (Option.some.inj this).symm
theorem rK_fm {β : Type} (res : List R) (p : R → Bool) (v : R → β) : ((upto res.length).filter fun k => p (rK res k)).map (fun k => v (rK res k)) = (res.filter p).map v := by
  conv => rhs; rw [← rK_map res]
  rw [List.filter_map, List.map_map]; rfl
/-! sorted pairs -/
def le2 (a b : Int × Int) : Prop := a.1 < b.1 ∨ (a.1 = b.1 ∧ a.2 ≤ b.2)
instance (a b : Int × Int) : Decidable (le2 a b) := by unfold le2; infer_instance
theorem leD_II (a b : Int × Int) : leD (eT2 eI eI a) (eT2 eI eI b) = decide (le2 a b) := by
  unfold leD
  rw [ltD_eq]
  show (!PySem.W.dataLt (.tuple [.int b.1, .int b.2]) (.tuple [.int a.1, .int a.2])) = _
  rw [PySem.W.dataLt_ii]
  unfold le2
  by_cases h : b.1 < a.1 ∨ (b.1 = a.1 ∧ b.2 < a.2)
  · have h2 : ¬ (a.1 < b.1 ∨ (a.1 = b.1 ∧ a.2 ≤ b.2)) := by omega
    simp [h, h2]
  · have h2 : a.1 < b.1 ∨ (a.1 = b.1 ∧ a.2 ≤ b.2) := by omega
    simp [h, h2]
theorem sort2_pw (xs : List (Int × Int)) : (sortE (eT2 eI eI) xs).Pairwise le2 := by
  have := List.pairwise_mergeSort (le := fun a b : Int × Int => leD (eT2 eI eI a) (eT2 eI eI b)) (fun a b c h1 h2 => by
    have q1 : le2 a b := of_decide_eq_true ((leD_II a b).symm.trans h1)
    have q2 : le2 b c := of_decide_eq_true ((leD_II b c).symm.trans h2)
    refine (leD_II a c).trans (decide_eq_true ?_)
    unfold le2 at *; omega) (fun a b => by
    rw [leD_II, leD_II]
    by_cases q : le2 a b
    · simp [q]
    · have : le2 b a := by unfold le2 at *; omega
      simp [this]) xs
  exact this.imp fun h => by rw [leD_II, decide_eq_true_eq] at h; exact h
def gP (p : Int × Int) : Option Int × Int := (some p.1, p.2)
theorem sort_own (xs : List (Int × Int)) : sortO (eT2 (eO eI) eI) (xs.map gP) = some ((sortE (eT2 eI eI) xs).map gP) := by
  unfold sortO
  have e : (xs.map gP).map (eT2 (eO eI) eI) = xs.map (eT2 eI eI) := by rw [List.map_map]; rfl
  rw [e, if_pos (canSort_II xs)]
  congr 1
  unfold sortE
  exact (List.map_mergeSort (f := gP) (r := fun a b => leD (eT2 eI eI a) (eT2 eI eI b)) (s := fun a b => leD (eT2 (eO eI) eI a) (eT2 (eO eI) eI b)) fun a _ b _ => rfl).symm
section
variable (ru : Ru) (res : List R) (h : Int)
def pO (r : R) : Bool := decide (r.2.1 = h) && (fu ru r).isSome
def tm (r : R) : Int := (fu ru r).getD 0
def rows : List R := res.filter (pO ru h)
def own : List (Int × Int) := (rows ru res h).map fun r => (tm ru r, r.1)
def S : List (Int × Int) := sortE (eT2 eI eI) (own ru res h)
def lt (t : Int) : Int := (((own ru res h).filter fun p => decide (p.1 < t)).length : Int)
def others : List Int := sortI ((res.filter fun r => decide (r.2.1 = h) && (fu ru r).isNone).map fun r => r.1)
theorem own_g : (own ru res h).map gP = (rows ru res h).map fun r => (fu ru r, r.1) := by
  unfold own
  rw [List.map_map]
  refine List.map_congr_left fun r hr => ?_
  have := (List.mem_filter.mp hr).2
  unfold pO at this
  rw [Bool.and_eq_true] at this
  obtain ⟨t, e⟩ := Option.isSome_iff_exists.mp this.2
  simp only [Function.comp, gP, tm, e, Option.getD_some]
theorem rows_outs : ((((res.filter fun r => (fu ru r).isSome).map (ouE ru)).filter fun i4 => (decide (i4.2.1 = h))).map fun i4 => (i4.2.2.2, i4.1)) = (own ru res h).map gP := by
  rw [own_g, List.filter_map, List.map_map, List.filter_filter]
  rfl
theorem S_perm : (S ru res h).Perm (own ru res h) := sortE_perm
theorem lt_S (t : Int) : lt ru res h t = (((S ru res h).filter fun p => decide (p.1 < t)).length : Int) := by
  unfold lt
  rw [((S_perm ru res h).filter fun p => decide (p.1 < t)).length_eq]
theorem lt_at {done r : List (Int × Int)} {p : Int × Int} (e : S ru res h = done ++ p :: r) (hd : ∀ x ∈ done, x.1 < p.1) : lt ru res h p.1 = done.length := by
  rw [lt_S, e, List.filter_append]
  have pw := sort2_pw (own ru res h)
  have e' : sortE (eT2 eI eI) (own ru res h) = done ++ p :: r := e
  rw [e'] at pw
  have e1 : done.filter (fun x => decide (x.1 < p.1)) = done := List.filter_eq_self.mpr fun x hx => by simpa using hd x hx
  have e2 : (p :: r).filter (fun x => decide (x.1 < p.1)) = [] := List.filter_eq_nil_iff.mpr fun x hx => by
    rcases List.mem_cons.mp hx with z | z
    · subst z; simp
    · have := (List.pairwise_cons.mp (List.pairwise_append.mp pw).2.1).1 x z
      unfold le2 at this
      simp; omega
  rw [e1, e2, List.append_nil]
end
def ent (ru : Ru) (res : List R) (h : Int) (p : Int × Int) : D × Option Int × Int := (eI (1 + lt ru res h p.1), some p.1, p.2)
theorem S_len (ru : Ru) {res : List R} (ok : Ok res) (h : Int) : (S ru res h).length ≤ 24 := by
  rw [(S_perm ru res h).length_eq]
  unfold own rows
  rw [List.length_map]
  have := List.length_filter_le (pO ru h) res
  have := ok.len
  omega
theorem ranked_ok (ru : Ru) {res : List R} (ok : Ok res) (h : Int) : ranked ((own ru res h).map gP) = .ok ((S ru res h).map (ent ru res h)) := by
  have hl := S_len ru ok h
  unfold ranked
  refine og_then (sort_own (own ru res h)) ?_
  show P.bind (foldP ((S ru res h).map gP) _ _) _ = _
  rw [foldP_map]
  obtain ⟨s, e, done, e1, h1⟩ := foldP_inv (f := fun (x3 : Int × Int) (s2 : List (D × (Option Int) × Int)) =>
    P.bind (.ok (((s2.length : Int) + 1) : Int)) fun rank_4 =>
    P.bind ((P.bind (if (!s2.isEmpty) = true then P.bind (og (ixO s2 (-1)) fun x5 => .ok x5) fun g6 => .ok (decide (g6.2.1 = (gP x3).1)) else .ok false) fun p7 => if p7 = true then
    (og (ixO s2 (-1)) fun x8 =>
    .ok x8.1)
    else .ok (eI rank_4))) fun j9 =>
    (og (szO s2) fun found_10 =>
    .ok (found_10 ++ [(j9, (gP x3).1, (gP x3).2)]))) (fun r s => ∃ done, S ru res h = done ++ r ∧ s = done.map (ent ru res h)) (xs := S ru res h) (s := []) ⟨[], rfl, rfl⟩ (fun p r s hp ⟨done, e1, h1⟩ => by
      have hdl : done.length ≤ 24 := by
        have := congrArg List.length e1
        rw [List.length_append] at this; omega
      have pw := sort2_pw (own ru res h)
      have e' : sortE (eT2 eI eI) (own ru res h) = done ++ p :: r := e1
      rw [e'] at pw
      have hle : ∀ x ∈ done, x.1 ≤ p.1 := fun x hx => by
        have := (List.pairwise_append.mp pw).2.2 x hx p (by simp)
        unfold le2 at this; omega
      refine ⟨s ++ [ent ru res h p], ?_, done ++ [p], by rw [e1]; simp, by rw [h1]; simp⟩
      have hsz : szO s = some s := szo_ok (by rw [h1, List.length_map]; omega)
      rw [b_ok]
      rcases List.eq_nil_or_concat done with z | ⟨d', q, z⟩
      · subst z
        simp only [List.map_nil] at h1
        subst h1
        have := lt_at ru res h e1 (fun x hx => by cases hx)
        simp only [List.isEmpty_nil, Bool.not_true, Bool.false_eq_true, if_false, b_ok, hsz, g_s]
        simp [ent, this, gP]
      · rw [List.concat_eq_append] at z
        subst z
        have hne : s ≠ [] := by rw [h1]; simp
        have hlast : ixO s (-1) = some (ent ru res h q) := by
          rw [ix_m1 hne]
          simp [h1]
        have hemp : s.isEmpty = false := by rw [h1]; simp
        simp only [hemp, Bool.not_false, if_true, hlast, g_s, b_ok]
        by_cases c : q.1 = p.1
        · have c2 : (ent ru res h q).2.1 = (gP p).1 := by simp [ent, gP, c]
          simp only [c2, decide_true, if_true, b_ok, hsz, g_s]
          simp [ent, gP, c]
        · have c2 : ¬ (ent ru res h q).2.1 = (gP p).1 := by simp [ent, gP, c]
          have hq := hle q (by simp)
          have := lt_at ru res h e1 (fun x hx => by
            rcases List.mem_append.mp hx with y | y
            · have hxq : le2 x q := by
                have := (List.pairwise_append.mp pw).1
                exact (List.pairwise_append.mp this).2.2 x y q (by simp)
              unfold le2 at hxq; omega
            · simp only [List.mem_singleton] at y; subst y; omega)
          simp only [c2, decide_false, Bool.false_eq_true, if_false, b_ok, hsz, g_s]
          have hlen : (s.length : Int) = lt ru res h p.1 := by rw [this, h1, List.length_map]
          simp [ent, gP, hlen, Int.add_comm])
  rw [List.append_nil] at e1
  subst e1
  rw [h1] at e
  exact bind_then e rfl
theorem un_eq {res : List R} (u : res.Pairwise Ne2) {a b : R} (ha : a ∈ res) (hb : b ∈ res) (h1 : a.1 = b.1) (h2 : a.2.1 = b.2.1) : a = b := by
  induction res with
  | nil => cases ha
  | cons x r ih =>
    obtain ⟨u1, u2⟩ := List.pairwise_cons.mp u
    rcases List.mem_cons.mp ha with z | z
    · rcases List.mem_cons.mp hb with y | y
      · rw [z, y]
      · subst z; exact absurd ⟨h1, h2⟩ (u1 b y)
    · rcases List.mem_cons.mp hb with y | y
      · subst y; exact absurd ⟨h1.symm, h2.symm⟩ (u1 a z)
      · exact ih u2 z y
def outR (ru : Ru) (res : List R) (h : Int) : List (D × Int × Option Int) := (S ru res h).map (fun p => (eI (1 + lt ru res h p.1), p.2, some p.1)) ++ (others ru res h).map fun i => (eU (), i, none)
theorem others_len (ru : Ru) {res : List R} (ok : Ok res) (h : Int) : (others ru res h).length ≤ 24 := by
  unfold others
  rw [(sortI_perm _).length_eq, List.length_map]
  have := List.length_filter_le (fun r => decide (r.2.1 = h) && (fu ru r).isNone) res
  have := ok.len
  omega
theorem ranking_ok {ru : Ru} (u : OkU ru) {res : List R} (ok : Ok res) {h : Int} (hh : 0 ≤ h ∧ h ≤ 19) : ranking ru res h = .ok (outR ru res h) := by
  unfold ranking
  refine bind_then (check_ok u ok) (bind_then (num_ok hh.1 (by omega)) (val_then (outs_ok ru ok) ?_))
  rw [b_ok, rows_outs, b_ok, b_ok]
  have ef : (res.filter fun i8 => ((decide (i8.2.1 = h)) && (!(decide (i8.1 ∈ ((own ru res h).map gP).map fun i6 => i6.2))))) = res.filter fun r => decide (r.2.1 = h) && (fu ru r).isNone := by
    refine List.filter_congr fun r hr => ?_
    by_cases c : r.2.1 = h
    · simp only [c, decide_true, Bool.true_and]
      have hm : (r.1 ∈ ((own ru res h).map gP).map fun i6 => i6.2) ↔ (fu ru r).isSome = true := by
        rw [own_g, List.map_map]
        constructor
        · intro z
          obtain ⟨r', h1, h2⟩ := List.mem_map.mp z
          obtain ⟨h3, h4⟩ := List.mem_filter.mp h1
          unfold pO at h4
          rw [Bool.and_eq_true, decide_eq_true_eq] at h4
          by_cases e : r' = r
          · subst e; exact h4.2
          · exfalso
            exact e (un_eq ok.un h3 hr h2 (h4.1.trans c.symm))
        · intro z
          exact List.mem_map.mpr ⟨r, List.mem_filter.mpr ⟨hr, by unfold pO; simp [c, z]⟩, rfl⟩
      cases e : fu ru r with
      | none =>
        rw [e] at hm
        have : ¬ (r.1 ∈ ((own ru res h).map gP).map fun i6 => i6.2) := fun z => by have := hm.mp z; cases this
        rw [decide_eq_false this]; rfl
      | some t =>
        rw [e] at hm
        have := hm.mpr rfl
        rw [decide_eq_true this]; rfl
    · simp [c]
  rw [ef]
  refine val_then (ranked_ok ru ok h) (og_then (cat_ok ?_) ?_)
  · have h1 := S_len ru ok h
    have h2 := others_len ru ok h
    simp only [List.length_map]
    exact Nat.le_trans (Nat.add_le_add h1 h2) (by decide)
  · unfold outR others
    rw [List.map_map, List.map_map]
    rfl
end K68

set_option maxHeartbeats 1000000
namespace K68
open PySem PySem.Spec PyProof.Rows L2 Lv Lv.Ty
abbrev En := Int × Int × Option Int
def lastT (s : List En) : Option Int := s.getLast?.bind fun e => e.2.2
def eR (ru : Ru) (r : R) : En := (r.2.2.1, r.1, fu ru r)
def stepP (ru : Ru) (s : List En) (r : R) : List En := match lastT s with
  | none => s ++ [eR ru r]
  | some b => if tm ru r < b then s ++ [eR ru r] else s
theorem lastT_snoc (s : List En) (e : En) : lastT (s ++ [e]) = e.2.2 := by simp [lastT]
theorem stepP_len (ru : Ru) (s : List En) (r : R) : (stepP ru s r).length ≤ s.length + 1 := by
  unfold stepP
  split
  · simp
  · split <;> simp
section
variable (ru : Ru) (res : List R) (h : Int)
def Q (d : Int) (r : R) : Bool := decide (r.2.2.1 = d) && pO ru h r
def seq : List R := (upto 4).flatMap fun d => res.filter (Q ru h d)
def rec_ : List En := (seq ru res h).foldl (stepP ru) []
def places : List (Int × Int) := (upto (rows ru res h).length).map fun k => ((rK (rows ru res h) k).2.2.1, k)
def lt2 (a b : Int × Int) : Prop := a.1 < b.1 ∨ (a.1 = b.1 ∧ a.2 < b.2)
theorem seq_eq (hd : ∀ r ∈ rows ru res h, 0 ≤ r.2.2.1 ∧ r.2.2.1 ≤ 3) : (sortE (eT2 eI eI) (places ru res h)).map (fun p => rK (rows ru res h) p.2) = seq ru res h := by
  have el : ∃ L : List (Int × Int), L = (upto 4).flatMap (fun d => ((upto (rows ru res h).length).filter fun k => decide ((rK (rows ru res h) k).2.2.1 = d)).map fun k => (d, k)) := ⟨_, rfl⟩
  obtain ⟨L, hL⟩ := el
  have up : ∀ n, (upto n).Pairwise (· < ·) := fun n => by
    unfold upto
    rw [List.pairwise_map]
    exact List.pairwise_lt_range.imp fun h => by omega
  have pw : L.Pairwise lt2 := by
    rw [hL, List.pairwise_flatMap]
    refine ⟨fun d _ => ?_, (up 4).imp fun {a b} hab x hx y hy => ?_⟩
    · rw [List.pairwise_map]
      exact ((up _).filter _).imp fun q => .inr ⟨rfl, q⟩
    · obtain ⟨k, _, rfl⟩ := List.mem_map.mp hx
      obtain ⟨k', _, rfl⟩ := List.mem_map.mp hy
      exact .inl hab
  have nd : L.Nodup := pw.imp fun q e => by subst e; unfold lt2 at q; omega
  have nd2 : (places ru res h).Nodup := by
    unfold places
    rw [List.Nodup, List.pairwise_map]
    exact (up _).imp fun q e => by simp only [Prod.mk.injEq] at e; omega
  have pm : L.Perm (places ru res h) := by
    rw [List.perm_ext_iff_of_nodup nd nd2]
    rintro ⟨d, k⟩
    rw [hL]
    unfold places
    simp only [List.mem_flatMap, List.mem_map, List.mem_filter, decide_eq_true_eq, Prod.mk.injEq]
    constructor
    · rintro ⟨d', _, k', ⟨h1, h2⟩, h3, h4⟩
      subst h3; subst h4
      exact ⟨k', h1, h2, rfl⟩
    · rintro ⟨k', h1, h2, h3⟩
      subst h3
      have h4 := upto_mem.mp h1
      have h5 := hd _ (rK_mem h4.1 h4.2)
      exact ⟨d, upto_mem.mpr (by omega), k', ⟨h1, h2⟩, rfl, rfl⟩
  have e : sortE (eT2 eI eI) (places ru res h) = L := by
    refine List.Perm.eq_of_pairwise (le := le2) (fun a b _ _ h1 h2 => ?_) (sort2_pw _) (pw.imp fun q => by unfold lt2 at q; unfold le2; omega) (sortE_perm.trans pm.symm)
    unfold le2 at h1 h2
    exact Prod.ext (by omega) (by omega)
  rw [e, hL, List.map_flatMap]
  unfold seq
  congr 1
  funext d
  rw [List.map_map]
  have := rK_fm (rows ru res h) (fun r => decide (r.2.2.1 = d)) (fun r => r)
  rw [List.map_id'] at this
  refine Eq.trans ?_ (this.trans ?_)
  · rfl
  · unfold rows
    rw [List.filter_filter]
    rfl
end
theorem rows5 (ru : Ru) (res : List R) (h : Int) : (((res.filter fun r => (fu ru r).isSome).map (ouE ru)).filter fun i4 => (decide (i4.2.1 = h))) = (rows ru res h).map (ouE ru) := by
  rw [List.filter_map, List.filter_filter]
  rfl
theorem rows_len (ru : Ru) {res : List R} (ok : Ok res) (h : Int) : (rows ru res h).length ≤ 24 := by
  unfold rows
  have := List.length_filter_le (pO ru h) res
  have := ok.len
  omega
theorem row_some {ru : Ru} {res : List R} {h : Int} {r : R} (hr : r ∈ rows ru res h) : r ∈ res ∧ r.2.1 = h ∧ fu ru r = some (tm ru r) := by
  obtain ⟨h1, h2⟩ := List.mem_filter.mp hr
  unfold pO at h2
  rw [Bool.and_eq_true, decide_eq_true_eq] at h2
  obtain ⟨t, e⟩ := Option.isSome_iff_exists.mp h2.2
  exact ⟨h1, h2.1, by unfold tm; rw [e]; rfl⟩
theorem records_ok {ru : Ru} (u : OkU ru) {res : List R} (ok : Ok res) {h : Int} (hh : 0 ≤ h ∧ h ≤ 19) : records ru res h = .ok (rec_ ru res h) := by
  have hl := rows_len ru ok h
  have hday : ∀ r ∈ rows ru res h, 0 ≤ r.2.2.1 ∧ r.2.2.1 ≤ 3 := fun r hr => (ok.each r (row_some hr).1).day
  unfold records
  refine bind_then (check_ok u ok) (bind_then (num_ok hh.1 (by omega)) (val_then (outs_ok ru ok) ?_))
  rw [b_ok, rows5, List.length_map]
  refine og_then (rng1_nat (by omega)) ?_
  have ix : ∀ k : Int, 0 ≤ k → k < (rows ru res h).length → ixO ((rows ru res h).map (ouE ru)) k = some (ouE ru (rK (rows ru res h) k)) := fun k h0 h1 => by
    have := rK_at h0 h1
    unfold ixO at this ⊢
    rw [atI_map, this]; rfl
  refine bind_then (a := ((places ru res h, ()), sortE (eT2 eI eI) (places ru res h))) ?_ ?_
  · rw [mapS_pure (v := fun k => ((rK (rows ru res h) k).2.2.1, k)) (fun k hk => by
      obtain ⟨h1, h2⟩ := upto_mem.mp hk
      simp only [ix k h1 h2, g_s, b_ok, n_ok]; rfl)]
    exact bind_then n_ok (og_then (sortO_II _) rfl)
  obtain ⟨s, e, done, e1, h1⟩ := foldP_inv (f := fun (x18 : Int × Int) (s17 : List En) =>
    (P.bind (if (!(!s17.isEmpty)) = true then .ok true else P.bind (og (ixO ((rows ru res h).map (ouE ru)) x18.2) fun x19 => og (ixO s17 (-1)) fun x20 => og x19.2.2.2 fun u21 => og x20.2.2 fun u22 => .ok (x19, x20, u21, u22)) fun g23 => .ok (decide (g23.2.2.1 < g23.2.2.2))) fun p24 => if p24 = true then
    (og (ixO ((rows ru res h).map (ouE ru)) x18.2) fun x25 =>
    og (ixO ((rows ru res h).map (ouE ru)) x18.2) fun x26 =>
    og (szO s17) fun found_27 =>
    .ok (found_27 ++ [(x18.1, x25.1, x26.2.2.2)]))
    else .ok s17)) (fun r s => ∃ done, sortE (eT2 eI eI) (places ru res h) = done ++ r ∧ s = (done.map fun p => rK (rows ru res h) p.2).foldl (stepP ru) [] ∧ s.length ≤ done.length ∧ ∀ e ∈ s, e.2.2.isSome = true) (xs := sortE (eT2 eI eI) (places ru res h)) (s := []) ⟨[], rfl, rfl, by simp, fun e h => (by cases h)⟩ (fun p r s hp ⟨done, e1, h1, h2, h3⟩ => by
      have hdl : done.length ≤ 24 := by
        have h5 := congrArg List.length e1
        have h6 : (sortE (eT2 eI eI) (places ru res h)).length = (places ru res h).length := sortE_perm.length_eq
        rw [List.length_append, h6] at h5
        unfold places at h5
        rw [List.length_map, upto_len] at h5
        omega
      have hp2 : 0 ≤ p.2 ∧ p.2 < (rows ru res h).length ∧ p.1 = (rK (rows ru res h) p.2).2.2.1 := by
        have := (sortE_perm (e := eT2 eI eI) (xs := places ru res h)).mem_iff.mp hp
        unfold places at this
        obtain ⟨k, hk, rfl⟩ := List.mem_map.mp this
        have := upto_mem.mp hk
        exact ⟨this.1, this.2, rfl⟩
      obtain ⟨p0, p1, pd⟩ := hp2
      have rs := row_some (rK_mem p0 p1)
      have hix := ix p.2 p0 p1
      have hsz : szO s = some s := szo_ok (by omega)
      generalize hr : rK (rows ru res h) p.2 = x at *
      have hst : ∀ s', s' = stepP ru s x → (∃ done', sortE (eT2 eI eI) (places ru res h) = done' ++ r ∧ s' = (done'.map fun p => rK (rows ru res h) p.2).foldl (stepP ru) [] ∧ s'.length ≤ done'.length ∧ ∀ e ∈ s', e.2.2.isSome = true) := fun s' e => by
        refine ⟨done ++ [p], by rw [e1]; simp, ?_, ?_, ?_⟩
        · rw [e, List.map_append, List.foldl_append, ← h1]
          simp [hr]
        · have := stepP_len ru s x
          rw [e]; simp; omega
        · rw [e]
          unfold stepP
          intro y hy
          have new : ∀ y ∈ s ++ [eR ru x], y.2.2.isSome = true := fun y hy => by
            rcases List.mem_append.mp hy with z | z
            · exact h3 y z
            · simp only [List.mem_singleton] at z; subst z
              simp [eR, rs.2.2]
          split at hy
          · exact new y hy
          · split at hy
            · exact new y hy
            · exact h3 y hy
      have new : (p.1, (ouE ru x).1, (ouE ru x).2.2.2) = eR ru x := by simp [ouE, eR, pd]
      rcases List.eq_nil_or_concat s with z | ⟨s0, q, z⟩
      · subst z
        simp only [List.isEmpty_nil, Bool.not_true, Bool.not_false, if_true, b_ok, hix, g_s, hsz, new]
        exact ⟨_, rfl, hst _ rfl⟩
      · rw [List.concat_eq_append] at z
        have hne : s ≠ [] := by rw [z]; simp
        have hemp : s.isEmpty = false := by rw [z]; simp
        have hlast : ixO s (-1) = some q := by
          rw [ix_m1 hne]; simp [z]
        obtain ⟨b, hb⟩ := Option.isSome_iff_exists.mp (h3 q (by rw [z]; simp))
        have hlT : lastT s = some b := by rw [z, lastT_snoc, hb]
        have hfx : (ouE ru x).2.2.2 = some (tm ru x) := rs.2.2
        simp only [hemp, Bool.not_false, Bool.not_true, Bool.false_eq_true, if_false, hix, hlast, g_s, hfx, hb, b_ok]
        rw [hfx] at new
        by_cases c : tm ru x < b
        · simp only [c, decide_true, if_true, hsz, g_s, new]
          exact ⟨_, rfl, hst _ (by unfold stepP; rw [hlT]; simp [c])⟩
        · simp only [c, decide_false, Bool.false_eq_true, if_false]
          exact ⟨_, rfl, hst _ (by unfold stepP; rw [hlT]; simp [c])⟩)
  rw [List.append_nil] at e1
  subst e1
  rw [h1.1, seq_eq ru res h hday] at e
  exact bind_then e rfl
/-- the law's own records -/
theorem law_rec (ru : Ru) {res : List R} (ok : Ok res) (h : Int) : foldP (upto 4) (([], none) : List En × Option Int) (fun day_94 s93 =>
  (og (rng1O (res.length : Int)) fun r95 =>
  P.bind (foldP r95 ((s93.1, s93.2) : ((List En) × (Option Int))) fun k_97 s96 =>
  (og (ixO res k_97) fun x98 =>
  P.bind (if (decide (x98.2.1 = h)) = true then P.bind (P.bind (og (ixO res k_97) fun x99 => .ok x99) fun g100 => (if (decide (g100.2.2.1 = day_94)) = true then P.bind (P.bind (og (ixO (res.map (fu ru)) k_97) fun x101 => .ok x101) fun g102 => (if g102.isSome = true then P.bind (if s96.2.isNone = true then .ok true else P.bind (og (ixO (res.map (fu ru)) k_97) fun x103 => og x103 fun u104 => og s96.2 fun u105 => .ok (x103, u104, u105)) fun g106 => .ok (decide (g106.2.1 < g106.2.2))) fun p107 => .ok p107 else .ok false)) fun p108 => .ok p108 else .ok false)) fun p109 => .ok p109 else .ok false) fun p110 => if p110 = true then
  (og (ixO (res.map (fu ru)) k_97) fun x111 =>
  (og (ixO res k_97) fun x112 =>
  og (szO s96.1) fun due_113 =>
  .ok ((due_113 ++ [(day_94, x112.1, x111)]), x111)))
  else .ok (s96.1, s96.2))) fun s114 =>
  .ok (s114.1, s114.2))) = .ok (rec_ ru res h, lastT (rec_ ru res h)) := by
  have hl := ok.len
  obtain ⟨s, e, h1, h2, h3⟩ := foldP_upto (f := fun day_94 (s93 : List En × Option Int) =>
    (og (rng1O (res.length : Int)) fun r95 =>
    P.bind (foldP r95 ((s93.1, s93.2) : ((List En) × (Option Int))) fun k_97 s96 =>
    (og (ixO res k_97) fun x98 =>
    P.bind (if (decide (x98.2.1 = h)) = true then P.bind (P.bind (og (ixO res k_97) fun x99 => .ok x99) fun g100 => (if (decide (g100.2.2.1 = day_94)) = true then P.bind (P.bind (og (ixO (res.map (fu ru)) k_97) fun x101 => .ok x101) fun g102 => (if g102.isSome = true then P.bind (if s96.2.isNone = true then .ok true else P.bind (og (ixO (res.map (fu ru)) k_97) fun x103 => og x103 fun u104 => og s96.2 fun u105 => .ok (x103, u104, u105)) fun g106 => .ok (decide (g106.2.1 < g106.2.2))) fun p107 => .ok p107 else .ok false)) fun p108 => .ok p108 else .ok false)) fun p109 => .ok p109 else .ok false) fun p110 => if p110 = true then
    (og (ixO (res.map (fu ru)) k_97) fun x111 =>
    (og (ixO res k_97) fun x112 =>
    og (szO s96.1) fun due_113 =>
    .ok ((due_113 ++ [(day_94, x112.1, x111)]), x111)))
    else .ok (s96.1, s96.2))) fun s114 =>
    .ok (s114.1, s114.2))) (fun d (s : List En × Option Int) => s.1 = ((upto d).flatMap fun d => res.filter (Q ru h d)).foldl (stepP ru) [] ∧ s.2 = lastT s.1 ∧ s.1.length ≤ 24 * d) 4 (s := ([], none)) ⟨rfl, rfl, by simp⟩ (fun d s hd ⟨h1, h2, h3⟩ => by
      rw [rng1_nat (by omega), g_s]
      obtain ⟨s', e, g1, g2, g3⟩ := foldP_upto (f := fun k_97 (s96 : List En × Option Int) =>
        (og (ixO res k_97) fun x98 =>
        P.bind (if (decide (x98.2.1 = h)) = true then P.bind (P.bind (og (ixO res k_97) fun x99 => .ok x99) fun g100 => (if (decide (g100.2.2.1 = (d : Int))) = true then P.bind (P.bind (og (ixO (res.map (fu ru)) k_97) fun x101 => .ok x101) fun g102 => (if g102.isSome = true then P.bind (if s96.2.isNone = true then .ok true else P.bind (og (ixO (res.map (fu ru)) k_97) fun x103 => og x103 fun u104 => og s96.2 fun u105 => .ok (x103, u104, u105)) fun g106 => .ok (decide (g106.2.1 < g106.2.2))) fun p107 => .ok p107 else .ok false)) fun p108 => .ok p108 else .ok false)) fun p109 => .ok p109 else .ok false) fun p110 => if p110 = true then
        (og (ixO (res.map (fu ru)) k_97) fun x111 =>
        (og (ixO res k_97) fun x112 =>
        og (szO s96.1) fun due_113 =>
        .ok ((due_113 ++ [((d : Int), x112.1, x111)]), x111)))
        else .ok (s96.1, s96.2))) (fun k (q : List En × Option Int) => q.1 = ((res.take k).filter (Q ru h d)).foldl (stepP ru) s.1 ∧ q.2 = lastT q.1 ∧ q.1.length ≤ 24 * d + k) res.length (s := (s.1, s.2)) ⟨by simp, h2, by dsimp only; omega⟩ (fun k q hk ⟨g1, g2, g3⟩ => by
          obtain ⟨ql, qb⟩ := q
          dsimp only at g1 g2 g3
          have e1 := rK_at (res := res) (k := (k : Int)) (by omega) (by omega)
          have e2 := rK_full (res := res) ru (k := (k : Int)) (by omega) (by omega)
          have et : res.take (k + 1) = res.take k ++ [rK res k] := by
            rw [List.take_succ_eq_append_getElem hk]
            rw [ix_nat hk] at e1
            rw [← Option.some.inj e1]
          generalize rK res k = x at e1 e2 et
          have no : Q ru h d x = false → ∃ s', P.ok (ql, qb) = P.ok s' ∧ s'.1 = ((res.take (k + 1)).filter (Q ru h d)).foldl (stepP ru) s.1 ∧ s'.2 = lastT s'.1 ∧ s'.1.length ≤ 24 * d + (k + 1) := fun z => by
            refine ⟨_, rfl, ?_, g2, by dsimp only; omega⟩
            rw [et, List.filter_append]
            simp [z, g1]
          have yes : Q ru h d x = true → ∀ s' : List En × Option Int, s'.1 = stepP ru ql x → s'.2 = lastT s'.1 → s'.1 = ((res.take (k + 1)).filter (Q ru h d)).foldl (stepP ru) s.1 ∧ s'.2 = lastT s'.1 ∧ s'.1.length ≤ 24 * d + (k + 1) := fun z s' a1 a2 => by
            refine ⟨?_, a2, ?_⟩
            · rw [et, List.filter_append, List.foldl_append, ← g1, a1]
              simp [z]
            · have := stepP_len ru ql x
              rw [a1]; omega
          simp only [e1, e2, g_s, b_ok]
          by_cases c1 : x.2.1 = h
          · simp only [c1, decide_true, if_true]
            by_cases c2 : x.2.2.1 = (d : Int)
            · simp only [c2, decide_true, if_true]
              cases c3 : fu ru x with
              | none =>
                simp only [Option.isSome_none, Bool.false_eq_true, if_false, b_ok]
                exact no (by unfold Q pO; simp [c3])
              | some t =>
                have hq : Q ru h d x = true := by unfold Q pO; simp [c1, c2, c3]
                have ht : tm ru x = t := by unfold tm; rw [c3]; rfl
                have hen : ((d : Int), x.1, some t) = eR ru x := by unfold eR; rw [c3, c2]
                have hsz : szO ql = some ql := szo_ok (by omega)
                simp only [Option.isSome_some, if_true]
                cases c4 : qb with
                | none =>
                  simp only [Option.isNone_none, if_true, b_ok, hsz, g_s, hen]
                  refine ⟨_, rfl, yes hq _ ?_ ?_⟩
                  · unfold stepP; rw [← g2, c4]
                  · dsimp only; rw [lastT_snoc]; exact c3.symm
                | some b =>
                  simp only [Option.isNone_some, Bool.false_eq_true, if_false, g_s, b_ok]
                  by_cases c5 : t < b
                  · simp only [c5, decide_true, if_true, hsz, g_s, hen]
                    refine ⟨_, rfl, yes hq _ ?_ ?_⟩
                    · unfold stepP; rw [← g2, c4, ht]; simp [c5]
                    · dsimp only; rw [lastT_snoc]; exact c3.symm
                  · simp only [c5, decide_false, Bool.false_eq_true, if_false]
                    refine ⟨_, rfl, yes hq _ ?_ ?_⟩
                    · unfold stepP; rw [← g2, c4, ht]; simp [c5]
                    · dsimp only; rw [← g2, c4]
            · simp only [c2, decide_false, Bool.false_eq_true, if_false, b_ok]
              exact no (by unfold Q; simp [c2])
          · simp only [c1, decide_false, Bool.false_eq_true, if_false, b_ok]
            exact no (by unfold Q pO; simp [c1]))
      refine ⟨(s'.1, s'.2), bind_then e rfl, ?_, g2, by dsimp only; omega⟩
      dsimp only
      rw [g1, List.take_length, upto_s, List.flatMap_append, List.foldl_append, ← h1]
      simp)
  obtain ⟨a, b⟩ := s
  dsimp only at h1 h2
  subst h2
  rw [e]
  unfold rec_ seq
  rw [← h1]
end K68

set_option maxHeartbeats 1000000
namespace K68
open PySem PySem.Spec PyProof.Rows L2 Lv Lv.Ty
def entL (ru : Ru) (res : List R) (h : Int) (p : Int × Int) : Int × Int × Option Int := (1 + lt ru res h p.1, p.2, some p.1)
theorem law_due (ru : Ru) {res : List R} (ok : Ok res) (h : Int) : foldP ((S ru res h).map gP) ([] : (List (Int × Int × (Option Int)))) (fun x47 s46 =>
  P.bind (P.bind (noex (lcS ((own ru res h).map gP) (() : Unit) fun i53 s52 => noex (P.bind ((og i53.1 fun u54 => og x47.1 fun u55 => .ok (u54, u55))) fun g56 => if (decide (g56.1 < g56.2)) = true then P.bind (P.ok ()) fun _ => .ok (some i53, ()) else .ok (none, ())))) fun r57 => og (szO s46) fun due_58 => .ok (r57, due_58)) fun p59 =>
  .ok (p59.2 ++ [((1 + (p59.1.1.length : Int)), x47.2, x47.1)])) = .ok ((S ru res h).map (entL ru res h)) := by
  have hl := S_len ru ok h
  rw [foldP_map]
  obtain ⟨s, e, done, e1, h1⟩ := foldP_inv (f := fun (p : Int × Int) (s46 : List (Int × Int × (Option Int))) =>
    P.bind (P.bind (noex (lcS ((own ru res h).map gP) (() : Unit) fun i53 s52 => noex (P.bind ((og i53.1 fun u54 => og (gP p).1 fun u55 => .ok (u54, u55))) fun g56 => if (decide (g56.1 < g56.2)) = true then P.bind (P.ok ()) fun _ => .ok (some i53, ()) else .ok (none, ())))) fun r57 => og (szO s46) fun due_58 => .ok (r57, due_58)) fun p59 =>
    .ok (p59.2 ++ [((1 + (p59.1.1.length : Int)), (gP p).2, (gP p).1)])) (fun r s => ∃ done, S ru res h = done ++ r ∧ s = done.map (entL ru res h)) (xs := S ru res h) (s := []) ⟨[], rfl, rfl⟩ (fun p r s hp ⟨done, e1, h1⟩ => by
      have hdl : done.length ≤ 24 := by
        have := congrArg List.length e1
        rw [List.length_append] at this; omega
      refine ⟨s ++ [entL ru res h p], ?_, done ++ [p], by rw [e1]; simp, by rw [h1]; simp⟩
      rw [lcS_pure (p := fun q : Option Int × Int => decide (q.1.getD 0 < p.1)) (v := fun q => q) (fun q hq => by
        obtain ⟨y, _, rfl⟩ := List.mem_map.mp hq
        simp only [gP, g_s, b_ok, Option.getD_some]
        by_cases c : y.1 < p.1
        · simp only [c, decide_true, if_true, b_ok, n_ok]
        · simp only [c, decide_false, Bool.false_eq_true, if_false, n_ok])]
      have hsz : szO s = some s := szo_ok (by rw [h1, List.length_map]; omega)
      simp only [n_ok, b_ok, hsz, g_s, List.map_id', List.filter_map, List.length_map]
      rfl)
  rw [List.append_nil] at e1
  subst e1
  rw [e, h1]
theorem enc_eq (ru : Ru) (res : List R) (h : Int) : (eL (eT3 eD eI (eO eI))) (outR ru res h) = (eL (eT3 (eO eI) eI (eO eI))) ((((S ru res h).map (entL ru res h)).map fun y85 => ((some y85.1), y85.2.1, y85.2.2)) ++ (((others ru res h).map fun i82 => ((), i82, ())).map fun y86 => (none, y86.2.1, none))) := by
  unfold outR
  simp only [eL, List.map_append, List.map_map]
  rfl
theorem eqb_o {n : Nat} {o : Option Int} : eqb (n + 1) (eO eI o) = true := by cases o <;> rfl
theorem law_true (ns : List Int) (hns : ns.length ≤ 63) : law ns = .ok true := by
  obtain ⟨ms, hm, en⟩ := numbers_ok ns hns
  have dn := fun i => dv_nn (ms := ms) (i := i) hm
  unfold law
  refine val_then en ?_
  refine bind_split (fun (p : ((Int × List Int × Int) × (Int × List Int × Int) × Int × List Int × Int) × List R × List Int × Int) => Ok p.2.1 ∧ Dw ms p.2.2) ?_ ?_
  · have d1 : Dw ms (ms, (0 : Int)) := ⟨rfl, by show (0 : Int) ≤ 0; decide⟩
    have d2 := dw_next (ms := ms) d1.2
    have d3 := dw_next (ms := ms) d2.2
    have d4 := dw_next (ms := ms) d3.2
    have a0 := dn 0
    have a1 := dn (0 + 1)
    have a2 := dn (0 + 1 + 1)
    obtain ⟨most, em, hm2⟩ : ∃ most : Nat, 1 + dv ms (0 + 1 + 1) % 24 = most ∧ 1 ≤ most ∧ most ≤ 24 := ⟨(1 + dv ms (0 + 1 + 1) % 24).toNat, by omega, by omega, by omega⟩
    obtain ⟨w, ew, w1, w2⟩ := results_ok hm d4 (teams := 1 + dv ms 0 % 8) (houses := 1 + dv ms (0 + 1) % 4) (most := most) (by omega) (by omega) hm2
    refine ⟨(((dv ms 0, (ms, 0 + 1)), ((dv ms (0 + 1), (ms, 0 + 1 + 1)), (dv ms (0 + 1 + 1), (ms, 0 + 1 + 1 + 1)))), w), ?_, w1, w2⟩
    refine bind_then (a := ((dv ms 0, (ms, 0 + 1)), ((dv ms (0 + 1), (ms, 0 + 1 + 1)), (dv ms (0 + 1 + 1), (ms, 0 + 1 + 1 + 1))))) (bind_then (dw_draw d1) (bind_then (bind_then (dw_draw d2) (bind_then (dw_draw d3) rfl)) rfl)) ?_
    dsimp only
    rw [em]
    exact bind_then ew rfl
  rintro ⟨p6, res, s1⟩ ⟨ok, d1⟩
  dsimp only at ok d1 ⊢
  refine bind_split (fun (p : Ru × List Int × Int) => OkU p.1) ?_ ?_
  · obtain ⟨w, ew, w1, _⟩ := rules_ok d1
    exact ⟨w, ew, w1⟩
  rintro ⟨ru, s2⟩ u
  dsimp only at u ⊢
  have hl := ok.len
  refine bind_then (a := (res.map (fu ru), ())) ?_ ?_
  · rw [mapS_pure (v := fu ru) (fun r hr => by
      simp only [law_full_ok ru (ok.each r hr), v_ok, g_s, b_ok, n_ok])]
    rfl
  dsimp only
  have eqf : law_equal ((eL (eO eI)) (res.map (fu ru))) ((eL (eO eI)) (res.map (fu ru))) = .ok true := same_ok (eqb_l (n := 10) (fun x _ => eqb_o) (by rw [List.length_map]; omega))
  refine bind_then (a := false) (bind_then (a := (res.map (fu ru), true)) (bind_then (full_times_ok u ok) (bind_then eqf rfl)) ?_) ?_
  · rw [if_neg (show ¬ (!true) = true by decide)]
    simp
  rw [if_neg (by decide)]
  refine forK_inv (fun _ _ => True) (fun t => t = P.ok true) (fun s' _ => rfl) trivial fun h r s' hh _ => .inl ⟨(), ?_, trivial⟩
  have hh2 : 0 ≤ h ∧ h ≤ 19 := by
    simp only [List.mem_cons, List.not_mem_nil, or_false] at hh
    omega
  refine og_then (rng1_nat (by omega)) ?_
  refine bind_then (a := ((own ru res h).map gP, ())) ?_ ?_
  · rw [lcS_pure (p := fun k => pO ru h (rK res k)) (v := fun k => (fu ru (rK res k), (rK res k).1)) (fun k hk => by
      obtain ⟨h1, h2⟩ := upto_mem.mp hk
      simp only [rK_at h1 h2, rK_full ru h1 h2, g_s, b_ok]
      unfold pO
      by_cases c : (rK res k).2.1 = h
      · simp only [c, decide_true, if_true, Bool.true_and, b_ok]
        by_cases c2 : (fu ru (rK res k)).isSome = true
        · simp only [c2, if_true, b_ok, n_ok]
        · simp only [c2, Bool.false_eq_true, if_false, n_ok]
      · simp only [c, decide_false, Bool.false_eq_true, if_false, Bool.false_and, b_ok, n_ok])]
    rw [rK_fm res (pO ru h) (fun r => (fu ru r, r.1)), own_g]
    rfl
  refine og_then (sort_own (own ru res h)) ?_
  refine bind_then (law_due ru ok h) ?_
  refine og_then (rng1_nat (by omega)) ?_
  have hS := S_len ru ok h
  have hO := others_len ru ok h
  refine bind_then (a := ((((res.filter fun r => decide (r.2.1 = h) && (fu ru r).isNone).map fun r => r.1, ()), ((others ru res h).map fun i82 => ((), i82, ()), ())), (((S ru res h).map (entL ru res h)).map fun y85 => ((some y85.1), y85.2.1, y85.2.2)) ++ (((others ru res h).map fun i82 => ((), i82, ())).map fun y86 => (none, y86.2.1, none)))) ?_ ?_
  · refine bind_then (bind_then (a := ((res.filter fun r => decide (r.2.1 = h) && (fu ru r).isNone).map fun r => r.1, ())) ?_ (bind_then (a := ((others ru res h).map fun i82 => ((), i82, ()), ())) ?_ rfl)) (og_then (cat_ok ?_) rfl)
    · rw [lcS_pure (p := fun k => (fun r : R => decide (r.2.1 = h) && (fu ru r).isNone) (rK res k)) (v := fun k => (rK res k).1) (fun k hk => by
        obtain ⟨h1, h2⟩ := upto_mem.mp hk
        simp only [rK_at h1 h2, rK_full ru h1 h2, g_s, b_ok]
        by_cases c : (rK res k).2.1 = h
        · simp only [c, decide_true, if_true, Bool.true_and, b_ok]
          by_cases c2 : (fu ru (rK res k)).isNone = true
          · simp only [c2, if_true, b_ok, n_ok]
          · simp only [c2, Bool.false_eq_true, if_false, n_ok]
        · simp only [c, decide_false, Bool.false_eq_true, if_false, Bool.false_and, b_ok, n_ok])]
      rw [rK_fm res (fun r : R => decide (r.2.1 = h) && (fu ru r).isNone) (fun r => r.1)]
      rfl
    · show noex (lcS (others ru res h) _ _) = _
      rw [lcS_pure (p := fun _ => true) (v := fun i => ((), i, ())) (fun k hk => rfl)]
      rw [List.filter_eq_self.mpr (fun _ _ => rfl)]
      rfl
    · simp only [List.length_map]
      exact Nat.le_trans (Nat.add_le_add hS hO) (by decide)
  dsimp only
  have eqr : law_equal ((eL (eT3 eD eI (eO eI))) (outR ru res h)) ((eL (eT3 (eO eI) eI (eO eI))) ((((S ru res h).map (entL ru res h)).map fun y85 => ((some y85.1), y85.2.1, y85.2.2)) ++ (((others ru res h).map fun i82 => ((), i82, ())).map fun y86 => (none, y86.2.1, none)))) = .ok true := by
    rw [enc_eq]
    refine same_ok (eqb_l (n := 10) (fun x _ => eqb_t3 (n := 8) eqb_o eqb_i eqb_o) ?_)
    rw [List.length_append]
    simp only [List.length_map]
    exact Nat.le_trans (Nat.add_le_add hS hO) (by decide)
  refine bind_then (a := (outR ru res h, true)) (bind_then (ranking_ok u ok hh2) (bind_then eqr rfl)) ?_
  rw [if_neg (show ¬ (!true) = true by decide)]
  refine og_then (show rng1O 4 = some (upto 4) from rng1_nat (n := 4) (by omega)) ?_
  refine bind_then (law_rec ru ok h) ?_
  have hq : (rec_ ru res h).length ≤ 96 := by
    have h1 : ∀ (l : List R) (s : List En), (l.foldl (stepP ru) s).length ≤ s.length + l.length := by
      intro l
      induction l with
      | nil => intro s; simp
      | cons x l ih =>
        intro s
        have := ih (stepP ru s x)
        have := stepP_len ru s x
        simp only [List.foldl_cons, List.length_cons]; omega
    have h2 := h1 (seq ru res h) []
    have h3 : (seq ru res h).length ≤ 96 := by
      unfold seq
      have f : ∀ d : Int, (res.filter (Q ru h d)).length ≤ 24 := fun d => Nat.le_trans (List.length_filter_le _ _) hl.2
      show ([(0 : Int), 1, 2, 3].flatMap fun d => res.filter (Q ru h d)).length ≤ 96
      simp only [List.flatMap_cons, List.flatMap_nil, List.length_append, List.length_nil]
      have f0 := f 0
      have f1 := f 1
      have f2 := f 2
      have f3 := f 3
      omega
    unfold rec_
    simp only [List.length_nil] at h2
    omega
  have eqc : law_equal ((eL (eT3 eI eI (eO eI))) (rec_ ru res h)) ((eL (eT3 eI eI (eO eI))) (rec_ ru res h)) = .ok true := same_ok (eqb_l (n := 10) (fun x _ => eqb_t3 (n := 8) eqb_i eqb_i eqb_o) (by omega))
  refine bind_then (a := (rec_ ru res h, true)) (bind_then (records_ok u ok hh2) (bind_then eqc rfl)) ?_
  rw [if_neg (show ¬ (!true) = true by decide)]
theorem law_ok (ns : List Int) (hns : ns.length ≤ 63) : ∃ os, law_sem [.fr (.list (ns.map .int))] = some (.ok (.fr (.bool true)) os) := law_of (law_sim ns) (law_true ns hns)
end K68

set_option maxHeartbeats 0

namespace K68
open PySem PySem.Spec PyProof.Rows L2 Lv
def top (i : Nat) : Stmt := PySem.Challenge.pw_everyriddle_k68_full_times_and_ranks.main.body.getD i (.Pass ⟨0, 0, 0, 0⟩)
structure Fx (K : PySem.W.Frag) (mg : Str → Option Value) : Prop where
  d_is_number : DefAt K mg "is_number" (defArgs (top 4)) (defBody (top 4)) (defScope (top 4))
  d_check_number : DefAt K mg "check_number" (defArgs (top 5)) (defBody (top 5)) (defScope (top 5))
  d_is_result : DefAt K mg "is_result" (defArgs (top 13)) (defBody (top 13)) (defScope (top 13))
  d_check_results : DefAt K mg "check_results" (defArgs (top 14)) (defBody (top 14)) (defScope (top 14))
  d_full_of : DefAt K mg "full_of" (defArgs (top 15)) (defBody (top 15)) (defScope (top 15))
  d_full_times : DefAt K mg "full_times" (defArgs (top 16)) (defBody (top 16)) (defScope (top 16))
  d_outs : DefAt K mg "outs" (defArgs (top 17)) (defBody (top 17)) (defScope (top 17))
  d_ranked : DefAt K mg "ranked" (defArgs (top 18)) (defBody (top 18)) (defScope (top 18))
  d_ranking : DefAt K mg "ranking" (defArgs (top 19)) (defBody (top 19)) (defScope (top 19))
  d_records : DefAt K mg "records" (defArgs (top 20)) (defBody (top 20)) (defScope (top 20))
  d_law_mixed : DefAt K mg "_law_mixed" (defArgs (top 22)) (defBody (top 22)) (defScope (top 22))
  d_law_numbers : DefAt K mg "_law_numbers" (defArgs (top 23)) (defBody (top 23)) (defScope (top 23))
  d_law_draw : DefAt K mg "_law_draw" (defArgs (top 24)) (defBody (top 24)) (defScope (top 24))
  d_law_equal : DefAt K mg "_law_equal" (defArgs (top 25)) (defBody (top 25)) (defScope (top 25))
  d_law_all_equal : DefAt K mg "_law_all_equal" (defArgs (top 26)) (defBody (top 26)) (defScope (top 26))
  d_law_results : DefAt K mg "_law_results" (defArgs (top 27)) (defBody (top 27)) (defScope (top 27))
  d_law_rules : DefAt K mg "_law_rules" (defArgs (top 28)) (defBody (top 28)) (defScope (top 28))
  d_law_full : DefAt K mg "_law_full" (defArgs (top 29)) (defBody (top 29)) (defScope (top 29))
  d_law : DefAt K mg "law" (defArgs (top 30)) (defBody (top 30)) (defScope (top 30))
  z_bool : mg "bool" = none
  z_int : mg "int" = none
  z_isinstance : mg "isinstance" = none
  z_len : mg "len" = none
  z_list : mg "list" = none
  z_range : mg "range" = none
  z_set : mg "set" = none
  z_sorted : mg "sorted" = none
  z_str : mg "str" = none
  z_tuple : mg "tuple" = none
  g_WayError : mg "WayError" = some (.ref (He.ga K "WayError"))
  x_WayError : PySem.W.excIn K (He.ga K "WayError") He.veBase "ValueError.__new__" = true ∧ PySem.W.keepIn K (.ref (He.ga K "WayError")) = true ∧ PySem.W.subIn K (.ref (He.ga K "WayError")) (.type "BaseException") = some true ∧ PySem.W.typeIn K (.ref (He.ga K "WayError")) = some (.type "type")
  g_BadArgument : mg "BadArgument" = some (.ref (He.ga K "BadArgument"))
  x_BadArgument : PySem.W.excIn K (He.ga K "BadArgument") He.veBase "ValueError.__new__" = true ∧ PySem.W.keepIn K (.ref (He.ga K "BadArgument")) = true ∧ PySem.W.subIn K (.ref (He.ga K "BadArgument")) (.type "BaseException") = some true ∧ PySem.W.typeIn K (.ref (He.ga K "BadArgument")) = some (.type "type")
  i_MOST_TEAMS : ∃ t, mg "MOST_TEAMS" = some (.int 200 t)
  i_MOST_HOUSES : ∃ t, mg "MOST_HOUSES" = some (.int 20 t)
  i_MOST_DAYS : ∃ t, mg "MOST_DAYS" = some (.int 10000 t)
  i_MOST_TIME : ∃ t, mg "MOST_TIME" = some (.int 1000000 t)
  i_MOST_HINTS : ∃ t, mg "MOST_HINTS" = some (.int 99 t)
  i_MOST_RESULTS : ∃ t, mg "MOST_RESULTS" = some (.int 500 t)
section
variable {P : Program} {w : World} {K : PySem.W.Frag} {mg : Str → Option Value} {base : Heap}
theorem sc_is_number : FnScope ["value", "low", "high"] ["value", "low", "high"] (defScope (top 4)) := ⟨rfl, rfl, rfl, by decide +kernel, rfl, by decide +kernel, by decide +kernel⟩
theorem ok_is_number (F : Fx K mg) : FOk P w K mg base 1 "is_number" ["value", "low", "high"] is_number_sem := by
  have nd := sc_is_number.nd
  refine fok F.d_is_number sc_is_number rfl rfl (fun _ _ _ _ _ _ us hl => match us, hl with | [_, _, _], _ => rfl) fun cdv A outer s H E hr => ?_
  have tk := tk_def (P := P) (w := w) (K := K) (mg := mg) (base := base) (N := ["value", "low", "high"]) (qual := "is_number") (scope := defScope (top 4)) (f := He.ga K "is_number") (cdv := cdv) (A := A) (outer := outer) (s := s) (H := H) (E := E)
  exact (sb_one (ss_ret (ee_fz (ee_and (ee_k (ek_isi rfl F.z_isinstance (pe_bltn rfl F.z_int (by decide +kernel) rfl) (by decide) (ek_var (pv 0)))) (ee_and (ee_not (ee_k (ek_isi rfl F.z_isinstance (pe_bltn rfl F.z_bool (by decide +kernel) rfl) (by decide) (ek_var (pv 0))))) (ee_one (ee_k (ek_chain (op_leA hr.units) (op_leA hr.units) (ek_var (pv 1)) (ek_var (pv 0)) (ek_var (pv 2))))))))))
theorem sc_check_number : FnScope ["value", "low", "high"] ["value", "low", "high"] (defScope (top 5)) := ⟨rfl, rfl, rfl, by decide +kernel, rfl, by decide +kernel, by decide +kernel⟩
theorem ok_check_number (F : Fx K mg) : FOk P w K mg base 2 "check_number" ["value", "low", "high"] check_number_sem := by
  have nd := sc_check_number.nd
  refine fok F.d_check_number sc_check_number rfl rfl (fun _ _ _ _ _ _ us hl => match us, hl with | [_, _, _], _ => rfl) fun cdv A outer s H E hr => ?_
  have tk := tk_def (P := P) (w := w) (K := K) (mg := mg) (base := base) (N := ["value", "low", "high"]) (qual := "check_number") (scope := defScope (top 5)) (f := He.ga K "check_number") (cdv := cdv) (A := A) (outer := outer) (s := s) (H := H) (E := E)
  exact (sb_one (ss_if (et_not (et_valK (ek_callF (ok_is_number F) (hr.mono (by omega)) rfl (ak_cons (ek_var (pv 0)) (ak_cons (ek_var (pv 1)) (ak_cons (ek_var (pv 2)) ak_nil)))))) (sb_one (ss_raise tk rfl (F.x_BadArgument).1 F.g_BadArgument (F.x_BadArgument).2.1 (F.x_BadArgument).2.2.1 (F.x_BadArgument).2.2.2 rfl)) sb_nil))
theorem sc_is_result : FnScope ["value", "team", "house", "day", "time", "hints"] ["value"] (defScope (top 13)) := ⟨rfl, rfl, rfl, by decide +kernel, rfl, by decide +kernel, by decide +kernel⟩
theorem ok_is_result (F : Fx K mg) : FOk P w K mg base 2 "is_result" ["value"] is_result_sem := by
  have nd := sc_is_result.nd
  refine fok F.d_is_result sc_is_result rfl rfl (fun _ _ _ _ _ _ us hl => match us, hl with | [_], _ => rfl) fun cdv A outer s H E hr => ?_
  have tk := tk_def (P := P) (w := w) (K := K) (mg := mg) (base := base) (N := ["value", "team", "house", "day", "time", "hints"]) (qual := "is_result") (scope := defScope (top 13)) (f := He.ga K "is_result") (cdv := cdv) (A := A) (outer := outer) (s := s) (H := H) (E := E)
  exact (sb_cons (ss_if (et_w (ew_or (et_not (et_valK (ek_isi rfl F.z_isinstance (pe_bltn rfl F.z_tuple (by decide +kernel) rfl) (by decide) (ek_var (pv 0))))) (ew_or1 (et_cmpK (op_neA hr.units) (ek_callB call_lenA rfl F.z_len PySem.boot_len (ak_cons (ek_var (pv 0)) ak_nil)) ek_int (nomark _))))) (sb_one (ss_ret (ee_k ek_bl))) sb_nil)
  (sb_cons (ss_tgt (by decide) (ee_k (ek_var (pv 0))) (eg_tup rfl (egs_cons (eg_name (pg_name nd rfl (by first | exact Or.inl rfl | exact Or.inr rfl))) ((egs_cons (eg_name (pg_name nd rfl (by first | exact Or.inl rfl | exact Or.inr rfl))) ((egs_cons (eg_name (pg_name nd rfl (by first | exact Or.inl rfl | exact Or.inr rfl))) ((egs_cons (eg_name (pg_name nd rfl (by first | exact Or.inl rfl | exact Or.inr rfl))) ((egs_cons (eg_name (pg_name nd rfl (by first | exact Or.inl rfl | exact Or.inr rfl))) (egs_nil (as := [])))))))))))))
  (sb_cons (ss_if (et_w (ew_or (et_not (et_valK (ek_callF (ok_is_number F) (hr.mono (by omega)) rfl (ak_cons (ek_var (pv 1)) (ak_cons ek_int (ak_cons (ek_op2 op_subA op2_of (ek_gint rfl F.i_MOST_TEAMS) ek_int) ak_nil)))))) (ew_or1 (et_not (et_valK (ek_callF (ok_is_number F) (hr.mono (by omega)) rfl (ak_cons (ek_var (pv 2)) (ak_cons ek_int (ak_cons (ek_op2 op_subA op2_of (ek_gint rfl F.i_MOST_HOUSES) ek_int) ak_nil))))))))) (sb_one (ss_ret (ee_k ek_bl))) sb_nil)
  (sb_cons (ss_if (et_w (ew_or (et_not (et_valK (ek_callF (ok_is_number F) (hr.mono (by omega)) rfl (ak_cons (ek_var (pv 3)) (ak_cons ek_int (ak_cons (ek_op2 op_subA op2_of (ek_gint rfl F.i_MOST_DAYS) ek_int) ak_nil)))))) (ew_or (et_not (et_valK (ek_callF (ok_is_number F) (hr.mono (by omega)) rfl (ak_cons (ek_var (pv 4)) (ak_cons (ek_un un_negA op1_of ek_int) (ak_cons (ek_gint rfl F.i_MOST_TIME) ak_nil)))))) (ew_or1 (et_cmpK (op_eqA hr.units) (ek_var (pv 4)) ek_int (nomark _)))))) (sb_one (ss_ret (ee_k ek_bl))) sb_nil)
  (sb_one (ss_ret (ee_k (ek_callF (ok_is_number F) (hr.mono (by omega)) rfl (ak_cons (ek_var (pv 5)) (ak_cons ek_int (ak_cons (ek_gint rfl F.i_MOST_HINTS) ak_nil)))))))))))
theorem sc_check_results : FnScope ["rules", "results", "one"] ["rules", "results"] (defScope (top 14)) := ⟨rfl, rfl, rfl, by decide +kernel, rfl, by decide +kernel, by decide +kernel⟩
theorem ok_check_results (F : Fx K mg) : FOk P w K mg base 3 "check_results" ["rules", "results"] check_results_sem := by
  have nd := sc_check_results.nd
  refine fok F.d_check_results sc_check_results rfl rfl (fun _ _ _ _ _ _ us hl => match us, hl with | [_, _], _ => rfl) fun cdv A outer s H E hr => ?_
  have tk := tk_def (P := P) (w := w) (K := K) (mg := mg) (base := base) (N := ["rules", "results", "one"]) (qual := "check_results") (scope := defScope (top 14)) (f := He.ga K "check_results") (cdv := cdv) (A := A) (outer := outer) (s := s) (H := H) (E := E)
  exact (sb_cons (ss_if (et_w (ew_or (et_not (et_valK (ek_isi rfl F.z_isinstance (pe_bltn rfl F.z_tuple (by decide +kernel) rfl) (by decide) (ek_var (pv 0))))) (ew_or1 (et_cmpK (op_neA hr.units) (ek_callB call_lenA rfl F.z_len PySem.boot_len (ak_cons (ek_var (pv 0)) ak_nil)) ek_int (nomark _))))) (sb_one (ss_raise tk rfl (F.x_BadArgument).1 F.g_BadArgument (F.x_BadArgument).2.1 (F.x_BadArgument).2.2.1 (F.x_BadArgument).2.2.2 rfl)) sb_nil)
  (sb_cons (ss_expr (ee_callF tk (ok_check_number F) (hr.mono (by omega)) rfl (ae_cons (ee_k (ek_ixK ix_A (ek_var (pv 0)) ek_int (fun _ _ => rfl))) (ae_cons (ee_k ek_int) (ae_cons (ee_k (ek_gint rfl F.i_MOST_TIME)) ae_nil)))))
  (sb_cons (ss_expr (ee_callF tk (ok_check_number F) (hr.mono (by omega)) rfl (ae_cons (ee_k (ek_ixK ix_A (ek_var (pv 0)) ek_int (fun _ _ => rfl))) (ae_cons (ee_k ek_int) (ae_cons (ee_k (ek_gint rfl F.i_MOST_TIME)) ae_nil)))))
  (sb_cons (ss_if (et_w (ew_or (et_not (et_valK (ek_isi rfl F.z_isinstance (pe_bltn rfl F.z_list (by decide +kernel) rfl) (by decide) (ek_var (pv 1))))) (ew_or1 (et_not (et_chain (op_leA hr.units) (op_leA hr.units) ek_int (ek_callB call_lenA rfl F.z_len PySem.boot_len (ak_cons (ek_var (pv 1)) ak_nil)) (ek_gint rfl F.i_MOST_RESULTS)))))) (sb_one (ss_raise tk rfl (F.x_BadArgument).1 F.g_BadArgument (F.x_BadArgument).2.1 (F.x_BadArgument).2.2.1 (F.x_BadArgument).2.2.2 rfl)) sb_nil)
  (sb_cons (ss_if (et_val (ee_lc (own := [("one", 2)]) (by decide) rfl nd (ei_seq (ee_k (ek_var (pv 1)))) (by kernel_rfl) (fun _ _ _ _ _ => (eg_name (pg_name nd rfl (by first | exact Or.inl rfl | exact Or.inr rfl)))) (fun _ _ _ _ _ => (ets_one (et_not (et_valK (ek_callF (ok_is_result F) (hr.mono (by omega)) rfl (ak_cons (ek_var (pv 2)) ak_nil)))))) (fun _ _ _ _ _ => (ee_k (ek_var (pv 2)))))) (sb_one (ss_raise tk rfl (F.x_BadArgument).1 F.g_BadArgument (F.x_BadArgument).2.1 (F.x_BadArgument).2.2.1 (F.x_BadArgument).2.2.2 rfl)) sb_nil)
  (sb_one (ss_if (et_cmp (op_neA hr.units) (ee_lenSetL hr.units rfl rfl F.z_len rfl F.z_set (ee_lc (own := [("one", 2)]) (by decide) rfl nd (ei_seq (ee_k (ek_var (pv 1)))) (by kernel_rfl) (fun _ _ _ _ _ => (eg_name (pg_name nd rfl (by first | exact Or.inl rfl | exact Or.inr rfl)))) (fun _ _ _ _ _ => ets_nil) (fun _ _ _ _ _ => (ee_k (ek_tup (ak_cons (ek_ixK ix_A (ek_var (pv 2)) ek_int (fun _ _ => rfl)) (ak_cons (ek_ixK ix_A (ek_var (pv 2)) ek_int (fun _ _ => rfl)) ak_nil))))))) (ee_k (ek_callB call_lenA rfl F.z_len PySem.boot_len (ak_cons (ek_var (pv 1)) ak_nil))) (nomark _)) (sb_one (ss_raise tk rfl (F.x_BadArgument).1 F.g_BadArgument (F.x_BadArgument).2.1 (F.x_BadArgument).2.2.1 (F.x_BadArgument).2.2.2 rfl)) sb_nil)))))))
theorem sc_full_of : FnScope ["rules", "result", "team", "house", "day", "time", "hints"] ["rules", "result"] (defScope (top 15)) := ⟨rfl, rfl, rfl, by decide +kernel, rfl, by decide +kernel, by decide +kernel⟩
theorem ok_full_of (F : Fx K mg) : FOk P w K mg base 1 "full_of" ["rules", "result"] full_of_sem := by
  have nd := sc_full_of.nd
  refine fok F.d_full_of sc_full_of rfl rfl (fun _ _ _ _ _ _ us hl => match us, hl with | [_, _], _ => rfl) fun cdv A outer s H E hr => ?_
  have tk := tk_def (P := P) (w := w) (K := K) (mg := mg) (base := base) (N := ["rules", "result", "team", "house", "day", "time", "hints"]) (qual := "full_of") (scope := defScope (top 15)) (f := He.ga K "full_of") (cdv := cdv) (A := A) (outer := outer) (s := s) (H := H) (E := E)
  exact (sb_cons (ss_tgt (by decide) (ee_k (ek_var (pv 1))) (eg_tup rfl (egs_cons (eg_name (pg_name nd rfl (by first | exact Or.inl rfl | exact Or.inr rfl))) ((egs_cons (eg_name (pg_name nd rfl (by first | exact Or.inl rfl | exact Or.inr rfl))) ((egs_cons (eg_name (pg_name nd rfl (by first | exact Or.inl rfl | exact Or.inr rfl))) ((egs_cons (eg_name (pg_name nd rfl (by first | exact Or.inl rfl | exact Or.inr rfl))) ((egs_cons (eg_name (pg_name nd rfl (by first | exact Or.inl rfl | exact Or.inr rfl))) (egs_nil (as := [])))))))))))))
  (sb_one (ss_ret (ee_fz (ee_if (et_w (ew_and (et_cmpK (op_neA hr.units) (ek_var (pv 5)) (ek_un un_negA op1_of ek_int) (nomark _)) (ew_and1 (et_cmpK (op_leA hr.units) (ek_var (pv 5)) (ek_ixK ix_A (ek_var (pv 0)) ek_int (fun _ _ => rfl)) (nomark _))))) (ee_op2 op_addA op2_of (ee_k (ek_var (pv 5))) (ee_op2 op_mulA op2_of (ee_k (ek_ixK ix_A (ek_var (pv 0)) ek_int (fun _ _ => rfl))) (ee_k (ek_var (pv 6))))) (ee_k ek_non))))))
theorem sc_full_times : FnScope ["rules", "results", "one"] ["rules", "results"] (defScope (top 16)) := ⟨rfl, rfl, rfl, by decide +kernel, rfl, by decide +kernel, by decide +kernel⟩
theorem ok_full_times (F : Fx K mg) : FOk P w K mg base 4 "full_times" ["rules", "results"] full_times_sem := by
  have nd := sc_full_times.nd
  refine fok F.d_full_times sc_full_times rfl rfl (fun _ _ _ _ _ _ us hl => match us, hl with | [_, _], _ => rfl) fun cdv A outer s H E hr => ?_
  have tk := tk_def (P := P) (w := w) (K := K) (mg := mg) (base := base) (N := ["rules", "results", "one"]) (qual := "full_times") (scope := defScope (top 16)) (f := He.ga K "full_times") (cdv := cdv) (A := A) (outer := outer) (s := s) (H := H) (E := E)
  exact (sb_cons (ss_expr (ee_callF tk (ok_check_results F) (hr.mono (by omega)) rfl (ae_cons (ee_k (ek_var (pv 0))) (ae_cons (ee_k (ek_var (pv 1))) ae_nil))))
  (sb_one (ss_ret (ee_fz (ee_lc (own := [("one", 2)]) (by decide) rfl nd (ei_seq (ee_k (ek_var (pv 1)))) (by kernel_rfl) (fun _ _ _ _ _ => (eg_name (pg_name nd rfl (by first | exact Or.inl rfl | exact Or.inr rfl)))) (fun _ _ _ _ _ => ets_nil) (fun _ _ _ _ _ => (ee_k (ek_callF (ok_full_of F) (hr.mono (by omega)) rfl (ak_cons (ek_var (pv 0)) (ak_cons (ek_var (pv 2)) ak_nil))))))))))
theorem sc_outs : FnScope ["rules", "results", "found", "one", "full"] ["rules", "results"] (defScope (top 17)) := ⟨rfl, rfl, rfl, by decide +kernel, rfl, by decide +kernel, by decide +kernel⟩
theorem ok_outs (F : Fx K mg) : FOk P w K mg base 2 "outs" ["rules", "results"] outs_sem := by
  have nd := sc_outs.nd
  refine fok F.d_outs sc_outs rfl rfl (fun _ _ _ _ _ _ us hl => match us, hl with | [_, _], _ => rfl) fun cdv A outer s H E hr => ?_
  have tk := tk_def (P := P) (w := w) (K := K) (mg := mg) (base := base) (N := ["rules", "results", "found", "one", "full"]) (qual := "outs") (scope := defScope (top 17)) (f := He.ga K "outs") (cdv := cdv) (A := A) (outer := outer) (s := s) (H := H) (E := E)
  exact (sb_cons (ss_set (i := 2) (by decide) nd rfl (by first | exact Or.inl rfl | exact Or.inr rfl) (ee_lst ae_nil))
  (sb_cons (ss_for (by decide) (passes_of rfl) rfl (ei_seq (ee_k (ek_var (pv 1)))) (eg_name (pg_name nd rfl (by first | exact Or.inl rfl | exact Or.inr rfl))) (sb_kill [3, 4] (sb_cons (ss_set (i := 4) (by decide) nd rfl (by first | exact Or.inl rfl | exact Or.inr rfl) (ee_k (ek_callF (ok_full_of F) (hr.mono (by omega)) rfl (ak_cons (ek_var (pv 0)) (ak_cons (ek_var (pv 3)) ak_nil)))))
  (sb_one (ss_if (et_cmpK (op_isntA) (ek_var (pv 4)) ek_non (nomark _)) (sb_one (ss_app0 (pv 2) (ee_k (ek_tup (ak_cons (ek_ixK ix_A (ek_var (pv 3)) ek_int (fun _ _ => rfl)) (ak_cons (ek_ixK ix_A (ek_var (pv 3)) ek_int (fun _ _ => rfl)) (ak_cons (ek_ixK ix_A (ek_var (pv 3)) ek_int (fun _ _ => rfl)) (ak_cons (ek_var (pv 4)) ak_nil)))))))) sb_nil)))))
  (sb_one (ss_ret (ee_fz (ee_mv (pv 2)))))))
theorem sc_ranked : FnScope ["rows", "found", "value", "team", "rank"] ["rows"] (defScope (top 18)) := ⟨rfl, rfl, rfl, by decide +kernel, rfl, by decide +kernel, by decide +kernel⟩
theorem ok_ranked (F : Fx K mg) : FOk P w K mg base 1 "ranked" ["rows"] ranked_sem := by
  have nd := sc_ranked.nd
  refine fok F.d_ranked sc_ranked rfl rfl (fun _ _ _ _ _ _ us hl => match us, hl with | [_], _ => rfl) fun cdv A outer s H E hr => ?_
  have tk := tk_def (P := P) (w := w) (K := K) (mg := mg) (base := base) (N := ["rows", "found", "value", "team", "rank"]) (qual := "ranked") (scope := defScope (top 18)) (f := He.ga K "ranked") (cdv := cdv) (A := A) (outer := outer) (s := s) (H := H) (E := E)
  exact (sb_cons (ss_set (i := 1) (by decide) nd rfl (by first | exact Or.inl rfl | exact Or.inr rfl) (ee_lst ae_nil))
  (sb_cons (ss_for (by decide) (passes_of rfl) rfl (ei_seq (ee_callB (call_sortedA hr.units) rfl F.z_sorted (by decide +kernel) (ae_cons (ee_k (ek_var (pv 0))) ae_nil))) (eg_tup rfl (egs_cons (eg_name (pg_name nd rfl (by first | exact Or.inl rfl | exact Or.inr rfl))) ((egs_cons (eg_name (pg_name nd rfl (by first | exact Or.inl rfl | exact Or.inr rfl))) (egs_nil (as := [])))))) (sb_kill [2, 3, 4] (sb_cons (ss_set (i := 4) (by decide) nd rfl (by first | exact Or.inl rfl | exact Or.inr rfl) (ee_fz (ee_op2 op_addA op2_of (ee_k (ek_callB call_lenA rfl F.z_len PySem.boot_len (ak_cons (ek_var (pv 1)) ak_nil))) (ee_k ek_int))))
  (sb_cons (ss_if (et_w (ew_and (et_valK (ek_var (pv 1))) (ew_and1 (et_cmpK (op_eqA hr.units) (ek_ixK ix_A (ek_ixK ix_A (ek_var (pv 1)) (ek_un un_negA op1_of ek_int) (fun _ _ => rfl)) ek_int (fun _ _ => rfl)) (ek_var (pv 2)) (nomark _))))) (sb_one (ss_set (i := 4) (by decide) nd rfl (by first | exact Or.inl rfl | exact Or.inr rfl) (ee_k (ek_ixK ix_A (ek_ixK ix_A (ek_var (pv 1)) (ek_un un_negA op1_of ek_int) (fun _ _ => rfl)) ek_int (fun _ _ => rfl))))) sb_nil)
  (sb_one (ss_app0 (pv 1) (ee_k (ek_tup (ak_cons (ek_var (pv 4)) (ak_cons (ek_var (pv 2)) (ak_cons (ek_var (pv 3)) ak_nil)))))))))))
  (sb_one (ss_ret (ee_fz (ee_mv (pv 1)))))))
theorem sc_ranking : FnScope ["rules", "results", "house", "rows", "there", "others", "one", "row", "rank", "full", "team"] ["rules", "results", "house"] (defScope (top 19)) := ⟨rfl, rfl, rfl, by decide +kernel, rfl, by decide +kernel, by decide +kernel⟩
theorem ok_ranking (F : Fx K mg) : FOk P w K mg base 4 "ranking" ["rules", "results", "house"] ranking_sem := by
  have nd := sc_ranking.nd
  refine fok F.d_ranking sc_ranking rfl rfl (fun _ _ _ _ _ _ us hl => match us, hl with | [_, _, _], _ => rfl) fun cdv A outer s H E hr => ?_
  have tk := tk_def (P := P) (w := w) (K := K) (mg := mg) (base := base) (N := ["rules", "results", "house", "rows", "there", "others", "one", "row", "rank", "full", "team"]) (qual := "ranking") (scope := defScope (top 19)) (f := He.ga K "ranking") (cdv := cdv) (A := A) (outer := outer) (s := s) (H := H) (E := E)
  exact (sb_cons (ss_expr (ee_callF tk (ok_check_results F) (hr.mono (by omega)) rfl (ae_cons (ee_k (ek_var (pv 0))) (ae_cons (ee_k (ek_var (pv 1))) ae_nil))))
  (sb_cons (ss_expr (ee_callF tk (ok_check_number F) (hr.mono (by omega)) rfl (ae_cons (ee_k (ek_var (pv 2))) (ae_cons (ee_k ek_int) (ae_cons (ee_k (ek_op2 op_subA op2_of (ek_gint rfl F.i_MOST_HOUSES) ek_int)) ae_nil)))))
  (sb_cons (ss_setLcF (i := 3) (by decide) (own := [("one", 6)]) (by decide) rfl nd rfl rfl (sw_true rfl rfl rfl (by decide +kernel)) (ei_seq (ee_k (ek_callF (ok_outs F) (hr.mono (by omega)) rfl (ak_cons (ek_var (pv 0)) (ak_cons (ek_var (pv 1)) ak_nil))))) (by kernel_rfl) (fun _ _ _ _ _ => (eg_name (pg_name nd rfl (by first | exact Or.inl rfl | exact Or.inr rfl)))) (fun _ _ _ _ _ => (ets_one (et_cmpK (op_eqA hr.units) (ek_ixK ix_A (ek_var (pv 6)) ek_int (fun _ _ => rfl)) (ek_var (pv 2)) (nomark _)))) (fun _ _ _ _ _ => (ee_k (ek_tup (ak_cons (ek_ixK ix_A (ek_var (pv 6)) ek_int (fun _ _ => rfl)) (ak_cons (ek_ixK ix_A (ek_var (pv 6)) ek_int (fun _ _ => rfl)) ak_nil))))))
  (sb_cons (ss_set (i := 4) (by decide) nd rfl (by first | exact Or.inl rfl | exact Or.inr rfl) (ee_fz (ee_lc (own := [("row", 7)]) (by decide) rfl nd (ei_seq (ee_k (ek_var (pv 3)))) (by kernel_rfl) (fun _ _ _ _ _ => (eg_name (pg_name nd rfl (by first | exact Or.inl rfl | exact Or.inr rfl)))) (fun _ _ _ _ _ => ets_nil) (fun _ _ _ _ _ => (ee_k (ek_ixK ix_A (ek_var (pv 7)) ek_int (fun _ _ => rfl)))))))
  (sb_cons (ss_set (i := 5) (by decide) nd rfl (by first | exact Or.inl rfl | exact Or.inr rfl) (ee_fz (ee_callB (call_sortedA hr.units) rfl F.z_sorted (by decide +kernel) (ae_cons (ee_lc (own := [("one", 6)]) (by decide) rfl nd (ei_seq (ee_k (ek_var (pv 1)))) (by kernel_rfl) (fun _ _ _ _ _ => (eg_name (pg_name nd rfl (by first | exact Or.inl rfl | exact Or.inr rfl)))) (fun _ _ _ _ _ => (ets_one (et_w (ew_and (et_cmpK (op_eqA hr.units) (ek_ixK ix_A (ek_var (pv 6)) ek_int (fun _ _ => rfl)) (ek_var (pv 2)) (nomark _)) (ew_and1 (et_cmpK (op_notInA hr.units) (ek_ixK ix_A (ek_var (pv 6)) ek_int (fun _ _ => rfl)) (ek_var (pv 4)) rfl)))))) (fun _ _ _ _ _ => (ee_k (ek_ixK ix_A (ek_var (pv 6)) ek_int (fun _ _ => rfl))))) ae_nil))))
  (sb_one (ss_ret (ee_fz (ee_op2 op_addA op2_of (ee_lc (own := [("rank", 8), ("full", 9), ("team", 10)]) (by decide) rfl nd (ei_seq (ee_k (ek_callF (ok_ranked F) (hr.mono (by omega)) rfl (ak_cons (ek_var (pv 3)) ak_nil)))) (by kernel_rfl) (fun _ _ _ _ _ => (eg_tup rfl (egs_cons (eg_name (pg_name nd rfl (by first | exact Or.inl rfl | exact Or.inr rfl))) ((egs_cons (eg_name (pg_name nd rfl (by first | exact Or.inl rfl | exact Or.inr rfl))) ((egs_cons (eg_name (pg_name nd rfl (by first | exact Or.inl rfl | exact Or.inr rfl))) (egs_nil (as := []))))))))) (fun _ _ _ _ _ => ets_nil) (fun _ _ _ _ _ => (ee_k (ek_tup (ak_cons (ek_var (pv 8)) (ak_cons (ek_var (pv 10)) (ak_cons (ek_var (pv 9)) ak_nil))))))) (ee_lc (own := [("team", 10)]) (by decide) rfl nd (ei_seq (ee_k (ek_var (pv 5)))) (by kernel_rfl) (fun _ _ _ _ _ => (eg_name (pg_name nd rfl (by first | exact Or.inl rfl | exact Or.inr rfl)))) (fun _ _ _ _ _ => ets_nil) (fun _ _ _ _ _ => (ee_k (ek_tup (ak_cons ek_non (ak_cons (ek_var (pv 10)) (ak_cons ek_non ak_nil))))))))))))))))
theorem sc_records : FnScope ["rules", "results", "house", "rows", "places", "found", "day", "k", "one"] ["rules", "results", "house"] (defScope (top 20)) := ⟨rfl, rfl, rfl, by decide +kernel, rfl, by decide +kernel, by decide +kernel⟩
theorem ok_records (F : Fx K mg) : FOk P w K mg base 4 "records" ["rules", "results", "house"] records_sem := by
  have nd := sc_records.nd
  refine fok F.d_records sc_records rfl rfl (fun _ _ _ _ _ _ us hl => match us, hl with | [_, _, _], _ => rfl) fun cdv A outer s H E hr => ?_
  have tk := tk_def (P := P) (w := w) (K := K) (mg := mg) (base := base) (N := ["rules", "results", "house", "rows", "places", "found", "day", "k", "one"]) (qual := "records") (scope := defScope (top 20)) (f := He.ga K "records") (cdv := cdv) (A := A) (outer := outer) (s := s) (H := H) (E := E)
  exact (sb_cons (ss_expr (ee_callF tk (ok_check_results F) (hr.mono (by omega)) rfl (ae_cons (ee_k (ek_var (pv 0))) (ae_cons (ee_k (ek_var (pv 1))) ae_nil))))
  (sb_cons (ss_expr (ee_callF tk (ok_check_number F) (hr.mono (by omega)) rfl (ae_cons (ee_k (ek_var (pv 2))) (ae_cons (ee_k ek_int) (ae_cons (ee_k (ek_op2 op_subA op2_of (ek_gint rfl F.i_MOST_HOUSES) ek_int)) ae_nil)))))
  (sb_cons (ss_set (i := 3) (by decide) nd rfl (by first | exact Or.inl rfl | exact Or.inr rfl) (ee_fz (ee_lc (own := [("one", 8)]) (by decide) rfl nd (ei_seq (ee_k (ek_callF (ok_outs F) (hr.mono (by omega)) rfl (ak_cons (ek_var (pv 0)) (ak_cons (ek_var (pv 1)) ak_nil))))) (by kernel_rfl) (fun _ _ _ _ _ => (eg_name (pg_name nd rfl (by first | exact Or.inl rfl | exact Or.inr rfl)))) (fun _ _ _ _ _ => (ets_one (et_cmpK (op_eqA hr.units) (ek_ixK ix_A (ek_var (pv 8)) ek_int (fun _ _ => rfl)) (ek_var (pv 2)) (nomark _)))) (fun _ _ _ _ _ => (ee_k (ek_var (pv 8)))))))
  (sb_cons (ss_set (i := 4) (by decide) nd rfl (by first | exact Or.inl rfl | exact Or.inr rfl) (ee_fz (ee_callB (call_sortedA hr.units) rfl F.z_sorted (by decide +kernel) (ae_cons (ee_lc (own := [("k", 7)]) (by decide) rfl nd (ei_range1 rfl F.z_range (ae_cons (ee_k (ek_callB call_lenA rfl F.z_len PySem.boot_len (ak_cons (ek_var (pv 3)) ak_nil))) ae_nil)) (by kernel_rfl) (fun _ _ _ _ _ => (eg_name (pg_name nd rfl (by first | exact Or.inl rfl | exact Or.inr rfl)))) (fun _ _ _ _ _ => ets_nil) (fun _ _ _ _ _ => (ee_k (ek_tup (ak_cons (ek_ixK ix_A (ek_ixK ix_A (ek_var (pv 3)) (ek_var (pv 7)) (fun _ _ => rfl)) ek_int (fun _ _ => rfl)) (ak_cons (ek_var (pv 7)) ak_nil)))))) ae_nil))))
  (sb_cons (ss_set (i := 5) (by decide) nd rfl (by first | exact Or.inl rfl | exact Or.inr rfl) (ee_lst ae_nil))
  (sb_cons (ss_for (by decide) (passes_of rfl) rfl (ei_seq (ee_k (ek_var (pv 4)))) (eg_tup rfl (egs_cons (eg_name (pg_name nd rfl (by first | exact Or.inl rfl | exact Or.inr rfl))) ((egs_cons (eg_name (pg_name nd rfl (by first | exact Or.inl rfl | exact Or.inr rfl))) (egs_nil (as := [])))))) (sb_kill [6, 7] (sb_one (ss_if (et_w (ew_or (et_not (et_valK (ek_var (pv 5)))) (ew_or1 (et_cmpK (op_ltA hr.units) (ek_ixK ix_A (ek_ixK ix_A (ek_var (pv 3)) (ek_var (pv 7)) (fun _ _ => rfl)) ek_int (fun _ _ => rfl)) (ek_ixK ix_A (ek_ixK ix_A (ek_var (pv 5)) (ek_un un_negA op1_of ek_int) (fun _ _ => rfl)) ek_int (fun _ _ => rfl)) (nomark _))))) (sb_one (ss_app0 (pv 5) (ee_k (ek_tup (ak_cons (ek_var (pv 6)) (ak_cons (ek_ixK ix_A (ek_ixK ix_A (ek_var (pv 3)) (ek_var (pv 7)) (fun _ _ => rfl)) ek_int (fun _ _ => rfl)) (ak_cons (ek_ixK ix_A (ek_ixK ix_A (ek_var (pv 3)) (ek_var (pv 7)) (fun _ _ => rfl)) ek_int (fun _ _ => rfl)) ak_nil))))))) sb_nil))))
  (sb_one (ss_ret (ee_fz (ee_mv (pv 5)))))))))))
theorem sc_law_mixed : FnScope ["number", "k", "step"] ["number", "k"] (defScope (top 22)) := ⟨rfl, rfl, rfl, by decide +kernel, rfl, by decide +kernel, by decide +kernel⟩
theorem ok_law_mixed (F : Fx K mg) : FOk P w K mg base 1 "_law_mixed" ["number", "k"] law_mixed_sem := by
  have nd := sc_law_mixed.nd
  refine fok F.d_law_mixed sc_law_mixed rfl rfl (fun _ _ _ _ _ _ us hl => match us, hl with | [_, _], _ => rfl) fun cdv A outer s H E hr => ?_
  have tk := tk_def (P := P) (w := w) (K := K) (mg := mg) (base := base) (N := ["number", "k", "step"]) (qual := "_law_mixed") (scope := defScope (top 22)) (f := He.ga K "_law_mixed") (cdv := cdv) (A := A) (outer := outer) (s := s) (H := H) (E := E)
  exact (sb_cons (ss_set (i := 2) (by decide) nd rfl (by first | exact Or.inl rfl | exact Or.inr rfl) (ee_k (ek_op2 op_modA op2_of (ek_op2 op_addA op2_of (ek_op2 op_addA op2_of (ek_op2 op_mulA op2_of (ek_var (pv 0)) ek_int) (ek_op2 op_mulA op2_of (ek_var (pv 1)) ek_int)) ek_int) ek_int)))
  (sb_one (ss_ret (ee_k (ek_op2 op_modA op2_of (ek_op2 op_addA op2_of (ek_op2 op_mulA op2_of (ek_var (pv 2)) (ek_op2 op_addA op2_of (ek_op2 op_fdivA op2_of (ek_var (pv 2)) ek_int) ek_int)) (ek_var (pv 1))) ek_int)))))
theorem sc_law_numbers : FnScope ["script", "numbers", "cell", "rest", "k"] ["script"] (defScope (top 23)) := ⟨rfl, rfl, rfl, by decide +kernel, rfl, by decide +kernel, by decide +kernel⟩
theorem ok_law_numbers (F : Fx K mg) : FOk P w K mg base 2 "_law_numbers" ["script"] law_numbers_sem := by
  have nd := sc_law_numbers.nd
  refine fok F.d_law_numbers sc_law_numbers rfl rfl (fun _ _ _ _ _ _ us hl => match us, hl with | [_], _ => rfl) fun cdv A outer s H E hr => ?_
  have tk := tk_def (P := P) (w := w) (K := K) (mg := mg) (base := base) (N := ["script", "numbers", "cell", "rest", "k"]) (qual := "_law_numbers") (scope := defScope (top 23)) (f := He.ga K "_law_numbers") (cdv := cdv) (A := A) (outer := outer) (s := s) (H := H) (E := E)
  exact (sb_cons (ss_set (i := 1) (by decide) nd rfl (by first | exact Or.inl rfl | exact Or.inr rfl) (ee_lst ae_nil))
  (sb_cons (ss_for (by decide) (passes_of rfl) rfl (ei_seq (ee_k (ek_var (pv 0)))) (eg_name (pg_name nd rfl (by first | exact Or.inl rfl | exact Or.inr rfl))) (sb_kill [2, 3, 4] (sb_one (ss_if (et_cmpK (op_geA hr.units) (ek_var (pv 2)) (ek_op2 op_powA op2_of ek_int ek_int) (nomark _)) (sb_cons (ss_set (i := 3) (by decide) nd rfl (by first | exact Or.inl rfl | exact Or.inr rfl) (ee_k (ek_var (pv 2))))
  (sb_one (ss_for (by decide) (passes_of rfl) rfl (ei_range1 rfl F.z_range (ae_cons (ee_k ek_int) ae_nil)) (eg_name (pg_name nd rfl (by first | exact Or.inl rfl | exact Or.inr rfl))) (sb_kill [4] (sb_one (ss_if (et_cmpK (op_gtA hr.units) (ek_var (pv 3)) ek_int (nomark _)) (sb_cons (ss_app0 (pv 1) (ee_k (ek_op2 op_modA op2_of (ek_var (pv 3)) ek_int)))
  (sb_one (ss_set (i := 3) (by decide) nd rfl (by first | exact Or.inl rfl | exact Or.inr rfl) (ee_k (ek_op2 op_fdivA op2_of (ek_var (pv 3)) ek_int))))) sb_nil)))))) (sb_cons (ss_app0 (pv 1) (ee_k (ek_op2 op_modA op2_of (ek_var (pv 2)) ek_int)))
  (sb_one (ss_for (by decide) (passes_of rfl) rfl (ei_range1 rfl F.z_range (ae_cons (ee_k ek_int) ae_nil)) (eg_name (pg_name nd rfl (by first | exact Or.inl rfl | exact Or.inr rfl))) (sb_kill [4] (sb_one (ss_app0 (pv 1) (ee_k (ek_op2 op_modA op2_of (ek_callF (ok_law_mixed F) (hr.mono (by omega)) rfl (ak_cons (ek_callF (ok_law_mixed F) (hr.mono (by omega)) rfl (ak_cons (ek_op2 op_modA op2_of (ek_var (pv 2)) ek_int) (ak_cons (ek_var (pv 4)) ak_nil))) (ak_cons (ek_op2 op_addA op2_of (ek_var (pv 4)) ek_int) ak_nil))) ek_int))))))))))))
  (sb_one (ss_ret (ee_fz (ee_mv (pv 1)))))))
theorem sc_law_draw : FnScope ["draws", "at", "first"] ["draws"] (defScope (top 24)) := ⟨rfl, rfl, rfl, by decide +kernel, rfl, by decide +kernel, by decide +kernel⟩
theorem ok_law_draw (F : Fx K mg) : FOk P w K mg base 2 "_law_draw" ["draws"] law_draw_sem := by
  have nd := sc_law_draw.nd
  refine fok F.d_law_draw sc_law_draw rfl rfl (fun _ _ _ _ _ _ us hl => match us, hl with | [_], _ => rfl) fun cdv A outer s H E hr => ?_
  have tk := tk_def (P := P) (w := w) (K := K) (mg := mg) (base := base) (N := ["draws", "at", "first"]) (qual := "_law_draw") (scope := defScope (top 24)) (f := He.ga K "_law_draw") (cdv := cdv) (A := A) (outer := outer) (s := s) (H := H) (E := E)
  exact (sb_cons (ss_set (i := 1) (by decide) nd rfl (by first | exact Or.inl rfl | exact Or.inr rfl) (ee_k (ek_ixK ix_A (ek_var (pv 0)) ek_int (fun _ _ => rfl))))
  (sb_cons (ss_setIx (ee_fz (ee_op2 op_addA op2_of (ee_k (ek_var (pv 1))) (ee_k ek_int))) (ep_var (pv 0)) ek_int)
  (sb_cons (ss_if (et_cmpK (op_ltA hr.units) (ek_var (pv 1)) (ek_callB call_lenA rfl F.z_len PySem.boot_len (ak_cons (ek_ixK ix_A (ek_var (pv 0)) ek_int (fun _ _ => rfl)) ak_nil)) (nomark _)) (sb_one (ss_ret (ee_k (ek_ixK ix_A (ek_ixK ix_A (ek_var (pv 0)) ek_int (fun _ _ => rfl)) (ek_var (pv 1)) (fun _ _ => rfl))))) sb_nil)
  (sb_cons (ss_set (i := 2) (by decide) nd rfl (by first | exact Or.inl rfl | exact Or.inr rfl) (ee_fz (ee_op2 op_addA op2_of (ee_k ek_int) (ee_k (ek_var (pv 1))))))
  (sb_cons (ss_if (et_cmpK (op_gtA hr.units) (ek_callB call_lenA rfl F.z_len PySem.boot_len (ak_cons (ek_ixK ix_A (ek_var (pv 0)) ek_int (fun _ _ => rfl)) ak_nil)) ek_int (nomark _)) (sb_one (ss_set (i := 2) (by decide) nd rfl (by first | exact Or.inl rfl | exact Or.inr rfl) (ee_fz (ee_op2 op_addA op2_of (ee_k (ek_var (pv 2))) (ee_op2 op_mulA op2_of (ee_k ek_int) (ee_k (ek_ixK ix_A (ek_ixK ix_A (ek_var (pv 0)) ek_int (fun _ _ => rfl)) ek_int (fun _ _ => rfl)))))))) sb_nil)
  (sb_one (ss_ret (ee_k (ek_op2 op_modA op2_of (ek_callF (ok_law_mixed F) (hr.mono (by omega)) rfl (ak_cons (ek_callF (ok_law_mixed F) (hr.mono (by omega)) rfl (ak_cons (ek_var (pv 2)) (ak_cons (ek_var (pv 1)) ak_nil))) (ak_cons ek_int ak_nil))) ek_int)))))))))
theorem sc_law_equal : FnScope ["actual", "due"] ["actual", "due"] (defScope (top 25)) := ⟨rfl, rfl, rfl, by decide +kernel, rfl, by decide +kernel, by decide +kernel⟩
theorem okr_law_equal (F : Fx K mg) {k : Nat} (hk : 0 ≤ k) (r_law_equal : List T → Option Ret) (r_law_all_equal : List T → Option Ret) (h_law_equal : FOk P w K mg base k "_law_equal" ["actual", "due"] r_law_equal) (h_law_all_equal : FOk P w K mg base k "_law_all_equal" ["actual", "due"] r_law_all_equal) : FOk P w K mg base (k + 1) "_law_equal" ["actual", "due"] (semD 2 0 [] (law_equal_b r_law_equal r_law_all_equal)) := by
  have nd := sc_law_equal.nd
  refine fok F.d_law_equal sc_law_equal rfl rfl (fun _ _ _ _ _ _ us hl => match us, hl with | [_, _], _ => rfl) fun cdv A outer s H E hr => ?_
  have tk := tk_def (P := P) (w := w) (K := K) (mg := mg) (base := base) (N := ["actual", "due"]) (qual := "_law_equal") (scope := defScope (top 25)) (f := He.ga K "_law_equal") (cdv := cdv) (A := A) (outer := outer) (s := s) (H := H) (E := E)
  exact (sb_cons (ss_if (et_valK (ek_isi rfl F.z_isinstance (pe_bltn rfl F.z_list (by decide +kernel) rfl) (by decide) (ek_var (pv 1)))) (sb_one (ss_ret (ee_fz (ee_and (ee_k (ek_isi rfl F.z_isinstance (pe_bltn rfl F.z_list (by decide +kernel) rfl) (by decide) (ek_var (pv 0)))) (ee_and (ee_k (ek_cmp (op_eqA hr.units) op2_of (ek_callB call_lenA rfl F.z_len PySem.boot_len (ak_cons (ek_var (pv 0)) ak_nil)) (ek_callB call_lenA rfl F.z_len PySem.boot_len (ak_cons (ek_var (pv 1)) ak_nil)) (nomark _))) (ee_one (ee_k (ek_callF h_law_all_equal (hr.mono (by omega)) rfl (ak_cons (ek_var (pv 0)) (ak_cons (ek_var (pv 1)) ak_nil)))))))))) sb_nil)
  (sb_cons (ss_if (et_valK (ek_isi rfl F.z_isinstance (pe_bltn rfl F.z_tuple (by decide +kernel) rfl) (by decide) (ek_var (pv 1)))) (sb_one (ss_ret (ee_fz (ee_and (ee_k (ek_isi rfl F.z_isinstance (pe_bltn rfl F.z_tuple (by decide +kernel) rfl) (by decide) (ek_var (pv 0)))) (ee_and (ee_k (ek_cmp (op_eqA hr.units) op2_of (ek_callB call_lenA rfl F.z_len PySem.boot_len (ak_cons (ek_var (pv 0)) ak_nil)) (ek_callB call_lenA rfl F.z_len PySem.boot_len (ak_cons (ek_var (pv 1)) ak_nil)) (nomark _))) (ee_one (ee_k (ek_callF h_law_all_equal (hr.mono (by omega)) rfl (ak_cons (ek_var (pv 0)) (ak_cons (ek_var (pv 1)) ak_nil)))))))))) sb_nil)
  (sb_cons (ss_if (et_valK (ek_isi rfl F.z_isinstance (pe_bltn rfl F.z_bool (by decide +kernel) rfl) (by decide) (ek_var (pv 1)))) (sb_one (ss_ret (ee_fz (ee_and (ee_k (ek_isi rfl F.z_isinstance (pe_bltn rfl F.z_bool (by decide +kernel) rfl) (by decide) (ek_var (pv 0)))) (ee_one (ee_k (ek_cmp (op_eqA hr.units) op2_of (ek_var (pv 0)) (ek_var (pv 1)) (nomark _)))))))) sb_nil)
  (sb_cons (ss_if (et_valK (ek_isi rfl F.z_isinstance (pe_bltn rfl F.z_int (by decide +kernel) rfl) (by decide) (ek_var (pv 1)))) (sb_one (ss_ret (ee_fz (ee_and (ee_k (ek_isi rfl F.z_isinstance (pe_bltn rfl F.z_int (by decide +kernel) rfl) (by decide) (ek_var (pv 0)))) (ee_and (ee_not (ee_k (ek_isi rfl F.z_isinstance (pe_bltn rfl F.z_bool (by decide +kernel) rfl) (by decide) (ek_var (pv 0))))) (ee_one (ee_k (ek_cmp (op_eqA hr.units) op2_of (ek_var (pv 0)) (ek_var (pv 1)) (nomark _))))))))) sb_nil)
  (sb_cons (ss_if (et_valK (ek_isi rfl F.z_isinstance (pe_bltn rfl F.z_str (by decide +kernel) rfl) (by decide) (ek_var (pv 1)))) (sb_one (ss_ret (ee_fz (ee_and (ee_k (ek_isi rfl F.z_isinstance (pe_bltn rfl F.z_str (by decide +kernel) rfl) (by decide) (ek_var (pv 0)))) (ee_one (ee_k (ek_cmp (op_eqA hr.units) op2_of (ek_var (pv 0)) (ek_var (pv 1)) (nomark _)))))))) sb_nil)
  (sb_one (ss_ret (ee_k (ek_cmp (op_isA) op2_of (ek_var (pv 0)) ek_non (nomark _))))))))))
theorem sc_law_all_equal : FnScope ["actual", "due", "k"] ["actual", "due"] (defScope (top 26)) := ⟨rfl, rfl, rfl, by decide +kernel, rfl, by decide +kernel, by decide +kernel⟩
theorem okr_law_all_equal (F : Fx K mg) {k : Nat} (hk : 0 ≤ k) (r_law_equal : List T → Option Ret) (r_law_all_equal : List T → Option Ret) (h_law_equal : FOk P w K mg base k "_law_equal" ["actual", "due"] r_law_equal) (h_law_all_equal : FOk P w K mg base k "_law_all_equal" ["actual", "due"] r_law_all_equal) : FOk P w K mg base (k + 1) "_law_all_equal" ["actual", "due"] (semD 2 1 [] (law_all_equal_b r_law_equal r_law_all_equal)) := by
  have nd := sc_law_all_equal.nd
  refine fok F.d_law_all_equal sc_law_all_equal rfl rfl (fun _ _ _ _ _ _ us hl => match us, hl with | [_, _], _ => rfl) fun cdv A outer s H E hr => ?_
  have tk := tk_def (P := P) (w := w) (K := K) (mg := mg) (base := base) (N := ["actual", "due", "k"]) (qual := "_law_all_equal") (scope := defScope (top 26)) (f := He.ga K "_law_all_equal") (cdv := cdv) (A := A) (outer := outer) (s := s) (H := H) (E := E)
  exact (sb_cons (ss_for (by decide) (passes_of rfl) rfl (ei_range1 rfl F.z_range (ae_cons (ee_k (ek_callB call_lenA rfl F.z_len PySem.boot_len (ak_cons (ek_var (pv 1)) ak_nil))) ae_nil)) (eg_name (pg_name nd rfl (by first | exact Or.inl rfl | exact Or.inr rfl))) (sb_kill [2] (sb_one (ss_if (et_not (et_valK (ek_callF h_law_equal (hr.mono (by omega)) rfl (ak_cons (ek_ixK ix_A (ek_var (pv 0)) (ek_var (pv 2)) (fun _ _ => rfl)) (ak_cons (ek_ixK ix_A (ek_var (pv 1)) (ek_var (pv 2)) (fun _ _ => rfl)) ak_nil))))) (sb_one (ss_ret (ee_k ek_bl))) sb_nil))))
  (sb_one (ss_ret (ee_k ek_bl))))
theorem oks_law_equal (F : Fx K mg) : ∀ n : Nat, FOk P w K mg base (1 + n) "_law_equal" ["actual", "due"] (law_equal_sem n) ∧ FOk P w K mg base (1 + n) "_law_all_equal" ["actual", "due"] (law_all_equal_sem n)
  | 0 => ⟨fok0 F.d_law_equal sc_law_equal (fun _ _ _ _ _ _ us hl => match us, hl with | [_, _], _ => rfl), fok0 F.d_law_all_equal sc_law_all_equal (fun _ _ _ _ _ _ us hl => match us, hl with | [_, _], _ => rfl)⟩
  | n + 1 => by
    obtain ⟨h0, h1⟩ := oks_law_equal F n
    exact ⟨okr_law_equal (k := 1 + n) F (by omega) _ _ h0 h1, okr_law_all_equal (k := 1 + n) F (by omega) _ _ h0 h1⟩
theorem ok_law_equal (F : Fx K mg) (n : Nat) : FOk P w K mg base (1 + n) "_law_equal" ["actual", "due"] (law_equal_sem n) := (oks_law_equal F n).1
theorem ok_law_all_equal (F : Fx K mg) (n : Nat) : FOk P w K mg base (1 + n) "_law_all_equal" ["actual", "due"] (law_all_equal_sem n) := (oks_law_equal F n).2
theorem sc_law_results : FnScope ["draws", "teams", "houses", "most", "found", "k", "team", "house", "time", "one"] ["draws", "teams", "houses", "most"] (defScope (top 27)) := ⟨rfl, rfl, rfl, by decide +kernel, rfl, by decide +kernel, by decide +kernel⟩
theorem ok_law_results (F : Fx K mg) : FOk P w K mg base 3 "_law_results" ["draws", "teams", "houses", "most"] law_results_sem := by
  have nd := sc_law_results.nd
  refine fok F.d_law_results sc_law_results rfl rfl (fun _ _ _ _ _ _ us hl => match us, hl with | [_, _, _, _], _ => rfl) fun cdv A outer s H E hr => ?_
  have tk := tk_def (P := P) (w := w) (K := K) (mg := mg) (base := base) (N := ["draws", "teams", "houses", "most", "found", "k", "team", "house", "time", "one"]) (qual := "_law_results") (scope := defScope (top 27)) (f := He.ga K "_law_results") (cdv := cdv) (A := A) (outer := outer) (s := s) (H := H) (E := E)
  exact (sb_cons (ss_set (i := 4) (by decide) nd rfl (by first | exact Or.inl rfl | exact Or.inr rfl) (ee_lst ae_nil))
  (sb_cons (ss_for (by decide) (passes_of rfl) rfl (ei_range1 rfl F.z_range (ae_cons (ee_k (ek_var (pv 3))) ae_nil)) (eg_name (pg_name nd rfl (by first | exact Or.inl rfl | exact Or.inr rfl))) (sb_kill [5, 6, 7, 8] (sb_cons (ss_tgt (by decide) (ee_tup (ae_cons (ee_op2 op_modA op2_of (ee_callF tk (ok_law_draw F) (hr.mono (by omega)) rfl (ae_bor (pv 0) ae_nil)) (ee_k (ek_var (pv 1)))) (ae_cons (ee_op2 op_modA op2_of (ee_callF tk (ok_law_draw F) (hr.mono (by omega)) rfl (ae_bor (pv 0) ae_nil)) (ee_k (ek_var (pv 2)))) ae_nil))) (eg_tup rfl (egs_cons (eg_name (pg_name nd rfl (by first | exact Or.inl rfl | exact Or.inr rfl))) ((egs_cons (eg_name (pg_name nd rfl (by first | exact Or.inl rfl | exact Or.inr rfl))) (egs_nil (as := [])))))))
  (sb_one (ss_if (et_cmp (op_eqA hr.units) (ee_lcL (own := [("one", 9)]) (by decide) rfl nd (pv 4) (by kernel_rfl) (fun _ _ _ _ _ => (eg_name (pg_name nd rfl (by first | exact Or.inl rfl | exact Or.inr rfl)))) (fun _ _ _ _ _ => (ets_one (et_w (ew_and (et_cmpK (op_eqA hr.units) (ek_ixK ix_A (ek_var (pv 9)) ek_int (fun _ _ => rfl)) (ek_var (pv 6)) (nomark _)) (ew_and1 (et_cmpK (op_eqA hr.units) (ek_ixK ix_A (ek_var (pv 9)) ek_int (fun _ _ => rfl)) (ek_var (pv 7)) (nomark _))))))) (fun _ _ _ _ _ => (ee_k (ek_var (pv 9))))) (ee_lst ae_nil) (nomark _)) (sb_cons (ss_set (i := 8) (by decide) nd rfl (by first | exact Or.inl rfl | exact Or.inr rfl) (ee_fz (ee_ixK ix_A (ee_lst (ae_cons (ee_k (ek_un un_negA op1_of ek_int)) (ae_cons (ee_fz (ee_op2 op_addA op2_of (ee_k ek_int) (ee_op2 op_modA op2_of (ee_callF tk (ok_law_draw F) (hr.mono (by omega)) rfl (ae_bor (pv 0) ae_nil)) (ee_k ek_int)))) (ae_cons (ee_fz (ee_op2 op_addA op2_of (ee_k ek_int) (ee_op2 op_modA op2_of (ee_callF tk (ok_law_draw F) (hr.mono (by omega)) rfl (ae_bor (pv 0) ae_nil)) (ee_k ek_int)))) (ae_cons (ee_k (ek_op2 op_powA op2_of ek_int ek_int)) ae_nil))))) (ee_op2 op_modA op2_of (ee_callF tk (ok_law_draw F) (hr.mono (by omega)) rfl (ae_bor (pv 0) ae_nil)) (ee_k ek_int)) (fun _ _ => rfl))))
  (sb_one (ss_app0 (pv 4) (ee_fz (ee_tup (ae_cons (ee_k (ek_var (pv 6))) (ae_cons (ee_k (ek_var (pv 7))) (ae_cons (ee_op2 op_modA op2_of (ee_callF tk (ok_law_draw F) (hr.mono (by omega)) rfl (ae_bor (pv 0) ae_nil)) (ee_k ek_int)) (ae_cons (ee_k (ek_var (pv 8))) (ae_cons (ee_op2 op_modA op2_of (ee_callF tk (ok_law_draw F) (hr.mono (by omega)) rfl (ae_bor (pv 0) ae_nil)) (ee_k ek_int)) ae_nil)))))))))) sb_nil)))))
  (sb_one (ss_ret (ee_fz (ee_mv (pv 4)))))))
theorem sc_law_rules : FnScope ["draws"] ["draws"] (defScope (top 28)) := ⟨rfl, rfl, rfl, by decide +kernel, rfl, by decide +kernel, by decide +kernel⟩
theorem ok_law_rules (F : Fx K mg) : FOk P w K mg base 3 "_law_rules" ["draws"] law_rules_sem := by
  have nd := sc_law_rules.nd
  refine fok F.d_law_rules sc_law_rules rfl rfl (fun _ _ _ _ _ _ us hl => match us, hl with | [_], _ => rfl) fun cdv A outer s H E hr => ?_
  have tk := tk_def (P := P) (w := w) (K := K) (mg := mg) (base := base) (N := ["draws"]) (qual := "_law_rules") (scope := defScope (top 28)) (f := He.ga K "_law_rules") (cdv := cdv) (A := A) (outer := outer) (s := s) (H := H) (E := E)
  exact (sb_one (ss_ret (ee_fz (ee_tup (ae_cons (ee_ixK ix_A (ee_lst (ae_cons (ee_k ek_int) (ae_cons (ee_k ek_int) (ae_cons (ee_k (ek_op2 op_powA op2_of ek_int ek_int)) ae_nil)))) (ee_op2 op_modA op2_of (ee_callF tk (ok_law_draw F) (hr.mono (by omega)) rfl (ae_bor (pv 0) ae_nil)) (ee_k ek_int)) (fun _ _ => rfl)) (ae_cons (ee_ixK ix_A (ee_lst (ae_cons (ee_k ek_int) (ae_cons (ee_k ek_int) (ae_cons (ee_k ek_int) (ae_cons (ee_k (ek_op2 op_powA op2_of ek_int ek_int)) ae_nil))))) (ee_op2 op_modA op2_of (ee_callF tk (ok_law_draw F) (hr.mono (by omega)) rfl (ae_bor (pv 0) ae_nil)) (ee_k ek_int)) (fun _ _ => rfl)) ae_nil))))))
theorem sc_law_full : FnScope ["rules", "one"] ["rules", "one"] (defScope (top 29)) := ⟨rfl, rfl, rfl, by decide +kernel, rfl, by decide +kernel, by decide +kernel⟩
theorem ok_law_full (F : Fx K mg) : FOk P w K mg base 1 "_law_full" ["rules", "one"] law_full_sem := by
  have nd := sc_law_full.nd
  refine fok F.d_law_full sc_law_full rfl rfl (fun _ _ _ _ _ _ us hl => match us, hl with | [_, _], _ => rfl) fun cdv A outer s H E hr => ?_
  have tk := tk_def (P := P) (w := w) (K := K) (mg := mg) (base := base) (N := ["rules", "one"]) (qual := "_law_full") (scope := defScope (top 29)) (f := He.ga K "_law_full") (cdv := cdv) (A := A) (outer := outer) (s := s) (H := H) (E := E)
  exact (sb_cons (ss_if (et_w (ew_or (et_cmpK (op_eqA hr.units) (ek_ixK ix_A (ek_var (pv 1)) ek_int (fun _ _ => rfl)) (ek_un un_negA op1_of ek_int) (nomark _)) (ew_or1 (et_cmpK (op_gtA hr.units) (ek_ixK ix_A (ek_var (pv 1)) ek_int (fun _ _ => rfl)) (ek_ixK ix_A (ek_var (pv 0)) ek_int (fun _ _ => rfl)) (nomark _))))) (sb_one (ss_ret (ee_k ek_non))) sb_nil)
  (sb_one (ss_ret (ee_fz (ee_op2 op_addA op2_of (ee_k (ek_ixK ix_A (ek_var (pv 1)) ek_int (fun _ _ => rfl))) (ee_op2 op_mulA op2_of (ee_k (ek_ixK ix_A (ek_var (pv 0)) ek_int (fun _ _ => rfl))) (ee_k (ek_ixK ix_A (ek_var (pv 1)) ek_int (fun _ _ => rfl)))))))))
theorem sc_law : FnScope ["script", "draws", "results", "rules", "kept", "full", "house", "own", "due", "time", "team", "best", "day", "k", "one"] ["script"] (defScope (top 30)) := ⟨rfl, rfl, rfl, by decide +kernel, rfl, by decide +kernel, by decide +kernel⟩
theorem ok_law (F : Fx K mg) {fd : FuncData} (FD : FunD K "law" "law" (defArgs (top 30)) (defBody (top 30)) (defScope (top 30)) [] [] (He.ga K "law") fd) : FnOk P w K mg base (L2.CX P w) 14 (He.ga K "law") fd ["script"] (SpT K law_sem) := by
  have nd := sc_law.nd
  refine fokD FD sc_law rfl rfl fun cdv A outer s H E hr => ?_
  have tk := tk_def (P := P) (w := w) (K := K) (mg := mg) (base := base) (N := ["script", "draws", "results", "rules", "kept", "full", "house", "own", "due", "time", "team", "best", "day", "k", "one"]) (qual := "law") (scope := defScope (top 30)) (f := He.ga K "law") (cdv := cdv) (A := A) (outer := outer) (s := s) (H := H) (E := E)
  exact (sb_cons (ss_set (i := 1) (by decide) nd rfl (by first | exact Or.inl rfl | exact Or.inr rfl) (ee_lst (ae_cons (ee_k (ek_callF (ok_law_numbers F) (hr.mono (by omega)) rfl (ak_cons (ek_var (pv 0)) ak_nil))) (ae_cons (ee_k ek_int) ae_nil))))
  (sb_cons (ss_set (i := 2) (by decide) nd rfl (by first | exact Or.inl rfl | exact Or.inr rfl) (ee_fz (ee_callF tk (ok_law_results F) (hr.mono (by omega)) rfl (ae_bor (pv 1) (ae_cons (ee_fz (ee_op2 op_addA op2_of (ee_k ek_int) (ee_op2 op_modA op2_of (ee_callF tk (ok_law_draw F) (hr.mono (by omega)) rfl (ae_bor (pv 1) ae_nil)) (ee_k ek_int)))) (ae_cons (ee_fz (ee_op2 op_addA op2_of (ee_k ek_int) (ee_op2 op_modA op2_of (ee_callF tk (ok_law_draw F) (hr.mono (by omega)) rfl (ae_bor (pv 1) ae_nil)) (ee_k ek_int)))) (ae_cons (ee_fz (ee_op2 op_addA op2_of (ee_k ek_int) (ee_op2 op_modA op2_of (ee_callF tk (ok_law_draw F) (hr.mono (by omega)) rfl (ae_bor (pv 1) ae_nil)) (ee_k ek_int)))) ae_nil)))))))
  (sb_cons (ss_set (i := 3) (by decide) nd rfl (by first | exact Or.inl rfl | exact Or.inr rfl) (ee_fz (ee_callF tk (ok_law_rules F) (hr.mono (by omega)) rfl (ae_bor (pv 1) ae_nil))))
  (sb_cons (ss_set (i := 4) (by decide) nd rfl (by first | exact Or.inl rfl | exact Or.inr rfl) (ee_fz (ee_callT call_listA rfl F.z_list (by decide +kernel) (ae_cons (ee_k (ek_var (pv 2))) ae_nil))))
  (sb_cons (ss_set (i := 5) (by decide) nd rfl (by first | exact Or.inl rfl | exact Or.inr rfl) (ee_fz (ee_lc (own := [("one", 14)]) (by decide) rfl nd (ei_seq (ee_k (ek_var (pv 2)))) (by kernel_rfl) (fun _ _ _ _ _ => (eg_name (pg_name nd rfl (by first | exact Or.inl rfl | exact Or.inr rfl)))) (fun _ _ _ _ _ => ets_nil) (fun _ _ _ _ _ => (ee_k (ek_callF (ok_law_full F) (hr.mono (by omega)) rfl (ak_cons (ek_var (pv 3)) (ak_cons (ek_var (pv 14)) ak_nil))))))))
  (sb_cons (ss_if (et_w (ew_or (et_not (et_val (ee_callF tk (ok_law_equal F 12) (hr.mono (by omega)) rfl (ae_cons (ee_fz (ee_callF tk (ok_full_times F) (hr.mono (by omega)) rfl (ae_cons (ee_k (ek_var (pv 3))) (ae_cons (ee_k (ek_var (pv 2))) ae_nil)))) (ae_cons (ee_k (ek_var (pv 5))) ae_nil))))) (ew_or1 (et_cmpK (op_neA hr.units) (ek_var (pv 2)) (ek_var (pv 4)) (nomark _))))) (sb_one (ss_ret (ee_k ek_bl))) sb_nil)
  (sb_cons (ss_for (by decide) (passes_of rfl) rfl (ei_seq (ee_lst (ae_cons (ee_k ek_int) (ae_cons (ee_k ek_int) (ae_cons (ee_k ek_int) (ae_cons (ee_k ek_int) ae_nil)))))) (eg_name (pg_name nd rfl (by first | exact Or.inl rfl | exact Or.inr rfl))) (sb_kill [6, 7, 8, 9, 10, 11, 12, 13] (sb_cons (ss_setLcF (i := 7) (by decide) (own := [("k", 13)]) (by decide) rfl nd rfl rfl (sw_true rfl rfl rfl (by decide +kernel)) (ei_range1 rfl F.z_range (ae_cons (ee_k (ek_callB call_lenA rfl F.z_len PySem.boot_len (ak_cons (ek_var (pv 2)) ak_nil))) ae_nil)) (by kernel_rfl) (fun _ _ _ _ _ => (eg_name (pg_name nd rfl (by first | exact Or.inl rfl | exact Or.inr rfl)))) (fun _ _ _ _ _ => (ets_one (et_w (ew_and (et_cmpK (op_eqA hr.units) (ek_ixK ix_A (ek_ixK ix_A (ek_var (pv 2)) (ek_var (pv 13)) (fun _ _ => rfl)) ek_int (fun _ _ => rfl)) (ek_var (pv 6)) (nomark _)) (ew_and1 (et_cmpK (op_isntA) (ek_ixK ix_A (ek_var (pv 5)) (ek_var (pv 13)) (fun _ _ => rfl)) ek_non (nomark _))))))) (fun _ _ _ _ _ => (ee_k (ek_tup (ak_cons (ek_ixK ix_A (ek_var (pv 5)) (ek_var (pv 13)) (fun _ _ => rfl)) (ak_cons (ek_ixK ix_A (ek_ixK ix_A (ek_var (pv 2)) (ek_var (pv 13)) (fun _ _ => rfl)) ek_int (fun _ _ => rfl)) ak_nil))))))
  (sb_cons (ss_set (i := 8) (by decide) nd rfl (by first | exact Or.inl rfl | exact Or.inr rfl) (ee_lst ae_nil))
  (sb_cons (ss_for (by decide) (passes_of rfl) rfl (ei_seq (ee_callB (call_sortedA hr.units) rfl F.z_sorted (by decide +kernel) (ae_cons (ee_k (ek_var (pv 7))) ae_nil))) (eg_tup rfl (egs_cons (eg_name (pg_name nd rfl (by first | exact Or.inl rfl | exact Or.inr rfl))) ((egs_cons (eg_name (pg_name nd rfl (by first | exact Or.inl rfl | exact Or.inr rfl))) (egs_nil (as := [])))))) (sb_kill [9, 10] (sb_one (ss_app0 (pv 8) (ee_fz (ee_tup (ae_cons (ee_op2 op_addA op2_of (ee_k ek_int) (ee_callB call_lenA rfl F.z_len PySem.boot_len (ae_cons (ee_lc (own := [("one", 14)]) (by decide) rfl nd (ei_seq (ee_k (ek_var (pv 7)))) (by kernel_rfl) (fun _ _ _ _ _ => (eg_name (pg_name nd rfl (by first | exact Or.inl rfl | exact Or.inr rfl)))) (fun _ _ _ _ _ => (ets_one (et_cmpK (op_ltA hr.units) (ek_ixK ix_A (ek_var (pv 14)) ek_int (fun _ _ => rfl)) (ek_var (pv 9)) (nomark _)))) (fun _ _ _ _ _ => (ee_k (ek_var (pv 14))))) ae_nil))) (ae_cons (ee_k (ek_var (pv 10))) (ae_cons (ee_k (ek_var (pv 9))) ae_nil)))))))))
  (sb_cons (ss_set (i := 8) (by decide) nd rfl (by first | exact Or.inl rfl | exact Or.inr rfl) (ee_op2 op_addA op2_of (ee_mv (pv 8)) (ee_lc (own := [("team", 10)]) (by decide) rfl nd (ei_seq (ee_callB (call_sortedA hr.units) rfl F.z_sorted (by decide +kernel) (ae_cons (ee_lc (own := [("k", 13)]) (by decide) rfl nd (ei_range1 rfl F.z_range (ae_cons (ee_k (ek_callB call_lenA rfl F.z_len PySem.boot_len (ak_cons (ek_var (pv 2)) ak_nil))) ae_nil)) (by kernel_rfl) (fun _ _ _ _ _ => (eg_name (pg_name nd rfl (by first | exact Or.inl rfl | exact Or.inr rfl)))) (fun _ _ _ _ _ => (ets_one (et_w (ew_and (et_cmpK (op_eqA hr.units) (ek_ixK ix_A (ek_ixK ix_A (ek_var (pv 2)) (ek_var (pv 13)) (fun _ _ => rfl)) ek_int (fun _ _ => rfl)) (ek_var (pv 6)) (nomark _)) (ew_and1 (et_cmpK (op_isA) (ek_ixK ix_A (ek_var (pv 5)) (ek_var (pv 13)) (fun _ _ => rfl)) ek_non (nomark _))))))) (fun _ _ _ _ _ => (ee_k (ek_ixK ix_A (ek_ixK ix_A (ek_var (pv 2)) (ek_var (pv 13)) (fun _ _ => rfl)) ek_int (fun _ _ => rfl))))) ae_nil))) (by kernel_rfl) (fun _ _ _ _ _ => (eg_name (pg_name nd rfl (by first | exact Or.inl rfl | exact Or.inr rfl)))) (fun _ _ _ _ _ => ets_nil) (fun _ _ _ _ _ => (ee_k (ek_tup (ak_cons ek_non (ak_cons (ek_var (pv 10)) (ak_cons ek_non ak_nil)))))))))
  (sb_cons (ss_if (et_not (et_val (ee_callF tk (ok_law_equal F 12) (hr.mono (by omega)) rfl (ae_cons (ee_fz (ee_callF tk (ok_ranking F) (hr.mono (by omega)) rfl (ae_cons (ee_k (ek_var (pv 3))) (ae_cons (ee_k (ek_var (pv 2))) (ae_cons (ee_k (ek_var (pv 6))) ae_nil))))) (ae_cons (ee_cp (pv 8)) ae_nil))))) (sb_one (ss_ret (ee_k ek_bl))) sb_nil)
  (sb_cons (ss_set (i := 11) (by decide) nd rfl (by first | exact Or.inl rfl | exact Or.inr rfl) (ee_k ek_non))
  (sb_cons (ss_set (i := 8) (by decide) nd rfl (by first | exact Or.inl rfl | exact Or.inr rfl) (ee_lst ae_nil))
  (sb_cons (ss_for (by decide) (passes_of rfl) rfl (ei_range1 rfl F.z_range (ae_cons (ee_k ek_int) ae_nil)) (eg_name (pg_name nd rfl (by first | exact Or.inl rfl | exact Or.inr rfl))) (sb_kill [12, 13] (sb_one (ss_for (by decide) (passes_of rfl) rfl (ei_range1 rfl F.z_range (ae_cons (ee_k (ek_callB call_lenA rfl F.z_len PySem.boot_len (ak_cons (ek_var (pv 2)) ak_nil))) ae_nil)) (eg_name (pg_name nd rfl (by first | exact Or.inl rfl | exact Or.inr rfl))) (sb_kill [13] (sb_one (ss_if (et_w (ew_and (et_cmpK (op_eqA hr.units) (ek_ixK ix_A (ek_ixK ix_A (ek_var (pv 2)) (ek_var (pv 13)) (fun _ _ => rfl)) ek_int (fun _ _ => rfl)) (ek_var (pv 6)) (nomark _)) (ew_and (et_cmpK (op_eqA hr.units) (ek_ixK ix_A (ek_ixK ix_A (ek_var (pv 2)) (ek_var (pv 13)) (fun _ _ => rfl)) ek_int (fun _ _ => rfl)) (ek_var (pv 12)) (nomark _)) (ew_and (et_cmpK (op_isntA) (ek_ixK ix_A (ek_var (pv 5)) (ek_var (pv 13)) (fun _ _ => rfl)) ek_non (nomark _)) (ew_and1 (et_w (ew_or (et_cmpK (op_isA) (ek_var (pv 11)) ek_non (nomark _)) (ew_or1 (et_cmpK (op_ltA hr.units) (ek_ixK ix_A (ek_var (pv 5)) (ek_var (pv 13)) (fun _ _ => rfl)) (ek_var (pv 11)) (nomark _)))))))))) (sb_cons (ss_set (i := 11) (by decide) nd rfl (by first | exact Or.inl rfl | exact Or.inr rfl) (ee_k (ek_ixK ix_A (ek_var (pv 5)) (ek_var (pv 13)) (fun _ _ => rfl))))
  (sb_one (ss_app0 (pv 8) (ee_k (ek_tup (ak_cons (ek_var (pv 12)) (ak_cons (ek_ixK ix_A (ek_ixK ix_A (ek_var (pv 2)) (ek_var (pv 13)) (fun _ _ => rfl)) ek_int (fun _ _ => rfl)) (ak_cons (ek_var (pv 11)) ak_nil)))))))) sb_nil)))))))
  (sb_one (ss_if (et_not (et_val (ee_callF tk (ok_law_equal F 12) (hr.mono (by omega)) rfl (ae_cons (ee_fz (ee_callF tk (ok_records F) (hr.mono (by omega)) rfl (ae_cons (ee_k (ek_var (pv 3))) (ae_cons (ee_k (ek_var (pv 2))) (ae_cons (ee_k (ek_var (pv 6))) ae_nil))))) (ae_cons (ee_cp (pv 8)) ae_nil))))) (sb_one (ss_ret (ee_k ek_bl))) sb_nil))))))))))))
  (sb_one (ss_ret (ee_k ek_bl))))))))))
end
end K68

set_option maxHeartbeats 0

namespace K68
open PySem PySem.Spec PyProof.Rows L2 Lv
def mkD (i : Nat) (n : Str) : He.DefD := ⟨(n, none), n, n, defArgs (top i), defBody (top i), defScope (top i), [], []⟩
def dfs : List He.DefD := [mkD 4 "is_number", mkD 5 "check_number", mkD 13 "is_result", mkD 14 "check_results", mkD 15 "full_of", mkD 16 "full_times", mkD 17 "outs", mkD 18 "ranked", mkD 19 "ranking", mkD 20 "records", mkD 22 "_law_mixed", mkD 23 "_law_numbers", mkD 24 "_law_draw", mkD 25 "_law_equal", mkD 26 "_law_all_equal", mkD 27 "_law_results", mkD 28 "_law_rules", mkD 29 "_law_full", mkD 30 "law"]
def fcs : List He.Fa := [.glo "is_number", .glo "check_number", .glo "is_result", .glo "check_results", .glo "full_of", .glo "full_times", .glo "outs", .glo "ranked", .glo "ranking", .glo "records", .glo "_law_mixed", .glo "_law_numbers", .glo "_law_draw", .glo "_law_equal", .glo "_law_all_equal", .glo "_law_results", .glo "_law_rules", .glo "_law_full", .glo "law", .free "bool", .free "int", .free "isinstance", .free "len", .free "list", .free "range", .free "set", .free "sorted", .free "str", .free "tuple", .glo "WayError", .exc "WayError", .glo "BadArgument", .exc "BadArgument", .int "MOST_TEAMS" 200, .int "MOST_HOUSES" 20, .int "MOST_DAYS" 10000, .int "MOST_TIME" 1000000, .int "MOST_HINTS" 99, .int "MOST_RESULTS" 500]
def csts : List (Str × D) := []
abbrev rw0 : PySem.W.OpenRow := PySem.W.OpenLaw.row PySem.Challenge.rw_everyriddle_k68_full_times_and_ranks
abbrev hk0 : PySem.W.Hook := Lv.hookB 4 fcs dfs csts
def ob0 (s : PySem.W.SharedT) : Lv.AlB := Lv.obsBG 4 fcs dfs csts (HandSHeadRun.getT s)
theorem ob0_eq (s : PySem.W.SharedT) : ob0 s = hk0.obs s.abs := Lv.obsBG_eq (HandSHeadRun.getT_eq s)
theorem run0 (w : World) : HandSHeadRun.RunEq rw0 (PySem.W.view rw0.prog [30]) hk0 ob0 2000 ["BadArgument", "MOST_DAYS", "MOST_HINTS", "MOST_HOUSES", "MOST_RESULTS", "MOST_TEAMS", "MOST_TIME", "WayError", "_law_all_equal", "_law_draw", "_law_equal", "_law_full", "_law_mixed", "_law_numbers", "_law_results", "_law_rules", "check_number", "check_results", "full_of", "full_times", "is_number", "is_result", "outs", "ranked", "ranking", "records"] w := by
  intro os; kernel_rfl
theorem fx {K : PySem.W.Frag} {h : Heap} {mg : Str → Option Value} (X : K.In h) (G : h.Ns mainGlobals mg) (c : He.SaysD fcs dfs K ∧ ∀ p ∈ csts, Lv.topB K p.1 p.2 = true) : Fx K mg := {
  d_is_number := ⟨c.1.def_ 0 (d := mkD 4 "is_number") rfl, He.glo_ok X G (c.1.fact 0 (f := .glo "is_number") rfl)⟩,
  d_check_number := ⟨c.1.def_ 1 (d := mkD 5 "check_number") rfl, He.glo_ok X G (c.1.fact 1 (f := .glo "check_number") rfl)⟩,
  d_is_result := ⟨c.1.def_ 2 (d := mkD 13 "is_result") rfl, He.glo_ok X G (c.1.fact 2 (f := .glo "is_result") rfl)⟩,
  d_check_results := ⟨c.1.def_ 3 (d := mkD 14 "check_results") rfl, He.glo_ok X G (c.1.fact 3 (f := .glo "check_results") rfl)⟩,
  d_full_of := ⟨c.1.def_ 4 (d := mkD 15 "full_of") rfl, He.glo_ok X G (c.1.fact 4 (f := .glo "full_of") rfl)⟩,
  d_full_times := ⟨c.1.def_ 5 (d := mkD 16 "full_times") rfl, He.glo_ok X G (c.1.fact 5 (f := .glo "full_times") rfl)⟩,
  d_outs := ⟨c.1.def_ 6 (d := mkD 17 "outs") rfl, He.glo_ok X G (c.1.fact 6 (f := .glo "outs") rfl)⟩,
  d_ranked := ⟨c.1.def_ 7 (d := mkD 18 "ranked") rfl, He.glo_ok X G (c.1.fact 7 (f := .glo "ranked") rfl)⟩,
  d_ranking := ⟨c.1.def_ 8 (d := mkD 19 "ranking") rfl, He.glo_ok X G (c.1.fact 8 (f := .glo "ranking") rfl)⟩,
  d_records := ⟨c.1.def_ 9 (d := mkD 20 "records") rfl, He.glo_ok X G (c.1.fact 9 (f := .glo "records") rfl)⟩,
  d_law_mixed := ⟨c.1.def_ 10 (d := mkD 22 "_law_mixed") rfl, He.glo_ok X G (c.1.fact 10 (f := .glo "_law_mixed") rfl)⟩,
  d_law_numbers := ⟨c.1.def_ 11 (d := mkD 23 "_law_numbers") rfl, He.glo_ok X G (c.1.fact 11 (f := .glo "_law_numbers") rfl)⟩,
  d_law_draw := ⟨c.1.def_ 12 (d := mkD 24 "_law_draw") rfl, He.glo_ok X G (c.1.fact 12 (f := .glo "_law_draw") rfl)⟩,
  d_law_equal := ⟨c.1.def_ 13 (d := mkD 25 "_law_equal") rfl, He.glo_ok X G (c.1.fact 13 (f := .glo "_law_equal") rfl)⟩,
  d_law_all_equal := ⟨c.1.def_ 14 (d := mkD 26 "_law_all_equal") rfl, He.glo_ok X G (c.1.fact 14 (f := .glo "_law_all_equal") rfl)⟩,
  d_law_results := ⟨c.1.def_ 15 (d := mkD 27 "_law_results") rfl, He.glo_ok X G (c.1.fact 15 (f := .glo "_law_results") rfl)⟩,
  d_law_rules := ⟨c.1.def_ 16 (d := mkD 28 "_law_rules") rfl, He.glo_ok X G (c.1.fact 16 (f := .glo "_law_rules") rfl)⟩,
  d_law_full := ⟨c.1.def_ 17 (d := mkD 29 "_law_full") rfl, He.glo_ok X G (c.1.fact 17 (f := .glo "_law_full") rfl)⟩,
  d_law := ⟨c.1.def_ 18 (d := mkD 30 "law") rfl, He.glo_ok X G (c.1.fact 18 (f := .glo "law") rfl)⟩,
  z_bool := He.free_ok X G (c.1.fact 19 (f := .free "bool") rfl),
  z_int := He.free_ok X G (c.1.fact 20 (f := .free "int") rfl),
  z_isinstance := He.free_ok X G (c.1.fact 21 (f := .free "isinstance") rfl),
  z_len := He.free_ok X G (c.1.fact 22 (f := .free "len") rfl),
  z_list := He.free_ok X G (c.1.fact 23 (f := .free "list") rfl),
  z_range := He.free_ok X G (c.1.fact 24 (f := .free "range") rfl),
  z_set := He.free_ok X G (c.1.fact 25 (f := .free "set") rfl),
  z_sorted := He.free_ok X G (c.1.fact 26 (f := .free "sorted") rfl),
  z_str := He.free_ok X G (c.1.fact 27 (f := .free "str") rfl),
  z_tuple := He.free_ok X G (c.1.fact 28 (f := .free "tuple") rfl),
  g_WayError := He.glo_ok X G (c.1.fact 29 (f := .glo "WayError") rfl),
  x_WayError := He.exc_ok (c.1.fact 30 (f := .exc "WayError") rfl),
  g_BadArgument := He.glo_ok X G (c.1.fact 31 (f := .glo "BadArgument") rfl),
  x_BadArgument := He.exc_ok (c.1.fact 32 (f := .exc "BadArgument") rfl),
  i_MOST_TEAMS := He.int_ok X G (c.1.fact 33 (f := .int "MOST_TEAMS" 200) rfl),
  i_MOST_HOUSES := He.int_ok X G (c.1.fact 34 (f := .int "MOST_HOUSES" 20) rfl),
  i_MOST_DAYS := He.int_ok X G (c.1.fact 35 (f := .int "MOST_DAYS" 10000) rfl),
  i_MOST_TIME := He.int_ok X G (c.1.fact 36 (f := .int "MOST_TIME" 1000000) rfl),
  i_MOST_HINTS := He.int_ok X G (c.1.fact 37 (f := .int "MOST_HINTS" 99) rfl),
  i_MOST_RESULTS := He.int_ok X G (c.1.fact 38 (f := .int "MOST_RESULTS" 500) rfl) }
theorem cx_none {P : Program} (H : Hp) (s : Shared) (e : Value) (s' : Shared) (z : L2.CX0 [] H s (fun _ _ _ => False) e s') : False := z
end K68
open PySem PySem.W PySem.Calls PyProof.Rows in
theorem PySem.Challenge.cw_everyriddle_k68_full_times_and_ranks_of (hlaw : ∀ ns : List Int, ns.length ≤ 63 → ∃ os, K68.law_sem [.fr (.list (ns.map .int))] = some (.ok (.fr (.bool true)) os)) : PySem.Challenge.rw_everyriddle_k68_full_times_and_ranks.Holds := by
  w_on; o_law
  refine HandSHeadRun.head_any (r := K68.rw0) (q := view K68.rw0.prog [30]) (H := K68.hk0) (ob := K68.ob0) (M := 2000) (loose := ["BadArgument", "MOST_DAYS", "MOST_HINTS", "MOST_HOUSES", "MOST_RESULTS", "MOST_TEAMS", "MOST_TIME", "WayError", "_law_all_equal", "_law_draw", "_law_equal", "_law_full", "_law_mixed", "_law_numbers", "_law_results", "_law_rules", "check_number", "check_results", "full_of", "full_times", "is_number", "is_result", "outs", "ranked", "ranking", "records"]) (d := HandSHeadRun.topDef K68.rw0.prog 30) (kwd := []) K68.ob0_eq
    (by kernel_rfl) (fun s => by kernel_rfl) K68.run0 (by kernel_rfl) (by kernel_rfl) (by kernel_rfl) (by rfl) (by first | assumption | decide +kernel) (by decide +kernel) ⟨rfl, rfl, rfl, rfl, rfl, by decide +kernel⟩ ?hw ?hc
  case hw => w_witness2
  case hc =>
    refine L2.walk_ofE (l := PySem.Challenge.rw_everyriddle_k68_full_times_and_ranks) (n := 63) (k := 14) (x := "script") (CX := L2.CX0) rfl (by decide) (by kernel_rfl) ⟨rfl, by decide, by decide⟩ ?F (fun _ _ _ _ z => z)
    intro w mg fa h Y G hmg0
    obtain ⟨K, KX, c⟩ := Y
    have e0 : (HandSHeadRun.topDef K68.rw0.prog 30).name = ("law" : PySem.Str) := by kernel_rfl
    rw [e0] at hmg0
    have F := K68.fx KX G c
    obtain ⟨⟨fd, FD⟩, gl⟩ := F.d_law
    cases hmg0.symm.trans gl
    have bA := L2.FunD.bindsA (ps := ["script"]) FD fun _ _ _ _ _ _ us hl => match us, hl with | [_], _ => rfl
    refine ⟨K, fd, fun vs H Q _ => Lv.SpT K K68.law_sem vs H Q (fun _ _ _ => False), KX, fun s v => bA s [v] rfl, fun H a ns hl _ hS => Lv.law_sp hlaw H a ns hl hS, fun base _ _ => Lv.fin_cx ?_⟩
    exact K68.ok_law (P := (PySem.Challenge.rw_everyriddle_k68_full_times_and_ranks).prog) (w := w) (base := base) F FD
theorem PySem.Challenge.cw_everyriddle_k68_full_times_and_ranks_holds : PySem.Challenge.rw_everyriddle_k68_full_times_and_ranks.Holds := by
  exact PySem.Challenge.cw_everyriddle_k68_full_times_and_ranks_of K68.law_ok
