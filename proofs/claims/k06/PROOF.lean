import PyProof.Rows.All
import Wide.All
import OpenK.AllK
import Wide.FinOn
import HandS.ForMost
import HandS.Wide
import HandS.IsInst
import HandS.TupAny
import HandS.TupMul
import HandS.Deep
import HandS.Flow
import HandS.Zip
import HandS.EndBits
import HandS.Text
import PySem.Challenge.RW_levelcord_k06_whole_numbers_agree
set_option Elab.async false
set_option linter.all false
set_option maxRecDepth 100000
/-! DL 1: plain data D, what represents it, own things in slots, the world of a running def. -/
namespace DL
open PySem PySem.Spec PyProof.Rows L2

/-- plain data -/
inductive D where
  | non | bl (b : Bool) | int (i : Int) | str (x : Str) | tup (xs : List D) | lst (xs : List D) | ref (a : Addr)

/-- what a slot holds: nothing known, plain data, a list of its own, an instance of its own -/
inductive O where
  | un | val (d : D) | lst (xs : List D) | obj (c : Nat) (fs : List (Str × O))

abbrev S := List O

structure Cc where
  K : PySem.W.Frag
  cm : Nat → Addr

mutual
inductive Rep (K : PySem.W.Frag) (G : Hp) : V → D → Prop
  | non : Rep K G .non .non
  | bl (b : Bool) : Rep K G (.bl b) (.bl b)
  | int (i : Int) : Rep K G (.int i) (.int i)
  | str (x : Str) : Rep K G (.str x) (.str x)
  | ref (a : Addr) : Rep K G (.ref a) (.ref a)
  | tup {a : Addr} {vs : List V} {xs : List D} : SqT K G a vs → Reps K G vs xs → Rep K G (.ref a) (.tup xs)
  | lst {a : Addr} {vs : List V} {xs : List D} : SqL K G a vs → Reps K G vs xs → Rep K G (.ref a) (.lst xs)
inductive Reps (K : PySem.W.Frag) (G : Hp) : List V → List D → Prop
  | nil : Reps K G [] []
  | cons {v : V} {vs : List V} {d : D} {ds : List D} : Rep K G v d → Reps K G vs ds → Reps K G (v :: vs) (d :: ds)
end

section
variable {K : PySem.W.Frag} {G G' H H' : Hp} {v : V} {d : D} {a : Addr} {vs : List V} {ds : List D}
theorem Same.sqL (e : Same G G') (h : SqL K G a vs) : SqL K G' a vs := e.seq h
theorem Same.sqT (e : Same G G') (h : SqT K G a vs) : SqT K G' a vs := by
  rcases h with (h | ⟨o, h⟩) | h
  · exact .inl (.inl (e _ _ h))
  · exact .inl (.inr ⟨o, e _ _ h⟩)
  · exact .inr h
mutual
theorem Rep.mono (e : Same G G') : ∀ {v : V} {d : D}, Rep K G v d → Rep K G' v d
  | _, _, .non => .non
  | _, _, .bl b => .bl b
  | _, _, .int i => .int i
  | _, _, .str x => .str x
  | _, _, .ref a => .ref a
  | _, _, .tup h r => .tup (Same.sqT e h) (Reps.mono e r)
  | _, _, .lst h r => .lst (Same.sqL e h) (Reps.mono e r)
theorem Reps.mono (e : Same G G') : ∀ {vs : List V} {ds : List D}, Reps K G vs ds → Reps K G' vs ds
  | _, _, .nil => .nil
  | _, _, .cons h r => .cons (Rep.mono e h) (Reps.mono e r)
end
theorem Reps.length : ∀ {vs : List V} {ds : List D}, Reps K G vs ds → vs.length = ds.length
  | _, _, .nil => rfl
  | _, _, .cons _ r => by rw [List.length_cons, List.length_cons, Reps.length r]
theorem Reps.get : ∀ {vs : List V} {ds : List D} {i : Nat} {d : D}, Reps K G vs ds → ds[i]? = some d → ∃ v, vs[i]? = some v ∧ Rep K G v d
  | _, _, _, _, .nil, e => by simp at e
  | _, _, 0, d, .cons h _, e => by simp at e; subst e; exact ⟨_, rfl, h⟩
  | _, _, i + 1, d, .cons _ r, e => by
    obtain ⟨u, h1, h2⟩ := Reps.get (i := i) (d := d) r (by simpa using e)
    exact ⟨u, by simpa using h1, h2⟩
theorem Reps.getV : ∀ {vs : List V} {ds : List D} {i : Nat} {v : V}, Reps K G vs ds → vs[i]? = some v → ∃ d, ds[i]? = some d ∧ Rep K G v d
  | _, _, _, _, .nil, e => by simp at e
  | _, _, 0, d, .cons h _, e => by simp at e; subst e; exact ⟨_, rfl, h⟩
  | _, _, i + 1, d, .cons _ r, e => by
    obtain ⟨u, h1, h2⟩ := Reps.getV (i := i) (v := d) r (by simpa using e)
    exact ⟨u, by simpa using h1, h2⟩
theorem Reps.append : ∀ {vs ws : List V} {ds es : List D}, Reps K G vs ds → Reps K G ws es → Reps K G (vs ++ ws) (ds ++ es)
  | _, _, _, _, .nil, s => s
  | _, _, _, _, .cons r t, s => .cons r (Reps.append t s)
theorem Reps.take : ∀ {vs : List V} {ds : List D} (n : Nat), Reps K G vs ds → Reps K G (vs.take n) (ds.take n)
  | _, _, 0, _ => .nil
  | _, _, _ + 1, .nil => .nil
  | _, _, n + 1, .cons r t => .cons r (Reps.take n t)
theorem Reps.drop : ∀ {vs : List V} {ds : List D} (n : Nat), Reps K G vs ds → Reps K G (vs.drop n) (ds.drop n)
  | _, _, 0, r => r
  | _, _, _ + 1, .nil => .nil
  | _, _, n + 1, .cons _ t => Reps.drop n t
theorem Reps.set {v : V} {d : D} (r : Rep K G v d) : ∀ {vs : List V} {ds : List D} (i : Nat), Reps K G vs ds → Reps K G (vs.set i v) (ds.set i d)
  | _, _, _, .nil => .nil
  | _, _, 0, .cons _ t => .cons r t
  | _, _, i + 1, .cons q t => .cons q (Reps.set r i t)
theorem Reps.reverse : ∀ {vs : List V} {ds : List D}, Reps K G vs ds → Reps K G vs.reverse ds.reverse
  | _, _, .nil => .nil
  | _, _, .cons r t => by
    rw [List.reverse_cons, List.reverse_cons]
    exact (Reps.reverse t).append (.cons r .nil)
theorem Reps.eraseIdx : ∀ {vs : List V} {ds : List D} (i : Nat), Reps K G vs ds → Reps K G (vs.eraseIdx i) (ds.eraseIdx i)
  | _, _, _, .nil => .nil
  | _, _, 0, .cons _ t => t
  | _, _, i + 1, .cons q t => .cons q (Reps.eraseIdx i t)
theorem Reps.one (h : Rep K G v d) : Reps K G [v] [d] := .cons h .nil
end

/-! ### own things -/
mutual
inductive Own (c : Cc) (H G : Hp) : V → O → List Addr → Prop
  | val {v : V} {d : D} : Rep c.K G v d → Own c H G v (.val d) []
  | lst {p : Addr} {vs : List V} {xs : List D} : H p = some (.lst vs) → Reps c.K G vs xs → Own c H G (.ref p) (.lst xs) [p]
  | obj {p dx : Addr} {k : Nat} {vs : List (Str × V)} {fs : List (Str × O)} {fp : List Addr} : H p = some (.ins (c.cm k) dx vs) → H dx = some (.own p) → OwnF c H G vs fs fp → Own c H G (.ref p) (.obj k fs) (p :: dx :: fp)
inductive OwnF (c : Cc) (H G : Hp) : List (Str × V) → List (Str × O) → List Addr → Prop
  | nil : OwnF c H G [] [] []
  | cons {n : Str} {v : V} {o : O} {vs : List (Str × V)} {fs : List (Str × O)} {f1 f2 : List Addr} : Own c H G v o f1 → OwnF c H G vs fs f2 → OwnF c H G ((n, v) :: vs) ((n, o) :: fs) (f1 ++ f2)
end
inductive Slots (c : Cc) (H G : Hp) : List (Option V) → List O → List Addr → Prop
  | nil : Slots c H G [] [] []
  | un {x : Option V} {σ : List (Option V)} {s : S} {fp : List Addr} : Slots c H G σ s fp → Slots c H G (x :: σ) (.un :: s) fp
  | cons {v : V} {o : O} {σ : List (Option V)} {s : S} {f1 f2 : List Addr} : Own c H G v o f1 → Slots c H G σ s f2 → Slots c H G (some v :: σ) (o :: s) (f1 ++ f2)

section
variable {c : Cc} {H H' G G' : Hp}
mutual
theorem Own.stay (hg : Same G G') : ∀ {v : V} {o : O} {fp : List Addr}, Own c H G v o fp → (∀ a ∈ fp, H' a = H a) → Own c H' G' v o fp
  | _, _, _, .val r, _ => .val (r.mono hg)
  | _, _, _, .lst (p := p) e r, h => .lst ((h p (by simp)).trans e) (r.mono hg)
  | _, _, _, .obj (p := p) (dx := dx) e1 e2 r, h => .obj ((h p (by simp)).trans e1) ((h dx (by simp)).trans e2) (OwnF.stay hg r fun a ha => h a (by simp [ha]))
theorem OwnF.stay (hg : Same G G') : ∀ {vs : List (Str × V)} {fs : List (Str × O)} {fp : List Addr}, OwnF c H G vs fs fp → (∀ a ∈ fp, H' a = H a) → OwnF c H' G' vs fs fp
  | _, _, _, .nil, _ => .nil
  | _, _, _, .cons r t, h => .cons (Own.stay hg r fun a ha => h a (by simp [ha])) (OwnF.stay hg t fun a ha => h a (by simp [ha]))
end
mutual
theorem Own.there : ∀ {v : V} {o : O} {fp : List Addr}, Own c H G v o fp → ∀ a ∈ fp, H a ≠ none
  | _, _, _, .val _, a, h => by simp at h
  | _, _, _, .lst e _, a, h => by
    simp at h; subst h; rw [e]; simp
  | _, _, _, .obj e1 e2 r, a, h => by
    simp at h
    rcases h with rfl | rfl | h
    · rw [e1]; simp
    · rw [e2]; simp
    · exact OwnF.there r a h
theorem OwnF.there : ∀ {vs : List (Str × V)} {fs : List (Str × O)} {fp : List Addr}, OwnF c H G vs fs fp → ∀ a ∈ fp, H a ≠ none
  | _, _, _, .nil, a, h => by simp at h
  | _, _, _, .cons r t, a, h => by
    rcases List.mem_append.mp h with h | h
    · exact Own.there r a h
    · exact OwnF.there t a h
end
theorem Slots.stay (hg : Same G G') : ∀ {σ : List (Option V)} {s : S} {fp : List Addr}, Slots c H G σ s fp → (∀ a ∈ fp, H' a = H a) → Slots c H' G' σ s fp
  | _, _, _, .nil, _ => .nil
  | _, _, _, .un t, h => .un (Slots.stay hg t h)
  | _, _, _, .cons r t, h => .cons (Own.stay hg r fun a ha => h a (by simp [ha])) (Slots.stay hg t fun a ha => h a (by simp [ha]))
theorem Slots.length : ∀ {σ : List (Option V)} {s : S} {fp : List Addr}, Slots c H G σ s fp → σ.length = s.length
  | _, _, _, .nil => rfl
  | _, _, _, .un t => by rw [List.length_cons, List.length_cons, Slots.length t]
  | _, _, _, .cons _ t => by rw [List.length_cons, List.length_cons, Slots.length t]
theorem Slots.there : ∀ {σ : List (Option V)} {s : S} {fp : List Addr}, Slots c H G σ s fp → ∀ a ∈ fp, H a ≠ none
  | _, _, _, .nil, a, h => by simp at h
  | _, _, _, .un t, a, h => Slots.there t a h
  | _, _, _, .cons r t, a, h => by
    rcases List.mem_append.mp h with h | h
    · exact r.there a h
    · exact Slots.there t a h
/-- a slot with what it holds, and the rest -/
theorem Slots.split : ∀ {σ : List (Option V)} {s : S} {fp : List Addr} {i : Nat} {o : O}, Slots c H G σ s fp → s[i]? = some o → o ≠ .un →
    ∃ v f1 f2, σ[i]? = some (some v) ∧ Own c H G v o f1 ∧ fp.Perm (f1 ++ f2) ∧ ∀ (H' G' : Hp) (o' : O) (f1' : List Addr), Own c H' G' v o' f1' → (∀ a ∈ f2, H' a = H a) → Same G G' →
      ∃ fp', fp'.Perm (f1' ++ f2) ∧ Slots c H' G' σ (s.set i o') fp'
  | _, _, _, i, o, .nil, e, _ => by simp at e
  | _, _, _, 0, o, .un t, e, h => by simp at e; exact absurd e.symm h
  | _, _, _, i + 1, o, .un t, e, h => by
    obtain ⟨v, f1, f2, e1, w, p, k⟩ := Slots.split (i := i) t (by simpa using e) h
    refine ⟨v, f1, f2, by simpa using e1, w, p, fun H' G' o' f1' w' hh hg => ?_⟩
    obtain ⟨fp', p', t'⟩ := k H' G' o' f1' w' hh hg
    exact ⟨fp', p', by simpa using Slots.un t'⟩
  | _, _, _, 0, o, .cons (v := v) (f1 := f1) (f2 := f2) r t, e, h => by
    simp at e
    subst e
    refine ⟨v, f1, f2, rfl, r, List.Perm.refl _, fun H' G' o' f1' w' hh hg => ⟨f1' ++ f2, List.Perm.refl _, ?_⟩⟩
    simpa using Slots.cons w' (t.stay hg hh)
  | _, _, _, i + 1, o, .cons (v := v0) (o := o0) (f1 := g1) (f2 := g2) r t, e, h => by
    obtain ⟨v, f1, f2, e1, w, p, k⟩ := Slots.split (i := i) t (by simpa using e) h
    refine ⟨v, f1, g1 ++ f2, by simpa using e1, w, ?_, fun H' G' o' f1' w' hh hg => ?_⟩
    · refine (List.Perm.append_left g1 p).trans ?_
      rw [← List.append_assoc, ← List.append_assoc]
      exact List.Perm.append_right f2 List.perm_append_comm
    · obtain ⟨fp', p', t'⟩ := k H' G' o' f1' w' (fun a ha => hh a (by simp [ha])) hg
      refine ⟨g1 ++ fp', ?_, ?_⟩
      · refine (List.Perm.append_left g1 p').trans ?_
        rw [← List.append_assoc, ← List.append_assoc]
        exact List.Perm.append_right f2 List.perm_append_comm
      · simpa using Slots.cons (r.stay hg fun a ha => hh a (by simp [ha])) t'
/-- a slot is given another thing -/
theorem Slots.put : ∀ {σ : List (Option V)} {s : S} {fp : List Addr} {i : Nat}, Slots c H G σ s fp → i < s.length →
    ∃ f1 f2, fp.Perm (f1 ++ f2) ∧ ∀ (H' G' : Hp) (v' : V) (o' : O) (f1' : List Addr), Own c H' G' v' o' f1' → (∀ a ∈ f2, H' a = H a) → Same G G' →
      ∃ fp', fp'.Perm (f1' ++ f2) ∧ Slots c H' G' (σ.set i (some v')) (s.set i o') fp'
  | _, _, _, i, .nil, e => by simp at e
  | _, _, _, 0, .un (fp := fp) t, e => ⟨[], fp, List.Perm.refl _, fun H' G' v' o' f1' w' hh hg => ⟨f1' ++ fp, List.Perm.refl _, by simpa using Slots.cons w' (t.stay hg hh)⟩⟩
  | _, _, _, i + 1, .un t, e => by
    obtain ⟨f1, f2, p, k⟩ := Slots.put (i := i) t (by simpa using e)
    refine ⟨f1, f2, p, fun H' G' v' o' f1' w' hh hg => ?_⟩
    obtain ⟨fp', p', t'⟩ := k H' G' v' o' f1' w' hh hg
    exact ⟨fp', p', by simpa using Slots.un t'⟩
  | _, _, _, 0, .cons (f1 := f1) (f2 := f2) r t, e => ⟨f1, f2, List.Perm.refl _, fun H' G' v' o' f1' w' hh hg => ⟨f1' ++ f2, List.Perm.refl _, by simpa using Slots.cons w' (t.stay hg hh)⟩⟩
  | _, _, _, i + 1, .cons (v := v0) (o := o0) (f1 := g1) (f2 := g2) r t, e => by
    obtain ⟨f1, f2, p, k⟩ := Slots.put (i := i) t (by simpa using e)
    refine ⟨f1, g1 ++ f2, ?_, fun H' G' v' o' f1' w' hh hg => ?_⟩
    · refine (List.Perm.append_left g1 p).trans ?_
      rw [← List.append_assoc, ← List.append_assoc]
      exact List.Perm.append_right f2 List.perm_append_comm
    · obtain ⟨fp', p', t'⟩ := k H' G' v' o' f1' w' (fun a ha => hh a (by simp [ha])) hg
      refine ⟨g1 ++ fp', ?_, ?_⟩
      · refine (List.Perm.append_left g1 p').trans ?_
        rw [← List.append_assoc, ← List.append_assoc]
        exact List.Perm.append_right f2 List.perm_append_comm
      · simpa using Slots.cons (r.stay hg fun a ha => hh a (by simp [ha])) t'
/-- forgetting a slot -/
theorem Slots.forget : ∀ {σ : List (Option V)} {s : S} {fp : List Addr} (i : Nat) (x : Option V), Slots c H G σ s fp →
    ∃ f1 f2, fp.Perm (f1 ++ f2) ∧ Slots c H G (σ.set i x) (s.set i .un) f2
  | _, _, _, i, x, .nil => ⟨[], [], List.Perm.refl _, .nil⟩
  | _, _, _, 0, x, .un (fp := fp) t => ⟨[], fp, List.Perm.refl _, .un t⟩
  | _, _, _, i + 1, x, .un t => by
    obtain ⟨f1, f2, p, k⟩ := Slots.forget i x t
    exact ⟨f1, f2, p, .un k⟩
  | _, _, _, 0, x, .cons (f1 := f1) (f2 := f2) r t => ⟨f1, f2, List.Perm.refl _, .un t⟩
  | _, _, _, i + 1, x, .cons (v := v0) (o := o0) (f1 := g1) (f2 := g2) r t => by
    obtain ⟨f1, f2, p, k⟩ := Slots.forget i x t
    refine ⟨f1, g1 ++ f2, ?_, .cons r k⟩
    refine (List.Perm.append_left g1 p).trans ?_
    rw [← List.append_assoc, ← List.append_assoc]
    exact List.Perm.append_right f2 List.perm_append_comm
end

/-- a slot's thing taken out -/
theorem Slots.take {c : Cc} {H G : Hp} : ∀ {σ : List (Option V)} {s : S} {fp : List Addr} {i : Nat} {o : O}, Slots c H G σ s fp → s[i]? = some o → o ≠ .un →
    ∃ v f1 f2, σ[i]? = some (some v) ∧ Own c H G v o f1 ∧ fp.Perm (f1 ++ f2) ∧ Slots c H G σ (s.set i .un) f2
  | _, _, _, i, o, .nil, e, _ => by simp at e
  | _, _, _, 0, o, .un t, e, h => by simp at e; exact absurd e.symm h
  | _, _, _, i + 1, o, .un t, e, h => by
    obtain ⟨v, f1, f2, e1, w, p, k⟩ := Slots.take (i := i) t (by simpa using e) h
    exact ⟨v, f1, f2, by simpa using e1, w, p, by simpa using Slots.un k⟩
  | _, _, _, 0, o, .cons (v := v) (f1 := f1) (f2 := f2) r t, e, h => by
    simp at e
    subst e
    exact ⟨v, f1, f2, rfl, r, List.Perm.refl _, .un t⟩
  | _, _, _, i + 1, o, .cons (v := v0) (o := o0) (f1 := g1) (f2 := g2) r t, e, h => by
    obtain ⟨v, f1, f2, e1, w, p, k⟩ := Slots.take (i := i) t (by simpa using e) h
    refine ⟨v, f1, g1 ++ f2, by simpa using e1, w, ?_, .cons r k⟩
    refine (List.Perm.append_left g1 p).trans ?_
    rw [← List.append_assoc, ← List.append_assoc]
    exact List.Perm.append_right f2 List.perm_append_comm
/-- .. and put back -/
theorem Slots.back {c : Cc} {H G : Hp} {v : V} {o : O} {f1 : List Addr} (w : Own c H G v o f1) : ∀ {σ : List (Option V)} {s : S} {fp : List Addr} {i : Nat}, Slots c H G σ s fp → s[i]? = some .un → σ[i]? = some (some v) →
    ∃ fp', fp'.Perm (f1 ++ fp) ∧ Slots c H G σ (s.set i o) fp'
  | _, _, _, i, .nil, e, _ => by simp at e
  | _, _, _, 0, .un (fp := fp) t, _, e => by
    simp at e
    subst e
    exact ⟨f1 ++ fp, List.Perm.refl _, .cons w t⟩
  | _, _, _, i + 1, .un t, e, h => by
    obtain ⟨fp', p, k⟩ := Slots.back w (i := i) t (by simpa using e) (by simpa using h)
    exact ⟨fp', p, .un k⟩
  | _, _, _, 0, .cons r t, e, h => by
    simp at e h
    subst e
    cases r
  | _, _, _, i + 1, .cons (f1 := g1) (f2 := g2) r t, e, h => by
    obtain ⟨fp', p, k⟩ := Slots.back w (i := i) t (by simpa using e) (by simpa using h)
    refine ⟨g1 ++ fp', ?_, .cons r k⟩
    refine (List.Perm.append_left g1 p).trans ?_
    rw [← List.append_assoc, ← List.append_assoc]
    exact List.Perm.append_right _ List.perm_append_comm

/-! ### from one place of a running def to the next -/
/-- the frozen part G of the heap H, the own things at fp -/
structure Ok (H G : Hp) (fp : List Addr) : Prop where
  sub : Same G H
  own : ∀ a ∈ fp, G a = none
  nd : fp.Nodup
structure Ev (H G : Hp) (fp : List Addr) (H' G' : Hp) (fp' : List Addr) : Prop where
  gs : Same G G'
  sub : Same G' H'
  fresh : ∀ a, G a = none → G' a ≠ none → H a = none ∨ a ∈ fp
  frame : ∀ a o, H a = some o → a ∉ fp → H' a = some o
  live : ∀ a, H a ≠ none → H' a ≠ none
  own : ∀ a ∈ fp', G' a = none ∧ (a ∈ fp ∨ H a = none)
  nd : fp'.Nodup
/-- nothing that stood is changed; what is new may be frozen -/
structure Grow (H G H' G' : Hp) : Prop where
  hs : Same H H'
  gs : Same G G'
  sub : Same G' H'
  nw : ∀ a, H a ≠ none → G' a = G a

section
variable {c : Cc} {H H' H1 H2 G G' G1 G2 : Hp} {fp fp' fp1 fp2 f1 f2 : List Addr} {p : Addr} {o : HO} {σ : List (Option V)} {s : S}
theorem same_ne {G H : Hp} (e : Same G H) {a : Addr} (h : G a ≠ none) : H a ≠ none := fun z => h (e.free z)
theorem same_upd {H : Hp} {p : Addr} {o : HO} (h : H p = none) : Same H (upd H p o) := fun b x e => by
  rw [upd_ne (ne_of_none e h)]
  exact e
theorem Grow.refl (h : Same G H) : Grow H G H G := ⟨Same.refl _, Same.refl _, h, fun _ _ => rfl⟩
theorem Grow.trans (a : Grow H G H' G') (b : Grow H' G' H2 G2) : Grow H G H2 G2 :=
  ⟨a.hs.trans b.hs, a.gs.trans b.gs, b.sub, fun x hx => (b.nw x (same_ne a.hs hx)).trans (a.nw x hx)⟩
theorem Grow.alloc (h : Same G H) (hp : H p = none) : Grow H G (upd H p o) (upd G p o) := by
  have gp : G p = none := h.free hp
  refine ⟨same_upd hp, same_upd gp, fun b x e => ?_, fun a ha => ?_⟩
  · by_cases hb : b = p
    · subst hb; rw [upd_same] at e ⊢; exact e
    · rw [upd_ne hb] at e ⊢; exact h b x e
  · exact upd_ne fun z => ha (z ▸ hp)
theorem Grow.hid (h : Same G H) (hp : H p = none) : Grow H G (upd H p o) G := ⟨same_upd hp, Same.refl _, h.trans (same_upd hp), fun _ _ => rfl⟩
theorem Grow.keep (g : Grow H G H' G') {a : Addr} (h : H a ≠ none) : H' a = H a := by
  cases q : H a with
  | none => exact absurd q h
  | some o => exact g.hs a o q
theorem Slots.step (x : Slots c H G σ s fp) (g : Grow H G H' G') : Slots c H' G' σ s fp := x.stay g.gs fun a ha => g.keep (x.there a ha)
theorem Grow.ev (k : Ok H G fp) (x : Slots c H G σ s fp) (g : Grow H G H' G') : Ev H G fp H' G' fp where
  gs := g.gs
  sub := g.sub
  fresh := fun a h1 h2 => by
    by_cases ha : H a = none
    · exact .inl ha
    · rw [g.nw a ha] at h2
      exact absurd h1 h2
  frame := fun a o e _ => g.hs a o e
  live := fun a h => same_ne g.hs h
  own := fun a ha => ⟨(g.nw a (x.there a ha)).trans (k.own a ha), .inl ha⟩
  nd := k.nd
theorem Ev.ok (e : Ev H G fp H' G' fp') : Ok H' G' fp' := ⟨e.sub, fun a ha => (e.own a ha).1, e.nd⟩
theorem Ev.refl (k : Ok H G fp) : Ev H G fp H G fp := ⟨Same.refl _, k.sub, fun a h1 h2 => absurd h1 h2, fun _ _ e _ => e, fun _ h => h, fun a ha => ⟨k.own a ha, .inl ha⟩, k.nd⟩
/-- what was done with a part of the own things, beside the rest of them -/
theorem Ev.beside (k : Ok H G fp) (p : fp.Perm (f1 ++ f2)) (h2 : ∀ a ∈ f2, H a ≠ none) (e : Ev H G f1 H' G' fp1) : Ev H G fp H' G' (fp1 ++ f2) where
  gs := e.gs
  sub := e.sub
  fresh := fun a x y => (e.fresh a x y).imp id fun z => p.mem_iff.mpr (List.mem_append_left _ z)
  frame := fun a o x y => e.frame a o x fun z => y (p.mem_iff.mpr (List.mem_append_left _ z))
  live := e.live
  own := fun a ha => by
    rcases List.mem_append.mp ha with ha | ha
    · obtain ⟨x, y⟩ := e.own a ha
      exact ⟨x, y.imp (fun z => p.mem_iff.mpr (List.mem_append_left _ z)) id⟩
    · refine ⟨?_, .inl (p.mem_iff.mpr (List.mem_append_right _ ha))⟩
      have ga := k.own a (p.mem_iff.mpr (List.mem_append_right _ ha))
      cases q : G' a with
      | none => rfl
      | some o =>
        rcases e.fresh a ga (by rw [q]; simp) with z | z
        · exact absurd z (h2 a ha)
        · exact absurd rfl ((List.nodup_append.mp (p.nodup_iff.mp k.nd)).2.2 a z a ha)
  nd := by
    refine List.nodup_append.mpr ⟨e.nd, (List.nodup_append.mp (p.nodup_iff.mp k.nd)).2.1, fun a ha b hb z => ?_⟩
    subst z
    rcases (e.own a ha).2 with x | x
    · exact (List.nodup_append.mp (p.nodup_iff.mp k.nd)).2.2 a x a hb rfl
    · exact h2 a hb x
theorem Ev.trans (a : Ev H G fp H1 G1 fp1) (b : Ev H1 G1 fp1 H2 G2 fp2) : Ev H G fp H2 G2 fp2 where
  gs := a.gs.trans b.gs
  sub := b.sub
  fresh := fun x h1 h2 => by
    cases q : G1 x with
    | some o => exact a.fresh x h1 (by rw [q]; simp)
    | none =>
      rcases b.fresh x q h2 with z | z
      · left
        cases r : H x with
        | none => rfl
        | some o => exact absurd z (a.live x (by rw [r]; simp))
      · exact (a.own x z).2.symm
  frame := fun x o h1 h2 => b.frame x o (a.frame x o h1 h2) fun z => by
    rcases (a.own x z).2 with y | y
    · exact h2 y
    · rw [h1] at y; cases y
  live := fun x h => b.live x (a.live x h)
  own := fun x hx => by
    obtain ⟨h1, h2⟩ := b.own x hx
    refine ⟨h1, ?_⟩
    rcases h2 with h2 | h2
    · exact (a.own x h2).2
    · right
      cases r : H x with
      | none => rfl
      | some o => exact absurd h2 (a.live x (by rw [r]; simp))
  nd := b.nd
theorem Ev.grow (a : Ev H G fp H1 G1 fp1) (x : Slots c H1 G1 σ s fp1) (g : Grow H1 G1 H2 G2) : Ev H G fp H2 G2 fp1 := a.trans (g.ev a.ok x)
theorem Ev.perm (a : Ev H G fp H' G' fp') (p : fp1.Perm fp') : Ev H G fp H' G' fp1 := { a with own := fun x hx => a.own x (p.mem_iff.mp hx), nd := p.nodup_iff.mpr a.nd }
theorem Ev.less (a : Ev H G fp H' G' fp') (p : fp'.Perm (f1 ++ f2)) : Ev H G fp H' G' f2 :=
  { a with own := fun x hx => a.own x (p.mem_iff.mpr (List.mem_append_right _ hx)), nd := (List.nodup_append.mp (p.nodup_iff.mp a.nd)).2.1 }
theorem Ev.pure (x : Ev H G [] H' G' fp) : Grow H G H' G' where
  hs := fun a o e => x.frame a o e (by simp)
  gs := x.gs
  sub := x.sub
  nw := fun a ha => by
    cases q : G a with
    | some o => exact x.gs a o q
    | none =>
      cases r : G' a with
      | none => rfl
      | some o =>
        rcases x.fresh a q (by rw [r]; simp) with z | z
        · exact absurd z ha
        · simp at z
theorem Ok.perm (k : Ok H G fp) (p : fp'.Perm fp) : Ok H G fp' := ⟨k.sub, fun a ha => k.own a (p.mem_iff.mp ha), p.nodup_iff.mpr k.nd⟩
theorem Ok.left (k : Ok H G fp) (p : fp.Perm (f1 ++ f2)) : Ok H G f1 := ⟨k.sub, fun a ha => k.own a (p.mem_iff.mpr (List.mem_append_left _ ha)), (List.nodup_append.mp (p.nodup_iff.mp k.nd)).1⟩
theorem Ok.right (k : Ok H G fp) (p : fp.Perm (f1 ++ f2)) : Ok H G f2 := ⟨k.sub, fun a ha => k.own a (p.mem_iff.mpr (List.mem_append_right _ ha)), (List.nodup_append.mp (p.nodup_iff.mp k.nd)).2.1⟩
end
end DL
/-! DL 2: operations on plain data, by values. -/
namespace DL
open PySem PySem.Spec PyProof.Rows L2

theorem line_eq : (sizeLine : Nat) = 16777216 := PySem.sizeLine_eq
/-! ### equality -/
mutual
def toPy : D → PyData
  | .non => .none
  | .bl b => .bool b
  | .int i => .int i
  | .str x => .str x
  | .tup xs => .tuple (toPyL xs)
  | .lst xs => .list (toPyL xs)
  | .ref _ => .none
def toPyL : List D → List PyData
  | [] => []
  | x :: xs => toPy x :: toPyL xs
end
/-! no strange text, no reference, depth below n -/
mutual
def okD : Nat → D → Bool
  | _, .non => true
  | _, .bl _ => true
  | _, .int _ => true
  | _, .str x => PyData.strOk x
  | 0, .tup _ => false
  | 0, .lst _ => false
  | n + 1, .tup xs => okL n xs
  | n + 1, .lst xs => okL n xs
  | _, .ref _ => false
def okL : Nat → List D → Bool
  | _, [] => true
  | n, x :: xs => okD n x && okL n xs
end
mutual
theorem okD_lay : ∀ (n : Nat) (d : D), okD n d = true → (toPy d).canLay0 = true ∧ (toPy d).depth ≤ n
  | n, .non, _ => ⟨rfl, Nat.zero_le _⟩
  | n, .bl b, _ => ⟨rfl, Nat.zero_le _⟩
  | n, .int i, _ => ⟨rfl, Nat.zero_le _⟩
  | n, .str x, h => by
    cases n <;> exact ⟨h, Nat.zero_le _⟩
  | 0, .tup xs, h => nomatch h
  | 0, .lst xs, h => nomatch h
  | n + 1, .tup xs, h => by
    obtain ⟨h1, h2⟩ := okL_lay n xs h
    exact ⟨h1, Nat.succ_le_succ h2⟩
  | n + 1, .lst xs, h => by
    obtain ⟨h1, h2⟩ := okL_lay n xs h
    exact ⟨h1, Nat.succ_le_succ h2⟩
  | n, .ref a, h => by cases n <;> exact nomatch h
theorem okL_lay : ∀ (n : Nat) (ds : List D), okL n ds = true → PyData.canLayAll0 (toPyL ds) = true ∧ PyData.depthAll (toPyL ds) ≤ n
  | n, [], _ => ⟨rfl, Nat.zero_le _⟩
  | n, x :: xs, h => by
    obtain ⟨h1, h2⟩ := Bool.and_eq_true_iff.mp h
    obtain ⟨a1, a2⟩ := okD_lay n x h1
    obtain ⟨b1, b2⟩ := okL_lay n xs h2
    refine ⟨Bool.and_eq_true_iff.mpr ⟨a1, b1⟩, Nat.max_le.mpr ⟨a2, b2⟩⟩
end
mutual
theorem Rep.dp {K : PySem.W.Frag} {G : Hp} : ∀ {n : Nat} {v : V} {d : D}, okD n d = true → Rep K G v d → Dp K G v (toPy d)
  | _, _, _, _, .non => .non
  | _, _, _, _, .bl b => .bl b
  | _, _, _, _, .int i => .int i
  | _, _, _, _, .str x => .str x
  | n, _, .ref a, h, .ref _ => by cases n <;> exact nomatch h
  | 0, _, _, h, .tup _ _ => nomatch h
  | 0, _, _, h, .lst _ _ => nomatch h
  | n + 1, _, _, h, .tup e r => .tup e (Reps.dp (n := n) h r)
  | n + 1, _, _, h, .lst e r => .lst e (Reps.dp (n := n) h r)
theorem Reps.dp {K : PySem.W.Frag} {G : Hp} : ∀ {n : Nat} {vs : List V} {ds : List D}, okL n ds = true → Reps K G vs ds → DpAll K G vs (toPyL ds)
  | _, _, _, _, .nil => .nil
  | n, _, _, h, .cons r t => .cons (Rep.dp (n := n) (Bool.and_eq_true_iff.mp h).1 r) (Reps.dp (n := n) (Bool.and_eq_true_iff.mp h).2 t)
end
theorem okD_shaped {d : D} (h : okD 60 d = true) : SeqAt.shaped (toPy d) = true := by
  obtain ⟨h1, h2⟩ := okD_lay 60 d h
  exact Bool.and_eq_true_iff.mpr ⟨h1, decide_eq_true (by omega)⟩
/-- plain data as == tells it apart -/
def eqD (x y : D) : Bool := PyData.eqv (toPy x) (toPy y)
def dEq (x y : D) : Option D := if okD 60 x = true ∧ okD 60 y = true then some (.bl (eqD x y)) else none
def dNe (x y : D) : Option D := if okD 60 x = true ∧ okD 60 y = true then some (.bl (!eqD x y)) else none

/-! ### operations -/
def cap : Nat := 1000000
def dAdd : D → D → Option D
  | .int i, .int j => some (.int (i + j))
  | .str x, .str y => if x.length + y.length ≤ cap then some (.str (x ++ y)) else none
  | .tup xs, .tup ys => if xs.length + ys.length ≤ cap then some (.tup (xs ++ ys)) else none
  | _, _ => none
def dSub : D → D → Option D
  | .int i, .int j => some (.int (i - j))
  | _, _ => none
def dMul : D → D → Option D
  | .int i, .int j => if i.natAbs.log2 + j.natAbs.log2 < 100000000 then some (.int (i * j)) else none
  | .tup xs, .int k => if xs ≠ [] ∧ 2 ≤ k ∧ k ≤ 1000 ∧ xs.length ≤ 1000 then some (.tup (List.replicate k.toNat xs).flatten) else none
  | _, _ => none
def dFdiv : D → D → Option D
  | .int i, .int j => if j ≠ 0 ∧ j.natAbs.log2 < 9000 then some (.int (i.fdiv j)) else none
  | _, _ => none
def dMod : D → D → Option D
  | .int i, .int j => if j ≠ 0 then some (.int (i.fmod j)) else none
  | _, _ => none
def dPow : D → D → Option D
  | .int i, .int j => if 0 ≤ j ∧ j ≤ 1000000 ∧ i.natAbs < 2 ^ 64 then some (.int (i ^ j.toNat)) else none
  | _, _ => none
def dLt : D → D → Option D
  | .int i, .int j => some (.bl (decide (i < j)))
  | _, _ => none
def dLe : D → D → Option D
  | .int i, .int j => some (.bl (decide (i ≤ j)))
  | _, _ => none
def dGt : D → D → Option D
  | .int i, .int j => some (.bl (decide (j < i)))
  | _, _ => none
def dGe : D → D → Option D
  | .int i, .int j => some (.bl (decide (j ≤ i)))
  | _, _ => none
def dNeg : D → Option D
  | .int i => some (.int (-i))
  | _ => none
def dIx : D → D → Option D
  | .tup xs, .int i => atI xs i
  | .lst xs, .int i => atI xs i
  | .str x, .int i => if x.length ≤ cap then (atI x.cps.toList i).map fun k => .str ⟨#[k]⟩ else none
  | _, _ => none

def OpS (c : Cc) (r : R2) (f : D → D → Option D) : Prop :=
  ∀ ⦃H G : Hp⦄ ⦃x y : V⦄ ⦃dx dy dz : D⦄ (Q : VK), Same G H → Rep c.K G x dx → Rep c.K G y dy → f dx dy = some dz → (∀ v H' G', Grow H G H' G' → Rep c.K G' v dz → Q v H') → r x y H Q
def UnS (c : Cc) (r : V → Hp → VK → Prop) (f : D → Option D) : Prop :=
  ∀ ⦃H G : Hp⦄ ⦃x : V⦄ ⦃dx dz : D⦄ (Q : VK), Same G H → Rep c.K G x dx → f dx = some dz → (∀ v H' G', Grow H G H' G' → Rep c.K G' v dz → Q v H') → r x H Q
section
variable {c : Cc} {X : Cx}
theorem cap_line : cap ≤ sizeLine := by rw [line_eq]; decide
theorem cap_lt : cap < sizeLine := by rw [line_eq]; decide

theorem Rep.ints {K : PySem.W.Frag} {G : Hp} {x : V} {i : Int} (h : Rep K G x (.int i)) : x = .int i := by cases h; rfl
theorem opS_int {C : Int → Int → Prop} {g : Int → Int → V} {h : Int → Int → D} {f : D → D → Option D} (hf : ∀ dx dy dz, f dx dy = some dz → ∃ i j, dx = .int i ∧ dy = .int j ∧ C i j ∧ dz = h i j) (hr : ∀ K G i j, Rep K G (g i j) (h i j)) :
    OpS c (rI C g) f := fun H G x y dx dy dz Q e rx ry hz q => by
  obtain ⟨i, j, rfl, rfl, hc, rfl⟩ := hf dx dy dz hz
  exact ⟨i, j, rx.ints, ry.ints, hc, q _ _ _ (Grow.refl e) (hr _ _ _ _)⟩
theorem opS_int0 {g : Int → Int → V} {h : Int → Int → D} {f : D → D → Option D} (hf : ∀ dx dy dz, f dx dy = some dz → ∃ i j, dx = .int i ∧ dy = .int j ∧ dz = h i j) (hr : ∀ K G i j, Rep K G (g i j) (h i j)) :
    OpS c (rI0 g) f := fun H G x y dx dy dz Q e rx ry hz q => by
  obtain ⟨i, j, rfl, rfl, rfl⟩ := hf dx dy dz hz
  exact ⟨i, j, rx.ints, ry.ints, q _ _ _ (Grow.refl e) (hr _ _ _ _)⟩
theorem os_sub : OpS c (rI0 fun i j => .int (i - j)) dSub := opS_int0 (h := fun i j => .int (i - j)) (fun dx dy dz h => by
  cases dx <;> cases dy <;> simp [dSub] at h
  exact ⟨_, _, rfl, rfl, h.symm⟩) fun _ _ _ _ => .int _
theorem os_lt : OpS c (rI0 fun i j => .bl (decide (i < j))) dLt := opS_int0 (h := fun i j => .bl (decide (i < j))) (fun dx dy dz h => by
  cases dx <;> cases dy <;> simp [dLt] at h
  exact ⟨_, _, rfl, rfl, h.symm⟩) fun _ _ _ _ => .bl _
theorem os_le : OpS c (rI0 fun i j => .bl (decide (i ≤ j))) dLe := opS_int0 (h := fun i j => .bl (decide (i ≤ j))) (fun dx dy dz h => by
  cases dx <;> cases dy <;> simp [dLe] at h
  exact ⟨_, _, rfl, rfl, h.symm⟩) fun _ _ _ _ => .bl _
theorem os_gt : OpS c (rI0 fun i j => .bl (decide (j < i))) dGt := opS_int0 (h := fun i j => .bl (decide (j < i))) (fun dx dy dz h => by
  cases dx <;> cases dy <;> simp [dGt] at h
  exact ⟨_, _, rfl, rfl, h.symm⟩) fun _ _ _ _ => .bl _
theorem os_ge : OpS c (rI0 fun i j => .bl (decide (j ≤ i))) dGe := opS_int0 (h := fun i j => .bl (decide (j ≤ i))) (fun dx dy dz h => by
  cases dx <;> cases dy <;> simp [dGe] at h
  exact ⟨_, _, rfl, rfl, h.symm⟩) fun _ _ _ _ => .bl _
theorem os_mod : OpS c (rI (fun _ j => j ≠ 0) fun i j => .int (i.fmod j)) dMod := opS_int (h := fun i j => .int (i.fmod j)) (fun dx dy dz h => by
  cases dx <;> cases dy <;> simp [dMod] at h
  exact ⟨_, _, rfl, rfl, h.1, h.2.symm⟩) fun _ _ _ _ => .int _
theorem os_pow : OpS c (rI CPow fun i j => .int (i ^ j.toNat)) dPow := opS_int (h := fun i j => .int (i ^ j.toNat)) (fun dx dy dz h => by
  cases dx <;> cases dy <;> simp only [dPow] at h <;> try contradiction
  split at h
  · rename_i hc; cases h; exact ⟨_, _, rfl, rfl, hc, rfl⟩
  · exact nomatch h) fun _ _ _ _ => .int _
def CDivS (_ j : Int) : Prop := j ≠ 0 ∧ j.natAbs.log2 < 9000
theorem op_fdivS : OpR X (binaryOp .FloorDiv) (rI CDivS fun i j => .int (i.fdiv j)) := opI fun i j _ _ _ _ _ hc q => floordiv_int hc.1 q (.inl (PyProof.noPylong_of_log2 hc.2))
theorem os_fdiv : OpS c (rI CDivS fun i j => .int (i.fdiv j)) dFdiv := opS_int (h := fun i j => .int (i.fdiv j)) (fun dx dy dz h => by
  cases dx <;> cases dy <;> simp only [dFdiv] at h <;> try contradiction
  split at h
  · rename_i hc; cases h; exact ⟨_, _, rfl, rfl, hc, rfl⟩
  · exact nomatch h) fun _ _ _ _ => .int _

/-- either of two readings -/
theorem OpS.or {r r' : R2} {f : D → D → Option D} (h : ∀ ⦃H G : Hp⦄ ⦃x y : V⦄ ⦃dx dy dz : D⦄ (Q : VK), Same G H → Rep c.K G x dx → Rep c.K G y dy → f dx dy = some dz → (∀ v H' G', Grow H G H' G' → Rep c.K G' v dz → Q v H') → r x y H Q ∨ r' x y H Q) :
    OpS c (fun x y H Q => r x y H Q ∨ r' x y H Q) f := h
def rAddS : R2 := fun x y H Q => ∃ i j, x = .str i ∧ y = .str j ∧ i.length + j.length ≤ sizeLine ∧ Q (.str (i ++ j)) H
def rAddA (K : PySem.W.Frag) : R2 := fun x y H Q => rI0 (fun i j => .int (i + j)) x y H Q ∨ rAddS x y H Q ∨ rCatA K x y H Q
theorem op_addA : OpR X (binaryOp .Add) (rAddA X.K) := op_add.or (op_add_str.or op_catA)
theorem os_add : OpS c (rAddA c.K) dAdd := fun H G x y dx dy dz Q e rx ry hz q => by
  cases dx <;> cases dy <;> simp only [dAdd] at hz <;> try contradiction
  · cases hz
    exact .inl ⟨_, _, rx.ints, ry.ints, q _ _ _ (Grow.refl e) (.int _)⟩
  · split at hz
    · rename_i hc; cases hz
      cases rx; cases ry
      exact .inr (.inl ⟨_, _, rfl, rfl, Nat.le_trans hc cap_line, q _ _ _ (Grow.refl e) (.str _)⟩)
    · exact nomatch hz
  · split at hz
    · rename_i hc; cases hz
      cases rx with
      | tup t1 r1 =>
      cases ry with
      | tup t2 r2 =>
      have l1 := r1.length
      have l2 := r2.length
      refine .inr (.inr ⟨_, _, _, _, rfl, rfl, Same.sqT e t1, Same.sqT e t2, Nat.le_trans (by omega) cap_line, fun z => ?_, fun z1 z2 => ?_, fun z1 z2 p hp => ?_⟩)
      · subst z
        cases r1
        exact q _ _ _ (Grow.refl e) (by simpa using Rep.tup t2 r2)
      · subst z2
        cases r2
        exact q _ _ _ (Grow.refl e) (by simpa using Rep.tup t1 r1)
      · exact q _ _ _ (Grow.alloc e hp) (.tup (SqT.of upd_same) ((r1.append r2).mono (same_upd (e.free hp))))
    · exact nomatch hz
def CMulS (i j : Int) : Prop := i.natAbs.log2 + j.natAbs.log2 < 100000000
theorem CMulS.ok {i j : Int} (h : CMulS i j) : IntMulOk i j := by
  have b : ∀ x : Int, Builtin.Int.intBits x ≤ x.natAbs.log2 + 1 := fun x => by
    unfold Builtin.Int.intBits
    split <;> omega
  have h1 := b i
  have h2 := b j
  have h3 : i.natAbs.log2 + j.natAbs.log2 < 100000000 := h
  have e : bitsLine = 134217728 := by decide
  unfold IntMulOk
  intro z
  rw [Bool.and_eq_true] at z
  have z2 := z.2
  unfold Builtin.Int.intTooBig at z2
  have z3 := of_decide_eq_true z2
  rw [e] at z3
  omega
theorem op_mulS : OpR X (binaryOp .Mult) (rI CMulS fun i j => .int (i * j)) := opI fun _ _ _ _ _ _ _ hc q => mul_int q hc.ok
def rMulA (K : PySem.W.Frag) : R2 := fun x y H Q => rI CMulS (fun i j => .int (i * j)) x y H Q ∨ rRepT K x y H Q
theorem op_mulA : OpR X (binaryOp .Mult) (rMulA X.K) := op_mulS.or op_repT
theorem Reps.rep {K : PySem.W.Frag} {G : Hp} {vs : List V} {xs : List D} (r : Reps K G vs xs) : ∀ k : Nat, Reps K G (List.replicate k vs).flatten (List.replicate k xs).flatten
  | 0 => .nil
  | k + 1 => by
    rw [List.replicate_succ, List.replicate_succ, List.flatten_cons, List.flatten_cons]
    exact r.append (Reps.rep r k)
theorem os_mul : OpS c (rMulA c.K) dMul := fun H G x y dx dy dz Q e rx ry hz q => by
  cases dx <;> cases dy <;> simp only [dMul] at hz <;> try contradiction
  · split at hz
    · rename_i hc; cases hz
      exact .inl ⟨_, _, rx.ints, ry.ints, hc, q _ _ _ (Grow.refl e) (.int _)⟩
    · exact nomatch hz
  · split at hz
    · rename_i hc; cases hz
      cases rx with
      | tup t1 r1 =>
      obtain ⟨h1, h2, h3, h4⟩ := hc
      refine .inr ⟨_, _, _, rfl, ry.ints, Same.sqT e t1, fun z => h1 ?_, h2, h3, by rw [r1.length]; exact h4, fun p hp => ?_⟩
      · subst z; cases r1; rfl
      · exact q _ _ _ (Grow.alloc e hp) (.tup (SqT.of upd_same) ((r1.rep _).mono (same_upd (e.free hp))))
    · exact nomatch hz
theorem os_eq : OpS c (rEqD c.K) dEq := fun H G x y dx dy dz Q e rx ry hz q => by
  unfold dEq at hz
  split at hz
  · rename_i hc; cases hz
    exact ⟨_, _, Rep.dp hc.1 (rx.mono e), Rep.dp hc.2 (ry.mono e), okD_shaped hc.1, okD_shaped hc.2, q _ _ _ (Grow.refl e) (.bl _)⟩
  · exact nomatch hz
theorem os_ne : OpS c (rNeD c.K) dNe := fun H G x y dx dy dz Q e rx ry hz q => by
  unfold dNe at hz
  split at hz
  · rename_i hc; cases hz
    exact ⟨_, _, Rep.dp hc.1 (rx.mono e), Rep.dp hc.2 (ry.mono e), okD_shaped hc.1, okD_shaped hc.2, q _ _ _ (Grow.refl e) (.bl _)⟩
  · exact nomatch hz
theorem un_negS : UnS c (rU fun i => .int (-i)) dNeg := fun H G x dx dz Q e rx hz q => by
  cases dx <;> simp [dNeg] at hz
  subst hz
  exact ⟨_, rx.ints, q _ _ _ (Grow.refl e) (.int _)⟩
theorem ixN_len {K : PySem.W.Frag} {G : Hp} {vs : List V} {xs : List D} {i : Int} {d : D} (r : Reps K G vs xs) (h : atI xs i = some d) : ∃ v, atI vs i = some v ∧ Rep K G v d := by
  unfold atI at h ⊢
  rw [r.length]
  cases e : ixN xs.length i with
  | none => rw [e] at h; exact nomatch h
  | some j =>
    rw [e] at h
    exact r.get (i := j) h
theorem os_ix : OpS c (rIx c.K) dIx := fun H G x y dx dy dz Q e rx ry hz q => by
  cases dx <;> cases dy <;> simp only [dIx] at hz <;> try contradiction
  · rename_i z i
    split at hz
    · rename_i hc
      cases rx
      cases e2 : atI z.cps.toList i with
      | none => rw [e2] at hz; exact nomatch hz
      | some k =>
        rw [e2] at hz; cases hz
        exact .inr (.inr ⟨_, _, _, rfl, ry.ints, Nat.le_trans hc cap_line, e2, q _ _ _ (Grow.refl e) (.str _)⟩)
    · exact nomatch hz
  · cases rx with
    | tup t1 r1 =>
    obtain ⟨v, e2, r2⟩ := ixN_len r1 hz
    exact .inr (.inl ⟨_, _, _, _, rfl, ry.ints, Same.sqT e t1, e2, q _ _ _ (Grow.refl e) r2⟩)
  · cases rx with
    | lst t1 r1 =>
    obtain ⟨v, e2, r2⟩ := ixN_len r1 hz
    exact .inl ⟨_, _, _, _, rfl, ry.ints, Same.sqL e t1, e2, q _ _ _ (Grow.refl e) r2⟩
end
end DL
/-! DL 3: expressions: each gives plain data by a function of the slots. -/
namespace DL
open PySem PySem.Spec PyProof.Rows L2

abbrev EF := S → Option (D × S)
abbrev BF := S → Option (Bool × S)
abbrev AF := S → Option (List D × S)

section
variable (c : Cc)
/-- what is known behind: pure: nothing that stood is changed -/
abbrev Pure (b : Bool) (H G : Hp) (s : S) (fp : List Addr) (H' G' : Hp) (s' : S) (fp' : List Addr) : Prop := b = true → Grow H G H' G' ∧ s' = s
def tE (b : Bool) (f : EF) : TE := fun σ H Q => ∃ G s fp d s', Ok H G fp ∧ Slots c H G σ s fp ∧ f s = some (d, s') ∧
  ∀ v H' G' fp', Ev H G fp H' G' fp' → Slots c H' G' σ s' fp' → Rep c.K G' v d → Pure b H G s fp H' G' s' fp' → Q v H'
def tT (b : Bool) (f : BF) : TT := fun σ H Q => ∃ G s fp d s', Ok H G fp ∧ Slots c H G σ s fp ∧ f s = some (d, s') ∧
  ∀ H' G' fp', Ev H G fp H' G' fp' → Slots c H' G' σ s' fp' → Pure b H G s fp H' G' s' fp' → Q d H'
def tA (b : Bool) (f : AF) : TA := fun σ H Q => ∃ G s fp d s', Ok H G fp ∧ Slots c H G σ s fp ∧ f s = some (d, s') ∧
  ∀ vs H' G' fp', Ev H G fp H' G' fp' → Slots c H' G' σ s' fp' → Reps c.K G' vs d → Pure b H G s fp H' G' s' fp' → Q vs H'
def tOp' (b : Bool) (f : S → Option (Option Int × S)) : TO := fun σ H Q => ∃ G s fp d s', Ok H G fp ∧ Slots c H G σ s fp ∧ f s = some (d, s') ∧
  ∀ H' G' fp', Ev H G fp H' G' fp' → Slots c H' G' σ s' fp' → Pure b H G s fp H' G' s' fp' → Q d H'
end

theorem PE_imp {X : Cx} {e : Expr} {t t' : TE} (h : PE X e t) (k : ∀ σ H Q, t' σ H Q → t σ H Q) : PE X e t' := ⟨fun pins s σ H Q I q => h.run pins s σ H Q I (k σ H Q q)⟩
theorem PT_imp {X : Cx} {e : Expr} {t t' : TT} (h : PT X e t) (k : ∀ σ H Q, t' σ H Q → t σ H Q) : PT X e t' := ⟨fun pins s σ H Q I q => h.run pins s σ H Q I (k σ H Q q)⟩
theorem PW_imp {X : Cx} {e : Expr} {t t' : TT} (h : PW X e t) (k : ∀ σ H Q, t' σ H Q → t σ H Q) : PW X e t' := ⟨fun wh pins s σ H Q I q => h.run wh pins s σ H Q I (k σ H Q q)⟩
theorem PA_imp {X : Cx} {es : List Expr} {t t' : TA} (h : PA X es t) (k : ∀ σ H Q, t' σ H Q → t σ H Q) : PA X es t' := ⟨fun pos pins s σ H Q I q => h.run pos pins s σ H Q I (k σ H Q q)⟩
theorem PO_imp {X : Cx} {e : Option Expr} {t t' : TO} (h : PO X e t) (k : ∀ σ H Q, t' σ H Q → t σ H Q) : PO X e t' := ⟨fun pins s σ H Q I q => h.run pins s σ H Q I (k σ H Q q)⟩

/-! ### the functions -/
def eVar (i : Nat) : EF := fun s => match s[i]? with
  | some (.val d) => some (d, s)
  | _ => none
/-- a list of one's own becomes plain data for good -/
def eFrz (i : Nat) : EF := fun s => match s[i]? with
  | some (.lst xs) => some (.lst xs, s.set i (.val (.lst xs)))
  | some (.val d) => some (d, s)
  | _ => none
def eC (d : D) : EF := fun s => some (d, s)
def e1 (op : D → Option D) (f : EF) : EF := fun s => (f s).bind fun p => (op p.1).map fun z => (z, p.2)
def e2 (op : D → D → Option D) (f g : EF) : EF := fun s => (f s).bind fun p => (g p.2).bind fun q => (op p.1 q.1).map fun z => (z, q.2)
def aNil : AF := fun s => some ([], s)
def aCons (f : EF) (g : AF) : AF := fun s => (f s).bind fun p => (g p.2).map fun q => (p.1 :: q.1, q.2)
def eTup (f : AF) : EF := fun s => (f s).bind fun p => if p.1.length ≤ cap then some (.tup p.1, p.2) else none
def eLst (f : AF) : EF := fun s => (f s).bind fun p => if p.1.length ≤ cap then some (.lst p.1, p.2) else none
def truth : D → Option Bool
  | .non => some false
  | .bl b => some b
  | .int i => some (i != 0)
  | .str x => if x.length ≤ cap then some ((x.length : Int) != 0) else none
  | .tup xs => some (!xs.isEmpty)
  | .lst xs => some (!xs.isEmpty)
  | .ref _ => none
def bTst (f : EF) : BF := fun s => (f s).bind fun p => (truth p.1).map fun z => (z, p.2)
def bAnd (t u : BF) : BF := fun s => (t s).bind fun p => if p.1 = true then u p.2 else some (false, p.2)
def bOr (t u : BF) : BF := fun s => (t s).bind fun p => if p.1 = true then some (true, p.2) else u p.2
def bNot (t : BF) : BF := fun s => (t s).map fun p => (!p.1, p.2)
def eAnd (f g : EF) : EF := fun s => (f s).bind fun p => (truth p.1).bind fun k => if k = true then g p.2 else some p
def eOr (f g : EF) : EF := fun s => (f s).bind fun p => (truth p.1).bind fun k => if k = true then some p else g p.2
def eNot (f : EF) : EF := fun s => (f s).bind fun p => (truth p.1).map fun k => (.bl (!k), p.2)
def eIf (t : BF) (f g : EF) : EF := fun s => (t s).bind fun p => if p.1 = true then f p.2 else g p.2
def dIsN : D → Option D
  | .non => some (.bl true)
  | _ => some (.bl false)
def dNotN : D → Option D
  | .non => some (.bl false)
  | _ => some (.bl true)
/-- a < b < c -/
def eChain (op op' : D → D → Option D) (f g h : EF) : EF := fun s => (f s).bind fun p => (g p.2).bind fun q => (op p.1 q.1).bind fun z => match z with
  | .bl true => (h q.2).bind fun r => (op' q.1 r.1).map fun z' => (z', r.2)
  | .bl false => some (.bl false, q.2)
  | _ => none
def oNo : S → Option (Option Int × S) := fun s => some (none, s)
def oSome (f : EF) : S → Option (Option Int × S) := fun s => (f s).bind fun p => match p.1 with
  | .int i => some (some i, p.2)
  | _ => none
def cutD (xs : List D) (lo hi : Option Int) : List D := (xs.drop (HT.sIx xs.length 0 lo)).take (HT.sIx xs.length xs.length hi - HT.sIx xs.length 0 lo)
def dCut : D → Option Int → Option Int → Option D
  | .tup xs, lo, hi => some (.tup (cutD xs lo hi))
  | .lst xs, lo, hi => some (.lst (cutD xs lo hi))
  | .str x, lo, hi => if x.length ≤ cap then some (.str (cutS x lo hi)) else none
  | _, _, _ => none
def eCut (f : EF) (lo hi : S → Option (Option Int × S)) : EF := fun s => (f s).bind fun p => (lo p.2).bind fun q => (hi q.2).bind fun r => (dCut p.1 q.1 r.1).map fun z => (z, r.2)
/-- a def's function on plain data -/
def eCall (m : List D → Option D) (f : AF) : EF := fun s => (f s).bind fun p => (m p.1).map fun z => (z, p.2)

section
variable {c : Cc} {X : Cx} {a b : Expr} {e : Expr} {es rest : List Expr} {pos : Pos} {b1 b2 b3 : Bool} {f g h : EF} {t u : BF} {fa : AF}
variable {H H1 H2 G G1 G2 : Hp} {s s1 s2 : S} {fp fp1 fp2 : List Addr}
theorem Pure.and {H' G' : Hp} {s' : S} {fp' : List Addr} (p : Pure b1 H G s fp H1 G1 s1 fp1) (q : Pure b2 H1 G1 s1 fp1 H' G' s' fp') : Pure (b1 && b2) H G s fp H' G' s' fp' := fun h => by
  obtain ⟨h1, h2⟩ := Bool.and_eq_true_iff.mp h
  obtain ⟨g1, e1⟩ := p h1
  obtain ⟨g2, e3⟩ := q h2
  exact ⟨g1.trans g2, e3.trans e1⟩
theorem Pure.grow {H' G' : Hp} (p : Pure b1 H G s fp H1 G1 s1 fp1) (g : Grow H1 G1 H' G') : Pure b1 H G s fp H' G' s1 fp1 := fun h => by
  obtain ⟨g1, e1⟩ := p h
  exact ⟨g1.trans g, e1⟩
theorem Pure.here (k : Same G H) : Pure b1 H G s fp H G s fp := fun _ => ⟨Grow.refl k, rfl⟩

theorem ex_var (i : Nat) {x : Str} (hN : X.N[i]? = some x := by rfl) (hv : Vis X.env.scope x := by first | exact Or.inl rfl | exact Or.inr (Or.inl rfl) | exact Or.inr (Or.inr rfl)) (hd : (x == ("__debug__" : Str)) = false := by decide)
    (hcd : (x == ("__classdict__" : Str)) = false := by decide) : PE X (.Name x pos) (tE c true (eVar i)) := PE_imp (pe_var hN hv hd hcd) fun σ H Q ⟨G, s, fp, d, s', k, sl, hf, q⟩ => by
  unfold eVar at hf
  split at hf
  · rename_i d' e
    cases hf
    obtain ⟨v, f1, f2, h1, h2, _⟩ := sl.split e (by simp)
    cases h2 with
    | val r => exact ⟨v, h1, q v H G fp (Ev.refl k) sl r (Pure.here k.sub)⟩
  · exact nomatch hf
theorem ex_frz (i : Nat) {x : Str} (hN : X.N[i]? = some x := by rfl) (hv : Vis X.env.scope x := by first | exact Or.inl rfl | exact Or.inr (Or.inl rfl) | exact Or.inr (Or.inr rfl)) (hd : (x == ("__debug__" : Str)) = false := by decide)
    (hcd : (x == ("__classdict__" : Str)) = false := by decide) : PE X (.Name x pos) (tE c false (eFrz i)) := PE_imp (pe_var hN hv hd hcd) fun σ H Q ⟨G, s, fp, d, s', k, sl, hf, q⟩ => by
  unfold eFrz at hf
  split at hf
  · rename_i xs e
    cases hf
    obtain ⟨v, f1, f2, h1, h2, hp, hk⟩ := sl.split e (by simp)
    cases h2 with
    | @lst p vs _ hv r =>
      have gp : G p = none := k.own p (hp.mem_iff.mpr (by simp))
      have sg : Same G (upd G p (.lst vs)) := same_upd gp
      have rr : Rep c.K (upd G p (.lst vs)) (.ref p) (.lst xs) := .lst (SqL.of upd_same) (r.mono sg)
      obtain ⟨fp', p', sl'⟩ := hk H (upd G p (.lst vs)) (.val (.lst xs)) [] (.val rr) (fun _ _ => rfl) sg
      refine ⟨_, h1, q (.ref p) H (upd G p (.lst vs)) fp' ⟨sg, fun b o hb => ?_, fun x h3 h4 => ?_, fun _ _ z _ => z, fun _ z => z, fun x hx => ?_, ?_⟩ sl' rr (fun z => nomatch z)⟩
      · by_cases hbp : b = p
        · subst hbp; rw [upd_same] at hb; rw [← hb]; exact hv
        · rw [upd_ne hbp] at hb; exact k.sub b o hb
      · by_cases hbp : x = p
        · subst hbp; exact .inr (hp.mem_iff.mpr (by simp))
        · rw [upd_ne hbp] at h4; exact absurd h3 h4
      · have hx2 : x ∈ f2 := by simpa using p'.mem_iff.mp hx
        have hxp : x ≠ p := by
          have nd := List.nodup_append.mp (hp.nodup_iff.mp k.nd)
          exact fun z => nd.2.2 p (by simp) x hx2 z.symm
        exact ⟨by rw [upd_ne hxp]; exact k.own x (hp.mem_iff.mpr (List.mem_append_right _ hx2)), .inl (hp.mem_iff.mpr (List.mem_append_right _ hx2))⟩
      · exact p'.nodup_iff.mpr (by simpa using (List.nodup_append.mp (hp.nodup_iff.mp k.nd)).2.1)
  · rename_i d' e
    cases hf
    obtain ⟨v, f1, f2, h1, h2, _⟩ := sl.split e (by simp)
    cases h2 with
    | val r => exact ⟨v, h1, q v H G fp (Ev.refl k) sl r fun z => nomatch z⟩
  · exact nomatch hf
theorem ex_c {v : V} {d : D} (he : PE X e (tC v)) (hr : ∀ G, Rep c.K G v d) : PE X e (tE c true (eC d)) := PE_imp he fun σ H Q ⟨G, s, fp, d', s', k, sl, hf, q⟩ => by
  cases hf
  exact q v H G fp (Ev.refl k) sl (hr G) (Pure.here k.sub)
theorem ex_int {i j} : PE X (.Constant (.int i) j pos) (tE c true (eC (.int i))) := ex_c pe_int fun _ => .int i
theorem ex_bl {i j} : PE X (.Constant (.bool i) j pos) (tE c true (eC (.bl i))) := ex_c pe_bl fun _ => .bl i
theorem ex_str {i j} : PE X (.Constant (.str i) j pos) (tE c true (eC (.str i))) := ex_c pe_str fun _ => .str i
theorem ex_non {j} : PE X (.Constant .none j pos) (tE c true (eC .non)) := ex_c pe_non fun _ => .non
/-- two after another, by values -/
theorem op2 {r : R2} {op : D → D → Option D} (hr : OpS c r op) {σ : L2.St} {Q : VK} (q : tE c (b1 && b2) (e2 op f g) σ H Q) : tOp r (tE c b1 f) (tE c b2 g) σ H Q := by
  obtain ⟨G, s, fp, d, s', k, sl, hf, q⟩ := q
  unfold e2 at hf
  cases h1 : f s with
  | none => rw [h1] at hf; exact nomatch hf
  | some p =>
    obtain ⟨x, s1⟩ := p
    rw [h1] at hf
    cases h2 : g s1 with
    | none => simp [h2] at hf
    | some p2 =>
      obtain ⟨y, s2⟩ := p2
      simp only [Option.bind_some, h2] at hf
      cases h3 : op x y with
      | none => simp [h3] at hf
      | some z =>
        simp only [h3, Option.map_some, Option.some.injEq, Prod.mk.injEq] at hf
        obtain ⟨rfl, rfl⟩ := hf
        exact ⟨G, s, fp, x, s1, k, sl, h1, fun v H1 G1 fp1 E1 S1 r1 p1 => ⟨G1, s1, fp1, y, s2, E1.ok, S1, h2, fun u H2 G2 fp2 E2 S2 r2 p2 =>
          hr Q E2.sub (r1.mono E2.gs) r2 h3 fun v' H' G' gr r' => q v' H' G' fp2 ((E1.trans E2).grow S2 gr) (S2.step gr) r' ((p1.and p2).grow gr)⟩⟩
theorem op1 {r : V → Hp → VK → Prop} {op : D → Option D} (hr : UnS c r op) {σ : L2.St} {Q : VK} (q : tE c b1 (e1 op f) σ H Q) : tUn r (tE c b1 f) σ H Q := by
  obtain ⟨G, s, fp, d, s', k, sl, hf, q⟩ := q
  unfold e1 at hf
  cases h1 : f s with
  | none => rw [h1] at hf; exact nomatch hf
  | some p =>
    obtain ⟨x, s1⟩ := p
    simp only [h1, Option.bind_some] at hf
    cases h3 : op x with
    | none => simp [h3] at hf
    | some z =>
      simp only [h3, Option.map_some, Option.some.injEq, Prod.mk.injEq] at hf
      obtain ⟨rfl, rfl⟩ := hf
      exact ⟨G, s, fp, x, s1, k, sl, h1, fun v H1 G1 fp1 E1 S1 r1 p1 => hr Q E1.sub r1 h3 fun v' H' G' gr r' => q v' H' G' fp1 (E1.grow S1 gr) (S1.step gr) r' (p1.grow gr)⟩
theorem ex_op {o : Operator} {r : R2} {op : D → D → Option D} (ho : OpR X (binaryOp o) r) (hr : OpS c r op) (ha : PE X a (tE c b1 f)) (hb : PE X b (tE c b2 g)) : PE X (.BinOp a o b pos) (tE c (b1 && b2) (e2 op f g)) :=
  PE_imp (pe_op ho ha hb) fun _ _ _ q => op2 hr q
theorem ex_un {o : UnaryOp} {r : V → Hp → VK → Prop} {op : D → Option D} (ho : UnR X (unaryOp o) r) (hr : UnS c r op) (ha : PE X a (tE c b1 f)) : PE X (.UnaryOp o a pos) (tE c b1 (e1 op f)) :=
  PE_imp (pe_un ho ha) fun _ _ _ q => op1 hr q
theorem ex_cmp {o : CmpOp} {r : R2} {op : D → D → Option D} (ho : OpR X (compareOp o) r) (hr : OpS c r op) (ha : PE X a (tE c b1 f)) (hb : PE X b (tE c b2 g)) (hm : behindInMarks o b = false := by first | exact nomark _ | rfl) : PE X (.Compare a [o] [b] pos) (tE c (b1 && b2) (e2 op f g)) :=
  PE_imp (pe_cmpR ho ha hb hm) fun _ _ _ q => op2 hr q
theorem ex_ix {r : R2} {op : D → D → Option D} (ho : IxR X r) (hr : OpS c r op) (ha : PE X a (tE c b1 f)) (hb : PE X b (tE c b2 g)) (hs : PlainIx b := by exact fun _ _ => rfl) : PE X (.Subscript a b pos) (tE c (b1 && b2) (e2 op f g)) :=
  PE_imp (pe_ix ho ha hb hs) fun _ _ _ q => op2 hr q
theorem rep_isN {K : PySem.W.Frag} {G : Hp} {v : V} {d : D} (r : Rep K G v d) : dIsN d = some (.bl (decide (v = .non))) ∧ dNotN d = some (.bl (!decide (v = .non))) := by
  cases r <;> exact ⟨rfl, rfl⟩
theorem ex_isN {j pos'} (ha : PE X a (tE c b1 f)) : PE X (.Compare a [.Is] [.Constant .none j pos'] pos) (tE c b1 (e1 dIsN f)) :=
  PE_imp (pe_cmp (pc_isN ha)) fun σ H Q q => op1 (c := c) (op := dIsN) (r := fun x H Q => Q (.bl (decide (x = .non))) H) (fun H G x dx dz Q e rx hz q => q _ _ _ (Grow.refl e) (by
    rw [(rep_isN rx).1] at hz; cases hz; exact .bl _)) q
theorem ex_notN {j pos'} (ha : PE X a (tE c b1 f)) : PE X (.Compare a [.IsNot] [.Constant .none j pos'] pos) (tE c b1 (e1 dNotN f)) :=
  PE_imp (pe_cmp (pc_notN ha)) fun σ H Q q => op1 (c := c) (op := dNotN) (r := fun x H Q => Q (.bl (!decide (x = .non))) H) (fun H G x dx dz Q e rx hz q => q _ _ _ (Grow.refl e) (by
    rw [(rep_isN rx).2] at hz; cases hz; exact .bl _)) q
theorem xa_nil : PA X [] (tA c true aNil) := PA_imp pa_nil fun σ H Q ⟨G, s, fp, d, s', k, sl, hf, q⟩ => by
  cases hf
  exact q [] H G fp (Ev.refl k) sl .nil (Pure.here k.sub)
theorem xa_cons (he : PE X e (tE c b1 f)) (hr : PA X es (tA c b2 fa)) (hs : starEach (e :: es) X.env = (false, eval e X.env) :: starEach es X.env := by rfl) : PA X (e :: es) (tA c (b1 && b2) (aCons f fa)) :=
  PA_imp (pa_cons he hr hs) fun σ H Q ⟨G, s, fp, d, s', k, sl, hf, q⟩ => by
    unfold aCons at hf
    cases h1 : f s with
    | none => rw [h1] at hf; exact nomatch hf
    | some p =>
      obtain ⟨x, s1⟩ := p
      simp only [h1, Option.bind_some] at hf
      cases h2 : fa s1 with
      | none => simp [h2] at hf
      | some p2 =>
        obtain ⟨ys, s2⟩ := p2
        simp only [h2, Option.map_some, Option.some.injEq, Prod.mk.injEq] at hf
        obtain ⟨rfl, rfl⟩ := hf
        exact ⟨G, s, fp, x, s1, k, sl, h1, fun v H1 G1 fp1 E1 S1 r1 p1 => ⟨G1, s1, fp1, ys, s2, E1.ok, S1, h2, fun us H2 G2 fp2 E2 S2 r2 p2 =>
          q (v :: us) H2 G2 fp2 (E1.trans E2) S2 (.cons (r1.mono E2.gs) r2) (p1.and p2)⟩⟩
theorem ex_tup {x1} (h : PA X es (tA c b1 fa)) : PE X (.Tuple es x1 pos) (tE c b1 (eTup fa)) := PE_imp (pe_tup h) fun σ H Q ⟨G, s, fp, d, s', k, sl, hf, q⟩ => by
  unfold eTup at hf
  cases h1 : fa s with
  | none => rw [h1] at hf; exact nomatch hf
  | some p =>
    obtain ⟨x, s1⟩ := p
    simp only [h1, Option.bind_some] at hf
    split at hf
    · rename_i hc
      cases hf
      refine ⟨G, s, fp, x, _, k, sl, h1, fun vs H1 G1 fp1 E1 S1 r1 p1 => ⟨by rw [r1.length]; exact Nat.le_trans hc cap_line, fun p hp => ?_⟩⟩
      have gr := Grow.alloc (o := .tup vs) E1.sub hp
      exact q _ _ _ _ (E1.grow S1 gr) (S1.step gr) (.tup (SqT.of upd_same) (r1.mono gr.gs)) (p1.grow gr)
    · exact nomatch hf
theorem ex_lst (h : PA X es (tA c b1 fa)) : PE X (.List es pos) (tE c b1 (eLst fa)) := PE_imp (pe_lst h) fun σ H Q ⟨G, s, fp, d, s', k, sl, hf, q⟩ => by
  unfold eLst at hf
  cases h1 : fa s with
  | none => rw [h1] at hf; exact nomatch hf
  | some p =>
    obtain ⟨x, s1⟩ := p
    simp only [h1, Option.bind_some] at hf
    split at hf
    · rename_i hc
      cases hf
      refine ⟨G, s, fp, x, _, k, sl, h1, fun vs H1 G1 fp1 E1 S1 r1 p1 => ⟨by rw [r1.length]; exact Nat.le_trans hc cap_line, fun p hp => ?_⟩⟩
      have gr := Grow.alloc (o := .lst vs) E1.sub hp
      exact q _ _ _ _ (E1.grow S1 gr) (S1.step gr) (.lst (SqL.of upd_same) (r1.mono gr.gs)) (p1.grow gr)
    · exact nomatch hf

/-! ### truth, tests -/
theorem truth_ok {K : PySem.W.Frag} {G H : Hp} {v : V} {d : D} {k : Bool} (e : Same G H) (r : Rep K G v d) (h : truth d = some k) : TruV K v H k := by
  cases r with
  | non => cases h; rfl
  | bl b => cases h; rfl
  | int i => cases h; rfl
  | str x =>
    simp only [truth] at h
    split at h
    · cases h; exact ⟨Nat.le_trans (by assumption) cap_line, rfl⟩
    · exact nomatch h
  | ref a => exact nomatch h
  | tup t1 r1 =>
    cases h
    refine .inr (.inl ⟨_, Same.sqT e t1, ?_⟩)
    cases r1 <;> rfl
  | lst t1 r1 =>
    cases h
    refine .inl ⟨_, Same.sqL e t1, ?_⟩
    cases r1 <;> rfl
theorem tst_ok {σ : L2.St} {Q : Bool → Hp → Prop} (q : tT c b1 (bTst f) σ H Q) : tE c b1 f σ H fun x H' => ∃ k, TruV c.K x H' k ∧ Q k H' := by
  obtain ⟨G, s, fp, d, s', k, sl, hf, q⟩ := q
  unfold bTst at hf
  cases h1 : f s with
  | none => rw [h1] at hf; exact nomatch hf
  | some p =>
    obtain ⟨x, s1⟩ := p
    simp only [h1, Option.bind_some] at hf
    cases h2 : truth x with
    | none => simp [h2] at hf
    | some z =>
      simp only [h2, Option.map_some, Option.some.injEq, Prod.mk.injEq] at hf
      obtain ⟨rfl, rfl⟩ := hf
      exact ⟨G, s, fp, x, s1, k, sl, h1, fun v H1 G1 fp1 E1 S1 r1 p1 => ⟨z, truth_ok E1.sub r1 h2, q H1 G1 fp1 E1 S1 p1⟩⟩
theorem tstB_ok {σ : L2.St} {Q : Bool → Hp → Prop} (hb : ∀ s x s', f s = some (x, s') → ∃ k, x = .bl k) (q : tT c b1 (bTst f) σ H Q) : tTest (tE c b1 f) σ H Q := by
  obtain ⟨G, s, fp, d, s', k, sl, hf, q⟩ := q
  unfold bTst at hf
  cases h1 : f s with
  | none => rw [h1] at hf; exact nomatch hf
  | some p =>
    obtain ⟨x, s1⟩ := p
    simp only [h1, Option.bind_some] at hf
    obtain ⟨k', rfl⟩ := hb _ _ _ h1
    simp only [truth, Option.map_some, Option.some.injEq, Prod.mk.injEq] at hf
    obtain ⟨rfl, rfl⟩ := hf
    exact ⟨G, s, fp, _, s1, k, sl, h1, fun v H1 G1 fp1 E1 S1 r1 p1 => ⟨k', by cases r1; rfl, q H1 G1 fp1 E1 S1 p1⟩⟩
/-- an expression of any kind as a test -/
theorem xt_val (ha : PE X a (tE c b1 f)) (hK : X.K = c.K := by rfl) (he : ∀ whole, isTrue a X.env whole = (do let v ← whole; standAt a.pos; holding [v] (truthy v)) := by exact fun _ => rfl) : PT X a (tT c b1 (bTst f)) :=
  PT_imp (pt_truth ha he) fun σ H Q q => by rw [hK]; exact tst_ok q
def BoolOp2 (op : D → D → Option D) : Prop := ∀ x y z, op x y = some z → ∃ k, z = .bl k
theorem e2_bool {op : D → D → Option D} (h : BoolOp2 op) : ∀ s x s', e2 op f g s = some (x, s') → ∃ k, x = .bl k := fun s x s' e => by
  unfold e2 at e
  cases h1 : f s with
  | none => rw [h1] at e; exact nomatch e
  | some p =>
    simp only [h1, Option.bind_some] at e
    cases h2 : g p.2 with
    | none => rw [h2] at e; exact nomatch e
    | some q =>
      simp only [h2, Option.bind_some] at e
      cases h3 : op p.1 q.1 with
      | none => rw [h3] at e; exact nomatch e
      | some z =>
        simp only [h3, Option.map_some, Option.some.injEq, Prod.mk.injEq] at e
        obtain ⟨rfl, _⟩ := e
        exact h _ _ _ h3
theorem bo_lt : BoolOp2 dLt := fun x y z h => by cases x <;> cases y <;> simp [dLt] at h; exact ⟨_, h.symm⟩
theorem bo_le : BoolOp2 dLe := fun x y z h => by cases x <;> cases y <;> simp [dLe] at h; exact ⟨_, h.symm⟩
theorem bo_gt : BoolOp2 dGt := fun x y z h => by cases x <;> cases y <;> simp [dGt] at h; exact ⟨_, h.symm⟩
theorem bo_ge : BoolOp2 dGe := fun x y z h => by cases x <;> cases y <;> simp [dGe] at h; exact ⟨_, h.symm⟩
theorem bo_eq : BoolOp2 dEq := fun x y z h => by
  unfold dEq at h
  split at h
  · cases h; exact ⟨_, rfl⟩
  · exact nomatch h
theorem bo_ne : BoolOp2 dNe := fun x y z h => by
  unfold dNe at h
  split at h
  · cases h; exact ⟨_, rfl⟩
  · exact nomatch h
theorem xt_cmp {o : CmpOp} {r : R2} {op : D → D → Option D} (ho : OpR X (compareOp o) r) (hr : OpS c r op) (hb2 : BoolOp2 op) (ha : PE X a (tE c b1 f)) (hb : PE X b (tE c b2 g)) (hm : behindInMarks o b = false := by first | exact nomark _ | rfl) :
    PT X (.Compare a [o] [b] pos) (tT c (b1 && b2) (bTst (e2 op f g))) := PT_imp (pt_cmpR ho ha hb hm) fun σ H Q q => by
  obtain ⟨G, s, fp, d, s', k, sl, hf, q⟩ := tstB_ok (e2_bool hb2) q
  exact op2 hr ⟨G, s, fp, d, s', k, sl, hf, q⟩
theorem e1_isN (op : D → Option D) (h : ∀ x z, op x = some z → ∃ k, z = .bl k) : ∀ s x s', e1 op f s = some (x, s') → ∃ k, x = .bl k := fun s x s' e => by
  unfold e1 at e
  cases h1 : f s with
  | none => rw [h1] at e; exact nomatch e
  | some p =>
    simp only [h1, Option.bind_some] at e
    cases h3 : op p.1 with
    | none => rw [h3] at e; exact nomatch e
    | some z =>
      simp only [h3, Option.map_some, Option.some.injEq, Prod.mk.injEq] at e
      obtain ⟨rfl, _⟩ := e
      exact h _ _ h3
theorem xt_isN {j pos'} (ha : PE X a (tE c b1 f)) : PT X (.Compare a [.Is] [.Constant .none j pos'] pos) (tT c b1 (bTst (e1 dIsN f))) :=
  PT_imp (pt_cmp (pc_isN ha)) fun σ H Q q => op1 (c := c) (op := dIsN) (r := fun x H Q => Q (.bl (decide (x = .non))) H) (fun H G x dx dz Q e rx hz q => q _ _ _ (Grow.refl e) (by
    rw [(rep_isN rx).1] at hz; cases hz; exact .bl _)) (tstB_ok (e1_isN dIsN fun x z h => by cases x <;> cases h <;> exact ⟨_, rfl⟩) q)
theorem xt_notN {j pos'} (ha : PE X a (tE c b1 f)) : PT X (.Compare a [.IsNot] [.Constant .none j pos'] pos) (tT c b1 (bTst (e1 dNotN f))) :=
  PT_imp (pt_cmp (pc_notN ha)) fun σ H Q q => op1 (c := c) (op := dNotN) (r := fun x H Q => Q (.bl (!decide (x = .non))) H) (fun H G x dx dz Q e rx hz q => q _ _ _ (Grow.refl e) (by
    rw [(rep_isN rx).2] at hz; cases hz; exact .bl _)) (tstB_ok (e1_isN dNotN fun x z h => by cases x <;> cases h <;> exact ⟨_, rfl⟩) q)
theorem xt_not (ha : PT X a (tT c b1 t)) : PT X (.UnaryOp .Not a pos) (tT c b1 (bNot t)) := PT_imp (pt_not ha) fun σ H Q ⟨G, s, fp, d, s', k, sl, hf, q⟩ => by
  unfold bNot at hf
  cases h1 : t s with
  | none => rw [h1] at hf; exact nomatch hf
  | some p =>
    obtain ⟨x, s1⟩ := p
    simp only [h1, Option.map_some, Option.some.injEq, Prod.mk.injEq] at hf
    obtain ⟨rfl, rfl⟩ := hf
    exact ⟨G, s, fp, x, s1, k, sl, h1, q⟩
theorem and_ok {σ : L2.St} {Q : Bool → Hp → Prop} (q : tT c (b1 && b2) (bAnd t u) σ H Q) : tAnd (tT c b1 t) (tT c b2 u) σ H Q := by
  obtain ⟨G, s, fp, d, s', k, sl, hf, q⟩ := q
  unfold bAnd at hf
  cases h1 : t s with
  | none => rw [h1] at hf; exact nomatch hf
  | some p =>
    obtain ⟨x, s1⟩ := p
    simp only [h1, Option.bind_some] at hf
    cases x with
    | true =>
      rw [if_pos rfl] at hf
      refine ⟨G, s, fp, _, _, k, sl, h1, fun H1 G1 fp1 E1 S1 p1 => ?_⟩
      show if true = true then _ else _
      rw [if_pos rfl]
      exact ⟨G1, s1, fp1, d, s', E1.ok, S1, hf, fun H2 G2 fp2 E2 S2 p2 => q H2 G2 fp2 (E1.trans E2) S2 (p1.and p2)⟩
    | false =>
      rw [if_neg Bool.false_ne_true] at hf
      cases hf
      refine ⟨G, s, fp, _, _, k, sl, h1, fun H1 G1 fp1 E1 S1 p1 => ?_⟩
      show if false = true then _ else _
      rw [if_neg Bool.false_ne_true]
      exact q H1 G1 fp1 E1 S1 fun hb => p1 (Bool.and_eq_true_iff.mp hb).1
theorem or_ok {σ : L2.St} {Q : Bool → Hp → Prop} (q : tT c (b1 && b2) (bOr t u) σ H Q) : tOr (tT c b1 t) (tT c b2 u) σ H Q := by
  obtain ⟨G, s, fp, d, s', k, sl, hf, q⟩ := q
  unfold bOr at hf
  cases h1 : t s with
  | none => rw [h1] at hf; exact nomatch hf
  | some p =>
    obtain ⟨x, s1⟩ := p
    simp only [h1, Option.bind_some] at hf
    cases x with
    | false =>
      rw [if_neg Bool.false_ne_true] at hf
      refine ⟨G, s, fp, _, _, k, sl, h1, fun H1 G1 fp1 E1 S1 p1 => ?_⟩
      show if false = true then _ else _
      rw [if_neg Bool.false_ne_true]
      exact ⟨G1, s1, fp1, d, s', E1.ok, S1, hf, fun H2 G2 fp2 E2 S2 p2 => q H2 G2 fp2 (E1.trans E2) S2 (p1.and p2)⟩
    | true =>
      rw [if_pos rfl] at hf
      cases hf
      refine ⟨G, s, fp, _, _, k, sl, h1, fun H1 G1 fp1 E1 S1 p1 => ?_⟩
      show if true = true then _ else _
      rw [if_pos rfl]
      exact q H1 G1 fp1 E1 S1 fun hb => p1 (Bool.and_eq_true_iff.mp hb).1
theorem xw_and1 (ha : PT X a (tT c b1 t)) : PW X (.BoolOp .And [a] pos) (tT c b1 t) := pw_and1 ha
theorem xw_or1 (ha : PT X a (tT c b1 t)) : PW X (.BoolOp .Or [a] pos) (tT c b1 t) := pw_or1 ha
theorem xw_and (ha : PT X a (tT c b1 t)) (hb : PW X (.BoolOp .And (b :: rest) pos) (tT c b2 u)) : PW X (.BoolOp .And (a :: b :: rest) pos) (tT c (b1 && b2) (bAnd t u)) := PW_imp (pw_and ha hb) fun _ _ _ q => and_ok q
theorem xw_or (ha : PT X a (tT c b1 t)) (hb : PW X (.BoolOp .Or (b :: rest) pos) (tT c b2 u)) : PW X (.BoolOp .Or (a :: b :: rest) pos) (tT c (b1 && b2) (bOr t u)) := PW_imp (pw_or ha hb) fun _ _ _ q => or_ok q

/-! ### and, or, not, if as values -/
theorem ex_one {op} (h : PE X a (tE c b1 f)) : PE X (.BoolOp op [a] pos) (tE c b1 f) := pe_one h
theorem ex_and (ha : PE X a (tE c b1 f)) (hb : PE X (.BoolOp .And (b :: rest) pos) (tE c b2 g)) (hK : X.K = c.K := by rfl) : PE X (.BoolOp .And (a :: b :: rest) pos) (tE c (b1 && b2) (eAnd f g)) :=
  PE_imp (pe_andT ha hb) fun σ H Q ⟨G, s, fp, d, s', k, sl, hf, q⟩ => by
    rw [hK]
    unfold eAnd at hf
    cases h1 : f s with
    | none => rw [h1] at hf; exact nomatch hf
    | some p =>
      obtain ⟨x, s1⟩ := p
      simp only [h1, Option.bind_some] at hf
      cases h2 : truth x with
      | none => simp [h2] at hf
      | some z =>
        simp only [h2, Option.bind_some] at hf
        refine ⟨G, s, fp, x, s1, k, sl, h1, fun v H1 G1 fp1 E1 S1 r1 p1 => ⟨z, truth_ok E1.sub r1 h2, ?_⟩⟩
        cases z with
        | true =>
          rw [if_pos rfl] at hf ⊢
          exact ⟨G1, s1, fp1, d, s', E1.ok, S1, hf, fun u H2 G2 fp2 E2 S2 r2 p2 => q u H2 G2 fp2 (E1.trans E2) S2 r2 (p1.and p2)⟩
        | false =>
          rw [if_neg Bool.false_ne_true] at hf ⊢
          cases hf
          exact q v H1 G1 fp1 E1 S1 r1 fun hb => p1 (Bool.and_eq_true_iff.mp hb).1
theorem ex_or (ha : PE X a (tE c b1 f)) (hb : PE X (.BoolOp .Or (b :: rest) pos) (tE c b2 g)) (hK : X.K = c.K := by rfl) : PE X (.BoolOp .Or (a :: b :: rest) pos) (tE c (b1 && b2) (eOr f g)) :=
  PE_imp (pe_orT ha hb) fun σ H Q ⟨G, s, fp, d, s', k, sl, hf, q⟩ => by
    rw [hK]
    unfold eOr at hf
    cases h1 : f s with
    | none => rw [h1] at hf; exact nomatch hf
    | some p =>
      obtain ⟨x, s1⟩ := p
      simp only [h1, Option.bind_some] at hf
      cases h2 : truth x with
      | none => simp [h2] at hf
      | some z =>
        simp only [h2, Option.bind_some] at hf
        refine ⟨G, s, fp, x, s1, k, sl, h1, fun v H1 G1 fp1 E1 S1 r1 p1 => ⟨z, truth_ok E1.sub r1 h2, ?_⟩⟩
        cases z with
        | false =>
          rw [if_neg Bool.false_ne_true] at hf ⊢
          exact ⟨G1, s1, fp1, d, s', E1.ok, S1, hf, fun u H2 G2 fp2 E2 S2 r2 p2 => q u H2 G2 fp2 (E1.trans E2) S2 r2 (p1.and p2)⟩
        | true =>
          rw [if_pos rfl] at hf ⊢
          cases hf
          exact q v H1 G1 fp1 E1 S1 r1 fun hb => p1 (Bool.and_eq_true_iff.mp hb).1
theorem ex_not (ha : PE X a (tE c b1 f)) (hK : X.K = c.K := by rfl) : PE X (.UnaryOp .Not a pos) (tE c b1 (eNot f)) := PE_imp (pe_notT ha) fun σ H Q ⟨G, s, fp, d, s', k, sl, hf, q⟩ => by
  rw [hK]
  unfold eNot at hf
  cases h1 : f s with
  | none => rw [h1] at hf; exact nomatch hf
  | some p =>
    obtain ⟨x, s1⟩ := p
    simp only [h1, Option.bind_some] at hf
    cases h2 : truth x with
    | none => simp [h2] at hf
    | some z =>
      simp only [h2, Option.map_some, Option.some.injEq, Prod.mk.injEq] at hf
      obtain ⟨rfl, rfl⟩ := hf
      exact ⟨G, s, fp, x, s1, k, sl, h1, fun v H1 G1 fp1 E1 S1 r1 p1 => ⟨z, truth_ok E1.sub r1 h2, q _ H1 G1 fp1 E1 S1 (.bl _) p1⟩⟩
theorem ex_if {cd : Expr} (hc : PT X cd (tT c b1 t)) (ha : PE X a (tE c b2 f)) (hb : PE X b (tE c b3 g)) : PE X (.IfExp cd a b pos) (tE c (b1 && (b2 && b3)) (eIf t f g)) := PE_imp (pe_ifExp hc ha hb) fun σ H Q ⟨G, s, fp, d, s', k, sl, hf, q⟩ => by
  unfold eIf at hf
  cases h1 : t s with
  | none => rw [h1] at hf; exact nomatch hf
  | some p =>
    obtain ⟨x, s1⟩ := p
    simp only [h1, Option.bind_some] at hf
    refine ⟨G, s, fp, _, s1, k, sl, h1, fun H1 G1 fp1 E1 S1 p1 => ?_⟩
    cases x with
    | true =>
      rw [if_pos rfl] at hf ⊢
      refine ⟨G1, s1, fp1, d, s', E1.ok, S1, hf, fun u H2 G2 fp2 E2 S2 r2 p2 => q u H2 G2 fp2 (E1.trans E2) S2 r2 fun hb => (p1.and p2) ?_⟩
      simp only [Bool.and_eq_true] at hb ⊢
      exact ⟨hb.1, hb.2.1⟩
    | false =>
      rw [if_neg Bool.false_ne_true] at hf ⊢
      refine ⟨G1, s1, fp1, d, s', E1.ok, S1, hf, fun u H2 G2 fp2 E2 S2 r2 p2 => q u H2 G2 fp2 (E1.trans E2) S2 r2 fun hb => (p1.and p2) ?_⟩
      simp only [Bool.and_eq_true] at hb ⊢
      exact ⟨hb.1, hb.2.2⟩

/-! ### chains of two comparisons -/
theorem chain_ok {r r' : R2} {op op' : D → D → Option D} (hr : OpS c r op) (hr' : OpS c r' op') (hb : BoolOp2 op) {σ : L2.St} {Q : VK} (q : tE c (b1 && (b2 && b3)) (eChain op op' f g h) σ H Q) : tChain r r' (tE c b1 f) (tE c b2 g) (tE c b3 h) σ H Q := by
  obtain ⟨G, s, fp, d, s', k, sl, hf, q⟩ := q
  unfold eChain at hf
  cases h1 : f s with
  | none => rw [h1] at hf; exact nomatch hf
  | some p =>
    obtain ⟨x, s1⟩ := p
    simp only [h1, Option.bind_some] at hf
    cases h2 : g s1 with
    | none => simp [h2] at hf
    | some p2 =>
      obtain ⟨y, s2⟩ := p2
      simp only [h2, Option.bind_some] at hf
      cases h3 : op x y with
      | none => simp [h3] at hf
      | some z =>
        simp only [h3, Option.bind_some] at hf
        obtain ⟨kk, rfl⟩ := hb _ _ _ h3
        refine ⟨G, s, fp, x, s1, k, sl, h1, fun v H1 G1 fp1 E1 S1 r1 p1 => ⟨G1, s1, fp1, y, s2, E1.ok, S1, h2, fun u H2 G2 fp2 E2 S2 r2 p2 =>
          hr _ E2.sub (r1.mono E2.gs) r2 h3 fun v' H3 G3 gr rr => ?_⟩⟩
        cases rr
        refine ⟨kk, rfl, ?_⟩
        have E3 := (E1.trans E2).grow S2 gr
        have S3 := S2.step gr
        have p3 := (p1.and p2).grow gr
        cases kk with
        | false =>
          rw [if_neg Bool.false_ne_true]
          cases hf
          exact q _ H3 G3 fp2 E3 S3 (.bl _) fun hb => p3 (by
            simp only [Bool.and_eq_true] at hb ⊢
            exact ⟨hb.1, hb.2.1⟩)
        | true =>
          rw [if_pos rfl]
          simp only at hf
          cases h4 : h s2 with
          | none => simp [h4] at hf
          | some p4 =>
            obtain ⟨w, s3⟩ := p4
            simp only [h4, Option.bind_some] at hf
            cases h5 : op' y w with
            | none => simp [h5] at hf
            | some z' =>
              simp only [h5, Option.map_some, Option.some.injEq, Prod.mk.injEq] at hf
              obtain ⟨rfl, rfl⟩ := hf
              refine ⟨G3, s2, fp2, w, s3, E3.ok, S3, h4, fun w' H4 G4 fp4 E4 S4 r4 p4 => hr' Q E4.sub ((r2.mono gr.gs).mono E4.gs) r4 h5 fun v5 H5 G5 gr5 r5 => ?_⟩
              exact q v5 H5 G5 fp4 ((E3.trans E4).grow S4 gr5) (S4.step gr5) r5 (((p3.and p4).grow gr5) ∘ fun hb => by
                simp only [Bool.and_eq_true] at hb ⊢
                exact ⟨⟨hb.1, hb.2.1⟩, hb.2.2⟩)
theorem eChain_bool {op op' : D → D → Option D} (hb : BoolOp2 op) (hb' : BoolOp2 op') : ∀ s x s', eChain op op' f g h s = some (x, s') → ∃ k, x = .bl k := fun s x s' e => by
  unfold eChain at e
  cases h1 : f s with
  | none => rw [h1] at e; exact nomatch e
  | some p =>
    simp only [h1, Option.bind_some] at e
    cases h2 : g p.2 with
    | none => rw [h2] at e; exact nomatch e
    | some q =>
      simp only [h2, Option.bind_some] at e
      cases h3 : op p.1 q.1 with
      | none => rw [h3] at e; exact nomatch e
      | some z =>
        simp only [h3, Option.bind_some] at e
        obtain ⟨kk, rfl⟩ := hb _ _ _ h3
        cases kk with
        | false => cases e; exact ⟨_, rfl⟩
        | true =>
          simp only at e
          cases h4 : h q.2 with
          | none => rw [h4] at e; exact nomatch e
          | some r =>
            simp only [h4, Option.bind_some] at e
            cases h5 : op' q.1 r.1 with
            | none => rw [h5] at e; exact nomatch e
            | some z' =>
              simp only [h5, Option.map_some, Option.some.injEq, Prod.mk.injEq] at e
              obtain ⟨rfl, _⟩ := e
              exact hb' _ _ _ h5
theorem ex_chain {cc : Expr} {o o' : CmpOp} {r r' : R2} {op op' : D → D → Option D} (ho : OpR X (compareOp o) r) (ho' : OpR X (compareOp o') r') (hr : OpS c r op) (hr' : OpS c r' op') (hb2 : BoolOp2 op) (ha : PE X a (tE c b1 f)) (hb : PE X b (tE c b2 g)) (hc : PE X cc (tE c b3 h))
    (hm : lastMarks [o, o'] [b, cc] = false := by with_unfolding_all rfl) : PE X (.Compare a [o, o'] [b, cc] pos) (tE c (b1 && (b2 && b3)) (eChain op op' f g h)) := PE_imp (pe_chain ho ho' ha hb hc hm) fun _ _ _ q => chain_ok hr hr' hb2 q
theorem xt_chain {cc : Expr} {o o' : CmpOp} {r r' : R2} {op op' : D → D → Option D} (ho : OpR X (compareOp o) r) (ho' : OpR X (compareOp o') r') (hr : OpS c r op) (hr' : OpS c r' op') (hb2 : BoolOp2 op) (hb2' : BoolOp2 op') (ha : PE X a (tE c b1 f)) (hb : PE X b (tE c b2 g)) (hc : PE X cc (tE c b3 h))
    (hm : lastMarks [o, o'] [b, cc] = false := by with_unfolding_all rfl) : PT X (.Compare a [o, o'] [b, cc] pos) (tT c (b1 && (b2 && b3)) (bTst (eChain op op' f g h))) := PT_imp (pt_chain ho ho' ha hb hc hm) fun σ H Q q => by
  obtain ⟨G, s, fp, d, s', k, sl, hf, q⟩ := tstB_ok (eChain_bool hb2 hb2') q
  exact chain_ok hr hr' hb2 ⟨G, s, fp, d, s', k, sl, hf, q⟩

/-! ### slices -/
theorem xo_no : PO X none (tOp' c true oNo) := PO_imp po_none fun σ H Q ⟨G, s, fp, d, s', k, sl, hf, q⟩ => by
  cases hf
  exact q H G fp (Ev.refl k) sl (Pure.here k.sub)
theorem xo_some (ha : PE X a (tE c b1 f)) : PO X (some a) (tOp' c b1 (oSome f)) := PO_imp (po_some ha) fun σ H Q ⟨G, s, fp, d, s', k, sl, hf, q⟩ => by
  unfold oSome at hf
  cases h1 : f s with
  | none => rw [h1] at hf; exact nomatch hf
  | some p =>
    obtain ⟨x, s1⟩ := p
    simp only [h1, Option.bind_some] at hf
    cases x with
    | int i =>
      cases hf
      exact ⟨G, s, fp, _, _, k, sl, h1, fun v H1 G1 fp1 E1 S1 r1 p1 => ⟨i, r1.ints, q H1 G1 fp1 E1 S1 p1⟩⟩
    | _ => exact nomatch hf
theorem Reps.cut {K : PySem.W.Frag} {G : Hp} {vs : List V} {xs : List D} (r : Reps K G vs xs) (lo hi : Option Int) : Reps K G (cutV vs lo hi) (cutD xs lo hi) := by
  unfold cutV cutD
  rw [r.length]
  exact (r.drop _).take _
def rCut (K : PySem.W.Frag) : V → Option Int → Option Int → Hp → VK → Prop := fun x lo hi H Q => rSlA K x lo hi H Q ∨ rSlL K x lo hi H Q ∨ rSlS x lo hi H Q
theorem sl_cut : SlR X (rCut X.K) := sl_tupA.or (sl_list.or sl_str)
theorem cut_ok {v : V} {d z : D} {lo hi : Option Int} {Q : VK} (e : Same G H) (r : Rep c.K G v d) (hz : dCut d lo hi = some z) (q : ∀ v' H' G', Grow H G H' G' → Rep c.K G' v' z → Q v' H') : rCut c.K v lo hi H Q := by
  cases r with
  | str x =>
    simp only [dCut] at hz
    split at hz
    · cases hz
      exact .inr (.inr ⟨_, rfl, Nat.le_trans (by assumption) cap_line, q _ _ _ (Grow.refl e) (.str _)⟩)
    · exact nomatch hz
  | @tup a vs xs t1 r1 =>
    cases hz
    refine .inl ⟨_, _, rfl, Same.sqT e t1, fun hw => ?_, fun hw p hp => ?_⟩
    · refine q _ _ _ (Grow.refl e) ?_
      have l := r1.length
      rw [l] at hw
      have e2 : cutD xs lo hi = xs := by
        unfold cutD
        rw [hw.1, hw.2, List.drop_zero, Nat.sub_zero]
        exact List.take_length
      rw [e2]
      exact .tup t1 r1
    · exact q _ _ _ (Grow.alloc e hp) (.tup (SqT.of upd_same) ((r1.cut lo hi).mono (same_upd (e.free hp))))
  | lst t1 r1 =>
    cases hz
    exact .inr (.inl ⟨_, _, rfl, Same.sqL e t1, fun p hp => q _ _ _ (Grow.alloc e hp) (.lst (SqL.of upd_same) ((r1.cut lo hi).mono (same_upd (e.free hp))))⟩)
  | _ => exact nomatch hz
theorem ex_cut {lo hi : Option Expr} {p2 : Pos} {fl fh : S → Option (Option Int × S)} (he : PE X a (tE c b1 f)) (hl : PO X lo (tOp' c b2 fl)) (hu : PO X hi (tOp' c b3 fh)) (hK : X.K = c.K := by rfl) : PE X (.Subscript a (.Slice lo hi none p2) pos) (tE c (b1 && (b2 && b3)) (eCut f fl fh)) :=
  PE_imp (pe_slice sl_cut he hl hu) fun σ H Q ⟨G, s, fp, d, s', k, sl, hf, q⟩ => by
    rw [hK]
    unfold eCut at hf
    cases h1 : f s with
    | none => rw [h1] at hf; exact nomatch hf
    | some p =>
      obtain ⟨x, s1⟩ := p
      simp only [h1, Option.bind_some] at hf
      cases h2 : fl s1 with
      | none => simp [h2] at hf
      | some p2 =>
        obtain ⟨y, s2⟩ := p2
        simp only [h2, Option.bind_some] at hf
        cases h3 : fh s2 with
        | none => simp [h3] at hf
        | some p3 =>
          obtain ⟨w, s3⟩ := p3
          simp only [h3, Option.bind_some] at hf
          cases h4 : dCut x y w with
          | none => simp [h4] at hf
          | some z =>
            simp only [h4, Option.map_some, Option.some.injEq, Prod.mk.injEq] at hf
            obtain ⟨rfl, rfl⟩ := hf
            refine ⟨G, s, fp, x, s1, k, sl, h1, fun v H1 G1 fp1 E1 S1 r1 p1 => ⟨G1, s1, fp1, y, s2, E1.ok, S1, h2, fun H2 G2 fp2 E2 S2 p2 => ⟨G2, s2, fp2, w, s3, E2.ok, S2, h3, fun H3 G3 fp3 E3 S3 p3 =>
              cut_ok E3.sub ((r1.mono E2.gs).mono E3.gs) h4 fun v' H' G' gr r' => q v' H' G' fp3 (((E1.trans E2).trans E3).grow S3 gr) (S3.step gr) r' (((p1.and (p2.and p3)).grow gr))⟩⟩⟩
end
end DL
/-! DL 4: statements, targets, loops, defs. -/
namespace DL
open PySem PySem.Spec PyProof.Rows L2

/-- what a def hands back: plain data, a new list that is nobody else's -/
inductive Rt where
  | d (x : D) | n (xs : List D)
inductive Fl where
  | next (s : S) | ret (r : Rt) (s : S) | brk (s : S) | cont (s : S)
abbrev SF := S → Option Fl
abbrev GF := D → S → Option S
def PinEq (pins : List Nat) (σ σ' : L2.St) : Prop := σ'.length = σ.length ∧ ∀ i ∈ pins, σ'[i]? = σ[i]?
section
variable (c : Cc) (pins : List Nat)
def PostS (D : Ends) (H G : Hp) (fp : List Addr) (σ : L2.St) : Fl → Prop
  | .next s' => ∀ σ' H' G' fp', Ev H G fp H' G' fp' → Slots c H' G' σ' s' fp' → PinEq pins σ σ' → D.nx σ' H'
  | .ret (.d d) s' => ∀ v σ' H' G' fp', Ev H G fp H' G' fp' → Slots c H' G' σ' s' fp' → PinEq pins σ σ' → Rep c.K G' v d → D.rt v H'
  | .ret (.n xs) s' => ∀ p vs σ' H' G' fp', Ev H G fp H' G' (p :: fp') → Slots c H' G' σ' s' fp' → PinEq pins σ σ' → H' p = some (.lst vs) → Reps c.K G' vs xs → D.rt (.ref p) H'
  | .brk s' => ∀ σ' H' G' fp', Ev H G fp H' G' fp' → Slots c H' G' σ' s' fp' → PinEq pins σ σ' → D.bk σ' H'
  | .cont s' => ∀ σ' H' G' fp', Ev H G fp H' G' fp' → Slots c H' G' σ' s' fp' → PinEq pins σ σ' → D.ct σ' H'
def tS (f : SF) : TS := fun D σ H => ∃ G s fp fl, Ok H G fp ∧ Slots c H G σ s fp ∧ f s = some fl ∧ PostS c pins D H G fp σ fl
def tG (bg : Bool) (g : GF) : TG := fun v σ H Q => ∃ G s fp d s', Ok H G fp ∧ Slots c H G σ s fp ∧ Rep c.K G v d ∧ g d s = some s' ∧
  ∀ σ' H' G' fp', Ev H G fp H' G' fp' → Slots c H' G' σ' s' fp' → PinEq pins σ σ' → (bg = true → Grow H G H' G') → Q σ' H'
def tGs (bg : Bool) (g : List D → S → Option S) : TGs := fun vs σ H Q => ∃ G s fp ds s', Ok H G fp ∧ Slots c H G σ s fp ∧ Reps c.K G vs ds ∧ g ds s = some s' ∧
  ∀ σ' H' G' fp', Ev H G fp H' G' fp' → Slots c H' G' σ' s' fp' → PinEq pins σ σ' → (bg = true → Grow H G H' G') → Q σ' H'
/-- a new list, nobody else's -/
def tN (f : AF) : TE := fun σ H Q => ∃ G s fp xs s', Ok H G fp ∧ Slots c H G σ s fp ∧ f s = some (xs, s') ∧
  ∀ p vs H' G' fp', Ev H G fp H' G' (p :: fp') → Slots c H' G' σ s' fp' → H' p = some (.lst vs) → Reps c.K G' vs xs → Q (.ref p) H'
end
theorem PS_imp {X : Cx} {e : Stmt} {t t' : TS} (h : PS X e t) (k : ∀ D σ H, t' D σ H → t D σ H) : PS X e t' := ⟨fun pins s σ H Q I q => h.run pins s σ H Q I (k Q σ H q)⟩
theorem PSs_imp {X : Cx} {e : List Stmt} {t t' : TS} (h : PSs X e t) (k : ∀ D σ H, t' D σ H → t D σ H) : PSs X e t' := ⟨fun pins s σ H Q I q => h.run pins s σ H Q I (k Q σ H q)⟩
theorem PG_imp {X : Cx} {e : Expr} {t t' : TG} (h : PG X e t) (k : ∀ v σ H Q, t' v σ H Q → t v σ H Q) : PG X e t' := ⟨fun pins s σ H v u Q I r q => h.run pins s σ H v u Q I r (k v σ H Q q)⟩
theorem PGs_imp {X : Cx} {e : List Expr} {t t' : TGs} (h : PGs X e t) (k : ∀ v σ H Q, t' v σ H Q → t v σ H Q) : PGs X e t' := ⟨fun pins s σ H v u Q I r q => h.run pins s σ H v u Q I r (k v σ H Q q)⟩

/-! ### the functions -/
def sNext : SF := fun s => some (.next s)
def sSeq (f g : SF) : SF := fun s => (f s).bind fun fl => match fl with
  | .next s' => g s'
  | fl => some fl
def sIf (t : BF) (f g : SF) : SF := fun s => (t s).bind fun p => if p.1 = true then f p.2 else g p.2
def sRet (f : EF) : SF := fun s => (f s).map fun p => .ret (.d p.1) p.2
def sRetN : SF := fun s => some (.ret (.d .non) s)
def sRetNew (f : AF) : SF := fun s => (f s).map fun p => .ret (.n p.1) p.2
def sBrk : SF := fun s => some (.brk s)
def sCont : SF := fun s => some (.cont s)
def sNever : SF := fun _ => none
def sDrop (f : EF) : SF := fun s => (f s).map fun p => .next p.2
def sAsg (f : EF) (g : GF) : SF := fun s => (f s).bind fun p => (g p.1 p.2).map .next
def gN (i : Nat) : GF := fun d s => if i < s.length then some (s.set i (.val d)) else none
def gTup (g : List D → S → Option S) : GF := fun d s => match d with
  | .tup xs => g xs s
  | _ => none
def gsNil : List D → S → Option S := fun ds s => match ds with
  | [] => some s
  | _ => none
def gsCons (g : GF) (r : List D → S → Option S) : List D → S → Option S := fun ds s => match ds with
  | d :: ds => (g d s).bind (r ds)
  | [] => none
/-- a[i] = d, a a list of one's own in slot k -/
def gIx (k : Nat) (fi : EF) : GF := fun d s => match s[k]? with
  | some (.lst _) => (fi s).bind fun p => match p.1, p.2[k]? with
    | .int i, some (.lst xs) => (ixN xs.length i).map fun j => p.2.set k (.lst (xs.set j d))
    | _, _ => none
  | _ => none
def sPar (i j : Nat) (fa : AF) : SF := fun s => (fa s).bind fun p => match p.1 with
  | [v, w] => if i < p.2.length ∧ j < p.2.length then some (.next ((p.2.set i (.val v)).set j (.val w))) else none
  | _ => none
/-- x = a new list of one's own -/
def sNew (i : Nat) (f : AF) : SF := fun s => (f s).bind fun p => if i < p.2.length then some (.next (p.2.set i (.lst p.1))) else none
def nLst (fa : AF) : AF := fun s => (fa s).bind fun p => if p.1.length ≤ cap then some p else none
def sApp (i : Nat) (f : EF) : SF := fun s => match s[i]? with
  | some (.lst _) => (f s).bind fun p => match p.2[i]? with
    | some (.lst xs) => if xs.length < cap then some (.next (p.2.set i (.lst (xs ++ [p.1])))) else none
    | _ => none
  | _ => none
def forD (g : GF) (fb : SF) : List D → SF
  | [], s => some (.next s)
  | x :: xs, s => (g x s).bind fun s1 => (fb s1).bind fun fl => match fl with
    | .next s2 => forD g fb xs s2
    | .cont s2 => forD g fb xs s2
    | .brk s2 => some (.next s2)
    | .ret d s2 => some (.ret d s2)
def sFor (fi : AF) (g : GF) (fb : SF) : SF := fun s => (fi s).bind fun p => forD g fb p.1 p.2
def whileF (t : BF) (fb : SF) : Nat → SF
  | 0, _ => none
  | n + 1, s => (t s).bind fun p => if p.1 = true then (fb p.2).bind fun fl => match fl with
      | .next s2 => whileF t fb n s2
      | .cont s2 => whileF t fb n s2
      | .brk s2 => some (.next s2)
      | .ret d s2 => some (.ret d s2)
    else some (.next p.2)
open Classical in
noncomputable def sWhile (t : BF) (fb : SF) : SF := fun s => if h : ∃ fl n, whileF t fb n s = some fl then some (Classical.choose h) else none
theorem whileF_up (t : BF) (fb : SF) : ∀ (n : Nat) (s : S) (fl : Fl) (m : Nat), n ≤ m → whileF t fb n s = some fl → whileF t fb m s = some fl
  | 0, s, fl, m, _, h => nomatch h
  | n + 1, s, fl, 0, hm, _ => nomatch hm
  | n + 1, s, fl, m + 1, hm, h => by
    have ih := fun s fl => whileF_up t fb n s fl m (Nat.le_of_succ_le_succ hm)
    unfold whileF at h ⊢
    cases h1 : t s with
    | none => rw [h1] at h; exact nomatch h
    | some p =>
      simp only [h1, Option.bind_some] at h ⊢
      by_cases hp : p.1 = true
      · rw [if_pos hp] at h ⊢
        cases h2 : fb p.2 with
        | none => simp [h2] at h
        | some f2 =>
          simp only [h2, Option.bind_some] at h ⊢
          cases f2 with
          | next s2 => exact ih s2 fl h
          | cont s2 => exact ih s2 fl h
          | brk s2 => exact h
          | ret d s2 => exact h
      · rw [if_neg hp] at h ⊢
        exact h
theorem sWhile_of {t : BF} {fb : SF} {n : Nat} {s : S} {fl : Fl} (h : whileF t fb n s = some fl) : sWhile t fb s = some fl := by
  have hx : ∃ fl n, whileF t fb n s = some fl := ⟨fl, n, h⟩
  unfold sWhile
  rw [dif_pos hx]
  obtain ⟨m, hm⟩ := Classical.choose_spec hx
  have h1 := whileF_up t fb n s fl (max n m) (Nat.le_max_left _ _) h
  have h2 := whileF_up t fb m s _ (max n m) (Nat.le_max_right _ _) hm
  rw [h1] at h2
  exact h2.symm
theorem sWhile_has {t : BF} {fb : SF} {s : S} {fl : Fl} (h : sWhile t fb s = some fl) : ∃ n, whileF t fb n s = some fl := by
  unfold sWhile at h
  split at h
  · rename_i hx
    obtain ⟨m, hm⟩ := Classical.choose_spec hx
    cases h
    exact ⟨m, hm⟩
  · exact nomatch h
/-- one turn -/
theorem sWhile_eq (t : BF) (fb : SF) (s : S) : sWhile t fb s = (t s).bind fun p => if p.1 = true then (fb p.2).bind fun fl => match fl with
      | .next s2 => sWhile t fb s2
      | .cont s2 => sWhile t fb s2
      | .brk s2 => some (.next s2)
      | .ret d s2 => some (.ret d s2)
    else some (.next p.2) := by
  cases e : (t s).bind fun p => if p.1 = true then (fb p.2).bind fun fl => match fl with
      | .next s2 => sWhile t fb s2
      | .cont s2 => sWhile t fb s2
      | .brk s2 => some (.next s2)
      | .ret d s2 => some (.ret d s2)
    else some (.next p.2) with
  | none =>
    cases h : sWhile t fb s with
    | none => rfl
    | some fl =>
      obtain ⟨n, hn⟩ := sWhile_has h
      exfalso
      cases n with
      | zero => exact nomatch hn
      | succ n =>
        unfold whileF at hn
        cases h1 : t s with
        | none => rw [h1] at hn; exact nomatch hn
        | some p =>
          simp only [h1, Option.bind_some] at hn e
          by_cases hp : p.1 = true
          · rw [if_pos hp] at hn e
            cases h2 : fb p.2 with
            | none => simp [h2] at hn
            | some f2 =>
              simp only [h2, Option.bind_some] at hn e
              cases f2 with
              | next s2 => simp only [sWhile_of hn] at e; exact nomatch e
              | cont s2 => simp only [sWhile_of hn] at e; exact nomatch e
              | brk s2 => exact nomatch e
              | ret d s2 => exact nomatch e
          · rw [if_neg hp] at e
            exact nomatch e
  | some fl =>
    cases h1 : t s with
    | none => rw [h1] at e; exact nomatch e
    | some p =>
      simp only [h1, Option.bind_some] at e
      by_cases hp : p.1 = true
      · rw [if_pos hp] at e
        cases h2 : fb p.2 with
        | none => simp [h2] at e
        | some f2 =>
          simp only [h2, Option.bind_some] at e
          have one : ∀ {s2 : S} {n : Nat}, (f2 = .next s2 ∨ f2 = .cont s2) → whileF t fb n s2 = some fl → sWhile t fb s = some fl := fun {s2 n} hf hn => by
            refine sWhile_of (n := n + 1) ?_
            unfold whileF
            simp only [h1, Option.bind_some]
            rw [if_pos hp, h2]
            rcases hf with rfl | rfl <;> exact hn
          cases f2 with
          | next s2 => obtain ⟨n, hn⟩ := sWhile_has e; exact one (.inl rfl) hn
          | cont s2 => obtain ⟨n, hn⟩ := sWhile_has e; exact one (.inr rfl) hn
          | brk s2 =>
            refine sWhile_of (n := 1) ?_
            unfold whileF
            simp only [h1, Option.bind_some]
            rw [if_pos hp, h2]
            exact e
          | ret d s2 =>
            refine sWhile_of (n := 1) ?_
            unfold whileF
            simp only [h1, Option.bind_some]
            rw [if_pos hp, h2]
            exact e
      · rw [if_neg hp] at e
        refine sWhile_of (n := 1) ?_
        unfold whileF
        simp only [h1, Option.bind_some]
        rw [if_neg hp]
        exact e

section
variable {c : Cc} {X : Cx} {pins : List Nat} {b1 b2 b3 : Bool} {f g h : EF} {t : BF} {fa : AF} {u v w : SF} {pos : Pos} {e : Expr} {st : Stmt} {rest : List Stmt}
variable {H H1 H2 G G1 G2 : Hp} {s s1 s2 : S} {fp fp1 fp2 : List Addr} {σ σ1 σ2 : L2.St} {Z : Ends}
theorem PinEq.refl : PinEq pins σ σ := ⟨rfl, fun _ _ => rfl⟩
theorem PinEq.trans (a : PinEq pins σ σ1) (b : PinEq pins σ1 σ2) : PinEq pins σ σ2 := ⟨b.1.trans a.1, fun i hi => (b.2 i hi).trans (a.2 i hi)⟩
/-- what was done ahead is put ahead -/
theorem PostS.ahead {fl : Fl} (q : PostS c pins Z H G fp σ fl) (E1 : Ev H G fp H1 G1 fp1) (p1 : PinEq pins σ σ1) : PostS c pins Z H1 G1 fp1 σ1 fl := by
  cases fl with
  | next s' => exact fun σ' H' G' fp' E2 S2 p2 => q σ' H' G' fp' (E1.trans E2) S2 (p1.trans p2)
  | ret r s' =>
    cases r with
    | d d => exact fun v σ' H' G' fp' E2 S2 p2 => q v σ' H' G' fp' (E1.trans E2) S2 (p1.trans p2)
    | n xs => exact fun p vs σ' H' G' fp' E2 S2 p2 => q p vs σ' H' G' fp' (E1.trans E2) S2 (p1.trans p2)
  | brk s' => exact fun σ' H' G' fp' E2 S2 p2 => q σ' H' G' fp' (E1.trans E2) S2 (p1.trans p2)
  | cont s' => exact fun σ' H' G' fp' E2 S2 p2 => q σ' H' G' fp' (E1.trans E2) S2 (p1.trans p2)

theorem ss_nil : PSs X [] (tS c pins sNext) := PSs_imp pss_nil fun D σ H ⟨G, s, fp, fl, k, sl, hf, q⟩ => by
  cases hf
  exact q σ H G fp (Ev.refl k) sl PinEq.refl
theorem ss_one (h1 : PS X st (tS c pins u)) : PSs X [st] (tS c pins u) := pss_one h1
theorem ss_cons (h1 : PS X st (tS c pins u)) (h2 : PSs X rest (tS c pins v)) : PSs X (st :: rest) (tS c pins (sSeq u v)) := PSs_imp (pss_cons h1 h2) fun D σ H ⟨G, s, fp, fl, k, sl, hf, q⟩ => by
  unfold sSeq at hf
  cases h1 : u s with
  | none => rw [h1] at hf; exact nomatch hf
  | some f1 =>
    simp only [h1, Option.bind_some] at hf
    refine ⟨G, s, fp, f1, k, sl, h1, ?_⟩
    cases f1 with
    | next s1 => exact fun σ1 H1 G1 fp1 E1 S1 p1 => ⟨G1, s1, fp1, fl, E1.ok, S1, hf, q.ahead E1 p1⟩
    | ret d s1 => cases hf; cases d <;> exact q
    | brk s1 => cases hf; exact q
    | cont s1 => cases hf; exact q
theorem sx_pass : PS X (.Pass pos) (tS c pins sNext) := PS_imp ps_pass fun D σ H ⟨G, s, fp, fl, k, sl, hf, q⟩ => by
  cases hf
  exact q σ H G fp (Ev.refl k) sl PinEq.refl
theorem sx_brk : PS X (.Break pos) (tS c pins sBrk) := PS_imp ps_break fun D σ H ⟨G, s, fp, fl, k, sl, hf, q⟩ => by
  cases hf
  exact q σ H G fp (Ev.refl k) sl PinEq.refl
theorem sx_cont : PS X (.Continue pos) (tS c pins sCont) := PS_imp ps_continue fun D σ H ⟨G, s, fp, fl, k, sl, hf, q⟩ => by
  cases hf
  exact q σ H G fp (Ev.refl k) sl PinEq.refl
theorem sx_never : PS X st (tS c pins sNever) := PS_imp ps_never fun D σ H ⟨G, s, fp, fl, k, sl, hf, q⟩ => nomatch hf
theorem sx_ret (he : PE X e (tE c b1 f)) : PS X (.Return (some e) pos) (tS c pins (sRet f)) := PS_imp (ps_ret he) fun D σ H ⟨G, s, fp, fl, k, sl, hf, q⟩ => by
  unfold sRet at hf
  cases h1 : f s with
  | none => rw [h1] at hf; exact nomatch hf
  | some p =>
    obtain ⟨d, s1⟩ := p
    simp only [h1, Option.map_some, Option.some.injEq] at hf
    subst hf
    exact ⟨G, s, fp, d, s1, k, sl, h1, fun v H1 G1 fp1 E1 S1 r1 _ => q v σ H1 G1 fp1 E1 S1 PinEq.refl r1⟩
theorem sx_retNew (he : PE X e (tN c fa)) : PS X (.Return (some e) pos) (tS c pins (sRetNew fa)) := PS_imp (ps_ret he) fun D σ H ⟨G, s, fp, fl, k, sl, hf, q⟩ => by
  unfold sRetNew at hf
  cases h1 : fa s with
  | none => rw [h1] at hf; exact nomatch hf
  | some p =>
    obtain ⟨d, s1⟩ := p
    simp only [h1, Option.map_some, Option.some.injEq] at hf
    subst hf
    exact ⟨G, s, fp, d, s1, k, sl, h1, fun p vs H1 G1 fp1 E1 S1 hv r1 => q p vs σ H1 G1 fp1 E1 S1 PinEq.refl hv r1⟩
theorem sx_retN : PS X (.Return none pos) (tS c pins sRetN) := PS_imp ps_retN fun D σ H ⟨G, s, fp, fl, k, sl, hf, q⟩ => by
  cases hf
  exact q .non σ H G fp (Ev.refl k) sl PinEq.refl .non
theorem sx_drop (he : PE X e (tE c b1 f)) (hs : swapsWith e none pos.line X.env = pure false := by rfl) : PS X (.Expr e pos) (tS c pins (sDrop f)) := PS_imp (ps_expr he hs) fun D σ H ⟨G, s, fp, fl, k, sl, hf, q⟩ => by
  unfold sDrop at hf
  cases h1 : f s with
  | none => rw [h1] at hf; exact nomatch hf
  | some p =>
    obtain ⟨d, s1⟩ := p
    simp only [h1, Option.map_some, Option.some.injEq] at hf
    subst hf
    exact ⟨G, s, fp, d, s1, k, sl, h1, fun v H1 G1 fp1 E1 S1 r1 _ => q σ H1 G1 fp1 E1 S1 PinEq.refl⟩
theorem sx_if {cd : Expr} {sa sb : List Stmt} (hc : PT X cd (tT c b1 t)) (ha : PSs X sa (tS c pins u)) (hb : PSs X sb (tS c pins v)) : PS X (.If cd sa sb pos) (tS c pins (sIf t u v)) := PS_imp (ps_if hc ha hb) fun D σ H ⟨G, s, fp, fl, k, sl, hf, q⟩ => by
  unfold sIf at hf
  cases h1 : t s with
  | none => rw [h1] at hf; exact nomatch hf
  | some p =>
    obtain ⟨x, s1⟩ := p
    simp only [h1, Option.bind_some] at hf
    refine ⟨G, s, fp, x, s1, k, sl, h1, fun H1 G1 fp1 E1 S1 _ => ?_⟩
    show if x = true then tS c pins u D σ H1 else tS c pins v D σ H1
    cases x with
    | true =>
      rw [if_pos rfl] at hf ⊢
      exact ⟨G1, s1, fp1, fl, E1.ok, S1, hf, q.ahead E1 PinEq.refl⟩
    | false =>
      rw [if_neg Bool.false_ne_true] at hf ⊢
      exact ⟨G1, s1, fp1, fl, E1.ok, S1, hf, q.ahead E1 PinEq.refl⟩

/-! ### targets -/
theorem pin_set {i : Nat} {x : Option V} (hi : i ∉ pins) : PinEq pins σ (σ.set i x) := ⟨List.length_set, fun j hj => List.getElem?_set_ne (fun z => hi (by rw [z]; exact hj))⟩
theorem put_val (k : Ok H G fp) (sl : Slots c H G σ s fp) {i : Nat} {v : V} {d : D} (hi : i < s.length) (r : Rep c.K G v d) : ∃ fp', Ev H G fp H G fp' ∧ Slots c H G (σ.set i (some v)) (s.set i (.val d)) fp' := by
  obtain ⟨f1, f2, p, kk⟩ := sl.put hi
  obtain ⟨fp', p', sl'⟩ := kk H G v (.val d) [] (.val r) (fun _ _ => rfl) (Same.refl _)
  exact ⟨fp', ((Ev.refl k).less p).perm (by simpa using p'), sl'⟩
theorem gx_name (i : Nat) {x : Str} (hN : X.N.Nodup) (hp : i ∉ pins := by decide) (hi : X.N[i]? = some x := by rfl) (hx : Loc X.env.scope x := by first | exact Or.inl rfl | exact Or.inr rfl)
    (hf : X.fn x = true ∨ X.env.scope.names.lookup x = some .local := by first | exact .inl rfl | exact .inr rfl) : PG X (.Name x pos) (tG c pins true (gN i)) :=
  PG_imp (pg_name hN hi hx hf) fun v σ H Q ⟨G, s, fp, d, s', k, sl, r, hg, q⟩ => by
    unfold gN at hg
    split at hg
    · rename_i hl
      cases hg
      obtain ⟨fp', E, sl'⟩ := put_val k sl hl r
      exact q _ H G fp' E sl' (pin_set hp) (fun _ => Grow.refl k.sub)
    · exact nomatch hg
theorem gsx_nil : PGs X [] (tGs c pins true gsNil) := PGs_imp pgs_nil fun v σ H Q ⟨G, s, fp, ds, s', k, sl, r, hg, q⟩ => by
  cases r with
  | nil => cases hg; exact ⟨rfl, q σ H G fp (Ev.refl k) sl PinEq.refl fun _ => Grow.refl k.sub⟩
  | cons _ _ => exact nomatch hg
theorem gsx_cons {e : Expr} {es : List Expr} {g1 : GF} {g2 : List D → S → Option S} (h1 : PG X e (tG c pins b1 g1)) (h2 : PGs X es (tGs c pins b2 g2))
    (hs : (assignEach (e :: es) X.env).map (·.2) = assign e X.env :: (assignEach es X.env).map (·.2) := by rfl) : PGs X (e :: es) (tGs c pins (b1 && b2) (gsCons g1 g2)) :=
  PGs_imp (pgs_cons h1 h2 hs) fun v σ H Q ⟨G, s, fp, ds, s', k, sl, r, hg, q⟩ => by
    cases r with
    | nil => exact nomatch hg
    | cons r1 r2 =>
      unfold gsCons at hg
      rename_i v1 vs1 d1 ds1 q0
      cases h1 : g1 d1 s with
      | none => simp [h1] at hg
      | some s1 =>
        simp only [h1, Option.bind_some] at hg
        exact ⟨_, _, rfl, G, s, fp, _, s1, k, sl, r1, h1, fun σ1 H1 G1 fp1 E1 S1 p1 g1 => ⟨G1, s1, fp1, _, s', E1.ok, S1, r2.mono E1.gs, hg, fun σ2 H2 G2 fp2 E2 S2 p2 g2 => q σ2 H2 G2 fp2 (E1.trans E2) S2 (p1.trans p2) fun hb => (g1 (Bool.and_eq_true_iff.mp hb).1).trans (g2 (Bool.and_eq_true_iff.mp hb).2)⟩⟩
theorem gx_tup {es : List Expr} {kk : Nat} {n : Nat} {gs : List D → S → Option S} (hc : X.calm = true) (h : PGs X es (tGs c pins b1 gs)) (hn : (assignEach es X.env).length = n := by rfl) (hlen : ∀ ds s s', gs ds s = some s' → ds.length = n)
    (hK : X.K = c.K := by rfl) (hst : (assignEach es X.env).findIdx? (·.1) = none := by rfl) : PG X (.Tuple es kk pos) (tG c pins b1 (gTup gs)) := PG_imp (pg_tup hc h hn hst) fun v σ H Q ⟨G, s, fp, d, s', k, sl, r, hg, q⟩ => by
  cases r with
  | tup t1 r1 => exact ⟨_, _, rfl, by rw [hK]; exact Same.sqT k.sub t1, by rw [r1.length]; exact hlen _ _ _ hg, G, s, fp, _, s', k, sl, r1, hg, q⟩
  | _ => exact nomatch hg
theorem gs_len0 : ∀ ds (s s' : S), gsNil ds s = some s' → ds.length = 0 := fun ds s s' h => by
  match ds with
  | [] => rfl
  | a :: r => exact nomatch h
theorem gs_lenS {n : Nat} {g1 : GF} {g2 : List D → S → Option S} (ih : ∀ ds s s', g2 ds s = some s' → ds.length = n) : ∀ ds s s', gsCons g1 g2 ds s = some s' → ds.length = n + 1 := fun ds s s' h => by
  match ds with
  | [] => exact nomatch h
  | a :: r =>
    simp only [gsCons] at h
    cases e : g1 a s with
    | none => simp [e] at h
    | some s1 =>
      simp only [e, Option.bind_some] at h
      rw [List.length_cons, ih r s1 s' h]
/-- x = e -/
theorem asg_ok {gf : GF} {tg : TG} (hg : ∀ v σ H Q, tG c pins b2 gf v σ H Q → tg v σ H Q) (q : tS c pins (sAsg f gf) Z σ H) : tAsg (tE c b1 f) tg Z σ H := by
  obtain ⟨G, s, fp, fl, k, sl, hf, q⟩ := q
  unfold sAsg at hf
  cases h1 : f s with
  | none => rw [h1] at hf; exact nomatch hf
  | some p =>
    obtain ⟨d, s1⟩ := p
    simp only [h1, Option.bind_some] at hf
    cases h2 : gf d s1 with
    | none => simp [h2] at hf
    | some s2 =>
      simp only [h2, Option.map_some, Option.some.injEq] at hf
      subst hf
      exact ⟨G, s, fp, d, s1, k, sl, h1, fun v H1 G1 fp1 E1 S1 r1 _ => hg _ _ _ _ ⟨G1, s1, fp1, d, s2, E1.ok, S1, r1, h2, fun σ2 H2 G2 fp2 E2 S2 p2 _ => q σ2 H2 G2 fp2 (E1.trans E2) S2 p2⟩⟩
theorem gName_ok {i : Nat} (hp : i ∉ pins) : ∀ v σ H Q, tG c pins true (gN i) v σ H Q → gName i v σ H Q := fun v σ H Q ⟨G, s, fp, d, s', k, sl, r, hg, q⟩ => by
  unfold gN at hg
  split at hg
  · rename_i hl
    cases hg
    obtain ⟨fp', E, sl'⟩ := put_val k sl hl r
    exact q _ H G fp' E sl' (pin_set hp) (fun _ => Grow.refl k.sub)
  · exact nomatch hg
theorem sx_set (i : Nat) {x : Str} {pos' : Pos} (hN : X.N.Nodup) (he : PE X e (tE c b1 f)) (hp : i ∉ pins := by decide) (hi : X.N[i]? = some x := by rfl) (hx : Loc X.env.scope x := by first | exact Or.inl rfl | exact Or.inr rfl)
    (hs : swapsWith e (some (.Name x pos')) pos.line X.env = pure false := by rfl) (hf : X.fn x = true ∨ X.env.scope.names.lookup x = some .local := by first | exact .inl rfl | exact .inr rfl) :
    PS X (.Assign [.Name x pos'] e pos) (tS c pins (sAsg f (gN i))) := PS_imp (ps_set hN hi hx he hs hf) fun D σ H q => asg_ok (gName_ok hp) q
theorem sx_asg {tg : Expr} {gf : GF} (he : PE X e (tE c b1 f)) (hg : PG X tg (tG c pins b2 gf)) (hs : swapsWithSole [tg] e pos.line X.env = pure false := by rfl) (hw : swappedStores [tg] e X.env = pure none := by rfl)
    (h1 : (assignEach [tg] X.env).map (·.2) = [assign tg X.env] := by rfl) : PS X (.Assign [tg] e pos) (tS c pins (sAsg f gf)) := PS_imp (ps_asg he hg hs hw h1) fun D σ H q => asg_ok (fun _ _ _ _ z => z) q
theorem sx_par (i j : Nat) {x y : Str} {ea eb : Expr} {px py pt : Pos} {kt k2 pt2} (hc : X.calm = true) (hN : X.N.Nodup) (ha : PA X [ea, eb] (tA c b1 fa)) (hpi : i ∉ pins := by decide) (hpj : j ∉ pins := by decide) (hij : i ≠ j := by decide) (hi : X.N[i]? = some x := by rfl) (hj : X.N[j]? = some y := by rfl)
    (hx : X.env.scope.names.lookup x = some .local := by rfl) (hy : X.env.scope.names.lookup y = some .local := by rfl)
    (hw : swappedStores [.Tuple [.Name x px, .Name y py] kt pt] (.Tuple [ea, eb] k2 pt2) X.env = pure (some [x, y]) := by rfl)
    (hs : swapsWithSole [.Tuple [.Name x px, .Name y py] kt pt] (.Tuple [ea, eb] k2 pt2) pos.line X.env = pure false := by rfl) :
    PS X (.Assign [.Tuple [.Name x px, .Name y py] kt pt] (.Tuple [ea, eb] k2 pt2) pos) (tS c pins (sPar i j fa)) := PS_imp (ps_par hc hN hi hj hij hx hy ha hw hs) fun D σ H ⟨G, s, fp, fl, k, sl, hf, q⟩ => by
  unfold sPar at hf
  cases h1 : fa s with
  | none => rw [h1] at hf; exact nomatch hf
  | some p =>
    obtain ⟨ds, s1⟩ := p
    simp only [h1, Option.bind_some] at hf
    match ds, h1, hf with
    | [], _, hf => exact nomatch hf
    | [_], _, hf => exact nomatch hf
    | _ :: _ :: _ :: _, _, hf => exact nomatch hf
    | [d1, d2], h1, hf =>
      simp only at hf
      split at hf
      · rename_i hl
        cases hf
        refine ⟨G, s, fp, _, s1, k, sl, h1, fun vs H1 G1 fp1 E1 S1 r1 _ => ?_⟩
        cases r1 with
        | cons r1 r2 =>
          cases r2 with
          | cons r2 r3 =>
            cases r3
            obtain ⟨fp2, E2, S2⟩ := put_val E1.ok S1 hl.1 r1
            obtain ⟨fp3, E3, S3⟩ := put_val E2.ok S2 (by rw [List.length_set]; exact hl.2) r2
            exact ⟨_, _, rfl, q _ _ _ _ ((E1.trans E2).trans E3) S3 ((pin_set hpi).trans (pin_set hpj))⟩
      · exact nomatch hf

/-! ### lists of one's own -/
theorem own_lst (k : Ok H G fp) (sl : Slots c H G σ s fp) {i : Nat} {xs : List D} (h : s[i]? = some (.lst xs)) :
    ∃ p vs f2, σ[i]? = some (some (.ref p)) ∧ H p = some (.lst vs) ∧ Reps c.K G vs xs ∧ fp.Perm (p :: f2) ∧
      ∀ vs' xs', Reps c.K G vs' xs' → ∃ fp', Ev H G fp (upd H p (.lst vs')) G fp' ∧ Slots c (upd H p (.lst vs')) G σ (s.set i (.lst xs')) fp' := by
  obtain ⟨v, f1, f2, h1, h2, hp, hk⟩ := sl.split h (by simp)
  cases h2 with
  | @lst p vs _ hv r =>
    have gp : G p = none := k.own p (hp.mem_iff.mpr (by simp))
    have nd := List.nodup_append.mp (hp.nodup_iff.mp k.nd)
    refine ⟨p, vs, f2, h1, hv, r, hp, fun vs' xs' r' => ?_⟩
    obtain ⟨fp', p', sl'⟩ := hk (upd H p (.lst vs')) G (.lst xs') [p] (.lst upd_same r') (fun a ha => upd_ne fun z => nd.2.2 p (by simp) a ha z.symm) (Same.refl _)
    have pp : fp'.Perm fp := p'.trans hp.symm
    refine ⟨fp', ⟨Same.refl _, fun b o hb => ?_, fun x h3 h4 => absurd h3 h4, fun a o ha hn => ?_, fun a ha => ?_, fun a ha => ⟨k.own a (pp.mem_iff.mp ha), .inl (pp.mem_iff.mp ha)⟩, pp.nodup_iff.mpr k.nd⟩, sl'⟩
    · rw [upd_ne (fun z => by rw [z, gp] at hb; cases hb)]; exact k.sub b o hb
    · rw [upd_ne (fun z => hn (by rw [z]; exact hp.mem_iff.mpr (by simp)))]; exact ha
    · by_cases z : a = p
      · subst z; rw [upd_same]; simp
      · rw [upd_ne z]; exact ha
/-- a slot is given a new list -/
theorem put_new {p : Addr} (k : Ok H G (p :: fp)) (sl : Slots c H G σ s fp) {i : Nat} {vs : List V} {xs : List D} (hi : i < s.length) (hv : H p = some (.lst vs)) (r : Reps c.K G vs xs) :
    ∃ fp', Ev H G (p :: fp) H G fp' ∧ Slots c H G (σ.set i (some (.ref p))) (s.set i (.lst xs)) fp' := by
  obtain ⟨f1, f2, hp, kk⟩ := sl.put hi
  obtain ⟨fp', p', sl'⟩ := kk H G (.ref p) (.lst xs) [p] (.lst hv r) (fun _ _ => rfl) (Same.refl _)
  refine ⟨fp', ?_, sl'⟩
  have q1 : (p :: fp).Perm (f1 ++ (p :: f2)) := (List.Perm.cons p hp).trans (List.perm_middle.symm)
  exact ((Ev.refl k).less q1).perm p'
theorem new_ok {i : Nat} (hp : i ∉ pins) (q : tS c pins (sNew i fa) Z σ H) : tAsg (tN c fa) (gName i) Z σ H := by
  obtain ⟨G, s, fp, fl, k, sl, hf, q⟩ := q
  unfold sNew at hf
  cases h1 : fa s with
  | none => rw [h1] at hf; exact nomatch hf
  | some p =>
    obtain ⟨xs, s1⟩ := p
    simp only [h1, Option.bind_some] at hf
    split at hf
    · rename_i hl
      cases hf
      refine ⟨G, s, fp, xs, s1, k, sl, h1, fun p vs H1 G1 fp1 E1 S1 hv r => ?_⟩
      obtain ⟨fp', E2, S2⟩ := put_new E1.ok S1 hl hv r
      exact q _ _ _ _ (E1.trans E2) S2 (pin_set hp)
    · exact nomatch hf
theorem sx_new (i : Nat) {x : Str} {pos' : Pos} (hN : X.N.Nodup) (he : PE X e (tN c fa)) (hp : i ∉ pins := by decide) (hi : X.N[i]? = some x := by rfl) (hx : Loc X.env.scope x := by first | exact Or.inl rfl | exact Or.inr rfl)
    (hs : swapsWith e (some (.Name x pos')) pos.line X.env = pure false := by rfl) (hf : X.fn x = true ∨ X.env.scope.names.lookup x = some .local := by first | exact .inl rfl | exact .inr rfl) :
    PS X (.Assign [.Name x pos'] e pos) (tS c pins (sNew i fa)) := PS_imp (ps_set hN hi hx he hs hf) fun D σ H q => new_ok hp q
/-- what is laid behind an evaluation, and is nobody else's -/
theorem Ev.newOwn (E : Ev H G fp H1 G1 fp1) (sl : Slots c H1 G1 σ s fp1) {p : Addr} {o : HO} (hp : H1 p = none) : Ev H G fp (upd H1 p o) G1 (p :: fp1) ∧ Slots c (upd H1 p o) G1 σ s fp1 := by
  have gr : Grow H1 G1 (upd H1 p o) G1 := Grow.hid E.sub hp
  have E2 := E.grow sl gr
  refine ⟨{ E2 with own := fun a ha => ?_, nd := ?_ }, sl.step gr⟩
  · rcases List.mem_cons.mp ha with rfl | ha
    · refine ⟨E.sub.free hp, .inr ?_⟩
      cases q : H a with
      | none => rfl
      | some u => exact absurd hp (E.live a (by rw [q]; simp))
    · exact E2.own a ha
  · exact List.nodup_cons.mpr ⟨fun z => sl.there p z hp, E2.nd⟩
theorem xn_lst {es : List Expr} (h : PA X es (tA c b1 fa)) : PE X (.List es pos) (tN c (nLst fa)) := PE_imp (pe_lst h) fun σ H Q ⟨G, s, fp, xs, s', k, sl, hf, q⟩ => by
  unfold nLst at hf
  cases h1 : fa s with
  | none => rw [h1] at hf; exact nomatch hf
  | some p =>
    obtain ⟨x, s1⟩ := p
    simp only [h1, Option.bind_some] at hf
    split at hf
    · rename_i hc
      cases hf
      refine ⟨G, s, fp, _, _, k, sl, h1, fun vs H1 G1 fp1 E1 S1 r1 p1 => ⟨by rw [r1.length]; exact Nat.le_trans hc cap_line, fun p hp => ?_⟩⟩
      obtain ⟨E2, S2⟩ := E1.newOwn (o := .lst vs) S1 hp
      exact q p vs _ _ _ E2 S2 upd_same r1
    · exact nomatch hf
theorem sx_app (i : Nat) {x : Str} {p1 apos cpos : Pos} {line : Pos} (he : PE X e (tE c b1 f)) (hN : X.N[i]? = some x := by rfl) (hv : Vis X.env.scope x := by first | exact Or.inl rfl | exact Or.inr (Or.inl rfl)) (hK : X.K = c.K := by rfl)
    (hd : (x == ("__debug__" : Str)) = false := by decide) (hcd : (x == ("__classdict__" : Str)) = false := by decide)
    (hbase : attributeBase (.Name x p1) "append" X.env (eval (.Name x p1) X.env) = eval (.Name x p1) X.env := by rfl)
    (hfew : ((backTo cpos (starEach [e] X.env)).all (fun x => !x.1) && (backToKw cpos (keywordEach [] X.env)).all (fun x => x.1.isSome)
      && decide ([e].length + ([] : List Keyword).length + (if ([] : List Keyword).isEmpty then 0 else 1) < 30)) = true := by rfl)
    (hline : (apos.endLine == cpos.line) = true := by rfl) (hs : starEach [e] X.env = (false, eval e X.env) :: starEach [] X.env := by rfl) (hplain : (backTo cpos (starEach [] X.env)).any (·.1) = false := by rfl)
    (hsw : swapsWith (.Call (.Attribute (.Name x p1) "append" apos) [e] [] cpos) none line.line X.env = pure false := by rfl) :
    PS X (.Expr (.Call (.Attribute (.Name x p1) "append" apos) [e] [] cpos) line) (tS c pins (sApp i f)) :=
  PS_imp (ps_expr (pe_bm PySem.F.plainAttrs_list PySem.F.slot_list_append PySem.F.type_list_append mt_append (pe_var hN hv hd hcd) (pa_cons he pa_nil hs) hbase hfew hline hs hplain) hsw) fun Z σ H ⟨G, s, fp, fl, k, sl, hf, q⟩ => by
    unfold sApp at hf
    split at hf
    · rename_i ys hy
      cases h1 : f s with
      | none => rw [h1] at hf; exact nomatch hf
      | some pp =>
        obtain ⟨d, s1⟩ := pp
        simp only [h1, Option.bind_some] at hf
        split at hf
        · rename_i xs hx
          split at hf
          · rename_i hl
            cases hf
            obtain ⟨p, vs, _, hσ, hv, _, _, _⟩ := own_lst k sl hy
            refine ⟨_, hσ, .inl ⟨rfl, _, SqL.of hv⟩, G, s, fp, d, s1, k, sl, h1, fun v H1 G1 fp1 E1 S1 r1 _ => ?_⟩
            obtain ⟨p', vs', f2, hσ', hv', r', _, kk⟩ := own_lst E1.ok S1 hx
            rw [hσ] at hσ'
            cases hσ'
            obtain ⟨fp', E2, S2⟩ := kk (vs' ++ [v]) (xs ++ [d]) (r'.append (Reps.one r1))
            exact ⟨_, _, _, rfl, rfl, hv', by rw [r'.length]; exact Nat.lt_trans hl cap_lt, q σ _ G1 fp' (E1.trans E2) S2 PinEq.refl⟩
          · exact nomatch hf
        · exact nomatch hf
    · exact nomatch hf
end
end DL
/-! DL 5: what is walked; for, while, comprehensions; calls of defs. -/
namespace DL
open PySem PySem.Spec PyProof.Rows L2 RZ

/-- the iterator yields these things, in order -/
def Yields (c : Cc) (J : It) (xs : List D) (G0 : Hp) : Prop := ∀ (i : Nat) (H G : Hp), Same G0 G → Same G H →
  (∀ d, xs[i]? = some d → J.go i H ∧ ∀ x H', J.yld i H x H' → ∃ G', Grow H G H' G' ∧ Rep c.K G' x d) ∧ (xs.length ≤ i → J.stop i H)
def tI (c : Cc) (b : Bool) (fi : AF) : TI := fun σ H R => ∃ G s fp xs s', Ok H G fp ∧ Slots c H G σ s fp ∧ fi s = some (xs, s') ∧
  ∀ J H' G' fp', Ev H G fp H' G' fp' → Slots c H' G' σ s' fp' → Yields c J xs G' → Pure b H G s fp H' G' s' fp' → R J H'
theorem PI_imp {X : Cx} {tg e : Expr} {t t' : TI} (h : PI X tg e t) (k : ∀ σ H Q, t' σ H Q → t σ H Q) : PI X tg e t' := ⟨fun pins s σ H Q I q => h.run pins s σ H Q I (k σ H Q q)⟩

def items : D → Option (List D)
  | .tup xs => some xs
  | .lst xs => some xs
  | .str x => some (x.cps.toList.map fun k => .str ⟨#[k]⟩)
  | _ => none
def iSeq (f : EF) : AF := fun s => (f s).bind fun p => (items p.1).map fun xs => (xs, p.2)
def rangeD (lo : Int) (n : Nat) : List D := (List.range n).map fun (i : Nat) => .int (lo + (i : Int))
def bigI : Int := 1000000000
def iRng1 (fa : AF) : AF := fun s => (fa s).bind fun p => match p.1 with
  | [.int n] => if -bigI ≤ n ∧ n ≤ bigI then some (rangeD 0 n.toNat, p.2) else none
  | _ => none
def iRng2 (fa : AF) : AF := fun s => (fa s).bind fun p => match p.1 with
  | [.int m, .int n] => if -bigI ≤ m ∧ m ≤ bigI ∧ -bigI ≤ n ∧ n ≤ bigI then some (rangeD m (n - m).toNat, p.2) else none
  | _ => none
def zipD : List D → List D → List D
  | x :: xs, y :: ys => .tup [x, y] :: zipD xs ys
  | _, _ => []
def iZip (fa : AF) : AF := fun s => (fa s).bind fun p => match p.1 with
  | [.lst xs, .lst ys] => some (zipD xs ys, p.2)
  | [.tup xs, .tup ys] => some (zipD xs ys, p.2)
  | _ => none

section
variable {c : Cc} {X : Cx} {pins : List Nat} {b1 b2 b3 : Bool} {f g h : EF} {t : BF} {fa fi : AF} {u v w : SF} {pos : Pos} {e tg : Expr} {st : Stmt} {rest : List Stmt}
variable {H H1 H2 G G1 G2 : Hp} {s s1 s2 : S} {fp fp1 fp2 : List Addr} {σ σ1 σ2 : L2.St} {Z : Ends}
theorem yl_list {a : Addr} {vs : List V} {xs : List D} (hq : SqL c.K G a vs) (r : Reps c.K G vs xs) : Yields c (Itl c.K a) xs G := fun i H G' e1 e2 => by
  have q : SqL c.K H a vs := Same.sqL e2 (Same.sqL e1 hq)
  refine ⟨fun d hd => ?_, fun hl => ⟨vs, q, by rw [r.length]; exact hl⟩⟩
  obtain ⟨v, hv, rv⟩ := r.get hd
  refine ⟨⟨vs, v, q, hv⟩, fun x H' y => ?_⟩
  obtain ⟨e, y⟩ := y
  subst e
  have e3 := y vs q
  rw [hv] at e3
  cases e3
  exact ⟨G', Grow.refl e2, rv.mono e1⟩
theorem yl_tup {a : Addr} {vs : List V} {xs : List D} (hq : SqT c.K G a vs) (r : Reps c.K G vs xs) : Yields c (Itt c.K a) xs G := fun i H G' e1 e2 => by
  have q : SqT c.K H a vs := Same.sqT e2 (Same.sqT e1 hq)
  refine ⟨fun d hd => ?_, fun hl => ⟨vs, q, by rw [r.length]; exact hl⟩⟩
  obtain ⟨v, hv, rv⟩ := r.get hd
  refine ⟨⟨vs, v, q, hv⟩, fun x H' y => ?_⟩
  obtain ⟨e, y⟩ := y
  subst e
  have e3 := y vs q
  rw [hv] at e3
  cases e3
  exact ⟨G', Grow.refl e2, rv.mono e1⟩
theorem yl_range {lo : Int} {n : Nat} : Yields c (Itr lo n) (rangeD lo n) G := fun i H G' e1 e2 => by
  refine ⟨fun d hd => ?_, fun hl => ?_⟩
  · unfold rangeD at hd
    rw [List.getElem?_map] at hd
    by_cases hi : i < n
    · rw [List.getElem?_range hi] at hd
      cases hd
      refine ⟨hi, fun x H' y => ?_⟩
      obtain ⟨e, y⟩ := y
      subst e y
      exact ⟨G', Grow.refl e2, .int _⟩
    · rw [List.getElem?_eq_none (by simpa using hi)] at hd
      exact nomatch hd
  · unfold rangeD at hl
    exact (by simpa using hl : n ≤ i)
theorem yl_str {x : Str} : Yields c (Its x) (x.cps.toList.map fun k => .str ⟨#[k]⟩) G := fun i H G' e1 e2 => by
  refine ⟨fun d hd => ?_, fun hl => (by simpa using hl : x.cps.size ≤ i)⟩
  rw [List.getElem?_map] at hd
  cases q : x.cps.toList[i]? with
  | none => rw [q] at hd; exact nomatch hd
  | some k =>
    rw [q] at hd
    cases hd
    have q2 : x.cps[i]? = some k := by simpa using q
    refine ⟨(Array.getElem?_eq_some_iff.mp q2).1, fun v H' y => ?_⟩
    obtain ⟨e, k', hk, hv⟩ := y
    subst e hv
    rw [q2] at hk
    cases hk
    exact ⟨G', Grow.refl e2, .str _⟩
theorem zipD_get : ∀ (xs ys : List D) (i : Nat) (d : D), (zipD xs ys)[i]? = some d → ∃ x y, xs[i]? = some x ∧ ys[i]? = some y ∧ d = .tup [x, y]
  | [], ys, i, d, h => by cases ys <;> simp [zipD] at h
  | x :: xs, [], i, d, h => by simp [zipD] at h
  | x :: xs, y :: ys, 0, d, h => by simp [zipD] at h; exact ⟨x, y, rfl, rfl, h.symm⟩
  | x :: xs, y :: ys, i + 1, d, h => by
    have h' : (zipD xs ys)[i]? = some d := by simpa [zipD] using h
    obtain ⟨a, b, e1, e2, e3⟩ := zipD_get xs ys i d h'
    exact ⟨a, b, by simpa using e1, by simpa using e2, e3⟩
theorem zipD_len : ∀ (xs ys : List D), (zipD xs ys).length = min xs.length ys.length
  | [], ys => by cases ys <;> simp [zipD]
  | x :: xs, [] => by simp [zipD]
  | x :: xs, y :: ys => by
    simp only [zipD, List.length_cons, zipD_len xs ys]
    omega
theorem yl_zipL {a b : Addr} {vs ws : List V} {xs ys : List D} (hq : SqL c.K G a vs) (r : Reps c.K G vs xs) (hq2 : SqL c.K G b ws) (r2 : Reps c.K G ws ys) : Yields c (Itz c.K a b) (zipD xs ys) G := fun i H G' e1 e2 => by
  have q : SqL c.K H a vs := Same.sqL e2 (Same.sqL e1 hq)
  have q2 : SqL c.K H b ws := Same.sqL e2 (Same.sqL e1 hq2)
  refine ⟨fun d hd => ?_, fun hl => ⟨vs, ws, q, q2, ?_⟩⟩
  · obtain ⟨x, y, h1, h2, rfl⟩ := zipD_get xs ys i d hd
    obtain ⟨v, hv, rv⟩ := r.get h1
    obtain ⟨w, hw, rw'⟩ := r2.get h2
    refine ⟨⟨vs, ws, v, w, q, q2, hv, hw⟩, fun x0 H' y0 => ?_⟩
    obtain ⟨T, x1, y1, rfl, hT, rfl, k1, k2⟩ := y0
    have e3 := k1 vs q
    have e4 := k2 ws q2
    rw [hv] at e3
    rw [hw] at e4
    cases e3
    cases e4
    have gr := Grow.alloc (o := .tup [v, w]) e2 hT
    exact ⟨_, gr, .tup (SqT.of upd_same) (.cons ((rv.mono e1).mono gr.gs) (.cons ((rw'.mono e1).mono gr.gs) .nil))⟩
  · rw [zipD_len] at hl
    rw [r.length, r2.length]
    omega
theorem yl_zipT {a b : Addr} {vs ws : List V} {xs ys : List D} (hq : SqT c.K G a vs) (r : Reps c.K G vs xs) (hq2 : SqT c.K G b ws) (r2 : Reps c.K G ws ys) : Yields c (ItzT c.K a b) (zipD xs ys) G := fun i H G' e1 e2 => by
  have q : SqT c.K H a vs := Same.sqT e2 (Same.sqT e1 hq)
  have q2 : SqT c.K H b ws := Same.sqT e2 (Same.sqT e1 hq2)
  refine ⟨fun d hd => ?_, fun hl => ⟨vs, ws, q, q2, ?_⟩⟩
  · obtain ⟨x, y, h1, h2, rfl⟩ := zipD_get xs ys i d hd
    obtain ⟨v, hv, rv⟩ := r.get h1
    obtain ⟨w, hw, rw'⟩ := r2.get h2
    refine ⟨⟨vs, ws, v, w, q, q2, hv, hw⟩, fun x0 H' y0 => ?_⟩
    obtain ⟨T, x1, y1, rfl, hT, rfl, k1, k2⟩ := y0
    have e3 := k1 vs q
    have e4 := k2 ws q2
    rw [hv] at e3
    rw [hw] at e4
    cases e3
    cases e4
    have gr := Grow.alloc (o := .tup [v, w]) e2 hT
    exact ⟨_, gr, .tup (SqT.of upd_same) (.cons ((rv.mono e1).mono gr.gs) (.cons ((rw'.mono e1).mono gr.gs) .nil))⟩
  · rw [zipD_len] at hl
    rw [r.length, r2.length]
    omega

theorem ix_seq' (he : PE X e (tE c b1 f)) (hK : X.K = c.K := by rfl) : PI X tg e (tI c b1 (iSeq f)) := by
  refine ⟨fun pins s σ H R I ⟨G, S, fp, xs, s', k, sl, hf, q⟩ => ?_⟩
  unfold iSeq at hf
  cases h1 : f S with
  | none => rw [h1] at hf; exact nomatch hf
  | some p =>
    obtain ⟨d, s1⟩ := p
    simp only [h1, Option.bind_some] at hf
    cases d with
    | tup ds =>
      cases hf
      refine (pi_tup he).run pins s σ H R I ⟨G, S, fp, _, _, k, sl, h1, fun v H1 G1 fp1 E1 S1 r1 p1 => ?_⟩
      cases r1 with
      | tup t1 r1 =>
        rw [hK]
        exact ⟨_, rfl, ⟨_, Same.sqT E1.sub t1⟩, q _ H1 G1 fp1 E1 S1 (yl_tup t1 r1) p1⟩
    | lst ds =>
      cases hf
      refine (pi_list he).run pins s σ H R I ⟨G, S, fp, _, _, k, sl, h1, fun v H1 G1 fp1 E1 S1 r1 p1 => ?_⟩
      cases r1 with
      | lst t1 r1 =>
        rw [hK]
        exact ⟨_, rfl, ⟨_, Same.sqL E1.sub t1⟩, q _ H1 G1 fp1 E1 S1 (yl_list t1 r1) p1⟩
    | str x =>
      cases hf
      refine (pi_str he).run pins s σ H R I ⟨G, S, fp, _, _, k, sl, h1, fun v H1 G1 fp1 E1 S1 r1 p1 => ?_⟩
      cases r1 with
      | str x => exact ⟨_, rfl, q _ H1 G1 fp1 E1 S1 yl_str p1⟩
    | _ => exact nomatch hf
theorem bigI_ok {n : Int} (h1 : -bigI ≤ n) (h2 : n ≤ bigI) : -(2 ^ 62) ≤ n ∧ n < 2 ^ 62 := by
  unfold bigI at h1 h2
  omega
theorem ix_range1 {a : Expr} {p pos : Pos} (ha : PA X [a] (tA c b1 fa)) (hm : X.mg "range" = none) (hg : Gl X "range" := by rfl) (hs : starEach [a] X.env = [(false, eval a X.env)] := by rfl) : PI X tg (.Call (.Name "range" p) [a] [] pos) (tI c b1 (iRng1 fa)) :=
  PI_imp (pi_range1 hg hm ha hs) fun σ H R ⟨G, S, fp, xs, s', k, sl, hf, q⟩ => by
    unfold iRng1 at hf
    cases h1 : fa S with
    | none => rw [h1] at hf; exact nomatch hf
    | some p =>
      obtain ⟨ds, s1⟩ := p
      simp only [h1, Option.bind_some] at hf
      split at hf
      · rename_i n
        split at hf
        · rename_i hn
          cases hf
          refine ⟨G, S, fp, _, _, k, sl, h1, fun vs H1 G1 fp1 E1 S1 r1 p1 => ?_⟩
          cases r1 with
          | cons r1 r2 =>
            cases r2
            obtain ⟨h3, h4⟩ := bigI_ok hn.1 hn.2
            exact ⟨n, by rw [r1.ints], h3, h4, q _ H1 G1 fp1 E1 S1 yl_range p1⟩
        · exact nomatch hf
      · exact nomatch hf
theorem ix_range2 {a b : Expr} {p pos : Pos} (ha : PA X [a, b] (tA c b1 fa)) (hm : X.mg "range" = none) (hg : Gl X "range" := by rfl) (hs : starEach [a, b] X.env = [(false, eval a X.env), (false, eval b X.env)] := by rfl) (hs2 : starEach [b] X.env = [(false, eval b X.env)] := by rfl) :
    PI X tg (.Call (.Name "range" p) [a, b] [] pos) (tI c b1 (iRng2 fa)) :=
  PI_imp (pi_range2 hg hm ha hs hs2) fun σ H R ⟨G, S, fp, xs, s', k, sl, hf, q⟩ => by
    unfold iRng2 at hf
    cases h1 : fa S with
    | none => rw [h1] at hf; exact nomatch hf
    | some p =>
      obtain ⟨ds, s1⟩ := p
      simp only [h1, Option.bind_some] at hf
      split at hf
      · rename_i m n
        split at hf
        · rename_i hn
          cases hf
          refine ⟨G, S, fp, _, _, k, sl, h1, fun vs H1 G1 fp1 E1 S1 r1 p1 => ?_⟩
          cases r1 with
          | cons r1 r2 =>
            cases r2 with
            | cons r2 r3 =>
              cases r3
              obtain ⟨h3, h4⟩ := bigI_ok hn.1 hn.2.1
              obtain ⟨h5, h6⟩ := bigI_ok hn.2.2.1 hn.2.2.2
              exact ⟨m, n, by rw [r1.ints, r2.ints], ⟨h3, h4, h5, h6⟩, q _ H1 G1 fp1 E1 S1 yl_range p1⟩
        · exact nomatch hf
      · exact nomatch hf
theorem ix_zip {a b : Expr} {p pos tpos : Pos} {elts : List Expr} {kk : Nat} (ha : PA X [a, b] (tA c b1 fa)) (hm : X.mg "zip" = none) (hK : X.K = c.K := by rfl) (hg : Gl X "zip" := by rfl) (hs : starEach [a, b] X.env = [(false, eval a X.env), (false, eval b X.env)] := by rfl) (hs2 : starEach [b] X.env = [(false, eval b X.env)] := by rfl) :
    PI X (.Tuple elts kk tpos) (.Call (.Name "zip" p) [a, b] [] pos) (tI c b1 (iZip fa)) :=
  PI_imp (pi_zipA hg hm ha (by rw [hs, hs2]) (by rw [hs2]; rfl)) fun σ H R ⟨G, S, fp, xs, s', k, sl, hf, q⟩ => by
    rw [hK]
    unfold iZip at hf
    cases h1 : fa S with
    | none => rw [h1] at hf; exact nomatch hf
    | some p =>
      obtain ⟨ds, s1⟩ := p
      simp only [h1, Option.bind_some] at hf
      split at hf
      · cases hf
        refine ⟨G, S, fp, _, _, k, sl, h1, fun vs H1 G1 fp1 E1 S1 r1 p1 => ?_⟩
        cases r1 with
        | cons r1 r2 =>
          cases r2 with
          | cons r2 r3 =>
            cases r3
            cases r1 with
            | lst t1 r1 =>
              cases r2 with
              | lst t2 r2 => exact ⟨_, _, _, _, rfl, .inl ⟨Same.sqL E1.sub t1, Same.sqL E1.sub t2, q _ H1 G1 fp1 E1 S1 (yl_zipL t1 r1 t2 r2) p1⟩⟩
      · cases hf
        refine ⟨G, S, fp, _, _, k, sl, h1, fun vs H1 G1 fp1 E1 S1 r1 p1 => ?_⟩
        cases r1 with
        | cons r1 r2 =>
          cases r2 with
          | cons r2 r3 =>
            cases r3
            cases r1 with
            | tup t1 r1 =>
              cases r2 with
              | tup t2 r2 => exact ⟨_, _, _, _, rfl, .inr ⟨Same.sqT E1.sub t1, Same.sqT E1.sub t2, q _ H1 G1 fp1 E1 S1 (yl_zipT t1 r1 t2 r2) p1⟩⟩
      · exact nomatch hf

/-! ### for -/
theorem sx_for {iter : Expr} {body : List Stmt} {gf : GF} (hi : PI X tg iter (tI c b1 fi)) (hg : PG X tg (tG c pins b2 gf)) (hb : PSs X body (tS c pins u)) (hp : PassesOwn (model X.prog X.w) X.A X.env X.xe := by exact PassesOwn.never) (hc : X.calm = true := by rfl)
    (hs : ∀ x, foldedSetIterable iter X.env x = pure x := by exact fun _ => rfl) : PS X (.For tg iter body [] pos) (tS c pins (sFor fi gf u)) := PS_imp (ps_for hp hc hi hg hb hs) fun Z σ H ⟨G, s, fp, fl, k, sl, hf, q⟩ => by
  unfold sFor at hf
  cases h1 : fi s with
  | none => rw [h1] at hf; exact nomatch hf
  | some p =>
    obtain ⟨xs, s1⟩ := p
    simp only [h1, Option.bind_some] at hf
    refine ⟨G, s, fp, xs, s1, k, sl, h1, fun J H1 G1 fp1 E1 S1 Y _ => ?_⟩
    refine ⟨fun i m σ' H' => m = xs.length - i ∧ i ≤ xs.length ∧ ∃ G' s' fp', Ev H1 G1 fp1 H' G' fp' ∧ Slots c H' G' σ' s' fp' ∧ PinEq pins σ σ' ∧ forD gf u (xs.drop i) s' = some fl,
      ⟨xs.length, by simp, Nat.zero_le _, G1, s1, fp1, Ev.refl E1.ok, S1, PinEq.refl, by simpa using hf⟩, ?_⟩
    rintro i m σ' H' ⟨rfl, hi, G', s', fp', E', S', p', hfor⟩
    obtain ⟨y1, y2⟩ := Y i H' G' E'.gs E'.sub
    by_cases hlt : i < xs.length
    · obtain ⟨go, yy⟩ := y1 xs[i] (List.getElem?_eq_getElem hlt)
      refine .inr ⟨go, fun σ'' H'' => ∃ G'' s'' fp'', Ev H1 G1 fp1 H'' G'' fp'' ∧ Slots c H'' G'' σ'' s'' fp'' ∧ PinEq pins σ σ'' ∧ forD gf u (xs.drop (i + 1)) s'' = some fl,
        fun σ'' H'' n => ⟨xs.length - (i + 1), by omega, rfl, hlt, n⟩, fun x H2 hy => ?_⟩
      obtain ⟨G2, gr, rx⟩ := yy x H2 hy
      rw [List.drop_eq_getElem_cons hlt] at hfor
      unfold forD at hfor
      cases h2 : gf xs[i] s' with
      | none => simp [h2] at hfor
      | some s3 =>
        simp only [h2, Option.bind_some] at hfor
        have E2 := E'.grow S' gr
        refine ⟨G2, s', fp', _, s3, E2.ok, S'.step gr, rx, h2, fun σ3 H3 G3 fp3 E3 S3 p3 _ => ?_⟩
        cases h4 : u s3 with
        | none => simp [h4] at hfor
        | some f4 =>
          simp only [h4, Option.bind_some] at hfor
          refine ⟨G3, s3, fp3, f4, E3.ok, S3, h4, ?_⟩
          have E23 := E2.trans E3
          cases f4 with
          | next s4 => exact fun σ4 H4 G4 fp4 E4 S4 p4 => ⟨G4, s4, fp4, E23.trans E4, S4, (p'.trans p3).trans p4, hfor⟩
          | cont s4 => exact fun σ4 H4 G4 fp4 E4 S4 p4 => ⟨G4, s4, fp4, E23.trans E4, S4, (p'.trans p3).trans p4, hfor⟩
          | brk s4 =>
            cases hfor
            exact fun σ4 H4 G4 fp4 E4 S4 p4 => q σ4 H4 G4 fp4 (E1.trans (E23.trans E4)) S4 ((p'.trans p3).trans p4)
          | ret d s4 =>
            cases hfor
            have q2 := PostS.ahead q (E1.trans E23) (p'.trans p3)
            cases d <;> exact q2
    · have e : i = xs.length := by omega
      subst e
      rw [List.drop_length] at hfor
      cases hfor
      exact .inl ⟨y2 (Nat.le_refl _), q σ' H' G' fp' (E1.trans E') S' p'⟩

/-! ### while -/
theorem sx_while {cd : Expr} {body : List Stmt} (hc : PT X cd (tT c b1 t)) (hb : PSs X body (tS c pins u)) (hp : PassesOwn (model X.prog X.w) X.A X.env X.xe := by exact PassesOwn.never) : PS X (.While cd body [] pos) (tS c pins (sWhile t u)) :=
  PS_imp (ps_while hp hc hb) fun Z σ H ⟨G, s, fp, fl, k, sl, hf, q⟩ => by
    obtain ⟨n, hn⟩ := sWhile_has hf
    refine ⟨fun m σ' H' => ∃ G' s' fp', Ev H G fp H' G' fp' ∧ Slots c H' G' σ' s' fp' ∧ PinEq pins σ σ' ∧ whileF t u m s' = some fl, ⟨n, G, s, fp, Ev.refl k, sl, PinEq.refl, hn⟩, ?_⟩
    rintro m σ' H' ⟨G', s', fp', E', S', p', hw⟩
    cases m with
    | zero => exact nomatch hw
    | succ m =>
      unfold whileF at hw
      cases h1 : t s' with
      | none => rw [h1] at hw; exact nomatch hw
      | some p =>
        obtain ⟨x, s1⟩ := p
        simp only [h1, Option.bind_some] at hw
        refine ⟨G', s', fp', x, s1, E'.ok, S', h1, fun H1 G1 fp1 E1 S1 _ => ?_⟩
        have E2 := E'.trans E1
        cases x with
        | false =>
          show if false = true then _ else _
          rw [if_neg Bool.false_ne_true]
          rw [if_neg Bool.false_ne_true] at hw
          cases hw
          exact q σ' H1 G1 fp1 E2 S1 p'
        | true =>
          show if true = true then _ else _
          rw [if_pos rfl]
          rw [if_pos rfl] at hw
          refine ⟨fun σ'' H'' => ∃ G'' s'' fp'', Ev H G fp H'' G'' fp'' ∧ Slots c H'' G'' σ'' s'' fp'' ∧ PinEq pins σ σ'' ∧ whileF t u m s'' = some fl, fun σ'' H'' n => ⟨m, Nat.lt_succ_self _, n⟩, ?_⟩
          cases h4 : u s1 with
          | none => simp [h4] at hw
          | some f4 =>
            simp only [h4, Option.bind_some] at hw
            refine ⟨G1, s1, fp1, f4, E1.ok, S1, h4, ?_⟩
            cases f4 with
            | next s4 => exact fun σ4 H4 G4 fp4 E4 S4 p4 => ⟨G4, s4, fp4, E2.trans E4, S4, p'.trans p4, hw⟩
            | cont s4 => exact fun σ4 H4 G4 fp4 E4 S4 p4 => ⟨G4, s4, fp4, E2.trans E4, S4, p'.trans p4, hw⟩
            | brk s4 =>
              cases hw
              exact fun σ4 H4 G4 fp4 E4 S4 p4 => q σ4 H4 G4 fp4 (E2.trans E4) S4 (p'.trans p4)
            | ret d s4 =>
              cases hw
              have q2 := PostS.ahead q E2 p'
              cases d <;> exact q2

/-! ### calls of defs on plain data -/
def spP (c : Cc) (m : List D → Option D) : Sp := fun vs H Q _ => ∃ G ds r, Same G H ∧ Reps c.K G vs ds ∧ m ds = some r ∧ ∀ v H' G', Grow H G H' G' → Rep c.K G' v r → Q v H'
theorem call_ok {m : List D → Option D} {E : XK} {Q : VK} (q : tE c b1 (eCall m fa) σ H Q) : tCall (spP c m) [] E (tA c b1 fa) σ H Q := by
  obtain ⟨G, s, fp, d, s', k, sl, hf, q⟩ := q
  unfold eCall at hf
  cases h1 : fa s with
  | none => rw [h1] at hf; exact nomatch hf
  | some p =>
    obtain ⟨ds, s1⟩ := p
    simp only [h1, Option.bind_some] at hf
    cases h2 : m ds with
    | none => simp [h2] at hf
    | some z =>
      simp only [h2, Option.map_some, Option.some.injEq, Prod.mk.injEq] at hf
      obtain ⟨rfl, rfl⟩ := hf
      refine ⟨G, s, fp, ds, s1, k, sl, h1, fun vs H1 G1 fp1 E1 S1 r1 p1 => ⟨G1, ds, z, E1.sub, by rw [List.append_nil]; exact r1, h2, fun v H' G' gr r => q v H' G' fp1 (E1.grow S1 gr) (S1.step gr) r (p1.grow gr)⟩⟩
section
variable {kl : Nat} {fA : Addr} {fd : FuncData} {ps : List Str} {x : Str} {p : Pos} {es : List Expr} {m : List D → Option D}
theorem ex_call (F : FnOk X.prog X.w X.K X.mg X.base CX0 kl fA fd ps (spP c m)) (hr : Room kl X.A) (hm : X.mg x = some (.ref fA)) (hk : PySem.W.keepIn X.K (.ref fA) = true) (hb : Binds X.K fd ps []) (ha : PA X (e :: es) (tA c b1 fa)) (hg : Gl X x := by rfl)
    (hdb : (x == ("__debug__" : Str)) = false := by decide) (he : starEach (e :: es) X.env = (false, eval e X.env) :: starEach es X.env := by rfl) (hpl : (backTo pos (starEach es X.env)).any (·.1) = false := by rfl) :
    PE X (.Call (.Name x p) (e :: es) [] pos) (tE c b1 (eCall m fa)) := PE_imp (pe_call (E := E0) F hr hg hm hk hb .nil pass0 ha hdb he hpl) fun _ _ _ q => call_ok q
theorem ex_call0 (F : FnOk X.prog X.w X.K X.mg X.base CX0 kl fA fd ps (spP c m)) (hr : Room kl X.A) (hm : X.mg x = some (.ref fA)) (hk : PySem.W.keepIn X.K (.ref fA) = true) (hb : Binds X.K fd ps []) (hg : Gl X x := by rfl)
    (hdb : (x == ("__debug__" : Str)) = false := by decide) : PE X (.Call (.Name x p) [] [] pos) (tE c true (eCall m aNil)) := PE_imp (pe_call0 (E := E0) F hr hg hm hk hb .nil pass0 hdb) fun σ H Q q => by
  obtain ⟨G, s, fp, d, s', k, sl, hf, q⟩ := q
  unfold eCall aNil at hf
  simp only [Option.bind_some] at hf
  cases h2 : m [] with
  | none => simp [h2] at hf
  | some z =>
    simp only [h2, Option.map_some, Option.some.injEq, Prod.mk.injEq] at hf
    obtain ⟨rfl, rfl⟩ := hf
    exact ⟨G, [], z, k.sub, .nil, h2, fun v H' G' gr r => q v H' G' fp ((Ev.refl k).grow sl gr) (sl.step gr) r (Pure.grow (Pure.here k.sub) gr)⟩
end

/-! ### a def -/
/-- a def's function, from its body's -/
def runP (np n : Nat) (fb : SF) (ds : List D) : Option D := if ds.length = np then (fb (ds.map O.val ++ List.replicate (n - np) O.un)).bind fun fl => match fl with
    | .ret (.d d) _ => some d
    | .next _ => some .non
    | _ => none
  else none
theorem slots_start {vs : List V} {ds : List D} (r : Reps c.K G vs ds) (n : Nat) : Slots c H G (vs.map some ++ List.replicate n none) (ds.map O.val ++ List.replicate n O.un) [] := by
  have un : ∀ n, Slots c H G (List.replicate n none) (List.replicate n O.un) [] := fun n => by
    induction n with
    | zero => exact .nil
    | succ n ih => exact .un ih
  induction ds generalizing vs with
  | nil => cases r; exact un n
  | cons d ds ih =>
    cases r with
    | cons r1 r2 => simpa using Slots.cons (.val r1) (ih r2)
variable {P : Program} {wd : World} {K : PySem.W.Frag} {mg : Str → Option Value} {base : Heap}
theorem fn_pure {x qual : Str} {sd : Stmt} {fA : Addr} {fd : FuncData} {N ps : List Str} {kl : Nat} (np n : Nat) (m : List D → Option D) (fb : SF) (hm : m = runP np n fb) (F : Fun K x qual sd fA fd) (Sc : FnScope N ps (defScope sd)) (hK : K = c.K) (e1 : ps.length = np) (e2 : N.length = n)
    (body : ∀ (cdv : Value) (A : Around) (outer : List Env) (s : Shared) (H : Hp) (E : XK), Room kl (A.deeper (envOfC qual (defScope sd) s.heap.objs.size fA cdv)) →
      PSs (cxOf CX0 P wd K mg base N qual (defScope sd) fA cdv A outer s H E).nox (defBody sd) (tS c [] fb)) : FnOk P wd K mg base CX0 (kl + 1) fA fd ps (spP c m) := by
  subst hm e1 e2
  refine F.ok Sc (fun vs H Q E h => ?_) fun cdv A outer s H vs Q E hr h => ⟨_, body cdv A outer s H E hr, ?_⟩
  · obtain ⟨G, ds, r, _, hr, hm, _⟩ := h
    rw [hr.length]
    unfold runP at hm
    split at hm
    · assumption
    · exact nomatch hm
  · obtain ⟨G, ds, r, e, hr, hm, q⟩ := h
    unfold runP at hm
    split at hm
    · rename_i hl
      cases h1 : fb (ds.map O.val ++ List.replicate (N.length - ps.length) O.un) with
      | none => rw [h1] at hm; exact nomatch hm
      | some fl =>
        simp only [h1, Option.bind_some] at hm
        refine ⟨G, _, [], fl, ⟨e, fun a ha => by simp at ha, List.nodup_nil⟩, ?_, h1, ?_⟩
        · unfold L2.start
          rw [hr.length, hl]
          exact slots_start hr _
        · cases fl with
          | ret d s' =>
            cases d with
            | d d =>
              cases hm
              exact fun v σ' H' G' fp' E1 S1 p1 r1 => q v H' G' E1.pure r1
            | n xs => exact nomatch hm
          | next s' =>
            cases hm
            exact fun σ' H' G' fp' E1 S1 p1 => q .non H' G' E1.pure .non
          | _ => exact nomatch hm
    · exact nomatch hm
/-- a def that hands back a new list -/
def runN (np n : Nat) (fb : SF) (ds : List D) : Option (List D) := if ds.length = np then (fb (ds.map O.val ++ List.replicate (n - np) O.un)).bind fun fl => match fl with
    | .ret (.n xs) _ => some xs
    | _ => none
  else none
def spN (c : Cc) (m : List D → Option (List D)) : Sp := fun vs H Q _ => ∃ G ds r, Same G H ∧ Reps c.K G vs ds ∧ m ds = some r ∧ ∀ p us H' G', Ev H G [] H' G' [p] → H' p = some (.lst us) → Reps c.K G' us r → Q (.ref p) H'
theorem fn_new {x qual : Str} {sd : Stmt} {fA : Addr} {fd : FuncData} {N ps : List Str} {kl : Nat} (np n : Nat) (m : List D → Option (List D)) (fb : SF) (hm : m = runN np n fb) (F : Fun K x qual sd fA fd) (Sc : FnScope N ps (defScope sd)) (hK : K = c.K) (e1 : ps.length = np) (e2 : N.length = n)
    (body : ∀ (cdv : Value) (A : Around) (outer : List Env) (s : Shared) (H : Hp) (E : XK), Room kl (A.deeper (envOfC qual (defScope sd) s.heap.objs.size fA cdv)) →
      PSs (cxOf CX0 P wd K mg base N qual (defScope sd) fA cdv A outer s H E).nox (defBody sd) (tS c [] fb)) : FnOk P wd K mg base CX0 (kl + 1) fA fd ps (spN c m) := by
  subst hm e1 e2
  refine F.ok Sc (fun vs H Q E h => ?_) fun cdv A outer s H vs Q E hr h => ⟨_, body cdv A outer s H E hr, ?_⟩
  · obtain ⟨G, ds, r, _, hr, hm, _⟩ := h
    rw [hr.length]
    unfold runN at hm
    split at hm
    · assumption
    · exact nomatch hm
  · obtain ⟨G, ds, r, e, hr, hm, q⟩ := h
    unfold runN at hm
    split at hm
    · rename_i hl
      cases h1 : fb (ds.map O.val ++ List.replicate (N.length - ps.length) O.un) with
      | none => rw [h1] at hm; exact nomatch hm
      | some fl =>
        simp only [h1, Option.bind_some] at hm
        refine ⟨G, _, [], fl, ⟨e, fun a ha => by simp at ha, List.nodup_nil⟩, ?_, h1, ?_⟩
        · unfold L2.start
          rw [hr.length, hl]
          exact slots_start hr _
        · cases fl with
          | ret d s' =>
            cases d with
            | d d => exact nomatch hm
            | n xs =>
              cases hm
              exact fun p vs σ' H' G' fp' E1 S1 p1 hv r1 => q p vs H' G' (E1.less (f1 := fp') (f2 := [p]) ((List.perm_append_comm (l₁ := [p]) (l₂ := fp')))) hv r1
          | _ => exact nomatch hm
    · exact nomatch hm
def nCall (m : List D → Option (List D)) (fa : AF) : AF := fun s => (fa s).bind fun p => (m p.1).map fun z => (z, p.2)
theorem callN_ok {m : List D → Option (List D)} {E : XK} {Q : VK} (q : tN c (nCall m fa) σ H Q) : tCall (spN c m) [] E (tA c b1 fa) σ H Q := by
  obtain ⟨G, s, fp, d, s', k, sl, hf, q⟩ := q
  unfold nCall at hf
  cases h1 : fa s with
  | none => rw [h1] at hf; exact nomatch hf
  | some p =>
    obtain ⟨ds, s1⟩ := p
    simp only [h1, Option.bind_some] at hf
    cases h2 : m ds with
    | none => simp [h2] at hf
    | some z =>
      simp only [h2, Option.map_some, Option.some.injEq, Prod.mk.injEq] at hf
      obtain ⟨rfl, rfl⟩ := hf
      refine ⟨G, s, fp, ds, s1, k, sl, h1, fun vs H1 G1 fp1 E1 S1 r1 p1 => ⟨G1, ds, z, E1.sub, by rw [List.append_nil]; exact r1, h2, fun p us H' G' E' hv r => ?_⟩⟩
      have E2 := Ev.beside (f1 := []) (f2 := fp1) E1.ok (List.Perm.refl _) S1.there E'
      exact q p us H' G' fp1 (E1.trans E2) (S1.stay E'.gs fun a ha => by
        cases z : H1 a with
        | none => exact absurd z (S1.there a ha)
        | some o => exact E'.frame a o z (by simp)) hv r
section
variable {kl : Nat} {fA : Addr} {fd : FuncData} {ps : List Str} {x : Str} {p : Pos} {es : List Expr} {m : List D → Option (List D)}
theorem xn_call (F : FnOk X.prog X.w X.K X.mg X.base CX0 kl fA fd ps (spN c m)) (hr : Room kl X.A) (hm : X.mg x = some (.ref fA)) (hk : PySem.W.keepIn X.K (.ref fA) = true) (hb : Binds X.K fd ps []) (ha : PA X (e :: es) (tA c b1 fa)) (hg : Gl X x := by rfl)
    (hdb : (x == ("__debug__" : Str)) = false := by decide) (he : starEach (e :: es) X.env = (false, eval e X.env) :: starEach es X.env := by rfl) (hpl : (backTo pos (starEach es X.env)).any (·.1) = false := by rfl) :
    PE X (.Call (.Name x p) (e :: es) [] pos) (tN c (nCall m fa)) := PE_imp (pe_call (E := E0) F hr hg hm hk hb .nil pass0 ha hdb he hpl) fun _ _ _ q => callN_ok q
end
/-- a new list as plain data -/
def eOfN (fa : AF) : EF := fun s => (fa s).map fun p => (.lst p.1, p.2)
theorem ex_ofN (he : PE X e (tN c fa)) : PE X e (tE c false (eOfN fa)) := PE_imp he fun σ H Q ⟨G, s, fp, d, s', k, sl, hf, q⟩ => by
  unfold eOfN at hf
  cases h1 : fa s with
  | none => rw [h1] at hf; exact nomatch hf
  | some p =>
    obtain ⟨xs, s1⟩ := p
    simp only [h1, Option.map_some, Option.some.injEq, Prod.mk.injEq] at hf
    obtain ⟨rfl, rfl⟩ := hf
    refine ⟨G, s, fp, xs, s1, k, sl, h1, fun p vs H' G' fp' E' S' hv rr => ?_⟩
    have gp : G' p = none := (E'.own p List.mem_cons_self).1
    have hp := (E'.own p List.mem_cons_self).2
    have nd := List.nodup_cons.mp E'.nd
    have sg : Same G' (upd G' p (.lst vs)) := same_upd gp
    refine q (.ref p) H' (upd G' p (.lst vs)) fp' ⟨E'.gs.trans sg, fun b o hb => ?_, fun a h3 h4 => ?_, E'.frame, E'.live, fun a ha => ?_, nd.2⟩ (S'.stay sg fun _ _ => rfl) (.lst (SqL.of upd_same) (rr.mono sg)) fun z => nomatch z
    · by_cases z : b = p
      · subst z; rw [upd_same] at hb; rw [← hb]; exact hv
      · rw [upd_ne z] at hb; exact E'.sub b o hb
    · by_cases z : a = p
      · subst z; exact hp.symm
      · rw [upd_ne z] at h4; exact E'.fresh a h3 h4
    · obtain ⟨x1, x2⟩ := E'.own a (List.mem_cons_of_mem _ ha)
      exact ⟨by rw [upd_ne fun z => nd.1 (by rw [← z]; exact ha)]; exact x1, x2⟩
end
end DL
/-! DL 6: list comprehensions. -/
namespace DL
open PySem PySem.Spec PyProof.Rows L2

def wipeS (s : S) : List Nat → S
  | [] => s
  | v :: vs => (wipeS s vs).set v .un
def plainO : O → Bool
  | .un => true
  | .val _ => true
  | _ => false
def plainS (s : S) (own : List Nat) : Bool := own.all fun i => match s[i]? with
  | some o => plainO o
  | none => true
def restS (s0 sq : S) : List Nat → S
  | [] => sq
  | v :: vs => match s0[v]? with
    | some (.val d) => (restS s0 sq vs).set v (.val d)
    | _ => restS s0 sq vs
def lcD (g : GF) (ft : BF) (fe : EF) (own : List Nat) : List D → S → List D → Option (List D × S)
  | [], s, acc => some (acc, s)
  | x :: xs, s, acc => (g x s).bind fun s1 => (ft s1).bind fun p => if p.1 = true then (fe p.2).bind fun q => if acc.length < cap then lcD g ft fe own xs (wipeS q.2 own) (acc ++ [q.1]) else none
    else lcD g ft fe own xs (wipeS p.2 own) acc
def aLc (own : List Nat) (fi : AF) (g : GF) (ft : BF) (fe : EF) : AF := fun s => (fi s).bind fun p => if plainS p.2 own = true then (lcD g ft fe own p.1 (wipeS p.2 own) []).map fun q => (q.1, restS p.2 q.2 own) else none
def eLc (own : List Nat) (fi : AF) (g : GF) (ft : BF) (fe : EF) : EF := fun s => (aLc own fi g ft fe s).map fun p => (.lst p.1, p.2)
def bYes : BF := fun s => some (true, s)

section
variable {c : Cc} {H H' H1 H2 G G' G1 G2 : Hp} {s s0 s1 s2 : S} {fp fp' fp1 fp2 : List Addr} {σ τ : L2.St}
theorem wipeS_len (s : S) : ∀ vs : List Nat, (wipeS s vs).length = s.length
  | [] => rfl
  | v :: vs => by unfold wipeS; rw [List.length_set, wipeS_len s vs]
theorem wipeS_get (s : S) : ∀ (vs : List Nat) (j : Nat), (wipeS s vs)[j]? = if j ∈ vs ∧ j < s.length then some .un else s[j]?
  | [], j => by simp [wipeS]
  | v :: vs, j => by
    have ih := wipeS_get s vs j
    unfold wipeS
    by_cases hv : v = j
    · subst hv
      by_cases hl : v < s.length
      · rw [List.getElem?_set_self (by rw [wipeS_len]; exact hl)]
        simp [hl]
      · rw [List.getElem?_eq_none (by rw [List.length_set, wipeS_len]; omega)]
        simp [hl]
    · rw [List.getElem?_set_ne hv, ih]
      simp only [List.mem_cons]
      have : (j = v ∨ j ∈ vs) ↔ j ∈ vs := ⟨fun h => h.resolve_left fun e => hv e.symm, .inr⟩
      simp only [this]
theorem wipe_get (σ : L2.St) : ∀ (vs : List Nat) (j : Nat), (wipe σ vs)[j]? = if j ∈ vs ∧ j < σ.length then some none else σ[j]?
  | [], j => by simp [wipe]
  | v :: vs, j => by
    have ih := wipe_get σ vs j
    unfold wipe
    by_cases hv : v = j
    · subst hv
      by_cases hl : v < σ.length
      · rw [List.getElem?_set_self (by rw [wipe_length]; exact hl)]
        simp [hl]
      · rw [List.getElem?_eq_none (by rw [List.length_set, wipe_length]; omega)]
        simp [hl]
    · rw [List.getElem?_set_ne hv, ih]
      simp only [List.mem_cons]
      have : (j = v ∨ j ∈ vs) ↔ j ∈ vs := ⟨fun h => h.resolve_left fun e => hv e.symm, .inr⟩
      simp only [this]
theorem wipeS_idem (s : S) (vs : List Nat) : wipeS (wipeS s vs) vs = wipeS s vs := by
  apply List.ext_getElem?
  intro j
  rw [wipeS_get, wipeS_get, wipeS_len]
  split <;> rfl
theorem restS_get (s0 sq : S) : ∀ (vs : List Nat) (j : Nat), sq.length = s0.length → (restS s0 sq vs).length = s0.length ∧ (restS s0 sq vs)[j]? = if j ∈ vs then (match s0[j]? with | some (.val d) => some (.val d) | _ => sq[j]?) else sq[j]?
  | [], j, h => by simp [restS, h]
  | v :: vs, j, h => by
    obtain ⟨l, ih⟩ := restS_get s0 sq vs j h
    unfold restS
    by_cases hv : j = v
    · subst hv
      split
      · rename_i d e
        have hl : j < s0.length := (List.getElem?_eq_some_iff.mp e).1
        refine ⟨by rw [List.length_set, l], ?_⟩
        rw [List.getElem?_set_self (by rw [l]; exact hl)]
        simp [e]
      · rename_i e
        refine ⟨l, ?_⟩
        rw [ih]
        simp only [List.mem_cons, true_or, if_true]
        split <;> rfl
    · have hm : (j ∈ v :: vs) ↔ j ∈ vs := by simp [hv]
      split
      · rename_i d e
        refine ⟨by rw [List.length_set, l], ?_⟩
        rw [List.getElem?_set_ne (fun z => hv z.symm), ih]
        simp only [hm]
      · refine ⟨l, ?_⟩
        rw [ih]
        simp only [hm]
theorem rest_wipe {own : List Nat} (h : plainS s own = true) : restS s (wipeS s own) own = s := by
  apply List.ext_getElem?
  intro j
  rw [(restS_get s (wipeS s own) own j (wipeS_len s own)).2]
  split
  · rename_i hj
    split
    · rename_i d e; exact e.symm
    · rename_i e
      rw [wipeS_get]
      split
      · rename_i h2
        have h3 := List.all_eq_true.mp h j hj
        rw [List.getElem?_eq_getElem h2.2] at h3 e ⊢
        simp only at h3
        cases q : s[j] with
        | un => rfl
        | val d => exact absurd (by rw [q]) (e d)
        | lst xs => rw [q] at h3; exact nomatch h3
        | obj k fs => rw [q] at h3; exact nomatch h3
      · rfl
  · rename_i hj
    rw [wipeS_get, if_neg fun z => hj z.1]
theorem Slots.wipe1 : ∀ {σ : L2.St} {s : S} {fp : List Addr} {i : Nat} {x : Option V}, Slots c H G σ s fp → (∀ o, s[i]? = some o → plainO o = true) → Slots c H G (σ.set i x) (s.set i .un) fp
  | _, _, _, _, _, .nil, _ => .nil
  | _, _, _, 0, _, .un t, _ => .un t
  | _, _, _, i + 1, _, .un t, h => .un (Slots.wipe1 t fun o e => h o (by simpa using e))
  | _, _, _, 0, _, .cons (o := o) r t, h => by
    cases r with
    | val r => exact .un t
    | lst _ _ => exact nomatch h _ rfl
    | obj _ _ _ => exact nomatch h _ rfl
  | _, _, _, i + 1, _, .cons r t, h => .cons r (Slots.wipe1 t fun o e => h o (by simpa using e))
theorem Slots.wipes (sl : Slots c H G σ s fp) : ∀ {own : List Nat}, plainS s own = true → Slots c H G (wipe σ own) (wipeS s own) fp
  | [], _ => sl
  | v :: vs, h => by
    have h1 : plainS s vs = true := List.all_eq_true.mpr fun x hx => List.all_eq_true.mp h x (List.mem_cons_of_mem _ hx)
    refine Slots.wipe1 (Slots.wipes sl h1) fun o e => ?_
    rw [wipeS_get] at e
    split at e
    · cases e; rfl
    · have h3 := List.all_eq_true.mp h v List.mem_cons_self
      rw [e] at h3
      exact h3
/-- other values in the slots of which nothing is known -/
theorem Slots.other : ∀ {τ : L2.St} {s : S} {fp : List Addr} {σ : L2.St}, Slots c H G τ s fp → σ.length = τ.length → (∀ j : Nat, s[j]? = some O.un ∨ σ[j]? = τ[j]?) → Slots c H G σ s fp
  | _, _, _, [], .nil, _, _ => .nil
  | _, _, _, _ :: _, .nil, hl, _ => nomatch hl
  | _, _, _, [], .un _, hl, _ => nomatch hl
  | _, _, _, [], .cons _ _, hl, _ => nomatch hl
  | _, _, _, x :: σ, .un t, hl, h => .un (Slots.other t (by simpa using hl) fun j => by simpa using h (j + 1))
  | _, _, _, x :: σ, .cons (v := v) (o := o) r t, hl, h => by
    have e : x = some v := by
      rcases h 0 with z | z
      · simp at z
        subst z
        cases r
      · simpa using z
    subst e
    exact .cons r (Slots.other t (by simpa using hl) fun j => by simpa using h (j + 1))
theorem Slots.rest {sq : S} (s0l : Slots c H G σ s0 fp) (e : Same G G') (hsq : sq.length = s0.length) : ∀ {own : List Nat} {fq : List Addr}, own.Nodup → (∀ j ∈ own, j < s0.length → sq[j]? = some .un) → Slots c H' G' σ sq fq → ∃ fq', fq'.Perm fq ∧ Slots c H' G' σ (restS s0 sq own) fq'
  | [], fq, _, _, sl => ⟨fq, List.Perm.refl _, sl⟩
  | v :: vs, fq, nd, hu, sl => by
    obtain ⟨nv, nd'⟩ := List.nodup_cons.mp nd
    obtain ⟨fq', p', sl'⟩ := Slots.rest (own := vs) (fq := fq) s0l e hsq nd' (fun j hj => hu j (List.mem_cons_of_mem _ hj)) sl
    unfold restS
    split
    · rename_i d ed
      obtain ⟨u, f1, f2, h1, h2, _⟩ := s0l.split ed (by simp)
      cases h2 with
      | val r =>
        have hl : v < s0.length := (List.getElem?_eq_some_iff.mp ed).1
        have hun : (restS s0 sq vs)[v]? = some .un := by
          rw [(restS_get s0 sq vs v hsq).2, if_neg nv]
          exact hu v List.mem_cons_self hl
        obtain ⟨fp3, p3, sl3⟩ := Slots.back (.val (r.mono e)) sl' hun h1
        exact ⟨fp3, (by simpa using p3 : fp3.Perm fq').trans p', sl3⟩
    · exact ⟨fq', p', sl'⟩
theorem Ev.side {Dl : Addr} {o : HO} (E : Ev H G fp H' G' fp') (h : H Dl = some o) (hf : Dl ∉ fp) (hg : G Dl = none) : H' Dl = some o ∧ Dl ∉ fp' ∧ G' Dl = none := by
  refine ⟨E.frame _ _ h hf, fun z => ?_, ?_⟩
  · rcases (E.own _ z).2 with y | y
    · exact hf y
    · rw [h] at y; cases y
  · cases q : G' Dl with
    | none => rfl
    | some o' =>
      rcases E.fresh _ hg (by rw [q]; simp) with y | y
      · rw [h] at y; cases y
      · exact absurd y hf
theorem Ev.updSide {Dl : Addr} {o : HO} (E : Ev H G fp H' G' fp') (h : H Dl = none) (hg : G' Dl = none) : Ev H G fp (upd H' Dl o) G' fp' :=
  { E with
    sub := fun b u hb => by
      rw [upd_ne fun z => by rw [z, hg] at hb; cases hb]
      exact E.sub b u hb
    frame := fun a u ha hn => by
      rw [upd_ne fun z => by rw [z, h] at ha; cases ha]
      exact E.frame a u ha hn
    live := fun a ha => by
      by_cases z : a = Dl
      · rw [z, upd_same]; simp
      · rw [upd_ne z]; exact E.live a ha }
theorem Grow.updSide {Dl : Addr} {o : HO} (E : Grow H G H' G') (h : H Dl = none) (hg : G' Dl = none) : Grow H G (upd H' Dl o) G' :=
  { E with
    hs := fun a u ha => by
      rw [upd_ne fun z => by rw [z, h] at ha; cases ha]
      exact E.hs a u ha
    sub := fun b u hb => by
      rw [upd_ne fun z => by rw [z, hg] at hb; cases hb]
      exact E.sub b u hb }
end

theorem PTs_imp {X : Cx} {ifs : List Expr} {t t' : TT} (h : PTs X ifs t) (k : ∀ σ H Q, t' σ H Q → t σ H Q) : PTs X ifs t' := ⟨fun pins s σ H Q I q => h.run pins s σ H Q I (k σ H Q q)⟩
section
variable {c : Cc} {X : Cx} {b1 b2 b3 : Bool} {fe : EF} {ft : BF} {fi : AF} {gf : GF} {pos : Pos} {elt tg iter : Expr} {ifs : List Expr} {scope : Scope} {own : List (Str × Nat)} {pins' : List Nat}
variable {H H1 G G1 : Hp} {s s1 : S} {fp fp1 : List Addr} {σ : L2.St}
theorem xts_nil : PTs X [] (tT c true bYes) := PTs_imp pts_nil fun σ H Q ⟨G, s, fp, d, s', k, sl, hf, q⟩ => by
  cases hf
  exact q H G fp (Ev.refl k) sl (Pure.here k.sub)
theorem xts_one {cd : Expr} (h : PT X cd (tT c b1 ft)) : PTs X [cd] (tT c b1 ft) := pts_one h
def GOwn (gf : GF) (own : List Nat) : Prop := ∀ d s s', gf d s = some s' → wipeS s' own = wipeS s own
theorem gown_set {own : List Nat} {i : Nat} (hi : i ∈ own) (s : S) (o : O) : wipeS (s.set i o) own = wipeS s own := by
  apply List.ext_getElem?
  intro j
  rw [wipeS_get, wipeS_get, List.length_set]
  split
  · rfl
  · rename_i hj
    by_cases hji : i = j
    · subst hji
      have hl : ¬ i < s.length := fun z => hj ⟨hi, z⟩
      rw [List.getElem?_eq_none (by rw [List.length_set]; omega), List.getElem?_eq_none (by omega)]
    · rw [List.getElem?_set_ne hji]
theorem gown_name {own : List Nat} {i : Nat} (hi : i ∈ own := by decide) : GOwn (gN i) own := fun d s s' h => by
  unfold gN at h
  split at h
  · cases h; exact gown_set hi s _
  · exact nomatch h
def GsOwn (gs : List D → S → Option S) (own : List Nat) : Prop := ∀ d s s', gs d s = some s' → wipeS s' own = wipeS s own
theorem gown_nil {own : List Nat} : GsOwn gsNil own := fun d s s' h => by
  cases d with
  | nil => cases h; rfl
  | cons _ _ => exact nomatch h
theorem gown_cons {own : List Nat} {g : GF} {gs : List D → S → Option S} (h1 : GOwn g own) (h2 : GsOwn gs own) : GsOwn (gsCons g gs) own := fun d s s' h => by
  cases d with
  | nil => exact nomatch h
  | cons x xs =>
    simp only [gsCons] at h
    cases e : g x s with
    | none => simp [e] at h
    | some s1 =>
      simp only [e, Option.bind_some] at h
      rw [h2 _ _ _ h, h1 _ _ _ e]
theorem gown_tup {own : List Nat} {gs : List D → S → Option S} (h : GsOwn gs own) : GOwn (gTup gs) own := fun d s s' e => by
  cases d with
  | tup xs => exact h xs s s' e
  | _ => exact nomatch e
theorem wipe_of_pins {own : List Nat} {n : Nat} {σ σ' : L2.St} (hl : σ.length = n) (hp : ∀ i < n, i ∉ own → i ∈ pins') (p : PinEq pins' (wipe σ own) σ') : wipe σ' own = wipe σ own := by
  have l : σ'.length = σ.length := p.1.trans (wipe_length σ own)
  apply List.ext_getElem?
  intro j
  rw [wipe_get, wipe_get, l]
  split
  · rfl
  · rename_i hj
    by_cases hjl : j < n
    · have hjo : j ∉ own := fun z => hj ⟨z, by omega⟩
      rw [p.2 j (hp j hjl hjo), wipe_get, if_neg fun z => hjo z.1]
    · rw [List.getElem?_eq_none (by omega), List.getElem?_eq_none (by omega)]

/-- the heart: the new list, hidden, and what is to be done with it at the end -/
theorem lc_ok (n : Nat) (hn : σ.length = n) (hp : ∀ i < n, i ∉ own.map (·.2) → i ∈ pins') (ho : GOwn gf (own.map (·.2))) (hnd : (own.map (·.2)).Nodup) {Q : VK} (b : Bool) (hb : b = (b1 && (b2 && b3)))
    (q : ∃ G s fp xs s', Ok H G fp ∧ Slots c H G σ s fp ∧ aLc (own.map (·.2)) fi gf ft fe s = some (xs, s') ∧ ∀ Dl vs H' G' fp', H Dl = none → G' Dl = none → Dl ∉ fp' → Ev H G fp H' G' fp' → Slots c H' G' σ s' fp' → H' Dl = some (.lst vs) → Reps c.K G' vs xs → Pure b H G s fp H' G' s' fp' → Q (.ref Dl) H') :
    tLc (tI c b1 fi) (tG c pins' true gf) (tT c b2 ft) (tE c b3 fe) (own.map (·.2)) σ H Q := by
  obtain ⟨G, s, fp, xs, s', k, sl, hf, q⟩ := q
  unfold aLc at hf
  cases h1 : fi s with
  | none => rw [h1] at hf; exact nomatch hf
  | some p =>
    obtain ⟨ys, s1⟩ := p
    simp only [h1, Option.bind_some] at hf
    split at hf
    · rename_i hpl
      cases h2 : lcD gf ft fe (own.map (·.2)) ys (wipeS s1 (own.map (·.2))) [] with
      | none => rw [h2] at hf; exact nomatch hf
      | some pq =>
        obtain ⟨accF, sF⟩ := pq
        simp only [h2, Option.map_some, Option.some.injEq, Prod.mk.injEq] at hf
        obtain ⟨rfl, rfl⟩ := hf
        refine ⟨G, s, fp, ys, s1, k, sl, h1, fun J H1 G1 fp1 E1 S1 Y pu1 Dl hDl => ?_⟩
        have gD1 : G1 Dl = none := E1.sub.free hDl
        have hDH : H Dl = none := by
          cases z : H Dl with
          | none => rfl
          | some o => exact absurd hDl (E1.live Dl (by rw [z]; simp))
        have gr0 : Grow H1 G1 (upd H1 Dl (.lst [])) G1 := Grow.hid E1.sub hDl
        have W1 : Slots c H1 G1 (wipe σ (own.map (·.2))) (wipeS s1 (own.map (·.2))) fp1 := S1.wipes hpl
        have ls1 : σ.length = s1.length := S1.length
        refine ⟨fun i m H' => m = ys.length - i ∧ i ≤ ys.length ∧ ∃ G' s' fp' vs acc, Ev H1 G1 fp1 H' G' fp' ∧ Slots c H' G' (wipe σ (own.map (·.2))) s' fp' ∧ wipeS s' (own.map (·.2)) = s' ∧ H' Dl = some (.lst vs) ∧ Dl ∉ fp' ∧ G' Dl = none ∧ Reps c.K G' vs acc ∧
          lcD gf ft fe (own.map (·.2)) (ys.drop i) s' acc = some (accF, sF) ∧ ((b2 && b3) = true → Grow H1 G1 H' G' ∧ s' = wipeS s1 (own.map (·.2))),
          ⟨ys.length, by simp, Nat.zero_le _, G1, _, fp1, [], [], gr0.ev E1.ok S1, W1.step gr0, wipeS_idem _ _, upd_same, fun z => absurd hDl (S1.there _ z), gD1, .nil, by simpa using h2, fun _ => ⟨gr0, rfl⟩⟩, ?_⟩
        rintro i m H' ⟨rfl, hi, G', s', fp', vs, acc, E', S', hw, hD, hDf, hDg, rr, hlc, pu⟩
        obtain ⟨y1, y2⟩ := Y i H' G' E'.gs E'.sub
        by_cases hlt : i < ys.length
        · obtain ⟨go, yy⟩ := y1 ys[i] (List.getElem?_eq_getElem hlt)
          refine .inr ⟨go, fun H'' => ∃ G'' s'' fp'' vs acc, Ev H1 G1 fp1 H'' G'' fp'' ∧ Slots c H'' G'' (wipe σ (own.map (·.2))) s'' fp'' ∧ wipeS s'' (own.map (·.2)) = s'' ∧ H'' Dl = some (.lst vs) ∧ Dl ∉ fp'' ∧ G'' Dl = none ∧ Reps c.K G'' vs acc ∧
            lcD gf ft fe (own.map (·.2)) (ys.drop (i + 1)) s'' acc = some (accF, sF) ∧ ((b2 && b3) = true → Grow H1 G1 H'' G'' ∧ s'' = wipeS s1 (own.map (·.2))), fun H'' nx => ⟨ys.length - (i + 1), by omega, rfl, hlt, nx⟩, fun x H2 hy => ?_⟩
          obtain ⟨G2, gr, rx⟩ := yy x H2 hy
          rw [List.drop_eq_getElem_cons hlt] at hlc
          unfold lcD at hlc
          cases h3 : gf ys[i] s' with
          | none => simp [h3] at hlc
          | some s3 =>
            simp only [h3, Option.bind_some] at hlc
            have E2 := E'.grow S' gr
            have S2 := S'.step gr
            have hD2 : H2 Dl = some (.lst vs) := gr.hs _ _ hD
            have hDg2 : G2 Dl = none := (gr.nw Dl (by rw [hD]; simp)).trans hDg
            refine ⟨G2, s', fp', _, s3, E2.ok, S2, rx, h3, fun σ3 H3 G3 fp3 E3 S3 p3 g3 => ⟨wipe_of_pins hn hp p3, ?_⟩⟩
            obtain ⟨hD3, hDf3, hDg3⟩ := E3.side hD2 hDf hDg2
            have hw3 : wipeS s3 (own.map (·.2)) = s' := (ho _ _ _ h3).trans hw
            have hwσ := wipe_of_pins hn hp p3
            cases h4 : ft s3 with
            | none => simp [h4] at hlc
            | some p4 =>
              obtain ⟨bb, s4⟩ := p4
              simp only [h4, Option.bind_some] at hlc
              refine ⟨G3, s3, fp3, bb, s4, E3.ok, S3, h4, fun H4 G4 fp4 E4 S4 pu4 => ?_⟩
              obtain ⟨hD4, hDf4, hDg4⟩ := E4.side hD3 hDf3 hDg3
              show if bb = true then _ else _
              -- the slots behind a turn
              have back : ∀ {H5 G5 : Hp} {s5 : S} {fp5 : List Addr}, Slots c H5 G5 σ3 s5 fp5 → ∃ f1 f2, fp5.Perm (f1 ++ f2) ∧ Slots c H5 G5 (wipe σ (own.map (·.2))) (wipeS s5 (own.map (·.2))) f2 := fun {H5 G5 s5 fp5} S5 => by
                have go : ∀ (vs : List Nat) {σ5 : L2.St} {s5 : S} {fp5 : List Addr}, Slots c H5 G5 σ5 s5 fp5 → ∃ f1 f2, fp5.Perm (f1 ++ f2) ∧ Slots c H5 G5 (wipe σ5 vs) (wipeS s5 vs) f2 := by
                  intro vs
                  induction vs with
                  | nil => intro σ5 s5 fp5 S5; exact ⟨[], fp5, List.Perm.refl _, S5⟩
                  | cons v vs ih =>
                    intro σ5 s5 fp5 S5
                    obtain ⟨f1, f2, p1, S6⟩ := ih S5
                    obtain ⟨g1, g2, p2, S7⟩ := S6.forget v none
                    refine ⟨f1 ++ g1, g2, ?_, S7⟩
                    rw [List.append_assoc]
                    exact p1.trans (List.Perm.append_left f1 p2)
                obtain ⟨f1, f2, p1, S6⟩ := go (own.map (·.2)) S5
                rw [hwσ] at S6
                exact ⟨f1, f2, p1, S6⟩
              have E14 : Ev H1 G1 fp1 H4 G4 fp4 := (E2.trans E3).trans E4
              cases bb with
              | true =>
                rw [if_pos rfl] at hlc ⊢
                cases h5 : fe s4 with
                | none => simp [h5] at hlc
                | some p5 =>
                  obtain ⟨dd, s5⟩ := p5
                  simp only [h5, Option.bind_some] at hlc
                  split at hlc
                  · rename_i hcap
                    refine ⟨G4, s4, fp4, dd, s5, E4.ok, S4, h5, fun yv H5 G5 fp5 E5 S5 r5 pu5 => ?_⟩
                    obtain ⟨hD5, hDf5, hDg5⟩ := E5.side hD4 hDf4 hDg4
                    obtain ⟨f1, f2, pf, S6⟩ := back S5
                    have E15 := (E14.trans E5).less pf
                    have hDf6 : Dl ∉ f2 := fun z => hDf5 (pf.mem_iff.mpr (List.mem_append_right _ z))
                    have rr5 : Reps c.K G5 vs acc := (((rr.mono gr.gs).mono E3.gs).mono E4.gs).mono E5.gs
                    refine ⟨vs, hD5, by rw [rr5.length]; exact Nat.lt_trans hcap cap_lt, G5, _, f2, vs ++ [yv], acc ++ [dd], E15.updSide hDl hDg5, ?_, wipeS_idem _ _, upd_same, hDf6, hDg5, rr5.append (Reps.one r5), hlc, fun hb23 => ?_⟩
                    · exact S6.stay (Same.refl _) fun a ha => upd_ne fun z => hDf6 (by rw [← z]; exact ha)
                    · obtain ⟨pg, ps⟩ := pu hb23
                      obtain ⟨hb2, hb3⟩ := Bool.and_eq_true_iff.mp hb23
                      obtain ⟨g4, e4⟩ := pu4 hb2
                      obtain ⟨g5, e5⟩ := pu5 hb3
                      refine ⟨((((pg.trans gr).trans (g3 rfl)).trans g4).trans g5).updSide hDl hDg5, ?_⟩
                      rw [e5, e4, hw3, ps]
                  · exact nomatch hlc
              | false =>
                rw [if_neg Bool.false_ne_true] at hlc ⊢
                obtain ⟨f1, f2, pf, S6⟩ := back S4
                refine ⟨G4, _, f2, vs, acc, E14.less pf, S6, wipeS_idem _ _, hD4, fun z => hDf4 (pf.mem_iff.mpr (List.mem_append_right _ z)), hDg4, ((rr.mono gr.gs).mono E3.gs).mono E4.gs, hlc, fun hb23 => ?_⟩
                obtain ⟨pg, ps⟩ := pu hb23
                obtain ⟨hb2, hb3⟩ := Bool.and_eq_true_iff.mp hb23
                obtain ⟨g4, e4⟩ := pu4 hb2
                refine ⟨((pg.trans gr).trans (g3 rfl)).trans g4, ?_⟩
                rw [e4, hw3, ps]
        · have e : i = ys.length := by omega
          subst e
          rw [List.drop_length] at hlc
          simp only [lcD, Option.some.injEq, Prod.mk.injEq] at hlc
          obtain ⟨rfl, rfl⟩ := hlc
          have lsF : s'.length = s1.length := by rw [← S'.length, wipe_length]; exact ls1
          have S8 : Slots c H' G' σ s' fp' := S'.other (wipe_length _ _).symm fun j => by
            rw [wipe_get]
            by_cases hj : j ∈ own.map (·.2) ∧ j < σ.length
            · left
              rw [← hw, wipeS_get, if_pos ⟨hj.1, by rw [lsF, ← ls1]; exact hj.2⟩]
            · right
              rw [if_neg hj]
          obtain ⟨fq, pq, S9⟩ := Slots.rest (own := own.map (·.2)) S1 E'.gs lsF hnd (fun j hj hl => by rw [← hw, wipeS_get, if_pos ⟨hj, by rw [lsF]; exact hl⟩]) S8
          refine .inl ⟨y2 (Nat.le_refl _), q Dl vs H' G' fq hDH hDg (fun z => hDf (pq.mem_iff.mp z)) ((E1.trans E').perm pq) S9 hD rr fun hbt => ?_⟩
          rw [hb] at hbt
          obtain ⟨hb1, hb23⟩ := Bool.and_eq_true_iff.mp hbt
          obtain ⟨g1, e1⟩ := pu1 hb1
          obtain ⟨g2, e2⟩ := pu hb23
          refine ⟨g1.trans g2, ?_⟩
          rw [e2, rest_wipe hpl, e1]
    · exact nomatch hf

theorem inv_len {X : Cx} {pins : List (Addr × Obj)} {σ : L2.St} {H : Hp} {s : Shared} (I : Inv X pins σ H s) : σ.length = X.N.length := I.len
theorem ex_lc (hN : X.N.Nodup) (hi : PI X tg iter (tI c b1 fi)) (ok : BlkOk X.N X.env.scope scope own) (hp : ∀ i < X.N.length, i ∉ own.map (·.2) → i ∈ pins') (ho : GOwn gf (own.map (·.2)))
    (hg : ∀ (s : Shared) (H : Hp) (C : Addr) (cl : List (Str × Addr)) (fp : List Addr), PG (X.blk s H scope (compEnvC scope cl C X.env) fp) tg (tG c pins' true gf)) (ht : ∀ (s : Shared) (H : Hp) (C : Addr) (cl : List (Str × Addr)) (fp : List Addr), PTs (X.blk s H scope (compEnvC scope cl C X.env) fp) ifs (tT c b2 ft))
    (he : ∀ (s : Shared) (H : Hp) (C : Addr) (cl : List (Str × Addr)) (fp : List Addr), PE (X.blk s H scope (compEnvC scope cl C X.env) fp) elt (tE c b3 fe)) (hnd : (own.map (·.2)).Nodup := by decide) (hc : X.calm = true := by rfl) (hs : ∀ x, foldedSetIterable iter X.env x = pure x := by exact fun _ => rfl) :
    PE X (.ListComp elt [⟨tg, iter, ifs, 0⟩] scope pos) (tE c (b1 && (b2 && b3)) (eLc (own.map (·.2)) fi gf ft fe)) := by
  refine ⟨fun pins s σ H Q I ⟨G, S, fp, d, s', k, sl, hf, q⟩ => (pe_lc hc hN hi ok hg ht he hs).run pins s σ H Q I (lc_ok X.N.length I.len hp ho hnd _ rfl ?_)⟩
  unfold eLc at hf
  cases h1 : aLc (own.map (·.2)) fi gf ft fe S with
  | none => rw [h1] at hf; exact nomatch hf
  | some p =>
    obtain ⟨xs, s1⟩ := p
    simp only [h1, Option.map_some, Option.some.injEq, Prod.mk.injEq] at hf
    obtain ⟨rfl, rfl⟩ := hf
    refine ⟨G, S, fp, xs, s1, k, sl, h1, fun Dl vs H' G' fp' hD hDg hDf E' S' hv rr pu => ?_⟩
    have sg : Same G' (upd G' Dl (.lst vs)) := same_upd hDg
    have sb : Same (upd G' Dl (.lst vs)) H' := fun b o hb => by
      by_cases z : b = Dl
      · subst z; rw [upd_same] at hb; cases hb; exact hv
      · rw [upd_ne z] at hb; exact E'.sub b o hb
    refine q (.ref Dl) H' (upd G' Dl (.lst vs)) fp' { E' with gs := E'.gs.trans sg, sub := sb, fresh := fun a h3 h4 => ?_, own := fun a ha => ?_ } (S'.stay sg fun _ _ => rfl) (.lst (SqL.of upd_same) (rr.mono sg)) fun hb => ?_
    · by_cases z : a = Dl
      · subst z; exact .inl hD
      · rw [upd_ne z] at h4; exact E'.fresh a h3 h4
    · obtain ⟨x1, x2⟩ := E'.own a ha
      exact ⟨by rw [upd_ne fun z => hDf (by rw [← z]; exact ha)]; exact x1, x2⟩
    · obtain ⟨g1, e1⟩ := pu hb
      exact ⟨⟨g1.hs, g1.gs.trans sg, sb, fun a ha => by rw [upd_ne fun z => ha (by rw [z]; exact hD)]; exact g1.nw a ha⟩, e1⟩
/-- y = [..] on one line, the list frozen -/
theorem sx_setLc (pins : List Nat) (i : Nat) {y : Str} {py spos : Pos} (hN : X.N.Nodup) (hi : PI X tg iter (tI c b1 fi)) (ok : BlkOk X.N X.env.scope scope own) (hp : ∀ i < X.N.length, i ∉ own.map (·.2) → i ∈ pins') (ho : GOwn gf (own.map (·.2)))
    (hg : ∀ (s : Shared) (H : Hp) (C : Addr) (cl : List (Str × Addr)) (fp : List Addr), PG (X.blk s H scope (compEnvC scope cl C X.env) fp) tg (tG c pins' true gf)) (ht : ∀ (s : Shared) (H : Hp) (C : Addr) (cl : List (Str × Addr)) (fp : List Addr), PTs (X.blk s H scope (compEnvC scope cl C X.env) fp) ifs (tT c b2 ft))
    (he : ∀ (s : Shared) (H : Hp) (C : Addr) (cl : List (Str × Addr)) (fp : List Addr), PE (X.blk s H scope (compEnvC scope cl C X.env) fp) elt (tE c b3 fe))
    (hsw : swapsWith (.ListComp elt [⟨tg, iter, ifs, 0⟩] scope pos) (some (.Name y py)) spos.line X.env = pure true) (hpi : i ∉ pins := by decide) (hy : X.N[i]? = some y := by rfl) (hyl : X.env.scope.names.lookup y = some .local := by rfl)
    (hnd : (own.map (·.2)).Nodup := by decide) (hc : X.calm = true := by rfl) (hs : ∀ x, foldedSetIterable iter X.env x = pure x := by exact fun _ => rfl) :
    PS X (.Assign [.Name y py] (.ListComp elt [⟨tg, iter, ifs, 0⟩] scope pos) spos) (tS c pins (sAsg (eLc (own.map (·.2)) fi gf ft fe) (gN i))) := by
  refine ⟨fun pins0 s σ H Z I q => (ps_setLc hc hN hy hyl hsw hi ok hg ht he hs).run pins0 s σ H Z I ?_⟩
  have q2 : tAsg (tE c (b1 && (b2 && b3)) (eLc (own.map (·.2)) fi gf ft fe)) (gName i) Z σ H := asg_ok (gName_ok hpi) q
  obtain ⟨G, S, fp, d, s', k, sl, hf, q⟩ := q2
  refine lc_ok X.N.length I.len hp ho hnd _ rfl ?_
  unfold eLc at hf
  cases h1 : aLc (own.map (·.2)) fi gf ft fe S with
  | none => rw [h1] at hf; exact nomatch hf
  | some p =>
    obtain ⟨xs, s1⟩ := p
    simp only [h1, Option.map_some, Option.some.injEq, Prod.mk.injEq] at hf
    obtain ⟨rfl, rfl⟩ := hf
    refine ⟨G, S, fp, xs, s1, k, sl, h1, fun Dl vs H' G' fp' hD hDg hDf E' S' hv rr pu => ?_⟩
    have sg : Same G' (upd G' Dl (.lst vs)) := same_upd hDg
    have sb : Same (upd G' Dl (.lst vs)) H' := fun b o hb => by
      by_cases z : b = Dl
      · subst z; rw [upd_same] at hb; cases hb; exact hv
      · rw [upd_ne z] at hb; exact E'.sub b o hb
    refine q (.ref Dl) H' (upd G' Dl (.lst vs)) fp' { E' with gs := E'.gs.trans sg, sub := sb, fresh := fun a h3 h4 => ?_, own := fun a ha => ?_ } (S'.stay sg fun _ _ => rfl) (.lst (SqL.of upd_same) (rr.mono sg)) fun hb => ?_
    · by_cases z : a = Dl
      · subst z; exact .inl hD
      · rw [upd_ne z] at h4; exact E'.fresh a h3 h4
    · obtain ⟨x1, x2⟩ := E'.own a ha
      exact ⟨by rw [upd_ne fun z => hDf (by rw [← z]; exact ha)]; exact x1, x2⟩
    · obtain ⟨g1, e1⟩ := pu hb
      exact ⟨⟨g1.hs, g1.gs.trans sg, sb, fun a ha => by rw [upd_ne fun z => ha (by rw [z]; exact hD)]; exact g1.nw a ha⟩, e1⟩
/-- y = [..] on one line, the list one's own -/
theorem sx_newLc (pins : List Nat) (i : Nat) {y : Str} {py spos : Pos} (hN : X.N.Nodup) (hi : PI X tg iter (tI c b1 fi)) (ok : BlkOk X.N X.env.scope scope own) (hp : ∀ i < X.N.length, i ∉ own.map (·.2) → i ∈ pins') (ho : GOwn gf (own.map (·.2)))
    (hg : ∀ (s : Shared) (H : Hp) (C : Addr) (cl : List (Str × Addr)) (fp : List Addr), PG (X.blk s H scope (compEnvC scope cl C X.env) fp) tg (tG c pins' true gf)) (ht : ∀ (s : Shared) (H : Hp) (C : Addr) (cl : List (Str × Addr)) (fp : List Addr), PTs (X.blk s H scope (compEnvC scope cl C X.env) fp) ifs (tT c b2 ft))
    (he : ∀ (s : Shared) (H : Hp) (C : Addr) (cl : List (Str × Addr)) (fp : List Addr), PE (X.blk s H scope (compEnvC scope cl C X.env) fp) elt (tE c b3 fe))
    (hsw : swapsWith (.ListComp elt [⟨tg, iter, ifs, 0⟩] scope pos) (some (.Name y py)) spos.line X.env = pure true) (hpi : i ∉ pins := by decide) (hy : X.N[i]? = some y := by rfl) (hyl : X.env.scope.names.lookup y = some .local := by rfl)
    (hnd : (own.map (·.2)).Nodup := by decide) (hc : X.calm = true := by rfl) (hs : ∀ x, foldedSetIterable iter X.env x = pure x := by exact fun _ => rfl) :
    PS X (.Assign [.Name y py] (.ListComp elt [⟨tg, iter, ifs, 0⟩] scope pos) spos) (tS c pins (sNew i (aLc (own.map (·.2)) fi gf ft fe))) := by
  refine ⟨fun pins0 s σ H Z I q => (ps_setLc hc hN hy hyl hsw hi ok hg ht he hs).run pins0 s σ H Z I ?_⟩
  have q2 : tAsg (tN c (aLc (own.map (·.2)) fi gf ft fe)) (gName i) Z σ H := new_ok hpi q
  obtain ⟨G, S, fp, xs, s', k, sl, hf, q⟩ := q2
  refine lc_ok X.N.length I.len hp ho hnd _ rfl ⟨G, S, fp, xs, s', k, sl, hf, fun Dl vs H' G' fp' hD hDg hDf E' S' hv rr pu => ?_⟩
  refine q Dl vs H' G' fp' { E' with own := fun a ha => ?_, nd := List.nodup_cons.mpr ⟨hDf, E'.nd⟩ } S' hv rr
  rcases List.mem_cons.mp ha with rfl | ha
  · exact ⟨hDg, .inr hD⟩
  · exact E'.own a ha
end
end DL
/-! DL 7: built-in functions, methods of texts and lists, borrowing, lent arguments. -/
namespace DL
open PySem PySem.Spec PyProof.Rows L2

def CallS (c : Cc) (r : List V → Hp → VK → Prop) (op : List D → Option D) : Prop :=
  ∀ ⦃H G : Hp⦄ ⦃vs : List V⦄ ⦃ds : List D⦄ ⦃z : D⦄ (Q : VK), Same G H → Reps c.K G vs ds → op ds = some z → (∀ v H' G', Grow H G H' G' → Rep c.K G' v z → Q v H') → r vs H Q
def MtS (c : Cc) (r : V → List V → Hp → VK → Prop) (op : D → D → Option D) : Prop :=
  ∀ ⦃H G : Hp⦄ ⦃x y : V⦄ ⦃dx dy z : D⦄ (Q : VK), Same G H → Rep c.K G x dx → Rep c.K G y dy → op dx dy = some z → (∀ v H' G', Grow H G H' G' → Rep c.K G' v z → Q v H') → r x [y] H Q

def bAbs : List D → Option D
  | [.int i] => some (.int (if i < 0 then -i else i))
  | _ => none
def bLen : List D → Option D
  | [.str x] => if x.length ≤ cap then some (.int x.length) else none
  | [.tup xs] => some (.int xs.length)
  | [.lst xs] => some (.int xs.length)
  | _ => none
def bDivmod : List D → Option D
  | [.int i, .int j] => if 0 < j ∧ j < 1073741824 then some (.tup [.int (i / j), .int (i % j)]) else none
  | _ => none
def bStr : List D → Option D
  | [.int i] => if i.natAbs.log2 < 1920 then some (.str (toString i)) else none
  | _ => none
def bInt : List D → Option D
  | [.str a] => if a.length ≤ 640 then (PySem.intText? a).map .int else none
  | [.int i] => some (.int i)
  | [.bl k] => some (.int (if k then 1 else 0))
  | _ => none
def boolsD : List D → Option (List Bool)
  | [] => some []
  | .bl b :: r => (boolsD r).map (b :: ·)
  | _ => none
def intsD : List D → Option (List Int)
  | [] => some []
  | .int b :: r => (intsD r).map (b :: ·)
  | _ => none
def strsD : List D → Option (List Str)
  | [] => some []
  | .str b :: r => (strsD r).map (b :: ·)
  | _ => none
def bAll : List D → Option D
  | [.lst xs] => (boolsD xs).map fun bs => .bl (bs.all id)
  | _ => none
def bAny : List D → Option D
  | [.lst xs] => (boolsD xs).map fun bs => .bl (bs.any id)
  | _ => none
def bSum : List D → Option D
  | [.lst xs] => (intsD xs).map fun bs => .int bs.sum
  | _ => none
def bTuple : List D → Option D
  | [.lst xs] => some (.tup xs)
  | [.tup xs] => some (.tup xs)
  | _ => none
def bList : List D → Option D
  | [.lst xs] => some (.lst xs)
  | [.tup xs] => some (.lst xs)
  | _ => none
def bMax : List D → Option D
  | [.int i, .int j] => some (.int (if j > i then j else i))
  | _ => none
def bMin : List D → Option D
  | [.int i, .int j] => some (.int (if j < i then j else i))
  | _ => none
def dPart : D → D → Option D
  | .str a, .str b => if (b.length == 0) = false ∧ a.length ≤ cap then some (.tup [.str (Txt.partition a b).1, .str (Txt.partition a b).2.1, .str (Txt.partition a b).2.2]) else none
  | _, _ => none
def dJoin : D → D → Option D
  | .str a, .lst xs => (strsD xs).bind fun ys => if (ys.map (·.length)).sum + ys.length * a.length ≤ cap then some (.str (Txt.join a ys)) else none
  | _, _ => none
def dSplit : D → D → Option D
  | .str a, .str b => if (b.length == 0) = false ∧ a.length + 2 ≤ cap then some (.lst ((Txt.split a b).map .str)) else none
  | _, _ => none
def dCountB : D → D → Option D
  | .lst xs, .bl k => (boolsD xs).map fun bs => .int (bs.count k : Nat)
  | _, _ => none
def dInS : D → D → Option D
  | .str x, .str z => match x.cps.toList with
    | [k] => some (.bl (decide (k ∈ z.cps.toList)))
    | _ => none
  | _, _ => none
/-- xs + ys of two lists -/
def dCat : D → D → Option D
  | .lst xs, .lst ys => if xs.length + ys.length ≤ cap then some (.lst (xs ++ ys)) else none
  | _, _ => none
def isTy (T : String) : D → Option D
  | .non => some (.bl (T == "NoneType"))
  | .bl _ => some (.bl (T == "bool" || T == "int"))
  | .int _ => some (.bl (T == "int"))
  | .str _ => some (.bl (T == "str"))
  | .tup _ => some (.bl (T == "tuple"))
  | .lst _ => some (.bl (T == "list"))
  | .ref _ => none

section
variable {c : Cc} {X : Cx} {pins : List Nat} {b1 b2 b3 : Bool} {f g h : EF} {t : BF} {fa fi : AF} {pos : Pos} {e o : Expr} {es : List Expr}
variable {H H1 H2 G G1 G2 : Hp} {s s1 s2 : S} {fp fp1 fp2 : List Addr} {σ σ1 σ2 : L2.St} {Z : Ends}
theorem callS_ok {r : List V → Hp → VK → Prop} {op : List D → Option D} {Q : VK} (hr : CallS c r op) (q : tE c b1 (eCall op fa) σ H Q) : tCB r (tA c b1 fa) σ H Q := by
  obtain ⟨G, s, fp, d, s', k, sl, hf, q⟩ := q
  unfold eCall at hf
  cases h1 : fa s with
  | none => rw [h1] at hf; exact nomatch hf
  | some p =>
    obtain ⟨ds, s1⟩ := p
    simp only [h1, Option.bind_some] at hf
    cases h2 : op ds with
    | none => simp [h2] at hf
    | some z =>
      simp only [h2, Option.map_some, Option.some.injEq, Prod.mk.injEq] at hf
      obtain ⟨rfl, rfl⟩ := hf
      exact ⟨G, s, fp, ds, s1, k, sl, h1, fun vs H1 G1 fp1 E1 S1 r1 p1 => hr Q E1.sub r1 h2 fun v H' G' gr r => q v H' G' fp1 (E1.grow S1 gr) (S1.step gr) r (p1.grow gr)⟩
theorem ex_callB {id : String} {x : Str} {p : Pos} {r : List V → Hp → VK → Prop} {op : List D → Option D} (hc : CallR X (.builtin id) r) (hr : CallS c r op) (hm : X.mg x = none) (ha : PA X (e :: es) (tA c b1 fa)) (hv : bootBuiltins x = some (.builtin id) := by decide +kernel) (hg : Gl X x := by rfl) (hn : x ≠ "__name__" := by decide) (hdb : (x == ("__debug__" : Str)) = false := by decide)
    (he : starEach (e :: es) X.env = (false, eval e X.env) :: starEach es X.env := by rfl) (hpl : (backTo pos (starEach es X.env)).any (·.1) = false := by rfl) : PE X (.Call (.Name x p) (e :: es) [] pos) (tE c b1 (eCall op fa)) :=
  PE_imp (pe_callB hc hg hm hv ha hn hdb he hpl) fun _ _ _ q => callS_ok hr q
theorem ex_callTy {T : String} {x : Str} {p : Pos} {r : List V → Hp → VK → Prop} {op : List D → Option D} (hc : CallR X (.type T) r) (hr : CallS c r op) (hm : X.mg x = none) (ha : PA X (e :: es) (tA c b1 fa)) (hv : bootBuiltins x = some (.type T) := by decide +kernel) (hg : Gl X x := by rfl) (hn : x ≠ "__name__" := by decide) (hdb : (x == ("__debug__" : Str)) = false := by decide)
    (he : starEach (e :: es) X.env = (false, eval e X.env) :: starEach es X.env := by rfl) (hpl : (backTo pos (starEach es X.env)).any (·.1) = false := by rfl) : PE X (.Call (.Name x p) (e :: es) [] pos) (tE c b1 (eCall op fa)) :=
  PE_imp (pe_callTy hc hg hm hv ha hn hdb he hpl) fun _ _ _ q => callS_ok hr q

theorem reps1 {K : PySem.W.Frag} {G : Hp} {vs : List V} {d : D} (r : Reps K G vs [d]) : ∃ v, vs = [v] ∧ Rep K G v d := by
  cases r with
  | cons r1 r2 => cases r2; exact ⟨_, rfl, r1⟩
theorem reps2 {K : PySem.W.Frag} {G : Hp} {vs : List V} {d d' : D} (r : Reps K G vs [d, d']) : ∃ v v', vs = [v, v'] ∧ Rep K G v d ∧ Rep K G v' d' := by
  cases r with
  | cons r1 r2 =>
    cases r2 with
    | cons r2 r3 => cases r3; exact ⟨_, _, rfl, r1, r2⟩
theorem cs_abs : CallS c (fun xs H Q => ∃ i, xs = [.int i] ∧ Q (.int (if i < 0 then -i else i)) H) bAbs := fun H G vs ds z Q e r hz q => by
  unfold bAbs at hz
  split at hz
  · cases hz
    obtain ⟨v, rfl, r1⟩ := reps1 r
    exact ⟨_, by rw [r1.ints], q _ _ _ (Grow.refl e) (.int _)⟩
  · exact nomatch hz
theorem cs_len : CallS c (fun xs H Q => ∃ x n, xs = [x] ∧ LenV c.K x H n ∧ Q (.int n) H) bLen := fun H G vs ds z Q e r hz q => by
  unfold bLen at hz
  split at hz
  · split at hz
    · rename_i hl
      cases hz
      obtain ⟨v, rfl, r1⟩ := reps1 r
      cases r1
      exact ⟨_, _, rfl, ⟨Nat.le_trans hl cap_line, rfl⟩, q _ _ _ (Grow.refl e) (.int _)⟩
    · exact nomatch hz
  · cases hz
    obtain ⟨v, rfl, r1⟩ := reps1 r
    cases r1 with
    | tup t1 r1 => exact ⟨_, _, rfl, .inr ⟨_, Same.sqT e t1, rfl⟩, q _ _ _ (Grow.refl e) (by rw [r1.length]; exact .int _)⟩
  · cases hz
    obtain ⟨v, rfl, r1⟩ := reps1 r
    cases r1 with
    | lst t1 r1 => exact ⟨_, _, rfl, .inl ⟨_, Same.sqL e t1, rfl⟩, q _ _ _ (Grow.refl e) (by rw [r1.length]; exact .int _)⟩
  · exact nomatch hz
theorem cs_divmod : CallS c (fun xs H Q => ∃ i j, xs = [.int i, .int j] ∧ CDiv i j ∧ ∀ p, H p = none → Q (.ref p) (upd H p (.tup [.int (i / j), .int (i % j)]))) bDivmod := fun H G vs ds z Q e r hz q => by
  unfold bDivmod at hz
  split at hz
  · split at hz
    · rename_i hc
      cases hz
      obtain ⟨v, v', rfl, r1, r2⟩ := reps2 r
      exact ⟨_, _, by rw [r1.ints, r2.ints], hc, fun p hp => q _ _ _ (Grow.alloc e hp) (.tup (SqT.of upd_same) (.cons (.int _) (.cons (.int _) .nil)))⟩
    · exact nomatch hz
  · exact nomatch hz
theorem cs_str : CallS c (fun xs H Q => ∃ i, xs = [.int i] ∧ i.natAbs.log2 < 1920 ∧ Q (.str (toString i)) H) bStr := fun H G vs ds z Q e r hz q => by
  unfold bStr at hz
  split at hz
  · split at hz
    · rename_i hc
      cases hz
      obtain ⟨v, rfl, r1⟩ := reps1 r
      exact ⟨_, by rw [r1.ints], hc, q _ _ _ (Grow.refl e) (.str _)⟩
    · exact nomatch hz
  · exact nomatch hz
def rIntA : List V → Hp → VK → Prop := fun xs H Q => (∃ a n, xs = [.str a] ∧ PySem.intText? a = some n ∧ a.length ≤ 640 ∧ Q (.int n) H) ∨ ((∃ i, xs = [.int i] ∧ Q (.int i) H) ∨ ∃ k, xs = [.bl k] ∧ Q (.int (if k then 1 else 0)) H)
theorem CallR.or {f : Value} {r r' : List V → Hp → VK → Prop} (h : CallR X f r) (h' : CallR X f r') : CallR X f (fun xs H Q => r xs H Q ∨ r' xs H Q) := by
  intro pins s σ H xs us Q I rx q
  rcases q with q | q
  · exact h pins s σ H xs us Q I rx q
  · exact h' pins s σ H xs us Q I rx q
theorem call_intA : CallR X (.type "int") rIntA := CallR.or call_int_str call_int1
theorem cs_int : CallS c rIntA bInt := fun H G vs ds z Q e r hz q => by
  unfold bInt at hz
  split at hz
  · split at hz
    · rename_i a hc
      obtain ⟨v, rfl, r1⟩ := reps1 r
      cases r1
      cases hn : PySem.intText? a with
      | none => rw [hn] at hz; exact nomatch hz
      | some n =>
        rw [hn] at hz
        cases hz
        exact .inl ⟨_, _, rfl, hn, hc, q _ _ _ (Grow.refl e) (.int _)⟩
    · exact nomatch hz
  · cases hz
    obtain ⟨v, rfl, r1⟩ := reps1 r
    exact .inr (.inl ⟨_, by rw [r1.ints], q _ _ _ (Grow.refl e) (.int _)⟩)
  · cases hz
    obtain ⟨v, rfl, r1⟩ := reps1 r
    cases r1
    exact .inr (.inr ⟨_, rfl, q _ _ _ (Grow.refl e) (.int _)⟩)
  · exact nomatch hz
theorem bools_rep {K : PySem.W.Frag} {G : Hp} : ∀ {vs : List V} {xs : List D} {bs : List Bool}, Reps K G vs xs → boolsD xs = some bs → vs = bs.map V.bl
  | _, _, _, .nil, h => by cases h; rfl
  | _, _, bs, .cons (d := d) (ds := ds) r t, h => by
    cases d <;> simp only [boolsD] at h <;> try contradiction
    cases e : boolsD ds with
    | none => rw [e] at h; exact nomatch h
    | some b2 =>
      rw [e] at h
      cases h
      cases r
      rw [bools_rep t e]
      rfl
theorem ints_rep {K : PySem.W.Frag} {G : Hp} : ∀ {vs : List V} {xs : List D} {bs : List Int}, Reps K G vs xs → intsD xs = some bs → vs = bs.map V.int
  | _, _, _, .nil, h => by cases h; rfl
  | _, _, bs, .cons (d := d) (ds := ds) r t, h => by
    cases d <;> simp only [intsD] at h <;> try contradiction
    cases e : intsD ds with
    | none => rw [e] at h; exact nomatch h
    | some b2 =>
      rw [e] at h
      cases h
      cases r
      rw [ints_rep t e]
      rfl
theorem strs_rep {K : PySem.W.Frag} {G : Hp} : ∀ {vs : List V} {xs : List D} {bs : List Str}, Reps K G vs xs → strsD xs = some bs → vs = bs.map V.str
  | _, _, _, .nil, h => by cases h; rfl
  | _, _, bs, .cons (d := d) (ds := ds) r t, h => by
    cases d <;> simp only [strsD] at h <;> try contradiction
    cases e : strsD ds with
    | none => rw [e] at h; exact nomatch h
    | some b2 =>
      rw [e] at h
      cases h
      cases r
      rw [strs_rep t e]
      rfl
theorem cs_all : CallS c (rAll c.K) bAll := fun H G vs ds z Q e r hz q => by
  unfold bAll at hz
  split at hz
  · rename_i xs
    cases hb : boolsD xs with
    | none => rw [hb] at hz; exact nomatch hz
    | some bs =>
      rw [hb] at hz
      cases hz
      obtain ⟨v, rfl, r1⟩ := reps1 r
      cases r1 with
      | lst t1 r1 => exact ⟨_, bs, rfl, by rw [← bools_rep r1 hb]; exact Same.sqL e t1, q _ _ _ (Grow.refl e) (.bl _)⟩
  · exact nomatch hz
theorem cs_any : CallS c (rAny c.K) bAny := fun H G vs ds z Q e r hz q => by
  unfold bAny at hz
  split at hz
  · rename_i xs
    cases hb : boolsD xs with
    | none => rw [hb] at hz; exact nomatch hz
    | some bs =>
      rw [hb] at hz
      cases hz
      obtain ⟨v, rfl, r1⟩ := reps1 r
      cases r1 with
      | lst t1 r1 => exact ⟨_, bs, rfl, by rw [← bools_rep r1 hb]; exact Same.sqL e t1, q _ _ _ (Grow.refl e) (.bl _)⟩
  · exact nomatch hz
theorem cs_sum : CallS c (rSum c.K) bSum := fun H G vs ds z Q e r hz q => by
  unfold bSum at hz
  split at hz
  · rename_i xs
    cases hb : intsD xs with
    | none => rw [hb] at hz; exact nomatch hz
    | some bs =>
      rw [hb] at hz
      cases hz
      obtain ⟨v, rfl, r1⟩ := reps1 r
      cases r1 with
      | lst t1 r1 => exact ⟨_, bs, rfl, by rw [← ints_rep r1 hb]; exact Same.sqL e t1, q _ _ _ (Grow.refl e) (.int _)⟩
  · exact nomatch hz
theorem cs_tuple : CallS c (fun xs H Q => ∃ p ys, xs = [.ref p] ∧ ((SqL c.K H p ys ∧ ∀ l, H l = none → Q (.ref l) (upd H l (.tup ys))) ∨ (SqT c.K H p ys ∧ Q (.ref p) H))) bTuple := fun H G vs ds z Q e r hz q => by
  unfold bTuple at hz
  split at hz
  · cases hz
    obtain ⟨v, rfl, r1⟩ := reps1 r
    cases r1 with
    | lst t1 r1 => exact ⟨_, _, rfl, .inl ⟨Same.sqL e t1, fun l hl => q _ _ _ (Grow.alloc e hl) (.tup (SqT.of upd_same) (r1.mono (same_upd (e.free hl))))⟩⟩
  · cases hz
    obtain ⟨v, rfl, r1⟩ := reps1 r
    cases r1 with
    | tup t1 r1 => exact ⟨_, _, rfl, .inr ⟨Same.sqT e t1, q _ _ _ (Grow.refl e) (.tup t1 r1)⟩⟩
  · exact nomatch hz
def rListOf (K : PySem.W.Frag) : List V → Hp → VK → Prop := fun xs H Q => ∃ p ys, xs = [.ref p] ∧ (SqL K H p ys ∨ SqT K H p ys) ∧ ∀ l, H l = none → Q (.ref l) (upd H l (.lst ys))
theorem cs_list : CallS c (rListOf c.K) bList := fun H G vs ds z Q e r hz q => by
  unfold bList at hz
  split at hz
  · cases hz
    obtain ⟨v, rfl, r1⟩ := reps1 r
    cases r1 with
    | lst t1 r1 => exact ⟨_, _, rfl, .inl (Same.sqL e t1), fun l hl => q _ _ _ (Grow.alloc e hl) (.lst (SqL.of upd_same) (r1.mono (same_upd (e.free hl))))⟩
  · cases hz
    obtain ⟨v, rfl, r1⟩ := reps1 r
    cases r1 with
    | tup t1 r1 => exact ⟨_, _, rfl, .inr (Same.sqT e t1), fun l hl => q _ _ _ (Grow.alloc e hl) (.lst (SqL.of upd_same) (r1.mono (same_upd (e.free hl))))⟩
  · exact nomatch hz
theorem cs_max : CallS c (fun xs H Q => ∃ i j, xs = [.int i, .int j] ∧ Q (.int (if j > i then j else i)) H) bMax := fun H G vs ds z Q e r hz q => by
  unfold bMax at hz
  split at hz
  · cases hz
    obtain ⟨v, v', rfl, r1, r2⟩ := reps2 r
    exact ⟨_, _, by rw [r1.ints, r2.ints], q _ _ _ (Grow.refl e) (.int _)⟩
  · exact nomatch hz
theorem cs_min : CallS c (fun xs H Q => ∃ i j, xs = [.int i, .int j] ∧ Q (.int (if j < i then j else i)) H) bMin := fun H G vs ds z Q e r hz q => by
  unfold bMin at hz
  split at hz
  · cases hz
    obtain ⟨v, v', rfl, r1, r2⟩ := reps2 r
    exact ⟨_, _, by rw [r1.ints, r2.ints], q _ _ _ (Grow.refl e) (.int _)⟩
  · exact nomatch hz
theorem Rep.ty {K : PySem.W.Frag} {G H : Hp} {v : V} {d z : D} {T : String} (e : Same G H) (r : Rep K G v d) (hT : T = "tuple" ∨ T = "list" ∨ T = "int" ∨ T = "bool" ∨ T = "str") (h : isTy T d = some z) : ∃ t b, TyX K H v t ∧ PySem.W.kitOne K t (.type T) = some b ∧ z = .bl b := by
  cases r with
  | non => cases h; rcases hT with rfl | rfl | rfl | rfl | rfl <;> exact ⟨_, _, .base .non, kit_ty (b := _) (r := false) (by decide +kernel), rfl⟩
  | bl b => cases h; rcases hT with rfl | rfl | rfl | rfl | rfl <;> first | exact ⟨_, _, .base (.bl b), kit_ty (r := false) (by decide +kernel), rfl⟩ | exact ⟨_, _, .base (.bl b), kit_ty (r := true) (by decide +kernel), rfl⟩
  | int i => cases h; rcases hT with rfl | rfl | rfl | rfl | rfl <;> first | exact ⟨_, _, .base (.int i), kit_ty (r := false) (by decide +kernel), rfl⟩ | exact ⟨_, _, .base (.int i), kit_ty (r := true) (by decide +kernel), rfl⟩
  | str x => cases h; rcases hT with rfl | rfl | rfl | rfl | rfl <;> first | exact ⟨_, _, .base (.str x), kit_ty (r := false) (by decide +kernel), rfl⟩ | exact ⟨_, _, .base (.str x), kit_ty (r := true) (by decide +kernel), rfl⟩
  | ref a => exact nomatch h
  | @tup a vs xs t1 r1 =>
    cases h
    have ht : TyX K H (.ref a) (.type "tuple") := by
      rcases Same.sqT e t1 with (h | ⟨o, h⟩) | ⟨o, its, n, hk, hc, _⟩
      · exact .base (.tup h)
      · exact .fTuple h
      · exact .kTuple hk hc
    rcases hT with rfl | rfl | rfl | rfl | rfl <;> first | exact ⟨_, _, ht, kit_ty (r := false) (by decide +kernel), rfl⟩ | exact ⟨_, _, ht, kit_ty (r := true) (by decide +kernel), rfl⟩
  | @lst a vs xs t1 r1 =>
    cases h
    have ht : TyX K H (.ref a) (.type "list") := by
      rcases Same.sqL e t1 with (h | ⟨o, h⟩) | ⟨o, its, n, hk, hc, _⟩
      · exact .base (.lst h)
      · exact .base (.frz h)
      · exact .kList hk hc
    rcases hT with rfl | rfl | rfl | rfl | rfl <;> first | exact ⟨_, _, ht, kit_ty (r := false) (by decide +kernel), rfl⟩ | exact ⟨_, _, ht, kit_ty (r := true) (by decide +kernel), rfl⟩
/-- isinstance(e, T), T a built-in class by its name -/
theorem ex_isi {T : String} {x2 : Str} {p p2 : Pos} (he : PE X e (tE c b1 f)) (hT : T = "tuple" ∨ T = "list" ∨ T = "int" ∨ T = "bool" ∨ T = "str") (hm : X.mg "isinstance" = none) (hm2 : X.mg x2 = none) (hv2 : bootBuiltins x2 = some (.type T)) (hK : X.K = c.K := by rfl) (hg : Gl X "isinstance" := by rfl) (hg2 : Gl X x2 := by rfl) (hn2 : x2 ≠ "__name__" := by decide) (hd2 : (x2 == ("__debug__" : Str)) = false := by decide)
    (hs : starEach [e, .Name x2 p2] X.env = (false, eval e X.env) :: starEach [.Name x2 p2] X.env := by rfl) (hs2 : starEach [.Name x2 p2] X.env = (false, eval (.Name x2 p2) X.env) :: starEach [] X.env := by rfl) (hpl : (backTo pos (starEach [.Name x2 p2] X.env)).any (·.1) = false := by rfl) :
    PE X (.Call (.Name "isinstance" p) [e, .Name x2 p2] [] pos) (tE c b1 (e1 (isTy T) f)) :=
  PE_imp (pe_callB call_isi hg hm (by decide +kernel) (pa_cons he (pa_cons (pe_bltn (v := .ty T) hg2 hm2 hv2 rfl hn2 hd2) pa_nil hs2) hs) (by decide) (by decide) hs hpl) fun σ H Q q => by
    rw [hK]
    have q2 := op1 (r := fun x H Q => ∃ t b, TyX c.K H x t ∧ PySem.W.kitOne c.K t (.type T) = some b ∧ Q (.bl b) H) (fun H G x dx dz Q e rx hz q => by
      obtain ⟨t, b, h1, h2, rfl⟩ := rx.ty e hT hz
      exact ⟨t, b, h1, h2, q _ _ _ (Grow.refl e) (.bl _)⟩) q
    obtain ⟨G, s, fp, d, s', k, sl, hf, q3⟩ := q2
    exact ⟨G, s, fp, d, s', k, sl, hf, fun v H1 G1 fp1 E1 S1 r1 p1 => by
      obtain ⟨t, b, h1, h2, h3⟩ := q3 v H1 G1 fp1 E1 S1 r1 p1
      exact ⟨v, .ty T, t, .type T, b, rfl, .ty T, h1, h2, h3⟩⟩
/-! ### methods -/
theorem ex_m1 {id : String} {name : Str} {apos : Pos} {r : V → List V → Hp → VK → Prop} {op : D → D → Option D} (slot : Slot "str" name id) (ty : typeOf (.builtin id) = pure (.type "method_descriptor")) (rule : MtR X id r) (hr : MtS c r op) (hst : ∀ dx dy z, op dx dy = some z → ∃ a, dx = .str a) (ho : PE X o (tE c b1 f)) (he : PE X e (tE c b2 g))
    (hs : starEach [e] X.env = [(false, eval e X.env)] := by rfl) (hbase : attributeBase o name X.env (eval o X.env) = eval o X.env := by rfl) (hline : (apos.endLine == pos.line) = true := by rfl) :
    PE X (.Call (.Attribute o name apos) [e] [] pos) (tE c (b1 && b2) (e2 op f g)) := PE_imp (pe_m1 slot ty rule ho he hs hbase hline) fun σ H Q ⟨G, s, fp, d, s', k, sl, hf, q⟩ => by
  unfold e2 at hf
  cases h1 : f s with
  | none => rw [h1] at hf; exact nomatch hf
  | some p =>
    obtain ⟨x, s1⟩ := p
    simp only [h1, Option.bind_some] at hf
    cases h2 : g s1 with
    | none => simp [h2] at hf
    | some p2 =>
      obtain ⟨y, s2⟩ := p2
      simp only [h2, Option.bind_some] at hf
      cases h3 : op x y with
      | none => simp [h3] at hf
      | some z =>
        simp only [h3, Option.map_some, Option.some.injEq, Prod.mk.injEq] at hf
        obtain ⟨rfl, rfl⟩ := hf
        obtain ⟨a, rfl⟩ := hst _ _ _ h3
        exact ⟨G, s, fp, _, s1, k, sl, h1, fun v H1 G1 fp1 E1 S1 r1 p1 => ⟨by cases r1; exact ⟨_, rfl⟩, G1, s1, fp1, y, s2, E1.ok, S1, h2, fun u H2 G2 fp2 E2 S2 r2 p2 =>
          hr Q E2.sub (r1.mono E2.gs) r2 h3 fun v' H' G' gr r' => q v' H' G' fp2 ((E1.trans E2).grow S2 gr) (S2.step gr) r' ((p1.and p2).grow gr)⟩⟩
theorem ms_part : MtS c (fun x xs H Q => ∃ a b, x = .str a ∧ xs = [.str b] ∧ (b.length == 0) = false ∧ a.length ≤ sizeLine ∧
    ∀ p, H p = none → Q (.ref p) (upd H p (.tup [.str (Txt.partition a b).1, .str (Txt.partition a b).2.1, .str (Txt.partition a b).2.2]))) dPart := fun H G x y dx dy z Q e rx ry hz q => by
  cases dx <;> cases dy <;> simp only [dPart] at hz <;> try contradiction
  split at hz
  · rename_i hc
    cases hz
    cases rx
    cases ry
    exact ⟨_, _, rfl, rfl, hc.1, Nat.le_trans hc.2 cap_line, fun p hp => q _ _ _ (Grow.alloc e hp) (.tup (SqT.of upd_same) (.cons (.str _) (.cons (.str _) (.cons (.str _) .nil))))⟩
  · exact nomatch hz
theorem ex_partition {apos : Pos} (ho : PE X o (tE c b1 f)) (he : PE X e (tE c b2 g)) (hs : starEach [e] X.env = [(false, eval e X.env)] := by rfl) (hbase : attributeBase o "partition" X.env (eval o X.env) = eval o X.env := by rfl) (hline : (apos.endLine == pos.line) = true := by rfl) :
    PE X (.Call (.Attribute o "partition" apos) [e] [] pos) (tE c (b1 && b2) (e2 dPart f g)) := ex_m1 F.slot_str_partition F.type_str_partition mt_partition ms_part (fun dx dy z h => by cases dx <;> first | exact ⟨_, rfl⟩ | (cases dy <;> contradiction)) ho he hs hbase hline
def rJoin (K : PySem.W.Frag) : V → List V → Hp → VK → Prop := fun x xs H Q => ∃ a p, ∃ ys : List Str, x = .str a ∧ xs = [.ref p] ∧ (SqL K H p (ys.map V.str) ∨ SqT K H p (ys.map V.str)) ∧ (ys.map (·.length)).sum + ys.length * a.length ≤ 16777216 ∧ Q (.str (Txt.join a ys)) H
theorem ms_join : MtS c (rJoin c.K) dJoin := fun H G x y dx dy z Q e rx ry hz q => by
  cases dx <;> cases dy <;> simp only [dJoin] at hz <;> try contradiction
  rename_i a xs
  cases hb : strsD xs with
  | none => rw [hb] at hz; exact nomatch hz
  | some ys =>
    simp only [hb, Option.bind_some] at hz
    split at hz
    · rename_i hc
      cases hz
      cases rx
      cases ry with
      | lst t1 r1 => exact ⟨_, _, ys, rfl, rfl, .inl (by rw [← strs_rep r1 hb]; exact Same.sqL e t1), Nat.le_trans hc (by decide), q _ _ _ (Grow.refl e) (.str _)⟩
    · exact nomatch hz
theorem ex_join {apos : Pos} (ho : PE X o (tE c b1 f)) (he : PE X e (tE c b2 g)) (hK : X.K = c.K := by rfl) (hs : starEach [e] X.env = [(false, eval e X.env)] := by rfl) (hbase : attributeBase o "join" X.env (eval o X.env) = eval o X.env := by rfl) (hline : (apos.endLine == pos.line) = true := by rfl) :
    PE X (.Call (.Attribute o "join" apos) [e] [] pos) (tE c (b1 && b2) (e2 dJoin f g)) := ex_m1 (r := rJoin X.K) F.slot_str_join F.type_str_join mt_join (by rw [hK]; exact ms_join) (fun dx dy z h => by cases dx <;> first | exact ⟨_, rfl⟩ | (cases dy <;> contradiction)) ho he hs hbase hline
theorem reps_strs {K : PySem.W.Frag} {G : Hp} : ∀ ys : List Str, Reps K G (ys.map V.str) (ys.map .str)
  | [] => .nil
  | y :: ys => .cons (.str y) (reps_strs ys)
theorem ms_split : MtS c (fun x xs H Q => ∃ a b, x = .str a ∧ xs = [.str b] ∧ (b.length == 0) = false ∧ a.length + 2 ≤ sizeLine ∧ rNewStrs (Txt.split a b) H Q) dSplit := fun H G x y dx dy z Q e rx ry hz q => by
  cases dx <;> cases dy <;> simp only [dSplit] at hz <;> try contradiction
  split at hz
  · rename_i hc
    cases hz
    cases rx
    cases ry
    exact ⟨_, _, rfl, rfl, hc.1, Nat.le_trans hc.2 cap_line, fun p hp => q _ _ _ (Grow.alloc e hp) (.lst (SqL.of upd_same) (reps_strs _))⟩
  · exact nomatch hz
theorem ex_split {apos : Pos} (ho : PE X o (tE c b1 f)) (he : PE X e (tE c b2 g)) (hs : starEach [e] X.env = [(false, eval e X.env)] := by rfl) (hbase : attributeBase o "split" X.env (eval o X.env) = eval o X.env := by rfl) (hline : (apos.endLine == pos.line) = true := by rfl) :
    PE X (.Call (.Attribute o "split" apos) [e] [] pos) (tE c (b1 && b2) (e2 dSplit f g)) := ex_m1 F.slot_str_split F.type_str_split mt_split ms_split (fun dx dy z h => by cases dx <;> first | exact ⟨_, rfl⟩ | (cases dy <;> contradiction)) ho he hs hbase hline
/-! ### one sign in a text; lists put together -/
def rInS1 : R2 := fun x y H Q => ∃ (k : Nat) (z : Str), x = .str ⟨#[k]⟩ ∧ y = .str z ∧ Q (.bl (decide (k ∈ z.cps.toList))) H
theorem op_inS1 : OpR X (compareOp .In) rInS1 := op_in_sign
theorem os_inS : OpS c rInS1 dInS := fun H G x y dx dy dz Q e rx ry hz q => by
  cases dx <;> cases dy <;> simp only [dInS] at hz <;> try contradiction
  rename_i a z
  split at hz
  · rename_i k hk
    cases hz
    cases rx
    cases ry
    have ea : a = ⟨#[k]⟩ := by
      cases a with
      | mk cps =>
        have : cps = #[k] := by
          apply Array.toList_inj.mp
          exact hk
        rw [this]
    exact ⟨k, z, by rw [ea], rfl, q _ _ _ (Grow.refl e) (.bl _)⟩
  · exact nomatch hz
theorem bo_inS : BoolOp2 dInS := fun x y z h => by
  cases x <;> cases y <;> simp only [dInS] at h <;> try contradiction
  split at h
  · cases h; exact ⟨_, rfl⟩
  · exact nomatch h
end
end DL
/-! DL 8: lists of one's own changed, borrowed; arguments lent to a def. -/
namespace DL
open PySem PySem.Spec PyProof.Rows L2

/-! ### xs + ys of lists that may be read -/
def rCatS (K : PySem.W.Frag) : R2 := fun x y H Q => ∃ l b xs zs, x = .ref l ∧ y = .ref b ∧ SqL K H l xs ∧ SqL K H b zs ∧ xs.length + zs.length ≤ sizeLine ∧ ∀ p, H p = none → Q (.ref p) (upd H p (.lst (xs ++ zs)))
theorem op_catS {X : Cx} : OpR X (binaryOp .Add) (rCatS X.K) := by
  intro pins s σ H x y v u Q I rx ry h
  obtain ⟨l, b, xs, zs, rfl, rfl, hH, hB, hz, q⟩ := h
  cases rx
  cases ry
  obtain ⟨its, r, hl, _⟩ := I.list hH
  obtain ⟨its2, r2, hl2, _⟩ := I.list hB
  have e1 := r.length
  have e2 := r2.length
  obtain ⟨⟨cls, dd, data, sl⟩, ho, hc, n, hd⟩ := hl.isList
  obtain ⟨⟨cls2, dd2, data2, sl2⟩, ho2, hc2, n2, hd2⟩ := hl2.isList
  simp only at hc hd hc2 hd2
  subst hc hd hc2 hd2
  have e : its.toArray ++ its2.toArray = (its ++ its2).toArray := by simp
  refine concat_meets ⟨_, ho, rfl⟩ ⟨_, ho2, rfl⟩ noFill_list_add seq_list_add PySem.F.slot_list_add PySem.F.entry_list_add (PySem.F.args_list_add_2 _ _) (list_addW l b its.toArray its2.toArray n n2 dd dd2 sl sl2 (by simpa [← e1, ← e2] using hz)) ⟨ho, ho2, ?_⟩
  rw [e]
  exact ⟨.ref _, _, I.lnew (t' := s.toks) (r.append r2) (by rw [List.length_append]; omega), rfl, q _ I.fresh⟩
def rAddL (K : PySem.W.Frag) : R2 := fun x y H Q => rAddA K x y H Q ∨ rCatS K x y H Q
theorem op_addL {X : Cx} : OpR X (binaryOp .Add) (rAddL X.K) := op_addA.or op_catS
def dAddL : D → D → Option D
  | .lst xs, .lst ys => if xs.length + ys.length ≤ cap then some (.lst (xs ++ ys)) else none
  | x, y => dAdd x y
theorem os_addL {c : Cc} : OpS c (rAddL c.K) dAddL := fun H G x y dx dy dz Q e rx ry hz q => by
  cases dx <;> first
    | (refine .inl (os_add Q e rx ry ?_ q); cases dy <;> first | exact hz | contradiction; done)
    | (cases dy <;> try contradiction
       simp only [dAddL] at hz
       split at hz
       · rename_i hc
         cases hz
         cases rx with
         | lst t1 r1 =>
         cases ry with
         | lst t2 r2 =>
         refine .inr ⟨_, _, _, _, rfl, rfl, Same.sqL e t1, Same.sqL e t2, by rw [r1.length, r2.length]; exact Nat.le_trans hc cap_line, fun p hp => ?_⟩
         exact q _ _ _ (Grow.alloc e hp) (.lst (SqL.of upd_same) ((r1.append r2).mono (same_upd (e.free hp))))
       · contradiction)

/-! ### data without lists -/
mutual
def noL : D → Bool
  | .lst _ => false
  | .tup xs => noLs xs
  | _ => true
def noLs : List D → Bool
  | [] => true
  | x :: xs => noL x && noLs xs
end
def eBor (i : Nat) (f : EF) : EF := fun s => match s[i]? with
  | some (.lst xs) => (f (s.set i (.val (.lst xs)))).bind fun p => if noL p.1 = true then some (p.1, s) else none
  | _ => f s
def dropA (G : Hp) (p : Addr) : Hp := fun a => if a = p then none else G a
theorem sqT_drop {K : PySem.W.Frag} {G : Hp} {p a : Addr} {vs us : List V} (hp : G p = some (.lst us)) (h : SqT K G a vs) : SqT K (dropA G p) a vs := by
  rcases h with (h | ⟨o, h⟩) | h
  · exact .inl (.inl (by unfold dropA; rw [if_neg fun z => by rw [z, hp] at h; cases h]; exact h))
  · exact .inl (.inr ⟨o, by unfold dropA; rw [if_neg fun z => by rw [z, hp] at h; cases h]; exact h⟩)
  · exact .inr h
mutual
theorem Rep.noL {K : PySem.W.Frag} {G : Hp} {p : Addr} {us : List V} (hp : G p = some (.lst us)) : ∀ {v : V} {d : D}, DL.noL d = true → Rep K G v d → Rep K (dropA G p) v d
  | _, _, _, .non => .non
  | _, _, _, .bl b => .bl b
  | _, _, _, .int i => .int i
  | _, _, _, .str x => .str x
  | _, _, _, .ref a => .ref a
  | _, _, h, .tup t r => .tup (sqT_drop hp t) (Reps.noL hp (by simpa [DL.noL] using h) r)
  | _, _, h, .lst _ _ => by simp [DL.noL] at h
theorem Reps.noL {K : PySem.W.Frag} {G : Hp} {p : Addr} {us : List V} (hp : G p = some (.lst us)) : ∀ {vs : List V} {ds : List D}, noLs ds = true → Reps K G vs ds → Reps K (dropA G p) vs ds
  | _, _, _, .nil => .nil
  | _, _, h, .cons r t => by
    obtain ⟨h1, h2⟩ := Bool.and_eq_true_iff.mp (by simpa [noLs] using h)
    exact .cons (Rep.noL hp h1 r) (Reps.noL hp h2 t)
end
section
variable {c : Cc} {X : Cx} {pins : List Nat} {b1 b2 b3 : Bool} {f g h : EF} {t : BF} {fa fi : AF} {pos : Pos} {e o : Expr} {es : List Expr}
variable {H H1 H2 G G1 G2 : Hp} {s s1 s2 : S} {fp fp1 fp2 : List Addr} {σ σ1 σ2 : L2.St} {Z : Ends}
theorem ex_bor (i : Nat) (he : PE X e (tE c true f)) : PE X e (tE c true (eBor i f)) := PE_imp he fun σ H Q ⟨G, s, fp, d, s', k, sl, hf, q⟩ => by
  unfold eBor at hf
  split at hf
  · rename_i xs hx
    obtain ⟨v0, f1, f2, h1, h2, hp, hk⟩ := sl.split hx (by simp)
    cases h2 with
    | @lst p vs _ hv r =>
      have gp : G p = none := k.own p (hp.mem_iff.mpr (by simp))
      have sg : Same G (upd G p (.lst vs)) := same_upd gp
      have rr : Rep c.K (upd G p (.lst vs)) (.ref p) (.lst xs) := .lst (SqL.of upd_same) (r.mono sg)
      obtain ⟨fp', p', sl'⟩ := hk H (upd G p (.lst vs)) (.val (.lst xs)) [] (.val rr) (fun _ _ => rfl) sg
      have nd := List.nodup_append.mp (hp.nodup_iff.mp k.nd)
      have k' : Ok H (upd G p (.lst vs)) fp' := ⟨fun b o hb => by
          by_cases hbp : b = p
          · subst hbp; rw [upd_same] at hb; rw [← hb]; exact hv
          · rw [upd_ne hbp] at hb; exact k.sub b o hb, fun x hx => by
          have hx2 : x ∈ f2 := by simpa using p'.mem_iff.mp hx
          rw [upd_ne fun z => nd.2.2 p (by simp) x hx2 z.symm]
          exact k.own x (hp.mem_iff.mpr (List.mem_append_right _ hx2)), p'.nodup_iff.mpr (by simpa using nd.2.1)⟩
      cases h3 : f (s.set i (.val (.lst xs))) with
      | none => rw [h3] at hf; exact nomatch hf
      | some pp =>
        obtain ⟨d1, s1⟩ := pp
        simp only [h3, Option.bind_some] at hf
        split at hf
        · rename_i hn
          cases hf
          refine ⟨_, _, fp', _, s1, k', sl', h3, fun v H1 G1 fp1 E1 S1 r1 pu => ?_⟩
          obtain ⟨gr, _⟩ := pu rfl
          have gp1 : G1 p = some (.lst vs) := gr.gs p _ upd_same
          have gr2 : Grow H G H1 (dropA G1 p) := ⟨gr.hs, fun a o ha => by
              have hne : a ≠ p := fun z => by rw [z, gp] at ha; cases ha
              unfold dropA
              rw [if_neg hne]
              exact gr.gs a o (by rw [upd_ne hne]; exact ha), fun a o ha => by
              unfold dropA at ha
              split at ha
              · cases ha
              · exact gr.sub a o ha, fun a ha => by
              unfold dropA
              by_cases hne : a = p
              · rw [if_pos hne, hne, gp]
              · rw [if_neg hne, gr.nw a ha, upd_ne hne]⟩
          exact q v H1 (dropA G1 p) fp (gr2.ev k sl) (sl.step gr2) (r1.noL gp1 hn) fun _ => ⟨gr2, rfl⟩
        · exact nomatch hf
  · exact ⟨G, s, fp, d, s', k, sl, hf, q⟩
/-! ### a[i] = d -/
theorem gx_ix (kk : Nat) {x : Str} {p1 : Pos} {i : Expr} (hi : PE X i (tE c b1 f)) (hN : X.N[kk]? = some x := by rfl) (hv : Vis X.env.scope x := by first | exact Or.inl rfl | exact Or.inr (Or.inl rfl)) (hd : (x == ("__debug__" : Str)) = false := by decide) (hcd : (x == ("__classdict__" : Str)) = false := by decide)
    (ha : ∀ v, assign (.Subscript (.Name x p1) i pos) X.env v = (do
      let ov ← holding [v] (eval (.Name x p1) X.env)
      let iv ← holding [v, ov] (eval i X.env)
      standAt pos
      holding [v, ov, iv] (setItem ov iv v)
      release [v, ov, iv] []) := by exact fun _ => rfl) : PG X (.Subscript (.Name x p1) i pos) (tG c pins false (gIx kk f)) :=
  PG_imp (pg_sub (pe_var hN hv hd hcd) hi set_list ha) fun v σ H Q ⟨G, s, fp, d, s', k, sl, r, hg, q⟩ => by
    unfold gIx at hg
    split at hg
    · rename_i xs0 hx0
      obtain ⟨p0, vs0, _, hσ, _⟩ := own_lst k sl hx0
      cases h1 : f s with
      | none => rw [h1] at hg; exact nomatch hg
      | some pp =>
        obtain ⟨di, s1⟩ := pp
        simp only [h1, Option.bind_some] at hg
        split at hg
        · rename_i o1 o2 i xs e2
          cases hj : ixN xs.length i with
          | none => rw [hj] at hg; exact nomatch hg
          | some j =>
            rw [hj] at hg
            cases hg
            refine ⟨_, hσ, G, s, fp, _, s1, k, sl, h1, fun iv H1 G1 fp1 E1 S1 r1 _ => ?_⟩
            obtain ⟨p, vs, f2, hσ2, hv2, rr, _, kk2⟩ := own_lst E1.ok S1 e2
            rw [hσ] at hσ2
            cases hσ2
            obtain ⟨fp', E2, S2⟩ := kk2 (vs.set j v) (xs.set j d) (rr.set (r.mono E1.gs) j)
            refine ⟨_, vs, i, j, rfl, r1.ints, hv2, by rw [rr.length]; exact hj, q σ _ G1 fp' (E1.trans E2) S2 PinEq.refl fun z => nomatch z⟩
        · exact nomatch hg
    · exact nomatch hg
end

/-! ### lent arguments -/
inductive Arg where
  | own (i : Nat) | val (d : D) | new (xs : List D)
abbrev AOF := S → Option (List Arg × S)
inductive ArgsV (c : Cc) (H G : Hp) (σ : L2.St) : List Arg → List V → List Addr → Prop
  | nil : ArgsV c H G σ [] [] []
  | own {i : Nat} {v : V} {as : List Arg} {vs : List V} {fx : List Addr} : σ[i]? = some (some v) → ArgsV c H G σ as vs fx → ArgsV c H G σ (.own i :: as) (v :: vs) fx
  | val {d : D} {v : V} {as : List Arg} {vs : List V} {fx : List Addr} : Rep c.K G v d → ArgsV c H G σ as vs fx → ArgsV c H G σ (.val d :: as) (v :: vs) fx
  | new {xs : List D} {p : Addr} {ws : List V} {as : List Arg} {vs : List V} {fx : List Addr} : H p = some (.lst ws) → Reps c.K G ws xs → ArgsV c H G σ as vs fx → ArgsV c H G σ (.new xs :: as) (.ref p :: vs) (p :: fx)
def tAO (c : Cc) (f : AOF) : TA := fun σ H Q => ∃ G s fp d s', Ok H G fp ∧ Slots c H G σ s fp ∧ f s = some (d, s') ∧
  ∀ vs fx H' G' fp', Ev H G fp H' G' (fx ++ fp') → Slots c H' G' σ s' fp' → ArgsV c H' G' σ d vs fx → Q vs H'
def isUn : O → Bool
  | .un => true
  | _ => false
def aoNil : AOF := fun s => some ([], s)
def aoOwn (i : Nat) (r : AOF) : AOF := fun s => match s[i]? with
  | some o => if isUn o = true then none else (r s).map fun p => (.own i :: p.1, p.2)
  | none => none
def aoVal (f : EF) (r : AOF) : AOF := fun s => (f s).bind fun p => (r p.2).map fun q => (.val p.1 :: q.1, q.2)
def aoNew (f : AF) (r : AOF) : AOF := fun s => (f s).bind fun p => (r p.2).map fun q => (.new p.1 :: q.1, q.2)
def takeO : S → List Arg → Option (List O × S)
  | s, [] => some ([], s)
  | s, .val d :: r => (takeO s r).map fun p => (.val d :: p.1, p.2)
  | s, .new xs :: r => (takeO s r).map fun p => (.lst xs :: p.1, p.2)
  | s, .own i :: r => match s[i]? with
    | some o => if isUn o = true then none else (takeO (s.set i .un) r).map fun p => (o :: p.1, p.2)
    | none => none
def putO : S → List Arg → List O → Option S
  | s, [], [] => some s
  | s, .val _ :: r, o :: os => if isUn o = true then putO s r os else none
  | s, .new _ :: r, _ :: os => putO s r os
  | s, .own i :: r, o :: os => if isUn o = true then putO s r os else match s[i]? with
    | some .un => putO (s.set i o) r os
    | _ => none
  | _, _, _ => none
def eCallO (m : List O → Option (D × List O)) (fa : AOF) : EF := fun s => (fa s).bind fun p => (takeO p.2 p.1).bind fun q => (m q.1).bind fun r => (putO q.2 p.1 r.2).map fun s3 => (r.1, s3)
def spO (c : Cc) (m : List O → Option (D × List O)) : Sp := fun vs H Q _ => ∃ G fp as r as', Ok H G fp ∧ Slots c H G (vs.map some) as fp ∧ m as = some (r, as') ∧
  ∀ v H' G' fp', Ev H G fp H' G' fp' → Slots c H' G' (vs.map some) as' fp' → Rep c.K G' v r → Q v H'
section
variable {c : Cc} {X : Cx} {pins : List Nat} {b1 b2 b3 : Bool} {f g h : EF} {fao : AOF} {pos : Pos} {e o : Expr} {es : List Expr}
variable {H H' H1 H2 G G' G1 G2 : Hp} {s s1 s2 : S} {fp fp' fp1 fp2 : List Addr} {σ σ1 σ2 : L2.St} {Z : Ends}
theorem xao_nil : PA X [] (tAO c aoNil) := PA_imp pa_nil fun σ H Q ⟨G, s, fp, d, s', k, sl, hf, q⟩ => by
  cases hf
  exact q [] [] H G fp (Ev.refl k) sl .nil
theorem xao_own (i : Nat) {x : Str} {p : Pos} (hr : PA X es (tAO c fao)) (hN : X.N[i]? = some x := by rfl) (hv : Vis X.env.scope x := by first | exact Or.inl rfl | exact Or.inr (Or.inl rfl) | exact Or.inr (Or.inr rfl)) (hd : (x == ("__debug__" : Str)) = false := by decide) (hcd : (x == ("__classdict__" : Str)) = false := by decide)
    (hs : starEach (.Name x p :: es) X.env = (false, eval (.Name x p) X.env) :: starEach es X.env := by rfl) : PA X (.Name x p :: es) (tAO c (aoOwn i fao)) := PA_imp (pa_cons (pe_var hN hv hd hcd) hr hs) fun σ H Q ⟨G, s, fp, d, s', k, sl, hf, q⟩ => by
  unfold aoOwn at hf
  split at hf
  · rename_i o ho
    split at hf
    · exact nomatch hf
    · rename_i hu
      obtain ⟨v, f1, f2, h1, _⟩ := sl.split ho (fun z => hu (by rw [z]; rfl))
      cases h2 : fao s with
      | none => rw [h2] at hf; exact nomatch hf
      | some pp =>
        obtain ⟨as, s1⟩ := pp
        simp only [h2, Option.map_some, Option.some.injEq, Prod.mk.injEq] at hf
        obtain ⟨rfl, rfl⟩ := hf
        exact ⟨v, h1, G, s, fp, as, s1, k, sl, h2, fun vs fx H1 G1 fp1 E1 S1 a1 => q (v :: vs) fx H1 G1 fp1 E1 S1 (.own h1 a1)⟩
  · exact nomatch hf
theorem xao_val (he : PE X e (tE c b1 f)) (hr : PA X es (tAO c fao)) (hs : starEach (e :: es) X.env = (false, eval e X.env) :: starEach es X.env := by rfl) : PA X (e :: es) (tAO c (aoVal f fao)) := PA_imp (pa_cons he hr hs) fun σ H Q ⟨G, s, fp, d, s', k, sl, hf, q⟩ => by
  unfold aoVal at hf
  cases h1 : f s with
  | none => rw [h1] at hf; exact nomatch hf
  | some p =>
    obtain ⟨x, s1⟩ := p
    simp only [h1, Option.bind_some] at hf
    cases h2 : fao s1 with
    | none => simp [h2] at hf
    | some p2 =>
      obtain ⟨ys, s2⟩ := p2
      simp only [h2, Option.map_some, Option.some.injEq, Prod.mk.injEq] at hf
      obtain ⟨rfl, rfl⟩ := hf
      exact ⟨G, s, fp, x, s1, k, sl, h1, fun v H1 G1 fp1 E1 S1 r1 p1 => ⟨G1, s1, fp1, ys, s2, E1.ok, S1, h2, fun us fx H2 G2 fp2 E2 S2 r2 =>
        q (v :: us) fx H2 G2 fp2 (E1.trans E2) S2 (.val (r1.mono E2.gs) r2)⟩⟩
theorem xao_new (he : PE X e (tN c fa)) (hr : PA X es (tAO c fao)) (hs : starEach (e :: es) X.env = (false, eval e X.env) :: starEach es X.env := by rfl) : PA X (e :: es) (tAO c (aoNew fa fao)) := PA_imp (pa_cons he hr hs) fun σ H Q ⟨G, s, fp, d, s', k, sl, hf, q⟩ => by
  unfold aoNew at hf
  cases h1 : fa s with
  | none => rw [h1] at hf; exact nomatch hf
  | some p =>
    obtain ⟨x, s1⟩ := p
    simp only [h1, Option.bind_some] at hf
    cases h2 : fao s1 with
    | none => simp [h2] at hf
    | some p2 =>
      obtain ⟨ys, s2⟩ := p2
      simp only [h2, Option.map_some, Option.some.injEq, Prod.mk.injEq] at hf
      obtain ⟨rfl, rfl⟩ := hf
      refine ⟨G, s, fp, x, s1, k, sl, h1, fun p ws H1 G1 fp1 E1 S1 hv r1 => ?_⟩
      have pm : (p :: fp1).Perm (fp1 ++ [p]) := List.perm_append_comm (l₁ := [p]) (l₂ := fp1)
      have np : p ∉ fp1 := (List.nodup_cons.mp E1.nd).1
      refine ⟨G1, s1, fp1, ys, s2, E1.ok.left pm, S1, h2, fun us fx H2 G2 fp2 E2 S2 r2 => ?_⟩
      have E3 := Ev.beside E1.ok pm (fun a ha => by
        have e : a = p := by simpa using ha
        rw [e, hv]; simp) E2
      refine q (.ref p :: us) (p :: fx) H2 G2 fp2 (E1.trans (E3.perm ?_)) S2 (.new (E2.frame p _ hv np) (r1.mono E2.gs) r2)
      exact List.perm_append_comm (l₁ := [p]) (l₂ := fx ++ fp2)
theorem takeAll : ∀ {as : List Arg} {vs : List V} {fx : List Addr} {s s2 : S} {fp : List Addr} {os : List O}, Slots c H G σ s fp → ArgsV c H G σ as vs fx → takeO s as = some (os, s2) → ∃ f1 f2, (fx ++ fp).Perm (f1 ++ f2) ∧ Slots c H G (vs.map some) os f1 ∧ Slots c H G σ s2 f2
  | _, _, _, s, s2, fp, os, sl, .nil, ht => by
    cases ht
    exact ⟨[], fp, List.Perm.refl _, .nil, sl⟩
  | _, _, _, s, s2, fp, os, sl, .val (as := as) hr ha, ht => by
    simp only [takeO] at ht
    cases h1 : takeO s as with
    | none => rw [h1] at ht; exact nomatch ht
    | some p =>
      obtain ⟨o2, s3⟩ := p
      simp only [h1, Option.map_some, Option.some.injEq, Prod.mk.injEq] at ht
      obtain ⟨rfl, rfl⟩ := ht
      obtain ⟨f1, f2, hp, S1, S2⟩ := takeAll sl ha h1
      exact ⟨f1, f2, hp, by simpa using Slots.cons (.val hr) S1, S2⟩
  | _, _, _, s, s2, fp, os, sl, .new (as := as) (p := p) (fx := fx) hv hr ha, ht => by
    simp only [takeO] at ht
    cases h1 : takeO s as with
    | none => rw [h1] at ht; exact nomatch ht
    | some pp =>
      obtain ⟨o2, s3⟩ := pp
      simp only [h1, Option.map_some, Option.some.injEq, Prod.mk.injEq] at ht
      obtain ⟨rfl, rfl⟩ := ht
      obtain ⟨f1, f2, hp, S1, S2⟩ := takeAll sl ha h1
      exact ⟨p :: f1, f2, List.Perm.cons p hp, Slots.cons (.lst hv hr) S1, S2⟩
  | _, _, _, s, s2, fp, os, sl, .own (as := as) (i := i) (fx := fx) hi ha, ht => by
    simp only [takeO] at ht
    split at ht
    · rename_i o ho
      split at ht
      · exact nomatch ht
      · rename_i hu
        cases h1 : takeO (s.set i .un) as with
        | none => rw [h1] at ht; exact nomatch ht
        | some p =>
          obtain ⟨o2, s3⟩ := p
          simp only [h1, Option.map_some, Option.some.injEq, Prod.mk.injEq] at ht
          obtain ⟨rfl, rfl⟩ := ht
          obtain ⟨v', g1, g2, hσ, ho', hp, S0⟩ := sl.take ho (fun z => hu (by rw [z]; rfl))
          rw [hi] at hσ
          cases hσ
          obtain ⟨f1, f2, hp2, S1, S2⟩ := takeAll S0 ha h1
          refine ⟨g1 ++ f1, f2, ?_, .cons ho' S1, S2⟩
          rw [List.append_assoc]
          refine (List.Perm.append_left fx hp).trans (List.Perm.trans ?_ (List.Perm.append_left g1 hp2))
          rw [← List.append_assoc, ← List.append_assoc]
          exact List.Perm.append_right g2 List.perm_append_comm
    · exact nomatch ht
theorem putAll : ∀ {as : List Arg} {vs : List V} {fx : List Addr} {s s2 : S} {f1 f2 : List Addr} {os : List O} {G0 H0 : Hp}, Slots c H G σ s f2 → Slots c H G (vs.map some) os f1 → ArgsV c H0 G0 σ as vs fx → putO s as os = some s2 → ∃ fr fq, (f1 ++ f2).Perm (fr ++ fq) ∧ Slots c H G σ s2 fq
  | _, _, _, s, s2, f1, f2, os, _, _, sl, S1, .nil, ht => by
    cases S1
    cases ht
    exact ⟨[], f2, List.Perm.refl _, sl⟩
  | _, _, _, s, s2, f1, f2, os, _, _, sl, S1, .val hr ha, ht => by
    cases S1 with
    | un t => exact putAll sl t ha (by simpa [putO, isUn] using ht)
    | cons w t => cases w <;> simp [putO, isUn] at ht
  | _, _, _, s, s2, f1, f2, os, _, _, sl, S1, .new hv hr ha, ht => by
    cases S1 with
    | un t => exact putAll sl t ha (by simpa [putO] using ht)
    | @cons _ o _ r g1 g2 w t =>
      obtain ⟨fr, fq, pq, S3⟩ := putAll sl t ha (by simpa [putO] using ht)
      refine ⟨g1 ++ fr, fq, ?_, S3⟩
      rw [List.append_assoc, List.append_assoc]
      exact List.Perm.append_left g1 pq
  | _, _, _, s, s2, f1, f2, os, _, _, sl, S1, .own hi ha, ht => by
    cases S1 with
    | un t => exact putAll sl t ha (by simpa [putO, isUn] using ht)
    | @cons _ o _ r g1 g2 w t =>
      have hu : isUn o = false := by cases w <;> rfl
      simp only [putO, hu] at ht
      rw [if_neg Bool.false_ne_true] at ht
      split at ht
      · rename_i e
        obtain ⟨fq, pq, S3⟩ := Slots.back w sl e hi
        obtain ⟨fr, fs, pr, S4⟩ := putAll S3 t ha ht
        refine ⟨fr, fs, List.Perm.trans ?_ pr, S4⟩
        refine List.Perm.trans ?_ (List.Perm.append_left g2 pq.symm)
        rw [← List.append_assoc]
        exact List.Perm.append_right f2 List.perm_append_comm
      · exact nomatch ht
theorem callO_ok {m : List O → Option (D × List O)} {E : XK} {Q : VK} (q : tE c false (eCallO m fao) σ H Q) : tCall (spO c m) [] E (tAO c fao) σ H Q := by
  obtain ⟨G, s, fp, d, s', k, sl, hf, q⟩ := q
  unfold eCallO at hf
  cases h1 : fao s with
  | none => rw [h1] at hf; exact nomatch hf
  | some p =>
    obtain ⟨as, s1⟩ := p
    simp only [h1, Option.bind_some] at hf
    cases h2 : takeO s1 as with
    | none => simp [h2] at hf
    | some p2 =>
      obtain ⟨os, s2⟩ := p2
      simp only [h2, Option.bind_some] at hf
      cases h3 : m os with
      | none => simp [h3] at hf
      | some p3 =>
        obtain ⟨r, os'⟩ := p3
        simp only [h3, Option.bind_some] at hf
        cases h4 : putO s2 as os' with
        | none => simp [h4] at hf
        | some s3 =>
          simp only [h4, Option.map_some, Option.some.injEq, Prod.mk.injEq] at hf
          obtain ⟨rfl, rfl⟩ := hf
          refine ⟨G, s, fp, as, s1, k, sl, h1, fun vs fx H1 G1 fp1 E1 S1 a1 => ?_⟩
          obtain ⟨f1, f2, hp, T1, T2⟩ := takeAll S1 a1 h2
          refine ⟨G1, f1, os, r, os', E1.ok.left hp, by rw [List.append_nil]; exact T1, h3, fun v H' G' fp' E' S' r' => ?_⟩
          rw [List.append_nil] at S'
          have nd := List.nodup_append.mp (hp.nodup_iff.mp E1.nd)
          have E2 := Ev.beside E1.ok hp (T2.there) E'
          have T3 : Slots c H' G' σ s2 f2 := T2.stay E'.gs fun a ha => by
            cases z : H1 a with
            | none => exact absurd z (T2.there a ha)
            | some o => exact E'.frame a o z fun y => nd.2.2 a y a ha rfl
          obtain ⟨fr, fq, pq, T4⟩ := putAll T3 S' a1 h4
          exact q v H' G' fq (E1.trans (E2.less pq)) T4 r' fun z => nomatch z
section
variable {kl : Nat} {fA : Addr} {fd : FuncData} {ps : List Str} {x : Str} {p : Pos} {m : List O → Option (D × List O)}
theorem ex_callO (F : FnOk X.prog X.w X.K X.mg X.base CX0 kl fA fd ps (spO c m)) (hr : Room kl X.A) (hm : X.mg x = some (.ref fA)) (hk : PySem.W.keepIn X.K (.ref fA) = true) (hb : Binds X.K fd ps []) (ha : PA X (e :: es) (tAO c fao)) (hg : Gl X x := by rfl)
    (hdb : (x == ("__debug__" : Str)) = false := by decide) (he : starEach (e :: es) X.env = (false, eval e X.env) :: starEach es X.env := by rfl) (hpl : (backTo pos (starEach es X.env)).any (·.1) = false := by rfl) :
    PE X (.Call (.Name x p) (e :: es) [] pos) (tE c false (eCallO m fao)) := PE_imp (pe_call (E := E0) F hr hg hm hk hb .nil pass0 ha hdb he hpl) fun _ _ _ q => callO_ok q
end
/-! ### a def with lent parameters -/
def keepO : List Bool → S → List O
  | true :: bs, o :: s => o :: keepO bs s
  | false :: bs, _ :: s => .un :: keepO bs s
  | _, _ => []
def runO (mask : List Bool) (n : Nat) (fb : SF) (as : List O) : Option (D × List O) := if as.length = mask.length then (fb (as ++ List.replicate (n - mask.length) O.un)).bind fun fl => match fl with
    | .ret (.d d) s => some (d, keepO mask s)
    | .next s => some (.non, keepO mask s)
    | _ => none
  else none
theorem Slots.tail_un : ∀ {σ : L2.St} {s : S} {fp : List Addr} (n : Nat), Slots c H G σ s fp → Slots c H G (σ ++ List.replicate n none) (s ++ List.replicate n O.un) fp
  | _, _, _, n, .nil => by
    show Slots c H G (List.replicate n none) (List.replicate n O.un) []
    induction n with
    | zero => exact .nil
    | succ n ih => exact .un ih
  | _, _, _, n, .un t => .un (Slots.tail_un n t)
  | _, _, _, n, .cons w t => .cons w (Slots.tail_un n t)
theorem Slots.keep : ∀ {mask : List Bool} {vs : List V} {σ : L2.St} {s : S} {fp : List Addr}, Slots c H G σ s fp → vs.length = mask.length → mask.length ≤ s.length → (∀ i : Nat, mask[i]? = some true → σ[i]? = (vs.map some)[i]?) → ∃ f1 f2, fp.Perm (f1 ++ f2) ∧ Slots c H G (vs.map some) (keepO mask s) f2
  | [], [], σ, s, fp, sl, _, _, _ => ⟨fp, [], by simp, by cases s <;> exact .nil⟩
  | [], _ :: _, _, _, _, _, h, _, _ => nomatch h
  | _ :: _, [], _, _, _, _, h, _, _ => nomatch h
  | b :: bs, v :: vs, _, _, _, .nil, _, h, _ => by simp at h
  | b :: bs, v :: vs, _, _, _, .un t, h1, h2, h3 => by
    obtain ⟨f1, f2, p, k⟩ := Slots.keep (mask := bs) (vs := vs) t (by simpa using h1) (by simpa using h2) (fun i hi => by simpa using h3 (i + 1) (by simpa using hi))
    refine ⟨f1, f2, p, ?_⟩
    cases b <;> exact .un k
  | true :: bs, v :: vs, _, _, _, .cons (f1 := g1) (f2 := g2) w t, h1, h2, h3 => by
    obtain ⟨f1, f2, p, k⟩ := Slots.keep (mask := bs) (vs := vs) t (by simpa using h1) (by simpa using h2) (fun i hi => by simpa using h3 (i + 1) (by simpa using hi))
    have e := h3 0 rfl
    simp at e
    subst e
    refine ⟨f1, g1 ++ f2, ?_, .cons w k⟩
    refine (List.Perm.append_left g1 p).trans ?_
    rw [← List.append_assoc, ← List.append_assoc]
    exact List.Perm.append_right f2 List.perm_append_comm
  | false :: bs, v :: vs, _, _, _, .cons (f1 := g1) (f2 := g2) w t, h1, h2, h3 => by
    obtain ⟨f1, f2, p, k⟩ := Slots.keep (mask := bs) (vs := vs) t (by simpa using h1) (by simpa using h2) (fun i hi => by simpa using h3 (i + 1) (by simpa using hi))
    refine ⟨g1 ++ f1, f2, ?_, .un k⟩
    rw [List.append_assoc]
    exact List.Perm.append_left g1 p
variable {P : Program} {wd : World} {K : PySem.W.Frag} {mg : Str → Option Value} {base : Heap}
theorem fn_own {x qual : Str} {sd : Stmt} {fA : Addr} {fd : FuncData} {N ps : List Str} {kl : Nat} (mask : List Bool) (pins : List Nat) (n : Nat) (m : List O → Option (D × List O)) (fb : SF) (hm : m = runO mask n fb) (F : Fun K x qual sd fA fd) (Sc : FnScope N ps (defScope sd)) (hK : K = c.K) (e2 : N.length = n) (hps : mask.length = ps.length) (hN : ps.length ≤ N.length)
    (hpin : ∀ i : Nat, mask[i]? = some true → i ∈ pins)
    (body : ∀ (cdv : Value) (A : Around) (outer : List Env) (s : Shared) (H : Hp) (E : XK), Room kl (A.deeper (envOfC qual (defScope sd) s.heap.objs.size fA cdv)) →
      PSs (cxOf CX0 P wd K mg base N qual (defScope sd) fA cdv A outer s H E).nox (defBody sd) (tS c pins fb)) : FnOk P wd K mg base CX0 (kl + 1) fA fd ps (spO c m) := by
  subst hm e2
  refine F.ok Sc (fun vs H Q E h => ?_) fun cdv A outer s H vs Q E hr h => ⟨_, body cdv A outer s H E hr, ?_⟩
  · obtain ⟨G, fp, as, r, as', _, sl, hm, _⟩ := h
    unfold runO at hm
    split at hm
    · rename_i hl
      have := sl.length
      rw [List.length_map] at this
      omega
    · exact nomatch hm
  · obtain ⟨G, fp, as, r, as', k, sl, hm, q⟩ := h
    unfold runO at hm
    split at hm
    · rename_i hl
      have hvl : vs.length = as.length := by simpa using sl.length
      cases h1 : fb (as ++ List.replicate (N.length - mask.length) O.un) with
      | none => rw [h1] at hm; exact nomatch hm
      | some fl =>
        simp only [h1, Option.bind_some] at hm
        have sl0 : Slots c H G (L2.start N vs) (as ++ List.replicate (N.length - mask.length) O.un) fp := by
          unfold L2.start
          rw [hvl, hl]
          exact sl.tail_un _
        have len0 : (L2.start N vs).length = N.length := by
          unfold L2.start
          rw [List.length_append, List.length_map, List.length_replicate]
          omega
        have pinv : ∀ σ' : L2.St, PinEq pins (L2.start N vs) σ' → ∀ i : Nat, mask[i]? = some true → σ'[i]? = (vs.map some)[i]? := fun σ' p i hi => by
          rw [p.2 i (hpin i hi)]
          unfold L2.start
          have : i < mask.length := (List.getElem?_eq_some_iff.mp hi).1
          rw [List.getElem?_append_left (by rw [List.length_map]; omega)]
        refine ⟨G, _, fp, fl, k, sl0, h1, ?_⟩
        cases fl with
        | ret rr s' =>
          cases rr with
          | n xs => exact nomatch hm
          | d d =>
          simp only [Option.some.injEq, Prod.mk.injEq] at hm
          obtain ⟨rfl, rfl⟩ := hm
          intro v σ' H' G' fp' E1 S1 p1 r1
          obtain ⟨f1, f2, pp, S2⟩ := S1.keep (mask := mask) (vs := vs) (by omega) (by rw [← S1.length, p1.1, len0]; omega) (pinv σ' p1)
          exact q v H' G' f2 (E1.less pp) S2 r1
        | next s' =>
          simp only [Option.some.injEq, Prod.mk.injEq] at hm
          obtain ⟨rfl, rfl⟩ := hm
          intro σ' H' G' fp' E1 S1 p1
          obtain ⟨f1, f2, pp, S2⟩ := S1.keep (mask := mask) (vs := vs) (by omega) (by rw [← S1.length, p1.1, len0]; omega) (pinv σ' p1)
          exact q .non H' G' f2 (E1.less pp) S2 .non
        | _ => exact nomatch hm
    · exact nomatch hm
end
end DL
/-! DL 9: more of what is walked and called; what the top has left of a def, of a constant. -/
namespace DL
open PySem PySem.Spec PyProof.Rows L2 RZ

/-! ### range with a step above 0 -/
def rangeC (i c : Int) (n : Nat) : List D := (List.range n).map fun (k : Nat) => .int (i + (k : Int) * c)
def iRng3 (fa : AF) : AF := fun s => (fa s).bind fun p => match p.1 with
  | [.int i, .int j, .int k] => if -bigI ≤ i ∧ i ≤ bigI ∧ -bigI ≤ j ∧ j ≤ bigI ∧ 0 < k ∧ k ≤ 1000 then some (rangeC i k (if i < j then ((j - i - 1) / k + 1).toNat else 0), p.2) else none
  | _ => none
theorem pins_ok {own : List Nat} {pins' : List Nat} {N : List Str} {n : Nat} (h : ∀ i < n, i ∉ own → i ∈ pins') (e : N.length = n) : ∀ i < N.length, i ∉ own → i ∈ pins' := by rw [e]; exact h
theorem mask_ok {mask : List Bool} {pins : List Nat} (h : ∀ i < mask.length, mask[i]? = some true → i ∈ pins) : ∀ i : Nat, mask[i]? = some true → i ∈ pins := fun i hi => h i (List.getElem?_eq_some_iff.mp hi).1 hi
section
variable {c : Cc} {X : Cx} {pins : List Nat} {b1 b2 b3 : Bool} {f g h : EF} {t : BF} {fa fi : AF} {u v w : SF} {pos : Pos} {e o tg : Expr} {st : Stmt} {rest es : List Stmt}
variable {H H1 H2 G G1 G2 : Hp} {s s1 s2 : S} {fp fp1 fp2 : List Addr} {σ σ1 σ2 : L2.St} {Z : Ends}
theorem yl_rangeC {lo k : Int} {n : Nat} : Yields c (Itc lo k n) (rangeC lo k n) G := fun i H G' e1 e2 => by
  refine ⟨fun d hd => ?_, fun hl => ?_⟩
  · unfold rangeC at hd
    rw [List.getElem?_map] at hd
    by_cases hi : i < n
    · rw [List.getElem?_range hi] at hd
      cases hd
      refine ⟨hi, fun x H' y => ?_⟩
      obtain ⟨e, y⟩ := y
      subst e y
      exact ⟨G', Grow.refl e2, .int _⟩
    · rw [List.getElem?_eq_none (by simpa using hi)] at hd
      exact nomatch hd
  · unfold rangeC at hl
    exact (by simpa using hl : n ≤ i)
theorem rgc_up {i j k : Int} (h1 : -bigI ≤ i) (h2 : i ≤ bigI) (h3 : -bigI ≤ j) (h4 : j ≤ bigI) (h5 : 0 < k) (h6 : k ≤ 1000) : RgC i j k (if i < j then ((j - i - 1) / k + 1).toNat else 0) := by
  unfold bigI at h1 h2 h3 h4
  refine ⟨by omega, by omega, ?_, ?_⟩
  · unfold Builtin.Range.small
    have hd : 0 ≤ (j - i - 1) / k ∨ (j - i - 1) < 0 := by
      by_cases h : 0 ≤ j - i - 1
      · exact .inl (Int.ediv_nonneg h (by omega))
      · exact .inr (by omega)
    have hd2 : 0 ≤ j - i - 1 → (j - i - 1) / k ≤ j - i - 1 := fun h => Int.ediv_le_self _ h
    unfold Builtin.Range.rangeSize
    simp only [show k > 0 from h5, if_true]
    simp only [Builtin.Range.rangeFitsLong, Bool.and_eq_true, Bool.or_eq_true, decide_eq_true_eq, beq_iff_eq]
    split <;> omega
  · unfold Builtin.Range.rangeSize
    rw [if_pos (by omega)]
    split
    · have : 0 ≤ (j - i - 1) / k := Int.ediv_nonneg (by omega) (by omega)
      omega
    · rfl
theorem ix_range3 {a b d : Expr} {p pos : Pos} (ha : PA X [a, b, d] (tA c b1 fa)) (hm : X.mg "range" = none) (hg : Gl X "range" := by rfl) (hs : starEach [a, b, d] X.env = (false, eval a X.env) :: starEach [b, d] X.env := by rfl) (hpl : (backTo pos (starEach [b, d] X.env)).any (·.1) = false := by rfl) :
    PI X tg (.Call (.Name "range" p) [a, b, d] [] pos) (tI c b1 (iRng3 fa)) :=
  PI_imp (pi_range3 hg hm ha hs hpl) fun σ H R ⟨G, S, fp, xs, s', k, sl, hf, q⟩ => by
    unfold iRng3 at hf
    cases h1 : fa S with
    | none => rw [h1] at hf; exact nomatch hf
    | some p =>
      obtain ⟨ds, s1⟩ := p
      simp only [h1, Option.bind_some] at hf
      split at hf
      · rename_i i j kk
        split at hf
        · rename_i hn
          cases hf
          refine ⟨G, S, fp, _, _, k, sl, h1, fun vs H1 G1 fp1 E1 S1 r1 p1 => ?_⟩
          cases r1 with
          | cons r1 r2 =>
            cases r2 with
            | cons r2 r3 =>
              cases r3 with
              | cons r3 r4 =>
                cases r4
                obtain ⟨h3, h4, h5, h6, h7, h8⟩ := hn
                exact ⟨i, j, kk, _, by rw [r1.ints, r2.ints, r3.ints], rgc_up h3 h4 h5 h6 h7 h8, q _ H1 G1 fp1 E1 S1 yl_rangeC p1⟩
        · exact nomatch hf
      · exact nomatch hf

/-! ### xs.count(True) of a list of truths -/
def rCntB (K : PySem.W.Frag) : V → List V → Hp → VK → Prop := fun x xs H Q => ∃ (p : Addr) (bs : List Bool) (k : Bool), x = .ref p ∧ xs = [.bl k] ∧ SqL K H p (bs.map V.bl) ∧ Q (.int (bs.count k : Nat)) H
theorem vals_bools : ∀ {bs : List Bool} {us : List Value}, Vals (bs.map V.bl) us → us = bs.map Value.bool
  | [], us, h => by cases h; rfl
  | b :: bs, us, h => by
    rw [List.map_cons] at h
    cases h with
    | cons r t =>
      cases r
      rw [vals_bools t]
      rfl
theorem readsBools (h : Heap) : ∀ bs : List Bool, ReadsAll h (bs.map Value.bool) (bs.map PyData.bool) []
  | [] => .nil
  | b :: bs => .cons (as := []) (bs := []) (.bool b) (readsBools h bs)
theorem countIn_bools (k : Bool) : ∀ bs : List Bool, PySem.Spec.countIn (.bool k) (bs.map PyData.bool) = ((bs.count k : Nat) : Int)
  | [] => rfl
  | b :: bs => by
    have ih := countIn_bools k bs
    rw [List.map_cons, List.count_cons]
    show (if PySem.Spec.same (.bool b) (.bool k) then 1 else 0) + PySem.Spec.countIn (.bool k) (bs.map PyData.bool) = _
    rw [ih]
    cases b <;> cases k <;> simp [PySem.Spec.same] <;> omega
theorem mt_countB : MtR X "list.count" (rCntB X.K) := by
  intro pins s σ H x xs v us Q I rx rxs h
  obtain ⟨p, bs, k, rfl, rfl, hs, q⟩ := h
  cases rx
  obtain ⟨u, rfl, ru⟩ := rxs.one
  cases ru
  obtain ⟨its, rv, hl, hlen⟩ := I.list hs
  have e := vals_bools rv
  subst e
  refine PyProof.Rows.count_list_bools hl.isList (readsBools s.heap bs) ?_ ⟨.int _, H, I.tok _, ⟨_, rfl⟩, ?_⟩
  · rw [List.all_map]
    exact List.all_eq_true.mpr fun b _ => rfl
  · rw [countIn_bools]
    exact q
theorem ex_count {apos : Pos} (ho : PE X o (tE c b1 f)) (he : PE X e (tE c b2 g)) (hK : X.K = c.K := by rfl)
    (hbase : attributeBase o "count" X.env (eval o X.env) = eval o X.env := by rfl)
    (hfew : ((backTo pos (starEach (e :: []) X.env)).all (fun x => !x.1) && (backToKw pos (keywordEach [] X.env)).all (fun x => x.1.isSome)
      && decide ((e :: []).length + ([] : List Keyword).length + (if ([] : List Keyword).isEmpty then 0 else 1) < 30)) = true := by rfl)
    (hline : (apos.endLine == pos.line) = true := by rfl) (hs : starEach (e :: []) X.env = (false, eval e X.env) :: starEach [] X.env := by rfl) (hplain : (backTo pos (starEach [] X.env)).any (·.1) = false := by rfl) :
    PE X (.Call (.Attribute o "count" apos) [e] [] pos) (tE c (b1 && b2) (e2 dCountB f g)) :=
  PE_imp (pe_bm PySem.F.plainAttrs_list PySem.F.slot_list_count PySem.F.type_list_count mt_countB ho (pa_cons he pa_nil hs) hbase hfew hline hs hplain) fun σ H Q ⟨G, s, fp, d, s', k, sl, hf, q⟩ => by
    rw [hK]
    unfold e2 at hf
    cases h1 : f s with
    | none => rw [h1] at hf; exact nomatch hf
    | some p =>
      obtain ⟨x, s1⟩ := p
      simp only [h1, Option.bind_some] at hf
      cases h2 : g s1 with
      | none => simp [h2] at hf
      | some p2 =>
        obtain ⟨y, s2⟩ := p2
        simp only [h2, Option.bind_some] at hf
        cases h3 : dCountB x y with
        | none => simp [h3] at hf
        | some z =>
          simp only [h3, Option.map_some, Option.some.injEq, Prod.mk.injEq] at hf
          obtain ⟨rfl, rfl⟩ := hf
          cases x <;> cases y <;> simp only [dCountB] at h3 <;> try contradiction
          rename_i xs kk
          cases hb : boolsD xs with
          | none => rw [hb] at h3; exact nomatch h3
          | some bs =>
            rw [hb] at h3
            cases h3
            refine ⟨G, s, fp, _, s1, k, sl, h1, fun v H1 G1 fp1 E1 S1 r1 p1 => ?_⟩
            cases r1 with
            | @lst a vs _ t1 r1 =>
              refine ⟨.inl ⟨rfl, _, Same.sqL E1.sub t1⟩, G1, s1, fp1, _, s2, E1.ok, S1, h2, fun u H2 G2 fp2 E2 S2 r2 p2 => ?_⟩
              cases r2
              refine ⟨a, bs, kk, rfl, rfl, ?_, q _ H2 G2 fp2 (E1.trans E2) S2 (.int _) (p1.and p2)⟩
              rw [← bools_rep r1 hb]
              exact Same.sqL E2.sub (Same.sqL E2.gs t1)

/-! ### a new list of what another one holds -/
def nList (fa : AF) : AF := fun s => (fa s).bind fun p => match p.1 with
  | [.lst xs] => some (xs, p.2)
  | [.tup xs] => some (xs, p.2)
  | _ => none
theorem xn_list {ea : Expr} {p : Pos} {x : Str} (hm : X.mg x = none) (ha : PA X [ea] (tA c b1 fa)) (hK : X.K = c.K := by rfl) (hv : bootBuiltins x = some (.type "list") := by decide +kernel) (hg : Gl X x := by rfl) (hn : x ≠ "__name__" := by decide) (hdb : (x == ("__debug__" : Str)) = false := by decide)
    (he : starEach [ea] X.env = (false, eval ea X.env) :: starEach [] X.env := by rfl) (hpl : (backTo pos (starEach [] X.env)).any (·.1) = false := by rfl) : PE X (.Call (.Name x p) [ea] [] pos) (tN c (nList fa)) :=
  PE_imp (pe_callTy call_list_of hg hm hv ha hn hdb he hpl) fun σ H Q ⟨G, s, fp, d, s', k, sl, hf, q⟩ => by
    rw [hK]
    unfold nList at hf
    cases h1 : fa s with
    | none => rw [h1] at hf; exact nomatch hf
    | some p =>
      obtain ⟨ds, s1⟩ := p
      simp only [h1, Option.bind_some] at hf
      split at hf
      · cases hf
        refine ⟨G, s, fp, _, _, k, sl, h1, fun vs H1 G1 fp1 E1 S1 r1 p1 => ?_⟩
        obtain ⟨v, rfl, r2⟩ := reps1 r1
        cases r2 with
        | lst t1 r1 => exact ⟨_, _, rfl, .inl (Same.sqL E1.sub t1), fun l hl => by
            obtain ⟨E2, S2⟩ := E1.newOwn (o := .lst _) S1 hl
            exact q l _ _ _ _ E2 S2 upd_same r1⟩
      · cases hf
        refine ⟨G, s, fp, _, _, k, sl, h1, fun vs H1 G1 fp1 E1 S1 r1 p1 => ?_⟩
        obtain ⟨v, rfl, r2⟩ := reps1 r1
        cases r2 with
        | tup t1 r1 => exact ⟨_, _, rfl, .inr (Same.sqT E1.sub t1), fun l hl => by
            obtain ⟨E2, S2⟩ := E1.newOwn (o := .lst _) S1 hl
            exact q l _ _ _ _ E2 S2 upd_same r1⟩
      · exact nomatch hf
/-- a list of one's own handed back as a new one -/
def sRetOwn (i : Nat) : SF := fun s => match s[i]? with
  | some (.lst xs) => some (.ret (.n xs) (s.set i .un))
  | _ => none
theorem sx_retOwn (i : Nat) {x : Str} {p : Pos} (hpi : i ∉ pins := by decide) (hN : X.N[i]? = some x := by rfl) (hv : Vis X.env.scope x := by first | exact Or.inl rfl | exact Or.inr (Or.inl rfl)) (hd : (x == ("__debug__" : Str)) = false := by decide) (hcd : (x == ("__classdict__" : Str)) = false := by decide) :
    PS X (.Return (some (.Name x p)) pos) (tS c pins (sRetOwn i)) := PS_imp (ps_ret (pe_var hN hv hd hcd)) fun Z σ H ⟨G, s, fp, fl, k, sl, hf, q⟩ => by
  unfold sRetOwn at hf
  split at hf
  · rename_i xs hx
    cases hf
    obtain ⟨v, f1, f2, h1, h2, hp, S2⟩ := sl.take hx (by simp)
    cases h2 with
    | @lst p vs _ hv r => exact ⟨_, h1, q p vs σ H G f2 ((Ev.refl k).perm hp.symm) S2 PinEq.refl hv r⟩
  · exact nomatch hf

/-! ### a test over a borrow -/
def bBor (i : Nat) (t : BF) : BF := fun s => match s[i]? with
  | some (.lst xs) => (t (s.set i (.val (.lst xs)))).map fun p => (p.1, s)
  | _ => t s
theorem xt_bor (i : Nat) (he : PT X e (tT c true t)) : PT X e (tT c true (bBor i t)) := PT_imp he fun σ H Q ⟨G, s, fp, d, s', k, sl, hf, q⟩ => by
  unfold bBor at hf
  split at hf
  · rename_i xs hx
    obtain ⟨v0, f1, f2, h1, h2, hp, hk⟩ := sl.split hx (by simp)
    cases h2 with
    | @lst p vs _ hv r =>
      have gp : G p = none := k.own p (hp.mem_iff.mpr (by simp))
      have sg : Same G (upd G p (.lst vs)) := same_upd gp
      have rr : Rep c.K (upd G p (.lst vs)) (.ref p) (.lst xs) := .lst (SqL.of upd_same) (r.mono sg)
      obtain ⟨fp', p', sl'⟩ := hk H (upd G p (.lst vs)) (.val (.lst xs)) [] (.val rr) (fun _ _ => rfl) sg
      have nd := List.nodup_append.mp (hp.nodup_iff.mp k.nd)
      have k' : Ok H (upd G p (.lst vs)) fp' := ⟨fun b o hb => by
          by_cases hbp : b = p
          · subst hbp; rw [upd_same] at hb; rw [← hb]; exact hv
          · rw [upd_ne hbp] at hb; exact k.sub b o hb, fun x hx => by
          have hx2 : x ∈ f2 := by simpa using p'.mem_iff.mp hx
          rw [upd_ne fun z => nd.2.2 p (by simp) x hx2 z.symm]
          exact k.own x (hp.mem_iff.mpr (List.mem_append_right _ hx2)), p'.nodup_iff.mpr (by simpa using nd.2.1)⟩
      cases h3 : t (s.set i (.val (.lst xs))) with
      | none => rw [h3] at hf; exact nomatch hf
      | some pp =>
        obtain ⟨d1, s1⟩ := pp
        simp only [h3, Option.map_some, Option.some.injEq, Prod.mk.injEq] at hf
        obtain ⟨rfl, rfl⟩ := hf
        refine ⟨_, _, fp', _, s1, k', sl', h3, fun H1 G1 fp1 E1 S1 pu => ?_⟩
        obtain ⟨gr, _⟩ := pu rfl
        have gr2 : Grow H G H1 (dropA G1 p) := ⟨gr.hs, fun a o ha => by
            have hne : a ≠ p := fun z => by rw [z, gp] at ha; cases ha
            unfold dropA
            rw [if_neg hne]
            exact gr.gs a o (by rw [upd_ne hne]; exact ha), fun a o ha => by
            unfold dropA at ha
            split at ha
            · cases ha
            · exact gr.sub a o ha, fun a ha => by
            unfold dropA
            by_cases hne : a = p
            · rw [if_pos hne, hne, gp]
            · rw [if_neg hne, gr.nw a ha, upd_ne hne]⟩
        exact q H1 (dropA G1 p) fp (gr2.ev k sl) (sl.step gr2) fun _ => ⟨gr2, rfl⟩
  · exact ⟨G, s, fp, d, s', k, sl, hf, q⟩
end

/-! ### what the top has left -/
structure DefAt (K : PySem.W.Frag) (mg : Str → Option Value) (nm : Str) (st : Stmt) (ps : List Str) where
  a : Addr
  d : FuncData
  F : Fun K nm nm st a d
  b : Binds K d ps []
  g : mg nm = some (.ref a)
def DefAt.mk' {K : PySem.W.Frag} {mg : Str → Option Value} {nm : Str} {st : Stmt} {ps : List Str} {h : Heap} (X : K.In h) (G : h.Ns mainGlobals mg) {f : Addr} {od an : Option Addr} {sl : Array (Option Value)} {oc kV dc pm cd ct : Value}
    (a : PySem.W.nsIn K mainGlobals nm = some (some (.ref f))) (l : K.lookup f = some ⟨oc, od, .func (PySem.W.fnOf nm nm (defArgs st) (defBody st) (defScope st) .none kV dc pm an cd ct), sl⟩) (c : PySem.W.codeIn K cd nm = true) (k : PySem.W.keepIn K (.ref f) = true)
    (hb : ∀ (kV doc pm : Value) (an : Option Addr) (cdv ct : Value) (us : List Value), us.length = ps.length → bindArgs (PySem.W.fnOf nm nm (defArgs st) (defBody st) (defScope st) .none kV doc pm an cdv ct) ⟨us, []⟩ = pure (ps.zip us)) : DefAt K mg nm st ps :=
  ⟨f, _, fun_mk l c k, (fun_mk l c k).binds hb, PySem.W.mg_of X G a⟩
/-- a module's constant -/
structure ConstAt (K : PySem.W.Frag) (mg : Str → Option Value) (nm : Str) (d : D) where
  u : Value
  v : V
  g : mg nm = some u
  r : RelV v u
  p : ∀ G, Rep K G v d
def ConstAt.str {K : PySem.W.Frag} {mg : Str → Option Value} {nm x : Str} {t : Tok} (g : mg nm = some (.str x t)) : ConstAt K mg nm (.str x) := ⟨_, .str x, g, ⟨t, rfl⟩, fun _ => .str x⟩
def ConstAt.int {K : PySem.W.Frag} {mg : Str → Option Value} {nm : Str} {x : Int} {t : Tok} (g : mg nm = some (.int x t)) : ConstAt K mg nm (.int x) := ⟨_, .int x, g, ⟨t, rfl⟩, fun _ => .int x⟩
theorem reps_ints {K : PySem.W.Frag} {G : Hp} : ∀ ns : List Int, Reps K G (ns.map V.int) (ns.map D.int)
  | [] => .nil
  | y :: ys => .cons (.int y) (reps_ints ys)
def ConstAt.tupI {K : PySem.W.Frag} {mg : Str → Option Value} {nm : Str} {p : Addr} {e : Option Addr} {its : Array Value} {n : Nat} {sl : Array (Option Value)} (g : mg nm = some (.ref p)) (l : K.lookup p = some ⟨.type "tuple", e, .seq its n, sl⟩) (ns : List Int) (hv : Vals (ns.map V.int) its.toList) (hz : ns.length ≤ 1000 := by decide) : ConstAt K mg nm (.tup (ns.map D.int)) :=
  ⟨_, .ref p, g, rfl, fun _ => .tup (.inr ⟨_, its, n, l, rfl, rfl, by
    have := hv.length
    rw [List.length_map, Array.length_toList] at this
    rw [line_eq]; exact Nat.le_trans (Nat.le_of_eq this.symm) (Nat.le_trans hz (by decide)), hv⟩) (reps_ints ns)⟩
/-- the law's own promise, met -/
theorem spP_law {c : Cc} {m : List D → Option D} {a : Addr} {ns : List Int} {H : Hp} {Q : VK} {E : XK} (h : m [.lst (ns.map D.int)] = some (.bl true)) (hs : SqL c.K H a (ns.map V.int)) (q : ∀ H', Q (.bl true) H') : spP c m [.ref a] H Q E :=
  ⟨H, [.lst (ns.map D.int)], _, Same.refl _, .cons (.lst hs (reps_ints ns)) .nil, h, fun v H' G' g r => by cases r; exact q H'⟩
end DL
/-! DL 10: more rules. -/
namespace DL
open PySem PySem.Spec PyProof.Rows L2
section
variable {c : Cc} {X : Cx} {pins : List Nat} {b1 b2 b3 : Bool} {f g h : EF} {t : BF} {fa fi : AF} {pos : Pos} {e o : Expr} {es : List Expr}
variable {H H1 H2 G G1 G2 : Hp} {s s1 s2 : S} {fp fp1 fp2 : List Addr} {σ σ1 σ2 : L2.St} {Z : Ends}
/-! ### a list of one's own + a list -/
def eCat (i : Nat) (g : EF) : EF := fun s => match s[i]? with
  | some (.lst xs) => (g s).bind fun p => match p.1 with
    | .lst ys => if xs.length + ys.length ≤ cap then some (.lst (xs ++ ys), p.2) else none
    | _ => none
  | _ => none
theorem ex_cat (i : Nat) {x : Str} {p : Pos} (hb : PE X e (tE c true g)) (hN : X.N[i]? = some x := by rfl) (hv : Vis X.env.scope x := by first | exact Or.inl rfl | exact Or.inr (Or.inl rfl)) (hd : (x == ("__debug__" : Str)) = false := by decide) (hcd : (x == ("__classdict__" : Str)) = false := by decide)
    (hK : X.K = c.K := by rfl) : PE X (.BinOp (.Name x p) .Add e pos) (tE c true (eCat i g)) := PE_imp (pe_op op_catS (pe_var hN hv hd hcd) hb) fun σ H Q ⟨G, s, fp, d, s', k, sl, hf, q⟩ => by
  unfold eCat at hf
  split at hf
  · rename_i xs hx
    obtain ⟨v, f1, f2, h1, h2, hp, hk⟩ := sl.split hx (by simp)
    cases h2 with
    | @lst p vs _ hv r =>
      cases h3 : g s with
      | none => rw [h3] at hf; exact nomatch hf
      | some pp =>
        obtain ⟨d2, s2⟩ := pp
        simp only [h3, Option.bind_some] at hf
        split at hf
        · rename_i ys
          split at hf
          · rename_i hc
            cases hf
            refine ⟨_, h1, ⟨G, s, fp, _, _, k, sl, h3, fun w H1 G1 fp1 E1 S1 r1 pu => ?_⟩⟩
            obtain ⟨gr, rfl⟩ := pu rfl
            cases r1 with
            | @lst p2 vs2 _ t2 r2 =>
              refine ⟨_, _, vs, _, rfl, rfl, SqL.of (gr.hs _ _ hv), hK ▸ Same.sqL E1.sub t2, by rw [r.length, r2.length]; exact Nat.le_trans hc cap_line, fun p' hp' => ?_⟩
              have g2 := gr.trans (Grow.alloc (o := .lst (vs ++ vs2)) E1.sub hp')
              exact q _ _ _ _ (g2.ev k sl) (sl.step g2) (.lst (SqL.of upd_same) (((r.mono gr.gs).append r2).mono (same_upd (E1.sub.free hp')))) fun _ => ⟨g2, rfl⟩
          · exact nomatch hf
        · exact nomatch hf
  · exact nomatch hf
end
end DL
/-! ### reckoning with the functions -/
namespace DL
open PySem PySem.Spec PyProof.Rows L2
section
variable {s : S} {f g h : EF} {fa : AF} {t u : BF} {x y : D} {i j : Int}
@[simp] theorem v_eVar {n : Nat} : eVar n s = match s[n]? with
  | some (.val d) => some (d, s)
  | _ => none := rfl
@[simp] theorem v_eC : eC x s = some (x, s) := rfl
@[simp] theorem v_e1 {op : D → Option D} : e1 op f s = (f s).bind fun p => (op p.1).map fun z => (z, p.2) := rfl
@[simp] theorem v_e2 {op : D → D → Option D} : e2 op f g s = (f s).bind fun p => (g p.2).bind fun q => (op p.1 q.1).map fun z => (z, q.2) := rfl
@[simp] theorem v_aNil : aNil s = some ([], s) := rfl
@[simp] theorem v_aCons : aCons f fa s = (f s).bind fun p => (fa p.2).map fun q => (p.1 :: q.1, q.2) := rfl
@[simp] theorem v_eTup : eTup fa s = (fa s).bind fun p => if p.1.length ≤ cap then some (.tup p.1, p.2) else none := rfl
@[simp] theorem v_eLst : eLst fa s = (fa s).bind fun p => if p.1.length ≤ cap then some (.lst p.1, p.2) else none := rfl
@[simp] theorem v_eCat {n : Nat} : eCat n f s = match s[n]? with
  | some (.lst xs) => (f s).bind fun p => match p.1 with
    | .lst ys => if xs.length + ys.length ≤ cap then some (.lst (xs ++ ys), p.2) else none
    | _ => none
  | _ => none := rfl
@[simp] theorem v_nLst : nLst fa s = (fa s).bind fun p => if p.1.length ≤ cap then some p else none := rfl
@[simp] theorem v_bTst : bTst f s = (f s).bind fun p => (truth p.1).map fun z => (z, p.2) := rfl
@[simp] theorem v_bAnd : bAnd t u s = (t s).bind fun p => if p.1 = true then u p.2 else some (false, p.2) := rfl
@[simp] theorem v_bOr : bOr t u s = (t s).bind fun p => if p.1 = true then some (true, p.2) else u p.2 := rfl
@[simp] theorem v_bNot : bNot t s = (t s).map fun p => (!p.1, p.2) := rfl
@[simp] theorem v_bYes : bYes s = some (true, s) := rfl
@[simp] theorem v_eAnd : eAnd f g s = (f s).bind fun p => (truth p.1).bind fun k => if k = true then g p.2 else some p := rfl
@[simp] theorem v_eOr : eOr f g s = (f s).bind fun p => (truth p.1).bind fun k => if k = true then some p else g p.2 := rfl
@[simp] theorem v_eNot : eNot f s = (f s).bind fun p => (truth p.1).map fun k => (.bl (!k), p.2) := rfl
@[simp] theorem v_eIf : eIf t f g s = (t s).bind fun p => if p.1 = true then f p.2 else g p.2 := rfl
@[simp] theorem v_oNo : oNo s = some (none, s) := rfl
@[simp] theorem v_oSome : oSome f s = (f s).bind fun p => match p.1 with
  | .int i => some (some i, p.2)
  | _ => none := rfl
@[simp] theorem v_eCut {lo hi : S → Option (Option Int × S)} : eCut f lo hi s = (f s).bind fun p => (lo p.2).bind fun q => (hi q.2).bind fun r => (dCut p.1 q.1 r.1).map fun z => (z, r.2) := rfl
@[simp] theorem v_eCall {m : List D → Option D} : eCall m fa s = (fa s).bind fun p => (m p.1).map fun z => (z, p.2) := rfl
@[simp] theorem v_nCall {m : List D → Option (List D)} : nCall m fa s = (fa s).bind fun p => (m p.1).map fun z => (z, p.2) := rfl
@[simp] theorem v_eOfN : eOfN fa s = (fa s).map fun p => (.lst p.1, p.2) := rfl
@[simp] theorem v_sNext : sNext s = some (.next s) := rfl
@[simp] theorem v_sSeq {f g : SF} : sSeq f g s = (f s).bind fun fl => match fl with
  | .next s' => g s'
  | fl => some fl := rfl
@[simp] theorem v_sIf {f g : SF} : sIf t f g s = (t s).bind fun p => if p.1 = true then f p.2 else g p.2 := rfl
@[simp] theorem v_sRet : sRet f s = (f s).map fun p => .ret (.d p.1) p.2 := rfl
@[simp] theorem v_sRetN : sRetN s = some (.ret (.d .non) s) := rfl
@[simp] theorem v_sRetNew : sRetNew fa s = (fa s).map fun p => .ret (.n p.1) p.2 := rfl
@[simp] theorem v_sBrk : sBrk s = some (.brk s) := rfl
@[simp] theorem v_sCont : sCont s = some (.cont s) := rfl
@[simp] theorem v_sDrop : sDrop f s = (f s).map fun p => .next p.2 := rfl
@[simp] theorem v_sAsg {g : GF} : sAsg f g s = (f s).bind fun p => (g p.1 p.2).map .next := rfl
@[simp] theorem v_gN {n : Nat} : gN n x s = if n < s.length then some (s.set n (.val x)) else none := rfl
@[simp] theorem v_gTup {g : List D → S → Option S} {xs : List D} : gTup g (.tup xs) s = g xs s := rfl
@[simp] theorem v_gsNil : gsNil [] s = some s := rfl
@[simp] theorem v_gsCons {g : GF} {r : List D → S → Option S} {ds : List D} : gsCons g r (x :: ds) s = (g x s).bind (r ds) := rfl
@[simp] theorem v_gIx {k : Nat} : gIx k f x s = match s[k]? with
  | some (.lst _) => (f s).bind fun p => match p.1, p.2[k]? with
    | .int i, some (.lst xs) => (ixN xs.length i).map fun j => p.2.set k (.lst (xs.set j x))
    | _, _ => none
  | _ => none := rfl
@[simp] theorem v_sPar {n m : Nat} : sPar n m fa s = (fa s).bind fun p => match p.1 with
  | [v, w] => if n < p.2.length ∧ m < p.2.length then some (.next ((p.2.set n (.val v)).set m (.val w))) else none
  | _ => none := rfl
@[simp] theorem v_sNew {n : Nat} : sNew n fa s = (fa s).bind fun p => if n < p.2.length then some (.next (p.2.set n (.lst p.1))) else none := rfl
@[simp] theorem v_sApp {n : Nat} : sApp n f s = match s[n]? with
  | some (.lst _) => (f s).bind fun p => match p.2[n]? with
    | some (.lst xs) => if xs.length < cap then some (.next (p.2.set n (.lst (xs ++ [p.1])))) else none
    | _ => none
  | _ => none := rfl
@[simp] theorem v_forD_nil {g : GF} {fb : SF} : forD g fb [] s = some (.next s) := rfl
theorem v_forD_cons {g : GF} {fb : SF} {xs : List D} : forD g fb (x :: xs) s = (g x s).bind fun s1 => (fb s1).bind fun fl => match fl with
    | .next s2 => forD g fb xs s2
    | .cont s2 => forD g fb xs s2
    | .brk s2 => some (.next s2)
    | .ret d s2 => some (.ret d s2) := rfl
theorem forD_inv {g : GF} {fb : SF} (I : S → Prop) : ∀ (xs : List D) (s : S), (∀ x ∈ xs, ∀ s, I s → ∃ s1 s2, g x s = some s1 ∧ fb s1 = some (.next s2) ∧ I s2) → I s → ∃ s', forD g fb xs s = some (.next s') ∧ I s'
  | [], s, _, i => ⟨s, rfl, i⟩
  | x :: xs, s, h, i => by
    obtain ⟨s1, s2, h1, h2, h3⟩ := h x (by simp) s i
    obtain ⟨s', h4, h5⟩ := forD_inv I xs s2 (fun y hy => h y (by simp [hy])) h3
    exact ⟨s', by rw [v_forD_cons, h1, Option.bind_some, h2]; exact h4, h5⟩
@[simp] theorem v_sFor {g : GF} {fb : SF} : sFor fa g fb s = (fa s).bind fun p => forD g fb p.1 p.2 := rfl
@[simp] theorem v_iSeq : iSeq f s = (f s).bind fun p => (items p.1).map fun xs => (xs, p.2) := rfl
theorem lcD_fm {α : Type} {g : GF} {ft : BF} {fe : EF} {own : List Nat} {s : S} (f : α → D) (e : α → Option D) : ∀ (l : List α) (acc : List D),
    (∀ a ∈ l, ∃ s1 k s2, g (f a) s = some s1 ∧ ft s1 = some (k, s2) ∧ if k = true then ∃ d s3, fe s2 = some (d, s3) ∧ e a = some d ∧ wipeS s3 own = s else e a = none ∧ wipeS s2 own = s) → acc.length + l.length ≤ cap →
    lcD g ft fe own (l.map f) s acc = some (acc ++ l.filterMap e, s)
  | [], acc, _, _ => by simp [lcD]
  | a :: l, acc, h, hl => by
    obtain ⟨s1, k, s2, h1, h2, h3⟩ := h a (by simp)
    have hl2 : acc.length + (l.length + 1) ≤ cap := hl
    cases k with
    | true =>
      simp only [if_true] at h3
      obtain ⟨d, s3, h4, h5, h6⟩ := h3
      have := lcD_fm (g := g) (ft := ft) (fe := fe) (own := own) (s := s) f e l (acc ++ [d]) (fun b hb => h b (by simp [hb])) (by simp; omega)
      simp only [List.map_cons, lcD, h1, Option.bind_some, h2, if_true, h4, h6, this]
      rw [if_pos (by omega)]
      simp [h5]
    | false =>
      simp only [Bool.false_eq_true, if_false] at h3
      have := lcD_fm (g := g) (ft := ft) (fe := fe) (own := own) (s := s) f e l acc (fun b hb => h b (by simp [hb])) (by omega)
      simp only [List.map_cons, lcD, h1, Option.bind_some, h2, Bool.false_eq_true, if_false, h3.2, this]
      simp [h3.1]
theorem lcD_map {α : Type} {g : GF} {fe : EF} {own : List Nat} {s : S} (f : α → D) (e : α → D) (l : List α)
    (h : ∀ a ∈ l, ∃ s1 s3, g (f a) s = some s1 ∧ fe s1 = some (e a, s3) ∧ wipeS s3 own = s) (hl : l.length ≤ cap) :
    lcD g bYes fe own (l.map f) s [] = some (l.map e, s) := by
  rw [lcD_fm f (fun a => some (e a)) l [] (fun a ha => ?_) (by simpa using hl)]
  · simp
  · obtain ⟨s1, s3, h1, h2, h3⟩ := h a ha
    exact ⟨s1, true, s1, h1, rfl, by simp only [if_true]; exact ⟨_, s3, h2, rfl, h3⟩⟩
@[simp] theorem v_aLc {own : List Nat} {g : GF} {ft : BF} : aLc own fa g ft f s = (fa s).bind fun p => if plainS p.2 own = true then (lcD g ft f own p.1 (wipeS p.2 own) []).map fun q => (q.1, restS p.2 q.2 own) else none := rfl
@[simp] theorem v_eLc {own : List Nat} {g : GF} {ft : BF} : eLc own fa g ft f s = (aLc own fa g ft f s).map fun p => (.lst p.1, p.2) := rfl
@[simp] theorem v_wipe0 : wipeS s [] = s := rfl
@[simp] theorem v_wipe1 {v : Nat} {vs : List Nat} : wipeS s (v :: vs) = (wipeS s vs).set v .un := rfl
@[simp] theorem v_rest0 {s0 : S} : restS s0 s [] = s := rfl
@[simp] theorem v_rest1 {s0 : S} {v : Nat} {vs : List Nat} : restS s0 s (v :: vs) = match s0[v]? with
    | some (.val d) => (restS s0 s vs).set v (.val d)
    | _ => restS s0 s vs := rfl
@[simp] theorem v_plain0 : plainS s [] = true := rfl
@[simp] theorem v_plain1 {v : Nat} {vs : List Nat} : plainS s (v :: vs) = ((match s[v]? with
  | some o => plainO o
  | none => true) && plainS s vs) := rfl
@[simp] theorem v_plUn : plainO .un = true := rfl
@[simp] theorem v_plVal {d : D} : plainO (.val d) = true := rfl
@[simp] theorem v_itT {xs : List D} : items (.tup xs) = some xs := rfl
@[simp] theorem v_itL {xs : List D} : items (.lst xs) = some xs := rfl
theorem boolsD_map {α : Type} (e : α → Bool) : ∀ l : List α, boolsD (l.map fun a => .bl (e a)) = some (l.map e)
  | [] => rfl
  | a :: l => by simp [boolsD, boolsD_map e l]
theorem intsD_map {α : Type} (e : α → Int) : ∀ l : List α, intsD (l.map fun a => .int (e a)) = some (l.map e)
  | [] => rfl
  | a :: l => by simp [intsD, intsD_map e l]
theorem strsD_map {α : Type} (e : α → Str) : ∀ l : List α, strsD (l.map fun a => .str (e a)) = some (l.map e)
  | [] => rfl
  | a :: l => by simp [strsD, strsD_map e l]
theorem v_atN {xs : List D} {n : Nat} : atI xs (n : Int) = xs[n]? := by
  unfold atI ixN
  rw [if_pos (by omega)]
  by_cases h : (n : Int) < (xs.length : Nat)
  · rw [if_pos h]; simp
  · rw [if_neg h]
    have : xs[n]? = none := List.getElem?_eq_none (by omega)
    simp [this]
theorem v_dIxT {xs : List D} {n : Nat} : dIx (.tup xs) (.int (n : Int)) = xs[n]? := v_atN
theorem v_dIxL {xs : List D} {n : Nat} : dIx (.lst xs) (.int (n : Int)) = xs[n]? := v_atN
@[simp] theorem v_ixt {xs : List D} {z : D} : dIx (.tup (z :: xs)) (.int 0) = some z := v_dIxT (n := 0)
@[simp] theorem v_ixt1 {xs : List D} {z z' : D} : dIx (.tup (z' :: z :: xs)) (.int 1) = some z := v_dIxT (n := 1)
@[simp] theorem v_ixt2 {xs : List D} {z z' z'' : D} : dIx (.tup (z'' :: z' :: z :: xs)) (.int 2) = some z := v_dIxT (n := 2)
@[simp] theorem v_ixl {xs : List D} {z : D} : dIx (.lst (z :: xs)) (.int 0) = some z := v_dIxL (n := 0)
@[simp] theorem v_ixl1 {xs : List D} {z z' : D} : dIx (.lst (z' :: z :: xs)) (.int 1) = some z := v_dIxL (n := 1)
@[simp] theorem v_ixl2 {xs : List D} {z z' z'' : D} : dIx (.lst (z'' :: z' :: z :: xs)) (.int 2) = some z := v_dIxL (n := 2)
@[simp] theorem v_addI : dAdd (.int i) (.int j) = some (.int (i + j)) := rfl
@[simp] theorem v_addL : dAddL (.int i) (.int j) = some (.int (i + j)) := rfl
@[simp] theorem v_subI : dSub (.int i) (.int j) = some (.int (i - j)) := rfl
@[simp] theorem v_ltI : dLt (.int i) (.int j) = some (.bl (decide (i < j))) := rfl
@[simp] theorem v_leI : dLe (.int i) (.int j) = some (.bl (decide (i ≤ j))) := rfl
@[simp] theorem v_gtI : dGt (.int i) (.int j) = some (.bl (decide (j < i))) := rfl
@[simp] theorem v_geI : dGe (.int i) (.int j) = some (.bl (decide (j ≤ i))) := rfl
@[simp] theorem v_negI : dNeg (.int i) = some (.int (-i)) := rfl
@[simp] theorem v_tN : truth .non = some false := rfl
@[simp] theorem v_tB {b : Bool} : truth (.bl b) = some b := rfl
@[simp] theorem v_tI : truth (.int i) = some (i != 0) := rfl
@[simp] theorem v_tT {xs : List D} : truth (.tup xs) = some (!xs.isEmpty) := rfl
@[simp] theorem v_tL {xs : List D} : truth (.lst xs) = some (!xs.isEmpty) := rfl
@[simp] theorem v_okN {n : Nat} : okD n .non = true := by cases n <;> rfl
@[simp] theorem v_okB {n : Nat} {b : Bool} : okD n (.bl b) = true := by cases n <;> rfl
@[simp] theorem v_okI {n : Nat} : okD n (.int i) = true := by cases n <;> rfl
@[simp] theorem v_eqI : dEq (.int i) (.int j) = some (.bl (decide (i = j))) := by simp [dEq, eqD, toPy]; rfl
@[simp] theorem v_neI : dNe (.int i) (.int j) = some (.bl (decide (i ≠ j))) := by simp [dNe, eqD, toPy]; rfl
end
end DL
/-! ### numbers: the program's pairs are the rational numbers -/
namespace DL
open PySem PySem.Spec PyProof.Rows L2
def numD (q : Rat) : D := .tup [.int q.num, .int q.den]
theorem numD_inj {p q : Rat} : numD p = numD q ↔ p = q := ⟨fun h => by
  simp only [numD, D.tup.injEq, List.cons.injEq, D.int.injEq, and_true] at h
  exact Rat.ext h.1 (by omega), fun h => h ▸ rfl⟩
@[simp] theorem ok_numD {q : Rat} {n : Nat} : okD (n + 1) (numD q) = true := by simp [numD, okD, okL]
theorem eqD_numD {p q : Rat} : eqD (numD p) (numD q) = decide (p = q) := by
  simp only [eqD, numD, toPy, toPyL, PyData.eqv, PyData.eqvAll]
  rw [Bool.eq_iff_iff]
  simp only [Bool.and_true, Bool.and_eq_true, beq_iff_eq, decide_eq_true_eq]
  exact ⟨fun h => Rat.ext h.1 (by omega), fun h => h ▸ ⟨rfl, rfl⟩⟩
@[simp] theorem dEq_numD {p q : Rat} : dEq (numD p) (numD q) = some (.bl (decide (p = q))) := by simp [dEq, eqD_numD]
@[simp] theorem dNe_numD {p q : Rat} : dNe (numD p) (numD q) = some (.bl (decide (p ≠ q))) := by simp [dNe, eqD_numD]
/-- small tops and bottoms -/
def Sz (n : Nat) (q : Rat) : Prop := q.num.natAbs < 2 ^ n ∧ q.den < 2 ^ n
theorem Sz.mono {n m : Nat} {q : Rat} (h : Sz n q) (l : n ≤ m) : Sz m q := ⟨Nat.lt_of_lt_of_le h.1 (Nat.pow_le_pow_right (by decide) l), Nat.lt_of_lt_of_le h.2 (Nat.pow_le_pow_right (by decide) l)⟩
theorem Sz.divInt {t b : Int} {n : Nat} (h : t.natAbs < 2 ^ n) (h1 : b.natAbs < 2 ^ n) (n0 : 0 < n) : Sz n (Rat.divInt t b) := by
  constructor
  · rw [Rat.num_divInt]
    refine Nat.lt_of_le_of_lt ?_ h
    rw [Int.natAbs_ediv_of_dvd (Int.dvd_trans (Int.gcd_dvd_right ..) (Int.dvd_mul_left ..)), Int.natAbs_mul]
    refine Nat.le_trans (Nat.div_le_self _ _) ?_
    have : b.sign.natAbs ≤ 1 := by rw [Int.natAbs_sign]; split <;> omega
    exact Nat.le_trans (Nat.mul_le_mul_right _ this) (by omega)
  · rw [Rat.den_divInt]
    split
    · exact Nat.one_lt_two_pow (by omega)
    · exact Nat.lt_of_le_of_lt (Nat.div_le_self _ _) h1
theorem lt2_mul {a b n m : Nat} (h : a < 2 ^ n) (h1 : b < 2 ^ m) : a * b < 2 ^ (n + m) := by
  rw [Nat.pow_add]
  exact Nat.mul_lt_mul'' h h1
theorem Rat.add_divInt' (p q : Rat) : p + q = Rat.divInt (p.num * q.den + q.num * p.den) (p.den * q.den) := by
  have h := Rat.divInt_add_divInt p.num q.num (d₁ := p.den) (d₂ := q.den) (by have := p.den_nz; omega) (by have := q.den_nz; omega)
  rwa [Rat.num_divInt_den, Rat.num_divInt_den] at h
theorem Rat.mul_divInt' (p q : Rat) : p * q = Rat.divInt (p.num * q.num) (p.den * q.den) := by
  have h := Rat.divInt_mul_divInt p.num q.num (d₁ := p.den) (d₂ := q.den)
  rwa [Rat.num_divInt_den, Rat.num_divInt_den] at h
theorem Rat.sub_divInt' (p q : Rat) : p - q = Rat.divInt (p.num * q.den - q.num * p.den) (p.den * q.den) := by
  rw [Rat.sub_eq_add_neg, Rat.add_divInt', show (-q).num = -q.num from rfl, show (-q).den = q.den from rfl]
  congr 1
  rw [Int.neg_mul]; rfl
theorem Sz.addn {n m k : Nat} {p q : Rat} (h : Sz n p) (h1 : Sz m q) (l : n + m + 1 ≤ k) : Sz k (p + q) := by
  refine Sz.mono (n := n + m + 1) ?_ l
  rw [Rat.add_divInt']
  have a := lt2_mul h.1 h1.2
  have b := lt2_mul h1.1 h.2
  have d := lt2_mul h.2 h1.2
  rw [Nat.add_comm m n] at b
  refine .divInt ?_ ?_ (by omega)
  · rw [Nat.pow_succ]
    have := Int.natAbs_add_le (p.num * q.den) (q.num * p.den)
    simp only [Int.natAbs_mul, Int.natAbs_natCast] at this
    omega
  · rw [Nat.pow_succ]
    simp only [Int.natAbs_mul, Int.natAbs_natCast]
    omega
theorem Sz.neg {n : Nat} {p : Rat} (h : Sz n p) : Sz n (-p) := ⟨by rw [show (-p).num = -p.num from rfl, Int.natAbs_neg]; exact h.1, h.2⟩
theorem Sz.subn {n m k : Nat} {p q : Rat} (h : Sz n p) (h1 : Sz m q) (l : n + m + 1 ≤ k) : Sz k (p - q) := by
  rw [Rat.sub_eq_add_neg]
  exact h.addn h1.neg l
theorem Sz.muln {n m k : Nat} {p q : Rat} (h : Sz n p) (h1 : Sz m q) (l : n + m + 1 ≤ k) : Sz k (p * q) := by
  refine Sz.mono (n := n + m + 1) ?_ l
  rw [Rat.mul_divInt']
  have a := lt2_mul h.1 h1.1
  have d := lt2_mul h.2 h1.2
  refine .divInt ?_ ?_ (by omega)
  · rw [Nat.pow_succ, Int.natAbs_mul]
    omega
  · rw [Nat.pow_succ]
    simp only [Int.natAbs_mul, Int.natAbs_natCast]
    omega
theorem Rat.div_divInt' (p q : Rat) (h : q ≠ 0) : p / q = Rat.divInt (p.num * q.den) (p.den * q.num) := by
  have hq : q = Rat.divInt q.num q.den := (Rat.num_divInt_den q).symm
  have hp : p = Rat.divInt p.num p.den := (Rat.num_divInt_den p).symm
  have n1 : (q.num : Rat) ≠ 0 := by
    intro z
    have : q.num = 0 := by exact_mod_cast z
    exact h (Rat.num_eq_zero.mp this)
  have n2 : ((q.den : Int) : Rat) ≠ 0 := by
    intro z
    have : (q.den : Int) = 0 := by exact_mod_cast z
    have := q.den_nz
    omega
  have n3 : ((p.den : Int) : Rat) ≠ 0 := by
    intro z
    have : (p.den : Int) = 0 := by exact_mod_cast z
    have := p.den_nz
    omega
  rw [Rat.divInt_eq_div] at hq hp ⊢
  rw [Rat.intCast_mul, Rat.intCast_mul]
  generalize (q.num : Rat) = qn at *
  generalize ((q.den : Int) : Rat) = qd at *
  generalize (p.num : Rat) = pn at *
  generalize ((p.den : Int) : Rat) = pd at *
  rw [hp, hq]
  grind
theorem Sz.divn {n m k : Nat} {p q : Rat} (h : Sz n p) (h1 : Sz m q) (z : q ≠ 0) (l : n + m + 1 ≤ k) : Sz k (p / q) := by
  refine Sz.mono (n := n + m + 1) ?_ l
  rw [Rat.div_divInt' _ _ z]
  have a := lt2_mul h.1 h1.2
  have d := lt2_mul h.2 h1.1
  refine .divInt ?_ ?_ (by omega)
  · rw [Nat.pow_succ]
    simp only [Int.natAbs_mul, Int.natAbs_natCast]
    omega
  · rw [Nat.pow_succ]
    simp only [Int.natAbs_mul, Int.natAbs_natCast]
    omega
theorem log2_of {a n : Nat} (h : a < 2 ^ n) (n0 : 0 < n) : a.log2 < n := by
  by_cases z : a = 0
  · subst z; simpa using n0
  · exact (Nat.log2_lt z).mpr h
end DL
/-! ### texts of numbers -/
namespace DL
open PySem PySem.Spec PyProof.Rows L2 TL
def numT (i : Int) : Str := Str.ofString (toString i)
def numS (i : Int) : List Nat := if i < 0 then 45 :: numL i.natAbs else numL i.natAbs
theorem tl_numT (i : Int) : tl (numT i) = numS i := by
  unfold numT numS
  cases i with
  | ofNat n => rw [if_neg (by have := Int.natCast_nonneg n; exact Int.not_lt.mpr this)]; exact tl_num n
  | negSucc m =>
    rw [if_pos (Int.negSucc_lt_zero m)]
    have e : toString (Int.negSucc m) = "-" ++ toString ((m + 1 : Nat) : Int) := rfl
    rw [e, tl_ofString, String.toList_append, List.map_append, ← tl_ofString (toString ((m + 1 : Nat) : Int)), tl_num]
    rfl
theorem tl_len (x : Str) : x.length = (tl x).length := len_tl x
theorem ext_tl' {x y : Str} : x = y ↔ tl x = tl y := ⟨fun h => h ▸ rfl, ext_tl⟩
theorem numL_cons (n : Nat) : ∃ c cs, numL n = c :: cs ∧ 48 ≤ c ∧ c ≤ 57 ∧ (c = 48 → n = 0) := by
  induction n using Nat.strongRecOn with
  | _ n ih =>
    by_cases h : n < 10
    · rw [numL_lt h]
      exact ⟨_, _, rfl, by omega, by omega, fun e => by omega⟩
    · rw [numL_step (by omega)]
      obtain ⟨c, cs, e, h1, h2, h3⟩ := ih (n / 10) (by omega)
      exact ⟨c, cs ++ [48 + n % 10], by rw [e]; rfl, h1, h2, fun z => by have := h3 z; omega⟩
set_option exponentiation.threshold 10000 in
theorem pow_1900 : (2 : Nat) ^ 1900 ≤ 10 ^ 600 := by decide +kernel
theorem numS_len {i : Int} (h : i.natAbs < 2 ^ 1900) : (numS i).length ≤ 601 := by
  have := numL_len (n := i.natAbs) (k := 600) (by decide) (Nat.lt_of_lt_of_le h pow_1900)
  unfold numS
  split <;> simp <;> omega
theorem int_numT {i : Int} (h : i.natAbs < 2 ^ 1900) : intText? (numT i) = some i := by
  have hl := numS_len h
  have e := tl_numT i
  unfold numS at e hl
  by_cases h0 : i < 0
  · rw [if_pos h0] at e hl
    rw [intText_neg e (numL_digits _) (numL_ne _) (by rw [len_tl, e]; omega), numL_val]
    congr 1; omega
  · rw [if_neg h0] at e hl
    rw [intText_digits (by rw [show (numT i).cps.toList = numL i.natAbs from e]; exact numL_digits _) (by rw [show (numT i).cps.toList = numL i.natAbs from e]; exact numL_ne _) (by rw [len_tl, e]; omega), show (numT i).cps.toList = numL i.natAbs from e, numL_val]
    congr 1; omega
@[simp] theorem ok_str {x : Str} {n : Nat} : okD n (.str x) = PyData.strOk x := by cases n <;> rfl
theorem dEq_str {x y : Str} (h : PyData.strOk x = true) (h1 : PyData.strOk y = true) : dEq (.str x) (.str y) = some (.bl (decide (tl x = tl y))) := by
  simp only [dEq, ok_str, h, h1, and_self, if_true, eqD, toPy, PyData.eqv]
  congr 2
  rw [Bool.eq_iff_iff, beq_iff_eq, decide_eq_true_eq, ext_tl']
theorem dNe_str {x y : Str} (h : PyData.strOk x = true) (h1 : PyData.strOk y = true) : dNe (.str x) (.str y) = some (.bl (!decide (tl x = tl y))) := by
  simp only [dNe, ok_str, h, h1, and_self, if_true, eqD, toPy, PyData.eqv]
  congr 3
  rw [Bool.eq_iff_iff, beq_iff_eq, decide_eq_true_eq, ext_tl']
theorem strOk_tl {x : Str} (h : ∀ c ∈ tl x, c < 256) : PyData.strOk x = true := by
  unfold PyData.strOk
  rw [← Array.all_toList, List.all_eq_true]
  exact fun c hc => decide_eq_true (Nat.lt_trans (h c hc) (by decide))
theorem numL_256 {n : Nat} : ∀ c ∈ numL n, c < 256 := fun c hc => by have := numL_digits n c hc; omega
theorem numS_256 {i : Int} : ∀ c ∈ numS i, c < 256 := fun c hc => by
  unfold numS at hc
  split at hc
  · rcases List.mem_cons.mp hc with rfl | hc
    · decide
    · exact numL_256 c hc
  · exact numL_256 c hc
/-- a number's text -/
def showQ (q : Rat) : Str := if q.den = 1 then numT q.num else numT q.num ++ ("/" : Str) ++ numT q.den
end DL
namespace Gn
open PySem PySem.Spec PyProof.Rows L2 DL
def topS (i : Nat) : Stmt := PySem.Challenge.pw_levelcord_k06_whole_numbers_agree.main.body.getD i (.Pass ⟨0, 0, 0, 0⟩)
abbrev s_is_whole : Stmt := topS 5
theorem sc_is_whole : FnScope ["thing"] ["thing"] (defScope s_is_whole) := ⟨rfl, rfl, rfl, by decide +kernel, rfl, by decide +kernel, by decide +kernel⟩
abbrev s_common : Stmt := topS 6
theorem sc_common : FnScope ["one", "other"] ["one", "other"] (defScope s_common) := ⟨rfl, rfl, rfl, by decide +kernel, rfl, by decide +kernel, by decide +kernel⟩
abbrev s_is_number : Stmt := topS 7
theorem sc_is_number : FnScope ["thing", "part"] ["thing"] (defScope s_is_number) := ⟨rfl, rfl, rfl, by decide +kernel, rfl, by decide +kernel, by decide +kernel⟩
abbrev s_number : Stmt := topS 8
theorem sc_number : FnScope ["top", "bottom", "both"] ["top", "bottom"] (defScope s_number) := ⟨rfl, rfl, rfl, by decide +kernel, rfl, by decide +kernel, by decide +kernel⟩
abbrev s_added : Stmt := topS 9
theorem sc_added : FnScope ["one", "other"] ["one", "other"] (defScope s_added) := ⟨rfl, rfl, rfl, by decide +kernel, rfl, by decide +kernel, by decide +kernel⟩
abbrev s_taken : Stmt := topS 10
theorem sc_taken : FnScope ["one", "other"] ["one", "other"] (defScope s_taken) := ⟨rfl, rfl, rfl, by decide +kernel, rfl, by decide +kernel, by decide +kernel⟩
abbrev s_multiplied : Stmt := topS 11
theorem sc_multiplied : FnScope ["one", "other"] ["one", "other"] (defScope s_multiplied) := ⟨rfl, rfl, rfl, by decide +kernel, rfl, by decide +kernel, by decide +kernel⟩
abbrev s_parted : Stmt := topS 12
theorem sc_parted : FnScope ["one", "other"] ["one", "other"] (defScope s_parted) := ⟨rfl, rfl, rfl, by decide +kernel, rfl, by decide +kernel, by decide +kernel⟩
abbrev s_is_less : Stmt := topS 13
theorem sc_is_less : FnScope ["one", "other"] ["one", "other"] (defScope s_is_less) := ⟨rfl, rfl, rfl, by decide +kernel, rfl, by decide +kernel, by decide +kernel⟩
abbrev s_show_number : Stmt := topS 16
theorem sc_show_number : FnScope ["one"] ["one"] (defScope s_show_number) := ⟨rfl, rfl, rfl, by decide +kernel, rfl, by decide +kernel, by decide +kernel⟩
abbrev s_are_figures : Stmt := topS 17
theorem sc_are_figures : FnScope ["text", "sign"] ["text"] (defScope s_are_figures) := ⟨rfl, rfl, rfl, by decide +kernel, rfl, by decide +kernel, by decide +kernel⟩
abbrev s_number_in : Stmt := topS 18
theorem sc_number_in : FnScope ["text", "top", "stroke", "bottom", "figures"] ["text"] (defScope s_number_in) := ⟨rfl, rfl, rfl, by decide +kernel, rfl, by decide +kernel, by decide +kernel⟩
abbrev s_read_number : Stmt := topS 19
theorem sc_read_number : FnScope ["text", "found"] ["text"] (defScope s_read_number) := ⟨rfl, rfl, rfl, by decide +kernel, rfl, by decide +kernel, by decide +kernel⟩
abbrev s__law_mixed : Stmt := topS 21
theorem sc__law_mixed : FnScope ["_law_cell"] ["_law_cell"] (defScope s__law_mixed) := ⟨rfl, rfl, rfl, by decide +kernel, rfl, by decide +kernel, by decide +kernel⟩
abbrev s__law_pack : Stmt := topS 22
theorem sc__law_pack : FnScope ["_law_script", "_law_k", "_law_found", "_law_at"] ["_law_script", "_law_k"] (defScope s__law_pack) := ⟨rfl, rfl, rfl, by decide +kernel, rfl, by decide +kernel, by decide +kernel⟩
abbrev s__law_take : Stmt := topS 23
theorem sc__law_take : FnScope ["_law_pack_here", "_law_size", "_law_digit"] ["_law_pack_here", "_law_size"] (defScope s__law_take) := ⟨rfl, rfl, rfl, by decide +kernel, rfl, by decide +kernel, by decide +kernel⟩
abbrev s__law_sums_right : Stmt := topS 24
theorem sc__law_sums_right : FnScope ["_law_a", "_law_b", "_law_c", "_law_product"] ["_law_a", "_law_b", "_law_c"] (defScope s__law_sums_right) := ⟨rfl, rfl, rfl, by decide +kernel, rfl, by decide +kernel, by decide +kernel⟩
abbrev s__law_parted_right : Stmt := topS 25
theorem sc__law_parted_right : FnScope ["_law_a", "_law_b"] ["_law_a", "_law_b"] (defScope s__law_parted_right) := ⟨rfl, rfl, rfl, by decide +kernel, rfl, by decide +kernel, by decide +kernel⟩
abbrev s__law_less_right : Stmt := topS 26
theorem sc__law_less_right : FnScope ["_law_a", "_law_b", "_law_c", "_law_under", "_law_above"] ["_law_a", "_law_b", "_law_c"] (defScope s__law_less_right) := ⟨rfl, rfl, rfl, by decide +kernel, rfl, by decide +kernel, by decide +kernel⟩
abbrev s__law_right : Stmt := topS 27
theorem sc__law_right : FnScope ["_law_a", "_law_b", "_law_c"] ["_law_a", "_law_b", "_law_c"] (defScope s__law_right) := ⟨rfl, rfl, rfl, by decide +kernel, rfl, by decide +kernel, by decide +kernel⟩
abbrev s_law : Stmt := topS 28
theorem sc_law : FnScope ["_law_script", "_law_k", "_law_pack_here", "_law_some", "_law_turn", "_law_top", "_law_one"] ["_law_script"] (defScope s_law) := ⟨rfl, rfl, rfl, by decide +kernel, rfl, by decide +kernel, by decide +kernel⟩
def k_FIGURES : D := D.str "0123456789"
/-- what the top has left -/
structure Tx (K : PySem.W.Frag) (mg : Str → Option Value) : Type where
  cm : Nat → Addr := fun _ => 0
  n_abs : mg "abs" = none
  n_all : mg "all" = none
  n_bool : mg "bool" = none
  n_divmod : mg "divmod" = none
  n_int : mg "int" = none
  n_isinstance : mg "isinstance" = none
  n_len : mg "len" = none
  n_max : mg "max" = none
  n_min : mg "min" = none
  n_range : mg "range" = none
  n_str : mg "str" = none
  n_tuple : mg "tuple" = none
  FIGURES : ConstAt K mg "FIGURES" k_FIGURES
  is_whole : DefAt K mg "is_whole" s_is_whole ["thing"]
  common : DefAt K mg "common" s_common ["one", "other"]
  is_number : DefAt K mg "is_number" s_is_number ["thing"]
  number : DefAt K mg "number" s_number ["top", "bottom"]
  added : DefAt K mg "added" s_added ["one", "other"]
  taken : DefAt K mg "taken" s_taken ["one", "other"]
  multiplied : DefAt K mg "multiplied" s_multiplied ["one", "other"]
  parted : DefAt K mg "parted" s_parted ["one", "other"]
  is_less : DefAt K mg "is_less" s_is_less ["one", "other"]
  show_number : DefAt K mg "show_number" s_show_number ["one"]
  are_figures : DefAt K mg "are_figures" s_are_figures ["text"]
  number_in : DefAt K mg "number_in" s_number_in ["text"]
  read_number : DefAt K mg "read_number" s_read_number ["text"]
  _law_mixed : DefAt K mg "_law_mixed" s__law_mixed ["_law_cell"]
  _law_pack : DefAt K mg "_law_pack" s__law_pack ["_law_script", "_law_k"]
  _law_take : DefAt K mg "_law_take" s__law_take ["_law_pack_here", "_law_size"]
  _law_sums_right : DefAt K mg "_law_sums_right" s__law_sums_right ["_law_a", "_law_b", "_law_c"]
  _law_parted_right : DefAt K mg "_law_parted_right" s__law_parted_right ["_law_a", "_law_b"]
  _law_less_right : DefAt K mg "_law_less_right" s__law_less_right ["_law_a", "_law_b", "_law_c"]
  _law_right : DefAt K mg "_law_right" s__law_right ["_law_a", "_law_b", "_law_c"]
  law : DefAt K mg "law" s_law ["_law_script"]
abbrev cx {K : PySem.W.Frag} {mg : Str → Option Value} (T : Tx K mg) : Cc := ⟨K, T.cm⟩
section
variable {P : Program} {w : World} {K : PySem.W.Frag} {mg : Str → Option Value} {base : Heap}
noncomputable def b_is_whole : SF := sRet (eAnd (e1 (isTy "int") (eVar 0)) (eNot (e1 (isTy "bool") (eVar 0))))
noncomputable def m_is_whole : List D → Option D := runP 1 1 b_is_whole
theorem ok_is_whole (T : Tx K mg) : FnOk P w K mg base CX0 1 T.is_whole.a T.is_whole.d ["thing"] (spP (cx T) m_is_whole) :=
  fn_pure 1 1 m_is_whole b_is_whole rfl T.is_whole.F sc_is_whole rfl rfl rfl fun cdv A outer s H E hr => ss_one (sx_ret (ex_and (ex_isi (ex_var 0) (by decide) T.n_isinstance T.n_int (by decide +kernel)) (ex_one (ex_not (ex_isi (ex_var 0) (by decide) T.n_isinstance T.n_bool (by decide +kernel))))))
noncomputable def t1_common : BF := bTst (e2 dNe (eVar 1) (eC (.int 0)))
noncomputable def l1_common : SF := sPar 0 1 (aCons (eVar 1) (aCons (e2 dMod (eVar 0) (eVar 1)) (aNil)))
noncomputable def b_common : SF := sSeq (sPar 0 1 (aCons (eCall bAbs (aCons (eVar 0) (aNil))) (aCons (eCall bAbs (aCons (eVar 1) (aNil))) (aNil)))) (sSeq (sWhile t1_common l1_common) (sRet (eVar 0)))
noncomputable def m_common : List D → Option D := runP 2 2 b_common
theorem ok_common (T : Tx K mg) : FnOk P w K mg base CX0 1 T.common.a T.common.d ["one", "other"] (spP (cx T) m_common) :=
  fn_pure 2 2 m_common b_common rfl T.common.F sc_common rfl rfl rfl fun cdv A outer s H E hr => ss_cons (sx_par 0 1 rfl sc_common.nd (xa_cons (ex_callB call_abs cs_abs T.n_abs (xa_cons (ex_var 0) (xa_nil))) (xa_cons (ex_callB call_abs cs_abs T.n_abs (xa_cons (ex_var 1) (xa_nil))) (xa_nil)))) (ss_cons (sx_while (xt_cmp (op_neD hr.units) os_ne bo_ne (ex_var 1) (ex_int)) (ss_one (sx_par 0 1 rfl sc_common.nd (xa_cons (ex_var 1) (xa_cons (ex_op op_modN os_mod (ex_var 0) (ex_var 1)) (xa_nil)))))) (ss_one (sx_ret (ex_var 0))))
noncomputable def b_is_number : SF := sSeq (sIf (bOr (bNot (bTst (e1 (isTy "tuple") (eVar 0)))) (bOr (bTst (e2 dNe (eCall bLen (aCons (eVar 0) (aNil))) (eC (.int 2)))) (bNot (bTst (eCall bAll (aCons (eLc [1] (iSeq (eVar 0)) (gN 1) (bYes) (eCall m_is_whole (aCons (eVar 1) (aNil)))) (aNil))))))) (sRet (eC (.bl false))) (sNext)) (sRet (eAnd (e2 dGe (e2 dIx (eVar 0) (eC (.int 1))) (eC (.int 1))) (e2 dEq (eCall m_common (aCons (e2 dIx (eVar 0) (eC (.int 0))) (aCons (e2 dIx (eVar 0) (eC (.int 1))) (aNil)))) (eC (.int 1)))))
noncomputable def m_is_number : List D → Option D := runP 1 2 b_is_number
theorem ok_is_number (T : Tx K mg) : FnOk P w K mg base CX0 2 T.is_number.a T.is_number.d ["thing"] (spP (cx T) m_is_number) :=
  fn_pure 1 2 m_is_number b_is_number rfl T.is_number.F sc_is_number rfl rfl rfl fun cdv A outer s H E hr => ss_cons (sx_if (PW.pt (xw_or (xt_not (xt_val (ex_isi (ex_var 0) (by decide) T.n_isinstance T.n_tuple (by decide +kernel)))) (xw_or (xt_cmp (op_neD hr.units) os_ne bo_ne (ex_callB call_len cs_len T.n_len (xa_cons (ex_var 0) (xa_nil))) (ex_int)) (xw_or1 (xt_not (xt_val (ex_callB (cr_all rfl) cs_all T.n_all (xa_cons (ex_lc (own := [("part", 1)]) (pins' := [0]) sc_is_number.nd (ix_seq' (ex_var 0)) (blkOk_by (N := ["thing", "part"]) (sc := defScope s_is_number) (by decide +kernel)) (pins_ok (n := 2) (by decide) rfl) (gown_name) (fun _ _ _ _ _ => gx_name 1 sc_is_number.nd) (fun _ _ _ _ _ => xts_nil) (fun _ _ _ _ _ => ex_call (ok_is_whole T) (hr.mono (by decide)) T.is_whole.g T.is_whole.F.kp T.is_whole.b (xa_cons (ex_var 1) (xa_nil)))) (xa_nil))))))))) (ss_one (sx_ret (ex_bl))) (ss_nil)) (ss_one (sx_ret (ex_and (ex_cmp op_ge os_ge (ex_ix ix_seq os_ix (ex_var 0) (ex_int)) (ex_int)) (ex_one (ex_cmp (op_eqD hr.units) os_eq (ex_call (ok_common T) (hr.mono (by decide)) T.common.g T.common.F.kp T.common.b (xa_cons (ex_ix ix_seq os_ix (ex_var 0) (ex_int)) (xa_cons (ex_ix ix_seq os_ix (ex_var 0) (ex_int)) (xa_nil)))) (ex_int))))))
noncomputable def b_number : SF := sSeq (sIf (bTst (e2 dEq (eVar 1) (eC (.int 0)))) (sNever) (sNext)) (sSeq (sAsg (eCall m_common (aCons (eVar 0) (aCons (eVar 1) (aNil)))) (gN 2)) (sSeq (sIf (bTst (e2 dLt (eVar 1) (eC (.int 0)))) (sAsg (e2 dSub (eC (.int 0)) (eVar 2)) (gN 2)) (sNext)) (sRet (eTup (aCons (e2 dFdiv (eVar 0) (eVar 2)) (aCons (e2 dFdiv (eVar 1) (eVar 2)) (aNil)))))))
noncomputable def m_number : List D → Option D := runP 2 3 b_number
theorem ok_number (T : Tx K mg) : FnOk P w K mg base CX0 2 T.number.a T.number.d ["top", "bottom"] (spP (cx T) m_number) :=
  fn_pure 2 3 m_number b_number rfl T.number.F sc_number rfl rfl rfl fun cdv A outer s H E hr => ss_cons (sx_if (xt_cmp (op_eqD hr.units) os_eq bo_eq (ex_var 1) (ex_int)) (ss_one (sx_never)) (ss_nil)) (ss_cons (sx_set 2 sc_number.nd (ex_call (ok_common T) (hr.mono (by decide)) T.common.g T.common.F.kp T.common.b (xa_cons (ex_var 0) (xa_cons (ex_var 1) (xa_nil))))) (ss_cons (sx_if (xt_cmp op_lt os_lt bo_lt (ex_var 1) (ex_int)) (ss_one (sx_set 2 sc_number.nd (ex_op op_sub os_sub (ex_int) (ex_var 2)))) (ss_nil)) (ss_one (sx_ret (ex_tup (xa_cons (ex_op op_fdivS os_fdiv (ex_var 0) (ex_var 2)) (xa_cons (ex_op op_fdivS os_fdiv (ex_var 1) (ex_var 2)) (xa_nil))))))))
noncomputable def b_added : SF := sRet (eCall m_number (aCons (e2 dAddL (e2 dMul (e2 dIx (eVar 0) (eC (.int 0))) (e2 dIx (eVar 1) (eC (.int 1)))) (e2 dMul (e2 dIx (eVar 1) (eC (.int 0))) (e2 dIx (eVar 0) (eC (.int 1))))) (aCons (e2 dMul (e2 dIx (eVar 0) (eC (.int 1))) (e2 dIx (eVar 1) (eC (.int 1)))) (aNil))))
noncomputable def m_added : List D → Option D := runP 2 2 b_added
theorem ok_added (T : Tx K mg) : FnOk P w K mg base CX0 3 T.added.a T.added.d ["one", "other"] (spP (cx T) m_added) :=
  fn_pure 2 2 m_added b_added rfl T.added.F sc_added rfl rfl rfl fun cdv A outer s H E hr => ss_one (sx_ret (ex_call (ok_number T) (hr.mono (by decide)) T.number.g T.number.F.kp T.number.b (xa_cons (ex_op op_addL os_addL (ex_op op_mulA os_mul (ex_ix ix_seq os_ix (ex_var 0) (ex_int)) (ex_ix ix_seq os_ix (ex_var 1) (ex_int))) (ex_op op_mulA os_mul (ex_ix ix_seq os_ix (ex_var 1) (ex_int)) (ex_ix ix_seq os_ix (ex_var 0) (ex_int)))) (xa_cons (ex_op op_mulA os_mul (ex_ix ix_seq os_ix (ex_var 0) (ex_int)) (ex_ix ix_seq os_ix (ex_var 1) (ex_int))) (xa_nil)))))
noncomputable def b_taken : SF := sRet (eCall m_number (aCons (e2 dSub (e2 dMul (e2 dIx (eVar 0) (eC (.int 0))) (e2 dIx (eVar 1) (eC (.int 1)))) (e2 dMul (e2 dIx (eVar 1) (eC (.int 0))) (e2 dIx (eVar 0) (eC (.int 1))))) (aCons (e2 dMul (e2 dIx (eVar 0) (eC (.int 1))) (e2 dIx (eVar 1) (eC (.int 1)))) (aNil))))
noncomputable def m_taken : List D → Option D := runP 2 2 b_taken
theorem ok_taken (T : Tx K mg) : FnOk P w K mg base CX0 3 T.taken.a T.taken.d ["one", "other"] (spP (cx T) m_taken) :=
  fn_pure 2 2 m_taken b_taken rfl T.taken.F sc_taken rfl rfl rfl fun cdv A outer s H E hr => ss_one (sx_ret (ex_call (ok_number T) (hr.mono (by decide)) T.number.g T.number.F.kp T.number.b (xa_cons (ex_op op_sub os_sub (ex_op op_mulA os_mul (ex_ix ix_seq os_ix (ex_var 0) (ex_int)) (ex_ix ix_seq os_ix (ex_var 1) (ex_int))) (ex_op op_mulA os_mul (ex_ix ix_seq os_ix (ex_var 1) (ex_int)) (ex_ix ix_seq os_ix (ex_var 0) (ex_int)))) (xa_cons (ex_op op_mulA os_mul (ex_ix ix_seq os_ix (ex_var 0) (ex_int)) (ex_ix ix_seq os_ix (ex_var 1) (ex_int))) (xa_nil)))))
noncomputable def b_multiplied : SF := sRet (eCall m_number (aCons (e2 dMul (e2 dIx (eVar 0) (eC (.int 0))) (e2 dIx (eVar 1) (eC (.int 0)))) (aCons (e2 dMul (e2 dIx (eVar 0) (eC (.int 1))) (e2 dIx (eVar 1) (eC (.int 1)))) (aNil))))
noncomputable def m_multiplied : List D → Option D := runP 2 2 b_multiplied
theorem ok_multiplied (T : Tx K mg) : FnOk P w K mg base CX0 3 T.multiplied.a T.multiplied.d ["one", "other"] (spP (cx T) m_multiplied) :=
  fn_pure 2 2 m_multiplied b_multiplied rfl T.multiplied.F sc_multiplied rfl rfl rfl fun cdv A outer s H E hr => ss_one (sx_ret (ex_call (ok_number T) (hr.mono (by decide)) T.number.g T.number.F.kp T.number.b (xa_cons (ex_op op_mulA os_mul (ex_ix ix_seq os_ix (ex_var 0) (ex_int)) (ex_ix ix_seq os_ix (ex_var 1) (ex_int))) (xa_cons (ex_op op_mulA os_mul (ex_ix ix_seq os_ix (ex_var 0) (ex_int)) (ex_ix ix_seq os_ix (ex_var 1) (ex_int))) (xa_nil)))))
noncomputable def b_parted : SF := sRet (eCall m_number (aCons (e2 dMul (e2 dIx (eVar 0) (eC (.int 0))) (e2 dIx (eVar 1) (eC (.int 1)))) (aCons (e2 dMul (e2 dIx (eVar 0) (eC (.int 1))) (e2 dIx (eVar 1) (eC (.int 0)))) (aNil))))
noncomputable def m_parted : List D → Option D := runP 2 2 b_parted
theorem ok_parted (T : Tx K mg) : FnOk P w K mg base CX0 3 T.parted.a T.parted.d ["one", "other"] (spP (cx T) m_parted) :=
  fn_pure 2 2 m_parted b_parted rfl T.parted.F sc_parted rfl rfl rfl fun cdv A outer s H E hr => ss_one (sx_ret (ex_call (ok_number T) (hr.mono (by decide)) T.number.g T.number.F.kp T.number.b (xa_cons (ex_op op_mulA os_mul (ex_ix ix_seq os_ix (ex_var 0) (ex_int)) (ex_ix ix_seq os_ix (ex_var 1) (ex_int))) (xa_cons (ex_op op_mulA os_mul (ex_ix ix_seq os_ix (ex_var 0) (ex_int)) (ex_ix ix_seq os_ix (ex_var 1) (ex_int))) (xa_nil)))))
noncomputable def b_is_less : SF := sRet (e2 dLt (e2 dMul (e2 dIx (eVar 0) (eC (.int 0))) (e2 dIx (eVar 1) (eC (.int 1)))) (e2 dMul (e2 dIx (eVar 1) (eC (.int 0))) (e2 dIx (eVar 0) (eC (.int 1)))))
noncomputable def m_is_less : List D → Option D := runP 2 2 b_is_less
theorem ok_is_less (T : Tx K mg) : FnOk P w K mg base CX0 1 T.is_less.a T.is_less.d ["one", "other"] (spP (cx T) m_is_less) :=
  fn_pure 2 2 m_is_less b_is_less rfl T.is_less.F sc_is_less rfl rfl rfl fun cdv A outer s H E hr => ss_one (sx_ret (ex_cmp op_lt os_lt (ex_op op_mulA os_mul (ex_ix ix_seq os_ix (ex_var 0) (ex_int)) (ex_ix ix_seq os_ix (ex_var 1) (ex_int))) (ex_op op_mulA os_mul (ex_ix ix_seq os_ix (ex_var 1) (ex_int)) (ex_ix ix_seq os_ix (ex_var 0) (ex_int)))))
noncomputable def b_show_number : SF := sSeq (sIf (bTst (e2 dEq (e2 dIx (eVar 0) (eC (.int 1))) (eC (.int 1)))) (sRet (eCall bStr (aCons (e2 dIx (eVar 0) (eC (.int 0))) (aNil)))) (sNext)) (sRet (e2 dAddL (e2 dAddL (eCall bStr (aCons (e2 dIx (eVar 0) (eC (.int 0))) (aNil))) (eC (.str "/"))) (eCall bStr (aCons (e2 dIx (eVar 0) (eC (.int 1))) (aNil)))))
noncomputable def m_show_number : List D → Option D := runP 1 1 b_show_number
theorem ok_show_number (T : Tx K mg) : FnOk P w K mg base CX0 1 T.show_number.a T.show_number.d ["one"] (spP (cx T) m_show_number) :=
  fn_pure 1 1 m_show_number b_show_number rfl T.show_number.F sc_show_number rfl rfl rfl fun cdv A outer s H E hr => ss_cons (sx_if (xt_cmp (op_eqD hr.units) os_eq bo_eq (ex_ix ix_seq os_ix (ex_var 0) (ex_int)) (ex_int)) (ss_one (sx_ret (ex_callTy call_str_int cs_str T.n_str (xa_cons (ex_ix ix_seq os_ix (ex_var 0) (ex_int)) (xa_nil))))) (ss_nil)) (ss_one (sx_ret (ex_op op_addL os_addL (ex_op op_addL os_addL (ex_callTy call_str_int cs_str T.n_str (xa_cons (ex_ix ix_seq os_ix (ex_var 0) (ex_int)) (xa_nil))) (ex_str)) (ex_callTy call_str_int cs_str T.n_str (xa_cons (ex_ix ix_seq os_ix (ex_var 0) (ex_int)) (xa_nil))))))
noncomputable def b_are_figures : SF := sSeq (sIf (bOr (bTst (e2 dEq (eVar 0) (eC (.str "")))) (bNot (bTst (eCall bAll (aCons (eLc [1] (iSeq (eVar 0)) (gN 1) (bYes) (e2 dInS (eVar 1) (eC k_FIGURES))) (aNil)))))) (sRet (eC (.bl false))) (sNext)) (sRet (eOr (e2 dEq (eVar 0) (eC (.str "0"))) (e2 dNe (e2 dIx (eVar 0) (eC (.int 0))) (eC (.str "0")))))
noncomputable def m_are_figures : List D → Option D := runP 1 2 b_are_figures
theorem ok_are_figures (T : Tx K mg) : FnOk P w K mg base CX0 1 T.are_figures.a T.are_figures.d ["text"] (spP (cx T) m_are_figures) :=
  fn_pure 1 2 m_are_figures b_are_figures rfl T.are_figures.F sc_are_figures rfl rfl rfl fun cdv A outer s H E hr => ss_cons (sx_if (PW.pt (xw_or (xt_cmp (op_eqD hr.units) os_eq bo_eq (ex_var 0) (ex_str)) (xw_or1 (xt_not (xt_val (ex_callB (cr_all rfl) cs_all T.n_all (xa_cons (ex_lc (own := [("sign", 1)]) (pins' := [0]) sc_are_figures.nd (ix_seq' (ex_var 0)) (blkOk_by (N := ["text", "sign"]) (sc := defScope s_are_figures) (by decide +kernel)) (pins_ok (n := 2) (by decide) rfl) (gown_name) (fun _ _ _ _ _ => gx_name 1 sc_are_figures.nd) (fun _ _ _ _ _ => xts_nil) (fun _ _ _ _ _ => ex_cmp op_inS1 os_inS (ex_var 1) (ex_c (pe_glob rfl T.FIGURES.g T.FIGURES.r) T.FIGURES.p))) (xa_nil)))))))) (ss_one (sx_ret (ex_bl))) (ss_nil)) (ss_one (sx_ret (ex_or (ex_cmp (op_eqD hr.units) os_eq (ex_var 0) (ex_str)) (ex_one (ex_cmp (op_neD hr.units) os_ne (ex_ix ix_seq os_ix (ex_var 0) (ex_int)) (ex_str))))))
noncomputable def b_number_in : SF := sSeq (sAsg (e2 dPart (eVar 0) (eC (.str "/"))) (gTup (gsCons (gN 1) (gsCons (gN 2) (gsCons (gN 3) (gsNil)))))) (sSeq (sAsg (eVar 1) (gN 4)) (sSeq (sIf (bTst (e2 dEq (eCut (eVar 1) (oNo) (oSome (eC (.int 1)))) (eC (.str "-")))) (sAsg (eCut (eVar 1) (oSome (eC (.int 1))) (oNo)) (gN 4)) (sNext)) (sSeq (sIf (bOr (bNot (bTst (eCall m_are_figures (aCons (eVar 4) (aNil))))) (bTst (e2 dEq (eVar 1) (eC (.str "-0"))))) (sRet (eC .non)) (sNext)) (sSeq (sIf (bTst (e2 dEq (eVar 2) (eC (.str "")))) (sRet (eTup (aCons (eCall bInt (aCons (eVar 1) (aNil))) (aCons (eC (.int 1)) (aNil))))) (sNext)) (sSeq (sIf (bOr (bNot (bTst (eCall m_are_figures (aCons (eVar 3) (aNil))))) (bOr (bTst (e2 dEq (eVar 3) (eC (.str "1")))) (bNot (bTst (eCall m_is_number (aCons (eTup (aCons (eCall bInt (aCons (eVar 1) (aNil))) (aCons (eCall bInt (aCons (eVar 3) (aNil))) (aNil)))) (aNil))))))) (sRet (eC .non)) (sNext)) (sRet (eTup (aCons (eCall bInt (aCons (eVar 1) (aNil))) (aCons (eCall bInt (aCons (eVar 3) (aNil))) (aNil))))))))))
noncomputable def m_number_in : List D → Option D := runP 1 5 b_number_in
theorem ok_number_in (T : Tx K mg) : FnOk P w K mg base CX0 3 T.number_in.a T.number_in.d ["text"] (spP (cx T) m_number_in) :=
  fn_pure 1 5 m_number_in b_number_in rfl T.number_in.F sc_number_in rfl rfl rfl fun cdv A outer s H E hr => ss_cons (sx_asg (ex_partition (ex_var 0) (ex_str)) (gx_tup rfl (gsx_cons (gx_name 1 sc_number_in.nd) (gsx_cons (gx_name 2 sc_number_in.nd) (gsx_cons (gx_name 3 sc_number_in.nd) (gsx_nil)))) rfl (gs_lenS (gs_lenS (gs_lenS (gs_len0)))))) (ss_cons (sx_set 4 sc_number_in.nd (ex_var 1)) (ss_cons (sx_if (xt_cmp (op_eqD hr.units) os_eq bo_eq (ex_cut (ex_var 1) (xo_no) (xo_some (ex_int))) (ex_str)) (ss_one (sx_set 4 sc_number_in.nd (ex_cut (ex_var 1) (xo_some (ex_int)) (xo_no)))) (ss_nil)) (ss_cons (sx_if (PW.pt (xw_or (xt_not (xt_val (ex_call (ok_are_figures T) (hr.mono (by decide)) T.are_figures.g T.are_figures.F.kp T.are_figures.b (xa_cons (ex_var 4) (xa_nil))))) (xw_or1 (xt_cmp (op_eqD hr.units) os_eq bo_eq (ex_var 1) (ex_str))))) (ss_one (sx_ret (ex_non))) (ss_nil)) (ss_cons (sx_if (xt_cmp (op_eqD hr.units) os_eq bo_eq (ex_var 2) (ex_str)) (ss_one (sx_ret (ex_tup (xa_cons (ex_callTy call_intA cs_int T.n_int (xa_cons (ex_var 1) (xa_nil))) (xa_cons (ex_int) (xa_nil)))))) (ss_nil)) (ss_cons (sx_if (PW.pt (xw_or (xt_not (xt_val (ex_call (ok_are_figures T) (hr.mono (by decide)) T.are_figures.g T.are_figures.F.kp T.are_figures.b (xa_cons (ex_var 3) (xa_nil))))) (xw_or (xt_cmp (op_eqD hr.units) os_eq bo_eq (ex_var 3) (ex_str)) (xw_or1 (xt_not (xt_val (ex_call (ok_is_number T) (hr.mono (by decide)) T.is_number.g T.is_number.F.kp T.is_number.b (xa_cons (ex_tup (xa_cons (ex_callTy call_intA cs_int T.n_int (xa_cons (ex_var 1) (xa_nil))) (xa_cons (ex_callTy call_intA cs_int T.n_int (xa_cons (ex_var 3) (xa_nil))) (xa_nil)))) (xa_nil))))))))) (ss_one (sx_ret (ex_non))) (ss_nil)) (ss_one (sx_ret (ex_tup (xa_cons (ex_callTy call_intA cs_int T.n_int (xa_cons (ex_var 1) (xa_nil))) (xa_cons (ex_callTy call_intA cs_int T.n_int (xa_cons (ex_var 3) (xa_nil))) (xa_nil)))))))))))
noncomputable def b_read_number : SF := sSeq (sIf (bNot (bTst (e1 (isTy "str") (eVar 0)))) (sNever) (sNext)) (sSeq (sAsg (eCall m_number_in (aCons (eVar 0) (aNil))) (gN 1)) (sSeq (sIf (bTst (e1 dIsN (eVar 1))) (sNever) (sNext)) (sRet (eVar 1))))
noncomputable def m_read_number : List D → Option D := runP 1 2 b_read_number
theorem ok_read_number (T : Tx K mg) : FnOk P w K mg base CX0 4 T.read_number.a T.read_number.d ["text"] (spP (cx T) m_read_number) :=
  fn_pure 1 2 m_read_number b_read_number rfl T.read_number.F sc_read_number rfl rfl rfl fun cdv A outer s H E hr => ss_cons (sx_if (xt_not (xt_val (ex_isi (ex_var 0) (by decide) T.n_isinstance T.n_str (by decide +kernel)))) (ss_one (sx_never)) (ss_nil)) (ss_cons (sx_set 1 sc_read_number.nd (ex_call (ok_number_in T) (hr.mono (by decide)) T.number_in.g T.number_in.F.kp T.number_in.b (xa_cons (ex_var 0) (xa_nil)))) (ss_cons (sx_if (xt_isN (ex_var 1)) (ss_one (sx_never)) (ss_nil)) (ss_one (sx_ret (ex_var 1)))))
noncomputable def b__law_mixed : SF := sRet (e2 dMod (e2 dMul (eVar 0) (eC (.int 301029995663981195213738894724493026768189881462108541310427))) (e2 dPow (eC (.int 10)) (eC (.int 60))))
noncomputable def m__law_mixed : List D → Option D := runP 1 1 b__law_mixed
theorem ok__law_mixed (T : Tx K mg) : FnOk P w K mg base CX0 1 T._law_mixed.a T._law_mixed.d ["_law_cell"] (spP (cx T) m__law_mixed) :=
  fn_pure 1 1 m__law_mixed b__law_mixed rfl T._law_mixed.F sc__law_mixed rfl rfl rfl fun cdv A outer s H E hr => ss_one (sx_ret (ex_op op_modN os_mod (ex_op op_mulA os_mul (ex_var 0) (ex_int)) (ex_op op_pow os_pow (ex_int) (ex_int))))
noncomputable def l1__law_pack : SF := sAsg (e2 dAddL (e2 dMul (eVar 2) (e2 dPow (eC (.int 10)) (eC (.int 60)))) (eCall m__law_mixed (aCons (e2 dIx (e2 dAddL (eCut (eVar 0) (oSome (eVar 3)) (oSome (e2 dAddL (eVar 3) (eC (.int 1))))) (eLst (aCons (e2 dAddL (e2 dMul (eC (.int 7907)) (eVar 3)) (eC (.int 53))) (aNil)))) (eC (.int 0))) (aNil)))) (gN 2)
noncomputable def b__law_pack : SF := sSeq (sAsg (eC (.int 0)) (gN 2)) (sSeq (sFor (iSeq (eLst (aCons (e2 dAddL (eVar 1) (eC (.int 1))) (aCons (eVar 1) (aNil))))) (gN 3) l1__law_pack) (sRetNew (nLst (aCons (eVar 2) (aNil)))))
noncomputable def m__law_pack : List D → Option (List D) := runN 2 4 b__law_pack
theorem ok__law_pack (T : Tx K mg) : FnOk P w K mg base CX0 2 T._law_pack.a T._law_pack.d ["_law_script", "_law_k"] (spN (cx T) m__law_pack) :=
  fn_new 2 4 m__law_pack b__law_pack rfl T._law_pack.F sc__law_pack rfl rfl rfl fun cdv A outer s H E hr => ss_cons (sx_set 2 sc__law_pack.nd (ex_int)) (ss_cons (sx_for (ix_seq' (ex_lst (xa_cons (ex_op op_addL os_addL (ex_var 1) (ex_int)) (xa_cons (ex_var 1) (xa_nil))))) (gx_name 3 sc__law_pack.nd) (ss_one (sx_set 2 sc__law_pack.nd (ex_op op_addL os_addL (ex_op op_mulA os_mul (ex_var 2) (ex_op op_pow os_pow (ex_int) (ex_int))) (ex_call (ok__law_mixed T) (hr.mono (by decide)) T._law_mixed.g T._law_mixed.F.kp T._law_mixed.b (xa_cons (ex_ix ix_seq os_ix (ex_op op_addL os_addL (ex_cut (ex_var 0) (xo_some (ex_var 3)) (xo_some (ex_op op_addL os_addL (ex_var 3) (ex_int)))) (ex_lst (xa_cons (ex_op op_addL os_addL (ex_op op_mulA os_mul (ex_int) (ex_var 3)) (ex_int)) (xa_nil)))) (ex_int)) (xa_nil))))))) (ss_one (sx_retNew (xn_lst (xa_cons (ex_var 2) (xa_nil))))))
noncomputable def b__law_take : SF := sSeq (sAsg (eCall bDivmod (aCons (eBor 0 (e2 dIx (eVar 0) (eC (.int 0)))) (aCons (eVar 1) (aNil)))) (gTup (gsCons (gIx 0 (eC (.int 0))) (gsCons (gN 2) (gsNil))))) (sRet (eVar 2))
noncomputable def m__law_take : List O → Option (D × List O) := runO [true, false] 3 b__law_take
theorem ok__law_take (T : Tx K mg) : FnOk P w K mg base CX0 1 T._law_take.a T._law_take.d ["_law_pack_here", "_law_size"] (spO (cx T) m__law_take) :=
  fn_own [true, false] [0] 3 m__law_take b__law_take rfl T._law_take.F sc__law_take rfl rfl rfl (by decide) (mask_ok (by decide)) fun cdv A outer s H E hr => ss_cons (sx_asg (ex_callB call_divmod cs_divmod T.n_divmod (xa_cons (ex_bor 0 (ex_ix ix_seq os_ix (ex_var 0) (ex_int))) (xa_cons (ex_var 1) (xa_nil)))) (gx_tup rfl (gsx_cons (gx_ix 0 (ex_int)) (gsx_cons (gx_name 2 sc__law_take.nd) (gsx_nil))) rfl (gs_lenS (gs_lenS (gs_len0))))) (ss_one (sx_ret (ex_var 2)))
noncomputable def b__law_sums_right : SF := sSeq (sIf (bOr (bTst (e2 dNe (eCall m_added (aCons (eVar 0) (aCons (eVar 1) (aNil)))) (eCall m_added (aCons (eVar 1) (aCons (eVar 0) (aNil)))))) (bTst (e2 dNe (eCall m_added (aCons (eCall m_added (aCons (eVar 0) (aCons (eVar 1) (aNil)))) (aCons (eVar 2) (aNil)))) (eCall m_added (aCons (eVar 0) (aCons (eCall m_added (aCons (eVar 1) (aCons (eVar 2) (aNil)))) (aNil))))))) (sRet (eC (.bl false))) (sNext)) (sSeq (sIf (bTst (e2 dNe (eCall m_multiplied (aCons (eVar 0) (aCons (eVar 1) (aNil)))) (eCall m_multiplied (aCons (eVar 1) (aCons (eVar 0) (aNil)))))) (sRet (eC (.bl false))) (sNext)) (sSeq (sAsg (eCall m_multiplied (aCons (eVar 0) (aCons (eCall m_added (aCons (eVar 1) (aCons (eVar 2) (aNil)))) (aNil)))) (gN 3)) (sSeq (sIf (bTst (e2 dNe (eVar 3) (eCall m_added (aCons (eCall m_multiplied (aCons (eVar 0) (aCons (eVar 1) (aNil)))) (aCons (eCall m_multiplied (aCons (eVar 0) (aCons (eVar 2) (aNil)))) (aNil)))))) (sRet (eC (.bl false))) (sNext)) (sRet (eAnd (e2 dEq (eCall m_taken (aCons (eCall m_added (aCons (eVar 0) (aCons (eVar 1) (aNil)))) (aCons (eVar 1) (aNil)))) (eVar 0)) (eAnd (e2 dEq (eCall m_added (aCons (eCall m_taken (aCons (eVar 0) (aCons (eVar 1) (aNil)))) (aCons (eVar 1) (aNil)))) (eVar 0)) (e2 dEq (eCall m_taken (aCons (eVar 0) (aCons (eVar 0) (aNil)))) (eTup (aCons (eC (.int 0)) (aCons (eC (.int 1)) (aNil)))))))))))
noncomputable def m__law_sums_right : List D → Option D := runP 3 4 b__law_sums_right
theorem ok__law_sums_right (T : Tx K mg) : FnOk P w K mg base CX0 4 T._law_sums_right.a T._law_sums_right.d ["_law_a", "_law_b", "_law_c"] (spP (cx T) m__law_sums_right) :=
  fn_pure 3 4 m__law_sums_right b__law_sums_right rfl T._law_sums_right.F sc__law_sums_right rfl rfl rfl fun cdv A outer s H E hr => ss_cons (sx_if (PW.pt (xw_or (xt_cmp (op_neD hr.units) os_ne bo_ne (ex_call (ok_added T) (hr.mono (by decide)) T.added.g T.added.F.kp T.added.b (xa_cons (ex_var 0) (xa_cons (ex_var 1) (xa_nil)))) (ex_call (ok_added T) (hr.mono (by decide)) T.added.g T.added.F.kp T.added.b (xa_cons (ex_var 1) (xa_cons (ex_var 0) (xa_nil))))) (xw_or1 (xt_cmp (op_neD hr.units) os_ne bo_ne (ex_call (ok_added T) (hr.mono (by decide)) T.added.g T.added.F.kp T.added.b (xa_cons (ex_call (ok_added T) (hr.mono (by decide)) T.added.g T.added.F.kp T.added.b (xa_cons (ex_var 0) (xa_cons (ex_var 1) (xa_nil)))) (xa_cons (ex_var 2) (xa_nil)))) (ex_call (ok_added T) (hr.mono (by decide)) T.added.g T.added.F.kp T.added.b (xa_cons (ex_var 0) (xa_cons (ex_call (ok_added T) (hr.mono (by decide)) T.added.g T.added.F.kp T.added.b (xa_cons (ex_var 1) (xa_cons (ex_var 2) (xa_nil)))) (xa_nil)))))))) (ss_one (sx_ret (ex_bl))) (ss_nil)) (ss_cons (sx_if (xt_cmp (op_neD hr.units) os_ne bo_ne (ex_call (ok_multiplied T) (hr.mono (by decide)) T.multiplied.g T.multiplied.F.kp T.multiplied.b (xa_cons (ex_var 0) (xa_cons (ex_var 1) (xa_nil)))) (ex_call (ok_multiplied T) (hr.mono (by decide)) T.multiplied.g T.multiplied.F.kp T.multiplied.b (xa_cons (ex_var 1) (xa_cons (ex_var 0) (xa_nil))))) (ss_one (sx_ret (ex_bl))) (ss_nil)) (ss_cons (sx_set 3 sc__law_sums_right.nd (ex_call (ok_multiplied T) (hr.mono (by decide)) T.multiplied.g T.multiplied.F.kp T.multiplied.b (xa_cons (ex_var 0) (xa_cons (ex_call (ok_added T) (hr.mono (by decide)) T.added.g T.added.F.kp T.added.b (xa_cons (ex_var 1) (xa_cons (ex_var 2) (xa_nil)))) (xa_nil))))) (ss_cons (sx_if (xt_cmp (op_neD hr.units) os_ne bo_ne (ex_var 3) (ex_call (ok_added T) (hr.mono (by decide)) T.added.g T.added.F.kp T.added.b (xa_cons (ex_call (ok_multiplied T) (hr.mono (by decide)) T.multiplied.g T.multiplied.F.kp T.multiplied.b (xa_cons (ex_var 0) (xa_cons (ex_var 1) (xa_nil)))) (xa_cons (ex_call (ok_multiplied T) (hr.mono (by decide)) T.multiplied.g T.multiplied.F.kp T.multiplied.b (xa_cons (ex_var 0) (xa_cons (ex_var 2) (xa_nil)))) (xa_nil))))) (ss_one (sx_ret (ex_bl))) (ss_nil)) (ss_one (sx_ret (ex_and (ex_cmp (op_eqD hr.units) os_eq (ex_call (ok_taken T) (hr.mono (by decide)) T.taken.g T.taken.F.kp T.taken.b (xa_cons (ex_call (ok_added T) (hr.mono (by decide)) T.added.g T.added.F.kp T.added.b (xa_cons (ex_var 0) (xa_cons (ex_var 1) (xa_nil)))) (xa_cons (ex_var 1) (xa_nil)))) (ex_var 0)) (ex_and (ex_cmp (op_eqD hr.units) os_eq (ex_call (ok_added T) (hr.mono (by decide)) T.added.g T.added.F.kp T.added.b (xa_cons (ex_call (ok_taken T) (hr.mono (by decide)) T.taken.g T.taken.F.kp T.taken.b (xa_cons (ex_var 0) (xa_cons (ex_var 1) (xa_nil)))) (xa_cons (ex_var 1) (xa_nil)))) (ex_var 0)) (ex_one (ex_cmp (op_eqD hr.units) os_eq (ex_call (ok_taken T) (hr.mono (by decide)) T.taken.g T.taken.F.kp T.taken.b (xa_cons (ex_var 0) (xa_cons (ex_var 0) (xa_nil)))) (ex_tup (xa_cons (ex_int) (xa_cons (ex_int) (xa_nil)))))))))))))
noncomputable def b__law_parted_right : SF := sSeq (sIf (bTst (e2 dEq (eVar 1) (eTup (aCons (eC (.int 0)) (aCons (eC (.int 1)) (aNil)))))) (sRet (eC (.bl true))) (sNext)) (sSeq (sIf (bOr (bTst (e2 dNe (eCall m_parted (aCons (eCall m_multiplied (aCons (eVar 0) (aCons (eVar 1) (aNil)))) (aCons (eVar 1) (aNil)))) (eVar 0))) (bTst (e2 dNe (eCall m_multiplied (aCons (eCall m_parted (aCons (eVar 0) (aCons (eVar 1) (aNil)))) (aCons (eVar 1) (aNil)))) (eVar 0)))) (sRet (eC (.bl false))) (sNext)) (sRet (e2 dEq (eCall m_parted (aCons (eVar 1) (aCons (eVar 1) (aNil)))) (eTup (aCons (eC (.int 1)) (aCons (eC (.int 1)) (aNil)))))))
noncomputable def m__law_parted_right : List D → Option D := runP 2 2 b__law_parted_right
theorem ok__law_parted_right (T : Tx K mg) : FnOk P w K mg base CX0 4 T._law_parted_right.a T._law_parted_right.d ["_law_a", "_law_b"] (spP (cx T) m__law_parted_right) :=
  fn_pure 2 2 m__law_parted_right b__law_parted_right rfl T._law_parted_right.F sc__law_parted_right rfl rfl rfl fun cdv A outer s H E hr => ss_cons (sx_if (xt_cmp (op_eqD hr.units) os_eq bo_eq (ex_var 1) (ex_tup (xa_cons (ex_int) (xa_cons (ex_int) (xa_nil))))) (ss_one (sx_ret (ex_bl))) (ss_nil)) (ss_cons (sx_if (PW.pt (xw_or (xt_cmp (op_neD hr.units) os_ne bo_ne (ex_call (ok_parted T) (hr.mono (by decide)) T.parted.g T.parted.F.kp T.parted.b (xa_cons (ex_call (ok_multiplied T) (hr.mono (by decide)) T.multiplied.g T.multiplied.F.kp T.multiplied.b (xa_cons (ex_var 0) (xa_cons (ex_var 1) (xa_nil)))) (xa_cons (ex_var 1) (xa_nil)))) (ex_var 0)) (xw_or1 (xt_cmp (op_neD hr.units) os_ne bo_ne (ex_call (ok_multiplied T) (hr.mono (by decide)) T.multiplied.g T.multiplied.F.kp T.multiplied.b (xa_cons (ex_call (ok_parted T) (hr.mono (by decide)) T.parted.g T.parted.F.kp T.parted.b (xa_cons (ex_var 0) (xa_cons (ex_var 1) (xa_nil)))) (xa_cons (ex_var 1) (xa_nil)))) (ex_var 0))))) (ss_one (sx_ret (ex_bl))) (ss_nil)) (ss_one (sx_ret (ex_cmp (op_eqD hr.units) os_eq (ex_call (ok_parted T) (hr.mono (by decide)) T.parted.g T.parted.F.kp T.parted.b (xa_cons (ex_var 1) (xa_cons (ex_var 1) (xa_nil)))) (ex_tup (xa_cons (ex_int) (xa_cons (ex_int) (xa_nil))))))))
noncomputable def b__law_less_right : SF := sSeq (sAsg (eCall m_is_less (aCons (eVar 0) (aCons (eVar 1) (aNil)))) (gN 3)) (sSeq (sIf (bTst (e2 dNe (e2 dCountB (eLst (aCons (eVar 3) (aCons (eCall m_is_less (aCons (eVar 1) (aCons (eVar 0) (aNil)))) (aCons (e2 dEq (eVar 0) (eVar 1)) (aNil))))) (eC (.bl true))) (eC (.int 1)))) (sRet (eC (.bl false))) (sNext)) (sSeq (sIf (bTst (e2 dNe (eCall m_is_less (aCons (eCall m_added (aCons (eVar 0) (aCons (eVar 2) (aNil)))) (aCons (eCall m_added (aCons (eVar 1) (aCons (eVar 2) (aNil)))) (aNil)))) (eVar 3))) (sRet (eC (.bl false))) (sNext)) (sSeq (sAsg (eCall m_added (aCons (eCall m_multiplied (aCons (eVar 2) (aCons (eVar 2) (aNil)))) (aCons (eCall m_number (aCons (eC (.int 1)) (aCons (eC (.int 7)) (aNil)))) (aNil)))) (gN 4)) (sSeq (sIf (bTst (e2 dNe (eCall m_is_less (aCons (eCall m_multiplied (aCons (eVar 0) (aCons (eVar 4) (aNil)))) (aCons (eCall m_multiplied (aCons (eVar 1) (aCons (eVar 4) (aNil)))) (aNil)))) (eVar 3))) (sRet (eC (.bl false))) (sNext)) (sRet (eCall m_is_less (aCons (eTup (aCons (eC (.int 0)) (aCons (eC (.int 1)) (aNil)))) (aCons (eVar 4) (aNil)))))))))
noncomputable def m__law_less_right : List D → Option D := runP 3 5 b__law_less_right
theorem ok__law_less_right (T : Tx K mg) : FnOk P w K mg base CX0 4 T._law_less_right.a T._law_less_right.d ["_law_a", "_law_b", "_law_c"] (spP (cx T) m__law_less_right) :=
  fn_pure 3 5 m__law_less_right b__law_less_right rfl T._law_less_right.F sc__law_less_right rfl rfl rfl fun cdv A outer s H E hr => ss_cons (sx_set 3 sc__law_less_right.nd (ex_call (ok_is_less T) (hr.mono (by decide)) T.is_less.g T.is_less.F.kp T.is_less.b (xa_cons (ex_var 0) (xa_cons (ex_var 1) (xa_nil))))) (ss_cons (sx_if (xt_cmp (op_neD hr.units) os_ne bo_ne (ex_count (ex_lst (xa_cons (ex_var 3) (xa_cons (ex_call (ok_is_less T) (hr.mono (by decide)) T.is_less.g T.is_less.F.kp T.is_less.b (xa_cons (ex_var 1) (xa_cons (ex_var 0) (xa_nil)))) (xa_cons (ex_cmp (op_eqD hr.units) os_eq (ex_var 0) (ex_var 1)) (xa_nil))))) (ex_bl)) (ex_int)) (ss_one (sx_ret (ex_bl))) (ss_nil)) (ss_cons (sx_if (xt_cmp (op_neD hr.units) os_ne bo_ne (ex_call (ok_is_less T) (hr.mono (by decide)) T.is_less.g T.is_less.F.kp T.is_less.b (xa_cons (ex_call (ok_added T) (hr.mono (by decide)) T.added.g T.added.F.kp T.added.b (xa_cons (ex_var 0) (xa_cons (ex_var 2) (xa_nil)))) (xa_cons (ex_call (ok_added T) (hr.mono (by decide)) T.added.g T.added.F.kp T.added.b (xa_cons (ex_var 1) (xa_cons (ex_var 2) (xa_nil)))) (xa_nil)))) (ex_var 3)) (ss_one (sx_ret (ex_bl))) (ss_nil)) (ss_cons (sx_set 4 sc__law_less_right.nd (ex_call (ok_added T) (hr.mono (by decide)) T.added.g T.added.F.kp T.added.b (xa_cons (ex_call (ok_multiplied T) (hr.mono (by decide)) T.multiplied.g T.multiplied.F.kp T.multiplied.b (xa_cons (ex_var 2) (xa_cons (ex_var 2) (xa_nil)))) (xa_cons (ex_call (ok_number T) (hr.mono (by decide)) T.number.g T.number.F.kp T.number.b (xa_cons (ex_int) (xa_cons (ex_int) (xa_nil)))) (xa_nil))))) (ss_cons (sx_if (xt_cmp (op_neD hr.units) os_ne bo_ne (ex_call (ok_is_less T) (hr.mono (by decide)) T.is_less.g T.is_less.F.kp T.is_less.b (xa_cons (ex_call (ok_multiplied T) (hr.mono (by decide)) T.multiplied.g T.multiplied.F.kp T.multiplied.b (xa_cons (ex_var 0) (xa_cons (ex_var 4) (xa_nil)))) (xa_cons (ex_call (ok_multiplied T) (hr.mono (by decide)) T.multiplied.g T.multiplied.F.kp T.multiplied.b (xa_cons (ex_var 1) (xa_cons (ex_var 4) (xa_nil)))) (xa_nil)))) (ex_var 3)) (ss_one (sx_ret (ex_bl))) (ss_nil)) (ss_one (sx_ret (ex_call (ok_is_less T) (hr.mono (by decide)) T.is_less.g T.is_less.F.kp T.is_less.b (xa_cons (ex_tup (xa_cons (ex_int) (xa_cons (ex_int) (xa_nil)))) (xa_cons (ex_var 4) (xa_nil))))))))))
noncomputable def b__law_right : SF := sSeq (sIf (bOr (bNot (bTst (eCall m__law_sums_right (aCons (eVar 0) (aCons (eVar 1) (aCons (eVar 2) (aNil))))))) (bNot (bTst (eCall m__law_parted_right (aCons (eVar 0) (aCons (eVar 1) (aNil))))))) (sRet (eC (.bl false))) (sNext)) (sRet (eCall m__law_less_right (aCons (eVar 0) (aCons (eVar 1) (aCons (eVar 2) (aNil))))))
noncomputable def m__law_right : List D → Option D := runP 3 3 b__law_right
theorem ok__law_right (T : Tx K mg) : FnOk P w K mg base CX0 5 T._law_right.a T._law_right.d ["_law_a", "_law_b", "_law_c"] (spP (cx T) m__law_right) :=
  fn_pure 3 3 m__law_right b__law_right rfl T._law_right.F sc__law_right rfl rfl rfl fun cdv A outer s H E hr => ss_cons (sx_if (PW.pt (xw_or (xt_not (xt_val (ex_call (ok__law_sums_right T) (hr.mono (by decide)) T._law_sums_right.g T._law_sums_right.F.kp T._law_sums_right.b (xa_cons (ex_var 0) (xa_cons (ex_var 1) (xa_cons (ex_var 2) (xa_nil))))))) (xw_or1 (xt_not (xt_val (ex_call (ok__law_parted_right T) (hr.mono (by decide)) T._law_parted_right.g T._law_parted_right.F.kp T._law_parted_right.b (xa_cons (ex_var 0) (xa_cons (ex_var 1) (xa_nil))))))))) (ss_one (sx_ret (ex_bl))) (ss_nil)) (ss_one (sx_ret (ex_call (ok__law_less_right T) (hr.mono (by decide)) T._law_less_right.g T._law_less_right.F.kp T._law_less_right.b (xa_cons (ex_var 0) (xa_cons (ex_var 1) (xa_cons (ex_var 2) (xa_nil)))))))
noncomputable def l2_law : SF := sSeq (sAsg (e2 dSub (eCallO m__law_take (aoOwn 2 (aoVal (e2 dAddL (e2 dMul (eC (.int 2)) (e2 dPow (eC (.int 10)) (eC (.int 6)))) (eC (.int 1))) (aoNil)))) (e2 dPow (eC (.int 10)) (eC (.int 6)))) (gN 5)) (sSeq (sApp 3 (eCall m_number (aCons (eVar 5) (aCons (e2 dAddL (eC (.int 1)) (eCallO m__law_take (aoOwn 2 (aoVal (eC (.int 100)) (aoNil))))) (aNil))))) (sIf (bTst (e2 dEq (eCallO m__law_take (aoOwn 2 (aoVal (eC (.int 4)) (aoNil)))) (eC (.int 0)))) (sAsg (eCall m_number (aCons (e2 dAddL (e2 dMul (eVar 5) (eC (.int 999))) (eVar 4)) (aCons (e2 dAddL (eC (.int 1)) (eCallO m__law_take (aoOwn 2 (aoVal (e2 dPow (eC (.int 10)) (eC (.int 6))) (aoNil))))) (aNil)))) (gIx 3 (eVar 4))) (sNext)))
noncomputable def l3_law : SF := sIf (bOr (bNot (bTst (eCall m_is_number (aCons (eVar 6) (aNil))))) (bTst (e2 dNe (eCall m_read_number (aCons (eCall m_show_number (aCons (eVar 6) (aNil))) (aNil))) (eVar 6)))) (sRet (eC (.bl false))) (sNext)
noncomputable def l1_law : SF := sSeq (sNew 2 (nCall m__law_pack (aCons (eVar 0) (aCons (eVar 1) (aNil))))) (sSeq (sNew 3 (nLst (aNil))) (sSeq (sFor (iRng1 (aCons (eC (.int 3)) (aNil))) (gN 4) l2_law) (sSeq (sIf (bOr (bNot (bTst (eCall m__law_right (aCons (eBor 3 (e2 dIx (eVar 3) (eC (.int 0)))) (aCons (eBor 3 (e2 dIx (eVar 3) (eC (.int 1)))) (aCons (eBor 3 (e2 dIx (eVar 3) (eC (.int 2)))) (aNil))))))) (bNot (bTst (eCall m__law_right (aCons (eBor 3 (e2 dIx (eVar 3) (eC (.int 2)))) (aCons (eBor 3 (e2 dIx (eVar 3) (eC (.int 2)))) (aCons (eBor 3 (e2 dIx (eVar 3) (eC (.int 0)))) (aNil)))))))) (sRet (eC (.bl false))) (sNext)) (sFor (iSeq (eCat 3 (eLst (aCons (eCall m_added (aCons (eBor 3 (e2 dIx (eVar 3) (eC (.int 0)))) (aCons (eBor 3 (e2 dIx (eVar 3) (eC (.int 1)))) (aNil)))) (aCons (eCall m_multiplied (aCons (eBor 3 (e2 dIx (eVar 3) (eC (.int 1)))) (aCons (eBor 3 (e2 dIx (eVar 3) (eC (.int 2)))) (aNil)))) (aNil)))))) (gN 6) l3_law))))
noncomputable def b_law : SF := sSeq (sFor (iRng3 (aCons (eC (.int 0)) (aCons (eCall bMax (aCons (eC (.int 1)) (aCons (eCall bMin (aCons (eCall bLen (aCons (eVar 0) (aNil))) (aCons (eC (.int 32)) (aNil)))) (aNil)))) (aCons (eC (.int 2)) (aNil))))) (gN 1) l1_law) (sRet (eC (.bl true)))
noncomputable def m_law : List D → Option D := runP 1 7 b_law
theorem ok_law (T : Tx K mg) : FnOk P w K mg base CX0 6 T.law.a T.law.d ["_law_script"] (spP (cx T) m_law) :=
  fn_pure 1 7 m_law b_law rfl T.law.F sc_law rfl rfl rfl fun cdv A outer s H E hr => ss_cons (sx_for (ix_range3 (xa_cons (ex_int) (xa_cons (ex_callB (call_max2 rfl) cs_max T.n_max (xa_cons (ex_int) (xa_cons (ex_callB (call_min2 rfl) cs_min T.n_min (xa_cons (ex_callB call_len cs_len T.n_len (xa_cons (ex_var 0) (xa_nil))) (xa_cons (ex_int) (xa_nil)))) (xa_nil)))) (xa_cons (ex_int) (xa_nil)))) T.n_range) (gx_name 1 sc_law.nd) (ss_cons (sx_new 2 sc_law.nd (xn_call (ok__law_pack T) (hr.mono (by decide)) T._law_pack.g T._law_pack.F.kp T._law_pack.b (xa_cons (ex_var 0) (xa_cons (ex_var 1) (xa_nil))))) (ss_cons (sx_new 3 sc_law.nd (xn_lst (xa_nil))) (ss_cons (sx_for (ix_range1 (xa_cons (ex_int) (xa_nil)) T.n_range) (gx_name 4 sc_law.nd) (ss_cons (sx_set 5 sc_law.nd (ex_op op_sub os_sub (ex_callO (ok__law_take T) (hr.mono (by decide)) T._law_take.g T._law_take.F.kp T._law_take.b (xao_own 2 (xao_val (ex_op op_addL os_addL (ex_op op_mulA os_mul (ex_int) (ex_op op_pow os_pow (ex_int) (ex_int))) (ex_int)) (xao_nil)))) (ex_op op_pow os_pow (ex_int) (ex_int)))) (ss_cons (sx_app 3 (ex_call (ok_number T) (hr.mono (by decide)) T.number.g T.number.F.kp T.number.b (xa_cons (ex_var 5) (xa_cons (ex_op op_addL os_addL (ex_int) (ex_callO (ok__law_take T) (hr.mono (by decide)) T._law_take.g T._law_take.F.kp T._law_take.b (xao_own 2 (xao_val (ex_int) (xao_nil))))) (xa_nil))))) (ss_one (sx_if (xt_cmp (op_eqD hr.units) os_eq bo_eq (ex_callO (ok__law_take T) (hr.mono (by decide)) T._law_take.g T._law_take.F.kp T._law_take.b (xao_own 2 (xao_val (ex_int) (xao_nil)))) (ex_int)) (ss_one (sx_asg (ex_call (ok_number T) (hr.mono (by decide)) T.number.g T.number.F.kp T.number.b (xa_cons (ex_op op_addL os_addL (ex_op op_mulA os_mul (ex_var 5) (ex_int)) (ex_var 4)) (xa_cons (ex_op op_addL os_addL (ex_int) (ex_callO (ok__law_take T) (hr.mono (by decide)) T._law_take.g T._law_take.F.kp T._law_take.b (xao_own 2 (xao_val (ex_op op_pow os_pow (ex_int) (ex_int)) (xao_nil))))) (xa_nil)))) (gx_ix 3 (ex_var 4)))) (ss_nil)))))) (ss_cons (sx_if (PW.pt (xw_or (xt_not (xt_val (ex_call (ok__law_right T) (hr.mono (by decide)) T._law_right.g T._law_right.F.kp T._law_right.b (xa_cons (ex_bor 3 (ex_ix ix_seq os_ix (ex_var 3) (ex_int))) (xa_cons (ex_bor 3 (ex_ix ix_seq os_ix (ex_var 3) (ex_int))) (xa_cons (ex_bor 3 (ex_ix ix_seq os_ix (ex_var 3) (ex_int))) (xa_nil))))))) (xw_or1 (xt_not (xt_val (ex_call (ok__law_right T) (hr.mono (by decide)) T._law_right.g T._law_right.F.kp T._law_right.b (xa_cons (ex_bor 3 (ex_ix ix_seq os_ix (ex_var 3) (ex_int))) (xa_cons (ex_bor 3 (ex_ix ix_seq os_ix (ex_var 3) (ex_int))) (xa_cons (ex_bor 3 (ex_ix ix_seq os_ix (ex_var 3) (ex_int))) (xa_nil)))))))))) (ss_one (sx_ret (ex_bl))) (ss_nil)) (ss_one (sx_for (ix_seq' (ex_cat 3 (ex_lst (xa_cons (ex_call (ok_added T) (hr.mono (by decide)) T.added.g T.added.F.kp T.added.b (xa_cons (ex_bor 3 (ex_ix ix_seq os_ix (ex_var 3) (ex_int))) (xa_cons (ex_bor 3 (ex_ix ix_seq os_ix (ex_var 3) (ex_int))) (xa_nil)))) (xa_cons (ex_call (ok_multiplied T) (hr.mono (by decide)) T.multiplied.g T.multiplied.F.kp T.multiplied.b (xa_cons (ex_bor 3 (ex_ix ix_seq os_ix (ex_var 3) (ex_int))) (xa_cons (ex_bor 3 (ex_ix ix_seq os_ix (ex_var 3) (ex_int))) (xa_nil)))) (xa_nil)))))) (gx_name 6 sc_law.nd) (ss_one (sx_if (PW.pt (xw_or (xt_not (xt_val (ex_call (ok_is_number T) (hr.mono (by decide)) T.is_number.g T.is_number.F.kp T.is_number.b (xa_cons (ex_var 6) (xa_nil))))) (xw_or1 (xt_cmp (op_neD hr.units) os_ne bo_ne (ex_call (ok_read_number T) (hr.mono (by decide)) T.read_number.g T.read_number.F.kp T.read_number.b (xa_cons (ex_call (ok_show_number T) (hr.mono (by decide)) T.show_number.g T.show_number.F.kp T.show_number.b (xa_cons (ex_var 6) (xa_nil))) (xa_nil))) (ex_var 6))))) (ss_one (sx_ret (ex_bl))) (ss_nil)))))))))) (ss_one (sx_ret (ex_bl)))
end
/-! ### what the top has written -/
theorem all_mk {h : Heap} {K : PySem.W.Frag} {mg : Str → Option Value} (X : K.In h) (G : h.Ns mainGlobals mg)
    {f0 : Addr} {od0 an0 : Option Addr} {sl0 : Array (Option Value)} {oc0 kV0 dc0 pm0 cd0 ct0 : Value}
    (a0 : PySem.W.nsIn K mainGlobals "is_whole" = some (some (.ref f0))) (l0 : K.lookup f0 = some ⟨oc0, od0, .func (PySem.W.fnOf "is_whole" "is_whole" (defArgs s_is_whole) (defBody s_is_whole) (defScope s_is_whole) .none kV0 dc0 pm0 an0 cd0 ct0), sl0⟩) (c0 : PySem.W.codeIn K cd0 "is_whole" = true) (k0 : PySem.W.keepIn K (.ref f0) = true)
    {f1 : Addr} {od1 an1 : Option Addr} {sl1 : Array (Option Value)} {oc1 kV1 dc1 pm1 cd1 ct1 : Value}
    (a1 : PySem.W.nsIn K mainGlobals "common" = some (some (.ref f1))) (l1 : K.lookup f1 = some ⟨oc1, od1, .func (PySem.W.fnOf "common" "common" (defArgs s_common) (defBody s_common) (defScope s_common) .none kV1 dc1 pm1 an1 cd1 ct1), sl1⟩) (c1 : PySem.W.codeIn K cd1 "common" = true) (k1 : PySem.W.keepIn K (.ref f1) = true)
    {f2 : Addr} {od2 an2 : Option Addr} {sl2 : Array (Option Value)} {oc2 kV2 dc2 pm2 cd2 ct2 : Value}
    (a2 : PySem.W.nsIn K mainGlobals "is_number" = some (some (.ref f2))) (l2 : K.lookup f2 = some ⟨oc2, od2, .func (PySem.W.fnOf "is_number" "is_number" (defArgs s_is_number) (defBody s_is_number) (defScope s_is_number) .none kV2 dc2 pm2 an2 cd2 ct2), sl2⟩) (c2 : PySem.W.codeIn K cd2 "is_number" = true) (k2 : PySem.W.keepIn K (.ref f2) = true)
    {f3 : Addr} {od3 an3 : Option Addr} {sl3 : Array (Option Value)} {oc3 kV3 dc3 pm3 cd3 ct3 : Value}
    (a3 : PySem.W.nsIn K mainGlobals "number" = some (some (.ref f3))) (l3 : K.lookup f3 = some ⟨oc3, od3, .func (PySem.W.fnOf "number" "number" (defArgs s_number) (defBody s_number) (defScope s_number) .none kV3 dc3 pm3 an3 cd3 ct3), sl3⟩) (c3 : PySem.W.codeIn K cd3 "number" = true) (k3 : PySem.W.keepIn K (.ref f3) = true)
    {f4 : Addr} {od4 an4 : Option Addr} {sl4 : Array (Option Value)} {oc4 kV4 dc4 pm4 cd4 ct4 : Value}
    (a4 : PySem.W.nsIn K mainGlobals "added" = some (some (.ref f4))) (l4 : K.lookup f4 = some ⟨oc4, od4, .func (PySem.W.fnOf "added" "added" (defArgs s_added) (defBody s_added) (defScope s_added) .none kV4 dc4 pm4 an4 cd4 ct4), sl4⟩) (c4 : PySem.W.codeIn K cd4 "added" = true) (k4 : PySem.W.keepIn K (.ref f4) = true)
    {f5 : Addr} {od5 an5 : Option Addr} {sl5 : Array (Option Value)} {oc5 kV5 dc5 pm5 cd5 ct5 : Value}
    (a5 : PySem.W.nsIn K mainGlobals "taken" = some (some (.ref f5))) (l5 : K.lookup f5 = some ⟨oc5, od5, .func (PySem.W.fnOf "taken" "taken" (defArgs s_taken) (defBody s_taken) (defScope s_taken) .none kV5 dc5 pm5 an5 cd5 ct5), sl5⟩) (c5 : PySem.W.codeIn K cd5 "taken" = true) (k5 : PySem.W.keepIn K (.ref f5) = true)
    {f6 : Addr} {od6 an6 : Option Addr} {sl6 : Array (Option Value)} {oc6 kV6 dc6 pm6 cd6 ct6 : Value}
    (a6 : PySem.W.nsIn K mainGlobals "multiplied" = some (some (.ref f6))) (l6 : K.lookup f6 = some ⟨oc6, od6, .func (PySem.W.fnOf "multiplied" "multiplied" (defArgs s_multiplied) (defBody s_multiplied) (defScope s_multiplied) .none kV6 dc6 pm6 an6 cd6 ct6), sl6⟩) (c6 : PySem.W.codeIn K cd6 "multiplied" = true) (k6 : PySem.W.keepIn K (.ref f6) = true)
    {f7 : Addr} {od7 an7 : Option Addr} {sl7 : Array (Option Value)} {oc7 kV7 dc7 pm7 cd7 ct7 : Value}
    (a7 : PySem.W.nsIn K mainGlobals "parted" = some (some (.ref f7))) (l7 : K.lookup f7 = some ⟨oc7, od7, .func (PySem.W.fnOf "parted" "parted" (defArgs s_parted) (defBody s_parted) (defScope s_parted) .none kV7 dc7 pm7 an7 cd7 ct7), sl7⟩) (c7 : PySem.W.codeIn K cd7 "parted" = true) (k7 : PySem.W.keepIn K (.ref f7) = true)
    {f8 : Addr} {od8 an8 : Option Addr} {sl8 : Array (Option Value)} {oc8 kV8 dc8 pm8 cd8 ct8 : Value}
    (a8 : PySem.W.nsIn K mainGlobals "is_less" = some (some (.ref f8))) (l8 : K.lookup f8 = some ⟨oc8, od8, .func (PySem.W.fnOf "is_less" "is_less" (defArgs s_is_less) (defBody s_is_less) (defScope s_is_less) .none kV8 dc8 pm8 an8 cd8 ct8), sl8⟩) (c8 : PySem.W.codeIn K cd8 "is_less" = true) (k8 : PySem.W.keepIn K (.ref f8) = true)
    {f9 : Addr} {od9 an9 : Option Addr} {sl9 : Array (Option Value)} {oc9 kV9 dc9 pm9 cd9 ct9 : Value}
    (a9 : PySem.W.nsIn K mainGlobals "show_number" = some (some (.ref f9))) (l9 : K.lookup f9 = some ⟨oc9, od9, .func (PySem.W.fnOf "show_number" "show_number" (defArgs s_show_number) (defBody s_show_number) (defScope s_show_number) .none kV9 dc9 pm9 an9 cd9 ct9), sl9⟩) (c9 : PySem.W.codeIn K cd9 "show_number" = true) (k9 : PySem.W.keepIn K (.ref f9) = true)
    {f10 : Addr} {od10 an10 : Option Addr} {sl10 : Array (Option Value)} {oc10 kV10 dc10 pm10 cd10 ct10 : Value}
    (a10 : PySem.W.nsIn K mainGlobals "are_figures" = some (some (.ref f10))) (l10 : K.lookup f10 = some ⟨oc10, od10, .func (PySem.W.fnOf "are_figures" "are_figures" (defArgs s_are_figures) (defBody s_are_figures) (defScope s_are_figures) .none kV10 dc10 pm10 an10 cd10 ct10), sl10⟩) (c10 : PySem.W.codeIn K cd10 "are_figures" = true) (k10 : PySem.W.keepIn K (.ref f10) = true)
    {f11 : Addr} {od11 an11 : Option Addr} {sl11 : Array (Option Value)} {oc11 kV11 dc11 pm11 cd11 ct11 : Value}
    (a11 : PySem.W.nsIn K mainGlobals "number_in" = some (some (.ref f11))) (l11 : K.lookup f11 = some ⟨oc11, od11, .func (PySem.W.fnOf "number_in" "number_in" (defArgs s_number_in) (defBody s_number_in) (defScope s_number_in) .none kV11 dc11 pm11 an11 cd11 ct11), sl11⟩) (c11 : PySem.W.codeIn K cd11 "number_in" = true) (k11 : PySem.W.keepIn K (.ref f11) = true)
    {f12 : Addr} {od12 an12 : Option Addr} {sl12 : Array (Option Value)} {oc12 kV12 dc12 pm12 cd12 ct12 : Value}
    (a12 : PySem.W.nsIn K mainGlobals "read_number" = some (some (.ref f12))) (l12 : K.lookup f12 = some ⟨oc12, od12, .func (PySem.W.fnOf "read_number" "read_number" (defArgs s_read_number) (defBody s_read_number) (defScope s_read_number) .none kV12 dc12 pm12 an12 cd12 ct12), sl12⟩) (c12 : PySem.W.codeIn K cd12 "read_number" = true) (k12 : PySem.W.keepIn K (.ref f12) = true)
    {f13 : Addr} {od13 an13 : Option Addr} {sl13 : Array (Option Value)} {oc13 kV13 dc13 pm13 cd13 ct13 : Value}
    (a13 : PySem.W.nsIn K mainGlobals "_law_mixed" = some (some (.ref f13))) (l13 : K.lookup f13 = some ⟨oc13, od13, .func (PySem.W.fnOf "_law_mixed" "_law_mixed" (defArgs s__law_mixed) (defBody s__law_mixed) (defScope s__law_mixed) .none kV13 dc13 pm13 an13 cd13 ct13), sl13⟩) (c13 : PySem.W.codeIn K cd13 "_law_mixed" = true) (k13 : PySem.W.keepIn K (.ref f13) = true)
    {f14 : Addr} {od14 an14 : Option Addr} {sl14 : Array (Option Value)} {oc14 kV14 dc14 pm14 cd14 ct14 : Value}
    (a14 : PySem.W.nsIn K mainGlobals "_law_pack" = some (some (.ref f14))) (l14 : K.lookup f14 = some ⟨oc14, od14, .func (PySem.W.fnOf "_law_pack" "_law_pack" (defArgs s__law_pack) (defBody s__law_pack) (defScope s__law_pack) .none kV14 dc14 pm14 an14 cd14 ct14), sl14⟩) (c14 : PySem.W.codeIn K cd14 "_law_pack" = true) (k14 : PySem.W.keepIn K (.ref f14) = true)
    {f15 : Addr} {od15 an15 : Option Addr} {sl15 : Array (Option Value)} {oc15 kV15 dc15 pm15 cd15 ct15 : Value}
    (a15 : PySem.W.nsIn K mainGlobals "_law_take" = some (some (.ref f15))) (l15 : K.lookup f15 = some ⟨oc15, od15, .func (PySem.W.fnOf "_law_take" "_law_take" (defArgs s__law_take) (defBody s__law_take) (defScope s__law_take) .none kV15 dc15 pm15 an15 cd15 ct15), sl15⟩) (c15 : PySem.W.codeIn K cd15 "_law_take" = true) (k15 : PySem.W.keepIn K (.ref f15) = true)
    {f16 : Addr} {od16 an16 : Option Addr} {sl16 : Array (Option Value)} {oc16 kV16 dc16 pm16 cd16 ct16 : Value}
    (a16 : PySem.W.nsIn K mainGlobals "_law_sums_right" = some (some (.ref f16))) (l16 : K.lookup f16 = some ⟨oc16, od16, .func (PySem.W.fnOf "_law_sums_right" "_law_sums_right" (defArgs s__law_sums_right) (defBody s__law_sums_right) (defScope s__law_sums_right) .none kV16 dc16 pm16 an16 cd16 ct16), sl16⟩) (c16 : PySem.W.codeIn K cd16 "_law_sums_right" = true) (k16 : PySem.W.keepIn K (.ref f16) = true)
    {f17 : Addr} {od17 an17 : Option Addr} {sl17 : Array (Option Value)} {oc17 kV17 dc17 pm17 cd17 ct17 : Value}
    (a17 : PySem.W.nsIn K mainGlobals "_law_parted_right" = some (some (.ref f17))) (l17 : K.lookup f17 = some ⟨oc17, od17, .func (PySem.W.fnOf "_law_parted_right" "_law_parted_right" (defArgs s__law_parted_right) (defBody s__law_parted_right) (defScope s__law_parted_right) .none kV17 dc17 pm17 an17 cd17 ct17), sl17⟩) (c17 : PySem.W.codeIn K cd17 "_law_parted_right" = true) (k17 : PySem.W.keepIn K (.ref f17) = true)
    {f18 : Addr} {od18 an18 : Option Addr} {sl18 : Array (Option Value)} {oc18 kV18 dc18 pm18 cd18 ct18 : Value}
    (a18 : PySem.W.nsIn K mainGlobals "_law_less_right" = some (some (.ref f18))) (l18 : K.lookup f18 = some ⟨oc18, od18, .func (PySem.W.fnOf "_law_less_right" "_law_less_right" (defArgs s__law_less_right) (defBody s__law_less_right) (defScope s__law_less_right) .none kV18 dc18 pm18 an18 cd18 ct18), sl18⟩) (c18 : PySem.W.codeIn K cd18 "_law_less_right" = true) (k18 : PySem.W.keepIn K (.ref f18) = true)
    {f19 : Addr} {od19 an19 : Option Addr} {sl19 : Array (Option Value)} {oc19 kV19 dc19 pm19 cd19 ct19 : Value}
    (a19 : PySem.W.nsIn K mainGlobals "_law_right" = some (some (.ref f19))) (l19 : K.lookup f19 = some ⟨oc19, od19, .func (PySem.W.fnOf "_law_right" "_law_right" (defArgs s__law_right) (defBody s__law_right) (defScope s__law_right) .none kV19 dc19 pm19 an19 cd19 ct19), sl19⟩) (c19 : PySem.W.codeIn K cd19 "_law_right" = true) (k19 : PySem.W.keepIn K (.ref f19) = true)
    {f20 : Addr} {od20 an20 : Option Addr} {sl20 : Array (Option Value)} {oc20 kV20 dc20 pm20 cd20 ct20 : Value}
    (a20 : PySem.W.nsIn K mainGlobals "law" = some (some (.ref f20))) (l20 : K.lookup f20 = some ⟨oc20, od20, .func (PySem.W.fnOf "law" "law" (defArgs s_law) (defBody s_law) (defScope s_law) .none kV20 dc20 pm20 an20 cd20 ct20), sl20⟩) (c20 : PySem.W.codeIn K cd20 "law" = true) (k20 : PySem.W.keepIn K (.ref f20) = true)
    {t_FIGURES : Tok} (u_FIGURES : PySem.W.nsIn K mainGlobals "FIGURES" = some (some (.str "0123456789" t_FIGURES)))
    (z_abs : PySem.W.nsIn K mainGlobals "abs" = some none)
    (z_all : PySem.W.nsIn K mainGlobals "all" = some none)
    (z_bool : PySem.W.nsIn K mainGlobals "bool" = some none)
    (z_divmod : PySem.W.nsIn K mainGlobals "divmod" = some none)
    (z_int : PySem.W.nsIn K mainGlobals "int" = some none)
    (z_isinstance : PySem.W.nsIn K mainGlobals "isinstance" = some none)
    (z_len : PySem.W.nsIn K mainGlobals "len" = some none)
    (z_max : PySem.W.nsIn K mainGlobals "max" = some none)
    (z_min : PySem.W.nsIn K mainGlobals "min" = some none)
    (z_range : PySem.W.nsIn K mainGlobals "range" = some none)
    (z_str : PySem.W.nsIn K mainGlobals "str" = some none)
    (z_tuple : PySem.W.nsIn K mainGlobals "tuple" = some none)
    : Nonempty (Tx K mg) := ⟨{
    n_abs := PySem.W.mg_none_of X G z_abs
    n_all := PySem.W.mg_none_of X G z_all
    n_bool := PySem.W.mg_none_of X G z_bool
    n_divmod := PySem.W.mg_none_of X G z_divmod
    n_int := PySem.W.mg_none_of X G z_int
    n_isinstance := PySem.W.mg_none_of X G z_isinstance
    n_len := PySem.W.mg_none_of X G z_len
    n_max := PySem.W.mg_none_of X G z_max
    n_min := PySem.W.mg_none_of X G z_min
    n_range := PySem.W.mg_none_of X G z_range
    n_str := PySem.W.mg_none_of X G z_str
    n_tuple := PySem.W.mg_none_of X G z_tuple
    FIGURES := .str (PySem.W.mg_of X G u_FIGURES)
    is_whole := .mk' X G a0 l0 c0 k0 (fun _ _ _ _ _ _ us hl => match us, hl with | [_], _ => rfl)
    common := .mk' X G a1 l1 c1 k1 (fun _ _ _ _ _ _ us hl => match us, hl with | [_, _], _ => rfl)
    is_number := .mk' X G a2 l2 c2 k2 (fun _ _ _ _ _ _ us hl => match us, hl with | [_], _ => rfl)
    number := .mk' X G a3 l3 c3 k3 (fun _ _ _ _ _ _ us hl => match us, hl with | [_, _], _ => rfl)
    added := .mk' X G a4 l4 c4 k4 (fun _ _ _ _ _ _ us hl => match us, hl with | [_, _], _ => rfl)
    taken := .mk' X G a5 l5 c5 k5 (fun _ _ _ _ _ _ us hl => match us, hl with | [_, _], _ => rfl)
    multiplied := .mk' X G a6 l6 c6 k6 (fun _ _ _ _ _ _ us hl => match us, hl with | [_, _], _ => rfl)
    parted := .mk' X G a7 l7 c7 k7 (fun _ _ _ _ _ _ us hl => match us, hl with | [_, _], _ => rfl)
    is_less := .mk' X G a8 l8 c8 k8 (fun _ _ _ _ _ _ us hl => match us, hl with | [_, _], _ => rfl)
    show_number := .mk' X G a9 l9 c9 k9 (fun _ _ _ _ _ _ us hl => match us, hl with | [_], _ => rfl)
    are_figures := .mk' X G a10 l10 c10 k10 (fun _ _ _ _ _ _ us hl => match us, hl with | [_], _ => rfl)
    number_in := .mk' X G a11 l11 c11 k11 (fun _ _ _ _ _ _ us hl => match us, hl with | [_], _ => rfl)
    read_number := .mk' X G a12 l12 c12 k12 (fun _ _ _ _ _ _ us hl => match us, hl with | [_], _ => rfl)
    _law_mixed := .mk' X G a13 l13 c13 k13 (fun _ _ _ _ _ _ us hl => match us, hl with | [_], _ => rfl)
    _law_pack := .mk' X G a14 l14 c14 k14 (fun _ _ _ _ _ _ us hl => match us, hl with | [_, _], _ => rfl)
    _law_take := .mk' X G a15 l15 c15 k15 (fun _ _ _ _ _ _ us hl => match us, hl with | [_, _], _ => rfl)
    _law_sums_right := .mk' X G a16 l16 c16 k16 (fun _ _ _ _ _ _ us hl => match us, hl with | [_, _, _], _ => rfl)
    _law_parted_right := .mk' X G a17 l17 c17 k17 (fun _ _ _ _ _ _ us hl => match us, hl with | [_, _], _ => rfl)
    _law_less_right := .mk' X G a18 l18 c18 k18 (fun _ _ _ _ _ _ us hl => match us, hl with | [_, _, _], _ => rfl)
    _law_right := .mk' X G a19 l19 c19 k19 (fun _ _ _ _ _ _ us hl => match us, hl with | [_, _, _], _ => rfl)
    law := .mk' X G a20 l20 c20 k20 (fun _ _ _ _ _ _ us hl => match us, hl with | [_], _ => rfl)
    }⟩
end Gn
/-! ### what the defs of levelcord.numbers reckon -/
set_option exponentiation.threshold 10000
namespace Gn
open PySem PySem.Spec PyProof.Rows L2 DL
theorem common_loop (a b : Nat) : sWhile t1_common l1_common [.val (.int a), .val (.int b)] = some (.next [.val (.int (Nat.gcd a b)), .val (.int 0)]) := by
  induction b using Nat.strongRecOn generalizing a with
  | _ b ih =>
    rw [sWhile_eq, l1_common, t1_common]
    by_cases hb : b = 0
    · subst hb
      simp
    · have e : (b : Int) ≠ 0 := by omega
      have e2 : (a : Int).fmod b = ((a % b : Nat) : Int) := by rw [Int.fmod_eq_emod_of_nonneg _ (by omega)]; rfl
      have := ih (a % b) (Nat.mod_lt _ (by omega)) b
      simp only [v_bTst, v_e2, v_eVar, v_eC, List.getElem?_cons_succ, List.getElem?_cons_zero, Option.bind_some, v_neI, Option.map_some, v_tB, decide_eq_true_eq, ne_eq, e, not_false_eq_true, if_true, v_sPar, v_aCons, v_aNil, dMod, e2, List.length_cons, List.length_nil, List.set_cons_zero, List.set_cons_succ, decide_true]
      simp only [Nat.reduceAdd, Nat.reduceLT, and_self, if_true, Option.bind_some]
      rw [l1_common, t1_common] at this
      rw [this, Nat.gcd_comm b, ← Nat.gcd_rec, Nat.gcd_comm]
theorem c_common (a b : Int) : m_common [.int a, .int b] = some (.int (Int.gcd a b)) := by
  have ab : ∀ i : Int, (if i < 0 then -i else i) = (i.natAbs : Int) := fun i => by split <;> omega
  have := common_loop a.natAbs b.natAbs
  simp only [m_common, b_common, runP, List.length_cons, List.length_nil, Nat.reduceAdd, if_true, List.map_cons, List.map_nil, Nat.sub_self, List.replicate_zero, List.append_nil, v_sSeq, v_sPar, v_aCons, v_aNil, v_eCall, v_eVar, List.getElem?_cons_succ, List.getElem?_cons_zero, Option.bind_some, Option.map_some, bAbs, Nat.reduceLT, and_self, List.set_cons_zero, List.set_cons_succ, ab, this, v_sRet]
  rfl
theorem c_number {t b : Int} {n : Nat} (hb : b ≠ 0) (hs : b.natAbs < 2 ^ n) (hn : n ≤ 9000) : m_number [.int t, .int b] = some (numD (Rat.divInt t b)) := by
  have g0 : Int.gcd t b ≠ 0 := by rw [Ne, Int.gcd_eq_zero_iff]; exact fun h => hb h.2
  have gl : (Int.gcd t b).log2 < 9000 := by
    refine log2_of (Nat.lt_of_le_of_lt ?_ (Nat.lt_of_lt_of_le hs (Nat.pow_le_pow_right (by decide) hn))) (by decide)
    exact Nat.le_of_dvd (by omega) (Int.gcd_dvd_natAbs_right t b)
  obtain ⟨t', ht⟩ : (Int.gcd t b : Int) ∣ t := Int.gcd_dvd_left ..
  obtain ⟨b', hb'⟩ : (Int.gcd t b : Int) ∣ b := Int.gcd_dvd_right ..
  have q : (Rat.divInt t b).num = b.sign * t' ∧ ((Rat.divInt t b).den : Int) = b'.natAbs := by
    rw [Rat.num_divInt, Rat.den_divInt, if_neg hb, Int.gcd_comm b t]
    generalize Int.gcd t b = g at *
    subst ht
    refine ⟨?_, ?_⟩
    · rw [← Int.mul_assoc, Int.mul_comm _ (g : Int), Int.mul_assoc]
      exact Int.mul_ediv_cancel_left _ (by omega)
    · subst hb'
      rw [Int.natAbs_mul, Int.natAbs_natCast, Nat.mul_div_cancel_left _ (by omega)]
  generalize hg : Int.gcd t b = g at *
  rw [numD, q.1, q.2]
  have gi : (g : Int) ≠ 0 := by omega
  by_cases hl : b < 0
  · have f1 : t.fdiv (-(g : Int)) = b.sign * t' := by
      rw [ht, show (g : Int) * t' = (-g) * (-t') by rw [Int.neg_mul_neg], Int.mul_fdiv_cancel_left _ (by omega), Int.sign_eq_neg_one_of_neg hl]
      omega
    have f2 : b.fdiv (-(g : Int)) = b'.natAbs := by
      have b0 : b' < 0 := by
        rcases Int.lt_or_le b' 0 with h | h
        · exact h
        · exact absurd (hb' ▸ Int.mul_nonneg (by omega) h) (by omega)
      rw [hb', show (g : Int) * b' = (-g) * (-b') by rw [Int.neg_mul_neg], Int.mul_fdiv_cancel_left _ (by omega)]
      omega
    simp [m_number, b_number, runP, c_common, hg, hb, hl, dFdiv, f1, f2, gl, g0, cap]
  · have f1 : t.fdiv (g : Int) = b.sign * t' := by
      rw [ht, Int.mul_fdiv_cancel_left _ gi, Int.sign_eq_one_of_pos (by omega)]
      omega
    have f2 : b.fdiv (g : Int) = b'.natAbs := by
      have b0 : 0 < b' := by
        rcases Int.lt_or_le 0 b' with h | h
        · exact h
        · exact absurd (hb' ▸ Int.mul_nonpos_of_nonneg_of_nonpos (by omega) h) (by omega)
      rw [hb', Int.mul_fdiv_cancel_left _ gi]
      omega
    simp [m_number, b_number, runP, c_common, hg, hb, hl, dFdiv, f1, f2, gl, gi, g0, cap]
theorem szlog {n m : Nat} {a b : Int} (h : a.natAbs < 2 ^ n) (h1 : b.natAbs < 2 ^ m) (hn : n ≤ 4000) (hm : m ≤ 4000) : a.natAbs.log2 + b.natAbs.log2 < 100000000 := by
  have := log2_of (Nat.lt_of_lt_of_le h (Nat.pow_le_pow_right (by decide) hn)) (by decide)
  have := log2_of (Nat.lt_of_lt_of_le h1 (Nat.pow_le_pow_right (by decide) hm)) (by decide)
  omega
theorem mulI {n m : Nat} {a b : Int} (h : a.natAbs < 2 ^ n) (h1 : b.natAbs < 2 ^ m) (hn : n ≤ 4000) (hm : m ≤ 4000) : dMul (.int a) (.int b) = some (.int (a * b)) := if_pos (szlog h h1 hn hm)
theorem szden {n : Nat} {p : Rat} (h : Sz n p) : ((p.den : Int)).natAbs < 2 ^ n := h.2
theorem den0 (p q : Rat) : (p.den : Int) * q.den ≠ 0 := by
  have := p.den_nz
  have := q.den_nz
  exact Int.mul_ne_zero (by omega) (by omega)
theorem dens {n : Nat} {p q : Rat} (hp : Sz n p) (hq : Sz n q) (hn : n ≤ 4000) : ((p.den : Int) * q.den).natAbs < 2 ^ 8000 := by
  rw [Int.natAbs_mul]
  exact Nat.lt_of_lt_of_le (lt2_mul hp.2 hq.2) (Nat.pow_le_pow_right (by decide) (by omega))
section
variable {n : Nat} {p q : Rat} (hp : Sz n p) (hq : Sz n q) (hn : n ≤ 4000)
include hp hq hn
theorem c_added : m_added [numD p, numD q] = some (numD (p + q)) := by
  rw [Rat.add_divInt', ← c_number (den0 p q) (dens hp hq hn) (by decide)]
  simp [m_added, b_added, runP, numD, mulI hp.1 (szden hq) hn hn, mulI hq.1 (szden hp) hn hn, mulI (szden hp) (szden hq) hn hn]
  cases m_number [D.int (p.num * ↑q.den + q.num * ↑p.den), D.int (↑p.den * ↑q.den)] <;> rfl
theorem c_taken : m_taken [numD p, numD q] = some (numD (p - q)) := by
  rw [Rat.sub_divInt', ← c_number (den0 p q) (dens hp hq hn) (by decide)]
  simp [m_taken, b_taken, runP, numD, mulI hp.1 (szden hq) hn hn, mulI hq.1 (szden hp) hn hn, mulI (szden hp) (szden hq) hn hn]
  cases m_number [D.int (p.num * ↑q.den - q.num * ↑p.den), D.int (↑p.den * ↑q.den)] <;> rfl
theorem c_multiplied : m_multiplied [numD p, numD q] = some (numD (p * q)) := by
  rw [Rat.mul_divInt', ← c_number (den0 p q) (dens hp hq hn) (by decide)]
  simp [m_multiplied, b_multiplied, runP, numD, mulI hp.1 hq.1 hn hn, mulI (szden hp) (szden hq) hn hn]
  cases m_number [D.int (p.num * q.num), D.int (↑p.den * ↑q.den)] <;> rfl
theorem c_parted (z : q ≠ 0) : m_parted [numD p, numD q] = some (numD (p / q)) := by
  have n0 : (p.den : Int) * q.num ≠ 0 := by
    have := p.den_nz
    exact Int.mul_ne_zero (by omega) (fun h => z (Rat.num_eq_zero.mp h))
  have n1 : ((p.den : Int) * q.num).natAbs < 2 ^ 8000 := by
    rw [Int.natAbs_mul]
    exact Nat.lt_of_lt_of_le (lt2_mul hp.2 hq.1) (Nat.pow_le_pow_right (by decide) (by omega))
  rw [Rat.div_divInt' _ _ z, ← c_number n0 n1 (by decide)]
  simp [m_parted, b_parted, runP, numD, mulI hp.1 (szden hq) hn hn, mulI (szden hp) hq.1 hn hn]
  cases m_number [D.int (p.num * q.den), D.int (↑p.den * ↑q.num)] <;> rfl
theorem c_is_less : m_is_less [numD p, numD q] = some (.bl (decide (p < q))) := by
  simp [m_is_less, b_is_less, runP, numD, mulI hp.1 (szden hq) hn hn, mulI hq.1 (szden hp) hn hn, Rat.lt_iff]
end
end Gn
/-! ### the texts of numbers -/
namespace Gn
open PySem PySem.Spec PyProof.Rows L2 DL TL
theorem cut_front {x : Str} : tl (cutS x none (some 1)) = (tl x).take 1 := by
  have hl : x.length = x.cps.toList.length := len_tl x
  show ((x.cps.toList.drop 0).take (HT.sIx x.length x.length (some ((1 : Nat) : Int)) - 0)) = x.cps.toList.take 1
  rw [HT.sIx_nat, List.drop_zero, Nat.sub_zero, hl, List.take_eq_take_iff]
  generalize x.cps.toList = l
  omega
theorem cut_behind {x : Str} : tl (cutS x (some 1) none) = (tl x).drop 1 := by
  have hl : x.length = x.cps.toList.length := len_tl x
  show ((x.cps.toList.drop (HT.sIx x.length 0 (some ((1 : Nat) : Int)))).take (x.length - HT.sIx x.length 0 (some ((1 : Nat) : Int)))) = x.cps.toList.drop 1
  rw [HT.sIx_nat, hl]
  generalize x.cps.toList = l
  cases l with
  | nil => rfl
  | cons a l =>
    rw [show min 1 (a :: l).length = 1 by simp, List.take_of_length_le (by simp)]
theorem c_is_number (q : Rat) : m_is_number [numD q] = some (.bl true) := by
  have w : ∀ i : Int, m_is_whole [.int i] = some (.bl true) := fun i => rfl
  have d : 1 ≤ (q.den : Int) := by have := q.den_pos; omega
  have g : Int.gcd q.num q.den = 1 := q.reduced
  have l := lcD_map (g := gN 1) (fe := eCall m_is_whole (aCons (eVar 1) aNil)) (own := [1]) (s := [.val (.tup [.int q.num, .int q.den]), .un]) D.int (fun _ => .bl true) [q.num, (q.den : Int)] (fun a _ => ⟨_, _, rfl, by simp [w]; rfl, rfl⟩) (Nat.le_trans (m := 2) (Nat.le_refl _) (by decide))
  simp only [List.map_cons, List.map_nil] at l
  simp [m_is_number, b_is_number, runP, numD, isTy, bLen, l, bAll, boolsD, c_common, g, d]
theorem fig_tl : tl ("0123456789" : Str) = [48, 49, 50, 51, 52, 53, 54, 55, 56, 57] := by decide +kernel
theorem nil_tl : tl ("" : Str) = [] := by decide +kernel
theorem zero_tl : tl ("0" : Str) = [48] := by decide +kernel
theorem one_tl : tl ("1" : Str) = [49] := by decide +kernel
theorem bar_tl : tl ("/" : Str) = [47] := by decide +kernel
theorem minus_tl : tl ("-" : Str) = [45] := by decide +kernel
theorem minus0_tl : tl ("-0" : Str) = [45, 48] := by decide +kernel
theorem c_figures {x : Str} {n : Nat} (h : tl x = numL n) (hl : (numL n).length ≤ 1000) : m_are_figures [.str x] = some (.bl true) := by
  have ok : PyData.strOk x = true := strOk_tl (h ▸ numL_256)
  obtain ⟨c, cs, e, h1, h2, h3⟩ := numL_cons n
  have len : x.length = (numL n).length := by rw [len_tl, h]
  have e1 : dEq (.str x) (.str "") = some (.bl false) := by rw [dEq_str ok (by decide +kernel), nil_tl, h, e]; rfl
  have e0 : dEq (.str x) (.str "0") = some (.bl (decide (numL n = [48]))) := by rw [dEq_str ok (by decide +kernel), zero_tl, h]
  have e3 : dNe (.str ⟨#[c]⟩) (.str "0") = some (.bl (!decide (c = 48))) := by
    rw [dNe_str (strOk_tl (fun z hz => by rw [List.mem_singleton.mp hz]; omega)) (by decide +kernel), zero_tl]
    simp [tl]
  have e4 : dIx (.str x) (.int 0) = some (.str ⟨#[c]⟩) := by
    simp only [dIx]
    rw [if_pos (by rw [len]; exact Nat.le_trans hl (by decide)), show x.cps.toList = c :: cs from h.trans e]
    simp [atI, ixN]
  have l := lcD_map (g := gN 1) (fe := e2 dInS (eVar 1) (eC k_FIGURES)) (own := [1]) (s := [.val (.str x), .un]) (fun k => D.str ⟨#[k]⟩) (fun _ => .bl true) (numL n) (fun a ha => ⟨_, _, rfl, by
    have r := numL_digits n a ha
    have : a ∈ tl ("0123456789" : Str) := by rw [fig_tl]; simp; omega
    have this : a ∈ (Str.ofString "0123456789").cps := Array.mem_toList_iff.mp this
    simp [k_FIGURES, dInS, this]
    rfl, rfl⟩) (Nat.le_trans hl (by decide))
  have hi : items (.str x) = some ((numL n).map fun k => D.str ⟨#[k]⟩) := by rw [items, show x.cps.toList = numL n from h]
  by_cases z : numL n = [48]
  · have e0 : dEq (.str x) (.str "0") = some (.bl true) := by rw [e0, z]; rfl
    simp [m_are_figures, b_are_figures, runP, e1, hi, l, bAll, boolsD_map, e0]
  · have cz : c ≠ 48 := fun hc => z (by rw [h3 hc]; decide)
    simp [m_are_figures, b_are_figures, runP, e1, hi, l, bAll, boolsD_map, e0, e4, e3, z, cz]
theorem c_show {q : Rat} (h : Sz 1900 q) : m_show_number [numD q] = some (.str (showQ q)) := by
  have l1 : q.num.natAbs.log2 < 1920 := Nat.lt_of_lt_of_le (log2_of h.1 (by decide)) (by decide)
  have l2 : q.den.log2 < 1920 := Nat.lt_of_lt_of_le (log2_of h.2 (by decide)) (by decide)
  have a1 := numS_len h.1
  have a2 := numS_len (i := q.den) h.2
  have t1 : (numT q.num).length ≤ 601 := by rw [len_tl, tl_numT]; exact a1
  have t2 : (numT q.den).length ≤ 601 := by rw [len_tl, tl_numT]; exact a2
  have t3 : ("/" : Str).length = 1 := by decide +kernel
  have t4 : (numT q.num ++ ("/" : Str)).length = (numT q.num).length + 1 := by
    rw [len_tl, len_tl, tl_append, List.length_append, bar_tl]; rfl
  have b1 : bStr [.int q.num] = some (.str (numT q.num)) := if_pos l1
  have b2 : bStr [.int q.den] = some (.str (numT q.den)) := if_pos l2
  have c1 : dAddL (.str (numT q.num)) (.str ("/" : Str)) = some (.str (numT q.num ++ ("/" : Str))) := if_pos (by rw [t3]; unfold cap; omega)
  have c2 : dAddL (.str (numT q.num ++ ("/" : Str))) (.str (numT q.den)) = some (.str (numT q.num ++ ("/" : Str) ++ numT q.den)) := if_pos (by rw [t4]; unfold cap; omega)
  by_cases hd : q.den = 1
  · have hd2 : (q.den : Int) = 1 := by omega
    simp [m_show_number, b_show_number, runP, numD, hd2, b1, showQ, hd]
  · have hd2 : ¬ (q.den : Int) = 1 := by omega
    simp [m_show_number, b_show_number, runP, numD, hd2, b1, b2, c1, c2, showQ, hd]
theorem c_number_in {q : Rat} (h : Sz 1900 q) : m_number_in [.str (showQ q)] = some (numD q) := by
  have a1 := numS_len h.1
  have a2 := numS_len (i := q.den) h.2
  have hn : tl (numT q.num) = numS q.num := tl_numT _
  have hd : tl (numT q.den) = numL q.den := by rw [tl_numT]; unfold numS; rw [if_neg (by omega)]; rfl
  have hdl : (numL q.den).length ≤ 601 := by
    have : numS q.den = numL q.den := by unfold numS; rw [if_neg (by omega)]; rfl
    rw [this] at a2; exact a2
  have t1 : (numT q.num).length ≤ 601 := by rw [len_tl, hn]; exact a1
  have t2 : (numT q.den).length ≤ 601 := by rw [len_tl, hd]; exact hdl
  have okn : PyData.strOk (numT q.num) = true := strOk_tl (hn ▸ numS_256)
  have okd : PyData.strOk (numT q.den) = true := strOk_tl (hd ▸ numL_256)
  have i1 : bInt [.str (numT q.num)] = some (.int q.num) := by
    show (if _ then _ else _) = _
    rw [if_pos (by omega), int_numT h.1]; rfl
  have i2 : bInt [.str (numT q.den)] = some (.int q.den) := by
    show (if _ then _ else _) = _
    rw [if_pos (by omega), int_numT (i := q.den) h.2]; rfl
  obtain ⟨f, hf, ff⟩ : ∃ f : Str, tl f = numL q.num.natAbs ∧ ∀ s : S, (sIf (bTst (e2 dEq (eCut (eVar 1) (oNo) (oSome (eC (.int 1)))) (eC (.str "-")))) (sAsg (eCut (eVar 1) (oSome (eC (.int 1))) (oNo)) (gN 4)) (sNext)) [s.getD 0 .un, .val (.str (numT q.num)), s.getD 2 .un, s.getD 3 .un, .val (.str (numT q.num))] = some (.next [s.getD 0 .un, .val (.str (numT q.num)), s.getD 2 .un, s.getD 3 .un, .val (.str f)]) := by
    have okc : PyData.strOk (cutS (numT q.num) none (some 1)) = true := strOk_tl (by
      rw [cut_front, hn]
      exact fun c hc => numS_256 c (List.mem_of_mem_take hc))
    have ca : (numT q.num).length ≤ cap := Nat.le_trans t1 (by decide)
    have cut1 : dCut (.str (numT q.num)) none (some 1) = some (.str (cutS (numT q.num) none (some 1))) := if_pos ca
    have cut2 : dCut (.str (numT q.num)) (some 1) none = some (.str (cutS (numT q.num) (some 1) none)) := if_pos ca
    have e : dEq (.str (cutS (numT q.num) none (some 1))) (.str ("-" : Str)) = some (.bl (decide (q.num < 0))) := by
      rw [dEq_str okc (by decide +kernel), cut_front, hn, minus_tl]
      congr 2
      rw [decide_eq_decide]
      unfold numS
      split
      · simp_all
      · obtain ⟨c, cs, e, h1, h2, h3⟩ := numL_cons q.num.natAbs
        refine ⟨fun z => ?_, fun z => by omega⟩
        rw [e] at z
        simp at z
        omega
    by_cases hl : q.num < 0
    · refine ⟨cutS (numT q.num) (some 1) none, ?_, fun s => ?_⟩
      · rw [cut_behind, hn]; unfold numS; rw [if_pos hl]; rfl
      · simp [cut1, cut2, e, hl]
    · refine ⟨numT q.num, ?_, fun s => ?_⟩
      · rw [hn]; unfold numS; rw [if_neg hl]
      · simp [cut1, cut2, e, hl]
  have nl : (numL q.num.natAbs).length ≤ 1000 := by
    unfold numS at a1
    split at a1
    · simp at a1; omega
    · omega
  have g1 := c_figures hf nl
  have m0 : dEq (.str (numT q.num)) (.str ("-0" : Str)) = some (.bl false) := by
    rw [dEq_str okn (by decide +kernel), hn, minus0_tl]
    congr 2
    rw [decide_eq_false_iff_not]
    unfold numS
    split
    · intro z
      simp at z
      have := numL_val q.num.natAbs
      rw [z] at this
      have : (0 : Nat) = q.num.natAbs := this
      omega
    · obtain ⟨c, cs, e, h1, h2, h3⟩ := numL_cons q.num.natAbs
      rw [e]
      simp
      omega
  have nb : 47 ∉ tl (numT q.num) := by
    rw [hn]
    unfold numS
    split
    · simp; exact numL_free (by omega)
    · exact numL_free (by omega)
  have bl : (("/" : Str).length == 0) = false := by decide +kernel
  have sOk : PyData.strOk ("" : Str) = true := by decide +kernel
  have bOk : PyData.strOk ("/" : Str) = true := by decide +kernel
  by_cases h1 : q.den = 1
  · have es : showQ q = numT q.num := if_pos h1
    have p : dPart (.str (numT q.num)) (.str "/") = some (.tup [.str (numT q.num), .str "", .str ""]) := by
      show (if _ then _ else _) = _
      rw [if_pos ⟨bl, Nat.le_trans t1 (by decide)⟩, partition_none bar_tl nb]
      rfl
    have e0 : dEq (.str ("" : Str)) (.str ("" : Str)) = some (.bl true) := by rw [dEq_str sOk sOk]; simp
    have ff' := ff [.val (.str (numT q.num)), .un, .val (.str ""), .val (.str "")]
    simp only [List.getD_cons_zero, List.getD_cons_succ] at ff'
    rw [es]
    simp only [m_number_in, b_number_in, runP, v_sSeq, v_sAsg, v_e2, v_eVar, v_eC, p, v_gTup, v_gsCons, v_gsNil, v_gN]
    simp [p, -v_sIf, ff']
    simp [g1, m0, e0, i1, cap, numD, h1]
  · have es : showQ q = numT q.num ++ ("/" : Str) ++ numT q.den := if_neg h1
    have len3 : (numT q.num ++ ("/" : Str) ++ numT q.den).length = (numT q.num).length + 1 + (numT q.den).length := by
      rw [len_tl, len_tl, len_tl, tl_append, tl_append, List.length_append, List.length_append, bar_tl]; rfl
    have p : dPart (.str (numT q.num ++ ("/" : Str) ++ numT q.den)) (.str "/") = some (.tup [.str (numT q.num), .str "/", .str (numT q.den)]) := by
      show (if _ then _ else _) = _
      rw [if_pos ⟨bl, by rw [len3]; unfold cap; omega⟩, partition_app bar_tl nb]
    have e0 : dEq (.str ("/" : Str)) (.str ("" : Str)) = some (.bl false) := by rw [dEq_str bOk sOk, bar_tl, nil_tl]; rfl
    have g2 := c_figures hd (by omega)
    have e3 : dEq (.str (numT q.den)) (.str ("1" : Str)) = some (.bl false) := by
      rw [dEq_str okd (by decide +kernel), hd, one_tl]
      congr 2
      rw [decide_eq_false_iff_not]
      intro z
      have := numL_val q.den
      rw [z] at this
      exact h1 this.symm
    have isn : m_is_number [.tup [.int q.num, .int q.den]] = some (.bl true) := c_is_number q
    have ff' := ff [.val (.str (numT q.num ++ ("/" : Str) ++ numT q.den)), .un, .val (.str "/"), .val (.str (numT q.den))]
    simp only [List.getD_cons_zero, List.getD_cons_succ] at ff'
    rw [es]
    simp only [m_number_in, b_number_in, runP, v_sSeq, v_sAsg, v_e2, v_eVar, v_eC, p, v_gTup, v_gsCons, v_gsNil, v_gN]
    simp [p, -v_sIf, ff']
    simp [g1, m0, e0, i1, i2, g2, e3, isn, cap, numD]
theorem c_read {q : Rat} (h : Sz 1900 q) : m_read_number [.str (showQ q)] = some (numD q) := by
  simp [m_read_number, b_read_number, runP, isTy, c_number_in h, dIsN, numD]
end Gn
/-! ### drawn numbers: what the laws' packs give -/
namespace Gn
open PySem PySem.Spec PyProof.Rows L2 DL
theorem c_take {p z : Int} (h : 0 < z) (h1 : z < 1073741824) : m__law_take [.lst [.int p], .val (.int z)] = some (.int (p % z), [.lst [.int (p / z)], .un]) := by
  simp [m__law_take, b__law_take, runO, bDivmod, h, h1, eBor, noL, ixN, keepO]
theorem take_call {i : Nat} {f : EF} {s : S} {p z : Int} (hs : s[i]? = some (.lst [.int p])) (hf : f s = some (.int z, s)) (h : 0 < z) (h1 : z < 1073741824) :
    eCallO m__law_take (aoOwn i (aoVal f aoNil)) s = some (.int (p % z), s.set i (.lst [.int (p / z)])) := by
  have hi : i < s.length := (List.getElem?_eq_some_iff.mp hs).1
  have e1 : aoOwn i (aoVal f aoNil) s = some ([.own i, .val (.int z)], s) := by unfold aoOwn; rw [hs]; simp [isUn, aoVal, hf, aoNil]
  have e2 : takeO s [.own i, .val (.int z)] = some ([.lst [.int p], .val (.int z)], s.set i .un) := by unfold takeO; rw [hs]; simp [isUn, takeO]
  have e3 : (s.set i O.un)[i]? = some .un := List.getElem?_set_self hi
  have e4 : putO (s.set i O.un) [.own i, .val (.int z)] [.lst [.int (p / z)], .un] = some (s.set i (.lst [.int (p / z)])) := by
    unfold putO
    rw [e3]
    simp [isUn, putO]
  unfold eCallO
  rw [e1, Option.bind_some, e2, Option.bind_some, c_take h h1, Option.bind_some, e4]
  rfl
theorem c_mixed {z : Int} (h : z.natAbs.log2 ≤ 10000000) : ∃ r : Int, r.natAbs.log2 ≤ 1000 ∧ m__law_mixed [.int z] = some (.int r) := by
  refine ⟨(z * 301029995663981195213738894724493026768189881462108541310427).fmod (10 ^ 60), ?_, ?_⟩
  · have h1 := Int.fmod_nonneg_of_pos (z * 301029995663981195213738894724493026768189881462108541310427) (b := 10 ^ 60) (by decide)
    have h2 := Int.fmod_lt_of_pos (z * 301029995663981195213738894724493026768189881462108541310427) (b := 10 ^ 60) (by decide)
    generalize (z * 301029995663981195213738894724493026768189881462108541310427).fmod (10 ^ 60) = r at h1 h2
    exact Nat.le_of_lt (log2_of (n := 1000) (Nat.lt_of_lt_of_le (m := 10 ^ 60) (by omega) (by decide +kernel)) (by decide))
  · have l : z.natAbs.log2 + (301029995663981195213738894724493026768189881462108541310427 : Int).natAbs.log2 < 100000000 := by
      have : (301029995663981195213738894724493026768189881462108541310427 : Int).natAbs.log2 < 1000 := log2_of (by decide +kernel) (by decide)
      omega
    have m : dMul (.int z) (.int 301029995663981195213738894724493026768189881462108541310427) = some (.int (z * 301029995663981195213738894724493026768189881462108541310427)) := if_pos l
    have w : dPow (.int 10) (.int 60) = some (.int (10 ^ 60)) := rfl
    simp [m__law_mixed, b__law_mixed, runP, m, w, dMod]
theorem cell_at {xs : List D} {k : Nat} {d : D} (h : k ≤ 100) (hl : xs.length ≤ 1000) :
    (dAddL (.lst (DL.cutD xs (some k) (some ((k : Int) + 1)))) (.lst [d])).bind (fun z => dIx z (.int 0)) = some ((xs[k]?).getD d) := by
  have e : DL.cutD xs (some k) (some ((k : Int) + 1)) = (xs.drop k).take 1 := by
    have h2 : HT.sIx xs.length xs.length (some ((k : Int) + 1)) = min (k + 1) xs.length := HT.sIx_nat _ _ (k + 1)
    rw [DL.cutD, h2, HT.sIx_nat]
    by_cases hk : k < xs.length
    · rw [Nat.min_eq_left (by omega), Nat.min_eq_left (by omega)]
      congr 1; omega
    · rw [List.drop_of_length_le (by omega), List.drop_of_length_le (by omega)]; simp
  have c1 : dAddL (.lst (DL.cutD xs (some k) (some ((k : Int) + 1)))) (.lst [d]) = some (.lst ((xs.drop k).take 1 ++ [d])) := by
    rw [e]
    exact if_pos (by rw [List.length_take]; unfold cap; simp; omega)
  rw [c1, Option.bind_some]
  by_cases hk : k < xs.length
  · rw [List.drop_eq_getElem_cons hk, List.take_succ_cons, List.cons_append, v_ixl, List.getElem?_eq_getElem hk]
    rfl
  · rw [List.drop_of_length_le (by omega)]
    simp [List.getElem?_eq_none (Nat.le_of_not_lt hk)]
end Gn
/-! ### the law k06 -/
namespace Gn
open PySem PySem.Spec PyProof.Rows L2 DL
theorem bits_log {z : Int} (h : Builtin.Int.intBits z ≤ 1048576) : z.natAbs.log2 ≤ 10000000 := by
  unfold Builtin.Int.intBits at h
  split at h
  · rename_i e
    simp only [beq_iff_eq] at e
    subst e
    decide
  · omega
theorem pack_step {ns : List Int} (hl : ns.length ≤ 63) (hb : ∀ z ∈ ns, Builtin.Int.intBits z ≤ 1048576) {a : Nat} (ha : a ≤ 100) {f : Int} (hf : f.natAbs.log2 ≤ 1000) (k : O) : ∃ r : Int, r.natAbs.log2 ≤ 1000 ∧
    l1__law_pack [.val (.lst (ns.map D.int)), k, .val (.int f), .val (.int a)] = some (.next [.val (.lst (ns.map D.int)), k, .val (.int (f * 10 ^ 60 + r)), .val (.int a)]) := by
  obtain ⟨z, hz, e⟩ : ∃ z : Int, z.natAbs.log2 ≤ 10000000 ∧ ((ns.map D.int)[a]?).getD (.int (7907 * a + 53)) = .int z := by
    by_cases h : a < ns.length
    · exact ⟨ns[a], bits_log (hb _ (List.getElem_mem h)), by simp [h]⟩
    · have h2 : (7907 * (a : Int) + 53).natAbs.log2 < 1000 := log2_of (Nat.lt_of_lt_of_le (m := 10 ^ 8) (by omega) (by decide +kernel)) (by decide)
      refine ⟨7907 * a + 53, by omega, ?_⟩
      rw [List.getElem?_eq_none (by simpa using Nat.le_of_not_lt h)]; rfl
  obtain ⟨r, hr, er⟩ := c_mixed hz
  have c := cell_at (xs := ns.map D.int) (k := a) (d := .int (7907 * a + 53)) ha (by simp; omega)
  rw [e] at c
  have p : dPow (.int 10) (.int 60) = some (.int (10 ^ 60)) := rfl
  have w : (10 ^ 60 : Int).natAbs.log2 < 1000 := log2_of (by decide +kernel) (by decide)
  have m : dMul (.int f) (.int (10 ^ 60)) = some (.int (f * 10 ^ 60)) := if_pos (by omega)
  have m2 : dMul (.int 7907) (.int a) = some (.int (7907 * a)) := if_pos (by
    have h1 : (7907 : Int).natAbs.log2 < 1000 := log2_of (by decide +kernel) (by decide)
    have h2 : (a : Int).natAbs.log2 < 1000 := log2_of (Nat.lt_of_lt_of_le (m := 2 ^ 10) (by omega) (by decide +kernel)) (by decide)
    omega)
  refine ⟨r, hr, ?_⟩
  have cb : dCut (.lst (ns.map D.int)) (some a) (some ((a : Int) + 1)) = some (.lst (DL.cutD (ns.map D.int) (some a) (some ((a : Int) + 1)))) := rfl
  simp only [l1__law_pack, v_sAsg, v_e2, v_eVar, v_eC, v_eCall, v_aCons, v_aNil, v_eCut, v_oSome, v_eLst, List.getElem?_cons_succ, List.getElem?_cons_zero, Option.bind_some, Option.map_some, p, m, m2, v_addL, cb]
  cases hq : dAddL (.lst (DL.cutD (ns.map D.int) (some a) (some ((a : Int) + 1)))) (.lst [.int (7907 * a + 53)]) with
  | none => rw [hq] at c; exact nomatch c
  | some q =>
    rw [hq, Option.bind_some] at c
    simp [cap, hq, c, er]
theorem c_pack {ns : List Int} (hl : ns.length ≤ 63) (hb : ∀ z ∈ ns, Builtin.Int.intBits z ≤ 1048576) {k : Nat} (hk : k ≤ 99) : ∃ p : Int, m__law_pack [.lst (ns.map D.int), .int k] = some [.int p] := by
  obtain ⟨r, hr, e⟩ := pack_step hl hb (a := k + 1) (by omega) (f := 0) (by decide) (.val (.int k))
  obtain ⟨r2, _, e2⟩ := pack_step hl hb (a := k) (by omega) (f := r) hr (.val (.int k))
  refine ⟨r * 10 ^ 60 + r2, ?_⟩
  have c : ((k + 1 : Nat) : Int) = (k : Int) + 1 := by omega
  rw [c, Int.zero_mul, Int.zero_add] at e
  simp [m__law_pack, b__law_pack, DL.runN, cap, v_forD_cons, e, e2]
theorem turn_step (sc k : O) (p : Int) (L : List D) {t : Nat} (ht : t ≤ 2) (hL : L.length = t) (o5 o6 : O) : ∃ (p' : Int) (q : Rat) (top : Int), Sz 40 q ∧
    l2_law [sc, k, .lst [.int p], .lst L, .val (.int t), o5, o6] = some (.next [sc, k, .lst [.int p'], .lst (L ++ [numD q]), .val (.int t), .val (.int top), o6]) := by
  have w6 : dPow (.int 10) (.int 6) = some (.int 1000000) := rfl
  have m1 : dMul (.int 2) (.int 1000000) = some (.int 2000000) := mulI (n := 40) (m := 40) (by decide) (by decide) (by decide) (by decide)
  have f1 : ∀ s : S, e2 dAddL (e2 dMul (eC (.int 2)) (e2 dPow (eC (.int 10)) (eC (.int 6)))) (eC (.int 1)) s = some (.int 2000001, s) := fun s => by
    simp [w6, m1]
  have t1 := fun s (p : Int) (hs : s[2]? = some (O.lst [.int p])) => take_call (i := 2) (p := p) hs (f1 s) (by decide) (by decide)
  have t2 := fun s (p : Int) (hs : s[2]? = some (O.lst [.int p])) => take_call (i := 2) (p := p) (f := eC (.int 100)) hs rfl (by decide) (by decide)
  have t3 := fun s (p : Int) (hs : s[2]? = some (O.lst [.int p])) => take_call (i := 2) (p := p) (f := eC (.int 4)) hs rfl (by decide) (by decide)
  have f4 : ∀ s : S, e2 dPow (eC (.int 10)) (eC (.int 6)) s = some (.int 1000000, s) := fun s => by simp [w6]
  have t4 := fun s (p : Int) (hs : s[2]? = some (O.lst [.int p])) => take_call (i := 2) (p := p) hs (f4 s) (by decide) (by decide)
  generalize hp1 : p / 2000001 = p1
  generalize ht1 : p % 2000001 = d1
  have b1 := Int.emod_nonneg p (b := 2000001) (by decide)
  have b1' := Int.emod_lt_of_pos p (b := 2000001) (by decide)
  have b2 := Int.emod_nonneg p1 (b := 100) (by decide)
  have b2' := Int.emod_lt_of_pos p1 (b := 100) (by decide)
  generalize hp2 : p1 / 100 = p2
  have b4 := Int.emod_nonneg (p2 / 4) (b := 1000000) (by decide)
  have b4' := Int.emod_lt_of_pos (p2 / 4) (b := 1000000) (by decide)
  have pw : (1099511627776 : Nat) = 2 ^ 40 := by decide
  have s1 : (d1 - 1000000).natAbs < 2 ^ 40 := by omega
  have s2 : (1 + p1 % 100).natAbs < 2 ^ 40 := by omega
  have s3 : (1 + p2 / 4 % 1000000).natAbs < 2 ^ 40 := by omega
  have s4 : ((d1 - 1000000) * 999 + t).natAbs < 2 ^ 40 := by omega
  have n1 := c_number (t := d1 - 1000000) (b := 1 + p1 % 100) (n := 40) (by omega) s2 (by decide)
  have n2 := c_number (t := (d1 - 1000000) * 999 + t) (b := 1 + p2 / 4 % 1000000) (n := 40) (by omega) s3 (by decide)
  have m9 : dMul (.int (d1 - 1000000)) (.int 999) = some (.int ((d1 - 1000000) * 999)) := mulI (n := 40) (m := 40) s1 (by decide) (by decide) (by decide)
  have hl : L.length < cap := Nat.lt_of_le_of_lt (hL ▸ ht) (by decide)
  by_cases z : p2 % 4 = 0
  · refine ⟨p2 / 4 / 1000000, _, d1 - 1000000, Sz.divInt s4 s3 (by decide), ?_⟩
    have ix : ixN (L ++ [numD (Rat.divInt (d1 - 1000000) (1 + p1 % 100))]).length (t : Int) = some t := by
      rw [List.length_append, hL]; unfold ixN; rw [if_pos (by omega), if_pos (by simp; omega)]; rfl
    simp only [List.length_append, List.length_cons, List.length_nil] at ix
    simp [l2_law, t1, w6, hp1, ht1, t2, hp2, n1, hl, t3, z, m9, t4, n2, ix]
    subst hL
    simp
  · refine ⟨p2 / 4, _, d1 - 1000000, Sz.divInt s1 s2 (by decide), ?_⟩
    simp [l2_law, t1, w6, hp1, ht1, t2, hp2, n1, hl, t3, z]
theorem d0 : D.tup [.int 0, .int 1] = numD 0 := rfl
theorem d1 : D.tup [.int 1, .int 1] = numD 1 := rfl
section
variable {a b c : Rat} (ha : Sz 100 a) (hb : Sz 100 b) (hc : Sz 100 c)
include ha hb hc
theorem c_sums : m__law_sums_right [numD a, numD b, numD c] = some (.bl true) := by
  have A := fun p q (hp : Sz 1000 p) (hq : Sz 1000 q) => c_added hp hq (by decide)
  have M := fun p q (hp : Sz 1000 p) (hq : Sz 1000 q) => c_multiplied hp hq (by decide)
  have T := fun p q (hp : Sz 1000 p) (hq : Sz 1000 q) => c_taken hp hq (by decide)
  have a1 := ha.mono (m := 1000) (by decide)
  have b1 := hb.mono (m := 1000) (by decide)
  have c1 := hc.mono (m := 1000) (by decide)
  have s1 := ha.addn hb (k := 1000) (by decide)
  have s2 := hb.addn ha (k := 1000) (by decide)
  have s3 := hb.addn hc (k := 1000) (by decide)
  have s4 := ha.muln hb (k := 1000) (by decide)
  have s5 := ha.muln hc (k := 1000) (by decide)
  have s6 := ha.subn hb (k := 1000) (by decide)
  have r1 : a + b = b + a := by grind
  have r2 : a + b + c = a + (b + c) := by grind
  have r3 : a * b = b * a := by grind
  have r4 : a * (b + c) = a * b + a * c := by grind
  have r5 : a + b - b = a := by grind
  have r6 : a - b + b = a := by grind
  have r7 : a - a = 0 := by grind
  have q1 : decide (b + a = a + b) = true := by simp [r1]
  simp only [m__law_sums_right, b__law_sums_right, runP]
  simp [A, M, T, a1, b1, c1, s1, s2, s3, s4, s5, s6, r1.symm, r2, r3.symm, r4, r5, r6, r7, cap, d0]
omit hc in
theorem c_parts : m__law_parted_right [numD a, numD b] = some (.bl true) := by
  have M := fun p q (hp : Sz 1000 p) (hq : Sz 1000 q) => c_multiplied hp hq (by decide)
  have P := fun p q (hp : Sz 1000 p) (hq : Sz 1000 q) (z : q ≠ 0) => c_parted hp hq (by decide) z
  have a1 := ha.mono (m := 1000) (by decide)
  have b1 := hb.mono (m := 1000) (by decide)
  by_cases z : b = 0
  · subst z
    simp [m__law_parted_right, b__law_parted_right, runP, d0, cap]
  · have s4 := ha.muln hb (k := 1000) (by decide)
    have s6 := ha.divn hb z (k := 1000) (by decide)
    have r1 : a * b / b = a := by grind
    have r2 : a / b * b = a := by grind
    have r3 : b / b = 1 := by grind
    simp [m__law_parted_right, b__law_parted_right, runP, d0, d1, z, M, P, a1, b1, s4, s6, r1, r2, r3, cap]
theorem c_lesser : m__law_less_right [numD a, numD b, numD c] = some (.bl true) := by
  have A := fun p q (hp : Sz 1000 p) (hq : Sz 1000 q) => c_added hp hq (by decide)
  have M := fun p q (hp : Sz 1000 p) (hq : Sz 1000 q) => c_multiplied hp hq (by decide)
  have L := fun p q (hp : Sz 1000 p) (hq : Sz 1000 q) => c_is_less hp hq (by decide)
  have a1 := ha.mono (m := 1000) (by decide)
  have b1 := hb.mono (m := 1000) (by decide)
  have c1 := hc.mono (m := 1000) (by decide)
  have n7 : m_number [.int 1, .int 7] = some (numD (1 / 7)) := (c_number (t := 1) (b := 7) (n := 10) (by decide) (by decide) (by decide)).trans (by rw [Rat.divInt_eq_div]; rfl)
  have z7 : Sz 10 (1 / 7 : Rat) := ⟨by decide +kernel, by decide +kernel⟩
  have z0 : Sz 1000 (0 : Rat) := Sz.mono (n := 10) ⟨by decide +kernel, by decide +kernel⟩ (by decide)
  have z71 := z7.mono (m := 1000) (by decide)
  have s1 := ha.addn hc (k := 1000) (by decide)
  have s2 := hb.addn hc (k := 1000) (by decide)
  have s3 := hc.muln hc (k := 201) (by decide)
  have s31 := s3.mono (m := 1000) (by decide)
  have s4 := s3.addn z7 (k := 212) (by decide)
  have s41 := s4.mono (m := 1000) (by decide)
  have s5 := ha.muln s4 (k := 1000) (by decide)
  have s6 := hb.muln s4 (k := 1000) (by decide)
  have p : 0 < c * c + 1 / 7 := by
    have : 0 ≤ c * c := by
      rcases Rat.le_total (a := 0) (b := c) with h | h
      · exact Rat.mul_nonneg h h
      · have := Rat.mul_nonneg (a := -c) (b := -c) (by grind) (by grind)
        grind
    grind
  generalize hg : c * c + 1 / 7 = g at *
  have r1 : decide (a + c < b + c) = decide (a < b) := by rw [decide_eq_decide]; grind
  have r2 : decide (a * g < b * g) = decide (a < b) := by
    rw [decide_eq_decide]
    exact ⟨fun h => Rat.lt_of_mul_lt_mul_right h (Rat.le_of_lt p), fun h => Rat.mul_lt_mul_of_pos_right h p⟩
  have cnt : dCountB (.lst [.bl (decide (a < b)), .bl (decide (b < a)), .bl (decide (a = b))]) (.bl true) = some (.int 1) := by
    by_cases e : a = b
    · subst e
      have : ¬ a < a := by grind
      simp [dCountB, boolsD, this]
    · by_cases l : a < b
      · have : ¬ b < a := by grind
        simp [dCountB, boolsD, this, l, e]
      · have : b < a := by grind
        simp [dCountB, boolsD, this, l, e]
  have ne : ∀ k : Bool, dNe (.bl k) (.bl k) = some (.bl false) := fun k => by cases k <;> rfl
  simp only [m__law_less_right, b__law_less_right, runP]
  simp [A, M, L, a1, b1, c1, n7, z71, z0, s1, s2, s31, s41, s5, s6, hg, r1, r2, cnt, ne, p, cap, d0]
theorem c_right : m__law_right [numD a, numD b, numD c] = some (.bl true) := by
  simp [m__law_right, b__law_right, runP, c_sums ha hb hc, c_parts ha hb, c_lesser ha hb hc]
end
theorem turns (sc k : O) (p : Int) (o4 o5 o6 : O) : ∃ (p' : Int) (q0 q1 q2 : Rat) (top : Int), Sz 40 q0 ∧ Sz 40 q1 ∧ Sz 40 q2 ∧
    forD (gN 4) l2_law (rangeD 0 3) [sc, k, .lst [.int p], .lst [], o4, o5, o6] = some (.next [sc, k, .lst [.int p'], .lst [numD q0, numD q1, numD q2], .val (.int 2), .val (.int top), o6]) := by
  obtain ⟨p0, q0, t0, h0, e0⟩ := turn_step sc k p [] (t := 0) (by decide) rfl o5 o6
  obtain ⟨p1, q1, t1, h1, e1⟩ := turn_step sc k p0 [numD q0] (t := 1) (by decide) rfl (.val (.int t0)) o6
  obtain ⟨p2, q2, t2, h2, e2⟩ := turn_step sc k p1 [numD q0, numD q1] (t := 2) (by decide) rfl (.val (.int t1)) o6
  refine ⟨p2, q0, q1, q2, t2, h0, h1, h2, ?_⟩
  have r : rangeD 0 3 = [.int 0, .int 1, .int 2] := rfl
  simp only [List.nil_append, Int.cast_ofNat_Int, List.cons_append] at e0 e1 e2
  simp [r, v_forD_cons, e0, e1, e2]
theorem last_step {q : Rat} (h : Sz 1900 q) (o0 o1 o2 o3 o4 o5 : O) : l3_law [o0, o1, o2, o3, o4, o5, .val (numD q)] = some (.next [o0, o1, o2, o3, o4, o5, .val (numD q)]) := by
  simp [l3_law, c_is_number, c_show h, c_read h]
theorem start_step {ns : List Int} (hl : ns.length ≤ 63) (hb : ∀ z ∈ ns, Builtin.Int.intBits z ≤ 1048576) {k : Nat} (hk : k ≤ 99) (o2 o3 o4 o5 o6 : O) :
    ∃ a b c d e, l1_law [.val (.lst (ns.map D.int)), .val (.int k), o2, o3, o4, o5, o6] = some (.next [.val (.lst (ns.map D.int)), .val (.int k), a, b, c, d, e]) := by
  obtain ⟨p, hp⟩ := c_pack hl hb hk
  obtain ⟨p', q0, q1, q2, top, h0, h1, h2, e⟩ := turns (.val (.lst (ns.map D.int))) (.val (.int k)) p o4 o5 o6
  have A := fun p q (hp : Sz 1000 p) (hq : Sz 1000 q) => c_added hp hq (by decide)
  have M := fun p q (hp : Sz 1000 p) (hq : Sz 1000 q) => c_multiplied hp hq (by decide)
  have z0 := h0.mono (m := 1000) (by decide)
  have z1 := h1.mono (m := 1000) (by decide)
  have z2 := h2.mono (m := 1000) (by decide)
  have y0 := h0.mono (m := 1900) (by decide)
  have y1 := h1.mono (m := 1900) (by decide)
  have y2 := h2.mono (m := 1900) (by decide)
  have y3 := h0.addn h1 (k := 1900) (by decide)
  have y4 := h1.muln h2 (k := 1900) (by decide)
  have r1 := c_right (h0.mono (m := 100) (by decide)) (h1.mono (m := 100) (by decide)) (h2.mono (m := 100) (by decide))
  have r2 := c_right (h2.mono (m := 100) (by decide)) (h2.mono (m := 100) (by decide)) (h0.mono (m := 100) (by decide))
  have rg : DL.iRng1 (aCons (eC (.int 3)) aNil) [.val (.lst (ns.map D.int)), .val (.int k), .lst [.int p], .lst [], o4, o5, o6] = some (rangeD 0 3, [.val (.lst (ns.map D.int)), .val (.int k), .lst [.int p], .lst [], o4, o5, o6]) := by
    simp [DL.iRng1, bigI]
  have nl : ∀ q : Rat, noL (numD q) = true := fun q => rfl
  refine ⟨.lst [.int p'], .lst [numD q0, numD q1, numD q2], .val (.int 2), .val (.int top), .val (numD (q1 * q2)), ?_⟩
  simp [l1_law, hp, cap, rg, e, eBor, nl, r1, r2, A, M, z0, z1, z2, v_forD_cons, last_step, y0, y1, y2, y3, y4]
theorem rng_ok (ns : List Int) (hl : ns.length ≤ 63) (f : EF) (s : S) (h : f s = some (.int (if (32 : Int) < (ns.length : Nat) then (32 : Int) else (ns.length : Nat)), s)) : ∃ n : Nat, n ≤ 32 ∧ DL.iRng3 (aCons (eC (.int 0)) (aCons (eCall bMax (aCons (eC (.int 1)) (aCons f (aNil)))) (aCons (eC (.int 2)) (aNil)))) s = some (rangeC 0 2 n, s) := by
  have l32 : (if (32 : Int) < (ns.length : Nat) then (32 : Int) else (ns.length : Nat)) ≤ 32 := by split <;> omega
  generalize hm : (if (32 : Int) < (ns.length : Nat) then (32 : Int) else (ns.length : Nat)) = m at l32 h
  have m0 : 0 ≤ m := by rw [← hm]; split <;> omega
  have l2 : (if m > 1 then m else 1) ≤ 32 := by split <;> omega
  have l3 : 1 ≤ (if m > 1 then m else 1) := by split <;> omega
  have b : bMax [.int 1, .int m] = some (.int (if m > 1 then m else 1)) := rfl
  generalize (if m > 1 then m else 1) = r at l2 l3 b
  refine ⟨if (0 : Int) < r then ((r - 0 - 1) / 2 + 1).toNat else 0, by split <;> omega, ?_⟩
  simp only [DL.iRng3, v_aCons, v_aNil, v_eC, v_eCall, h, Option.bind_some, Option.map_some, b]
  rw [if_pos ⟨by decide, by decide, by simp only [bigI]; omega, by simp only [bigI]; omega, by decide, by decide⟩]
theorem law_true (ns : List Int) (hl : ns.length ≤ 63) (hb : ∀ z ∈ ns, Builtin.Int.intBits z ≤ 1048576) : m_law [.lst (ns.map D.int)] = some (.bl true) := by
  obtain ⟨n, hn, e⟩ := rng_ok ns hl (eCall bMin (aCons (eCall bLen (aCons (eVar 0) (aNil))) (aCons (eC (.int 32)) (aNil)))) [.val (.lst (ns.map D.int)), .un, .un, .un, .un, .un, .un] (by simp [bMin, bLen])
  obtain ⟨s', h1, a, b, c, d, e, f, rfl⟩ := forD_inv (g := gN 1) (fb := l1_law) (fun s => ∃ o1 a b c d e, s = [.val (.lst (ns.map D.int)), o1, a, b, c, d, e]) (rangeC 0 2 n) [.val (.lst (ns.map D.int)), .un, .un, .un, .un, .un, .un]
    (fun x hx s ⟨o1, a, b, c, d, e, hs⟩ => by
      subst hs
      obtain ⟨i, hi, rfl⟩ := List.mem_map.mp hx
      have hi := List.mem_range.mp hi
      obtain ⟨a', b', c', d', e', h⟩ := start_step hl hb (k := 2 * i) (by omega) a b c d e
      refine ⟨[.val (.lst (ns.map D.int)), .val (.int ((0 : Int) + (i : Int) * 2)), a, b, c, d, e], _, rfl, ?_, .val (.int ((2 * i : Nat) : Int)), a', b', c', d', e', rfl⟩
      rw [show (0 : Int) + (i : Int) * 2 = ((2 * i : Nat) : Int) by omega]
      exact h) ⟨_, _, _, _, _, _, rfl⟩
  rename_i e0
  simp only [m_law, b_law, runP, List.length_cons, List.length_nil, Nat.zero_add, if_true, List.map_cons, List.map_nil, Nat.reduceSub, List.replicate_succ, List.replicate_zero, List.cons_append, List.nil_append, v_sSeq, v_sFor, e0, Option.bind_some, h1, v_sRet, v_eC, Option.map_some]
end Gn
namespace Gn
open PySem PySem.Spec PyProof.Rows L2 DL
def spLaw (K : PySem.W.Frag) : Sp := fun vs H Q _ => ∃ (a : Addr) (ns : List Int), vs = [.ref a] ∧ SqL K H a (ns.map V.int) ∧ ns.length ≤ 63 ∧ (∀ z ∈ ns, Builtin.Int.intBits z ≤ 1048576) ∧ ∀ H', Q (.bl true) H'
theorem law_mk {l : PySem.W.OpenLaw} {w : World} {K : PySem.W.Frag} {h : Heap} {mg : Str → Option Value} {fa f : Addr} (N : Nonempty (Tx K mg)) (X : K.In h) (G : h.Ns mainGlobals mg) (hfa : mg "law" = some (.ref fa)) (a : PySem.W.nsIn K mainGlobals "law" = some (some (.ref f))) :
    ∃ fd : FuncData, (∀ (s : Shared) (v : Value), BindsTo s fd ⟨[v], []⟩ [("_law_script", v)]) ∧ ∀ base : Heap, K.In base → base.Ns mainGlobals mg → FnOk l.prog w K mg base CX0 6 fa fd ["_law_script"] (spLaw K) := by
  obtain ⟨T⟩ := N
  have e := hfa.symm.trans T.law.g
  cases e
  refine ⟨T.law.d, fun s v => ?_, fun base _ _ => (ok_law T).imp fun vs H Q E q => ?_⟩
  · obtain ⟨oc, od, kV, doc, pm, an, cdv, ct, osl, e, _, _⟩ := T.law.F.ex
    rw [e]
    exact .of_eq rfl
  · obtain ⟨a, ns, rfl, hS, hl, hb, q⟩ := q
    exact spP_law (law_true ns hl hb) hS q
end Gn
open PySem PySem.W PyProof.Rows
set_option maxHeartbeats 0 in
theorem PySem.Challenge.cw_levelcord_k06_whole_numbers_agree_holds : PySem.Challenge.rw_levelcord_k06_whole_numbers_agree.Holds := by
  w_on; o_law; k_head; (case hw => w_witness2)
  k_fill
  refine L2.walk_ofB (l := PySem.Challenge.rw_levelcord_k06_whole_numbers_agree) (n := 63) (k := 6) (x := "_law_script") (CX := fun _ => L2.CX0) (sp := fun w => Gn.spLaw _) rfl (by decide) rfl ⟨rfl, by decide, by decide⟩ (fun w h Y => PySem.W.kIn_of Y) ?F (fun _ _ a ns hl hb _ hS => ⟨a, ns, rfl, hS, hl, hb, fun _ => rfl⟩) (fun _ _ _ _ _ h => h)
  case F =>
    intro w mg fa h KX G hmg
    refine' Gn.law_mk (Gn.all_mk KX G ?a0 ?l0 ?c0 ?k0 ?a1 ?l1 ?c1 ?k1 ?a2 ?l2 ?c2 ?k2 ?a3 ?l3 ?c3 ?k3 ?a4 ?l4 ?c4 ?k4 ?a5 ?l5 ?c5 ?k5 ?a6 ?l6 ?c6 ?k6 ?a7 ?l7 ?c7 ?k7 ?a8 ?l8 ?c8 ?k8 ?a9 ?l9 ?c9 ?k9 ?a10 ?l10 ?c10 ?k10 ?a11 ?l11 ?c11 ?k11 ?a12 ?l12 ?c12 ?k12 ?a13 ?l13 ?c13 ?k13 ?a14 ?l14 ?c14 ?k14 ?a15 ?l15 ?c15 ?k15 ?a16 ?l16 ?c16 ?k16 ?a17 ?l17 ?c17 ?k17 ?a18 ?l18 ?c18 ?k18 ?a19 ?l19 ?c19 ?k19 ?a20 ?l20 ?c20 ?k20 ?u_FIGURES ?z_abs ?z_all ?z_bool ?z_divmod ?z_int ?z_isinstance ?z_len ?z_max ?z_min ?z_range ?z_str ?z_tuple) KX G hmg ?zlaw
    (case a0 => k_is)
    (case l0 => k_is)
    (case c0 => k_is)
    (case k0 => k_is)
    (case a1 => k_is)
    (case l1 => k_is)
    (case c1 => k_is)
    (case k1 => k_is)
    (case a2 => k_is)
    (case l2 => k_is)
    (case c2 => k_is)
    (case k2 => k_is)
    (case a3 => k_is)
    (case l3 => k_is)
    (case c3 => k_is)
    (case k3 => k_is)
    (case a4 => k_is)
    (case l4 => k_is)
    (case c4 => k_is)
    (case k4 => k_is)
    (case a5 => k_is)
    (case l5 => k_is)
    (case c5 => k_is)
    (case k5 => k_is)
    (case a6 => k_is)
    (case l6 => k_is)
    (case c6 => k_is)
    (case k6 => k_is)
    (case a7 => k_is)
    (case l7 => k_is)
    (case c7 => k_is)
    (case k7 => k_is)
    (case a8 => k_is)
    (case l8 => k_is)
    (case c8 => k_is)
    (case k8 => k_is)
    (case a9 => k_is)
    (case l9 => k_is)
    (case c9 => k_is)
    (case k9 => k_is)
    (case a10 => k_is)
    (case l10 => k_is)
    (case c10 => k_is)
    (case k10 => k_is)
    (case a11 => k_is)
    (case l11 => k_is)
    (case c11 => k_is)
    (case k11 => k_is)
    (case a12 => k_is)
    (case l12 => k_is)
    (case c12 => k_is)
    (case k12 => k_is)
    (case a13 => k_is)
    (case l13 => k_is)
    (case c13 => k_is)
    (case k13 => k_is)
    (case a14 => k_is)
    (case l14 => k_is)
    (case c14 => k_is)
    (case k14 => k_is)
    (case a15 => k_is)
    (case l15 => k_is)
    (case c15 => k_is)
    (case k15 => k_is)
    (case a16 => k_is)
    (case l16 => k_is)
    (case c16 => k_is)
    (case k16 => k_is)
    (case a17 => k_is)
    (case l17 => k_is)
    (case c17 => k_is)
    (case k17 => k_is)
    (case a18 => k_is)
    (case l18 => k_is)
    (case c18 => k_is)
    (case k18 => k_is)
    (case a19 => k_is)
    (case l19 => k_is)
    (case c19 => k_is)
    (case k19 => k_is)
    (case a20 => k_is)
    (case l20 => k_is)
    (case c20 => k_is)
    (case k20 => k_is)
    (case u_FIGURES => k_is)
    (case z_abs => k_is)
    (case z_all => k_is)
    (case z_bool => k_is)
    (case z_divmod => k_is)
    (case z_int => k_is)
    (case z_isinstance => k_is)
    (case z_len => k_is)
    (case z_max => k_is)
    (case z_min => k_is)
    (case z_range => k_is)
    (case z_str => k_is)
    (case z_tuple => k_is)
    (case zlaw => k_is)
