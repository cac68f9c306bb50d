import PyProof.Rows.All
import Wide.All
import OpenK.AllK
import Wide.FinOn
import HandS.ForMost
import HandS.Wide
import HandS.IsInst
import HandS.TupAny
import HandS.TupMul
import HandS.Deep
import HandS.Flow
import HandS.Zip
import HandS.Style
import HandS.SortInts
import HandS.Dict
import HandS.TupSets
import KE.GoesEnum
import PyProof.SeqI3
import PyProof.WalkInts
import HandS.TupLe
import HandS.TryOnly
import HandS.CallLocal
import HandS.EndBits
import HandS.Text
import PySem.Challenge.RW_levelcord_k92_whole_two_tubes_in_order
set_option Elab.async false
set_option linter.all false
set_option maxRecDepth 100000
set_option exponentiation.threshold 10000
/-! DL 1: plain data D, what represents it, own things in slots, the world of a running def. -/
namespace DL
open PySem PySem.Spec PyProof.Rows L2

/-- plain data -/
inductive D where
  | non | bl (b : Bool) | int (i : Int) | str (x : Str) | tup (xs : List D) | lst (xs : List D) | ref (a : Addr)

/-- what a slot holds: nothing known, plain data, a list of its own, an instance of its own -/
inductive O where
  | un | val (d : D) | lst (xs : List D) | obj (c : Nat) (fs : List (Str × O)) | dct (xs : List (Key × D))

abbrev S := List O

structure Cc where
  K : PySem.W.Frag
  cm : Nat → Addr

mutual
inductive Rep (K : PySem.W.Frag) (G : Hp) : V → D → Prop
  | non : Rep K G .non .non
  | bl (b : Bool) : Rep K G (.bl b) (.bl b)
  | int (i : Int) : Rep K G (.int i) (.int i)
  | str (x : Str) : Rep K G (.str x) (.str x)
  | ref (a : Addr) : Rep K G (.ref a) (.ref a)
  | tup {a : Addr} {vs : List V} {xs : List D} : SqT K G a vs → Reps K G vs xs → Rep K G (.ref a) (.tup xs)
  | lst {a : Addr} {vs : List V} {xs : List D} : SqL K G a vs → Reps K G vs xs → Rep K G (.ref a) (.lst xs)
inductive Reps (K : PySem.W.Frag) (G : Hp) : List V → List D → Prop
  | nil : Reps K G [] []
  | cons {v : V} {vs : List V} {d : D} {ds : List D} : Rep K G v d → Reps K G vs ds → Reps K G (v :: vs) (d :: ds)
end

section
variable {K : PySem.W.Frag} {G G' H H' : Hp} {v : V} {d : D} {a : Addr} {vs : List V} {ds : List D}
theorem Same.sqL (e : Same G G') (h : SqL K G a vs) : SqL K G' a vs := e.seq h
theorem Same.sqT (e : Same G G') (h : SqT K G a vs) : SqT K G' a vs := by
  rcases h with (h | ⟨o, h⟩) | h
  · exact .inl (.inl (e _ _ h))
  · exact .inl (.inr ⟨o, e _ _ h⟩)
  · exact .inr h
mutual
theorem Rep.mono (e : Same G G') : ∀ {v : V} {d : D}, Rep K G v d → Rep K G' v d
  | _, _, .non => .non
  | _, _, .bl b => .bl b
  | _, _, .int i => .int i
  | _, _, .str x => .str x
  | _, _, .ref a => .ref a
  | _, _, .tup h r => .tup (Same.sqT e h) (Reps.mono e r)
  | _, _, .lst h r => .lst (Same.sqL e h) (Reps.mono e r)
theorem Reps.mono (e : Same G G') : ∀ {vs : List V} {ds : List D}, Reps K G vs ds → Reps K G' vs ds
  | _, _, .nil => .nil
  | _, _, .cons h r => .cons (Rep.mono e h) (Reps.mono e r)
end
theorem Reps.length : ∀ {vs : List V} {ds : List D}, Reps K G vs ds → vs.length = ds.length
  | _, _, .nil => rfl
  | _, _, .cons _ r => by rw [List.length_cons, List.length_cons, Reps.length r]
theorem Reps.get : ∀ {vs : List V} {ds : List D} {i : Nat} {d : D}, Reps K G vs ds → ds[i]? = some d → ∃ v, vs[i]? = some v ∧ Rep K G v d
  | _, _, _, _, .nil, e => by simp at e
  | _, _, 0, d, .cons h _, e => by simp at e; subst e; exact ⟨_, rfl, h⟩
  | _, _, i + 1, d, .cons _ r, e => by
    obtain ⟨u, h1, h2⟩ := Reps.get (i := i) (d := d) r (by simpa using e)
    exact ⟨u, by simpa using h1, h2⟩
theorem Reps.getV : ∀ {vs : List V} {ds : List D} {i : Nat} {v : V}, Reps K G vs ds → vs[i]? = some v → ∃ d, ds[i]? = some d ∧ Rep K G v d
  | _, _, _, _, .nil, e => by simp at e
  | _, _, 0, d, .cons h _, e => by simp at e; subst e; exact ⟨_, rfl, h⟩
  | _, _, i + 1, d, .cons _ r, e => by
    obtain ⟨u, h1, h2⟩ := Reps.getV (i := i) (v := d) r (by simpa using e)
    exact ⟨u, by simpa using h1, h2⟩
theorem Reps.append : ∀ {vs ws : List V} {ds es : List D}, Reps K G vs ds → Reps K G ws es → Reps K G (vs ++ ws) (ds ++ es)
  | _, _, _, _, .nil, s => s
  | _, _, _, _, .cons r t, s => .cons r (Reps.append t s)
theorem Reps.take : ∀ {vs : List V} {ds : List D} (n : Nat), Reps K G vs ds → Reps K G (vs.take n) (ds.take n)
  | _, _, 0, _ => .nil
  | _, _, _ + 1, .nil => .nil
  | _, _, n + 1, .cons r t => .cons r (Reps.take n t)
theorem Reps.drop : ∀ {vs : List V} {ds : List D} (n : Nat), Reps K G vs ds → Reps K G (vs.drop n) (ds.drop n)
  | _, _, 0, r => r
  | _, _, _ + 1, .nil => .nil
  | _, _, n + 1, .cons _ t => Reps.drop n t
theorem Reps.set {v : V} {d : D} (r : Rep K G v d) : ∀ {vs : List V} {ds : List D} (i : Nat), Reps K G vs ds → Reps K G (vs.set i v) (ds.set i d)
  | _, _, _, .nil => .nil
  | _, _, 0, .cons _ t => .cons r t
  | _, _, i + 1, .cons q t => .cons q (Reps.set r i t)
theorem Reps.reverse : ∀ {vs : List V} {ds : List D}, Reps K G vs ds → Reps K G vs.reverse ds.reverse
  | _, _, .nil => .nil
  | _, _, .cons r t => by
    rw [List.reverse_cons, List.reverse_cons]
    exact (Reps.reverse t).append (.cons r .nil)
theorem Reps.eraseIdx : ∀ {vs : List V} {ds : List D} (i : Nat), Reps K G vs ds → Reps K G (vs.eraseIdx i) (ds.eraseIdx i)
  | _, _, _, .nil => .nil
  | _, _, 0, .cons _ t => t
  | _, _, i + 1, .cons q t => .cons q (Reps.eraseIdx i t)
theorem Reps.one (h : Rep K G v d) : Reps K G [v] [d] := .cons h .nil
end

/-- a dict's entries -/
inductive RepK (K : PySem.W.Frag) (G : Hp) : List (Key × V) → List (Key × D) → Prop
  | nil : RepK K G [] []
  | cons {k : Key} {v : V} {d : D} {kvs : List (Key × V)} {xs : List (Key × D)} : Rep K G v d → RepK K G kvs xs → RepK K G ((k, v) :: kvs) ((k, d) :: xs)
theorem RepK.mono {K : PySem.W.Frag} {G G' : Hp} (e : Same G G') : ∀ {kvs : List (Key × V)} {xs : List (Key × D)}, RepK K G kvs xs → RepK K G' kvs xs
  | _, _, .nil => .nil
  | _, _, .cons r t => .cons (r.mono e) (RepK.mono e t)
/-! ### own things -/
mutual
inductive Own (c : Cc) (H G : Hp) : V → O → List Addr → Prop
  | val {v : V} {d : D} : Rep c.K G v d → Own c H G v (.val d) []
  | lst {p : Addr} {vs : List V} {xs : List D} : H p = some (.lst vs) → Reps c.K G vs xs → Own c H G (.ref p) (.lst xs) [p]
  | dct {p : Addr} {kvs : List (Key × V)} {xs : List (Key × D)} : H p = some (.dK kvs) → RepK c.K G kvs xs → Own c H G (.ref p) (.dct xs) [p]
  | obj {p dx : Addr} {k : Nat} {vs : List (Str × V)} {fs : List (Str × O)} {fp : List Addr} : H p = some (.ins (c.cm k) dx vs) → H dx = some (.own p) → OwnF c H G vs fs fp → Own c H G (.ref p) (.obj k fs) (p :: dx :: fp)
inductive OwnF (c : Cc) (H G : Hp) : List (Str × V) → List (Str × O) → List Addr → Prop
  | nil : OwnF c H G [] [] []
  | cons {n : Str} {v : V} {o : O} {vs : List (Str × V)} {fs : List (Str × O)} {f1 f2 : List Addr} : Own c H G v o f1 → OwnF c H G vs fs f2 → OwnF c H G ((n, v) :: vs) ((n, o) :: fs) (f1 ++ f2)
end
inductive Slots (c : Cc) (H G : Hp) : List (Option V) → List O → List Addr → Prop
  | nil : Slots c H G [] [] []
  | un {x : Option V} {σ : List (Option V)} {s : S} {fp : List Addr} : Slots c H G σ s fp → Slots c H G (x :: σ) (.un :: s) fp
  | cons {v : V} {o : O} {σ : List (Option V)} {s : S} {f1 f2 : List Addr} : Own c H G v o f1 → Slots c H G σ s f2 → Slots c H G (some v :: σ) (o :: s) (f1 ++ f2)

section
variable {c : Cc} {H H' G G' : Hp}
mutual
theorem Own.stay (hg : Same G G') : ∀ {v : V} {o : O} {fp : List Addr}, Own c H G v o fp → (∀ a ∈ fp, H' a = H a) → Own c H' G' v o fp
  | _, _, _, .val r, _ => .val (r.mono hg)
  | _, _, _, .lst (p := p) e r, h => .lst ((h p (by simp)).trans e) (r.mono hg)
  | _, _, _, .dct (p := p) e r, h => .dct ((h p (by simp)).trans e) (r.mono hg)
  | _, _, _, .obj (p := p) (dx := dx) e1 e2 r, h => .obj ((h p (by simp)).trans e1) ((h dx (by simp)).trans e2) (OwnF.stay hg r fun a ha => h a (by simp [ha]))
theorem OwnF.stay (hg : Same G G') : ∀ {vs : List (Str × V)} {fs : List (Str × O)} {fp : List Addr}, OwnF c H G vs fs fp → (∀ a ∈ fp, H' a = H a) → OwnF c H' G' vs fs fp
  | _, _, _, .nil, _ => .nil
  | _, _, _, .cons r t, h => .cons (Own.stay hg r fun a ha => h a (by simp [ha])) (OwnF.stay hg t fun a ha => h a (by simp [ha]))
end
mutual
theorem Own.there : ∀ {v : V} {o : O} {fp : List Addr}, Own c H G v o fp → ∀ a ∈ fp, H a ≠ none
  | _, _, _, .val _, a, h => by simp at h
  | _, _, _, .lst e _, a, h => by
    simp at h; subst h; rw [e]; simp
  | _, _, _, .dct e _, a, h => by
    simp at h; subst h; rw [e]; simp
  | _, _, _, .obj e1 e2 r, a, h => by
    simp at h
    rcases h with rfl | rfl | h
    · rw [e1]; simp
    · rw [e2]; simp
    · exact OwnF.there r a h
theorem OwnF.there : ∀ {vs : List (Str × V)} {fs : List (Str × O)} {fp : List Addr}, OwnF c H G vs fs fp → ∀ a ∈ fp, H a ≠ none
  | _, _, _, .nil, a, h => by simp at h
  | _, _, _, .cons r t, a, h => by
    rcases List.mem_append.mp h with h | h
    · exact Own.there r a h
    · exact OwnF.there t a h
end
theorem Slots.stay (hg : Same G G') : ∀ {σ : List (Option V)} {s : S} {fp : List Addr}, Slots c H G σ s fp → (∀ a ∈ fp, H' a = H a) → Slots c H' G' σ s fp
  | _, _, _, .nil, _ => .nil
  | _, _, _, .un t, h => .un (Slots.stay hg t h)
  | _, _, _, .cons r t, h => .cons (Own.stay hg r fun a ha => h a (by simp [ha])) (Slots.stay hg t fun a ha => h a (by simp [ha]))
theorem Slots.length : ∀ {σ : List (Option V)} {s : S} {fp : List Addr}, Slots c H G σ s fp → σ.length = s.length
  | _, _, _, .nil => rfl
  | _, _, _, .un t => by rw [List.length_cons, List.length_cons, Slots.length t]
  | _, _, _, .cons _ t => by rw [List.length_cons, List.length_cons, Slots.length t]
theorem Slots.there : ∀ {σ : List (Option V)} {s : S} {fp : List Addr}, Slots c H G σ s fp → ∀ a ∈ fp, H a ≠ none
  | _, _, _, .nil, a, h => by simp at h
  | _, _, _, .un t, a, h => Slots.there t a h
  | _, _, _, .cons r t, a, h => by
    rcases List.mem_append.mp h with h | h
    · exact r.there a h
    · exact Slots.there t a h
/-- a slot with what it holds, and the rest -/
theorem Slots.split : ∀ {σ : List (Option V)} {s : S} {fp : List Addr} {i : Nat} {o : O}, Slots c H G σ s fp → s[i]? = some o → o ≠ .un →
    ∃ v f1 f2, σ[i]? = some (some v) ∧ Own c H G v o f1 ∧ fp.Perm (f1 ++ f2) ∧ ∀ (H' G' : Hp) (o' : O) (f1' : List Addr), Own c H' G' v o' f1' → (∀ a ∈ f2, H' a = H a) → Same G G' →
      ∃ fp', fp'.Perm (f1' ++ f2) ∧ Slots c H' G' σ (s.set i o') fp'
  | _, _, _, i, o, .nil, e, _ => by simp at e
  | _, _, _, 0, o, .un t, e, h => by simp at e; exact absurd e.symm h
  | _, _, _, i + 1, o, .un t, e, h => by
    obtain ⟨v, f1, f2, e1, w, p, k⟩ := Slots.split (i := i) t (by simpa using e) h
    refine ⟨v, f1, f2, by simpa using e1, w, p, fun H' G' o' f1' w' hh hg => ?_⟩
    obtain ⟨fp', p', t'⟩ := k H' G' o' f1' w' hh hg
    exact ⟨fp', p', by simpa using Slots.un t'⟩
  | _, _, _, 0, o, .cons (v := v) (f1 := f1) (f2 := f2) r t, e, h => by
    simp at e
    subst e
    refine ⟨v, f1, f2, rfl, r, List.Perm.refl _, fun H' G' o' f1' w' hh hg => ⟨f1' ++ f2, List.Perm.refl _, ?_⟩⟩
    simpa using Slots.cons w' (t.stay hg hh)
  | _, _, _, i + 1, o, .cons (v := v0) (o := o0) (f1 := g1) (f2 := g2) r t, e, h => by
    obtain ⟨v, f1, f2, e1, w, p, k⟩ := Slots.split (i := i) t (by simpa using e) h
    refine ⟨v, f1, g1 ++ f2, by simpa using e1, w, ?_, fun H' G' o' f1' w' hh hg => ?_⟩
    · refine (List.Perm.append_left g1 p).trans ?_
      rw [← List.append_assoc, ← List.append_assoc]
      exact List.Perm.append_right f2 List.perm_append_comm
    · obtain ⟨fp', p', t'⟩ := k H' G' o' f1' w' (fun a ha => hh a (by simp [ha])) hg
      refine ⟨g1 ++ fp', ?_, ?_⟩
      · refine (List.Perm.append_left g1 p').trans ?_
        rw [← List.append_assoc, ← List.append_assoc]
        exact List.Perm.append_right f2 List.perm_append_comm
      · simpa using Slots.cons (r.stay hg fun a ha => hh a (by simp [ha])) t'
/-- a slot is given another thing -/
theorem Slots.put : ∀ {σ : List (Option V)} {s : S} {fp : List Addr} {i : Nat}, Slots c H G σ s fp → i < s.length →
    ∃ f1 f2, fp.Perm (f1 ++ f2) ∧ ∀ (H' G' : Hp) (v' : V) (o' : O) (f1' : List Addr), Own c H' G' v' o' f1' → (∀ a ∈ f2, H' a = H a) → Same G G' →
      ∃ fp', fp'.Perm (f1' ++ f2) ∧ Slots c H' G' (σ.set i (some v')) (s.set i o') fp'
  | _, _, _, i, .nil, e => by simp at e
  | _, _, _, 0, .un (fp := fp) t, e => ⟨[], fp, List.Perm.refl _, fun H' G' v' o' f1' w' hh hg => ⟨f1' ++ fp, List.Perm.refl _, by simpa using Slots.cons w' (t.stay hg hh)⟩⟩
  | _, _, _, i + 1, .un t, e => by
    obtain ⟨f1, f2, p, k⟩ := Slots.put (i := i) t (by simpa using e)
    refine ⟨f1, f2, p, fun H' G' v' o' f1' w' hh hg => ?_⟩
    obtain ⟨fp', p', t'⟩ := k H' G' v' o' f1' w' hh hg
    exact ⟨fp', p', by simpa using Slots.un t'⟩
  | _, _, _, 0, .cons (f1 := f1) (f2 := f2) r t, e => ⟨f1, f2, List.Perm.refl _, fun H' G' v' o' f1' w' hh hg => ⟨f1' ++ f2, List.Perm.refl _, by simpa using Slots.cons w' (t.stay hg hh)⟩⟩
  | _, _, _, i + 1, .cons (v := v0) (o := o0) (f1 := g1) (f2 := g2) r t, e => by
    obtain ⟨f1, f2, p, k⟩ := Slots.put (i := i) t (by simpa using e)
    refine ⟨f1, g1 ++ f2, ?_, fun H' G' v' o' f1' w' hh hg => ?_⟩
    · refine (List.Perm.append_left g1 p).trans ?_
      rw [← List.append_assoc, ← List.append_assoc]
      exact List.Perm.append_right f2 List.perm_append_comm
    · obtain ⟨fp', p', t'⟩ := k H' G' v' o' f1' w' (fun a ha => hh a (by simp [ha])) hg
      refine ⟨g1 ++ fp', ?_, ?_⟩
      · refine (List.Perm.append_left g1 p').trans ?_
        rw [← List.append_assoc, ← List.append_assoc]
        exact List.Perm.append_right f2 List.perm_append_comm
      · simpa using Slots.cons (r.stay hg fun a ha => hh a (by simp [ha])) t'
/-- forgetting a slot -/
theorem Slots.forget : ∀ {σ : List (Option V)} {s : S} {fp : List Addr} (i : Nat) (x : Option V), Slots c H G σ s fp →
    ∃ f1 f2, fp.Perm (f1 ++ f2) ∧ Slots c H G (σ.set i x) (s.set i .un) f2
  | _, _, _, i, x, .nil => ⟨[], [], List.Perm.refl _, .nil⟩
  | _, _, _, 0, x, .un (fp := fp) t => ⟨[], fp, List.Perm.refl _, .un t⟩
  | _, _, _, i + 1, x, .un t => by
    obtain ⟨f1, f2, p, k⟩ := Slots.forget i x t
    exact ⟨f1, f2, p, .un k⟩
  | _, _, _, 0, x, .cons (f1 := f1) (f2 := f2) r t => ⟨f1, f2, List.Perm.refl _, .un t⟩
  | _, _, _, i + 1, x, .cons (v := v0) (o := o0) (f1 := g1) (f2 := g2) r t => by
    obtain ⟨f1, f2, p, k⟩ := Slots.forget i x t
    refine ⟨f1, g1 ++ f2, ?_, .cons r k⟩
    refine (List.Perm.append_left g1 p).trans ?_
    rw [← List.append_assoc, ← List.append_assoc]
    exact List.Perm.append_right f2 List.perm_append_comm
end

/-- a slot's thing taken out -/
theorem Slots.take {c : Cc} {H G : Hp} : ∀ {σ : List (Option V)} {s : S} {fp : List Addr} {i : Nat} {o : O}, Slots c H G σ s fp → s[i]? = some o → o ≠ .un →
    ∃ v f1 f2, σ[i]? = some (some v) ∧ Own c H G v o f1 ∧ fp.Perm (f1 ++ f2) ∧ Slots c H G σ (s.set i .un) f2
  | _, _, _, i, o, .nil, e, _ => by simp at e
  | _, _, _, 0, o, .un t, e, h => by simp at e; exact absurd e.symm h
  | _, _, _, i + 1, o, .un t, e, h => by
    obtain ⟨v, f1, f2, e1, w, p, k⟩ := Slots.take (i := i) t (by simpa using e) h
    exact ⟨v, f1, f2, by simpa using e1, w, p, by simpa using Slots.un k⟩
  | _, _, _, 0, o, .cons (v := v) (f1 := f1) (f2 := f2) r t, e, h => by
    simp at e
    subst e
    exact ⟨v, f1, f2, rfl, r, List.Perm.refl _, .un t⟩
  | _, _, _, i + 1, o, .cons (v := v0) (o := o0) (f1 := g1) (f2 := g2) r t, e, h => by
    obtain ⟨v, f1, f2, e1, w, p, k⟩ := Slots.take (i := i) t (by simpa using e) h
    refine ⟨v, f1, g1 ++ f2, by simpa using e1, w, ?_, .cons r k⟩
    refine (List.Perm.append_left g1 p).trans ?_
    rw [← List.append_assoc, ← List.append_assoc]
    exact List.Perm.append_right f2 List.perm_append_comm
/-- .. and put back -/
theorem Slots.back {c : Cc} {H G : Hp} {v : V} {o : O} {f1 : List Addr} (w : Own c H G v o f1) : ∀ {σ : List (Option V)} {s : S} {fp : List Addr} {i : Nat}, Slots c H G σ s fp → s[i]? = some .un → σ[i]? = some (some v) →
    ∃ fp', fp'.Perm (f1 ++ fp) ∧ Slots c H G σ (s.set i o) fp'
  | _, _, _, i, .nil, e, _ => by simp at e
  | _, _, _, 0, .un (fp := fp) t, _, e => by
    simp at e
    subst e
    exact ⟨f1 ++ fp, List.Perm.refl _, .cons w t⟩
  | _, _, _, i + 1, .un t, e, h => by
    obtain ⟨fp', p, k⟩ := Slots.back w (i := i) t (by simpa using e) (by simpa using h)
    exact ⟨fp', p, .un k⟩
  | _, _, _, 0, .cons r t, e, h => by
    simp at e h
    subst e
    cases r
  | _, _, _, i + 1, .cons (f1 := g1) (f2 := g2) r t, e, h => by
    obtain ⟨fp', p, k⟩ := Slots.back w (i := i) t (by simpa using e) (by simpa using h)
    refine ⟨g1 ++ fp', ?_, .cons r k⟩
    refine (List.Perm.append_left g1 p).trans ?_
    rw [← List.append_assoc, ← List.append_assoc]
    exact List.Perm.append_right _ List.perm_append_comm

/-! ### from one place of a running def to the next -/
/-- the frozen part G of the heap H, the own things at fp -/
structure Ok (H G : Hp) (fp : List Addr) : Prop where
  sub : Same G H
  own : ∀ a ∈ fp, G a = none
  nd : fp.Nodup
structure Ev (H G : Hp) (fp : List Addr) (H' G' : Hp) (fp' : List Addr) : Prop where
  gs : Same G G'
  sub : Same G' H'
  fresh : ∀ a, G a = none → G' a ≠ none → H a = none ∨ a ∈ fp
  frame : ∀ a o, H a = some o → a ∉ fp → H' a = some o
  live : ∀ a, H a ≠ none → H' a ≠ none
  own : ∀ a ∈ fp', G' a = none ∧ (a ∈ fp ∨ H a = none)
  nd : fp'.Nodup
/-- nothing that stood is changed; what is new may be frozen -/
structure Grow (H G H' G' : Hp) : Prop where
  hs : Same H H'
  gs : Same G G'
  sub : Same G' H'
  nw : ∀ a, H a ≠ none → G' a = G a

section
variable {c : Cc} {H H' H1 H2 G G' G1 G2 : Hp} {fp fp' fp1 fp2 f1 f2 : List Addr} {p : Addr} {o : HO} {σ : List (Option V)} {s : S}
theorem same_ne {G H : Hp} (e : Same G H) {a : Addr} (h : G a ≠ none) : H a ≠ none := fun z => h (e.free z)
theorem same_upd {H : Hp} {p : Addr} {o : HO} (h : H p = none) : Same H (upd H p o) := fun b x e => by
  rw [upd_ne (ne_of_none e h)]
  exact e
theorem Grow.refl (h : Same G H) : Grow H G H G := ⟨Same.refl _, Same.refl _, h, fun _ _ => rfl⟩
theorem Grow.trans (a : Grow H G H' G') (b : Grow H' G' H2 G2) : Grow H G H2 G2 :=
  ⟨a.hs.trans b.hs, a.gs.trans b.gs, b.sub, fun x hx => (b.nw x (same_ne a.hs hx)).trans (a.nw x hx)⟩
theorem Grow.alloc (h : Same G H) (hp : H p = none) : Grow H G (upd H p o) (upd G p o) := by
  have gp : G p = none := h.free hp
  refine ⟨same_upd hp, same_upd gp, fun b x e => ?_, fun a ha => ?_⟩
  · by_cases hb : b = p
    · subst hb; rw [upd_same] at e ⊢; exact e
    · rw [upd_ne hb] at e ⊢; exact h b x e
  · exact upd_ne fun z => ha (z ▸ hp)
theorem Grow.hid (h : Same G H) (hp : H p = none) : Grow H G (upd H p o) G := ⟨same_upd hp, Same.refl _, h.trans (same_upd hp), fun _ _ => rfl⟩
theorem Grow.keep (g : Grow H G H' G') {a : Addr} (h : H a ≠ none) : H' a = H a := by
  cases q : H a with
  | none => exact absurd q h
  | some o => exact g.hs a o q
theorem Slots.step (x : Slots c H G σ s fp) (g : Grow H G H' G') : Slots c H' G' σ s fp := x.stay g.gs fun a ha => g.keep (x.there a ha)
theorem Grow.ev (k : Ok H G fp) (x : Slots c H G σ s fp) (g : Grow H G H' G') : Ev H G fp H' G' fp where
  gs := g.gs
  sub := g.sub
  fresh := fun a h1 h2 => by
    by_cases ha : H a = none
    · exact .inl ha
    · rw [g.nw a ha] at h2
      exact absurd h1 h2
  frame := fun a o e _ => g.hs a o e
  live := fun a h => same_ne g.hs h
  own := fun a ha => ⟨(g.nw a (x.there a ha)).trans (k.own a ha), .inl ha⟩
  nd := k.nd
theorem Ev.ok (e : Ev H G fp H' G' fp') : Ok H' G' fp' := ⟨e.sub, fun a ha => (e.own a ha).1, e.nd⟩
theorem Ev.refl (k : Ok H G fp) : Ev H G fp H G fp := ⟨Same.refl _, k.sub, fun a h1 h2 => absurd h1 h2, fun _ _ e _ => e, fun _ h => h, fun a ha => ⟨k.own a ha, .inl ha⟩, k.nd⟩
/-- what was done with a part of the own things, beside the rest of them -/
theorem Ev.beside (k : Ok H G fp) (p : fp.Perm (f1 ++ f2)) (h2 : ∀ a ∈ f2, H a ≠ none) (e : Ev H G f1 H' G' fp1) : Ev H G fp H' G' (fp1 ++ f2) where
  gs := e.gs
  sub := e.sub
  fresh := fun a x y => (e.fresh a x y).imp id fun z => p.mem_iff.mpr (List.mem_append_left _ z)
  frame := fun a o x y => e.frame a o x fun z => y (p.mem_iff.mpr (List.mem_append_left _ z))
  live := e.live
  own := fun a ha => by
    rcases List.mem_append.mp ha with ha | ha
    · obtain ⟨x, y⟩ := e.own a ha
      exact ⟨x, y.imp (fun z => p.mem_iff.mpr (List.mem_append_left _ z)) id⟩
    · refine ⟨?_, .inl (p.mem_iff.mpr (List.mem_append_right _ ha))⟩
      have ga := k.own a (p.mem_iff.mpr (List.mem_append_right _ ha))
      cases q : G' a with
      | none => rfl
      | some o =>
        rcases e.fresh a ga (by rw [q]; simp) with z | z
        · exact absurd z (h2 a ha)
        · exact absurd rfl ((List.nodup_append.mp (p.nodup_iff.mp k.nd)).2.2 a z a ha)
  nd := by
    refine List.nodup_append.mpr ⟨e.nd, (List.nodup_append.mp (p.nodup_iff.mp k.nd)).2.1, fun a ha b hb z => ?_⟩
    subst z
    rcases (e.own a ha).2 with x | x
    · exact (List.nodup_append.mp (p.nodup_iff.mp k.nd)).2.2 a x a hb rfl
    · exact h2 a hb x
theorem Ev.trans (a : Ev H G fp H1 G1 fp1) (b : Ev H1 G1 fp1 H2 G2 fp2) : Ev H G fp H2 G2 fp2 where
  gs := a.gs.trans b.gs
  sub := b.sub
  fresh := fun x h1 h2 => by
    cases q : G1 x with
    | some o => exact a.fresh x h1 (by rw [q]; simp)
    | none =>
      rcases b.fresh x q h2 with z | z
      · left
        cases r : H x with
        | none => rfl
        | some o => exact absurd z (a.live x (by rw [r]; simp))
      · exact (a.own x z).2.symm
  frame := fun x o h1 h2 => b.frame x o (a.frame x o h1 h2) fun z => by
    rcases (a.own x z).2 with y | y
    · exact h2 y
    · rw [h1] at y; cases y
  live := fun x h => b.live x (a.live x h)
  own := fun x hx => by
    obtain ⟨h1, h2⟩ := b.own x hx
    refine ⟨h1, ?_⟩
    rcases h2 with h2 | h2
    · exact (a.own x h2).2
    · right
      cases r : H x with
      | none => rfl
      | some o => exact absurd h2 (a.live x (by rw [r]; simp))
  nd := b.nd
theorem Ev.grow (a : Ev H G fp H1 G1 fp1) (x : Slots c H1 G1 σ s fp1) (g : Grow H1 G1 H2 G2) : Ev H G fp H2 G2 fp1 := a.trans (g.ev a.ok x)
theorem Ev.perm (a : Ev H G fp H' G' fp') (p : fp1.Perm fp') : Ev H G fp H' G' fp1 := { a with own := fun x hx => a.own x (p.mem_iff.mp hx), nd := p.nodup_iff.mpr a.nd }
theorem Ev.less (a : Ev H G fp H' G' fp') (p : fp'.Perm (f1 ++ f2)) : Ev H G fp H' G' f2 :=
  { a with own := fun x hx => a.own x (p.mem_iff.mpr (List.mem_append_right _ hx)), nd := (List.nodup_append.mp (p.nodup_iff.mp a.nd)).2.1 }
theorem Ev.pure (x : Ev H G [] H' G' fp) : Grow H G H' G' where
  hs := fun a o e => x.frame a o e (by simp)
  gs := x.gs
  sub := x.sub
  nw := fun a ha => by
    cases q : G a with
    | some o => exact x.gs a o q
    | none =>
      cases r : G' a with
      | none => rfl
      | some o =>
        rcases x.fresh a q (by rw [r]; simp) with z | z
        · exact absurd z ha
        · simp at z
theorem Ok.perm (k : Ok H G fp) (p : fp'.Perm fp) : Ok H G fp' := ⟨k.sub, fun a ha => k.own a (p.mem_iff.mp ha), p.nodup_iff.mpr k.nd⟩
theorem Ok.left (k : Ok H G fp) (p : fp.Perm (f1 ++ f2)) : Ok H G f1 := ⟨k.sub, fun a ha => k.own a (p.mem_iff.mpr (List.mem_append_left _ ha)), (List.nodup_append.mp (p.nodup_iff.mp k.nd)).1⟩
theorem Ok.right (k : Ok H G fp) (p : fp.Perm (f1 ++ f2)) : Ok H G f2 := ⟨k.sub, fun a ha => k.own a (p.mem_iff.mpr (List.mem_append_right _ ha)), (List.nodup_append.mp (p.nodup_iff.mp k.nd)).2.1⟩
end
end DL
/-! DL 2: operations on plain data, by values. -/
namespace DL
open PySem PySem.Spec PyProof.Rows L2

theorem line_eq : (sizeLine : Nat) = 16777216 := PySem.sizeLine_eq
/-! ### equality -/
mutual
def toPy : D → PyData
  | .non => .none
  | .bl b => .bool b
  | .int i => .int i
  | .str x => .str x
  | .tup xs => .tuple (toPyL xs)
  | .lst xs => .list (toPyL xs)
  | .ref _ => .none
def toPyL : List D → List PyData
  | [] => []
  | x :: xs => toPy x :: toPyL xs
end
/-! no strange text, no reference, depth below n -/
mutual
def okD : Nat → D → Bool
  | _, .non => true
  | _, .bl _ => true
  | _, .int _ => true
  | _, .str x => PyData.strOk x
  | 0, .tup _ => false
  | 0, .lst _ => false
  | n + 1, .tup xs => okL n xs
  | n + 1, .lst xs => okL n xs
  | _, .ref _ => false
def okL : Nat → List D → Bool
  | _, [] => true
  | n, x :: xs => okD n x && okL n xs
end
mutual
theorem okD_lay : ∀ (n : Nat) (d : D), okD n d = true → (toPy d).canLay0 = true ∧ (toPy d).depth ≤ n
  | n, .non, _ => ⟨rfl, Nat.zero_le _⟩
  | n, .bl b, _ => ⟨rfl, Nat.zero_le _⟩
  | n, .int i, _ => ⟨rfl, Nat.zero_le _⟩
  | n, .str x, h => by
    cases n <;> exact ⟨h, Nat.zero_le _⟩
  | 0, .tup xs, h => nomatch h
  | 0, .lst xs, h => nomatch h
  | n + 1, .tup xs, h => by
    obtain ⟨h1, h2⟩ := okL_lay n xs h
    exact ⟨h1, Nat.succ_le_succ h2⟩
  | n + 1, .lst xs, h => by
    obtain ⟨h1, h2⟩ := okL_lay n xs h
    exact ⟨h1, Nat.succ_le_succ h2⟩
  | n, .ref a, h => by cases n <;> exact nomatch h
theorem okL_lay : ∀ (n : Nat) (ds : List D), okL n ds = true → PyData.canLayAll0 (toPyL ds) = true ∧ PyData.depthAll (toPyL ds) ≤ n
  | n, [], _ => ⟨rfl, Nat.zero_le _⟩
  | n, x :: xs, h => by
    obtain ⟨h1, h2⟩ := Bool.and_eq_true_iff.mp h
    obtain ⟨a1, a2⟩ := okD_lay n x h1
    obtain ⟨b1, b2⟩ := okL_lay n xs h2
    refine ⟨Bool.and_eq_true_iff.mpr ⟨a1, b1⟩, Nat.max_le.mpr ⟨a2, b2⟩⟩
end
mutual
theorem Rep.dp {K : PySem.W.Frag} {G : Hp} : ∀ {n : Nat} {v : V} {d : D}, okD n d = true → Rep K G v d → Dp K G v (toPy d)
  | _, _, _, _, .non => .non
  | _, _, _, _, .bl b => .bl b
  | _, _, _, _, .int i => .int i
  | _, _, _, _, .str x => .str x
  | n, _, .ref a, h, .ref _ => by cases n <;> exact nomatch h
  | 0, _, _, h, .tup _ _ => nomatch h
  | 0, _, _, h, .lst _ _ => nomatch h
  | n + 1, _, _, h, .tup e r => .tup e (Reps.dp (n := n) h r)
  | n + 1, _, _, h, .lst e r => .lst e (Reps.dp (n := n) h r)
theorem Reps.dp {K : PySem.W.Frag} {G : Hp} : ∀ {n : Nat} {vs : List V} {ds : List D}, okL n ds = true → Reps K G vs ds → DpAll K G vs (toPyL ds)
  | _, _, _, _, .nil => .nil
  | n, _, _, h, .cons r t => .cons (Rep.dp (n := n) (Bool.and_eq_true_iff.mp h).1 r) (Reps.dp (n := n) (Bool.and_eq_true_iff.mp h).2 t)
end
theorem okD_shaped {d : D} (h : okD 60 d = true) : SeqAt.shaped (toPy d) = true := by
  obtain ⟨h1, h2⟩ := okD_lay 60 d h
  exact Bool.and_eq_true_iff.mpr ⟨h1, decide_eq_true (by omega)⟩
/-- plain data as == tells it apart -/
def eqD (x y : D) : Bool := PyData.eqv (toPy x) (toPy y)
def dEq (x y : D) : Option D := if okD 60 x = true ∧ okD 60 y = true then some (.bl (eqD x y)) else none
def dNe (x y : D) : Option D := if okD 60 x = true ∧ okD 60 y = true then some (.bl (!eqD x y)) else none

/-! ### operations -/
def cap : Nat := 1000000
def dAdd : D → D → Option D
  | .int i, .int j => some (.int (i + j))
  | .str x, .str y => if x.length + y.length ≤ cap then some (.str (x ++ y)) else none
  | .tup xs, .tup ys => if xs.length + ys.length ≤ cap then some (.tup (xs ++ ys)) else none
  | _, _ => none
def dSub : D → D → Option D
  | .int i, .int j => some (.int (i - j))
  | _, _ => none
def dMul : D → D → Option D
  | .int i, .int j => if i.natAbs.log2 + j.natAbs.log2 < 100000000 then some (.int (i * j)) else none
  | .tup xs, .int k => if xs ≠ [] ∧ 2 ≤ k ∧ k ≤ 1000 ∧ xs.length ≤ 1000 then some (.tup (List.replicate k.toNat xs).flatten) else none
  | _, _ => none
def dFdiv : D → D → Option D
  | .int i, .int j => if j ≠ 0 ∧ j.natAbs.log2 < 9000 then some (.int (i.fdiv j)) else none
  | _, _ => none
def dMod : D → D → Option D
  | .int i, .int j => if j ≠ 0 then some (.int (i.fmod j)) else none
  | _, _ => none
def dPow : D → D → Option D
  | .int i, .int j => if 0 ≤ j ∧ j ≤ 1000000 ∧ i.natAbs < 2 ^ 64 then some (.int (i ^ j.toNat)) else none
  | _, _ => none
def dLt : D → D → Option D
  | .int i, .int j => some (.bl (decide (i < j)))
  | _, _ => none
def dLe : D → D → Option D
  | .int i, .int j => some (.bl (decide (i ≤ j)))
  | _, _ => none
def dGt : D → D → Option D
  | .int i, .int j => some (.bl (decide (j < i)))
  | _, _ => none
def dGe : D → D → Option D
  | .int i, .int j => some (.bl (decide (j ≤ i)))
  | _, _ => none
def dNeg : D → Option D
  | .int i => some (.int (-i))
  | _ => none
def dIx : D → D → Option D
  | .tup xs, .int i => atI xs i
  | .lst xs, .int i => atI xs i
  | .str x, .int i => if x.length ≤ cap then (atI x.cps.toList i).map fun k => .str ⟨#[k]⟩ else none
  | _, _ => none

def OpS (c : Cc) (r : R2) (f : D → D → Option D) : Prop :=
  ∀ ⦃H G : Hp⦄ ⦃x y : V⦄ ⦃dx dy dz : D⦄ (Q : VK), Same G H → Rep c.K G x dx → Rep c.K G y dy → f dx dy = some dz → (∀ v H' G', Grow H G H' G' → Rep c.K G' v dz → Q v H') → r x y H Q
def UnS (c : Cc) (r : V → Hp → VK → Prop) (f : D → Option D) : Prop :=
  ∀ ⦃H G : Hp⦄ ⦃x : V⦄ ⦃dx dz : D⦄ (Q : VK), Same G H → Rep c.K G x dx → f dx = some dz → (∀ v H' G', Grow H G H' G' → Rep c.K G' v dz → Q v H') → r x H Q
section
variable {c : Cc} {X : Cx}
theorem cap_line : cap ≤ sizeLine := by rw [line_eq]; decide
theorem cap_lt : cap < sizeLine := by rw [line_eq]; decide

theorem Rep.ints {K : PySem.W.Frag} {G : Hp} {x : V} {i : Int} (h : Rep K G x (.int i)) : x = .int i := by cases h; rfl
theorem opS_int {C : Int → Int → Prop} {g : Int → Int → V} {h : Int → Int → D} {f : D → D → Option D} (hf : ∀ dx dy dz, f dx dy = some dz → ∃ i j, dx = .int i ∧ dy = .int j ∧ C i j ∧ dz = h i j) (hr : ∀ K G i j, Rep K G (g i j) (h i j)) :
    OpS c (rI C g) f := fun H G x y dx dy dz Q e rx ry hz q => by
  obtain ⟨i, j, rfl, rfl, hc, rfl⟩ := hf dx dy dz hz
  exact ⟨i, j, rx.ints, ry.ints, hc, q _ _ _ (Grow.refl e) (hr _ _ _ _)⟩
theorem opS_int0 {g : Int → Int → V} {h : Int → Int → D} {f : D → D → Option D} (hf : ∀ dx dy dz, f dx dy = some dz → ∃ i j, dx = .int i ∧ dy = .int j ∧ dz = h i j) (hr : ∀ K G i j, Rep K G (g i j) (h i j)) :
    OpS c (rI0 g) f := fun H G x y dx dy dz Q e rx ry hz q => by
  obtain ⟨i, j, rfl, rfl, rfl⟩ := hf dx dy dz hz
  exact ⟨i, j, rx.ints, ry.ints, q _ _ _ (Grow.refl e) (hr _ _ _ _)⟩
theorem os_sub : OpS c (rI0 fun i j => .int (i - j)) dSub := opS_int0 (h := fun i j => .int (i - j)) (fun dx dy dz h => by
  cases dx <;> cases dy <;> simp [dSub] at h
  exact ⟨_, _, rfl, rfl, h.symm⟩) fun _ _ _ _ => .int _
theorem os_lt : OpS c (rI0 fun i j => .bl (decide (i < j))) dLt := opS_int0 (h := fun i j => .bl (decide (i < j))) (fun dx dy dz h => by
  cases dx <;> cases dy <;> simp [dLt] at h
  exact ⟨_, _, rfl, rfl, h.symm⟩) fun _ _ _ _ => .bl _
theorem os_le : OpS c (rI0 fun i j => .bl (decide (i ≤ j))) dLe := opS_int0 (h := fun i j => .bl (decide (i ≤ j))) (fun dx dy dz h => by
  cases dx <;> cases dy <;> simp [dLe] at h
  exact ⟨_, _, rfl, rfl, h.symm⟩) fun _ _ _ _ => .bl _
theorem os_gt : OpS c (rI0 fun i j => .bl (decide (j < i))) dGt := opS_int0 (h := fun i j => .bl (decide (j < i))) (fun dx dy dz h => by
  cases dx <;> cases dy <;> simp [dGt] at h
  exact ⟨_, _, rfl, rfl, h.symm⟩) fun _ _ _ _ => .bl _
theorem os_ge : OpS c (rI0 fun i j => .bl (decide (j ≤ i))) dGe := opS_int0 (h := fun i j => .bl (decide (j ≤ i))) (fun dx dy dz h => by
  cases dx <;> cases dy <;> simp [dGe] at h
  exact ⟨_, _, rfl, rfl, h.symm⟩) fun _ _ _ _ => .bl _
theorem os_mod : OpS c (rI (fun _ j => j ≠ 0) fun i j => .int (i.fmod j)) dMod := opS_int (h := fun i j => .int (i.fmod j)) (fun dx dy dz h => by
  cases dx <;> cases dy <;> simp [dMod] at h
  exact ⟨_, _, rfl, rfl, h.1, h.2.symm⟩) fun _ _ _ _ => .int _
theorem os_pow : OpS c (rI CPow fun i j => .int (i ^ j.toNat)) dPow := opS_int (h := fun i j => .int (i ^ j.toNat)) (fun dx dy dz h => by
  cases dx <;> cases dy <;> simp only [dPow] at h <;> try contradiction
  split at h
  · rename_i hc; cases h; exact ⟨_, _, rfl, rfl, hc, rfl⟩
  · exact nomatch h) fun _ _ _ _ => .int _
def CDivS (_ j : Int) : Prop := j ≠ 0 ∧ j.natAbs.log2 < 9000
theorem op_fdivS : OpR X (binaryOp .FloorDiv) (rI CDivS fun i j => .int (i.fdiv j)) := opI fun i j _ _ _ _ _ hc q => floordiv_int hc.1 q (.inl (PyProof.noPylong_of_log2 hc.2))
theorem os_fdiv : OpS c (rI CDivS fun i j => .int (i.fdiv j)) dFdiv := opS_int (h := fun i j => .int (i.fdiv j)) (fun dx dy dz h => by
  cases dx <;> cases dy <;> simp only [dFdiv] at h <;> try contradiction
  split at h
  · rename_i hc; cases h; exact ⟨_, _, rfl, rfl, hc, rfl⟩
  · exact nomatch h) fun _ _ _ _ => .int _

/-- either of two readings -/
theorem OpS.or {r r' : R2} {f : D → D → Option D} (h : ∀ ⦃H G : Hp⦄ ⦃x y : V⦄ ⦃dx dy dz : D⦄ (Q : VK), Same G H → Rep c.K G x dx → Rep c.K G y dy → f dx dy = some dz → (∀ v H' G', Grow H G H' G' → Rep c.K G' v dz → Q v H') → r x y H Q ∨ r' x y H Q) :
    OpS c (fun x y H Q => r x y H Q ∨ r' x y H Q) f := h
def rAddS : R2 := fun x y H Q => ∃ i j, x = .str i ∧ y = .str j ∧ i.length + j.length ≤ sizeLine ∧ Q (.str (i ++ j)) H
def rAddA (K : PySem.W.Frag) : R2 := fun x y H Q => rI0 (fun i j => .int (i + j)) x y H Q ∨ rAddS x y H Q ∨ rCatA K x y H Q
theorem op_addA : OpR X (binaryOp .Add) (rAddA X.K) := op_add.or (op_add_str.or op_catA)
theorem os_add : OpS c (rAddA c.K) dAdd := fun H G x y dx dy dz Q e rx ry hz q => by
  cases dx <;> cases dy <;> simp only [dAdd] at hz <;> try contradiction
  · cases hz
    exact .inl ⟨_, _, rx.ints, ry.ints, q _ _ _ (Grow.refl e) (.int _)⟩
  · split at hz
    · rename_i hc; cases hz
      cases rx; cases ry
      exact .inr (.inl ⟨_, _, rfl, rfl, Nat.le_trans hc cap_line, q _ _ _ (Grow.refl e) (.str _)⟩)
    · exact nomatch hz
  · split at hz
    · rename_i hc; cases hz
      cases rx with
      | tup t1 r1 =>
      cases ry with
      | tup t2 r2 =>
      have l1 := r1.length
      have l2 := r2.length
      refine .inr (.inr ⟨_, _, _, _, rfl, rfl, Same.sqT e t1, Same.sqT e t2, Nat.le_trans (by omega) cap_line, fun z => ?_, fun z1 z2 => ?_, fun z1 z2 p hp => ?_⟩)
      · subst z
        cases r1
        exact q _ _ _ (Grow.refl e) (by simpa using Rep.tup t2 r2)
      · subst z2
        cases r2
        exact q _ _ _ (Grow.refl e) (by simpa using Rep.tup t1 r1)
      · exact q _ _ _ (Grow.alloc e hp) (.tup (SqT.of upd_same) ((r1.append r2).mono (same_upd (e.free hp))))
    · exact nomatch hz
def CMulS (i j : Int) : Prop := i.natAbs.log2 + j.natAbs.log2 < 100000000
theorem CMulS.ok {i j : Int} (h : CMulS i j) : IntMulOk i j := by
  have b : ∀ x : Int, Builtin.Int.intBits x ≤ x.natAbs.log2 + 1 := fun x => by
    unfold Builtin.Int.intBits
    split <;> omega
  have h1 := b i
  have h2 := b j
  have h3 : i.natAbs.log2 + j.natAbs.log2 < 100000000 := h
  have e : bitsLine = 134217728 := by decide
  unfold IntMulOk
  intro z
  rw [Bool.and_eq_true] at z
  have z2 := z.2
  unfold Builtin.Int.intTooBig at z2
  have z3 := of_decide_eq_true z2
  rw [e] at z3
  omega
theorem op_mulS : OpR X (binaryOp .Mult) (rI CMulS fun i j => .int (i * j)) := opI fun _ _ _ _ _ _ _ hc q => mul_int q hc.ok
def rMulA (K : PySem.W.Frag) : R2 := fun x y H Q => rI CMulS (fun i j => .int (i * j)) x y H Q ∨ rRepT K x y H Q
theorem op_mulA : OpR X (binaryOp .Mult) (rMulA X.K) := op_mulS.or op_repT
theorem Reps.rep {K : PySem.W.Frag} {G : Hp} {vs : List V} {xs : List D} (r : Reps K G vs xs) : ∀ k : Nat, Reps K G (List.replicate k vs).flatten (List.replicate k xs).flatten
  | 0 => .nil
  | k + 1 => by
    rw [List.replicate_succ, List.replicate_succ, List.flatten_cons, List.flatten_cons]
    exact r.append (Reps.rep r k)
theorem os_mul : OpS c (rMulA c.K) dMul := fun H G x y dx dy dz Q e rx ry hz q => by
  cases dx <;> cases dy <;> simp only [dMul] at hz <;> try contradiction
  · split at hz
    · rename_i hc; cases hz
      exact .inl ⟨_, _, rx.ints, ry.ints, hc, q _ _ _ (Grow.refl e) (.int _)⟩
    · exact nomatch hz
  · split at hz
    · rename_i hc; cases hz
      cases rx with
      | tup t1 r1 =>
      obtain ⟨h1, h2, h3, h4⟩ := hc
      refine .inr ⟨_, _, _, rfl, ry.ints, Same.sqT e t1, fun z => h1 ?_, h2, h3, by rw [r1.length]; exact h4, fun p hp => ?_⟩
      · subst z; cases r1; rfl
      · exact q _ _ _ (Grow.alloc e hp) (.tup (SqT.of upd_same) ((r1.rep _).mono (same_upd (e.free hp))))
    · exact nomatch hz
theorem os_eq : OpS c (rEqD c.K) dEq := fun H G x y dx dy dz Q e rx ry hz q => by
  unfold dEq at hz
  split at hz
  · rename_i hc; cases hz
    exact ⟨_, _, Rep.dp hc.1 (rx.mono e), Rep.dp hc.2 (ry.mono e), okD_shaped hc.1, okD_shaped hc.2, q _ _ _ (Grow.refl e) (.bl _)⟩
  · exact nomatch hz
theorem os_ne : OpS c (rNeD c.K) dNe := fun H G x y dx dy dz Q e rx ry hz q => by
  unfold dNe at hz
  split at hz
  · rename_i hc; cases hz
    exact ⟨_, _, Rep.dp hc.1 (rx.mono e), Rep.dp hc.2 (ry.mono e), okD_shaped hc.1, okD_shaped hc.2, q _ _ _ (Grow.refl e) (.bl _)⟩
  · exact nomatch hz
theorem un_negS : UnS c (rU fun i => .int (-i)) dNeg := fun H G x dx dz Q e rx hz q => by
  cases dx <;> simp [dNeg] at hz
  subst hz
  exact ⟨_, rx.ints, q _ _ _ (Grow.refl e) (.int _)⟩
theorem ixN_len {K : PySem.W.Frag} {G : Hp} {vs : List V} {xs : List D} {i : Int} {d : D} (r : Reps K G vs xs) (h : atI xs i = some d) : ∃ v, atI vs i = some v ∧ Rep K G v d := by
  unfold atI at h ⊢
  rw [r.length]
  cases e : ixN xs.length i with
  | none => rw [e] at h; exact nomatch h
  | some j =>
    rw [e] at h
    exact r.get (i := j) h
theorem os_ix : OpS c (rIx c.K) dIx := fun H G x y dx dy dz Q e rx ry hz q => by
  cases dx <;> cases dy <;> simp only [dIx] at hz <;> try contradiction
  · rename_i z i
    split at hz
    · rename_i hc
      cases rx
      cases e2 : atI z.cps.toList i with
      | none => rw [e2] at hz; exact nomatch hz
      | some k =>
        rw [e2] at hz; cases hz
        exact .inr (.inr ⟨_, _, _, rfl, ry.ints, Nat.le_trans hc cap_line, e2, q _ _ _ (Grow.refl e) (.str _)⟩)
    · exact nomatch hz
  · cases rx with
    | tup t1 r1 =>
    obtain ⟨v, e2, r2⟩ := ixN_len r1 hz
    exact .inr (.inl ⟨_, _, _, _, rfl, ry.ints, Same.sqT e t1, e2, q _ _ _ (Grow.refl e) r2⟩)
  · cases rx with
    | lst t1 r1 =>
    obtain ⟨v, e2, r2⟩ := ixN_len r1 hz
    exact .inl ⟨_, _, _, _, rfl, ry.ints, Same.sqL e t1, e2, q _ _ _ (Grow.refl e) r2⟩
end
end DL
/-! DL 3: expressions: each gives plain data by a function of the slots. -/
namespace DL
open PySem PySem.Spec PyProof.Rows L2

abbrev EF := S → Option (D × S)
abbrev BF := S → Option (Bool × S)
abbrev AF := S → Option (List D × S)

section
variable (c : Cc)
/-- what is known behind: pure: nothing that stood is changed -/
abbrev Pure (b : Bool) (H G : Hp) (s : S) (fp : List Addr) (H' G' : Hp) (s' : S) (fp' : List Addr) : Prop := b = true → Grow H G H' G' ∧ s' = s
def tE (b : Bool) (f : EF) : TE := fun σ H Q => ∃ G s fp d s', Ok H G fp ∧ Slots c H G σ s fp ∧ f s = some (d, s') ∧
  ∀ v H' G' fp', Ev H G fp H' G' fp' → Slots c H' G' σ s' fp' → Rep c.K G' v d → Pure b H G s fp H' G' s' fp' → Q v H'
def tT (b : Bool) (f : BF) : TT := fun σ H Q => ∃ G s fp d s', Ok H G fp ∧ Slots c H G σ s fp ∧ f s = some (d, s') ∧
  ∀ H' G' fp', Ev H G fp H' G' fp' → Slots c H' G' σ s' fp' → Pure b H G s fp H' G' s' fp' → Q d H'
def tA (b : Bool) (f : AF) : TA := fun σ H Q => ∃ G s fp d s', Ok H G fp ∧ Slots c H G σ s fp ∧ f s = some (d, s') ∧
  ∀ vs H' G' fp', Ev H G fp H' G' fp' → Slots c H' G' σ s' fp' → Reps c.K G' vs d → Pure b H G s fp H' G' s' fp' → Q vs H'
def tOp' (b : Bool) (f : S → Option (Option Int × S)) : TO := fun σ H Q => ∃ G s fp d s', Ok H G fp ∧ Slots c H G σ s fp ∧ f s = some (d, s') ∧
  ∀ H' G' fp', Ev H G fp H' G' fp' → Slots c H' G' σ s' fp' → Pure b H G s fp H' G' s' fp' → Q d H'
end

theorem PE_imp {X : Cx} {e : Expr} {t t' : TE} (h : PE X e t) (k : ∀ σ H Q, t' σ H Q → t σ H Q) : PE X e t' := ⟨fun pins s σ H Q I q => h.run pins s σ H Q I (k σ H Q q)⟩
theorem PT_imp {X : Cx} {e : Expr} {t t' : TT} (h : PT X e t) (k : ∀ σ H Q, t' σ H Q → t σ H Q) : PT X e t' := ⟨fun pins s σ H Q I q => h.run pins s σ H Q I (k σ H Q q)⟩
theorem PW_imp {X : Cx} {e : Expr} {t t' : TT} (h : PW X e t) (k : ∀ σ H Q, t' σ H Q → t σ H Q) : PW X e t' := ⟨fun wh pins s σ H Q I q => h.run wh pins s σ H Q I (k σ H Q q)⟩
theorem PA_imp {X : Cx} {es : List Expr} {t t' : TA} (h : PA X es t) (k : ∀ σ H Q, t' σ H Q → t σ H Q) : PA X es t' := ⟨fun pos pins s σ H Q I q => h.run pos pins s σ H Q I (k σ H Q q)⟩
theorem PO_imp {X : Cx} {e : Option Expr} {t t' : TO} (h : PO X e t) (k : ∀ σ H Q, t' σ H Q → t σ H Q) : PO X e t' := ⟨fun pins s σ H Q I q => h.run pins s σ H Q I (k σ H Q q)⟩

/-! ### the functions -/
def eVar (i : Nat) : EF := fun s => match s[i]? with
  | some (.val d) => some (d, s)
  | _ => none
/-- a list of one's own becomes plain data for good -/
def eFrz (i : Nat) : EF := fun s => match s[i]? with
  | some (.lst xs) => some (.lst xs, s.set i (.val (.lst xs)))
  | some (.val d) => some (d, s)
  | _ => none
def eC (d : D) : EF := fun s => some (d, s)
def e1 (op : D → Option D) (f : EF) : EF := fun s => (f s).bind fun p => (op p.1).map fun z => (z, p.2)
def e2 (op : D → D → Option D) (f g : EF) : EF := fun s => (f s).bind fun p => (g p.2).bind fun q => (op p.1 q.1).map fun z => (z, q.2)
def aNil : AF := fun s => some ([], s)
def aCons (f : EF) (g : AF) : AF := fun s => (f s).bind fun p => (g p.2).map fun q => (p.1 :: q.1, q.2)
def eTup (f : AF) : EF := fun s => (f s).bind fun p => if p.1.length ≤ cap then some (.tup p.1, p.2) else none
def eLst (f : AF) : EF := fun s => (f s).bind fun p => if p.1.length ≤ cap then some (.lst p.1, p.2) else none
def truth : D → Option Bool
  | .non => some false
  | .bl b => some b
  | .int i => some (i != 0)
  | .str x => if x.length ≤ cap then some ((x.length : Int) != 0) else none
  | .tup xs => some (!xs.isEmpty)
  | .lst xs => some (!xs.isEmpty)
  | .ref _ => none
def bTst (f : EF) : BF := fun s => (f s).bind fun p => (truth p.1).map fun z => (z, p.2)
def bAnd (t u : BF) : BF := fun s => (t s).bind fun p => if p.1 = true then u p.2 else some (false, p.2)
def bOr (t u : BF) : BF := fun s => (t s).bind fun p => if p.1 = true then some (true, p.2) else u p.2
def bNot (t : BF) : BF := fun s => (t s).map fun p => (!p.1, p.2)
def eAnd (f g : EF) : EF := fun s => (f s).bind fun p => (truth p.1).bind fun k => if k = true then g p.2 else some p
def eOr (f g : EF) : EF := fun s => (f s).bind fun p => (truth p.1).bind fun k => if k = true then some p else g p.2
def eNot (f : EF) : EF := fun s => (f s).bind fun p => (truth p.1).map fun k => (.bl (!k), p.2)
def eIf (t : BF) (f g : EF) : EF := fun s => (t s).bind fun p => if p.1 = true then f p.2 else g p.2
def dIsN : D → Option D
  | .non => some (.bl true)
  | _ => some (.bl false)
def dNotN : D → Option D
  | .non => some (.bl false)
  | _ => some (.bl true)
/-- a < b < c -/
def eChain (op op' : D → D → Option D) (f g h : EF) : EF := fun s => (f s).bind fun p => (g p.2).bind fun q => (op p.1 q.1).bind fun z => match z with
  | .bl true => (h q.2).bind fun r => (op' q.1 r.1).map fun z' => (z', r.2)
  | .bl false => some (.bl false, q.2)
  | _ => none
def oNo : S → Option (Option Int × S) := fun s => some (none, s)
def oSome (f : EF) : S → Option (Option Int × S) := fun s => (f s).bind fun p => match p.1 with
  | .int i => some (some i, p.2)
  | _ => none
def cutD (xs : List D) (lo hi : Option Int) : List D := (xs.drop (HT.sIx xs.length 0 lo)).take (HT.sIx xs.length xs.length hi - HT.sIx xs.length 0 lo)
def dCut : D → Option Int → Option Int → Option D
  | .tup xs, lo, hi => some (.tup (cutD xs lo hi))
  | .lst xs, lo, hi => some (.lst (cutD xs lo hi))
  | .str x, lo, hi => if x.length ≤ cap then some (.str (cutS x lo hi)) else none
  | _, _, _ => none
def eCut (f : EF) (lo hi : S → Option (Option Int × S)) : EF := fun s => (f s).bind fun p => (lo p.2).bind fun q => (hi q.2).bind fun r => (dCut p.1 q.1 r.1).map fun z => (z, r.2)
/-- a def's function on plain data -/
def eCall (m : List D → Option D) (f : AF) : EF := fun s => (f s).bind fun p => (m p.1).map fun z => (z, p.2)

section
variable {c : Cc} {X : Cx} {a b : Expr} {e : Expr} {es rest : List Expr} {pos : Pos} {b1 b2 b3 : Bool} {f g h : EF} {t u : BF} {fa : AF}
variable {H H1 H2 G G1 G2 : Hp} {s s1 s2 : S} {fp fp1 fp2 : List Addr}
theorem Pure.and {H' G' : Hp} {s' : S} {fp' : List Addr} (p : Pure b1 H G s fp H1 G1 s1 fp1) (q : Pure b2 H1 G1 s1 fp1 H' G' s' fp') : Pure (b1 && b2) H G s fp H' G' s' fp' := fun h => by
  obtain ⟨h1, h2⟩ := Bool.and_eq_true_iff.mp h
  obtain ⟨g1, e1⟩ := p h1
  obtain ⟨g2, e3⟩ := q h2
  exact ⟨g1.trans g2, e3.trans e1⟩
theorem Pure.grow {H' G' : Hp} (p : Pure b1 H G s fp H1 G1 s1 fp1) (g : Grow H1 G1 H' G') : Pure b1 H G s fp H' G' s1 fp1 := fun h => by
  obtain ⟨g1, e1⟩ := p h
  exact ⟨g1.trans g, e1⟩
theorem Pure.here (k : Same G H) : Pure b1 H G s fp H G s fp := fun _ => ⟨Grow.refl k, rfl⟩

theorem ex_var (i : Nat) {x : Str} (hN : X.N[i]? = some x := by rfl) (hv : Vis X.env.scope x := by first | exact Or.inl rfl | exact Or.inr (Or.inl rfl) | exact Or.inr (Or.inr rfl)) (hd : (x == ("__debug__" : Str)) = false := by decide)
    (hcd : (x == ("__classdict__" : Str)) = false := by decide) : PE X (.Name x pos) (tE c true (eVar i)) := PE_imp (pe_var hN hv hd hcd) fun σ H Q ⟨G, s, fp, d, s', k, sl, hf, q⟩ => by
  unfold eVar at hf
  split at hf
  · rename_i d' e
    cases hf
    obtain ⟨v, f1, f2, h1, h2, _⟩ := sl.split e (by simp)
    cases h2 with
    | val r => exact ⟨v, h1, q v H G fp (Ev.refl k) sl r (Pure.here k.sub)⟩
  · exact nomatch hf
theorem ex_frz (i : Nat) {x : Str} (hN : X.N[i]? = some x := by rfl) (hv : Vis X.env.scope x := by first | exact Or.inl rfl | exact Or.inr (Or.inl rfl) | exact Or.inr (Or.inr rfl)) (hd : (x == ("__debug__" : Str)) = false := by decide)
    (hcd : (x == ("__classdict__" : Str)) = false := by decide) : PE X (.Name x pos) (tE c false (eFrz i)) := PE_imp (pe_var hN hv hd hcd) fun σ H Q ⟨G, s, fp, d, s', k, sl, hf, q⟩ => by
  unfold eFrz at hf
  split at hf
  · rename_i xs e
    cases hf
    obtain ⟨v, f1, f2, h1, h2, hp, hk⟩ := sl.split e (by simp)
    cases h2 with
    | @lst p vs _ hv r =>
      have gp : G p = none := k.own p (hp.mem_iff.mpr (by simp))
      have sg : Same G (upd G p (.lst vs)) := same_upd gp
      have rr : Rep c.K (upd G p (.lst vs)) (.ref p) (.lst xs) := .lst (SqL.of upd_same) (r.mono sg)
      obtain ⟨fp', p', sl'⟩ := hk H (upd G p (.lst vs)) (.val (.lst xs)) [] (.val rr) (fun _ _ => rfl) sg
      refine ⟨_, h1, q (.ref p) H (upd G p (.lst vs)) fp' ⟨sg, fun b o hb => ?_, fun x h3 h4 => ?_, fun _ _ z _ => z, fun _ z => z, fun x hx => ?_, ?_⟩ sl' rr (fun z => nomatch z)⟩
      · by_cases hbp : b = p
        · subst hbp; rw [upd_same] at hb; rw [← hb]; exact hv
        · rw [upd_ne hbp] at hb; exact k.sub b o hb
      · by_cases hbp : x = p
        · subst hbp; exact .inr (hp.mem_iff.mpr (by simp))
        · rw [upd_ne hbp] at h4; exact absurd h3 h4
      · have hx2 : x ∈ f2 := by simpa using p'.mem_iff.mp hx
        have hxp : x ≠ p := by
          have nd := List.nodup_append.mp (hp.nodup_iff.mp k.nd)
          exact fun z => nd.2.2 p (by simp) x hx2 z.symm
        exact ⟨by rw [upd_ne hxp]; exact k.own x (hp.mem_iff.mpr (List.mem_append_right _ hx2)), .inl (hp.mem_iff.mpr (List.mem_append_right _ hx2))⟩
      · exact p'.nodup_iff.mpr (by simpa using (List.nodup_append.mp (hp.nodup_iff.mp k.nd)).2.1)
  · rename_i d' e
    cases hf
    obtain ⟨v, f1, f2, h1, h2, _⟩ := sl.split e (by simp)
    cases h2 with
    | val r => exact ⟨v, h1, q v H G fp (Ev.refl k) sl r fun z => nomatch z⟩
  · exact nomatch hf
theorem ex_c {v : V} {d : D} (he : PE X e (tC v)) (hr : ∀ G, Rep c.K G v d) : PE X e (tE c true (eC d)) := PE_imp he fun σ H Q ⟨G, s, fp, d', s', k, sl, hf, q⟩ => by
  cases hf
  exact q v H G fp (Ev.refl k) sl (hr G) (Pure.here k.sub)
theorem ex_int {i j} : PE X (.Constant (.int i) j pos) (tE c true (eC (.int i))) := ex_c pe_int fun _ => .int i
theorem ex_bl {i j} : PE X (.Constant (.bool i) j pos) (tE c true (eC (.bl i))) := ex_c pe_bl fun _ => .bl i
theorem ex_str {i j} : PE X (.Constant (.str i) j pos) (tE c true (eC (.str i))) := ex_c pe_str fun _ => .str i
theorem ex_non {j} : PE X (.Constant .none j pos) (tE c true (eC .non)) := ex_c pe_non fun _ => .non
/-- two after another, by values -/
theorem op2 {r : R2} {op : D → D → Option D} (hr : OpS c r op) {σ : L2.St} {Q : VK} (q : tE c (b1 && b2) (e2 op f g) σ H Q) : tOp r (tE c b1 f) (tE c b2 g) σ H Q := by
  obtain ⟨G, s, fp, d, s', k, sl, hf, q⟩ := q
  unfold e2 at hf
  cases h1 : f s with
  | none => rw [h1] at hf; exact nomatch hf
  | some p =>
    obtain ⟨x, s1⟩ := p
    rw [h1] at hf
    cases h2 : g s1 with
    | none => simp [h2] at hf
    | some p2 =>
      obtain ⟨y, s2⟩ := p2
      simp only [Option.bind_some, h2] at hf
      cases h3 : op x y with
      | none => simp [h3] at hf
      | some z =>
        simp only [h3, Option.map_some, Option.some.injEq, Prod.mk.injEq] at hf
        obtain ⟨rfl, rfl⟩ := hf
        exact ⟨G, s, fp, x, s1, k, sl, h1, fun v H1 G1 fp1 E1 S1 r1 p1 => ⟨G1, s1, fp1, y, s2, E1.ok, S1, h2, fun u H2 G2 fp2 E2 S2 r2 p2 =>
          hr Q E2.sub (r1.mono E2.gs) r2 h3 fun v' H' G' gr r' => q v' H' G' fp2 ((E1.trans E2).grow S2 gr) (S2.step gr) r' ((p1.and p2).grow gr)⟩⟩
theorem op1 {r : V → Hp → VK → Prop} {op : D → Option D} (hr : UnS c r op) {σ : L2.St} {Q : VK} (q : tE c b1 (e1 op f) σ H Q) : tUn r (tE c b1 f) σ H Q := by
  obtain ⟨G, s, fp, d, s', k, sl, hf, q⟩ := q
  unfold e1 at hf
  cases h1 : f s with
  | none => rw [h1] at hf; exact nomatch hf
  | some p =>
    obtain ⟨x, s1⟩ := p
    simp only [h1, Option.bind_some] at hf
    cases h3 : op x with
    | none => simp [h3] at hf
    | some z =>
      simp only [h3, Option.map_some, Option.some.injEq, Prod.mk.injEq] at hf
      obtain ⟨rfl, rfl⟩ := hf
      exact ⟨G, s, fp, x, s1, k, sl, h1, fun v H1 G1 fp1 E1 S1 r1 p1 => hr Q E1.sub r1 h3 fun v' H' G' gr r' => q v' H' G' fp1 (E1.grow S1 gr) (S1.step gr) r' (p1.grow gr)⟩
theorem ex_op {o : Operator} {r : R2} {op : D → D → Option D} (ho : OpR X (binaryOp o) r) (hr : OpS c r op) (ha : PE X a (tE c b1 f)) (hb : PE X b (tE c b2 g)) : PE X (.BinOp a o b pos) (tE c (b1 && b2) (e2 op f g)) :=
  PE_imp (pe_op ho ha hb) fun _ _ _ q => op2 hr q
theorem ex_un {o : UnaryOp} {r : V → Hp → VK → Prop} {op : D → Option D} (ho : UnR X (unaryOp o) r) (hr : UnS c r op) (ha : PE X a (tE c b1 f)) : PE X (.UnaryOp o a pos) (tE c b1 (e1 op f)) :=
  PE_imp (pe_un ho ha) fun _ _ _ q => op1 hr q
theorem ex_cmp {o : CmpOp} {r : R2} {op : D → D → Option D} (ho : OpR X (compareOp o) r) (hr : OpS c r op) (ha : PE X a (tE c b1 f)) (hb : PE X b (tE c b2 g)) (hm : behindInMarks o b = false := by first | exact nomark _ | rfl) : PE X (.Compare a [o] [b] pos) (tE c (b1 && b2) (e2 op f g)) :=
  PE_imp (pe_cmpR ho ha hb hm) fun _ _ _ q => op2 hr q
theorem ex_ix {r : R2} {op : D → D → Option D} (ho : IxR X r) (hr : OpS c r op) (ha : PE X a (tE c b1 f)) (hb : PE X b (tE c b2 g)) (hs : PlainIx b := by exact fun _ _ => rfl) : PE X (.Subscript a b pos) (tE c (b1 && b2) (e2 op f g)) :=
  PE_imp (pe_ix ho ha hb hs) fun _ _ _ q => op2 hr q
theorem rep_isN {K : PySem.W.Frag} {G : Hp} {v : V} {d : D} (r : Rep K G v d) : dIsN d = some (.bl (decide (v = .non))) ∧ dNotN d = some (.bl (!decide (v = .non))) := by
  cases r <;> exact ⟨rfl, rfl⟩
theorem ex_isN {j pos'} (ha : PE X a (tE c b1 f)) : PE X (.Compare a [.Is] [.Constant .none j pos'] pos) (tE c b1 (e1 dIsN f)) :=
  PE_imp (pe_cmp (pc_isN ha)) fun σ H Q q => op1 (c := c) (op := dIsN) (r := fun x H Q => Q (.bl (decide (x = .non))) H) (fun H G x dx dz Q e rx hz q => q _ _ _ (Grow.refl e) (by
    rw [(rep_isN rx).1] at hz; cases hz; exact .bl _)) q
theorem ex_notN {j pos'} (ha : PE X a (tE c b1 f)) : PE X (.Compare a [.IsNot] [.Constant .none j pos'] pos) (tE c b1 (e1 dNotN f)) :=
  PE_imp (pe_cmp (pc_notN ha)) fun σ H Q q => op1 (c := c) (op := dNotN) (r := fun x H Q => Q (.bl (!decide (x = .non))) H) (fun H G x dx dz Q e rx hz q => q _ _ _ (Grow.refl e) (by
    rw [(rep_isN rx).2] at hz; cases hz; exact .bl _)) q
theorem xa_nil : PA X [] (tA c true aNil) := PA_imp pa_nil fun σ H Q ⟨G, s, fp, d, s', k, sl, hf, q⟩ => by
  cases hf
  exact q [] H G fp (Ev.refl k) sl .nil (Pure.here k.sub)
theorem xa_cons (he : PE X e (tE c b1 f)) (hr : PA X es (tA c b2 fa)) (hs : starEach (e :: es) X.env = (false, eval e X.env) :: starEach es X.env := by rfl) : PA X (e :: es) (tA c (b1 && b2) (aCons f fa)) :=
  PA_imp (pa_cons he hr hs) fun σ H Q ⟨G, s, fp, d, s', k, sl, hf, q⟩ => by
    unfold aCons at hf
    cases h1 : f s with
    | none => rw [h1] at hf; exact nomatch hf
    | some p =>
      obtain ⟨x, s1⟩ := p
      simp only [h1, Option.bind_some] at hf
      cases h2 : fa s1 with
      | none => simp [h2] at hf
      | some p2 =>
        obtain ⟨ys, s2⟩ := p2
        simp only [h2, Option.map_some, Option.some.injEq, Prod.mk.injEq] at hf
        obtain ⟨rfl, rfl⟩ := hf
        exact ⟨G, s, fp, x, s1, k, sl, h1, fun v H1 G1 fp1 E1 S1 r1 p1 => ⟨G1, s1, fp1, ys, s2, E1.ok, S1, h2, fun us H2 G2 fp2 E2 S2 r2 p2 =>
          q (v :: us) H2 G2 fp2 (E1.trans E2) S2 (.cons (r1.mono E2.gs) r2) (p1.and p2)⟩⟩
theorem ex_tup {x1} (h : PA X es (tA c b1 fa)) : PE X (.Tuple es x1 pos) (tE c b1 (eTup fa)) := PE_imp (pe_tup h) fun σ H Q ⟨G, s, fp, d, s', k, sl, hf, q⟩ => by
  unfold eTup at hf
  cases h1 : fa s with
  | none => rw [h1] at hf; exact nomatch hf
  | some p =>
    obtain ⟨x, s1⟩ := p
    simp only [h1, Option.bind_some] at hf
    split at hf
    · rename_i hc
      cases hf
      refine ⟨G, s, fp, x, _, k, sl, h1, fun vs H1 G1 fp1 E1 S1 r1 p1 => ⟨by rw [r1.length]; exact Nat.le_trans hc cap_line, fun p hp => ?_⟩⟩
      have gr := Grow.alloc (o := .tup vs) E1.sub hp
      exact q _ _ _ _ (E1.grow S1 gr) (S1.step gr) (.tup (SqT.of upd_same) (r1.mono gr.gs)) (p1.grow gr)
    · exact nomatch hf
theorem ex_lst (h : PA X es (tA c b1 fa)) : PE X (.List es pos) (tE c b1 (eLst fa)) := PE_imp (pe_lst h) fun σ H Q ⟨G, s, fp, d, s', k, sl, hf, q⟩ => by
  unfold eLst at hf
  cases h1 : fa s with
  | none => rw [h1] at hf; exact nomatch hf
  | some p =>
    obtain ⟨x, s1⟩ := p
    simp only [h1, Option.bind_some] at hf
    split at hf
    · rename_i hc
      cases hf
      refine ⟨G, s, fp, x, _, k, sl, h1, fun vs H1 G1 fp1 E1 S1 r1 p1 => ⟨by rw [r1.length]; exact Nat.le_trans hc cap_line, fun p hp => ?_⟩⟩
      have gr := Grow.alloc (o := .lst vs) E1.sub hp
      exact q _ _ _ _ (E1.grow S1 gr) (S1.step gr) (.lst (SqL.of upd_same) (r1.mono gr.gs)) (p1.grow gr)
    · exact nomatch hf

/-! ### truth, tests -/
theorem truth_ok {K : PySem.W.Frag} {G H : Hp} {v : V} {d : D} {k : Bool} (e : Same G H) (r : Rep K G v d) (h : truth d = some k) : TruV K v H k := by
  cases r with
  | non => cases h; rfl
  | bl b => cases h; rfl
  | int i => cases h; rfl
  | str x =>
    simp only [truth] at h
    split at h
    · cases h; exact ⟨Nat.le_trans (by assumption) cap_line, rfl⟩
    · exact nomatch h
  | ref a => exact nomatch h
  | tup t1 r1 =>
    cases h
    refine .inr (.inl ⟨_, Same.sqT e t1, ?_⟩)
    cases r1 <;> rfl
  | lst t1 r1 =>
    cases h
    refine .inl ⟨_, Same.sqL e t1, ?_⟩
    cases r1 <;> rfl
theorem tst_ok {σ : L2.St} {Q : Bool → Hp → Prop} (q : tT c b1 (bTst f) σ H Q) : tE c b1 f σ H fun x H' => ∃ k, TruV c.K x H' k ∧ Q k H' := by
  obtain ⟨G, s, fp, d, s', k, sl, hf, q⟩ := q
  unfold bTst at hf
  cases h1 : f s with
  | none => rw [h1] at hf; exact nomatch hf
  | some p =>
    obtain ⟨x, s1⟩ := p
    simp only [h1, Option.bind_some] at hf
    cases h2 : truth x with
    | none => simp [h2] at hf
    | some z =>
      simp only [h2, Option.map_some, Option.some.injEq, Prod.mk.injEq] at hf
      obtain ⟨rfl, rfl⟩ := hf
      exact ⟨G, s, fp, x, s1, k, sl, h1, fun v H1 G1 fp1 E1 S1 r1 p1 => ⟨z, truth_ok E1.sub r1 h2, q H1 G1 fp1 E1 S1 p1⟩⟩
theorem tstB_ok {σ : L2.St} {Q : Bool → Hp → Prop} (hb : ∀ s x s', f s = some (x, s') → ∃ k, x = .bl k) (q : tT c b1 (bTst f) σ H Q) : tTest (tE c b1 f) σ H Q := by
  obtain ⟨G, s, fp, d, s', k, sl, hf, q⟩ := q
  unfold bTst at hf
  cases h1 : f s with
  | none => rw [h1] at hf; exact nomatch hf
  | some p =>
    obtain ⟨x, s1⟩ := p
    simp only [h1, Option.bind_some] at hf
    obtain ⟨k', rfl⟩ := hb _ _ _ h1
    simp only [truth, Option.map_some, Option.some.injEq, Prod.mk.injEq] at hf
    obtain ⟨rfl, rfl⟩ := hf
    exact ⟨G, s, fp, _, s1, k, sl, h1, fun v H1 G1 fp1 E1 S1 r1 p1 => ⟨k', by cases r1; rfl, q H1 G1 fp1 E1 S1 p1⟩⟩
/-- an expression of any kind as a test -/
theorem xt_val (ha : PE X a (tE c b1 f)) (hK : X.K = c.K := by rfl) (he : ∀ whole, isTrue a X.env whole = (do let v ← whole; standAt a.pos; holding [v] (truthy v)) := by exact fun _ => rfl) : PT X a (tT c b1 (bTst f)) :=
  PT_imp (pt_truth ha he) fun σ H Q q => by rw [hK]; exact tst_ok q
def BoolOp2 (op : D → D → Option D) : Prop := ∀ x y z, op x y = some z → ∃ k, z = .bl k
theorem e2_bool {op : D → D → Option D} (h : BoolOp2 op) : ∀ s x s', e2 op f g s = some (x, s') → ∃ k, x = .bl k := fun s x s' e => by
  unfold e2 at e
  cases h1 : f s with
  | none => rw [h1] at e; exact nomatch e
  | some p =>
    simp only [h1, Option.bind_some] at e
    cases h2 : g p.2 with
    | none => rw [h2] at e; exact nomatch e
    | some q =>
      simp only [h2, Option.bind_some] at e
      cases h3 : op p.1 q.1 with
      | none => rw [h3] at e; exact nomatch e
      | some z =>
        simp only [h3, Option.map_some, Option.some.injEq, Prod.mk.injEq] at e
        obtain ⟨rfl, _⟩ := e
        exact h _ _ _ h3
theorem bo_lt : BoolOp2 dLt := fun x y z h => by cases x <;> cases y <;> simp [dLt] at h; exact ⟨_, h.symm⟩
theorem bo_le : BoolOp2 dLe := fun x y z h => by cases x <;> cases y <;> simp [dLe] at h; exact ⟨_, h.symm⟩
theorem bo_gt : BoolOp2 dGt := fun x y z h => by cases x <;> cases y <;> simp [dGt] at h; exact ⟨_, h.symm⟩
theorem bo_ge : BoolOp2 dGe := fun x y z h => by cases x <;> cases y <;> simp [dGe] at h; exact ⟨_, h.symm⟩
theorem bo_eq : BoolOp2 dEq := fun x y z h => by
  unfold dEq at h
  split at h
  · cases h; exact ⟨_, rfl⟩
  · exact nomatch h
theorem bo_ne : BoolOp2 dNe := fun x y z h => by
  unfold dNe at h
  split at h
  · cases h; exact ⟨_, rfl⟩
  · exact nomatch h
theorem xt_cmp {o : CmpOp} {r : R2} {op : D → D → Option D} (ho : OpR X (compareOp o) r) (hr : OpS c r op) (hb2 : BoolOp2 op) (ha : PE X a (tE c b1 f)) (hb : PE X b (tE c b2 g)) (hm : behindInMarks o b = false := by first | exact nomark _ | rfl) :
    PT X (.Compare a [o] [b] pos) (tT c (b1 && b2) (bTst (e2 op f g))) := PT_imp (pt_cmpR ho ha hb hm) fun σ H Q q => by
  obtain ⟨G, s, fp, d, s', k, sl, hf, q⟩ := tstB_ok (e2_bool hb2) q
  exact op2 hr ⟨G, s, fp, d, s', k, sl, hf, q⟩
theorem e1_isN (op : D → Option D) (h : ∀ x z, op x = some z → ∃ k, z = .bl k) : ∀ s x s', e1 op f s = some (x, s') → ∃ k, x = .bl k := fun s x s' e => by
  unfold e1 at e
  cases h1 : f s with
  | none => rw [h1] at e; exact nomatch e
  | some p =>
    simp only [h1, Option.bind_some] at e
    cases h3 : op p.1 with
    | none => rw [h3] at e; exact nomatch e
    | some z =>
      simp only [h3, Option.map_some, Option.some.injEq, Prod.mk.injEq] at e
      obtain ⟨rfl, _⟩ := e
      exact h _ _ h3
theorem xt_isN {j pos'} (ha : PE X a (tE c b1 f)) : PT X (.Compare a [.Is] [.Constant .none j pos'] pos) (tT c b1 (bTst (e1 dIsN f))) :=
  PT_imp (pt_cmp (pc_isN ha)) fun σ H Q q => op1 (c := c) (op := dIsN) (r := fun x H Q => Q (.bl (decide (x = .non))) H) (fun H G x dx dz Q e rx hz q => q _ _ _ (Grow.refl e) (by
    rw [(rep_isN rx).1] at hz; cases hz; exact .bl _)) (tstB_ok (e1_isN dIsN fun x z h => by cases x <;> cases h <;> exact ⟨_, rfl⟩) q)
theorem xt_notN {j pos'} (ha : PE X a (tE c b1 f)) : PT X (.Compare a [.IsNot] [.Constant .none j pos'] pos) (tT c b1 (bTst (e1 dNotN f))) :=
  PT_imp (pt_cmp (pc_notN ha)) fun σ H Q q => op1 (c := c) (op := dNotN) (r := fun x H Q => Q (.bl (!decide (x = .non))) H) (fun H G x dx dz Q e rx hz q => q _ _ _ (Grow.refl e) (by
    rw [(rep_isN rx).2] at hz; cases hz; exact .bl _)) (tstB_ok (e1_isN dNotN fun x z h => by cases x <;> cases h <;> exact ⟨_, rfl⟩) q)
theorem xt_not (ha : PT X a (tT c b1 t)) : PT X (.UnaryOp .Not a pos) (tT c b1 (bNot t)) := PT_imp (pt_not ha) fun σ H Q ⟨G, s, fp, d, s', k, sl, hf, q⟩ => by
  unfold bNot at hf
  cases h1 : t s with
  | none => rw [h1] at hf; exact nomatch hf
  | some p =>
    obtain ⟨x, s1⟩ := p
    simp only [h1, Option.map_some, Option.some.injEq, Prod.mk.injEq] at hf
    obtain ⟨rfl, rfl⟩ := hf
    exact ⟨G, s, fp, x, s1, k, sl, h1, q⟩
theorem and_ok {σ : L2.St} {Q : Bool → Hp → Prop} (q : tT c (b1 && b2) (bAnd t u) σ H Q) : tAnd (tT c b1 t) (tT c b2 u) σ H Q := by
  obtain ⟨G, s, fp, d, s', k, sl, hf, q⟩ := q
  unfold bAnd at hf
  cases h1 : t s with
  | none => rw [h1] at hf; exact nomatch hf
  | some p =>
    obtain ⟨x, s1⟩ := p
    simp only [h1, Option.bind_some] at hf
    cases x with
    | true =>
      rw [if_pos rfl] at hf
      refine ⟨G, s, fp, _, _, k, sl, h1, fun H1 G1 fp1 E1 S1 p1 => ?_⟩
      show if true = true then _ else _
      rw [if_pos rfl]
      exact ⟨G1, s1, fp1, d, s', E1.ok, S1, hf, fun H2 G2 fp2 E2 S2 p2 => q H2 G2 fp2 (E1.trans E2) S2 (p1.and p2)⟩
    | false =>
      rw [if_neg Bool.false_ne_true] at hf
      cases hf
      refine ⟨G, s, fp, _, _, k, sl, h1, fun H1 G1 fp1 E1 S1 p1 => ?_⟩
      show if false = true then _ else _
      rw [if_neg Bool.false_ne_true]
      exact q H1 G1 fp1 E1 S1 fun hb => p1 (Bool.and_eq_true_iff.mp hb).1
theorem or_ok {σ : L2.St} {Q : Bool → Hp → Prop} (q : tT c (b1 && b2) (bOr t u) σ H Q) : tOr (tT c b1 t) (tT c b2 u) σ H Q := by
  obtain ⟨G, s, fp, d, s', k, sl, hf, q⟩ := q
  unfold bOr at hf
  cases h1 : t s with
  | none => rw [h1] at hf; exact nomatch hf
  | some p =>
    obtain ⟨x, s1⟩ := p
    simp only [h1, Option.bind_some] at hf
    cases x with
    | false =>
      rw [if_neg Bool.false_ne_true] at hf
      refine ⟨G, s, fp, _, _, k, sl, h1, fun H1 G1 fp1 E1 S1 p1 => ?_⟩
      show if false = true then _ else _
      rw [if_neg Bool.false_ne_true]
      exact ⟨G1, s1, fp1, d, s', E1.ok, S1, hf, fun H2 G2 fp2 E2 S2 p2 => q H2 G2 fp2 (E1.trans E2) S2 (p1.and p2)⟩
    | true =>
      rw [if_pos rfl] at hf
      cases hf
      refine ⟨G, s, fp, _, _, k, sl, h1, fun H1 G1 fp1 E1 S1 p1 => ?_⟩
      show if true = true then _ else _
      rw [if_pos rfl]
      exact q H1 G1 fp1 E1 S1 fun hb => p1 (Bool.and_eq_true_iff.mp hb).1
theorem xw_and1 (ha : PT X a (tT c b1 t)) : PW X (.BoolOp .And [a] pos) (tT c b1 t) := pw_and1 ha
theorem xw_or1 (ha : PT X a (tT c b1 t)) : PW X (.BoolOp .Or [a] pos) (tT c b1 t) := pw_or1 ha
theorem xw_and (ha : PT X a (tT c b1 t)) (hb : PW X (.BoolOp .And (b :: rest) pos) (tT c b2 u)) : PW X (.BoolOp .And (a :: b :: rest) pos) (tT c (b1 && b2) (bAnd t u)) := PW_imp (pw_and ha hb) fun _ _ _ q => and_ok q
theorem xw_or (ha : PT X a (tT c b1 t)) (hb : PW X (.BoolOp .Or (b :: rest) pos) (tT c b2 u)) : PW X (.BoolOp .Or (a :: b :: rest) pos) (tT c (b1 && b2) (bOr t u)) := PW_imp (pw_or ha hb) fun _ _ _ q => or_ok q

/-! ### and, or, not, if as values -/
theorem ex_one {op} (h : PE X a (tE c b1 f)) : PE X (.BoolOp op [a] pos) (tE c b1 f) := pe_one h
theorem ex_and (ha : PE X a (tE c b1 f)) (hb : PE X (.BoolOp .And (b :: rest) pos) (tE c b2 g)) (hK : X.K = c.K := by rfl) : PE X (.BoolOp .And (a :: b :: rest) pos) (tE c (b1 && b2) (eAnd f g)) :=
  PE_imp (pe_andT ha hb) fun σ H Q ⟨G, s, fp, d, s', k, sl, hf, q⟩ => by
    rw [hK]
    unfold eAnd at hf
    cases h1 : f s with
    | none => rw [h1] at hf; exact nomatch hf
    | some p =>
      obtain ⟨x, s1⟩ := p
      simp only [h1, Option.bind_some] at hf
      cases h2 : truth x with
      | none => simp [h2] at hf
      | some z =>
        simp only [h2, Option.bind_some] at hf
        refine ⟨G, s, fp, x, s1, k, sl, h1, fun v H1 G1 fp1 E1 S1 r1 p1 => ⟨z, truth_ok E1.sub r1 h2, ?_⟩⟩
        cases z with
        | true =>
          rw [if_pos rfl] at hf ⊢
          exact ⟨G1, s1, fp1, d, s', E1.ok, S1, hf, fun u H2 G2 fp2 E2 S2 r2 p2 => q u H2 G2 fp2 (E1.trans E2) S2 r2 (p1.and p2)⟩
        | false =>
          rw [if_neg Bool.false_ne_true] at hf ⊢
          cases hf
          exact q v H1 G1 fp1 E1 S1 r1 fun hb => p1 (Bool.and_eq_true_iff.mp hb).1
theorem ex_or (ha : PE X a (tE c b1 f)) (hb : PE X (.BoolOp .Or (b :: rest) pos) (tE c b2 g)) (hK : X.K = c.K := by rfl) : PE X (.BoolOp .Or (a :: b :: rest) pos) (tE c (b1 && b2) (eOr f g)) :=
  PE_imp (pe_orT ha hb) fun σ H Q ⟨G, s, fp, d, s', k, sl, hf, q⟩ => by
    rw [hK]
    unfold eOr at hf
    cases h1 : f s with
    | none => rw [h1] at hf; exact nomatch hf
    | some p =>
      obtain ⟨x, s1⟩ := p
      simp only [h1, Option.bind_some] at hf
      cases h2 : truth x with
      | none => simp [h2] at hf
      | some z =>
        simp only [h2, Option.bind_some] at hf
        refine ⟨G, s, fp, x, s1, k, sl, h1, fun v H1 G1 fp1 E1 S1 r1 p1 => ⟨z, truth_ok E1.sub r1 h2, ?_⟩⟩
        cases z with
        | false =>
          rw [if_neg Bool.false_ne_true] at hf ⊢
          exact ⟨G1, s1, fp1, d, s', E1.ok, S1, hf, fun u H2 G2 fp2 E2 S2 r2 p2 => q u H2 G2 fp2 (E1.trans E2) S2 r2 (p1.and p2)⟩
        | true =>
          rw [if_pos rfl] at hf ⊢
          cases hf
          exact q v H1 G1 fp1 E1 S1 r1 fun hb => p1 (Bool.and_eq_true_iff.mp hb).1
theorem ex_not (ha : PE X a (tE c b1 f)) (hK : X.K = c.K := by rfl) : PE X (.UnaryOp .Not a pos) (tE c b1 (eNot f)) := PE_imp (pe_notT ha) fun σ H Q ⟨G, s, fp, d, s', k, sl, hf, q⟩ => by
  rw [hK]
  unfold eNot at hf
  cases h1 : f s with
  | none => rw [h1] at hf; exact nomatch hf
  | some p =>
    obtain ⟨x, s1⟩ := p
    simp only [h1, Option.bind_some] at hf
    cases h2 : truth x with
    | none => simp [h2] at hf
    | some z =>
      simp only [h2, Option.map_some, Option.some.injEq, Prod.mk.injEq] at hf
      obtain ⟨rfl, rfl⟩ := hf
      exact ⟨G, s, fp, x, s1, k, sl, h1, fun v H1 G1 fp1 E1 S1 r1 p1 => ⟨z, truth_ok E1.sub r1 h2, q _ H1 G1 fp1 E1 S1 (.bl _) p1⟩⟩
theorem ex_if {cd : Expr} (hc : PT X cd (tT c b1 t)) (ha : PE X a (tE c b2 f)) (hb : PE X b (tE c b3 g)) : PE X (.IfExp cd a b pos) (tE c (b1 && (b2 && b3)) (eIf t f g)) := PE_imp (pe_ifExp hc ha hb) fun σ H Q ⟨G, s, fp, d, s', k, sl, hf, q⟩ => by
  unfold eIf at hf
  cases h1 : t s with
  | none => rw [h1] at hf; exact nomatch hf
  | some p =>
    obtain ⟨x, s1⟩ := p
    simp only [h1, Option.bind_some] at hf
    refine ⟨G, s, fp, _, s1, k, sl, h1, fun H1 G1 fp1 E1 S1 p1 => ?_⟩
    cases x with
    | true =>
      rw [if_pos rfl] at hf ⊢
      refine ⟨G1, s1, fp1, d, s', E1.ok, S1, hf, fun u H2 G2 fp2 E2 S2 r2 p2 => q u H2 G2 fp2 (E1.trans E2) S2 r2 fun hb => (p1.and p2) ?_⟩
      simp only [Bool.and_eq_true] at hb ⊢
      exact ⟨hb.1, hb.2.1⟩
    | false =>
      rw [if_neg Bool.false_ne_true] at hf ⊢
      refine ⟨G1, s1, fp1, d, s', E1.ok, S1, hf, fun u H2 G2 fp2 E2 S2 r2 p2 => q u H2 G2 fp2 (E1.trans E2) S2 r2 fun hb => (p1.and p2) ?_⟩
      simp only [Bool.and_eq_true] at hb ⊢
      exact ⟨hb.1, hb.2.2⟩

/-! ### chains of two comparisons -/
theorem chain_ok {r r' : R2} {op op' : D → D → Option D} (hr : OpS c r op) (hr' : OpS c r' op') (hb : BoolOp2 op) {σ : L2.St} {Q : VK} (q : tE c (b1 && (b2 && b3)) (eChain op op' f g h) σ H Q) : tChain r r' (tE c b1 f) (tE c b2 g) (tE c b3 h) σ H Q := by
  obtain ⟨G, s, fp, d, s', k, sl, hf, q⟩ := q
  unfold eChain at hf
  cases h1 : f s with
  | none => rw [h1] at hf; exact nomatch hf
  | some p =>
    obtain ⟨x, s1⟩ := p
    simp only [h1, Option.bind_some] at hf
    cases h2 : g s1 with
    | none => simp [h2] at hf
    | some p2 =>
      obtain ⟨y, s2⟩ := p2
      simp only [h2, Option.bind_some] at hf
      cases h3 : op x y with
      | none => simp [h3] at hf
      | some z =>
        simp only [h3, Option.bind_some] at hf
        obtain ⟨kk, rfl⟩ := hb _ _ _ h3
        refine ⟨G, s, fp, x, s1, k, sl, h1, fun v H1 G1 fp1 E1 S1 r1 p1 => ⟨G1, s1, fp1, y, s2, E1.ok, S1, h2, fun u H2 G2 fp2 E2 S2 r2 p2 =>
          hr _ E2.sub (r1.mono E2.gs) r2 h3 fun v' H3 G3 gr rr => ?_⟩⟩
        cases rr
        refine ⟨kk, rfl, ?_⟩
        have E3 := (E1.trans E2).grow S2 gr
        have S3 := S2.step gr
        have p3 := (p1.and p2).grow gr
        cases kk with
        | false =>
          rw [if_neg Bool.false_ne_true]
          cases hf
          exact q _ H3 G3 fp2 E3 S3 (.bl _) fun hb => p3 (by
            simp only [Bool.and_eq_true] at hb ⊢
            exact ⟨hb.1, hb.2.1⟩)
        | true =>
          rw [if_pos rfl]
          simp only at hf
          cases h4 : h s2 with
          | none => simp [h4] at hf
          | some p4 =>
            obtain ⟨w, s3⟩ := p4
            simp only [h4, Option.bind_some] at hf
            cases h5 : op' y w with
            | none => simp [h5] at hf
            | some z' =>
              simp only [h5, Option.map_some, Option.some.injEq, Prod.mk.injEq] at hf
              obtain ⟨rfl, rfl⟩ := hf
              refine ⟨G3, s2, fp2, w, s3, E3.ok, S3, h4, fun w' H4 G4 fp4 E4 S4 r4 p4 => hr' Q E4.sub ((r2.mono gr.gs).mono E4.gs) r4 h5 fun v5 H5 G5 gr5 r5 => ?_⟩
              exact q v5 H5 G5 fp4 ((E3.trans E4).grow S4 gr5) (S4.step gr5) r5 (((p3.and p4).grow gr5) ∘ fun hb => by
                simp only [Bool.and_eq_true] at hb ⊢
                exact ⟨⟨hb.1, hb.2.1⟩, hb.2.2⟩)
theorem eChain_bool {op op' : D → D → Option D} (hb : BoolOp2 op) (hb' : BoolOp2 op') : ∀ s x s', eChain op op' f g h s = some (x, s') → ∃ k, x = .bl k := fun s x s' e => by
  unfold eChain at e
  cases h1 : f s with
  | none => rw [h1] at e; exact nomatch e
  | some p =>
    simp only [h1, Option.bind_some] at e
    cases h2 : g p.2 with
    | none => rw [h2] at e; exact nomatch e
    | some q =>
      simp only [h2, Option.bind_some] at e
      cases h3 : op p.1 q.1 with
      | none => rw [h3] at e; exact nomatch e
      | some z =>
        simp only [h3, Option.bind_some] at e
        obtain ⟨kk, rfl⟩ := hb _ _ _ h3
        cases kk with
        | false => cases e; exact ⟨_, rfl⟩
        | true =>
          simp only at e
          cases h4 : h q.2 with
          | none => rw [h4] at e; exact nomatch e
          | some r =>
            simp only [h4, Option.bind_some] at e
            cases h5 : op' q.1 r.1 with
            | none => rw [h5] at e; exact nomatch e
            | some z' =>
              simp only [h5, Option.map_some, Option.some.injEq, Prod.mk.injEq] at e
              obtain ⟨rfl, _⟩ := e
              exact hb' _ _ _ h5
theorem ex_chain {cc : Expr} {o o' : CmpOp} {r r' : R2} {op op' : D → D → Option D} (ho : OpR X (compareOp o) r) (ho' : OpR X (compareOp o') r') (hr : OpS c r op) (hr' : OpS c r' op') (hb2 : BoolOp2 op) (ha : PE X a (tE c b1 f)) (hb : PE X b (tE c b2 g)) (hc : PE X cc (tE c b3 h))
    (hm : lastMarks [o, o'] [b, cc] = false := by with_unfolding_all rfl) : PE X (.Compare a [o, o'] [b, cc] pos) (tE c (b1 && (b2 && b3)) (eChain op op' f g h)) := PE_imp (pe_chain ho ho' ha hb hc hm) fun _ _ _ q => chain_ok hr hr' hb2 q
theorem xt_chain {cc : Expr} {o o' : CmpOp} {r r' : R2} {op op' : D → D → Option D} (ho : OpR X (compareOp o) r) (ho' : OpR X (compareOp o') r') (hr : OpS c r op) (hr' : OpS c r' op') (hb2 : BoolOp2 op) (hb2' : BoolOp2 op') (ha : PE X a (tE c b1 f)) (hb : PE X b (tE c b2 g)) (hc : PE X cc (tE c b3 h))
    (hm : lastMarks [o, o'] [b, cc] = false := by with_unfolding_all rfl) : PT X (.Compare a [o, o'] [b, cc] pos) (tT c (b1 && (b2 && b3)) (bTst (eChain op op' f g h))) := PT_imp (pt_chain ho ho' ha hb hc hm) fun σ H Q q => by
  obtain ⟨G, s, fp, d, s', k, sl, hf, q⟩ := tstB_ok (eChain_bool hb2 hb2') q
  exact chain_ok hr hr' hb2 ⟨G, s, fp, d, s', k, sl, hf, q⟩

/-! ### slices -/
theorem xo_no : PO X none (tOp' c true oNo) := PO_imp po_none fun σ H Q ⟨G, s, fp, d, s', k, sl, hf, q⟩ => by
  cases hf
  exact q H G fp (Ev.refl k) sl (Pure.here k.sub)
theorem xo_some (ha : PE X a (tE c b1 f)) : PO X (some a) (tOp' c b1 (oSome f)) := PO_imp (po_some ha) fun σ H Q ⟨G, s, fp, d, s', k, sl, hf, q⟩ => by
  unfold oSome at hf
  cases h1 : f s with
  | none => rw [h1] at hf; exact nomatch hf
  | some p =>
    obtain ⟨x, s1⟩ := p
    simp only [h1, Option.bind_some] at hf
    cases x with
    | int i =>
      cases hf
      exact ⟨G, s, fp, _, _, k, sl, h1, fun v H1 G1 fp1 E1 S1 r1 p1 => ⟨i, r1.ints, q H1 G1 fp1 E1 S1 p1⟩⟩
    | _ => exact nomatch hf
theorem Reps.cut {K : PySem.W.Frag} {G : Hp} {vs : List V} {xs : List D} (r : Reps K G vs xs) (lo hi : Option Int) : Reps K G (cutV vs lo hi) (cutD xs lo hi) := by
  unfold cutV cutD
  rw [r.length]
  exact (r.drop _).take _
def rCut (K : PySem.W.Frag) : V → Option Int → Option Int → Hp → VK → Prop := fun x lo hi H Q => rSlA K x lo hi H Q ∨ rSlL K x lo hi H Q ∨ rSlS x lo hi H Q
theorem sl_cut : SlR X (rCut X.K) := sl_tupA.or (sl_list.or sl_str)
theorem cut_ok {v : V} {d z : D} {lo hi : Option Int} {Q : VK} (e : Same G H) (r : Rep c.K G v d) (hz : dCut d lo hi = some z) (q : ∀ v' H' G', Grow H G H' G' → Rep c.K G' v' z → Q v' H') : rCut c.K v lo hi H Q := by
  cases r with
  | str x =>
    simp only [dCut] at hz
    split at hz
    · cases hz
      exact .inr (.inr ⟨_, rfl, Nat.le_trans (by assumption) cap_line, q _ _ _ (Grow.refl e) (.str _)⟩)
    · exact nomatch hz
  | @tup a vs xs t1 r1 =>
    cases hz
    refine .inl ⟨_, _, rfl, Same.sqT e t1, fun hw => ?_, fun hw p hp => ?_⟩
    · refine q _ _ _ (Grow.refl e) ?_
      have l := r1.length
      rw [l] at hw
      have e2 : cutD xs lo hi = xs := by
        unfold cutD
        rw [hw.1, hw.2, List.drop_zero, Nat.sub_zero]
        exact List.take_length
      rw [e2]
      exact .tup t1 r1
    · exact q _ _ _ (Grow.alloc e hp) (.tup (SqT.of upd_same) ((r1.cut lo hi).mono (same_upd (e.free hp))))
  | lst t1 r1 =>
    cases hz
    exact .inr (.inl ⟨_, _, rfl, Same.sqL e t1, fun p hp => q _ _ _ (Grow.alloc e hp) (.lst (SqL.of upd_same) ((r1.cut lo hi).mono (same_upd (e.free hp))))⟩)
  | _ => exact nomatch hz
theorem ex_cut {lo hi : Option Expr} {p2 : Pos} {fl fh : S → Option (Option Int × S)} (he : PE X a (tE c b1 f)) (hl : PO X lo (tOp' c b2 fl)) (hu : PO X hi (tOp' c b3 fh)) (hK : X.K = c.K := by rfl) : PE X (.Subscript a (.Slice lo hi none p2) pos) (tE c (b1 && (b2 && b3)) (eCut f fl fh)) :=
  PE_imp (pe_slice sl_cut he hl hu) fun σ H Q ⟨G, s, fp, d, s', k, sl, hf, q⟩ => by
    rw [hK]
    unfold eCut at hf
    cases h1 : f s with
    | none => rw [h1] at hf; exact nomatch hf
    | some p =>
      obtain ⟨x, s1⟩ := p
      simp only [h1, Option.bind_some] at hf
      cases h2 : fl s1 with
      | none => simp [h2] at hf
      | some p2 =>
        obtain ⟨y, s2⟩ := p2
        simp only [h2, Option.bind_some] at hf
        cases h3 : fh s2 with
        | none => simp [h3] at hf
        | some p3 =>
          obtain ⟨w, s3⟩ := p3
          simp only [h3, Option.bind_some] at hf
          cases h4 : dCut x y w with
          | none => simp [h4] at hf
          | some z =>
            simp only [h4, Option.map_some, Option.some.injEq, Prod.mk.injEq] at hf
            obtain ⟨rfl, rfl⟩ := hf
            refine ⟨G, s, fp, x, s1, k, sl, h1, fun v H1 G1 fp1 E1 S1 r1 p1 => ⟨G1, s1, fp1, y, s2, E1.ok, S1, h2, fun H2 G2 fp2 E2 S2 p2 => ⟨G2, s2, fp2, w, s3, E2.ok, S2, h3, fun H3 G3 fp3 E3 S3 p3 =>
              cut_ok E3.sub ((r1.mono E2.gs).mono E3.gs) h4 fun v' H' G' gr r' => q v' H' G' fp3 (((E1.trans E2).trans E3).grow S3 gr) (S3.step gr) r' (((p1.and (p2.and p3)).grow gr))⟩⟩⟩
end
end DL
/-! DL 4: statements, targets, loops, defs. -/
namespace DL
open PySem PySem.Spec PyProof.Rows L2

/-- what a def hands back: plain data, a new list that is nobody else's -/
inductive Rt where
  | d (x : D) | n (xs : List D) | k (xs : List (Key × D))
inductive Fl where
  | next (s : S) | ret (r : Rt) (s : S) | brk (s : S) | cont (s : S)
abbrev SF := S → Option Fl
abbrev GF := D → S → Option S
def PinEq (pins : List Nat) (σ σ' : L2.St) : Prop := σ'.length = σ.length ∧ ∀ i ∈ pins, σ'[i]? = σ[i]?
section
variable (c : Cc) (pins : List Nat)
def PostS (D : Ends) (H G : Hp) (fp : List Addr) (σ : L2.St) : Fl → Prop
  | .next s' => ∀ σ' H' G' fp', Ev H G fp H' G' fp' → Slots c H' G' σ' s' fp' → PinEq pins σ σ' → D.nx σ' H'
  | .ret (.d d) s' => ∀ v σ' H' G' fp', Ev H G fp H' G' fp' → Slots c H' G' σ' s' fp' → PinEq pins σ σ' → Rep c.K G' v d → D.rt v H'
  | .ret (.n xs) s' => ∀ p vs σ' H' G' fp', Ev H G fp H' G' (p :: fp') → Slots c H' G' σ' s' fp' → PinEq pins σ σ' → H' p = some (.lst vs) → Reps c.K G' vs xs → D.rt (.ref p) H'
  | .ret (.k xs) s' => ∀ p kvs σ' H' G' fp', Ev H G fp H' G' (p :: fp') → Slots c H' G' σ' s' fp' → PinEq pins σ σ' → H' p = some (.dK kvs) → RepK c.K G' kvs xs → D.rt (.ref p) H'
  | .brk s' => ∀ σ' H' G' fp', Ev H G fp H' G' fp' → Slots c H' G' σ' s' fp' → PinEq pins σ σ' → D.bk σ' H'
  | .cont s' => ∀ σ' H' G' fp', Ev H G fp H' G' fp' → Slots c H' G' σ' s' fp' → PinEq pins σ σ' → D.ct σ' H'
def tS (f : SF) : TS := fun D σ H => ∃ G s fp fl, Ok H G fp ∧ Slots c H G σ s fp ∧ f s = some fl ∧ PostS c pins D H G fp σ fl
def tG (bg : Bool) (g : GF) : TG := fun v σ H Q => ∃ G s fp d s', Ok H G fp ∧ Slots c H G σ s fp ∧ Rep c.K G v d ∧ g d s = some s' ∧
  ∀ σ' H' G' fp', Ev H G fp H' G' fp' → Slots c H' G' σ' s' fp' → PinEq pins σ σ' → (bg = true → Grow H G H' G') → Q σ' H'
def tGs (bg : Bool) (g : List D → S → Option S) : TGs := fun vs σ H Q => ∃ G s fp ds s', Ok H G fp ∧ Slots c H G σ s fp ∧ Reps c.K G vs ds ∧ g ds s = some s' ∧
  ∀ σ' H' G' fp', Ev H G fp H' G' fp' → Slots c H' G' σ' s' fp' → PinEq pins σ σ' → (bg = true → Grow H G H' G') → Q σ' H'
/-- a new list, nobody else's -/
def tN (f : AF) : TE := fun σ H Q => ∃ G s fp xs s', Ok H G fp ∧ Slots c H G σ s fp ∧ f s = some (xs, s') ∧
  ∀ p vs H' G' fp', Ev H G fp H' G' (p :: fp') → Slots c H' G' σ s' fp' → H' p = some (.lst vs) → Reps c.K G' vs xs → Q (.ref p) H'
end
theorem PS_imp {X : Cx} {e : Stmt} {t t' : TS} (h : PS X e t) (k : ∀ D σ H, t' D σ H → t D σ H) : PS X e t' := ⟨fun pins s σ H Q I q => h.run pins s σ H Q I (k Q σ H q)⟩
theorem PSs_imp {X : Cx} {e : List Stmt} {t t' : TS} (h : PSs X e t) (k : ∀ D σ H, t' D σ H → t D σ H) : PSs X e t' := ⟨fun pins s σ H Q I q => h.run pins s σ H Q I (k Q σ H q)⟩
theorem PG_imp {X : Cx} {e : Expr} {t t' : TG} (h : PG X e t) (k : ∀ v σ H Q, t' v σ H Q → t v σ H Q) : PG X e t' := ⟨fun pins s σ H v u Q I r q => h.run pins s σ H v u Q I r (k v σ H Q q)⟩
theorem PGs_imp {X : Cx} {e : List Expr} {t t' : TGs} (h : PGs X e t) (k : ∀ v σ H Q, t' v σ H Q → t v σ H Q) : PGs X e t' := ⟨fun pins s σ H v u Q I r q => h.run pins s σ H v u Q I r (k v σ H Q q)⟩

/-! ### the functions -/
def sNext : SF := fun s => some (.next s)
def sSeq (f g : SF) : SF := fun s => (f s).bind fun fl => match fl with
  | .next s' => g s'
  | fl => some fl
def sIf (t : BF) (f g : SF) : SF := fun s => (t s).bind fun p => if p.1 = true then f p.2 else g p.2
def sRet (f : EF) : SF := fun s => (f s).map fun p => .ret (.d p.1) p.2
def sRetN : SF := fun s => some (.ret (.d .non) s)
def sRetNew (f : AF) : SF := fun s => (f s).map fun p => .ret (.n p.1) p.2
def sBrk : SF := fun s => some (.brk s)
def sCont : SF := fun s => some (.cont s)
def sNever : SF := fun _ => none
def sDrop (f : EF) : SF := fun s => (f s).map fun p => .next p.2
def sAsg (f : EF) (g : GF) : SF := fun s => (f s).bind fun p => (g p.1 p.2).map .next
def gN (i : Nat) : GF := fun d s => if i < s.length then some (s.set i (.val d)) else none
def gTup (g : List D → S → Option S) : GF := fun d s => match d with
  | .tup xs => g xs s
  | _ => none
def gsNil : List D → S → Option S := fun ds s => match ds with
  | [] => some s
  | _ => none
def gsCons (g : GF) (r : List D → S → Option S) : List D → S → Option S := fun ds s => match ds with
  | d :: ds => (g d s).bind (r ds)
  | [] => none
/-- a[i] = d, a a list of one's own in slot k -/
def gIx (k : Nat) (fi : EF) : GF := fun d s => match s[k]? with
  | some (.lst _) => (fi s).bind fun p => match p.1, p.2[k]? with
    | .int i, some (.lst xs) => (ixN xs.length i).map fun j => p.2.set k (.lst (xs.set j d))
    | _, _ => none
  | _ => none
def sPar (i j : Nat) (fa : AF) : SF := fun s => (fa s).bind fun p => match p.1 with
  | [v, w] => if i < p.2.length ∧ j < p.2.length then some (.next ((p.2.set i (.val v)).set j (.val w))) else none
  | _ => none
/-- x = a new list of one's own -/
def sNew (i : Nat) (f : AF) : SF := fun s => (f s).bind fun p => if i < p.2.length then some (.next (p.2.set i (.lst p.1))) else none
def nLst (fa : AF) : AF := fun s => (fa s).bind fun p => if p.1.length ≤ cap then some p else none
def sApp (i : Nat) (f : EF) : SF := fun s => match s[i]? with
  | some (.lst _) => (f s).bind fun p => match p.2[i]? with
    | some (.lst xs) => if xs.length < cap then some (.next (p.2.set i (.lst (xs ++ [p.1])))) else none
    | _ => none
  | _ => none
def forD (g : GF) (fb : SF) : List D → SF
  | [], s => some (.next s)
  | x :: xs, s => (g x s).bind fun s1 => (fb s1).bind fun fl => match fl with
    | .next s2 => forD g fb xs s2
    | .cont s2 => forD g fb xs s2
    | .brk s2 => some (.next s2)
    | .ret d s2 => some (.ret d s2)
def sFor (fi : AF) (g : GF) (fb : SF) : SF := fun s => (fi s).bind fun p => forD g fb p.1 p.2
def whileF (t : BF) (fb : SF) : Nat → SF
  | 0, _ => none
  | n + 1, s => (t s).bind fun p => if p.1 = true then (fb p.2).bind fun fl => match fl with
      | .next s2 => whileF t fb n s2
      | .cont s2 => whileF t fb n s2
      | .brk s2 => some (.next s2)
      | .ret d s2 => some (.ret d s2)
    else some (.next p.2)
open Classical in
noncomputable def sWhile (t : BF) (fb : SF) : SF := fun s => if h : ∃ fl n, whileF t fb n s = some fl then some (Classical.choose h) else none
theorem whileF_up (t : BF) (fb : SF) : ∀ (n : Nat) (s : S) (fl : Fl) (m : Nat), n ≤ m → whileF t fb n s = some fl → whileF t fb m s = some fl
  | 0, s, fl, m, _, h => nomatch h
  | n + 1, s, fl, 0, hm, _ => nomatch hm
  | n + 1, s, fl, m + 1, hm, h => by
    have ih := fun s fl => whileF_up t fb n s fl m (Nat.le_of_succ_le_succ hm)
    unfold whileF at h ⊢
    cases h1 : t s with
    | none => rw [h1] at h; exact nomatch h
    | some p =>
      simp only [h1, Option.bind_some] at h ⊢
      by_cases hp : p.1 = true
      · rw [if_pos hp] at h ⊢
        cases h2 : fb p.2 with
        | none => simp [h2] at h
        | some f2 =>
          simp only [h2, Option.bind_some] at h ⊢
          cases f2 with
          | next s2 => exact ih s2 fl h
          | cont s2 => exact ih s2 fl h
          | brk s2 => exact h
          | ret d s2 => exact h
      · rw [if_neg hp] at h ⊢
        exact h
theorem sWhile_of {t : BF} {fb : SF} {n : Nat} {s : S} {fl : Fl} (h : whileF t fb n s = some fl) : sWhile t fb s = some fl := by
  have hx : ∃ fl n, whileF t fb n s = some fl := ⟨fl, n, h⟩
  unfold sWhile
  rw [dif_pos hx]
  obtain ⟨m, hm⟩ := Classical.choose_spec hx
  have h1 := whileF_up t fb n s fl (max n m) (Nat.le_max_left _ _) h
  have h2 := whileF_up t fb m s _ (max n m) (Nat.le_max_right _ _) hm
  rw [h1] at h2
  exact h2.symm
theorem sWhile_has {t : BF} {fb : SF} {s : S} {fl : Fl} (h : sWhile t fb s = some fl) : ∃ n, whileF t fb n s = some fl := by
  unfold sWhile at h
  split at h
  · rename_i hx
    obtain ⟨m, hm⟩ := Classical.choose_spec hx
    cases h
    exact ⟨m, hm⟩
  · exact nomatch h
/-- one turn -/
theorem sWhile_eq (t : BF) (fb : SF) (s : S) : sWhile t fb s = (t s).bind fun p => if p.1 = true then (fb p.2).bind fun fl => match fl with
      | .next s2 => sWhile t fb s2
      | .cont s2 => sWhile t fb s2
      | .brk s2 => some (.next s2)
      | .ret d s2 => some (.ret d s2)
    else some (.next p.2) := by
  cases e : (t s).bind fun p => if p.1 = true then (fb p.2).bind fun fl => match fl with
      | .next s2 => sWhile t fb s2
      | .cont s2 => sWhile t fb s2
      | .brk s2 => some (.next s2)
      | .ret d s2 => some (.ret d s2)
    else some (.next p.2) with
  | none =>
    cases h : sWhile t fb s with
    | none => rfl
    | some fl =>
      obtain ⟨n, hn⟩ := sWhile_has h
      exfalso
      cases n with
      | zero => exact nomatch hn
      | succ n =>
        unfold whileF at hn
        cases h1 : t s with
        | none => rw [h1] at hn; exact nomatch hn
        | some p =>
          simp only [h1, Option.bind_some] at hn e
          by_cases hp : p.1 = true
          · rw [if_pos hp] at hn e
            cases h2 : fb p.2 with
            | none => simp [h2] at hn
            | some f2 =>
              simp only [h2, Option.bind_some] at hn e
              cases f2 with
              | next s2 => simp only [sWhile_of hn] at e; exact nomatch e
              | cont s2 => simp only [sWhile_of hn] at e; exact nomatch e
              | brk s2 => exact nomatch e
              | ret d s2 => exact nomatch e
          · rw [if_neg hp] at e
            exact nomatch e
  | some fl =>
    cases h1 : t s with
    | none => rw [h1] at e; exact nomatch e
    | some p =>
      simp only [h1, Option.bind_some] at e
      by_cases hp : p.1 = true
      · rw [if_pos hp] at e
        cases h2 : fb p.2 with
        | none => simp [h2] at e
        | some f2 =>
          simp only [h2, Option.bind_some] at e
          have one : ∀ {s2 : S} {n : Nat}, (f2 = .next s2 ∨ f2 = .cont s2) → whileF t fb n s2 = some fl → sWhile t fb s = some fl := fun {s2 n} hf hn => by
            refine sWhile_of (n := n + 1) ?_
            unfold whileF
            simp only [h1, Option.bind_some]
            rw [if_pos hp, h2]
            rcases hf with rfl | rfl <;> exact hn
          cases f2 with
          | next s2 => obtain ⟨n, hn⟩ := sWhile_has e; exact one (.inl rfl) hn
          | cont s2 => obtain ⟨n, hn⟩ := sWhile_has e; exact one (.inr rfl) hn
          | brk s2 =>
            refine sWhile_of (n := 1) ?_
            unfold whileF
            simp only [h1, Option.bind_some]
            rw [if_pos hp, h2]
            exact e
          | ret d s2 =>
            refine sWhile_of (n := 1) ?_
            unfold whileF
            simp only [h1, Option.bind_some]
            rw [if_pos hp, h2]
            exact e
      · rw [if_neg hp] at e
        refine sWhile_of (n := 1) ?_
        unfold whileF
        simp only [h1, Option.bind_some]
        rw [if_neg hp]
        exact e

section
variable {c : Cc} {X : Cx} {pins : List Nat} {b1 b2 b3 : Bool} {f g h : EF} {t : BF} {fa : AF} {u v w : SF} {pos : Pos} {e : Expr} {st : Stmt} {rest : List Stmt}
variable {H H1 H2 G G1 G2 : Hp} {s s1 s2 : S} {fp fp1 fp2 : List Addr} {σ σ1 σ2 : L2.St} {Z : Ends}
theorem PinEq.refl : PinEq pins σ σ := ⟨rfl, fun _ _ => rfl⟩
theorem PinEq.trans (a : PinEq pins σ σ1) (b : PinEq pins σ1 σ2) : PinEq pins σ σ2 := ⟨b.1.trans a.1, fun i hi => (b.2 i hi).trans (a.2 i hi)⟩
/-- what was done ahead is put ahead -/
theorem PostS.ahead {fl : Fl} (q : PostS c pins Z H G fp σ fl) (E1 : Ev H G fp H1 G1 fp1) (p1 : PinEq pins σ σ1) : PostS c pins Z H1 G1 fp1 σ1 fl := by
  cases fl with
  | next s' => exact fun σ' H' G' fp' E2 S2 p2 => q σ' H' G' fp' (E1.trans E2) S2 (p1.trans p2)
  | ret r s' =>
    cases r with
    | d d => exact fun v σ' H' G' fp' E2 S2 p2 => q v σ' H' G' fp' (E1.trans E2) S2 (p1.trans p2)
    | n xs => exact fun p vs σ' H' G' fp' E2 S2 p2 => q p vs σ' H' G' fp' (E1.trans E2) S2 (p1.trans p2)
    | k xs => exact fun p vs σ' H' G' fp' E2 S2 p2 => q p vs σ' H' G' fp' (E1.trans E2) S2 (p1.trans p2)
  | brk s' => exact fun σ' H' G' fp' E2 S2 p2 => q σ' H' G' fp' (E1.trans E2) S2 (p1.trans p2)
  | cont s' => exact fun σ' H' G' fp' E2 S2 p2 => q σ' H' G' fp' (E1.trans E2) S2 (p1.trans p2)

theorem ss_nil : PSs X [] (tS c pins sNext) := PSs_imp pss_nil fun D σ H ⟨G, s, fp, fl, k, sl, hf, q⟩ => by
  cases hf
  exact q σ H G fp (Ev.refl k) sl PinEq.refl
theorem ss_one (h1 : PS X st (tS c pins u)) : PSs X [st] (tS c pins u) := pss_one h1
theorem ss_cons (h1 : PS X st (tS c pins u)) (h2 : PSs X rest (tS c pins v)) : PSs X (st :: rest) (tS c pins (sSeq u v)) := PSs_imp (pss_cons h1 h2) fun D σ H ⟨G, s, fp, fl, k, sl, hf, q⟩ => by
  unfold sSeq at hf
  cases h1 : u s with
  | none => rw [h1] at hf; exact nomatch hf
  | some f1 =>
    simp only [h1, Option.bind_some] at hf
    refine ⟨G, s, fp, f1, k, sl, h1, ?_⟩
    cases f1 with
    | next s1 => exact fun σ1 H1 G1 fp1 E1 S1 p1 => ⟨G1, s1, fp1, fl, E1.ok, S1, hf, q.ahead E1 p1⟩
    | ret d s1 => cases hf; cases d <;> exact q
    | brk s1 => cases hf; exact q
    | cont s1 => cases hf; exact q
theorem sx_pass : PS X (.Pass pos) (tS c pins sNext) := PS_imp ps_pass fun D σ H ⟨G, s, fp, fl, k, sl, hf, q⟩ => by
  cases hf
  exact q σ H G fp (Ev.refl k) sl PinEq.refl
theorem sx_brk : PS X (.Break pos) (tS c pins sBrk) := PS_imp ps_break fun D σ H ⟨G, s, fp, fl, k, sl, hf, q⟩ => by
  cases hf
  exact q σ H G fp (Ev.refl k) sl PinEq.refl
theorem sx_cont : PS X (.Continue pos) (tS c pins sCont) := PS_imp ps_continue fun D σ H ⟨G, s, fp, fl, k, sl, hf, q⟩ => by
  cases hf
  exact q σ H G fp (Ev.refl k) sl PinEq.refl
theorem sx_never : PS X st (tS c pins sNever) := PS_imp ps_never fun D σ H ⟨G, s, fp, fl, k, sl, hf, q⟩ => nomatch hf
theorem sx_ret (he : PE X e (tE c b1 f)) : PS X (.Return (some e) pos) (tS c pins (sRet f)) := PS_imp (ps_ret he) fun D σ H ⟨G, s, fp, fl, k, sl, hf, q⟩ => by
  unfold sRet at hf
  cases h1 : f s with
  | none => rw [h1] at hf; exact nomatch hf
  | some p =>
    obtain ⟨d, s1⟩ := p
    simp only [h1, Option.map_some, Option.some.injEq] at hf
    subst hf
    exact ⟨G, s, fp, d, s1, k, sl, h1, fun v H1 G1 fp1 E1 S1 r1 _ => q v σ H1 G1 fp1 E1 S1 PinEq.refl r1⟩
theorem sx_retNew (he : PE X e (tN c fa)) : PS X (.Return (some e) pos) (tS c pins (sRetNew fa)) := PS_imp (ps_ret he) fun D σ H ⟨G, s, fp, fl, k, sl, hf, q⟩ => by
  unfold sRetNew at hf
  cases h1 : fa s with
  | none => rw [h1] at hf; exact nomatch hf
  | some p =>
    obtain ⟨d, s1⟩ := p
    simp only [h1, Option.map_some, Option.some.injEq] at hf
    subst hf
    exact ⟨G, s, fp, d, s1, k, sl, h1, fun p vs H1 G1 fp1 E1 S1 hv r1 => q p vs σ H1 G1 fp1 E1 S1 PinEq.refl hv r1⟩
theorem sx_retN : PS X (.Return none pos) (tS c pins sRetN) := PS_imp ps_retN fun D σ H ⟨G, s, fp, fl, k, sl, hf, q⟩ => by
  cases hf
  exact q .non σ H G fp (Ev.refl k) sl PinEq.refl .non
theorem sx_drop (he : PE X e (tE c b1 f)) (hs : swapsWith e none pos.line X.env = pure false := by rfl) : PS X (.Expr e pos) (tS c pins (sDrop f)) := PS_imp (ps_expr he hs) fun D σ H ⟨G, s, fp, fl, k, sl, hf, q⟩ => by
  unfold sDrop at hf
  cases h1 : f s with
  | none => rw [h1] at hf; exact nomatch hf
  | some p =>
    obtain ⟨d, s1⟩ := p
    simp only [h1, Option.map_some, Option.some.injEq] at hf
    subst hf
    exact ⟨G, s, fp, d, s1, k, sl, h1, fun v H1 G1 fp1 E1 S1 r1 _ => q σ H1 G1 fp1 E1 S1 PinEq.refl⟩
theorem sx_if {cd : Expr} {sa sb : List Stmt} (hc : PT X cd (tT c b1 t)) (ha : PSs X sa (tS c pins u)) (hb : PSs X sb (tS c pins v)) : PS X (.If cd sa sb pos) (tS c pins (sIf t u v)) := PS_imp (ps_if hc ha hb) fun D σ H ⟨G, s, fp, fl, k, sl, hf, q⟩ => by
  unfold sIf at hf
  cases h1 : t s with
  | none => rw [h1] at hf; exact nomatch hf
  | some p =>
    obtain ⟨x, s1⟩ := p
    simp only [h1, Option.bind_some] at hf
    refine ⟨G, s, fp, x, s1, k, sl, h1, fun H1 G1 fp1 E1 S1 _ => ?_⟩
    show if x = true then tS c pins u D σ H1 else tS c pins v D σ H1
    cases x with
    | true =>
      rw [if_pos rfl] at hf ⊢
      exact ⟨G1, s1, fp1, fl, E1.ok, S1, hf, q.ahead E1 PinEq.refl⟩
    | false =>
      rw [if_neg Bool.false_ne_true] at hf ⊢
      exact ⟨G1, s1, fp1, fl, E1.ok, S1, hf, q.ahead E1 PinEq.refl⟩

/-! ### targets -/
theorem pin_set {i : Nat} {x : Option V} (hi : i ∉ pins) : PinEq pins σ (σ.set i x) := ⟨List.length_set, fun j hj => List.getElem?_set_ne (fun z => hi (by rw [z]; exact hj))⟩
theorem put_val (k : Ok H G fp) (sl : Slots c H G σ s fp) {i : Nat} {v : V} {d : D} (hi : i < s.length) (r : Rep c.K G v d) : ∃ fp', Ev H G fp H G fp' ∧ Slots c H G (σ.set i (some v)) (s.set i (.val d)) fp' := by
  obtain ⟨f1, f2, p, kk⟩ := sl.put hi
  obtain ⟨fp', p', sl'⟩ := kk H G v (.val d) [] (.val r) (fun _ _ => rfl) (Same.refl _)
  exact ⟨fp', ((Ev.refl k).less p).perm (by simpa using p'), sl'⟩
theorem gx_name (i : Nat) {x : Str} (hN : X.N.Nodup) (hp : i ∉ pins := by decide) (hi : X.N[i]? = some x := by rfl) (hx : Loc X.env.scope x := by first | exact Or.inl rfl | exact Or.inr rfl)
    (hf : X.fn x = true ∨ X.env.scope.names.lookup x = some .local := by first | exact .inl rfl | exact .inr rfl) : PG X (.Name x pos) (tG c pins true (gN i)) :=
  PG_imp (pg_name hN hi hx hf) fun v σ H Q ⟨G, s, fp, d, s', k, sl, r, hg, q⟩ => by
    unfold gN at hg
    split at hg
    · rename_i hl
      cases hg
      obtain ⟨fp', E, sl'⟩ := put_val k sl hl r
      exact q _ H G fp' E sl' (pin_set hp) (fun _ => Grow.refl k.sub)
    · exact nomatch hg
theorem gsx_nil : PGs X [] (tGs c pins true gsNil) := PGs_imp pgs_nil fun v σ H Q ⟨G, s, fp, ds, s', k, sl, r, hg, q⟩ => by
  cases r with
  | nil => cases hg; exact ⟨rfl, q σ H G fp (Ev.refl k) sl PinEq.refl fun _ => Grow.refl k.sub⟩
  | cons _ _ => exact nomatch hg
theorem gsx_cons {e : Expr} {es : List Expr} {g1 : GF} {g2 : List D → S → Option S} (h1 : PG X e (tG c pins b1 g1)) (h2 : PGs X es (tGs c pins b2 g2))
    (hs : (assignEach (e :: es) X.env).map (·.2) = assign e X.env :: (assignEach es X.env).map (·.2) := by rfl) : PGs X (e :: es) (tGs c pins (b1 && b2) (gsCons g1 g2)) :=
  PGs_imp (pgs_cons h1 h2 hs) fun v σ H Q ⟨G, s, fp, ds, s', k, sl, r, hg, q⟩ => by
    cases r with
    | nil => exact nomatch hg
    | cons r1 r2 =>
      unfold gsCons at hg
      rename_i v1 vs1 d1 ds1 q0
      cases h1 : g1 d1 s with
      | none => simp [h1] at hg
      | some s1 =>
        simp only [h1, Option.bind_some] at hg
        exact ⟨_, _, rfl, G, s, fp, _, s1, k, sl, r1, h1, fun σ1 H1 G1 fp1 E1 S1 p1 g1 => ⟨G1, s1, fp1, _, s', E1.ok, S1, r2.mono E1.gs, hg, fun σ2 H2 G2 fp2 E2 S2 p2 g2 => q σ2 H2 G2 fp2 (E1.trans E2) S2 (p1.trans p2) fun hb => (g1 (Bool.and_eq_true_iff.mp hb).1).trans (g2 (Bool.and_eq_true_iff.mp hb).2)⟩⟩
theorem gx_tup {es : List Expr} {kk : Nat} {n : Nat} {gs : List D → S → Option S} (hc : X.calm = true) (h : PGs X es (tGs c pins b1 gs)) (hn : (assignEach es X.env).length = n := by rfl) (hlen : ∀ ds s s', gs ds s = some s' → ds.length = n)
    (hK : X.K = c.K := by rfl) (hst : (assignEach es X.env).findIdx? (·.1) = none := by rfl) : PG X (.Tuple es kk pos) (tG c pins b1 (gTup gs)) := PG_imp (pg_tup hc h hn hst) fun v σ H Q ⟨G, s, fp, d, s', k, sl, r, hg, q⟩ => by
  cases r with
  | tup t1 r1 => exact ⟨_, _, rfl, by rw [hK]; exact Same.sqT k.sub t1, by rw [r1.length]; exact hlen _ _ _ hg, G, s, fp, _, s', k, sl, r1, hg, q⟩
  | _ => exact nomatch hg
theorem gs_len0 : ∀ ds (s s' : S), gsNil ds s = some s' → ds.length = 0 := fun ds s s' h => by
  match ds with
  | [] => rfl
  | a :: r => exact nomatch h
theorem gs_lenS {n : Nat} {g1 : GF} {g2 : List D → S → Option S} (ih : ∀ ds s s', g2 ds s = some s' → ds.length = n) : ∀ ds s s', gsCons g1 g2 ds s = some s' → ds.length = n + 1 := fun ds s s' h => by
  match ds with
  | [] => exact nomatch h
  | a :: r =>
    simp only [gsCons] at h
    cases e : g1 a s with
    | none => simp [e] at h
    | some s1 =>
      simp only [e, Option.bind_some] at h
      rw [List.length_cons, ih r s1 s' h]
/-- x = e -/
theorem asg_ok {gf : GF} {tg : TG} (hg : ∀ v σ H Q, tG c pins b2 gf v σ H Q → tg v σ H Q) (q : tS c pins (sAsg f gf) Z σ H) : tAsg (tE c b1 f) tg Z σ H := by
  obtain ⟨G, s, fp, fl, k, sl, hf, q⟩ := q
  unfold sAsg at hf
  cases h1 : f s with
  | none => rw [h1] at hf; exact nomatch hf
  | some p =>
    obtain ⟨d, s1⟩ := p
    simp only [h1, Option.bind_some] at hf
    cases h2 : gf d s1 with
    | none => simp [h2] at hf
    | some s2 =>
      simp only [h2, Option.map_some, Option.some.injEq] at hf
      subst hf
      exact ⟨G, s, fp, d, s1, k, sl, h1, fun v H1 G1 fp1 E1 S1 r1 _ => hg _ _ _ _ ⟨G1, s1, fp1, d, s2, E1.ok, S1, r1, h2, fun σ2 H2 G2 fp2 E2 S2 p2 _ => q σ2 H2 G2 fp2 (E1.trans E2) S2 p2⟩⟩
theorem gName_ok {i : Nat} (hp : i ∉ pins) : ∀ v σ H Q, tG c pins true (gN i) v σ H Q → gName i v σ H Q := fun v σ H Q ⟨G, s, fp, d, s', k, sl, r, hg, q⟩ => by
  unfold gN at hg
  split at hg
  · rename_i hl
    cases hg
    obtain ⟨fp', E, sl'⟩ := put_val k sl hl r
    exact q _ H G fp' E sl' (pin_set hp) (fun _ => Grow.refl k.sub)
  · exact nomatch hg
theorem sx_set (i : Nat) {x : Str} {pos' : Pos} (hN : X.N.Nodup) (he : PE X e (tE c b1 f)) (hp : i ∉ pins := by decide) (hi : X.N[i]? = some x := by rfl) (hx : Loc X.env.scope x := by first | exact Or.inl rfl | exact Or.inr rfl)
    (hs : swapsWith e (some (.Name x pos')) pos.line X.env = pure false := by rfl) (hf : X.fn x = true ∨ X.env.scope.names.lookup x = some .local := by first | exact .inl rfl | exact .inr rfl) :
    PS X (.Assign [.Name x pos'] e pos) (tS c pins (sAsg f (gN i))) := PS_imp (ps_set hN hi hx he hs hf) fun D σ H q => asg_ok (gName_ok hp) q
theorem sx_asg {tg : Expr} {gf : GF} (he : PE X e (tE c b1 f)) (hg : PG X tg (tG c pins b2 gf)) (hs : swapsWithSole [tg] e pos.line X.env = pure false := by rfl) (hw : swappedStores [tg] e X.env = pure none := by rfl)
    (h1 : (assignEach [tg] X.env).map (·.2) = [assign tg X.env] := by rfl) : PS X (.Assign [tg] e pos) (tS c pins (sAsg f gf)) := PS_imp (ps_asg he hg hs hw h1) fun D σ H q => asg_ok (fun _ _ _ _ z => z) q
theorem sx_par (i j : Nat) {x y : Str} {ea eb : Expr} {px py pt : Pos} {kt k2 pt2} (hc : X.calm = true) (hN : X.N.Nodup) (ha : PA X [ea, eb] (tA c b1 fa)) (hpi : i ∉ pins := by decide) (hpj : j ∉ pins := by decide) (hij : i ≠ j := by decide) (hi : X.N[i]? = some x := by rfl) (hj : X.N[j]? = some y := by rfl)
    (hx : X.env.scope.names.lookup x = some .local := by rfl) (hy : X.env.scope.names.lookup y = some .local := by rfl)
    (hw : swappedStores [.Tuple [.Name x px, .Name y py] kt pt] (.Tuple [ea, eb] k2 pt2) X.env = pure (some [x, y]) := by rfl)
    (hs : swapsWithSole [.Tuple [.Name x px, .Name y py] kt pt] (.Tuple [ea, eb] k2 pt2) pos.line X.env = pure false := by rfl) :
    PS X (.Assign [.Tuple [.Name x px, .Name y py] kt pt] (.Tuple [ea, eb] k2 pt2) pos) (tS c pins (sPar i j fa)) := PS_imp (ps_par hc hN hi hj hij hx hy ha hw hs) fun D σ H ⟨G, s, fp, fl, k, sl, hf, q⟩ => by
  unfold sPar at hf
  cases h1 : fa s with
  | none => rw [h1] at hf; exact nomatch hf
  | some p =>
    obtain ⟨ds, s1⟩ := p
    simp only [h1, Option.bind_some] at hf
    match ds, h1, hf with
    | [], _, hf => exact nomatch hf
    | [_], _, hf => exact nomatch hf
    | _ :: _ :: _ :: _, _, hf => exact nomatch hf
    | [d1, d2], h1, hf =>
      simp only at hf
      split at hf
      · rename_i hl
        cases hf
        refine ⟨G, s, fp, _, s1, k, sl, h1, fun vs H1 G1 fp1 E1 S1 r1 _ => ?_⟩
        cases r1 with
        | cons r1 r2 =>
          cases r2 with
          | cons r2 r3 =>
            cases r3
            obtain ⟨fp2, E2, S2⟩ := put_val E1.ok S1 hl.1 r1
            obtain ⟨fp3, E3, S3⟩ := put_val E2.ok S2 (by rw [List.length_set]; exact hl.2) r2
            exact ⟨_, _, rfl, q _ _ _ _ ((E1.trans E2).trans E3) S3 ((pin_set hpi).trans (pin_set hpj))⟩
      · exact nomatch hf

/-! ### lists of one's own -/
theorem own_lst (k : Ok H G fp) (sl : Slots c H G σ s fp) {i : Nat} {xs : List D} (h : s[i]? = some (.lst xs)) :
    ∃ p vs f2, σ[i]? = some (some (.ref p)) ∧ H p = some (.lst vs) ∧ Reps c.K G vs xs ∧ fp.Perm (p :: f2) ∧
      ∀ vs' xs', Reps c.K G vs' xs' → ∃ fp', Ev H G fp (upd H p (.lst vs')) G fp' ∧ Slots c (upd H p (.lst vs')) G σ (s.set i (.lst xs')) fp' := by
  obtain ⟨v, f1, f2, h1, h2, hp, hk⟩ := sl.split h (by simp)
  cases h2 with
  | @lst p vs _ hv r =>
    have gp : G p = none := k.own p (hp.mem_iff.mpr (by simp))
    have nd := List.nodup_append.mp (hp.nodup_iff.mp k.nd)
    refine ⟨p, vs, f2, h1, hv, r, hp, fun vs' xs' r' => ?_⟩
    obtain ⟨fp', p', sl'⟩ := hk (upd H p (.lst vs')) G (.lst xs') [p] (.lst upd_same r') (fun a ha => upd_ne fun z => nd.2.2 p (by simp) a ha z.symm) (Same.refl _)
    have pp : fp'.Perm fp := p'.trans hp.symm
    refine ⟨fp', ⟨Same.refl _, fun b o hb => ?_, fun x h3 h4 => absurd h3 h4, fun a o ha hn => ?_, fun a ha => ?_, fun a ha => ⟨k.own a (pp.mem_iff.mp ha), .inl (pp.mem_iff.mp ha)⟩, pp.nodup_iff.mpr k.nd⟩, sl'⟩
    · rw [upd_ne (fun z => by rw [z, gp] at hb; cases hb)]; exact k.sub b o hb
    · rw [upd_ne (fun z => hn (by rw [z]; exact hp.mem_iff.mpr (by simp)))]; exact ha
    · by_cases z : a = p
      · subst z; rw [upd_same]; simp
      · rw [upd_ne z]; exact ha
/-- a slot is given a new list -/
theorem put_new {p : Addr} (k : Ok H G (p :: fp)) (sl : Slots c H G σ s fp) {i : Nat} {vs : List V} {xs : List D} (hi : i < s.length) (hv : H p = some (.lst vs)) (r : Reps c.K G vs xs) :
    ∃ fp', Ev H G (p :: fp) H G fp' ∧ Slots c H G (σ.set i (some (.ref p))) (s.set i (.lst xs)) fp' := by
  obtain ⟨f1, f2, hp, kk⟩ := sl.put hi
  obtain ⟨fp', p', sl'⟩ := kk H G (.ref p) (.lst xs) [p] (.lst hv r) (fun _ _ => rfl) (Same.refl _)
  refine ⟨fp', ?_, sl'⟩
  have q1 : (p :: fp).Perm (f1 ++ (p :: f2)) := (List.Perm.cons p hp).trans (List.perm_middle.symm)
  exact ((Ev.refl k).less q1).perm p'
theorem new_ok {i : Nat} (hp : i ∉ pins) (q : tS c pins (sNew i fa) Z σ H) : tAsg (tN c fa) (gName i) Z σ H := by
  obtain ⟨G, s, fp, fl, k, sl, hf, q⟩ := q
  unfold sNew at hf
  cases h1 : fa s with
  | none => rw [h1] at hf; exact nomatch hf
  | some p =>
    obtain ⟨xs, s1⟩ := p
    simp only [h1, Option.bind_some] at hf
    split at hf
    · rename_i hl
      cases hf
      refine ⟨G, s, fp, xs, s1, k, sl, h1, fun p vs H1 G1 fp1 E1 S1 hv r => ?_⟩
      obtain ⟨fp', E2, S2⟩ := put_new E1.ok S1 hl hv r
      exact q _ _ _ _ (E1.trans E2) S2 (pin_set hp)
    · exact nomatch hf
theorem sx_new (i : Nat) {x : Str} {pos' : Pos} (hN : X.N.Nodup) (he : PE X e (tN c fa)) (hp : i ∉ pins := by decide) (hi : X.N[i]? = some x := by rfl) (hx : Loc X.env.scope x := by first | exact Or.inl rfl | exact Or.inr rfl)
    (hs : swapsWith e (some (.Name x pos')) pos.line X.env = pure false := by rfl) (hf : X.fn x = true ∨ X.env.scope.names.lookup x = some .local := by first | exact .inl rfl | exact .inr rfl) :
    PS X (.Assign [.Name x pos'] e pos) (tS c pins (sNew i fa)) := PS_imp (ps_set hN hi hx he hs hf) fun D σ H q => new_ok hp q
/-- what is laid behind an evaluation, and is nobody else's -/
theorem Ev.newOwn (E : Ev H G fp H1 G1 fp1) (sl : Slots c H1 G1 σ s fp1) {p : Addr} {o : HO} (hp : H1 p = none) : Ev H G fp (upd H1 p o) G1 (p :: fp1) ∧ Slots c (upd H1 p o) G1 σ s fp1 := by
  have gr : Grow H1 G1 (upd H1 p o) G1 := Grow.hid E.sub hp
  have E2 := E.grow sl gr
  refine ⟨{ E2 with own := fun a ha => ?_, nd := ?_ }, sl.step gr⟩
  · rcases List.mem_cons.mp ha with rfl | ha
    · refine ⟨E.sub.free hp, .inr ?_⟩
      cases q : H a with
      | none => rfl
      | some u => exact absurd hp (E.live a (by rw [q]; simp))
    · exact E2.own a ha
  · exact List.nodup_cons.mpr ⟨fun z => sl.there p z hp, E2.nd⟩
theorem xn_lst {es : List Expr} (h : PA X es (tA c b1 fa)) : PE X (.List es pos) (tN c (nLst fa)) := PE_imp (pe_lst h) fun σ H Q ⟨G, s, fp, xs, s', k, sl, hf, q⟩ => by
  unfold nLst at hf
  cases h1 : fa s with
  | none => rw [h1] at hf; exact nomatch hf
  | some p =>
    obtain ⟨x, s1⟩ := p
    simp only [h1, Option.bind_some] at hf
    split at hf
    · rename_i hc
      cases hf
      refine ⟨G, s, fp, _, _, k, sl, h1, fun vs H1 G1 fp1 E1 S1 r1 p1 => ⟨by rw [r1.length]; exact Nat.le_trans hc cap_line, fun p hp => ?_⟩⟩
      obtain ⟨E2, S2⟩ := E1.newOwn (o := .lst vs) S1 hp
      exact q p vs _ _ _ E2 S2 upd_same r1
    · exact nomatch hf
theorem sx_app (i : Nat) {x : Str} {p1 apos cpos : Pos} {line : Pos} (he : PE X e (tE c b1 f)) (hN : X.N[i]? = some x := by rfl) (hv : Vis X.env.scope x := by first | exact Or.inl rfl | exact Or.inr (Or.inl rfl)) (hK : X.K = c.K := by rfl)
    (hd : (x == ("__debug__" : Str)) = false := by decide) (hcd : (x == ("__classdict__" : Str)) = false := by decide)
    (hbase : attributeBase (.Name x p1) "append" X.env (eval (.Name x p1) X.env) = eval (.Name x p1) X.env := by rfl)
    (hfew : ((backTo cpos (starEach [e] X.env)).all (fun x => !x.1) && (backToKw cpos (keywordEach [] X.env)).all (fun x => x.1.isSome)
      && decide ([e].length + ([] : List Keyword).length + (if ([] : List Keyword).isEmpty then 0 else 1) < 30)) = true := by rfl)
    (hline : (apos.endLine == cpos.line) = true := by rfl) (hs : starEach [e] X.env = (false, eval e X.env) :: starEach [] X.env := by rfl) (hplain : (backTo cpos (starEach [] X.env)).any (·.1) = false := by rfl)
    (hsw : swapsWith (.Call (.Attribute (.Name x p1) "append" apos) [e] [] cpos) none line.line X.env = pure false := by rfl) :
    PS X (.Expr (.Call (.Attribute (.Name x p1) "append" apos) [e] [] cpos) line) (tS c pins (sApp i f)) :=
  PS_imp (ps_expr (pe_bm PySem.F.plainAttrs_list PySem.F.slot_list_append PySem.F.type_list_append mt_append (pe_var hN hv hd hcd) (pa_cons he pa_nil hs) hbase hfew hline hs hplain) hsw) fun Z σ H ⟨G, s, fp, fl, k, sl, hf, q⟩ => by
    unfold sApp at hf
    split at hf
    · rename_i ys hy
      cases h1 : f s with
      | none => rw [h1] at hf; exact nomatch hf
      | some pp =>
        obtain ⟨d, s1⟩ := pp
        simp only [h1, Option.bind_some] at hf
        split at hf
        · rename_i xs hx
          split at hf
          · rename_i hl
            cases hf
            obtain ⟨p, vs, _, hσ, hv, _, _, _⟩ := own_lst k sl hy
            refine ⟨_, hσ, .inl ⟨rfl, _, SqL.of hv⟩, G, s, fp, d, s1, k, sl, h1, fun v H1 G1 fp1 E1 S1 r1 _ => ?_⟩
            obtain ⟨p', vs', f2, hσ', hv', r', _, kk⟩ := own_lst E1.ok S1 hx
            rw [hσ] at hσ'
            cases hσ'
            obtain ⟨fp', E2, S2⟩ := kk (vs' ++ [v]) (xs ++ [d]) (r'.append (Reps.one r1))
            exact ⟨_, _, _, rfl, rfl, hv', by rw [r'.length]; exact Nat.lt_trans hl cap_lt, q σ _ G1 fp' (E1.trans E2) S2 PinEq.refl⟩
          · exact nomatch hf
        · exact nomatch hf
    · exact nomatch hf
end
end DL
/-! DL 5: what is walked; for, while, comprehensions; calls of defs. -/
namespace DL
open PySem PySem.Spec PyProof.Rows L2 RZ

/-- the iterator yields these things, in order -/
def Yields (c : Cc) (J : It) (xs : List D) (G0 : Hp) : Prop := ∀ (i : Nat) (H G : Hp), Same G0 G → Same G H →
  (∀ d, xs[i]? = some d → J.go i H ∧ ∀ x H', J.yld i H x H' → ∃ G', Grow H G H' G' ∧ Rep c.K G' x d) ∧ (xs.length ≤ i → J.stop i H)
def tI (c : Cc) (b : Bool) (fi : AF) : TI := fun σ H R => ∃ G s fp xs s', Ok H G fp ∧ Slots c H G σ s fp ∧ fi s = some (xs, s') ∧
  ∀ J H' G' fp', Ev H G fp H' G' fp' → Slots c H' G' σ s' fp' → Yields c J xs G' → Pure b H G s fp H' G' s' fp' → R J H'
theorem PI_imp {X : Cx} {tg e : Expr} {t t' : TI} (h : PI X tg e t) (k : ∀ σ H Q, t' σ H Q → t σ H Q) : PI X tg e t' := ⟨fun pins s σ H Q I q => h.run pins s σ H Q I (k σ H Q q)⟩

def items : D → Option (List D)
  | .tup xs => some xs
  | .lst xs => some xs
  | .str x => some (x.cps.toList.map fun k => .str ⟨#[k]⟩)
  | _ => none
def iSeq (f : EF) : AF := fun s => (f s).bind fun p => (items p.1).map fun xs => (xs, p.2)
def rangeD (lo : Int) (n : Nat) : List D := (List.range n).map fun (i : Nat) => .int (lo + (i : Int))
def bigI : Int := 1000000000
def iRng1 (fa : AF) : AF := fun s => (fa s).bind fun p => match p.1 with
  | [.int n] => if -bigI ≤ n ∧ n ≤ bigI then some (rangeD 0 n.toNat, p.2) else none
  | _ => none
def iRng2 (fa : AF) : AF := fun s => (fa s).bind fun p => match p.1 with
  | [.int m, .int n] => if -bigI ≤ m ∧ m ≤ bigI ∧ -bigI ≤ n ∧ n ≤ bigI then some (rangeD m (n - m).toNat, p.2) else none
  | _ => none
def zipD : List D → List D → List D
  | x :: xs, y :: ys => .tup [x, y] :: zipD xs ys
  | _, _ => []
def iZip (fa : AF) : AF := fun s => (fa s).bind fun p => match p.1 with
  | [.lst xs, .lst ys] => some (zipD xs ys, p.2)
  | [.tup xs, .tup ys] => some (zipD xs ys, p.2)
  | _ => none

section
variable {c : Cc} {X : Cx} {pins : List Nat} {b1 b2 b3 : Bool} {f g h : EF} {t : BF} {fa fi : AF} {u v w : SF} {pos : Pos} {e tg : Expr} {st : Stmt} {rest : List Stmt}
variable {H H1 H2 G G1 G2 : Hp} {s s1 s2 : S} {fp fp1 fp2 : List Addr} {σ σ1 σ2 : L2.St} {Z : Ends}
theorem yl_list {a : Addr} {vs : List V} {xs : List D} (hq : SqL c.K G a vs) (r : Reps c.K G vs xs) : Yields c (Itl c.K a) xs G := fun i H G' e1 e2 => by
  have q : SqL c.K H a vs := Same.sqL e2 (Same.sqL e1 hq)
  refine ⟨fun d hd => ?_, fun hl => ⟨vs, q, by rw [r.length]; exact hl⟩⟩
  obtain ⟨v, hv, rv⟩ := r.get hd
  refine ⟨⟨vs, v, q, hv⟩, fun x H' y => ?_⟩
  obtain ⟨e, y⟩ := y
  subst e
  have e3 := y vs q
  rw [hv] at e3
  cases e3
  exact ⟨G', Grow.refl e2, rv.mono e1⟩
theorem yl_tup {a : Addr} {vs : List V} {xs : List D} (hq : SqT c.K G a vs) (r : Reps c.K G vs xs) : Yields c (Itt c.K a) xs G := fun i H G' e1 e2 => by
  have q : SqT c.K H a vs := Same.sqT e2 (Same.sqT e1 hq)
  refine ⟨fun d hd => ?_, fun hl => ⟨vs, q, by rw [r.length]; exact hl⟩⟩
  obtain ⟨v, hv, rv⟩ := r.get hd
  refine ⟨⟨vs, v, q, hv⟩, fun x H' y => ?_⟩
  obtain ⟨e, y⟩ := y
  subst e
  have e3 := y vs q
  rw [hv] at e3
  cases e3
  exact ⟨G', Grow.refl e2, rv.mono e1⟩
theorem yl_range {lo : Int} {n : Nat} : Yields c (Itr lo n) (rangeD lo n) G := fun i H G' e1 e2 => by
  refine ⟨fun d hd => ?_, fun hl => ?_⟩
  · unfold rangeD at hd
    rw [List.getElem?_map] at hd
    by_cases hi : i < n
    · rw [List.getElem?_range hi] at hd
      cases hd
      refine ⟨hi, fun x H' y => ?_⟩
      obtain ⟨e, y⟩ := y
      subst e y
      exact ⟨G', Grow.refl e2, .int _⟩
    · rw [List.getElem?_eq_none (by simpa using hi)] at hd
      exact nomatch hd
  · unfold rangeD at hl
    exact (by simpa using hl : n ≤ i)
theorem yl_str {x : Str} : Yields c (Its x) (x.cps.toList.map fun k => .str ⟨#[k]⟩) G := fun i H G' e1 e2 => by
  refine ⟨fun d hd => ?_, fun hl => (by simpa using hl : x.cps.size ≤ i)⟩
  rw [List.getElem?_map] at hd
  cases q : x.cps.toList[i]? with
  | none => rw [q] at hd; exact nomatch hd
  | some k =>
    rw [q] at hd
    cases hd
    have q2 : x.cps[i]? = some k := by simpa using q
    refine ⟨(Array.getElem?_eq_some_iff.mp q2).1, fun v H' y => ?_⟩
    obtain ⟨e, k', hk, hv⟩ := y
    subst e hv
    rw [q2] at hk
    cases hk
    exact ⟨G', Grow.refl e2, .str _⟩
theorem zipD_get : ∀ (xs ys : List D) (i : Nat) (d : D), (zipD xs ys)[i]? = some d → ∃ x y, xs[i]? = some x ∧ ys[i]? = some y ∧ d = .tup [x, y]
  | [], ys, i, d, h => by cases ys <;> simp [zipD] at h
  | x :: xs, [], i, d, h => by simp [zipD] at h
  | x :: xs, y :: ys, 0, d, h => by simp [zipD] at h; exact ⟨x, y, rfl, rfl, h.symm⟩
  | x :: xs, y :: ys, i + 1, d, h => by
    have h' : (zipD xs ys)[i]? = some d := by simpa [zipD] using h
    obtain ⟨a, b, e1, e2, e3⟩ := zipD_get xs ys i d h'
    exact ⟨a, b, by simpa using e1, by simpa using e2, e3⟩
theorem zipD_len : ∀ (xs ys : List D), (zipD xs ys).length = min xs.length ys.length
  | [], ys => by cases ys <;> simp [zipD]
  | x :: xs, [] => by simp [zipD]
  | x :: xs, y :: ys => by
    simp only [zipD, List.length_cons, zipD_len xs ys]
    omega
theorem yl_zipL {a b : Addr} {vs ws : List V} {xs ys : List D} (hq : SqL c.K G a vs) (r : Reps c.K G vs xs) (hq2 : SqL c.K G b ws) (r2 : Reps c.K G ws ys) : Yields c (Itz c.K a b) (zipD xs ys) G := fun i H G' e1 e2 => by
  have q : SqL c.K H a vs := Same.sqL e2 (Same.sqL e1 hq)
  have q2 : SqL c.K H b ws := Same.sqL e2 (Same.sqL e1 hq2)
  refine ⟨fun d hd => ?_, fun hl => ⟨vs, ws, q, q2, ?_⟩⟩
  · obtain ⟨x, y, h1, h2, rfl⟩ := zipD_get xs ys i d hd
    obtain ⟨v, hv, rv⟩ := r.get h1
    obtain ⟨w, hw, rw'⟩ := r2.get h2
    refine ⟨⟨vs, ws, v, w, q, q2, hv, hw⟩, fun x0 H' y0 => ?_⟩
    obtain ⟨T, x1, y1, rfl, hT, rfl, k1, k2⟩ := y0
    have e3 := k1 vs q
    have e4 := k2 ws q2
    rw [hv] at e3
    rw [hw] at e4
    cases e3
    cases e4
    have gr := Grow.alloc (o := .tup [v, w]) e2 hT
    exact ⟨_, gr, .tup (SqT.of upd_same) (.cons ((rv.mono e1).mono gr.gs) (.cons ((rw'.mono e1).mono gr.gs) .nil))⟩
  · rw [zipD_len] at hl
    rw [r.length, r2.length]
    omega
theorem yl_zipT {a b : Addr} {vs ws : List V} {xs ys : List D} (hq : SqT c.K G a vs) (r : Reps c.K G vs xs) (hq2 : SqT c.K G b ws) (r2 : Reps c.K G ws ys) : Yields c (ItzT c.K a b) (zipD xs ys) G := fun i H G' e1 e2 => by
  have q : SqT c.K H a vs := Same.sqT e2 (Same.sqT e1 hq)
  have q2 : SqT c.K H b ws := Same.sqT e2 (Same.sqT e1 hq2)
  refine ⟨fun d hd => ?_, fun hl => ⟨vs, ws, q, q2, ?_⟩⟩
  · obtain ⟨x, y, h1, h2, rfl⟩ := zipD_get xs ys i d hd
    obtain ⟨v, hv, rv⟩ := r.get h1
    obtain ⟨w, hw, rw'⟩ := r2.get h2
    refine ⟨⟨vs, ws, v, w, q, q2, hv, hw⟩, fun x0 H' y0 => ?_⟩
    obtain ⟨T, x1, y1, rfl, hT, rfl, k1, k2⟩ := y0
    have e3 := k1 vs q
    have e4 := k2 ws q2
    rw [hv] at e3
    rw [hw] at e4
    cases e3
    cases e4
    have gr := Grow.alloc (o := .tup [v, w]) e2 hT
    exact ⟨_, gr, .tup (SqT.of upd_same) (.cons ((rv.mono e1).mono gr.gs) (.cons ((rw'.mono e1).mono gr.gs) .nil))⟩
  · rw [zipD_len] at hl
    rw [r.length, r2.length]
    omega

theorem ix_seq' (he : PE X e (tE c b1 f)) (hK : X.K = c.K := by rfl) : PI X tg e (tI c b1 (iSeq f)) := by
  refine ⟨fun pins s σ H R I ⟨G, S, fp, xs, s', k, sl, hf, q⟩ => ?_⟩
  unfold iSeq at hf
  cases h1 : f S with
  | none => rw [h1] at hf; exact nomatch hf
  | some p =>
    obtain ⟨d, s1⟩ := p
    simp only [h1, Option.bind_some] at hf
    cases d with
    | tup ds =>
      cases hf
      refine (pi_tup he).run pins s σ H R I ⟨G, S, fp, _, _, k, sl, h1, fun v H1 G1 fp1 E1 S1 r1 p1 => ?_⟩
      cases r1 with
      | tup t1 r1 =>
        rw [hK]
        exact ⟨_, rfl, ⟨_, Same.sqT E1.sub t1⟩, q _ H1 G1 fp1 E1 S1 (yl_tup t1 r1) p1⟩
    | lst ds =>
      cases hf
      refine (pi_list he).run pins s σ H R I ⟨G, S, fp, _, _, k, sl, h1, fun v H1 G1 fp1 E1 S1 r1 p1 => ?_⟩
      cases r1 with
      | lst t1 r1 =>
        rw [hK]
        exact ⟨_, rfl, ⟨_, Same.sqL E1.sub t1⟩, q _ H1 G1 fp1 E1 S1 (yl_list t1 r1) p1⟩
    | str x =>
      cases hf
      refine (pi_str he).run pins s σ H R I ⟨G, S, fp, _, _, k, sl, h1, fun v H1 G1 fp1 E1 S1 r1 p1 => ?_⟩
      cases r1 with
      | str x => exact ⟨_, rfl, q _ H1 G1 fp1 E1 S1 yl_str p1⟩
    | _ => exact nomatch hf
theorem bigI_ok {n : Int} (h1 : -bigI ≤ n) (h2 : n ≤ bigI) : -(2 ^ 62) ≤ n ∧ n < 2 ^ 62 := by
  unfold bigI at h1 h2
  omega
theorem ix_range1 {a : Expr} {p pos : Pos} (ha : PA X [a] (tA c b1 fa)) (hm : X.mg "range" = none) (hg : Gl X "range" := by rfl) (hs : starEach [a] X.env = [(false, eval a X.env)] := by rfl) : PI X tg (.Call (.Name "range" p) [a] [] pos) (tI c b1 (iRng1 fa)) :=
  PI_imp (pi_range1 hg hm ha hs) fun σ H R ⟨G, S, fp, xs, s', k, sl, hf, q⟩ => by
    unfold iRng1 at hf
    cases h1 : fa S with
    | none => rw [h1] at hf; exact nomatch hf
    | some p =>
      obtain ⟨ds, s1⟩ := p
      simp only [h1, Option.bind_some] at hf
      split at hf
      · rename_i n
        split at hf
        · rename_i hn
          cases hf
          refine ⟨G, S, fp, _, _, k, sl, h1, fun vs H1 G1 fp1 E1 S1 r1 p1 => ?_⟩
          cases r1 with
          | cons r1 r2 =>
            cases r2
            obtain ⟨h3, h4⟩ := bigI_ok hn.1 hn.2
            exact ⟨n, by rw [r1.ints], h3, h4, q _ H1 G1 fp1 E1 S1 yl_range p1⟩
        · exact nomatch hf
      · exact nomatch hf
theorem ix_range2 {a b : Expr} {p pos : Pos} (ha : PA X [a, b] (tA c b1 fa)) (hm : X.mg "range" = none) (hg : Gl X "range" := by rfl) (hs : starEach [a, b] X.env = [(false, eval a X.env), (false, eval b X.env)] := by rfl) (hs2 : starEach [b] X.env = [(false, eval b X.env)] := by rfl) :
    PI X tg (.Call (.Name "range" p) [a, b] [] pos) (tI c b1 (iRng2 fa)) :=
  PI_imp (pi_range2 hg hm ha hs hs2) fun σ H R ⟨G, S, fp, xs, s', k, sl, hf, q⟩ => by
    unfold iRng2 at hf
    cases h1 : fa S with
    | none => rw [h1] at hf; exact nomatch hf
    | some p =>
      obtain ⟨ds, s1⟩ := p
      simp only [h1, Option.bind_some] at hf
      split at hf
      · rename_i m n
        split at hf
        · rename_i hn
          cases hf
          refine ⟨G, S, fp, _, _, k, sl, h1, fun vs H1 G1 fp1 E1 S1 r1 p1 => ?_⟩
          cases r1 with
          | cons r1 r2 =>
            cases r2 with
            | cons r2 r3 =>
              cases r3
              obtain ⟨h3, h4⟩ := bigI_ok hn.1 hn.2.1
              obtain ⟨h5, h6⟩ := bigI_ok hn.2.2.1 hn.2.2.2
              exact ⟨m, n, by rw [r1.ints, r2.ints], ⟨h3, h4, h5, h6⟩, q _ H1 G1 fp1 E1 S1 yl_range p1⟩
        · exact nomatch hf
      · exact nomatch hf
theorem ix_zip {a b : Expr} {p pos tpos : Pos} {elts : List Expr} {kk : Nat} (ha : PA X [a, b] (tA c b1 fa)) (hm : X.mg "zip" = none) (hK : X.K = c.K := by rfl) (hg : Gl X "zip" := by rfl) (hs : starEach [a, b] X.env = [(false, eval a X.env), (false, eval b X.env)] := by rfl) (hs2 : starEach [b] X.env = [(false, eval b X.env)] := by rfl) :
    PI X (.Tuple elts kk tpos) (.Call (.Name "zip" p) [a, b] [] pos) (tI c b1 (iZip fa)) :=
  PI_imp (pi_zipA hg hm ha (by rw [hs, hs2]) (by rw [hs2]; rfl)) fun σ H R ⟨G, S, fp, xs, s', k, sl, hf, q⟩ => by
    rw [hK]
    unfold iZip at hf
    cases h1 : fa S with
    | none => rw [h1] at hf; exact nomatch hf
    | some p =>
      obtain ⟨ds, s1⟩ := p
      simp only [h1, Option.bind_some] at hf
      split at hf
      · cases hf
        refine ⟨G, S, fp, _, _, k, sl, h1, fun vs H1 G1 fp1 E1 S1 r1 p1 => ?_⟩
        cases r1 with
        | cons r1 r2 =>
          cases r2 with
          | cons r2 r3 =>
            cases r3
            cases r1 with
            | lst t1 r1 =>
              cases r2 with
              | lst t2 r2 => exact ⟨_, _, _, _, rfl, .inl ⟨Same.sqL E1.sub t1, Same.sqL E1.sub t2, q _ H1 G1 fp1 E1 S1 (yl_zipL t1 r1 t2 r2) p1⟩⟩
      · cases hf
        refine ⟨G, S, fp, _, _, k, sl, h1, fun vs H1 G1 fp1 E1 S1 r1 p1 => ?_⟩
        cases r1 with
        | cons r1 r2 =>
          cases r2 with
          | cons r2 r3 =>
            cases r3
            cases r1 with
            | tup t1 r1 =>
              cases r2 with
              | tup t2 r2 => exact ⟨_, _, _, _, rfl, .inr ⟨Same.sqT E1.sub t1, Same.sqT E1.sub t2, q _ H1 G1 fp1 E1 S1 (yl_zipT t1 r1 t2 r2) p1⟩⟩
      · exact nomatch hf

/-! ### for -/
theorem sx_for {iter : Expr} {body : List Stmt} {gf : GF} (hi : PI X tg iter (tI c b1 fi)) (hg : PG X tg (tG c pins b2 gf)) (hb : PSs X body (tS c pins u)) (hp : PassesOwn (model X.prog X.w) X.A X.env X.xe := by exact PassesOwn.never) (hc : X.calm = true := by rfl)
    (hs : ∀ x, foldedSetIterable iter X.env x = pure x := by exact fun _ => rfl) : PS X (.For tg iter body [] pos) (tS c pins (sFor fi gf u)) := PS_imp (ps_for hp hc hi hg hb hs) fun Z σ H ⟨G, s, fp, fl, k, sl, hf, q⟩ => by
  unfold sFor at hf
  cases h1 : fi s with
  | none => rw [h1] at hf; exact nomatch hf
  | some p =>
    obtain ⟨xs, s1⟩ := p
    simp only [h1, Option.bind_some] at hf
    refine ⟨G, s, fp, xs, s1, k, sl, h1, fun J H1 G1 fp1 E1 S1 Y _ => ?_⟩
    refine ⟨fun i m σ' H' => m = xs.length - i ∧ i ≤ xs.length ∧ ∃ G' s' fp', Ev H1 G1 fp1 H' G' fp' ∧ Slots c H' G' σ' s' fp' ∧ PinEq pins σ σ' ∧ forD gf u (xs.drop i) s' = some fl,
      ⟨xs.length, by simp, Nat.zero_le _, G1, s1, fp1, Ev.refl E1.ok, S1, PinEq.refl, by simpa using hf⟩, ?_⟩
    rintro i m σ' H' ⟨rfl, hi, G', s', fp', E', S', p', hfor⟩
    obtain ⟨y1, y2⟩ := Y i H' G' E'.gs E'.sub
    by_cases hlt : i < xs.length
    · obtain ⟨go, yy⟩ := y1 xs[i] (List.getElem?_eq_getElem hlt)
      refine .inr ⟨go, fun σ'' H'' => ∃ G'' s'' fp'', Ev H1 G1 fp1 H'' G'' fp'' ∧ Slots c H'' G'' σ'' s'' fp'' ∧ PinEq pins σ σ'' ∧ forD gf u (xs.drop (i + 1)) s'' = some fl,
        fun σ'' H'' n => ⟨xs.length - (i + 1), by omega, rfl, hlt, n⟩, fun x H2 hy => ?_⟩
      obtain ⟨G2, gr, rx⟩ := yy x H2 hy
      rw [List.drop_eq_getElem_cons hlt] at hfor
      unfold forD at hfor
      cases h2 : gf xs[i] s' with
      | none => simp [h2] at hfor
      | some s3 =>
        simp only [h2, Option.bind_some] at hfor
        have E2 := E'.grow S' gr
        refine ⟨G2, s', fp', _, s3, E2.ok, S'.step gr, rx, h2, fun σ3 H3 G3 fp3 E3 S3 p3 _ => ?_⟩
        cases h4 : u s3 with
        | none => simp [h4] at hfor
        | some f4 =>
          simp only [h4, Option.bind_some] at hfor
          refine ⟨G3, s3, fp3, f4, E3.ok, S3, h4, ?_⟩
          have E23 := E2.trans E3
          cases f4 with
          | next s4 => exact fun σ4 H4 G4 fp4 E4 S4 p4 => ⟨G4, s4, fp4, E23.trans E4, S4, (p'.trans p3).trans p4, hfor⟩
          | cont s4 => exact fun σ4 H4 G4 fp4 E4 S4 p4 => ⟨G4, s4, fp4, E23.trans E4, S4, (p'.trans p3).trans p4, hfor⟩
          | brk s4 =>
            cases hfor
            exact fun σ4 H4 G4 fp4 E4 S4 p4 => q σ4 H4 G4 fp4 (E1.trans (E23.trans E4)) S4 ((p'.trans p3).trans p4)
          | ret d s4 =>
            cases hfor
            have q2 := PostS.ahead q (E1.trans E23) (p'.trans p3)
            cases d <;> exact q2
    · have e : i = xs.length := by omega
      subst e
      rw [List.drop_length] at hfor
      cases hfor
      exact .inl ⟨y2 (Nat.le_refl _), q σ' H' G' fp' (E1.trans E') S' p'⟩

/-! ### while -/
theorem sx_while {cd : Expr} {body : List Stmt} (hc : PT X cd (tT c b1 t)) (hb : PSs X body (tS c pins u)) (hp : PassesOwn (model X.prog X.w) X.A X.env X.xe := by exact PassesOwn.never) : PS X (.While cd body [] pos) (tS c pins (sWhile t u)) :=
  PS_imp (ps_while hp hc hb) fun Z σ H ⟨G, s, fp, fl, k, sl, hf, q⟩ => by
    obtain ⟨n, hn⟩ := sWhile_has hf
    refine ⟨fun m σ' H' => ∃ G' s' fp', Ev H G fp H' G' fp' ∧ Slots c H' G' σ' s' fp' ∧ PinEq pins σ σ' ∧ whileF t u m s' = some fl, ⟨n, G, s, fp, Ev.refl k, sl, PinEq.refl, hn⟩, ?_⟩
    rintro m σ' H' ⟨G', s', fp', E', S', p', hw⟩
    cases m with
    | zero => exact nomatch hw
    | succ m =>
      unfold whileF at hw
      cases h1 : t s' with
      | none => rw [h1] at hw; exact nomatch hw
      | some p =>
        obtain ⟨x, s1⟩ := p
        simp only [h1, Option.bind_some] at hw
        refine ⟨G', s', fp', x, s1, E'.ok, S', h1, fun H1 G1 fp1 E1 S1 _ => ?_⟩
        have E2 := E'.trans E1
        cases x with
        | false =>
          show if false = true then _ else _
          rw [if_neg Bool.false_ne_true]
          rw [if_neg Bool.false_ne_true] at hw
          cases hw
          exact q σ' H1 G1 fp1 E2 S1 p'
        | true =>
          show if true = true then _ else _
          rw [if_pos rfl]
          rw [if_pos rfl] at hw
          refine ⟨fun σ'' H'' => ∃ G'' s'' fp'', Ev H G fp H'' G'' fp'' ∧ Slots c H'' G'' σ'' s'' fp'' ∧ PinEq pins σ σ'' ∧ whileF t u m s'' = some fl, fun σ'' H'' n => ⟨m, Nat.lt_succ_self _, n⟩, ?_⟩
          cases h4 : u s1 with
          | none => simp [h4] at hw
          | some f4 =>
            simp only [h4, Option.bind_some] at hw
            refine ⟨G1, s1, fp1, f4, E1.ok, S1, h4, ?_⟩
            cases f4 with
            | next s4 => exact fun σ4 H4 G4 fp4 E4 S4 p4 => ⟨G4, s4, fp4, E2.trans E4, S4, p'.trans p4, hw⟩
            | cont s4 => exact fun σ4 H4 G4 fp4 E4 S4 p4 => ⟨G4, s4, fp4, E2.trans E4, S4, p'.trans p4, hw⟩
            | brk s4 =>
              cases hw
              exact fun σ4 H4 G4 fp4 E4 S4 p4 => q σ4 H4 G4 fp4 (E2.trans E4) S4 (p'.trans p4)
            | ret d s4 =>
              cases hw
              have q2 := PostS.ahead q E2 p'
              cases d <;> exact q2

/-! ### calls of defs on plain data -/
def spP (c : Cc) (m : List D → Option D) : Sp := fun vs H Q _ => ∃ G ds r, Same G H ∧ Reps c.K G vs ds ∧ m ds = some r ∧ ∀ v H' G', Grow H G H' G' → Rep c.K G' v r → Q v H'
theorem call_ok {m : List D → Option D} {E : XK} {Q : VK} (q : tE c b1 (eCall m fa) σ H Q) : tCall (spP c m) [] E (tA c b1 fa) σ H Q := by
  obtain ⟨G, s, fp, d, s', k, sl, hf, q⟩ := q
  unfold eCall at hf
  cases h1 : fa s with
  | none => rw [h1] at hf; exact nomatch hf
  | some p =>
    obtain ⟨ds, s1⟩ := p
    simp only [h1, Option.bind_some] at hf
    cases h2 : m ds with
    | none => simp [h2] at hf
    | some z =>
      simp only [h2, Option.map_some, Option.some.injEq, Prod.mk.injEq] at hf
      obtain ⟨rfl, rfl⟩ := hf
      refine ⟨G, s, fp, ds, s1, k, sl, h1, fun vs H1 G1 fp1 E1 S1 r1 p1 => ⟨G1, ds, z, E1.sub, by rw [List.append_nil]; exact r1, h2, fun v H' G' gr r => q v H' G' fp1 (E1.grow S1 gr) (S1.step gr) r (p1.grow gr)⟩⟩
section
variable {kl : Nat} {fA : Addr} {fd : FuncData} {ps : List Str} {x : Str} {p : Pos} {es : List Expr} {m : List D → Option D}
theorem ex_call (F : FnOk X.prog X.w X.K X.mg X.base CX0 kl fA fd ps (spP c m)) (hr : Room kl X.A) (hm : X.mg x = some (.ref fA)) (hk : PySem.W.keepIn X.K (.ref fA) = true) (hb : Binds X.K fd ps []) (ha : PA X (e :: es) (tA c b1 fa)) (hg : Gl X x := by rfl)
    (hdb : (x == ("__debug__" : Str)) = false := by decide) (he : starEach (e :: es) X.env = (false, eval e X.env) :: starEach es X.env := by rfl) (hpl : (backTo pos (starEach es X.env)).any (·.1) = false := by rfl) :
    PE X (.Call (.Name x p) (e :: es) [] pos) (tE c b1 (eCall m fa)) := PE_imp (pe_call (E := E0) F hr hg hm hk hb .nil pass0 ha hdb he hpl) fun _ _ _ q => call_ok q
theorem ex_call0 (F : FnOk X.prog X.w X.K X.mg X.base CX0 kl fA fd ps (spP c m)) (hr : Room kl X.A) (hm : X.mg x = some (.ref fA)) (hk : PySem.W.keepIn X.K (.ref fA) = true) (hb : Binds X.K fd ps []) (hg : Gl X x := by rfl)
    (hdb : (x == ("__debug__" : Str)) = false := by decide) : PE X (.Call (.Name x p) [] [] pos) (tE c true (eCall m aNil)) := PE_imp (pe_call0 (E := E0) F hr hg hm hk hb .nil pass0 hdb) fun σ H Q q => by
  obtain ⟨G, s, fp, d, s', k, sl, hf, q⟩ := q
  unfold eCall aNil at hf
  simp only [Option.bind_some] at hf
  cases h2 : m [] with
  | none => simp [h2] at hf
  | some z =>
    simp only [h2, Option.map_some, Option.some.injEq, Prod.mk.injEq] at hf
    obtain ⟨rfl, rfl⟩ := hf
    exact ⟨G, [], z, k.sub, .nil, h2, fun v H' G' gr r => q v H' G' fp ((Ev.refl k).grow sl gr) (sl.step gr) r (Pure.grow (Pure.here k.sub) gr)⟩
end

/-! ### a def -/
/-- a def's function, from its body's -/
def runP (np n : Nat) (fb : SF) (ds : List D) : Option D := if ds.length = np then (fb (ds.map O.val ++ List.replicate (n - np) O.un)).bind fun fl => match fl with
    | .ret (.d d) _ => some d
    | .next _ => some .non
    | _ => none
  else none
theorem slots_start {vs : List V} {ds : List D} (r : Reps c.K G vs ds) (n : Nat) : Slots c H G (vs.map some ++ List.replicate n none) (ds.map O.val ++ List.replicate n O.un) [] := by
  have un : ∀ n, Slots c H G (List.replicate n none) (List.replicate n O.un) [] := fun n => by
    induction n with
    | zero => exact .nil
    | succ n ih => exact .un ih
  induction ds generalizing vs with
  | nil => cases r; exact un n
  | cons d ds ih =>
    cases r with
    | cons r1 r2 => simpa using Slots.cons (.val r1) (ih r2)
variable {P : Program} {wd : World} {K : PySem.W.Frag} {mg : Str → Option Value} {base : Heap}
theorem fn_pure {x qual : Str} {sd : Stmt} {fA : Addr} {fd : FuncData} {N ps : List Str} {kl : Nat} (np n : Nat) (m : List D → Option D) (fb : SF) (hm : m = runP np n fb) (F : Fun K x qual sd fA fd) (Sc : FnScope N ps (defScope sd)) (hK : K = c.K) (e1 : ps.length = np) (e2 : N.length = n)
    (body : ∀ (cdv : Value) (A : Around) (outer : List Env) (s : Shared) (H : Hp) (E : XK), Room kl (A.deeper (envOfC qual (defScope sd) s.heap.objs.size fA cdv)) →
      PSs (cxOf CX0 P wd K mg base N qual (defScope sd) fA cdv A outer s H E).nox (defBody sd) (tS c [] fb)) : FnOk P wd K mg base CX0 (kl + 1) fA fd ps (spP c m) := by
  subst hm e1 e2
  refine F.ok Sc (fun vs H Q E h => ?_) fun cdv A outer s H vs Q E hr h => ⟨_, body cdv A outer s H E hr, ?_⟩
  · obtain ⟨G, ds, r, _, hr, hm, _⟩ := h
    rw [hr.length]
    unfold runP at hm
    split at hm
    · assumption
    · exact nomatch hm
  · obtain ⟨G, ds, r, e, hr, hm, q⟩ := h
    unfold runP at hm
    split at hm
    · rename_i hl
      cases h1 : fb (ds.map O.val ++ List.replicate (N.length - ps.length) O.un) with
      | none => rw [h1] at hm; exact nomatch hm
      | some fl =>
        simp only [h1, Option.bind_some] at hm
        refine ⟨G, _, [], fl, ⟨e, fun a ha => by simp at ha, List.nodup_nil⟩, ?_, h1, ?_⟩
        · unfold L2.start
          rw [hr.length, hl]
          exact slots_start hr _
        · cases fl with
          | ret d s' =>
            cases d with
            | d d =>
              cases hm
              exact fun v σ' H' G' fp' E1 S1 p1 r1 => q v H' G' E1.pure r1
            | n xs => exact nomatch hm
            | k xs => exact nomatch hm
          | next s' =>
            cases hm
            exact fun σ' H' G' fp' E1 S1 p1 => q .non H' G' E1.pure .non
          | _ => exact nomatch hm
    · exact nomatch hm
/-- a def that hands back a new list -/
def runN (np n : Nat) (fb : SF) (ds : List D) : Option (List D) := if ds.length = np then (fb (ds.map O.val ++ List.replicate (n - np) O.un)).bind fun fl => match fl with
    | .ret (.n xs) _ => some xs
    | _ => none
  else none
def spN (c : Cc) (m : List D → Option (List D)) : Sp := fun vs H Q _ => ∃ G ds r, Same G H ∧ Reps c.K G vs ds ∧ m ds = some r ∧ ∀ p us H' G', Ev H G [] H' G' [p] → H' p = some (.lst us) → Reps c.K G' us r → Q (.ref p) H'
theorem fn_new {x qual : Str} {sd : Stmt} {fA : Addr} {fd : FuncData} {N ps : List Str} {kl : Nat} (np n : Nat) (m : List D → Option (List D)) (fb : SF) (hm : m = runN np n fb) (F : Fun K x qual sd fA fd) (Sc : FnScope N ps (defScope sd)) (hK : K = c.K) (e1 : ps.length = np) (e2 : N.length = n)
    (body : ∀ (cdv : Value) (A : Around) (outer : List Env) (s : Shared) (H : Hp) (E : XK), Room kl (A.deeper (envOfC qual (defScope sd) s.heap.objs.size fA cdv)) →
      PSs (cxOf CX0 P wd K mg base N qual (defScope sd) fA cdv A outer s H E).nox (defBody sd) (tS c [] fb)) : FnOk P wd K mg base CX0 (kl + 1) fA fd ps (spN c m) := by
  subst hm e1 e2
  refine F.ok Sc (fun vs H Q E h => ?_) fun cdv A outer s H vs Q E hr h => ⟨_, body cdv A outer s H E hr, ?_⟩
  · obtain ⟨G, ds, r, _, hr, hm, _⟩ := h
    rw [hr.length]
    unfold runN at hm
    split at hm
    · assumption
    · exact nomatch hm
  · obtain ⟨G, ds, r, e, hr, hm, q⟩ := h
    unfold runN at hm
    split at hm
    · rename_i hl
      cases h1 : fb (ds.map O.val ++ List.replicate (N.length - ps.length) O.un) with
      | none => rw [h1] at hm; exact nomatch hm
      | some fl =>
        simp only [h1, Option.bind_some] at hm
        refine ⟨G, _, [], fl, ⟨e, fun a ha => by simp at ha, List.nodup_nil⟩, ?_, h1, ?_⟩
        · unfold L2.start
          rw [hr.length, hl]
          exact slots_start hr _
        · cases fl with
          | ret d s' =>
            cases d with
            | d d => exact nomatch hm
            | k xs => exact nomatch hm
            | n xs =>
              cases hm
              exact fun p vs σ' H' G' fp' E1 S1 p1 hv r1 => q p vs H' G' (E1.less (f1 := fp') (f2 := [p]) ((List.perm_append_comm (l₁ := [p]) (l₂ := fp')))) hv r1
          | _ => exact nomatch hm
    · exact nomatch hm
def nCall (m : List D → Option (List D)) (fa : AF) : AF := fun s => (fa s).bind fun p => (m p.1).map fun z => (z, p.2)
theorem callN_ok {m : List D → Option (List D)} {E : XK} {Q : VK} (q : tN c (nCall m fa) σ H Q) : tCall (spN c m) [] E (tA c b1 fa) σ H Q := by
  obtain ⟨G, s, fp, d, s', k, sl, hf, q⟩ := q
  unfold nCall at hf
  cases h1 : fa s with
  | none => rw [h1] at hf; exact nomatch hf
  | some p =>
    obtain ⟨ds, s1⟩ := p
    simp only [h1, Option.bind_some] at hf
    cases h2 : m ds with
    | none => simp [h2] at hf
    | some z =>
      simp only [h2, Option.map_some, Option.some.injEq, Prod.mk.injEq] at hf
      obtain ⟨rfl, rfl⟩ := hf
      refine ⟨G, s, fp, ds, s1, k, sl, h1, fun vs H1 G1 fp1 E1 S1 r1 p1 => ⟨G1, ds, z, E1.sub, by rw [List.append_nil]; exact r1, h2, fun p us H' G' E' hv r => ?_⟩⟩
      have E2 := Ev.beside (f1 := []) (f2 := fp1) E1.ok (List.Perm.refl _) S1.there E'
      exact q p us H' G' fp1 (E1.trans E2) (S1.stay E'.gs fun a ha => by
        cases z : H1 a with
        | none => exact absurd z (S1.there a ha)
        | some o => exact E'.frame a o z (by simp)) hv r
section
variable {kl : Nat} {fA : Addr} {fd : FuncData} {ps : List Str} {x : Str} {p : Pos} {es : List Expr} {m : List D → Option (List D)}
theorem xn_call (F : FnOk X.prog X.w X.K X.mg X.base CX0 kl fA fd ps (spN c m)) (hr : Room kl X.A) (hm : X.mg x = some (.ref fA)) (hk : PySem.W.keepIn X.K (.ref fA) = true) (hb : Binds X.K fd ps []) (ha : PA X (e :: es) (tA c b1 fa)) (hg : Gl X x := by rfl)
    (hdb : (x == ("__debug__" : Str)) = false := by decide) (he : starEach (e :: es) X.env = (false, eval e X.env) :: starEach es X.env := by rfl) (hpl : (backTo pos (starEach es X.env)).any (·.1) = false := by rfl) :
    PE X (.Call (.Name x p) (e :: es) [] pos) (tN c (nCall m fa)) := PE_imp (pe_call (E := E0) F hr hg hm hk hb .nil pass0 ha hdb he hpl) fun _ _ _ q => callN_ok q
end
/-- a new list as plain data -/
def eOfN (fa : AF) : EF := fun s => (fa s).map fun p => (.lst p.1, p.2)
theorem ex_ofN (he : PE X e (tN c fa)) : PE X e (tE c false (eOfN fa)) := PE_imp he fun σ H Q ⟨G, s, fp, d, s', k, sl, hf, q⟩ => by
  unfold eOfN at hf
  cases h1 : fa s with
  | none => rw [h1] at hf; exact nomatch hf
  | some p =>
    obtain ⟨xs, s1⟩ := p
    simp only [h1, Option.map_some, Option.some.injEq, Prod.mk.injEq] at hf
    obtain ⟨rfl, rfl⟩ := hf
    refine ⟨G, s, fp, xs, s1, k, sl, h1, fun p vs H' G' fp' E' S' hv rr => ?_⟩
    have gp : G' p = none := (E'.own p List.mem_cons_self).1
    have hp := (E'.own p List.mem_cons_self).2
    have nd := List.nodup_cons.mp E'.nd
    have sg : Same G' (upd G' p (.lst vs)) := same_upd gp
    refine q (.ref p) H' (upd G' p (.lst vs)) fp' ⟨E'.gs.trans sg, fun b o hb => ?_, fun a h3 h4 => ?_, E'.frame, E'.live, fun a ha => ?_, nd.2⟩ (S'.stay sg fun _ _ => rfl) (.lst (SqL.of upd_same) (rr.mono sg)) fun z => nomatch z
    · by_cases z : b = p
      · subst z; rw [upd_same] at hb; rw [← hb]; exact hv
      · rw [upd_ne z] at hb; exact E'.sub b o hb
    · by_cases z : a = p
      · subst z; exact hp.symm
      · rw [upd_ne z] at h4; exact E'.fresh a h3 h4
    · obtain ⟨x1, x2⟩ := E'.own a (List.mem_cons_of_mem _ ha)
      exact ⟨by rw [upd_ne fun z => nd.1 (by rw [← z]; exact ha)]; exact x1, x2⟩
end
end DL
/-! DL 6: list comprehensions. -/
namespace DL
open PySem PySem.Spec PyProof.Rows L2

def wipeS (s : S) : List Nat → S
  | [] => s
  | v :: vs => (wipeS s vs).set v .un
def plainO : O → Bool
  | .un => true
  | .val _ => true
  | _ => false
def plainS (s : S) (own : List Nat) : Bool := own.all fun i => match s[i]? with
  | some o => plainO o
  | none => true
def restS (s0 sq : S) : List Nat → S
  | [] => sq
  | v :: vs => match s0[v]? with
    | some (.val d) => (restS s0 sq vs).set v (.val d)
    | _ => restS s0 sq vs
def lcD (g : GF) (ft : BF) (fe : EF) (own : List Nat) : List D → S → List D → Option (List D × S)
  | [], s, acc => some (acc, s)
  | x :: xs, s, acc => (g x s).bind fun s1 => (ft s1).bind fun p => if p.1 = true then (fe p.2).bind fun q => if acc.length < cap then lcD g ft fe own xs (wipeS q.2 own) (acc ++ [q.1]) else none
    else lcD g ft fe own xs (wipeS p.2 own) acc
def aLc (own : List Nat) (fi : AF) (g : GF) (ft : BF) (fe : EF) : AF := fun s => (fi s).bind fun p => if plainS p.2 own = true then (lcD g ft fe own p.1 (wipeS p.2 own) []).map fun q => (q.1, restS p.2 q.2 own) else none
def eLc (own : List Nat) (fi : AF) (g : GF) (ft : BF) (fe : EF) : EF := fun s => (aLc own fi g ft fe s).map fun p => (.lst p.1, p.2)
def bYes : BF := fun s => some (true, s)

section
variable {c : Cc} {H H' H1 H2 G G' G1 G2 : Hp} {s s0 s1 s2 : S} {fp fp' fp1 fp2 : List Addr} {σ τ : L2.St}
theorem wipeS_len (s : S) : ∀ vs : List Nat, (wipeS s vs).length = s.length
  | [] => rfl
  | v :: vs => by unfold wipeS; rw [List.length_set, wipeS_len s vs]
theorem wipeS_get (s : S) : ∀ (vs : List Nat) (j : Nat), (wipeS s vs)[j]? = if j ∈ vs ∧ j < s.length then some .un else s[j]?
  | [], j => by simp [wipeS]
  | v :: vs, j => by
    have ih := wipeS_get s vs j
    unfold wipeS
    by_cases hv : v = j
    · subst hv
      by_cases hl : v < s.length
      · rw [List.getElem?_set_self (by rw [wipeS_len]; exact hl)]
        simp [hl]
      · rw [List.getElem?_eq_none (by rw [List.length_set, wipeS_len]; omega)]
        simp [hl]
    · rw [List.getElem?_set_ne hv, ih]
      simp only [List.mem_cons]
      have : (j = v ∨ j ∈ vs) ↔ j ∈ vs := ⟨fun h => h.resolve_left fun e => hv e.symm, .inr⟩
      simp only [this]
theorem wipe_get (σ : L2.St) : ∀ (vs : List Nat) (j : Nat), (wipe σ vs)[j]? = if j ∈ vs ∧ j < σ.length then some none else σ[j]?
  | [], j => by simp [wipe]
  | v :: vs, j => by
    have ih := wipe_get σ vs j
    unfold wipe
    by_cases hv : v = j
    · subst hv
      by_cases hl : v < σ.length
      · rw [List.getElem?_set_self (by rw [wipe_length]; exact hl)]
        simp [hl]
      · rw [List.getElem?_eq_none (by rw [List.length_set, wipe_length]; omega)]
        simp [hl]
    · rw [List.getElem?_set_ne hv, ih]
      simp only [List.mem_cons]
      have : (j = v ∨ j ∈ vs) ↔ j ∈ vs := ⟨fun h => h.resolve_left fun e => hv e.symm, .inr⟩
      simp only [this]
theorem wipeS_idem (s : S) (vs : List Nat) : wipeS (wipeS s vs) vs = wipeS s vs := by
  apply List.ext_getElem?
  intro j
  rw [wipeS_get, wipeS_get, wipeS_len]
  split <;> rfl
theorem restS_get (s0 sq : S) : ∀ (vs : List Nat) (j : Nat), sq.length = s0.length → (restS s0 sq vs).length = s0.length ∧ (restS s0 sq vs)[j]? = if j ∈ vs then (match s0[j]? with | some (.val d) => some (.val d) | _ => sq[j]?) else sq[j]?
  | [], j, h => by simp [restS, h]
  | v :: vs, j, h => by
    obtain ⟨l, ih⟩ := restS_get s0 sq vs j h
    unfold restS
    by_cases hv : j = v
    · subst hv
      split
      · rename_i d e
        have hl : j < s0.length := (List.getElem?_eq_some_iff.mp e).1
        refine ⟨by rw [List.length_set, l], ?_⟩
        rw [List.getElem?_set_self (by rw [l]; exact hl)]
        simp [e]
      · rename_i e
        refine ⟨l, ?_⟩
        rw [ih]
        simp only [List.mem_cons, true_or, if_true]
        split <;> rfl
    · have hm : (j ∈ v :: vs) ↔ j ∈ vs := by simp [hv]
      split
      · rename_i d e
        refine ⟨by rw [List.length_set, l], ?_⟩
        rw [List.getElem?_set_ne (fun z => hv z.symm), ih]
        simp only [hm]
      · refine ⟨l, ?_⟩
        rw [ih]
        simp only [hm]
theorem rest_wipe {own : List Nat} (h : plainS s own = true) : restS s (wipeS s own) own = s := by
  apply List.ext_getElem?
  intro j
  rw [(restS_get s (wipeS s own) own j (wipeS_len s own)).2]
  split
  · rename_i hj
    split
    · rename_i d e; exact e.symm
    · rename_i e
      rw [wipeS_get]
      split
      · rename_i h2
        have h3 := List.all_eq_true.mp h j hj
        rw [List.getElem?_eq_getElem h2.2] at h3 e ⊢
        simp only at h3
        cases q : s[j] with
        | un => rfl
        | val d => exact absurd (by rw [q]) (e d)
        | lst xs => rw [q] at h3; exact nomatch h3
        | obj k fs => rw [q] at h3; exact nomatch h3
        | dct xs => rw [q] at h3; exact nomatch h3
      · rfl
  · rename_i hj
    rw [wipeS_get, if_neg fun z => hj z.1]
theorem Slots.wipe1 : ∀ {σ : L2.St} {s : S} {fp : List Addr} {i : Nat} {x : Option V}, Slots c H G σ s fp → (∀ o, s[i]? = some o → plainO o = true) → Slots c H G (σ.set i x) (s.set i .un) fp
  | _, _, _, _, _, .nil, _ => .nil
  | _, _, _, 0, _, .un t, _ => .un t
  | _, _, _, i + 1, _, .un t, h => .un (Slots.wipe1 t fun o e => h o (by simpa using e))
  | _, _, _, 0, _, .cons (o := o) r t, h => by
    cases r with
    | val r => exact .un t
    | lst _ _ => exact nomatch h _ rfl
    | obj _ _ _ => exact nomatch h _ rfl
    | dct _ _ => exact nomatch h _ rfl
  | _, _, _, i + 1, _, .cons r t, h => .cons r (Slots.wipe1 t fun o e => h o (by simpa using e))
theorem Slots.wipes (sl : Slots c H G σ s fp) : ∀ {own : List Nat}, plainS s own = true → Slots c H G (wipe σ own) (wipeS s own) fp
  | [], _ => sl
  | v :: vs, h => by
    have h1 : plainS s vs = true := List.all_eq_true.mpr fun x hx => List.all_eq_true.mp h x (List.mem_cons_of_mem _ hx)
    refine Slots.wipe1 (Slots.wipes sl h1) fun o e => ?_
    rw [wipeS_get] at e
    split at e
    · cases e; rfl
    · have h3 := List.all_eq_true.mp h v List.mem_cons_self
      rw [e] at h3
      exact h3
/-- other values in the slots of which nothing is known -/
theorem Slots.other : ∀ {τ : L2.St} {s : S} {fp : List Addr} {σ : L2.St}, Slots c H G τ s fp → σ.length = τ.length → (∀ j : Nat, s[j]? = some O.un ∨ σ[j]? = τ[j]?) → Slots c H G σ s fp
  | _, _, _, [], .nil, _, _ => .nil
  | _, _, _, _ :: _, .nil, hl, _ => nomatch hl
  | _, _, _, [], .un _, hl, _ => nomatch hl
  | _, _, _, [], .cons _ _, hl, _ => nomatch hl
  | _, _, _, x :: σ, .un t, hl, h => .un (Slots.other t (by simpa using hl) fun j => by simpa using h (j + 1))
  | _, _, _, x :: σ, .cons (v := v) (o := o) r t, hl, h => by
    have e : x = some v := by
      rcases h 0 with z | z
      · simp at z
        subst z
        cases r
      · simpa using z
    subst e
    exact .cons r (Slots.other t (by simpa using hl) fun j => by simpa using h (j + 1))
theorem Slots.rest {sq : S} (s0l : Slots c H G σ s0 fp) (e : Same G G') (hsq : sq.length = s0.length) : ∀ {own : List Nat} {fq : List Addr}, own.Nodup → (∀ j ∈ own, j < s0.length → sq[j]? = some .un) → Slots c H' G' σ sq fq → ∃ fq', fq'.Perm fq ∧ Slots c H' G' σ (restS s0 sq own) fq'
  | [], fq, _, _, sl => ⟨fq, List.Perm.refl _, sl⟩
  | v :: vs, fq, nd, hu, sl => by
    obtain ⟨nv, nd'⟩ := List.nodup_cons.mp nd
    obtain ⟨fq', p', sl'⟩ := Slots.rest (own := vs) (fq := fq) s0l e hsq nd' (fun j hj => hu j (List.mem_cons_of_mem _ hj)) sl
    unfold restS
    split
    · rename_i d ed
      obtain ⟨u, f1, f2, h1, h2, _⟩ := s0l.split ed (by simp)
      cases h2 with
      | val r =>
        have hl : v < s0.length := (List.getElem?_eq_some_iff.mp ed).1
        have hun : (restS s0 sq vs)[v]? = some .un := by
          rw [(restS_get s0 sq vs v hsq).2, if_neg nv]
          exact hu v List.mem_cons_self hl
        obtain ⟨fp3, p3, sl3⟩ := Slots.back (.val (r.mono e)) sl' hun h1
        exact ⟨fp3, (by simpa using p3 : fp3.Perm fq').trans p', sl3⟩
    · exact ⟨fq', p', sl'⟩
theorem Ev.side {Dl : Addr} {o : HO} (E : Ev H G fp H' G' fp') (h : H Dl = some o) (hf : Dl ∉ fp) (hg : G Dl = none) : H' Dl = some o ∧ Dl ∉ fp' ∧ G' Dl = none := by
  refine ⟨E.frame _ _ h hf, fun z => ?_, ?_⟩
  · rcases (E.own _ z).2 with y | y
    · exact hf y
    · rw [h] at y; cases y
  · cases q : G' Dl with
    | none => rfl
    | some o' =>
      rcases E.fresh _ hg (by rw [q]; simp) with y | y
      · rw [h] at y; cases y
      · exact absurd y hf
theorem Ev.updSide {Dl : Addr} {o : HO} (E : Ev H G fp H' G' fp') (h : H Dl = none) (hg : G' Dl = none) : Ev H G fp (upd H' Dl o) G' fp' :=
  { E with
    sub := fun b u hb => by
      rw [upd_ne fun z => by rw [z, hg] at hb; cases hb]
      exact E.sub b u hb
    frame := fun a u ha hn => by
      rw [upd_ne fun z => by rw [z, h] at ha; cases ha]
      exact E.frame a u ha hn
    live := fun a ha => by
      by_cases z : a = Dl
      · rw [z, upd_same]; simp
      · rw [upd_ne z]; exact E.live a ha }
theorem Grow.updSide {Dl : Addr} {o : HO} (E : Grow H G H' G') (h : H Dl = none) (hg : G' Dl = none) : Grow H G (upd H' Dl o) G' :=
  { E with
    hs := fun a u ha => by
      rw [upd_ne fun z => by rw [z, h] at ha; cases ha]
      exact E.hs a u ha
    sub := fun b u hb => by
      rw [upd_ne fun z => by rw [z, hg] at hb; cases hb]
      exact E.sub b u hb }
end

theorem PTs_imp {X : Cx} {ifs : List Expr} {t t' : TT} (h : PTs X ifs t) (k : ∀ σ H Q, t' σ H Q → t σ H Q) : PTs X ifs t' := ⟨fun pins s σ H Q I q => h.run pins s σ H Q I (k σ H Q q)⟩
section
variable {c : Cc} {X : Cx} {b1 b2 b3 : Bool} {fe : EF} {ft : BF} {fi : AF} {gf : GF} {pos : Pos} {elt tg iter : Expr} {ifs : List Expr} {scope : Scope} {own : List (Str × Nat)} {pins' : List Nat}
variable {H H1 G G1 : Hp} {s s1 : S} {fp fp1 : List Addr} {σ : L2.St}
theorem xts_nil : PTs X [] (tT c true bYes) := PTs_imp pts_nil fun σ H Q ⟨G, s, fp, d, s', k, sl, hf, q⟩ => by
  cases hf
  exact q H G fp (Ev.refl k) sl (Pure.here k.sub)
theorem xts_one {cd : Expr} (h : PT X cd (tT c b1 ft)) : PTs X [cd] (tT c b1 ft) := pts_one h
def GOwn (gf : GF) (own : List Nat) : Prop := ∀ d s s', gf d s = some s' → wipeS s' own = wipeS s own
theorem gown_set {own : List Nat} {i : Nat} (hi : i ∈ own) (s : S) (o : O) : wipeS (s.set i o) own = wipeS s own := by
  apply List.ext_getElem?
  intro j
  rw [wipeS_get, wipeS_get, List.length_set]
  split
  · rfl
  · rename_i hj
    by_cases hji : i = j
    · subst hji
      have hl : ¬ i < s.length := fun z => hj ⟨hi, z⟩
      rw [List.getElem?_eq_none (by rw [List.length_set]; omega), List.getElem?_eq_none (by omega)]
    · rw [List.getElem?_set_ne hji]
theorem gown_name {own : List Nat} {i : Nat} (hi : i ∈ own := by decide) : GOwn (gN i) own := fun d s s' h => by
  unfold gN at h
  split at h
  · cases h; exact gown_set hi s _
  · exact nomatch h
def GsOwn (gs : List D → S → Option S) (own : List Nat) : Prop := ∀ d s s', gs d s = some s' → wipeS s' own = wipeS s own
theorem gown_nil {own : List Nat} : GsOwn gsNil own := fun d s s' h => by
  cases d with
  | nil => cases h; rfl
  | cons _ _ => exact nomatch h
theorem gown_cons {own : List Nat} {g : GF} {gs : List D → S → Option S} (h1 : GOwn g own) (h2 : GsOwn gs own) : GsOwn (gsCons g gs) own := fun d s s' h => by
  cases d with
  | nil => exact nomatch h
  | cons x xs =>
    simp only [gsCons] at h
    cases e : g x s with
    | none => simp [e] at h
    | some s1 =>
      simp only [e, Option.bind_some] at h
      rw [h2 _ _ _ h, h1 _ _ _ e]
theorem gown_tup {own : List Nat} {gs : List D → S → Option S} (h : GsOwn gs own) : GOwn (gTup gs) own := fun d s s' e => by
  cases d with
  | tup xs => exact h xs s s' e
  | _ => exact nomatch e
theorem wipe_of_pins {own : List Nat} {n : Nat} {σ σ' : L2.St} (hl : σ.length = n) (hp : ∀ i < n, i ∉ own → i ∈ pins') (p : PinEq pins' (wipe σ own) σ') : wipe σ' own = wipe σ own := by
  have l : σ'.length = σ.length := p.1.trans (wipe_length σ own)
  apply List.ext_getElem?
  intro j
  rw [wipe_get, wipe_get, l]
  split
  · rfl
  · rename_i hj
    by_cases hjl : j < n
    · have hjo : j ∉ own := fun z => hj ⟨z, by omega⟩
      rw [p.2 j (hp j hjl hjo), wipe_get, if_neg fun z => hjo z.1]
    · rw [List.getElem?_eq_none (by omega), List.getElem?_eq_none (by omega)]

/-- the heart: the new list, hidden, and what is to be done with it at the end -/
theorem lc_ok (n : Nat) (hn : σ.length = n) (hp : ∀ i < n, i ∉ own.map (·.2) → i ∈ pins') (ho : GOwn gf (own.map (·.2))) (hnd : (own.map (·.2)).Nodup) {Q : VK} (b : Bool) (hb : b = (b1 && (b2 && b3)))
    (q : ∃ G s fp xs s', Ok H G fp ∧ Slots c H G σ s fp ∧ aLc (own.map (·.2)) fi gf ft fe s = some (xs, s') ∧ ∀ Dl vs H' G' fp', H Dl = none → G' Dl = none → Dl ∉ fp' → Ev H G fp H' G' fp' → Slots c H' G' σ s' fp' → H' Dl = some (.lst vs) → Reps c.K G' vs xs → Pure b H G s fp H' G' s' fp' → Q (.ref Dl) H') :
    tLc (tI c b1 fi) (tG c pins' true gf) (tT c b2 ft) (tE c b3 fe) (own.map (·.2)) σ H Q := by
  obtain ⟨G, s, fp, xs, s', k, sl, hf, q⟩ := q
  unfold aLc at hf
  cases h1 : fi s with
  | none => rw [h1] at hf; exact nomatch hf
  | some p =>
    obtain ⟨ys, s1⟩ := p
    simp only [h1, Option.bind_some] at hf
    split at hf
    · rename_i hpl
      cases h2 : lcD gf ft fe (own.map (·.2)) ys (wipeS s1 (own.map (·.2))) [] with
      | none => rw [h2] at hf; exact nomatch hf
      | some pq =>
        obtain ⟨accF, sF⟩ := pq
        simp only [h2, Option.map_some, Option.some.injEq, Prod.mk.injEq] at hf
        obtain ⟨rfl, rfl⟩ := hf
        refine ⟨G, s, fp, ys, s1, k, sl, h1, fun J H1 G1 fp1 E1 S1 Y pu1 Dl hDl => ?_⟩
        have gD1 : G1 Dl = none := E1.sub.free hDl
        have hDH : H Dl = none := by
          cases z : H Dl with
          | none => rfl
          | some o => exact absurd hDl (E1.live Dl (by rw [z]; simp))
        have gr0 : Grow H1 G1 (upd H1 Dl (.lst [])) G1 := Grow.hid E1.sub hDl
        have W1 : Slots c H1 G1 (wipe σ (own.map (·.2))) (wipeS s1 (own.map (·.2))) fp1 := S1.wipes hpl
        have ls1 : σ.length = s1.length := S1.length
        refine ⟨fun i m H' => m = ys.length - i ∧ i ≤ ys.length ∧ ∃ G' s' fp' vs acc, Ev H1 G1 fp1 H' G' fp' ∧ Slots c H' G' (wipe σ (own.map (·.2))) s' fp' ∧ wipeS s' (own.map (·.2)) = s' ∧ H' Dl = some (.lst vs) ∧ Dl ∉ fp' ∧ G' Dl = none ∧ Reps c.K G' vs acc ∧
          lcD gf ft fe (own.map (·.2)) (ys.drop i) s' acc = some (accF, sF) ∧ ((b2 && b3) = true → Grow H1 G1 H' G' ∧ s' = wipeS s1 (own.map (·.2))),
          ⟨ys.length, by simp, Nat.zero_le _, G1, _, fp1, [], [], gr0.ev E1.ok S1, W1.step gr0, wipeS_idem _ _, upd_same, fun z => absurd hDl (S1.there _ z), gD1, .nil, by simpa using h2, fun _ => ⟨gr0, rfl⟩⟩, ?_⟩
        rintro i m H' ⟨rfl, hi, G', s', fp', vs, acc, E', S', hw, hD, hDf, hDg, rr, hlc, pu⟩
        obtain ⟨y1, y2⟩ := Y i H' G' E'.gs E'.sub
        by_cases hlt : i < ys.length
        · obtain ⟨go, yy⟩ := y1 ys[i] (List.getElem?_eq_getElem hlt)
          refine .inr ⟨go, fun H'' => ∃ G'' s'' fp'' vs acc, Ev H1 G1 fp1 H'' G'' fp'' ∧ Slots c H'' G'' (wipe σ (own.map (·.2))) s'' fp'' ∧ wipeS s'' (own.map (·.2)) = s'' ∧ H'' Dl = some (.lst vs) ∧ Dl ∉ fp'' ∧ G'' Dl = none ∧ Reps c.K G'' vs acc ∧
            lcD gf ft fe (own.map (·.2)) (ys.drop (i + 1)) s'' acc = some (accF, sF) ∧ ((b2 && b3) = true → Grow H1 G1 H'' G'' ∧ s'' = wipeS s1 (own.map (·.2))), fun H'' nx => ⟨ys.length - (i + 1), by omega, rfl, hlt, nx⟩, fun x H2 hy => ?_⟩
          obtain ⟨G2, gr, rx⟩ := yy x H2 hy
          rw [List.drop_eq_getElem_cons hlt] at hlc
          unfold lcD at hlc
          cases h3 : gf ys[i] s' with
          | none => simp [h3] at hlc
          | some s3 =>
            simp only [h3, Option.bind_some] at hlc
            have E2 := E'.grow S' gr
            have S2 := S'.step gr
            have hD2 : H2 Dl = some (.lst vs) := gr.hs _ _ hD
            have hDg2 : G2 Dl = none := (gr.nw Dl (by rw [hD]; simp)).trans hDg
            refine ⟨G2, s', fp', _, s3, E2.ok, S2, rx, h3, fun σ3 H3 G3 fp3 E3 S3 p3 g3 => ⟨wipe_of_pins hn hp p3, ?_⟩⟩
            obtain ⟨hD3, hDf3, hDg3⟩ := E3.side hD2 hDf hDg2
            have hw3 : wipeS s3 (own.map (·.2)) = s' := (ho _ _ _ h3).trans hw
            have hwσ := wipe_of_pins hn hp p3
            cases h4 : ft s3 with
            | none => simp [h4] at hlc
            | some p4 =>
              obtain ⟨bb, s4⟩ := p4
              simp only [h4, Option.bind_some] at hlc
              refine ⟨G3, s3, fp3, bb, s4, E3.ok, S3, h4, fun H4 G4 fp4 E4 S4 pu4 => ?_⟩
              obtain ⟨hD4, hDf4, hDg4⟩ := E4.side hD3 hDf3 hDg3
              show if bb = true then _ else _
              -- the slots behind a turn
              have back : ∀ {H5 G5 : Hp} {s5 : S} {fp5 : List Addr}, Slots c H5 G5 σ3 s5 fp5 → ∃ f1 f2, fp5.Perm (f1 ++ f2) ∧ Slots c H5 G5 (wipe σ (own.map (·.2))) (wipeS s5 (own.map (·.2))) f2 := fun {H5 G5 s5 fp5} S5 => by
                have go : ∀ (vs : List Nat) {σ5 : L2.St} {s5 : S} {fp5 : List Addr}, Slots c H5 G5 σ5 s5 fp5 → ∃ f1 f2, fp5.Perm (f1 ++ f2) ∧ Slots c H5 G5 (wipe σ5 vs) (wipeS s5 vs) f2 := by
                  intro vs
                  induction vs with
                  | nil => intro σ5 s5 fp5 S5; exact ⟨[], fp5, List.Perm.refl _, S5⟩
                  | cons v vs ih =>
                    intro σ5 s5 fp5 S5
                    obtain ⟨f1, f2, p1, S6⟩ := ih S5
                    obtain ⟨g1, g2, p2, S7⟩ := S6.forget v none
                    refine ⟨f1 ++ g1, g2, ?_, S7⟩
                    rw [List.append_assoc]
                    exact p1.trans (List.Perm.append_left f1 p2)
                obtain ⟨f1, f2, p1, S6⟩ := go (own.map (·.2)) S5
                rw [hwσ] at S6
                exact ⟨f1, f2, p1, S6⟩
              have E14 : Ev H1 G1 fp1 H4 G4 fp4 := (E2.trans E3).trans E4
              cases bb with
              | true =>
                rw [if_pos rfl] at hlc ⊢
                cases h5 : fe s4 with
                | none => simp [h5] at hlc
                | some p5 =>
                  obtain ⟨dd, s5⟩ := p5
                  simp only [h5, Option.bind_some] at hlc
                  split at hlc
                  · rename_i hcap
                    refine ⟨G4, s4, fp4, dd, s5, E4.ok, S4, h5, fun yv H5 G5 fp5 E5 S5 r5 pu5 => ?_⟩
                    obtain ⟨hD5, hDf5, hDg5⟩ := E5.side hD4 hDf4 hDg4
                    obtain ⟨f1, f2, pf, S6⟩ := back S5
                    have E15 := (E14.trans E5).less pf
                    have hDf6 : Dl ∉ f2 := fun z => hDf5 (pf.mem_iff.mpr (List.mem_append_right _ z))
                    have rr5 : Reps c.K G5 vs acc := (((rr.mono gr.gs).mono E3.gs).mono E4.gs).mono E5.gs
                    refine ⟨vs, hD5, by rw [rr5.length]; exact Nat.lt_trans hcap cap_lt, G5, _, f2, vs ++ [yv], acc ++ [dd], E15.updSide hDl hDg5, ?_, wipeS_idem _ _, upd_same, hDf6, hDg5, rr5.append (Reps.one r5), hlc, fun hb23 => ?_⟩
                    · exact S6.stay (Same.refl _) fun a ha => upd_ne fun z => hDf6 (by rw [← z]; exact ha)
                    · obtain ⟨pg, ps⟩ := pu hb23
                      obtain ⟨hb2, hb3⟩ := Bool.and_eq_true_iff.mp hb23
                      obtain ⟨g4, e4⟩ := pu4 hb2
                      obtain ⟨g5, e5⟩ := pu5 hb3
                      refine ⟨((((pg.trans gr).trans (g3 rfl)).trans g4).trans g5).updSide hDl hDg5, ?_⟩
                      rw [e5, e4, hw3, ps]
                  · exact nomatch hlc
              | false =>
                rw [if_neg Bool.false_ne_true] at hlc ⊢
                obtain ⟨f1, f2, pf, S6⟩ := back S4
                refine ⟨G4, _, f2, vs, acc, E14.less pf, S6, wipeS_idem _ _, hD4, fun z => hDf4 (pf.mem_iff.mpr (List.mem_append_right _ z)), hDg4, ((rr.mono gr.gs).mono E3.gs).mono E4.gs, hlc, fun hb23 => ?_⟩
                obtain ⟨pg, ps⟩ := pu hb23
                obtain ⟨hb2, hb3⟩ := Bool.and_eq_true_iff.mp hb23
                obtain ⟨g4, e4⟩ := pu4 hb2
                refine ⟨((pg.trans gr).trans (g3 rfl)).trans g4, ?_⟩
                rw [e4, hw3, ps]
        · have e : i = ys.length := by omega
          subst e
          rw [List.drop_length] at hlc
          simp only [lcD, Option.some.injEq, Prod.mk.injEq] at hlc
          obtain ⟨rfl, rfl⟩ := hlc
          have lsF : s'.length = s1.length := by rw [← S'.length, wipe_length]; exact ls1
          have S8 : Slots c H' G' σ s' fp' := S'.other (wipe_length _ _).symm fun j => by
            rw [wipe_get]
            by_cases hj : j ∈ own.map (·.2) ∧ j < σ.length
            · left
              rw [← hw, wipeS_get, if_pos ⟨hj.1, by rw [lsF, ← ls1]; exact hj.2⟩]
            · right
              rw [if_neg hj]
          obtain ⟨fq, pq, S9⟩ := Slots.rest (own := own.map (·.2)) S1 E'.gs lsF hnd (fun j hj hl => by rw [← hw, wipeS_get, if_pos ⟨hj, by rw [lsF]; exact hl⟩]) S8
          refine .inl ⟨y2 (Nat.le_refl _), q Dl vs H' G' fq hDH hDg (fun z => hDf (pq.mem_iff.mp z)) ((E1.trans E').perm pq) S9 hD rr fun hbt => ?_⟩
          rw [hb] at hbt
          obtain ⟨hb1, hb23⟩ := Bool.and_eq_true_iff.mp hbt
          obtain ⟨g1, e1⟩ := pu1 hb1
          obtain ⟨g2, e2⟩ := pu hb23
          refine ⟨g1.trans g2, ?_⟩
          rw [e2, rest_wipe hpl, e1]
    · exact nomatch hf

theorem inv_len {X : Cx} {pins : List (Addr × Obj)} {σ : L2.St} {H : Hp} {s : Shared} (I : Inv X pins σ H s) : σ.length = X.N.length := I.len
theorem ex_lc (hN : X.N.Nodup) (hi : PI X tg iter (tI c b1 fi)) (ok : BlkOk X.N X.env.scope scope own) (hp : ∀ i < X.N.length, i ∉ own.map (·.2) → i ∈ pins') (ho : GOwn gf (own.map (·.2)))
    (hg : ∀ (s : Shared) (H : Hp) (C : Addr) (cl : List (Str × Addr)) (fp : List Addr), PG (X.blk s H scope (compEnvC scope cl C X.env) fp) tg (tG c pins' true gf)) (ht : ∀ (s : Shared) (H : Hp) (C : Addr) (cl : List (Str × Addr)) (fp : List Addr), PTs (X.blk s H scope (compEnvC scope cl C X.env) fp) ifs (tT c b2 ft))
    (he : ∀ (s : Shared) (H : Hp) (C : Addr) (cl : List (Str × Addr)) (fp : List Addr), PE (X.blk s H scope (compEnvC scope cl C X.env) fp) elt (tE c b3 fe)) (hnd : (own.map (·.2)).Nodup := by decide) (hc : X.calm = true := by rfl) (hs : ∀ x, foldedSetIterable iter X.env x = pure x := by exact fun _ => rfl) :
    PE X (.ListComp elt [⟨tg, iter, ifs, 0⟩] scope pos) (tE c (b1 && (b2 && b3)) (eLc (own.map (·.2)) fi gf ft fe)) := by
  refine ⟨fun pins s σ H Q I ⟨G, S, fp, d, s', k, sl, hf, q⟩ => (pe_lc hc hN hi ok hg ht he hs).run pins s σ H Q I (lc_ok X.N.length I.len hp ho hnd _ rfl ?_)⟩
  unfold eLc at hf
  cases h1 : aLc (own.map (·.2)) fi gf ft fe S with
  | none => rw [h1] at hf; exact nomatch hf
  | some p =>
    obtain ⟨xs, s1⟩ := p
    simp only [h1, Option.map_some, Option.some.injEq, Prod.mk.injEq] at hf
    obtain ⟨rfl, rfl⟩ := hf
    refine ⟨G, S, fp, xs, s1, k, sl, h1, fun Dl vs H' G' fp' hD hDg hDf E' S' hv rr pu => ?_⟩
    have sg : Same G' (upd G' Dl (.lst vs)) := same_upd hDg
    have sb : Same (upd G' Dl (.lst vs)) H' := fun b o hb => by
      by_cases z : b = Dl
      · subst z; rw [upd_same] at hb; cases hb; exact hv
      · rw [upd_ne z] at hb; exact E'.sub b o hb
    refine q (.ref Dl) H' (upd G' Dl (.lst vs)) fp' { E' with gs := E'.gs.trans sg, sub := sb, fresh := fun a h3 h4 => ?_, own := fun a ha => ?_ } (S'.stay sg fun _ _ => rfl) (.lst (SqL.of upd_same) (rr.mono sg)) fun hb => ?_
    · by_cases z : a = Dl
      · subst z; exact .inl hD
      · rw [upd_ne z] at h4; exact E'.fresh a h3 h4
    · obtain ⟨x1, x2⟩ := E'.own a ha
      exact ⟨by rw [upd_ne fun z => hDf (by rw [← z]; exact ha)]; exact x1, x2⟩
    · obtain ⟨g1, e1⟩ := pu hb
      exact ⟨⟨g1.hs, g1.gs.trans sg, sb, fun a ha => by rw [upd_ne fun z => ha (by rw [z]; exact hD)]; exact g1.nw a ha⟩, e1⟩
/-- y = [..] on one line, the list frozen -/
theorem sx_setLc (pins : List Nat) (i : Nat) {y : Str} {py spos : Pos} (hN : X.N.Nodup) (hi : PI X tg iter (tI c b1 fi)) (ok : BlkOk X.N X.env.scope scope own) (hp : ∀ i < X.N.length, i ∉ own.map (·.2) → i ∈ pins') (ho : GOwn gf (own.map (·.2)))
    (hg : ∀ (s : Shared) (H : Hp) (C : Addr) (cl : List (Str × Addr)) (fp : List Addr), PG (X.blk s H scope (compEnvC scope cl C X.env) fp) tg (tG c pins' true gf)) (ht : ∀ (s : Shared) (H : Hp) (C : Addr) (cl : List (Str × Addr)) (fp : List Addr), PTs (X.blk s H scope (compEnvC scope cl C X.env) fp) ifs (tT c b2 ft))
    (he : ∀ (s : Shared) (H : Hp) (C : Addr) (cl : List (Str × Addr)) (fp : List Addr), PE (X.blk s H scope (compEnvC scope cl C X.env) fp) elt (tE c b3 fe))
    (hsw : swapsWith (.ListComp elt [⟨tg, iter, ifs, 0⟩] scope pos) (some (.Name y py)) spos.line X.env = pure true) (hpi : i ∉ pins := by decide) (hy : X.N[i]? = some y := by rfl) (hyl : X.env.scope.names.lookup y = some .local := by rfl)
    (hnd : (own.map (·.2)).Nodup := by decide) (hc : X.calm = true := by rfl) (hs : ∀ x, foldedSetIterable iter X.env x = pure x := by exact fun _ => rfl) :
    PS X (.Assign [.Name y py] (.ListComp elt [⟨tg, iter, ifs, 0⟩] scope pos) spos) (tS c pins (sAsg (eLc (own.map (·.2)) fi gf ft fe) (gN i))) := by
  refine ⟨fun pins0 s σ H Z I q => (ps_setLc hc hN hy hyl hsw hi ok hg ht he hs).run pins0 s σ H Z I ?_⟩
  have q2 : tAsg (tE c (b1 && (b2 && b3)) (eLc (own.map (·.2)) fi gf ft fe)) (gName i) Z σ H := asg_ok (gName_ok hpi) q
  obtain ⟨G, S, fp, d, s', k, sl, hf, q⟩ := q2
  refine lc_ok X.N.length I.len hp ho hnd _ rfl ?_
  unfold eLc at hf
  cases h1 : aLc (own.map (·.2)) fi gf ft fe S with
  | none => rw [h1] at hf; exact nomatch hf
  | some p =>
    obtain ⟨xs, s1⟩ := p
    simp only [h1, Option.map_some, Option.some.injEq, Prod.mk.injEq] at hf
    obtain ⟨rfl, rfl⟩ := hf
    refine ⟨G, S, fp, xs, s1, k, sl, h1, fun Dl vs H' G' fp' hD hDg hDf E' S' hv rr pu => ?_⟩
    have sg : Same G' (upd G' Dl (.lst vs)) := same_upd hDg
    have sb : Same (upd G' Dl (.lst vs)) H' := fun b o hb => by
      by_cases z : b = Dl
      · subst z; rw [upd_same] at hb; cases hb; exact hv
      · rw [upd_ne z] at hb; exact E'.sub b o hb
    refine q (.ref Dl) H' (upd G' Dl (.lst vs)) fp' { E' with gs := E'.gs.trans sg, sub := sb, fresh := fun a h3 h4 => ?_, own := fun a ha => ?_ } (S'.stay sg fun _ _ => rfl) (.lst (SqL.of upd_same) (rr.mono sg)) fun hb => ?_
    · by_cases z : a = Dl
      · subst z; exact .inl hD
      · rw [upd_ne z] at h4; exact E'.fresh a h3 h4
    · obtain ⟨x1, x2⟩ := E'.own a ha
      exact ⟨by rw [upd_ne fun z => hDf (by rw [← z]; exact ha)]; exact x1, x2⟩
    · obtain ⟨g1, e1⟩ := pu hb
      exact ⟨⟨g1.hs, g1.gs.trans sg, sb, fun a ha => by rw [upd_ne fun z => ha (by rw [z]; exact hD)]; exact g1.nw a ha⟩, e1⟩
/-- y = [..] on one line, the list one's own -/
theorem sx_newLc (pins : List Nat) (i : Nat) {y : Str} {py spos : Pos} (hN : X.N.Nodup) (hi : PI X tg iter (tI c b1 fi)) (ok : BlkOk X.N X.env.scope scope own) (hp : ∀ i < X.N.length, i ∉ own.map (·.2) → i ∈ pins') (ho : GOwn gf (own.map (·.2)))
    (hg : ∀ (s : Shared) (H : Hp) (C : Addr) (cl : List (Str × Addr)) (fp : List Addr), PG (X.blk s H scope (compEnvC scope cl C X.env) fp) tg (tG c pins' true gf)) (ht : ∀ (s : Shared) (H : Hp) (C : Addr) (cl : List (Str × Addr)) (fp : List Addr), PTs (X.blk s H scope (compEnvC scope cl C X.env) fp) ifs (tT c b2 ft))
    (he : ∀ (s : Shared) (H : Hp) (C : Addr) (cl : List (Str × Addr)) (fp : List Addr), PE (X.blk s H scope (compEnvC scope cl C X.env) fp) elt (tE c b3 fe))
    (hsw : swapsWith (.ListComp elt [⟨tg, iter, ifs, 0⟩] scope pos) (some (.Name y py)) spos.line X.env = pure true) (hpi : i ∉ pins := by decide) (hy : X.N[i]? = some y := by rfl) (hyl : X.env.scope.names.lookup y = some .local := by rfl)
    (hnd : (own.map (·.2)).Nodup := by decide) (hc : X.calm = true := by rfl) (hs : ∀ x, foldedSetIterable iter X.env x = pure x := by exact fun _ => rfl) :
    PS X (.Assign [.Name y py] (.ListComp elt [⟨tg, iter, ifs, 0⟩] scope pos) spos) (tS c pins (sNew i (aLc (own.map (·.2)) fi gf ft fe))) := by
  refine ⟨fun pins0 s σ H Z I q => (ps_setLc hc hN hy hyl hsw hi ok hg ht he hs).run pins0 s σ H Z I ?_⟩
  have q2 : tAsg (tN c (aLc (own.map (·.2)) fi gf ft fe)) (gName i) Z σ H := new_ok hpi q
  obtain ⟨G, S, fp, xs, s', k, sl, hf, q⟩ := q2
  refine lc_ok X.N.length I.len hp ho hnd _ rfl ⟨G, S, fp, xs, s', k, sl, hf, fun Dl vs H' G' fp' hD hDg hDf E' S' hv rr pu => ?_⟩
  refine q Dl vs H' G' fp' { E' with own := fun a ha => ?_, nd := List.nodup_cons.mpr ⟨hDf, E'.nd⟩ } S' hv rr
  rcases List.mem_cons.mp ha with rfl | ha
  · exact ⟨hDg, .inr hD⟩
  · exact E'.own a ha
end
end DL
/-! DL 7: built-in functions, methods of texts and lists, borrowing, lent arguments. -/
namespace DL
open PySem PySem.Spec PyProof.Rows L2

def CallS (c : Cc) (r : List V → Hp → VK → Prop) (op : List D → Option D) : Prop :=
  ∀ ⦃H G : Hp⦄ ⦃vs : List V⦄ ⦃ds : List D⦄ ⦃z : D⦄ (Q : VK), Same G H → Reps c.K G vs ds → op ds = some z → (∀ v H' G', Grow H G H' G' → Rep c.K G' v z → Q v H') → r vs H Q
def MtS (c : Cc) (r : V → List V → Hp → VK → Prop) (op : D → D → Option D) : Prop :=
  ∀ ⦃H G : Hp⦄ ⦃x y : V⦄ ⦃dx dy z : D⦄ (Q : VK), Same G H → Rep c.K G x dx → Rep c.K G y dy → op dx dy = some z → (∀ v H' G', Grow H G H' G' → Rep c.K G' v z → Q v H') → r x [y] H Q

def bAbs : List D → Option D
  | [.int i] => some (.int (if i < 0 then -i else i))
  | _ => none
def bLen : List D → Option D
  | [.str x] => if x.length ≤ cap then some (.int x.length) else none
  | [.tup xs] => some (.int xs.length)
  | [.lst xs] => some (.int xs.length)
  | _ => none
def bDivmod : List D → Option D
  | [.int i, .int j] => if 0 < j ∧ j.natAbs.log2 < 9000 then some (.tup [.int (i / j), .int (i % j)]) else none
  | _ => none
def bStr : List D → Option D
  | [.int i] => if i.natAbs.log2 < 1920 then some (.str (toString i)) else none
  | _ => none
def bInt : List D → Option D
  | [.str a] => if a.length ≤ 640 then (PySem.intText? a).map .int else none
  | [.int i] => some (.int i)
  | [.bl k] => some (.int (if k then 1 else 0))
  | _ => none
def boolsD : List D → Option (List Bool)
  | [] => some []
  | .bl b :: r => (boolsD r).map (b :: ·)
  | _ => none
def intsD : List D → Option (List Int)
  | [] => some []
  | .int b :: r => (intsD r).map (b :: ·)
  | _ => none
def strsD : List D → Option (List Str)
  | [] => some []
  | .str b :: r => (strsD r).map (b :: ·)
  | _ => none
def bAll : List D → Option D
  | [.lst xs] => (boolsD xs).map fun bs => .bl (bs.all id)
  | _ => none
def bAny : List D → Option D
  | [.lst xs] => (boolsD xs).map fun bs => .bl (bs.any id)
  | _ => none
def bSum : List D → Option D
  | [.lst xs] => (intsD xs).map fun bs => .int bs.sum
  | _ => none
def bTuple : List D → Option D
  | [.lst xs] => some (.tup xs)
  | [.tup xs] => some (.tup xs)
  | _ => none
def bList : List D → Option D
  | [.lst xs] => some (.lst xs)
  | [.tup xs] => some (.lst xs)
  | _ => none
def bMax : List D → Option D
  | [.int i, .int j] => some (.int (if j > i then j else i))
  | _ => none
def bMin : List D → Option D
  | [.int i, .int j] => some (.int (if j < i then j else i))
  | _ => none
def dPart : D → D → Option D
  | .str a, .str b => if (b.length == 0) = false ∧ a.length ≤ cap then some (.tup [.str (Txt.partition a b).1, .str (Txt.partition a b).2.1, .str (Txt.partition a b).2.2]) else none
  | _, _ => none
def dJoin : D → D → Option D
  | .str a, .lst xs => (strsD xs).bind fun ys => if (ys.map (·.length)).sum + ys.length * a.length ≤ cap then some (.str (Txt.join a ys)) else none
  | _, _ => none
def dSplit : D → D → Option D
  | .str a, .str b => if (b.length == 0) = false ∧ a.length + 2 ≤ cap then some (.lst ((Txt.split a b).map .str)) else none
  | _, _ => none
def dCountB : D → D → Option D
  | .lst xs, .bl k => (boolsD xs).map fun bs => .int (bs.count k : Nat)
  | _, _ => none
def dInS : D → D → Option D
  | .str x, .str z => match x.cps.toList with
    | [k] => some (.bl (decide (k ∈ z.cps.toList)))
    | _ => none
  | _, _ => none
/-- xs + ys of two lists -/
def dCat : D → D → Option D
  | .lst xs, .lst ys => if xs.length + ys.length ≤ cap then some (.lst (xs ++ ys)) else none
  | _, _ => none
def isTy (T : String) : D → Option D
  | .non => some (.bl (T == "NoneType"))
  | .bl _ => some (.bl (T == "bool" || T == "int"))
  | .int _ => some (.bl (T == "int"))
  | .str _ => some (.bl (T == "str"))
  | .tup _ => some (.bl (T == "tuple"))
  | .lst _ => some (.bl (T == "list"))
  | .ref _ => none

section
variable {c : Cc} {X : Cx} {pins : List Nat} {b1 b2 b3 : Bool} {f g h : EF} {t : BF} {fa fi : AF} {pos : Pos} {e o : Expr} {es : List Expr}
variable {H H1 H2 G G1 G2 : Hp} {s s1 s2 : S} {fp fp1 fp2 : List Addr} {σ σ1 σ2 : L2.St} {Z : Ends}
theorem callS_ok {r : List V → Hp → VK → Prop} {op : List D → Option D} {Q : VK} (hr : CallS c r op) (q : tE c b1 (eCall op fa) σ H Q) : tCB r (tA c b1 fa) σ H Q := by
  obtain ⟨G, s, fp, d, s', k, sl, hf, q⟩ := q
  unfold eCall at hf
  cases h1 : fa s with
  | none => rw [h1] at hf; exact nomatch hf
  | some p =>
    obtain ⟨ds, s1⟩ := p
    simp only [h1, Option.bind_some] at hf
    cases h2 : op ds with
    | none => simp [h2] at hf
    | some z =>
      simp only [h2, Option.map_some, Option.some.injEq, Prod.mk.injEq] at hf
      obtain ⟨rfl, rfl⟩ := hf
      exact ⟨G, s, fp, ds, s1, k, sl, h1, fun vs H1 G1 fp1 E1 S1 r1 p1 => hr Q E1.sub r1 h2 fun v H' G' gr r => q v H' G' fp1 (E1.grow S1 gr) (S1.step gr) r (p1.grow gr)⟩
theorem ex_callB {id : String} {x : Str} {p : Pos} {r : List V → Hp → VK → Prop} {op : List D → Option D} (hc : CallR X (.builtin id) r) (hr : CallS c r op) (hm : X.mg x = none) (ha : PA X (e :: es) (tA c b1 fa)) (hv : bootBuiltins x = some (.builtin id) := by decide +kernel) (hg : Gl X x := by rfl) (hn : x ≠ "__name__" := by decide) (hdb : (x == ("__debug__" : Str)) = false := by decide)
    (he : starEach (e :: es) X.env = (false, eval e X.env) :: starEach es X.env := by rfl) (hpl : (backTo pos (starEach es X.env)).any (·.1) = false := by rfl) : PE X (.Call (.Name x p) (e :: es) [] pos) (tE c b1 (eCall op fa)) :=
  PE_imp (pe_callB hc hg hm hv ha hn hdb he hpl) fun _ _ _ q => callS_ok hr q
theorem ex_callTy {T : String} {x : Str} {p : Pos} {r : List V → Hp → VK → Prop} {op : List D → Option D} (hc : CallR X (.type T) r) (hr : CallS c r op) (hm : X.mg x = none) (ha : PA X (e :: es) (tA c b1 fa)) (hv : bootBuiltins x = some (.type T) := by decide +kernel) (hg : Gl X x := by rfl) (hn : x ≠ "__name__" := by decide) (hdb : (x == ("__debug__" : Str)) = false := by decide)
    (he : starEach (e :: es) X.env = (false, eval e X.env) :: starEach es X.env := by rfl) (hpl : (backTo pos (starEach es X.env)).any (·.1) = false := by rfl) : PE X (.Call (.Name x p) (e :: es) [] pos) (tE c b1 (eCall op fa)) :=
  PE_imp (pe_callTy hc hg hm hv ha hn hdb he hpl) fun _ _ _ q => callS_ok hr q

theorem reps1 {K : PySem.W.Frag} {G : Hp} {vs : List V} {d : D} (r : Reps K G vs [d]) : ∃ v, vs = [v] ∧ Rep K G v d := by
  cases r with
  | cons r1 r2 => cases r2; exact ⟨_, rfl, r1⟩
theorem reps2 {K : PySem.W.Frag} {G : Hp} {vs : List V} {d d' : D} (r : Reps K G vs [d, d']) : ∃ v v', vs = [v, v'] ∧ Rep K G v d ∧ Rep K G v' d' := by
  cases r with
  | cons r1 r2 =>
    cases r2 with
    | cons r2 r3 => cases r3; exact ⟨_, _, rfl, r1, r2⟩
theorem cs_abs : CallS c (fun xs H Q => ∃ i, xs = [.int i] ∧ Q (.int (if i < 0 then -i else i)) H) bAbs := fun H G vs ds z Q e r hz q => by
  unfold bAbs at hz
  split at hz
  · cases hz
    obtain ⟨v, rfl, r1⟩ := reps1 r
    exact ⟨_, by rw [r1.ints], q _ _ _ (Grow.refl e) (.int _)⟩
  · exact nomatch hz
theorem cs_len : CallS c (fun xs H Q => ∃ x n, xs = [x] ∧ LenV c.K x H n ∧ Q (.int n) H) bLen := fun H G vs ds z Q e r hz q => by
  unfold bLen at hz
  split at hz
  · split at hz
    · rename_i hl
      cases hz
      obtain ⟨v, rfl, r1⟩ := reps1 r
      cases r1
      exact ⟨_, _, rfl, ⟨Nat.le_trans hl cap_line, rfl⟩, q _ _ _ (Grow.refl e) (.int _)⟩
    · exact nomatch hz
  · cases hz
    obtain ⟨v, rfl, r1⟩ := reps1 r
    cases r1 with
    | tup t1 r1 => exact ⟨_, _, rfl, .inr ⟨_, Same.sqT e t1, rfl⟩, q _ _ _ (Grow.refl e) (by rw [r1.length]; exact .int _)⟩
  · cases hz
    obtain ⟨v, rfl, r1⟩ := reps1 r
    cases r1 with
    | lst t1 r1 => exact ⟨_, _, rfl, .inl ⟨_, Same.sqL e t1, rfl⟩, q _ _ _ (Grow.refl e) (by rw [r1.length]; exact .int _)⟩
  · exact nomatch hz
theorem call_divmodB {X : Cx} : CallR X (.builtin "divmod") (fun xs H Q => ∃ i j, xs = [.int i, .int j] ∧ (0 < j ∧ j.natAbs.log2 < 9000) ∧ ∀ p, H p = none → Q (.ref p) (upd H p (.tup [.int (i / j), .int (i % j)]))) := by
  intro pins s σ H xs us Q I r h
  obtain ⟨i, j, rfl, ⟨h1, h2⟩, q⟩ := h
  obtain ⟨u, w', rfl, ⟨t, rfl⟩, ⟨t', rfl⟩⟩ := vals2 r
  refine divmod_int (by omega) ?_ (.inl (PyProof.noPylong_of_log2 h2))
  rw [Int.fdiv_eq_ediv_of_nonneg i (by omega), Int.fmod_eq_emod_of_nonneg i (by omega)]
  have hn : H s.heap.objs.size = none := I.hok.fresh (Nat.le_refl _)
  refine ⟨.ref s.heap.objs.size, _, ?_, rfl, q _ hn⟩
  refine I.laid (fun b o e => Heap.get?_push_of_some _ e) (Nat.le_refl _) ⟨by simp only [List.length_cons, List.length_nil]; rw [sizeLine_eq]; decide, [.int (i / j) s.toks, .int (i % j) (s.toks + 1)], .cons ⟨_, rfl⟩ (.cons ⟨_, rfl⟩ .nil), ?_⟩
  exact ⟨_, Heap.get?_push_size s.heap rfl, rfl, 0, rfl⟩
theorem cs_divmod : CallS c (fun xs H Q => ∃ i j, xs = [.int i, .int j] ∧ (0 < j ∧ j.natAbs.log2 < 9000) ∧ ∀ p, H p = none → Q (.ref p) (upd H p (.tup [.int (i / j), .int (i % j)]))) bDivmod := fun H G vs ds z Q e r hz q => by
  unfold bDivmod at hz
  split at hz
  · split at hz
    · rename_i hc
      cases hz
      obtain ⟨v, v', rfl, r1, r2⟩ := reps2 r
      exact ⟨_, _, by rw [r1.ints, r2.ints], hc, fun p hp => q _ _ _ (Grow.alloc e hp) (.tup (SqT.of upd_same) (.cons (.int _) (.cons (.int _) .nil)))⟩
    · exact nomatch hz
  · exact nomatch hz
theorem cs_str : CallS c (fun xs H Q => ∃ i, xs = [.int i] ∧ i.natAbs.log2 < 1920 ∧ Q (.str (toString i)) H) bStr := fun H G vs ds z Q e r hz q => by
  unfold bStr at hz
  split at hz
  · split at hz
    · rename_i hc
      cases hz
      obtain ⟨v, rfl, r1⟩ := reps1 r
      exact ⟨_, by rw [r1.ints], hc, q _ _ _ (Grow.refl e) (.str _)⟩
    · exact nomatch hz
  · exact nomatch hz
def rIntA : List V → Hp → VK → Prop := fun xs H Q => (∃ a n, xs = [.str a] ∧ PySem.intText? a = some n ∧ a.length ≤ 640 ∧ Q (.int n) H) ∨ ((∃ i, xs = [.int i] ∧ Q (.int i) H) ∨ ∃ k, xs = [.bl k] ∧ Q (.int (if k then 1 else 0)) H)
theorem CallR.or {f : Value} {r r' : List V → Hp → VK → Prop} (h : CallR X f r) (h' : CallR X f r') : CallR X f (fun xs H Q => r xs H Q ∨ r' xs H Q) := by
  intro pins s σ H xs us Q I rx q
  rcases q with q | q
  · exact h pins s σ H xs us Q I rx q
  · exact h' pins s σ H xs us Q I rx q
theorem call_intA : CallR X (.type "int") rIntA := CallR.or call_int_str call_int1
theorem cs_int : CallS c rIntA bInt := fun H G vs ds z Q e r hz q => by
  unfold bInt at hz
  split at hz
  · split at hz
    · rename_i a hc
      obtain ⟨v, rfl, r1⟩ := reps1 r
      cases r1
      cases hn : PySem.intText? a with
      | none => rw [hn] at hz; exact nomatch hz
      | some n =>
        rw [hn] at hz
        cases hz
        exact .inl ⟨_, _, rfl, hn, hc, q _ _ _ (Grow.refl e) (.int _)⟩
    · exact nomatch hz
  · cases hz
    obtain ⟨v, rfl, r1⟩ := reps1 r
    exact .inr (.inl ⟨_, by rw [r1.ints], q _ _ _ (Grow.refl e) (.int _)⟩)
  · cases hz
    obtain ⟨v, rfl, r1⟩ := reps1 r
    cases r1
    exact .inr (.inr ⟨_, rfl, q _ _ _ (Grow.refl e) (.int _)⟩)
  · exact nomatch hz
theorem bools_rep {K : PySem.W.Frag} {G : Hp} : ∀ {vs : List V} {xs : List D} {bs : List Bool}, Reps K G vs xs → boolsD xs = some bs → vs = bs.map V.bl
  | _, _, _, .nil, h => by cases h; rfl
  | _, _, bs, .cons (d := d) (ds := ds) r t, h => by
    cases d <;> simp only [boolsD] at h <;> try contradiction
    cases e : boolsD ds with
    | none => rw [e] at h; exact nomatch h
    | some b2 =>
      rw [e] at h
      cases h
      cases r
      rw [bools_rep t e]
      rfl
theorem ints_rep {K : PySem.W.Frag} {G : Hp} : ∀ {vs : List V} {xs : List D} {bs : List Int}, Reps K G vs xs → intsD xs = some bs → vs = bs.map V.int
  | _, _, _, .nil, h => by cases h; rfl
  | _, _, bs, .cons (d := d) (ds := ds) r t, h => by
    cases d <;> simp only [intsD] at h <;> try contradiction
    cases e : intsD ds with
    | none => rw [e] at h; exact nomatch h
    | some b2 =>
      rw [e] at h
      cases h
      cases r
      rw [ints_rep t e]
      rfl
theorem strs_rep {K : PySem.W.Frag} {G : Hp} : ∀ {vs : List V} {xs : List D} {bs : List Str}, Reps K G vs xs → strsD xs = some bs → vs = bs.map V.str
  | _, _, _, .nil, h => by cases h; rfl
  | _, _, bs, .cons (d := d) (ds := ds) r t, h => by
    cases d <;> simp only [strsD] at h <;> try contradiction
    cases e : strsD ds with
    | none => rw [e] at h; exact nomatch h
    | some b2 =>
      rw [e] at h
      cases h
      cases r
      rw [strs_rep t e]
      rfl
theorem cs_all : CallS c (rAll c.K) bAll := fun H G vs ds z Q e r hz q => by
  unfold bAll at hz
  split at hz
  · rename_i xs
    cases hb : boolsD xs with
    | none => rw [hb] at hz; exact nomatch hz
    | some bs =>
      rw [hb] at hz
      cases hz
      obtain ⟨v, rfl, r1⟩ := reps1 r
      cases r1 with
      | lst t1 r1 => exact ⟨_, bs, rfl, by rw [← bools_rep r1 hb]; exact Same.sqL e t1, q _ _ _ (Grow.refl e) (.bl _)⟩
  · exact nomatch hz
theorem cs_any : CallS c (rAny c.K) bAny := fun H G vs ds z Q e r hz q => by
  unfold bAny at hz
  split at hz
  · rename_i xs
    cases hb : boolsD xs with
    | none => rw [hb] at hz; exact nomatch hz
    | some bs =>
      rw [hb] at hz
      cases hz
      obtain ⟨v, rfl, r1⟩ := reps1 r
      cases r1 with
      | lst t1 r1 => exact ⟨_, bs, rfl, by rw [← bools_rep r1 hb]; exact Same.sqL e t1, q _ _ _ (Grow.refl e) (.bl _)⟩
  · exact nomatch hz
theorem cs_sum : CallS c (rSum c.K) bSum := fun H G vs ds z Q e r hz q => by
  unfold bSum at hz
  split at hz
  · rename_i xs
    cases hb : intsD xs with
    | none => rw [hb] at hz; exact nomatch hz
    | some bs =>
      rw [hb] at hz
      cases hz
      obtain ⟨v, rfl, r1⟩ := reps1 r
      cases r1 with
      | lst t1 r1 => exact ⟨_, bs, rfl, by rw [← ints_rep r1 hb]; exact Same.sqL e t1, q _ _ _ (Grow.refl e) (.int _)⟩
  · exact nomatch hz
theorem cs_tuple : CallS c (fun xs H Q => ∃ p ys, xs = [.ref p] ∧ ((SqL c.K H p ys ∧ ∀ l, H l = none → Q (.ref l) (upd H l (.tup ys))) ∨ (SqT c.K H p ys ∧ Q (.ref p) H))) bTuple := fun H G vs ds z Q e r hz q => by
  unfold bTuple at hz
  split at hz
  · cases hz
    obtain ⟨v, rfl, r1⟩ := reps1 r
    cases r1 with
    | lst t1 r1 => exact ⟨_, _, rfl, .inl ⟨Same.sqL e t1, fun l hl => q _ _ _ (Grow.alloc e hl) (.tup (SqT.of upd_same) (r1.mono (same_upd (e.free hl))))⟩⟩
  · cases hz
    obtain ⟨v, rfl, r1⟩ := reps1 r
    cases r1 with
    | tup t1 r1 => exact ⟨_, _, rfl, .inr ⟨Same.sqT e t1, q _ _ _ (Grow.refl e) (.tup t1 r1)⟩⟩
  · exact nomatch hz
def rListOf (K : PySem.W.Frag) : List V → Hp → VK → Prop := fun xs H Q => ∃ p ys, xs = [.ref p] ∧ (SqL K H p ys ∨ SqT K H p ys) ∧ ∀ l, H l = none → Q (.ref l) (upd H l (.lst ys))
theorem cs_list : CallS c (rListOf c.K) bList := fun H G vs ds z Q e r hz q => by
  unfold bList at hz
  split at hz
  · cases hz
    obtain ⟨v, rfl, r1⟩ := reps1 r
    cases r1 with
    | lst t1 r1 => exact ⟨_, _, rfl, .inl (Same.sqL e t1), fun l hl => q _ _ _ (Grow.alloc e hl) (.lst (SqL.of upd_same) (r1.mono (same_upd (e.free hl))))⟩
  · cases hz
    obtain ⟨v, rfl, r1⟩ := reps1 r
    cases r1 with
    | tup t1 r1 => exact ⟨_, _, rfl, .inr (Same.sqT e t1), fun l hl => q _ _ _ (Grow.alloc e hl) (.lst (SqL.of upd_same) (r1.mono (same_upd (e.free hl))))⟩
  · exact nomatch hz
theorem cs_max : CallS c (fun xs H Q => ∃ i j, xs = [.int i, .int j] ∧ Q (.int (if j > i then j else i)) H) bMax := fun H G vs ds z Q e r hz q => by
  unfold bMax at hz
  split at hz
  · cases hz
    obtain ⟨v, v', rfl, r1, r2⟩ := reps2 r
    exact ⟨_, _, by rw [r1.ints, r2.ints], q _ _ _ (Grow.refl e) (.int _)⟩
  · exact nomatch hz
theorem cs_min : CallS c (fun xs H Q => ∃ i j, xs = [.int i, .int j] ∧ Q (.int (if j < i then j else i)) H) bMin := fun H G vs ds z Q e r hz q => by
  unfold bMin at hz
  split at hz
  · cases hz
    obtain ⟨v, v', rfl, r1, r2⟩ := reps2 r
    exact ⟨_, _, by rw [r1.ints, r2.ints], q _ _ _ (Grow.refl e) (.int _)⟩
  · exact nomatch hz
theorem Rep.ty {K : PySem.W.Frag} {G H : Hp} {v : V} {d z : D} {T : String} (e : Same G H) (r : Rep K G v d) (hT : T = "tuple" ∨ T = "list" ∨ T = "int" ∨ T = "bool" ∨ T = "str") (h : isTy T d = some z) : ∃ t b, TyX K H v t ∧ PySem.W.kitOne K t (.type T) = some b ∧ z = .bl b := by
  cases r with
  | non => cases h; rcases hT with rfl | rfl | rfl | rfl | rfl <;> exact ⟨_, _, .base .non, kit_ty (b := _) (r := false) (by decide +kernel), rfl⟩
  | bl b => cases h; rcases hT with rfl | rfl | rfl | rfl | rfl <;> first | exact ⟨_, _, .base (.bl b), kit_ty (r := false) (by decide +kernel), rfl⟩ | exact ⟨_, _, .base (.bl b), kit_ty (r := true) (by decide +kernel), rfl⟩
  | int i => cases h; rcases hT with rfl | rfl | rfl | rfl | rfl <;> first | exact ⟨_, _, .base (.int i), kit_ty (r := false) (by decide +kernel), rfl⟩ | exact ⟨_, _, .base (.int i), kit_ty (r := true) (by decide +kernel), rfl⟩
  | str x => cases h; rcases hT with rfl | rfl | rfl | rfl | rfl <;> first | exact ⟨_, _, .base (.str x), kit_ty (r := false) (by decide +kernel), rfl⟩ | exact ⟨_, _, .base (.str x), kit_ty (r := true) (by decide +kernel), rfl⟩
  | ref a => exact nomatch h
  | @tup a vs xs t1 r1 =>
    cases h
    have ht : TyX K H (.ref a) (.type "tuple") := by
      rcases Same.sqT e t1 with (h | ⟨o, h⟩) | ⟨o, its, n, hk, hc, _⟩
      · exact .base (.tup h)
      · exact .fTuple h
      · exact .kTuple hk hc
    rcases hT with rfl | rfl | rfl | rfl | rfl <;> first | exact ⟨_, _, ht, kit_ty (r := false) (by decide +kernel), rfl⟩ | exact ⟨_, _, ht, kit_ty (r := true) (by decide +kernel), rfl⟩
  | @lst a vs xs t1 r1 =>
    cases h
    have ht : TyX K H (.ref a) (.type "list") := by
      rcases Same.sqL e t1 with (h | ⟨o, h⟩) | ⟨o, its, n, hk, hc, _⟩
      · exact .base (.lst h)
      · exact .base (.frz h)
      · exact .kList hk hc
    rcases hT with rfl | rfl | rfl | rfl | rfl <;> first | exact ⟨_, _, ht, kit_ty (r := false) (by decide +kernel), rfl⟩ | exact ⟨_, _, ht, kit_ty (r := true) (by decide +kernel), rfl⟩
/-- isinstance(e, T), T a built-in class by its name -/
theorem ex_isi {T : String} {x2 : Str} {p p2 : Pos} (he : PE X e (tE c b1 f)) (hT : T = "tuple" ∨ T = "list" ∨ T = "int" ∨ T = "bool" ∨ T = "str") (hm : X.mg "isinstance" = none) (hm2 : X.mg x2 = none) (hv2 : bootBuiltins x2 = some (.type T)) (hK : X.K = c.K := by rfl) (hg : Gl X "isinstance" := by rfl) (hg2 : Gl X x2 := by rfl) (hn2 : x2 ≠ "__name__" := by decide) (hd2 : (x2 == ("__debug__" : Str)) = false := by decide)
    (hs : starEach [e, .Name x2 p2] X.env = (false, eval e X.env) :: starEach [.Name x2 p2] X.env := by rfl) (hs2 : starEach [.Name x2 p2] X.env = (false, eval (.Name x2 p2) X.env) :: starEach [] X.env := by rfl) (hpl : (backTo pos (starEach [.Name x2 p2] X.env)).any (·.1) = false := by rfl) :
    PE X (.Call (.Name "isinstance" p) [e, .Name x2 p2] [] pos) (tE c b1 (e1 (isTy T) f)) :=
  PE_imp (pe_callB call_isi hg hm (by decide +kernel) (pa_cons he (pa_cons (pe_bltn (v := .ty T) hg2 hm2 hv2 rfl hn2 hd2) pa_nil hs2) hs) (by decide) (by decide) hs hpl) fun σ H Q q => by
    rw [hK]
    have q2 := op1 (r := fun x H Q => ∃ t b, TyX c.K H x t ∧ PySem.W.kitOne c.K t (.type T) = some b ∧ Q (.bl b) H) (fun H G x dx dz Q e rx hz q => by
      obtain ⟨t, b, h1, h2, rfl⟩ := rx.ty e hT hz
      exact ⟨t, b, h1, h2, q _ _ _ (Grow.refl e) (.bl _)⟩) q
    obtain ⟨G, s, fp, d, s', k, sl, hf, q3⟩ := q2
    exact ⟨G, s, fp, d, s', k, sl, hf, fun v H1 G1 fp1 E1 S1 r1 p1 => by
      obtain ⟨t, b, h1, h2, h3⟩ := q3 v H1 G1 fp1 E1 S1 r1 p1
      exact ⟨v, .ty T, t, .type T, b, rfl, .ty T, h1, h2, h3⟩⟩
/-! ### methods -/
theorem ex_m1 {id : String} {name : Str} {apos : Pos} {r : V → List V → Hp → VK → Prop} {op : D → D → Option D} (slot : Slot "str" name id) (ty : typeOf (.builtin id) = pure (.type "method_descriptor")) (rule : MtR X id r) (hr : MtS c r op) (hst : ∀ dx dy z, op dx dy = some z → ∃ a, dx = .str a) (ho : PE X o (tE c b1 f)) (he : PE X e (tE c b2 g))
    (hs : starEach [e] X.env = [(false, eval e X.env)] := by rfl) (hbase : attributeBase o name X.env (eval o X.env) = eval o X.env := by rfl) (hline : (apos.endLine == pos.line) = true := by rfl) :
    PE X (.Call (.Attribute o name apos) [e] [] pos) (tE c (b1 && b2) (e2 op f g)) := PE_imp (pe_m1 slot ty rule ho he hs hbase hline) fun σ H Q ⟨G, s, fp, d, s', k, sl, hf, q⟩ => by
  unfold e2 at hf
  cases h1 : f s with
  | none => rw [h1] at hf; exact nomatch hf
  | some p =>
    obtain ⟨x, s1⟩ := p
    simp only [h1, Option.bind_some] at hf
    cases h2 : g s1 with
    | none => simp [h2] at hf
    | some p2 =>
      obtain ⟨y, s2⟩ := p2
      simp only [h2, Option.bind_some] at hf
      cases h3 : op x y with
      | none => simp [h3] at hf
      | some z =>
        simp only [h3, Option.map_some, Option.some.injEq, Prod.mk.injEq] at hf
        obtain ⟨rfl, rfl⟩ := hf
        obtain ⟨a, rfl⟩ := hst _ _ _ h3
        exact ⟨G, s, fp, _, s1, k, sl, h1, fun v H1 G1 fp1 E1 S1 r1 p1 => ⟨by cases r1; exact ⟨_, rfl⟩, G1, s1, fp1, y, s2, E1.ok, S1, h2, fun u H2 G2 fp2 E2 S2 r2 p2 =>
          hr Q E2.sub (r1.mono E2.gs) r2 h3 fun v' H' G' gr r' => q v' H' G' fp2 ((E1.trans E2).grow S2 gr) (S2.step gr) r' ((p1.and p2).grow gr)⟩⟩
theorem ms_part : MtS c (fun x xs H Q => ∃ a b, x = .str a ∧ xs = [.str b] ∧ (b.length == 0) = false ∧ a.length ≤ sizeLine ∧
    ∀ p, H p = none → Q (.ref p) (upd H p (.tup [.str (Txt.partition a b).1, .str (Txt.partition a b).2.1, .str (Txt.partition a b).2.2]))) dPart := fun H G x y dx dy z Q e rx ry hz q => by
  cases dx <;> cases dy <;> simp only [dPart] at hz <;> try contradiction
  split at hz
  · rename_i hc
    cases hz
    cases rx
    cases ry
    exact ⟨_, _, rfl, rfl, hc.1, Nat.le_trans hc.2 cap_line, fun p hp => q _ _ _ (Grow.alloc e hp) (.tup (SqT.of upd_same) (.cons (.str _) (.cons (.str _) (.cons (.str _) .nil))))⟩
  · exact nomatch hz
theorem ex_partition {apos : Pos} (ho : PE X o (tE c b1 f)) (he : PE X e (tE c b2 g)) (hs : starEach [e] X.env = [(false, eval e X.env)] := by rfl) (hbase : attributeBase o "partition" X.env (eval o X.env) = eval o X.env := by rfl) (hline : (apos.endLine == pos.line) = true := by rfl) :
    PE X (.Call (.Attribute o "partition" apos) [e] [] pos) (tE c (b1 && b2) (e2 dPart f g)) := ex_m1 F.slot_str_partition F.type_str_partition mt_partition ms_part (fun dx dy z h => by cases dx <;> first | exact ⟨_, rfl⟩ | (cases dy <;> contradiction)) ho he hs hbase hline
def rJoin (K : PySem.W.Frag) : V → List V → Hp → VK → Prop := fun x xs H Q => ∃ a p, ∃ ys : List Str, x = .str a ∧ xs = [.ref p] ∧ (SqL K H p (ys.map V.str) ∨ SqT K H p (ys.map V.str)) ∧ (ys.map (·.length)).sum + ys.length * a.length ≤ 16777216 ∧ Q (.str (Txt.join a ys)) H
theorem ms_join : MtS c (rJoin c.K) dJoin := fun H G x y dx dy z Q e rx ry hz q => by
  cases dx <;> cases dy <;> simp only [dJoin] at hz <;> try contradiction
  rename_i a xs
  cases hb : strsD xs with
  | none => rw [hb] at hz; exact nomatch hz
  | some ys =>
    simp only [hb, Option.bind_some] at hz
    split at hz
    · rename_i hc
      cases hz
      cases rx
      cases ry with
      | lst t1 r1 => exact ⟨_, _, ys, rfl, rfl, .inl (by rw [← strs_rep r1 hb]; exact Same.sqL e t1), Nat.le_trans hc (by decide), q _ _ _ (Grow.refl e) (.str _)⟩
    · exact nomatch hz
theorem ex_join {apos : Pos} (ho : PE X o (tE c b1 f)) (he : PE X e (tE c b2 g)) (hK : X.K = c.K := by rfl) (hs : starEach [e] X.env = [(false, eval e X.env)] := by rfl) (hbase : attributeBase o "join" X.env (eval o X.env) = eval o X.env := by rfl) (hline : (apos.endLine == pos.line) = true := by rfl) :
    PE X (.Call (.Attribute o "join" apos) [e] [] pos) (tE c (b1 && b2) (e2 dJoin f g)) := ex_m1 (r := rJoin X.K) F.slot_str_join F.type_str_join mt_join (by rw [hK]; exact ms_join) (fun dx dy z h => by cases dx <;> first | exact ⟨_, rfl⟩ | (cases dy <;> contradiction)) ho he hs hbase hline
theorem reps_strs {K : PySem.W.Frag} {G : Hp} : ∀ ys : List Str, Reps K G (ys.map V.str) (ys.map .str)
  | [] => .nil
  | y :: ys => .cons (.str y) (reps_strs ys)
theorem ms_split : MtS c (fun x xs H Q => ∃ a b, x = .str a ∧ xs = [.str b] ∧ (b.length == 0) = false ∧ a.length + 2 ≤ sizeLine ∧ rNewStrs (Txt.split a b) H Q) dSplit := fun H G x y dx dy z Q e rx ry hz q => by
  cases dx <;> cases dy <;> simp only [dSplit] at hz <;> try contradiction
  split at hz
  · rename_i hc
    cases hz
    cases rx
    cases ry
    exact ⟨_, _, rfl, rfl, hc.1, Nat.le_trans hc.2 cap_line, fun p hp => q _ _ _ (Grow.alloc e hp) (.lst (SqL.of upd_same) (reps_strs _))⟩
  · exact nomatch hz
theorem ex_split {apos : Pos} (ho : PE X o (tE c b1 f)) (he : PE X e (tE c b2 g)) (hs : starEach [e] X.env = [(false, eval e X.env)] := by rfl) (hbase : attributeBase o "split" X.env (eval o X.env) = eval o X.env := by rfl) (hline : (apos.endLine == pos.line) = true := by rfl) :
    PE X (.Call (.Attribute o "split" apos) [e] [] pos) (tE c (b1 && b2) (e2 dSplit f g)) := ex_m1 F.slot_str_split F.type_str_split mt_split ms_split (fun dx dy z h => by cases dx <;> first | exact ⟨_, rfl⟩ | (cases dy <;> contradiction)) ho he hs hbase hline
/-! ### one sign in a text; lists put together -/
def rInS1 : R2 := fun x y H Q => ∃ (k : Nat) (z : Str), x = .str ⟨#[k]⟩ ∧ y = .str z ∧ Q (.bl (decide (k ∈ z.cps.toList))) H
theorem op_inS1 : OpR X (compareOp .In) rInS1 := op_in_sign
theorem os_inS : OpS c rInS1 dInS := fun H G x y dx dy dz Q e rx ry hz q => by
  cases dx <;> cases dy <;> simp only [dInS] at hz <;> try contradiction
  rename_i a z
  split at hz
  · rename_i k hk
    cases hz
    cases rx
    cases ry
    have ea : a = ⟨#[k]⟩ := by
      cases a with
      | mk cps =>
        have : cps = #[k] := by
          apply Array.toList_inj.mp
          exact hk
        rw [this]
    exact ⟨k, z, by rw [ea], rfl, q _ _ _ (Grow.refl e) (.bl _)⟩
  · exact nomatch hz
theorem bo_inS : BoolOp2 dInS := fun x y z h => by
  cases x <;> cases y <;> simp only [dInS] at h <;> try contradiction
  split at h
  · cases h; exact ⟨_, rfl⟩
  · exact nomatch h
end
end DL
/-! DL 8: lists of one's own changed, borrowed; arguments lent to a def. -/
namespace DL
open PySem PySem.Spec PyProof.Rows L2

/-! ### xs + ys of lists that may be read -/
def rCatS (K : PySem.W.Frag) : R2 := fun x y H Q => ∃ l b xs zs, x = .ref l ∧ y = .ref b ∧ SqL K H l xs ∧ SqL K H b zs ∧ xs.length + zs.length ≤ sizeLine ∧ ∀ p, H p = none → Q (.ref p) (upd H p (.lst (xs ++ zs)))
theorem op_catS {X : Cx} : OpR X (binaryOp .Add) (rCatS X.K) := by
  intro pins s σ H x y v u Q I rx ry h
  obtain ⟨l, b, xs, zs, rfl, rfl, hH, hB, hz, q⟩ := h
  cases rx
  cases ry
  obtain ⟨its, r, hl, _⟩ := I.list hH
  obtain ⟨its2, r2, hl2, _⟩ := I.list hB
  have e1 := r.length
  have e2 := r2.length
  obtain ⟨⟨cls, dd, data, sl⟩, ho, hc, n, hd⟩ := hl.isList
  obtain ⟨⟨cls2, dd2, data2, sl2⟩, ho2, hc2, n2, hd2⟩ := hl2.isList
  simp only at hc hd hc2 hd2
  subst hc hd hc2 hd2
  have e : its.toArray ++ its2.toArray = (its ++ its2).toArray := by simp
  refine concat_meets ⟨_, ho, rfl⟩ ⟨_, ho2, rfl⟩ noFill_list_add seq_list_add PySem.F.slot_list_add PySem.F.entry_list_add (PySem.F.args_list_add_2 _ _) (list_addW l b its.toArray its2.toArray n n2 dd dd2 sl sl2 (by simpa [← e1, ← e2] using hz)) ⟨ho, ho2, ?_⟩
  rw [e]
  exact ⟨.ref _, _, I.lnew (t' := s.toks) (r.append r2) (by rw [List.length_append]; omega), rfl, q _ I.fresh⟩
def rAddL (K : PySem.W.Frag) : R2 := fun x y H Q => rAddA K x y H Q ∨ rCatS K x y H Q
theorem op_addL {X : Cx} : OpR X (binaryOp .Add) (rAddL X.K) := op_addA.or op_catS
def dAddL : D → D → Option D
  | .lst xs, .lst ys => if xs.length + ys.length ≤ cap then some (.lst (xs ++ ys)) else none
  | x, y => dAdd x y
theorem os_addL {c : Cc} : OpS c (rAddL c.K) dAddL := fun H G x y dx dy dz Q e rx ry hz q => by
  cases dx <;> first
    | (refine .inl (os_add Q e rx ry ?_ q); cases dy <;> first | exact hz | contradiction; done)
    | (cases dy <;> try contradiction
       simp only [dAddL] at hz
       split at hz
       · rename_i hc
         cases hz
         cases rx with
         | lst t1 r1 =>
         cases ry with
         | lst t2 r2 =>
         refine .inr ⟨_, _, _, _, rfl, rfl, Same.sqL e t1, Same.sqL e t2, by rw [r1.length, r2.length]; exact Nat.le_trans hc cap_line, fun p hp => ?_⟩
         exact q _ _ _ (Grow.alloc e hp) (.lst (SqL.of upd_same) ((r1.append r2).mono (same_upd (e.free hp))))
       · contradiction)

/-! ### data without lists -/
mutual
def noL : D → Bool
  | .lst _ => false
  | .tup xs => noLs xs
  | _ => true
def noLs : List D → Bool
  | [] => true
  | x :: xs => noL x && noLs xs
end
def eBor (i : Nat) (f : EF) : EF := fun s => match s[i]? with
  | some (.lst xs) => (f (s.set i (.val (.lst xs)))).bind fun p => if noL p.1 = true then some (p.1, s) else none
  | _ => f s
def dropA (G : Hp) (p : Addr) : Hp := fun a => if a = p then none else G a
theorem sqT_drop {K : PySem.W.Frag} {G : Hp} {p a : Addr} {vs us : List V} (hp : G p = some (.lst us)) (h : SqT K G a vs) : SqT K (dropA G p) a vs := by
  rcases h with (h | ⟨o, h⟩) | h
  · exact .inl (.inl (by unfold dropA; rw [if_neg fun z => by rw [z, hp] at h; cases h]; exact h))
  · exact .inl (.inr ⟨o, by unfold dropA; rw [if_neg fun z => by rw [z, hp] at h; cases h]; exact h⟩)
  · exact .inr h
mutual
theorem Rep.noL {K : PySem.W.Frag} {G : Hp} {p : Addr} {us : List V} (hp : G p = some (.lst us)) : ∀ {v : V} {d : D}, DL.noL d = true → Rep K G v d → Rep K (dropA G p) v d
  | _, _, _, .non => .non
  | _, _, _, .bl b => .bl b
  | _, _, _, .int i => .int i
  | _, _, _, .str x => .str x
  | _, _, _, .ref a => .ref a
  | _, _, h, .tup t r => .tup (sqT_drop hp t) (Reps.noL hp (by simpa [DL.noL] using h) r)
  | _, _, h, .lst _ _ => by simp [DL.noL] at h
theorem Reps.noL {K : PySem.W.Frag} {G : Hp} {p : Addr} {us : List V} (hp : G p = some (.lst us)) : ∀ {vs : List V} {ds : List D}, noLs ds = true → Reps K G vs ds → Reps K (dropA G p) vs ds
  | _, _, _, .nil => .nil
  | _, _, h, .cons r t => by
    obtain ⟨h1, h2⟩ := Bool.and_eq_true_iff.mp (by simpa [noLs] using h)
    exact .cons (Rep.noL hp h1 r) (Reps.noL hp h2 t)
end
section
variable {c : Cc} {X : Cx} {pins : List Nat} {b1 b2 b3 : Bool} {f g h : EF} {t : BF} {fa fi : AF} {pos : Pos} {e o : Expr} {es : List Expr}
variable {H H1 H2 G G1 G2 : Hp} {s s1 s2 : S} {fp fp1 fp2 : List Addr} {σ σ1 σ2 : L2.St} {Z : Ends}
theorem ex_bor (i : Nat) (he : PE X e (tE c true f)) : PE X e (tE c true (eBor i f)) := PE_imp he fun σ H Q ⟨G, s, fp, d, s', k, sl, hf, q⟩ => by
  unfold eBor at hf
  split at hf
  · rename_i xs hx
    obtain ⟨v0, f1, f2, h1, h2, hp, hk⟩ := sl.split hx (by simp)
    cases h2 with
    | @lst p vs _ hv r =>
      have gp : G p = none := k.own p (hp.mem_iff.mpr (by simp))
      have sg : Same G (upd G p (.lst vs)) := same_upd gp
      have rr : Rep c.K (upd G p (.lst vs)) (.ref p) (.lst xs) := .lst (SqL.of upd_same) (r.mono sg)
      obtain ⟨fp', p', sl'⟩ := hk H (upd G p (.lst vs)) (.val (.lst xs)) [] (.val rr) (fun _ _ => rfl) sg
      have nd := List.nodup_append.mp (hp.nodup_iff.mp k.nd)
      have k' : Ok H (upd G p (.lst vs)) fp' := ⟨fun b o hb => by
          by_cases hbp : b = p
          · subst hbp; rw [upd_same] at hb; rw [← hb]; exact hv
          · rw [upd_ne hbp] at hb; exact k.sub b o hb, fun x hx => by
          have hx2 : x ∈ f2 := by simpa using p'.mem_iff.mp hx
          rw [upd_ne fun z => nd.2.2 p (by simp) x hx2 z.symm]
          exact k.own x (hp.mem_iff.mpr (List.mem_append_right _ hx2)), p'.nodup_iff.mpr (by simpa using nd.2.1)⟩
      cases h3 : f (s.set i (.val (.lst xs))) with
      | none => rw [h3] at hf; exact nomatch hf
      | some pp =>
        obtain ⟨d1, s1⟩ := pp
        simp only [h3, Option.bind_some] at hf
        split at hf
        · rename_i hn
          cases hf
          refine ⟨_, _, fp', _, s1, k', sl', h3, fun v H1 G1 fp1 E1 S1 r1 pu => ?_⟩
          obtain ⟨gr, _⟩ := pu rfl
          have gp1 : G1 p = some (.lst vs) := gr.gs p _ upd_same
          have gr2 : Grow H G H1 (dropA G1 p) := ⟨gr.hs, fun a o ha => by
              have hne : a ≠ p := fun z => by rw [z, gp] at ha; cases ha
              unfold dropA
              rw [if_neg hne]
              exact gr.gs a o (by rw [upd_ne hne]; exact ha), fun a o ha => by
              unfold dropA at ha
              split at ha
              · cases ha
              · exact gr.sub a o ha, fun a ha => by
              unfold dropA
              by_cases hne : a = p
              · rw [if_pos hne, hne, gp]
              · rw [if_neg hne, gr.nw a ha, upd_ne hne]⟩
          exact q v H1 (dropA G1 p) fp (gr2.ev k sl) (sl.step gr2) (r1.noL gp1 hn) fun _ => ⟨gr2, rfl⟩
        · exact nomatch hf
  · exact ⟨G, s, fp, d, s', k, sl, hf, q⟩
/-! ### a[i] = d -/
theorem gx_ix (kk : Nat) {x : Str} {p1 : Pos} {i : Expr} (hi : PE X i (tE c b1 f)) (hN : X.N[kk]? = some x := by rfl) (hv : Vis X.env.scope x := by first | exact Or.inl rfl | exact Or.inr (Or.inl rfl)) (hd : (x == ("__debug__" : Str)) = false := by decide) (hcd : (x == ("__classdict__" : Str)) = false := by decide)
    (ha : ∀ v, assign (.Subscript (.Name x p1) i pos) X.env v = (do
      let ov ← holding [v] (eval (.Name x p1) X.env)
      let iv ← holding [v, ov] (eval i X.env)
      standAt pos
      holding [v, ov, iv] (setItem ov iv v)
      release [v, ov, iv] []) := by exact fun _ => rfl) : PG X (.Subscript (.Name x p1) i pos) (tG c pins false (gIx kk f)) :=
  PG_imp (pg_sub (pe_var hN hv hd hcd) hi set_list ha) fun v σ H Q ⟨G, s, fp, d, s', k, sl, r, hg, q⟩ => by
    unfold gIx at hg
    split at hg
    · rename_i xs0 hx0
      obtain ⟨p0, vs0, _, hσ, _⟩ := own_lst k sl hx0
      cases h1 : f s with
      | none => rw [h1] at hg; exact nomatch hg
      | some pp =>
        obtain ⟨di, s1⟩ := pp
        simp only [h1, Option.bind_some] at hg
        split at hg
        · rename_i o1 o2 i xs e2
          cases hj : ixN xs.length i with
          | none => rw [hj] at hg; exact nomatch hg
          | some j =>
            rw [hj] at hg
            cases hg
            refine ⟨_, hσ, G, s, fp, _, s1, k, sl, h1, fun iv H1 G1 fp1 E1 S1 r1 _ => ?_⟩
            obtain ⟨p, vs, f2, hσ2, hv2, rr, _, kk2⟩ := own_lst E1.ok S1 e2
            rw [hσ] at hσ2
            cases hσ2
            obtain ⟨fp', E2, S2⟩ := kk2 (vs.set j v) (xs.set j d) (rr.set (r.mono E1.gs) j)
            refine ⟨_, vs, i, j, rfl, r1.ints, hv2, by rw [rr.length]; exact hj, q σ _ G1 fp' (E1.trans E2) S2 PinEq.refl fun z => nomatch z⟩
        · exact nomatch hg
    · exact nomatch hg
end

/-! ### lent arguments -/
inductive Arg where
  | own (i : Nat) | val (d : D) | new (xs : List D)
abbrev AOF := S → Option (List Arg × S)
inductive ArgsV (c : Cc) (H G : Hp) (σ : L2.St) : List Arg → List V → List Addr → Prop
  | nil : ArgsV c H G σ [] [] []
  | own {i : Nat} {v : V} {as : List Arg} {vs : List V} {fx : List Addr} : σ[i]? = some (some v) → ArgsV c H G σ as vs fx → ArgsV c H G σ (.own i :: as) (v :: vs) fx
  | val {d : D} {v : V} {as : List Arg} {vs : List V} {fx : List Addr} : Rep c.K G v d → ArgsV c H G σ as vs fx → ArgsV c H G σ (.val d :: as) (v :: vs) fx
  | new {xs : List D} {p : Addr} {ws : List V} {as : List Arg} {vs : List V} {fx : List Addr} : H p = some (.lst ws) → Reps c.K G ws xs → ArgsV c H G σ as vs fx → ArgsV c H G σ (.new xs :: as) (.ref p :: vs) (p :: fx)
def tAO (c : Cc) (f : AOF) : TA := fun σ H Q => ∃ G s fp d s', Ok H G fp ∧ Slots c H G σ s fp ∧ f s = some (d, s') ∧
  ∀ vs fx H' G' fp', Ev H G fp H' G' (fx ++ fp') → Slots c H' G' σ s' fp' → ArgsV c H' G' σ d vs fx → Q vs H'
def isUn : O → Bool
  | .un => true
  | _ => false
def aoNil : AOF := fun s => some ([], s)
def aoOwn (i : Nat) (r : AOF) : AOF := fun s => match s[i]? with
  | some o => if isUn o = true then none else (r s).map fun p => (.own i :: p.1, p.2)
  | none => none
def aoVal (f : EF) (r : AOF) : AOF := fun s => (f s).bind fun p => (r p.2).map fun q => (.val p.1 :: q.1, q.2)
def aoNew (f : AF) (r : AOF) : AOF := fun s => (f s).bind fun p => (r p.2).map fun q => (.new p.1 :: q.1, q.2)
def takeO : S → List Arg → Option (List O × S)
  | s, [] => some ([], s)
  | s, .val d :: r => (takeO s r).map fun p => (.val d :: p.1, p.2)
  | s, .new xs :: r => (takeO s r).map fun p => (.lst xs :: p.1, p.2)
  | s, .own i :: r => match s[i]? with
    | some o => if isUn o = true then none else (takeO (s.set i .un) r).map fun p => (o :: p.1, p.2)
    | none => none
def putO : S → List Arg → List O → Option S
  | s, [], [] => some s
  | s, .val _ :: r, o :: os => if isUn o = true then putO s r os else none
  | s, .new _ :: r, _ :: os => putO s r os
  | s, .own i :: r, o :: os => if isUn o = true then putO s r os else match s[i]? with
    | some .un => putO (s.set i o) r os
    | _ => none
  | _, _, _ => none
def eCallO (m : List O → Option (D × List O)) (fa : AOF) : EF := fun s => (fa s).bind fun p => (takeO p.2 p.1).bind fun q => (m q.1).bind fun r => (putO q.2 p.1 r.2).map fun s3 => (r.1, s3)
def spO (c : Cc) (m : List O → Option (D × List O)) : Sp := fun vs H Q _ => ∃ G fp as r as', Ok H G fp ∧ Slots c H G (vs.map some) as fp ∧ m as = some (r, as') ∧
  ∀ v H' G' fp', Ev H G fp H' G' fp' → Slots c H' G' (vs.map some) as' fp' → Rep c.K G' v r → Q v H'
section
variable {c : Cc} {X : Cx} {pins : List Nat} {b1 b2 b3 : Bool} {f g h : EF} {fao : AOF} {pos : Pos} {e o : Expr} {es : List Expr}
variable {H H' H1 H2 G G' G1 G2 : Hp} {s s1 s2 : S} {fp fp' fp1 fp2 : List Addr} {σ σ1 σ2 : L2.St} {Z : Ends}
theorem xao_nil : PA X [] (tAO c aoNil) := PA_imp pa_nil fun σ H Q ⟨G, s, fp, d, s', k, sl, hf, q⟩ => by
  cases hf
  exact q [] [] H G fp (Ev.refl k) sl .nil
theorem xao_own (i : Nat) {x : Str} {p : Pos} (hr : PA X es (tAO c fao)) (hN : X.N[i]? = some x := by rfl) (hv : Vis X.env.scope x := by first | exact Or.inl rfl | exact Or.inr (Or.inl rfl) | exact Or.inr (Or.inr rfl)) (hd : (x == ("__debug__" : Str)) = false := by decide) (hcd : (x == ("__classdict__" : Str)) = false := by decide)
    (hs : starEach (.Name x p :: es) X.env = (false, eval (.Name x p) X.env) :: starEach es X.env := by rfl) : PA X (.Name x p :: es) (tAO c (aoOwn i fao)) := PA_imp (pa_cons (pe_var hN hv hd hcd) hr hs) fun σ H Q ⟨G, s, fp, d, s', k, sl, hf, q⟩ => by
  unfold aoOwn at hf
  split at hf
  · rename_i o ho
    split at hf
    · exact nomatch hf
    · rename_i hu
      obtain ⟨v, f1, f2, h1, _⟩ := sl.split ho (fun z => hu (by rw [z]; rfl))
      cases h2 : fao s with
      | none => rw [h2] at hf; exact nomatch hf
      | some pp =>
        obtain ⟨as, s1⟩ := pp
        simp only [h2, Option.map_some, Option.some.injEq, Prod.mk.injEq] at hf
        obtain ⟨rfl, rfl⟩ := hf
        exact ⟨v, h1, G, s, fp, as, s1, k, sl, h2, fun vs fx H1 G1 fp1 E1 S1 a1 => q (v :: vs) fx H1 G1 fp1 E1 S1 (.own h1 a1)⟩
  · exact nomatch hf
theorem xao_val (he : PE X e (tE c b1 f)) (hr : PA X es (tAO c fao)) (hs : starEach (e :: es) X.env = (false, eval e X.env) :: starEach es X.env := by rfl) : PA X (e :: es) (tAO c (aoVal f fao)) := PA_imp (pa_cons he hr hs) fun σ H Q ⟨G, s, fp, d, s', k, sl, hf, q⟩ => by
  unfold aoVal at hf
  cases h1 : f s with
  | none => rw [h1] at hf; exact nomatch hf
  | some p =>
    obtain ⟨x, s1⟩ := p
    simp only [h1, Option.bind_some] at hf
    cases h2 : fao s1 with
    | none => simp [h2] at hf
    | some p2 =>
      obtain ⟨ys, s2⟩ := p2
      simp only [h2, Option.map_some, Option.some.injEq, Prod.mk.injEq] at hf
      obtain ⟨rfl, rfl⟩ := hf
      exact ⟨G, s, fp, x, s1, k, sl, h1, fun v H1 G1 fp1 E1 S1 r1 p1 => ⟨G1, s1, fp1, ys, s2, E1.ok, S1, h2, fun us fx H2 G2 fp2 E2 S2 r2 =>
        q (v :: us) fx H2 G2 fp2 (E1.trans E2) S2 (.val (r1.mono E2.gs) r2)⟩⟩
theorem xao_new (he : PE X e (tN c fa)) (hr : PA X es (tAO c fao)) (hs : starEach (e :: es) X.env = (false, eval e X.env) :: starEach es X.env := by rfl) : PA X (e :: es) (tAO c (aoNew fa fao)) := PA_imp (pa_cons he hr hs) fun σ H Q ⟨G, s, fp, d, s', k, sl, hf, q⟩ => by
  unfold aoNew at hf
  cases h1 : fa s with
  | none => rw [h1] at hf; exact nomatch hf
  | some p =>
    obtain ⟨x, s1⟩ := p
    simp only [h1, Option.bind_some] at hf
    cases h2 : fao s1 with
    | none => simp [h2] at hf
    | some p2 =>
      obtain ⟨ys, s2⟩ := p2
      simp only [h2, Option.map_some, Option.some.injEq, Prod.mk.injEq] at hf
      obtain ⟨rfl, rfl⟩ := hf
      refine ⟨G, s, fp, x, s1, k, sl, h1, fun p ws H1 G1 fp1 E1 S1 hv r1 => ?_⟩
      have pm : (p :: fp1).Perm (fp1 ++ [p]) := List.perm_append_comm (l₁ := [p]) (l₂ := fp1)
      have np : p ∉ fp1 := (List.nodup_cons.mp E1.nd).1
      refine ⟨G1, s1, fp1, ys, s2, E1.ok.left pm, S1, h2, fun us fx H2 G2 fp2 E2 S2 r2 => ?_⟩
      have E3 := Ev.beside E1.ok pm (fun a ha => by
        have e : a = p := by simpa using ha
        rw [e, hv]; simp) E2
      refine q (.ref p :: us) (p :: fx) H2 G2 fp2 (E1.trans (E3.perm ?_)) S2 (.new (E2.frame p _ hv np) (r1.mono E2.gs) r2)
      exact List.perm_append_comm (l₁ := [p]) (l₂ := fx ++ fp2)
theorem takeAll : ∀ {as : List Arg} {vs : List V} {fx : List Addr} {s s2 : S} {fp : List Addr} {os : List O}, Slots c H G σ s fp → ArgsV c H G σ as vs fx → takeO s as = some (os, s2) → ∃ f1 f2, (fx ++ fp).Perm (f1 ++ f2) ∧ Slots c H G (vs.map some) os f1 ∧ Slots c H G σ s2 f2
  | _, _, _, s, s2, fp, os, sl, .nil, ht => by
    cases ht
    exact ⟨[], fp, List.Perm.refl _, .nil, sl⟩
  | _, _, _, s, s2, fp, os, sl, .val (as := as) hr ha, ht => by
    simp only [takeO] at ht
    cases h1 : takeO s as with
    | none => rw [h1] at ht; exact nomatch ht
    | some p =>
      obtain ⟨o2, s3⟩ := p
      simp only [h1, Option.map_some, Option.some.injEq, Prod.mk.injEq] at ht
      obtain ⟨rfl, rfl⟩ := ht
      obtain ⟨f1, f2, hp, S1, S2⟩ := takeAll sl ha h1
      exact ⟨f1, f2, hp, by simpa using Slots.cons (.val hr) S1, S2⟩
  | _, _, _, s, s2, fp, os, sl, .new (as := as) (p := p) (fx := fx) hv hr ha, ht => by
    simp only [takeO] at ht
    cases h1 : takeO s as with
    | none => rw [h1] at ht; exact nomatch ht
    | some pp =>
      obtain ⟨o2, s3⟩ := pp
      simp only [h1, Option.map_some, Option.some.injEq, Prod.mk.injEq] at ht
      obtain ⟨rfl, rfl⟩ := ht
      obtain ⟨f1, f2, hp, S1, S2⟩ := takeAll sl ha h1
      exact ⟨p :: f1, f2, List.Perm.cons p hp, Slots.cons (.lst hv hr) S1, S2⟩
  | _, _, _, s, s2, fp, os, sl, .own (as := as) (i := i) (fx := fx) hi ha, ht => by
    simp only [takeO] at ht
    split at ht
    · rename_i o ho
      split at ht
      · exact nomatch ht
      · rename_i hu
        cases h1 : takeO (s.set i .un) as with
        | none => rw [h1] at ht; exact nomatch ht
        | some p =>
          obtain ⟨o2, s3⟩ := p
          simp only [h1, Option.map_some, Option.some.injEq, Prod.mk.injEq] at ht
          obtain ⟨rfl, rfl⟩ := ht
          obtain ⟨v', g1, g2, hσ, ho', hp, S0⟩ := sl.take ho (fun z => hu (by rw [z]; rfl))
          rw [hi] at hσ
          cases hσ
          obtain ⟨f1, f2, hp2, S1, S2⟩ := takeAll S0 ha h1
          refine ⟨g1 ++ f1, f2, ?_, .cons ho' S1, S2⟩
          rw [List.append_assoc]
          refine (List.Perm.append_left fx hp).trans (List.Perm.trans ?_ (List.Perm.append_left g1 hp2))
          rw [← List.append_assoc, ← List.append_assoc]
          exact List.Perm.append_right g2 List.perm_append_comm
    · exact nomatch ht
theorem putAll : ∀ {as : List Arg} {vs : List V} {fx : List Addr} {s s2 : S} {f1 f2 : List Addr} {os : List O} {G0 H0 : Hp}, Slots c H G σ s f2 → Slots c H G (vs.map some) os f1 → ArgsV c H0 G0 σ as vs fx → putO s as os = some s2 → ∃ fr fq, (f1 ++ f2).Perm (fr ++ fq) ∧ Slots c H G σ s2 fq
  | _, _, _, s, s2, f1, f2, os, _, _, sl, S1, .nil, ht => by
    cases S1
    cases ht
    exact ⟨[], f2, List.Perm.refl _, sl⟩
  | _, _, _, s, s2, f1, f2, os, _, _, sl, S1, .val hr ha, ht => by
    cases S1 with
    | un t => exact putAll sl t ha (by simpa [putO, isUn] using ht)
    | cons w t => cases w <;> simp [putO, isUn] at ht
  | _, _, _, s, s2, f1, f2, os, _, _, sl, S1, .new hv hr ha, ht => by
    cases S1 with
    | un t => exact putAll sl t ha (by simpa [putO] using ht)
    | @cons _ o _ r g1 g2 w t =>
      obtain ⟨fr, fq, pq, S3⟩ := putAll sl t ha (by simpa [putO] using ht)
      refine ⟨g1 ++ fr, fq, ?_, S3⟩
      rw [List.append_assoc, List.append_assoc]
      exact List.Perm.append_left g1 pq
  | _, _, _, s, s2, f1, f2, os, _, _, sl, S1, .own hi ha, ht => by
    cases S1 with
    | un t => exact putAll sl t ha (by simpa [putO, isUn] using ht)
    | @cons _ o _ r g1 g2 w t =>
      have hu : isUn o = false := by cases w <;> rfl
      simp only [putO, hu] at ht
      rw [if_neg Bool.false_ne_true] at ht
      split at ht
      · rename_i e
        obtain ⟨fq, pq, S3⟩ := Slots.back w sl e hi
        obtain ⟨fr, fs, pr, S4⟩ := putAll S3 t ha ht
        refine ⟨fr, fs, List.Perm.trans ?_ pr, S4⟩
        refine List.Perm.trans ?_ (List.Perm.append_left g2 pq.symm)
        rw [← List.append_assoc]
        exact List.Perm.append_right f2 List.perm_append_comm
      · exact nomatch ht
theorem callO_ok {m : List O → Option (D × List O)} {E : XK} {Q : VK} (q : tE c false (eCallO m fao) σ H Q) : tCall (spO c m) [] E (tAO c fao) σ H Q := by
  obtain ⟨G, s, fp, d, s', k, sl, hf, q⟩ := q
  unfold eCallO at hf
  cases h1 : fao s with
  | none => rw [h1] at hf; exact nomatch hf
  | some p =>
    obtain ⟨as, s1⟩ := p
    simp only [h1, Option.bind_some] at hf
    cases h2 : takeO s1 as with
    | none => simp [h2] at hf
    | some p2 =>
      obtain ⟨os, s2⟩ := p2
      simp only [h2, Option.bind_some] at hf
      cases h3 : m os with
      | none => simp [h3] at hf
      | some p3 =>
        obtain ⟨r, os'⟩ := p3
        simp only [h3, Option.bind_some] at hf
        cases h4 : putO s2 as os' with
        | none => simp [h4] at hf
        | some s3 =>
          simp only [h4, Option.map_some, Option.some.injEq, Prod.mk.injEq] at hf
          obtain ⟨rfl, rfl⟩ := hf
          refine ⟨G, s, fp, as, s1, k, sl, h1, fun vs fx H1 G1 fp1 E1 S1 a1 => ?_⟩
          obtain ⟨f1, f2, hp, T1, T2⟩ := takeAll S1 a1 h2
          refine ⟨G1, f1, os, r, os', E1.ok.left hp, by rw [List.append_nil]; exact T1, h3, fun v H' G' fp' E' S' r' => ?_⟩
          rw [List.append_nil] at S'
          have nd := List.nodup_append.mp (hp.nodup_iff.mp E1.nd)
          have E2 := Ev.beside E1.ok hp (T2.there) E'
          have T3 : Slots c H' G' σ s2 f2 := T2.stay E'.gs fun a ha => by
            cases z : H1 a with
            | none => exact absurd z (T2.there a ha)
            | some o => exact E'.frame a o z fun y => nd.2.2 a y a ha rfl
          obtain ⟨fr, fq, pq, T4⟩ := putAll T3 S' a1 h4
          exact q v H' G' fq (E1.trans (E2.less pq)) T4 r' fun z => nomatch z
section
variable {kl : Nat} {fA : Addr} {fd : FuncData} {ps : List Str} {x : Str} {p : Pos} {m : List O → Option (D × List O)}
theorem ex_callO (F : FnOk X.prog X.w X.K X.mg X.base CX0 kl fA fd ps (spO c m)) (hr : Room kl X.A) (hm : X.mg x = some (.ref fA)) (hk : PySem.W.keepIn X.K (.ref fA) = true) (hb : Binds X.K fd ps []) (ha : PA X (e :: es) (tAO c fao)) (hg : Gl X x := by rfl)
    (hdb : (x == ("__debug__" : Str)) = false := by decide) (he : starEach (e :: es) X.env = (false, eval e X.env) :: starEach es X.env := by rfl) (hpl : (backTo pos (starEach es X.env)).any (·.1) = false := by rfl) :
    PE X (.Call (.Name x p) (e :: es) [] pos) (tE c false (eCallO m fao)) := PE_imp (pe_call (E := E0) F hr hg hm hk hb .nil pass0 ha hdb he hpl) fun _ _ _ q => callO_ok q
end
/-! ### a def with lent parameters -/
def keepO : List Bool → S → List O
  | true :: bs, o :: s => o :: keepO bs s
  | false :: bs, _ :: s => .un :: keepO bs s
  | _, _ => []
def runO (mask : List Bool) (n : Nat) (fb : SF) (as : List O) : Option (D × List O) := if as.length = mask.length then (fb (as ++ List.replicate (n - mask.length) O.un)).bind fun fl => match fl with
    | .ret (.d d) s => some (d, keepO mask s)
    | .next s => some (.non, keepO mask s)
    | _ => none
  else none
theorem Slots.tail_un : ∀ {σ : L2.St} {s : S} {fp : List Addr} (n : Nat), Slots c H G σ s fp → Slots c H G (σ ++ List.replicate n none) (s ++ List.replicate n O.un) fp
  | _, _, _, n, .nil => by
    show Slots c H G (List.replicate n none) (List.replicate n O.un) []
    induction n with
    | zero => exact .nil
    | succ n ih => exact .un ih
  | _, _, _, n, .un t => .un (Slots.tail_un n t)
  | _, _, _, n, .cons w t => .cons w (Slots.tail_un n t)
theorem Slots.keep : ∀ {mask : List Bool} {vs : List V} {σ : L2.St} {s : S} {fp : List Addr}, Slots c H G σ s fp → vs.length = mask.length → mask.length ≤ s.length → (∀ i : Nat, mask[i]? = some true → σ[i]? = (vs.map some)[i]?) → ∃ f1 f2, fp.Perm (f1 ++ f2) ∧ Slots c H G (vs.map some) (keepO mask s) f2
  | [], [], σ, s, fp, sl, _, _, _ => ⟨fp, [], by simp, by cases s <;> exact .nil⟩
  | [], _ :: _, _, _, _, _, h, _, _ => nomatch h
  | _ :: _, [], _, _, _, _, h, _, _ => nomatch h
  | b :: bs, v :: vs, _, _, _, .nil, _, h, _ => by simp at h
  | b :: bs, v :: vs, _, _, _, .un t, h1, h2, h3 => by
    obtain ⟨f1, f2, p, k⟩ := Slots.keep (mask := bs) (vs := vs) t (by simpa using h1) (by simpa using h2) (fun i hi => by simpa using h3 (i + 1) (by simpa using hi))
    refine ⟨f1, f2, p, ?_⟩
    cases b <;> exact .un k
  | true :: bs, v :: vs, _, _, _, .cons (f1 := g1) (f2 := g2) w t, h1, h2, h3 => by
    obtain ⟨f1, f2, p, k⟩ := Slots.keep (mask := bs) (vs := vs) t (by simpa using h1) (by simpa using h2) (fun i hi => by simpa using h3 (i + 1) (by simpa using hi))
    have e := h3 0 rfl
    simp at e
    subst e
    refine ⟨f1, g1 ++ f2, ?_, .cons w k⟩
    refine (List.Perm.append_left g1 p).trans ?_
    rw [← List.append_assoc, ← List.append_assoc]
    exact List.Perm.append_right f2 List.perm_append_comm
  | false :: bs, v :: vs, _, _, _, .cons (f1 := g1) (f2 := g2) w t, h1, h2, h3 => by
    obtain ⟨f1, f2, p, k⟩ := Slots.keep (mask := bs) (vs := vs) t (by simpa using h1) (by simpa using h2) (fun i hi => by simpa using h3 (i + 1) (by simpa using hi))
    refine ⟨g1 ++ f1, f2, ?_, .un k⟩
    rw [List.append_assoc]
    exact List.Perm.append_left g1 p
variable {P : Program} {wd : World} {K : PySem.W.Frag} {mg : Str → Option Value} {base : Heap}
theorem fn_own {x qual : Str} {sd : Stmt} {fA : Addr} {fd : FuncData} {N ps : List Str} {kl : Nat} (mask : List Bool) (pins : List Nat) (n : Nat) (m : List O → Option (D × List O)) (fb : SF) (hm : m = runO mask n fb) (F : Fun K x qual sd fA fd) (Sc : FnScope N ps (defScope sd)) (hK : K = c.K) (e2 : N.length = n) (hps : mask.length = ps.length) (hN : ps.length ≤ N.length)
    (hpin : ∀ i : Nat, mask[i]? = some true → i ∈ pins)
    (body : ∀ (cdv : Value) (A : Around) (outer : List Env) (s : Shared) (H : Hp) (E : XK), Room kl (A.deeper (envOfC qual (defScope sd) s.heap.objs.size fA cdv)) →
      PSs (cxOf CX0 P wd K mg base N qual (defScope sd) fA cdv A outer s H E).nox (defBody sd) (tS c pins fb)) : FnOk P wd K mg base CX0 (kl + 1) fA fd ps (spO c m) := by
  subst hm e2
  refine F.ok Sc (fun vs H Q E h => ?_) fun cdv A outer s H vs Q E hr h => ⟨_, body cdv A outer s H E hr, ?_⟩
  · obtain ⟨G, fp, as, r, as', _, sl, hm, _⟩ := h
    unfold runO at hm
    split at hm
    · rename_i hl
      have := sl.length
      rw [List.length_map] at this
      omega
    · exact nomatch hm
  · obtain ⟨G, fp, as, r, as', k, sl, hm, q⟩ := h
    unfold runO at hm
    split at hm
    · rename_i hl
      have hvl : vs.length = as.length := by simpa using sl.length
      cases h1 : fb (as ++ List.replicate (N.length - mask.length) O.un) with
      | none => rw [h1] at hm; exact nomatch hm
      | some fl =>
        simp only [h1, Option.bind_some] at hm
        have sl0 : Slots c H G (L2.start N vs) (as ++ List.replicate (N.length - mask.length) O.un) fp := by
          unfold L2.start
          rw [hvl, hl]
          exact sl.tail_un _
        have len0 : (L2.start N vs).length = N.length := by
          unfold L2.start
          rw [List.length_append, List.length_map, List.length_replicate]
          omega
        have pinv : ∀ σ' : L2.St, PinEq pins (L2.start N vs) σ' → ∀ i : Nat, mask[i]? = some true → σ'[i]? = (vs.map some)[i]? := fun σ' p i hi => by
          rw [p.2 i (hpin i hi)]
          unfold L2.start
          have : i < mask.length := (List.getElem?_eq_some_iff.mp hi).1
          rw [List.getElem?_append_left (by rw [List.length_map]; omega)]
        refine ⟨G, _, fp, fl, k, sl0, h1, ?_⟩
        cases fl with
        | ret rr s' =>
          cases rr with
          | n xs => exact nomatch hm
          | k xs => exact nomatch hm
          | d d =>
          simp only [Option.some.injEq, Prod.mk.injEq] at hm
          obtain ⟨rfl, rfl⟩ := hm
          intro v σ' H' G' fp' E1 S1 p1 r1
          obtain ⟨f1, f2, pp, S2⟩ := S1.keep (mask := mask) (vs := vs) (by omega) (by rw [← S1.length, p1.1, len0]; omega) (pinv σ' p1)
          exact q v H' G' f2 (E1.less pp) S2 r1
        | next s' =>
          simp only [Option.some.injEq, Prod.mk.injEq] at hm
          obtain ⟨rfl, rfl⟩ := hm
          intro σ' H' G' fp' E1 S1 p1
          obtain ⟨f1, f2, pp, S2⟩ := S1.keep (mask := mask) (vs := vs) (by omega) (by rw [← S1.length, p1.1, len0]; omega) (pinv σ' p1)
          exact q .non H' G' f2 (E1.less pp) S2 .non
        | _ => exact nomatch hm
    · exact nomatch hm
end
end DL
/-! DL 9: more of what is walked and called; what the top has left of a def, of a constant. -/
namespace DL
open PySem PySem.Spec PyProof.Rows L2 RZ

/-! ### range with a step above 0 -/
def rangeC (i c : Int) (n : Nat) : List D := (List.range n).map fun (k : Nat) => .int (i + (k : Int) * c)
def iRng3 (fa : AF) : AF := fun s => (fa s).bind fun p => match p.1 with
  | [.int i, .int j, .int k] => if -bigI ≤ i ∧ i ≤ bigI ∧ -bigI ≤ j ∧ j ≤ bigI ∧ 0 < k ∧ k ≤ 1000 then some (rangeC i k (if i < j then ((j - i - 1) / k + 1).toNat else 0), p.2) else none
  | _ => none
theorem pins_ok {own : List Nat} {pins' : List Nat} {N : List Str} {n : Nat} (h : ∀ i < n, i ∉ own → i ∈ pins') (e : N.length = n) : ∀ i < N.length, i ∉ own → i ∈ pins' := by rw [e]; exact h
theorem mask_ok {mask : List Bool} {pins : List Nat} (h : ∀ i < mask.length, mask[i]? = some true → i ∈ pins) : ∀ i : Nat, mask[i]? = some true → i ∈ pins := fun i hi => h i (List.getElem?_eq_some_iff.mp hi).1 hi
section
variable {c : Cc} {X : Cx} {pins : List Nat} {b1 b2 b3 : Bool} {f g h : EF} {t : BF} {fa fi : AF} {u v w : SF} {pos : Pos} {e o tg : Expr} {st : Stmt} {rest es : List Stmt}
variable {H H1 H2 G G1 G2 : Hp} {s s1 s2 : S} {fp fp1 fp2 : List Addr} {σ σ1 σ2 : L2.St} {Z : Ends}
theorem yl_rangeC {lo k : Int} {n : Nat} : Yields c (Itc lo k n) (rangeC lo k n) G := fun i H G' e1 e2 => by
  refine ⟨fun d hd => ?_, fun hl => ?_⟩
  · unfold rangeC at hd
    rw [List.getElem?_map] at hd
    by_cases hi : i < n
    · rw [List.getElem?_range hi] at hd
      cases hd
      refine ⟨hi, fun x H' y => ?_⟩
      obtain ⟨e, y⟩ := y
      subst e y
      exact ⟨G', Grow.refl e2, .int _⟩
    · rw [List.getElem?_eq_none (by simpa using hi)] at hd
      exact nomatch hd
  · unfold rangeC at hl
    exact (by simpa using hl : n ≤ i)
theorem rgc_up {i j k : Int} (h1 : -bigI ≤ i) (h2 : i ≤ bigI) (h3 : -bigI ≤ j) (h4 : j ≤ bigI) (h5 : 0 < k) (h6 : k ≤ 1000) : RgC i j k (if i < j then ((j - i - 1) / k + 1).toNat else 0) := by
  unfold bigI at h1 h2 h3 h4
  refine ⟨by omega, by omega, ?_, ?_⟩
  · unfold Builtin.Range.small
    have hd : 0 ≤ (j - i - 1) / k ∨ (j - i - 1) < 0 := by
      by_cases h : 0 ≤ j - i - 1
      · exact .inl (Int.ediv_nonneg h (by omega))
      · exact .inr (by omega)
    have hd2 : 0 ≤ j - i - 1 → (j - i - 1) / k ≤ j - i - 1 := fun h => Int.ediv_le_self _ h
    unfold Builtin.Range.rangeSize
    simp only [show k > 0 from h5, if_true]
    simp only [Builtin.Range.rangeFitsLong, Bool.and_eq_true, Bool.or_eq_true, decide_eq_true_eq, beq_iff_eq]
    split <;> omega
  · unfold Builtin.Range.rangeSize
    rw [if_pos (by omega)]
    split
    · have : 0 ≤ (j - i - 1) / k := Int.ediv_nonneg (by omega) (by omega)
      omega
    · rfl
theorem ix_range3 {a b d : Expr} {p pos : Pos} (ha : PA X [a, b, d] (tA c b1 fa)) (hm : X.mg "range" = none) (hg : Gl X "range" := by rfl) (hs : starEach [a, b, d] X.env = (false, eval a X.env) :: starEach [b, d] X.env := by rfl) (hpl : (backTo pos (starEach [b, d] X.env)).any (·.1) = false := by rfl) :
    PI X tg (.Call (.Name "range" p) [a, b, d] [] pos) (tI c b1 (iRng3 fa)) :=
  PI_imp (pi_range3 hg hm ha hs hpl) fun σ H R ⟨G, S, fp, xs, s', k, sl, hf, q⟩ => by
    unfold iRng3 at hf
    cases h1 : fa S with
    | none => rw [h1] at hf; exact nomatch hf
    | some p =>
      obtain ⟨ds, s1⟩ := p
      simp only [h1, Option.bind_some] at hf
      split at hf
      · rename_i i j kk
        split at hf
        · rename_i hn
          cases hf
          refine ⟨G, S, fp, _, _, k, sl, h1, fun vs H1 G1 fp1 E1 S1 r1 p1 => ?_⟩
          cases r1 with
          | cons r1 r2 =>
            cases r2 with
            | cons r2 r3 =>
              cases r3 with
              | cons r3 r4 =>
                cases r4
                obtain ⟨h3, h4, h5, h6, h7, h8⟩ := hn
                exact ⟨i, j, kk, _, by rw [r1.ints, r2.ints, r3.ints], rgc_up h3 h4 h5 h6 h7 h8, q _ H1 G1 fp1 E1 S1 yl_rangeC p1⟩
        · exact nomatch hf
      · exact nomatch hf

/-! ### xs.count(True) of a list of truths -/
def rCntB (K : PySem.W.Frag) : V → List V → Hp → VK → Prop := fun x xs H Q => ∃ (p : Addr) (bs : List Bool) (k : Bool), x = .ref p ∧ xs = [.bl k] ∧ SqL K H p (bs.map V.bl) ∧ Q (.int (bs.count k : Nat)) H
theorem vals_bools : ∀ {bs : List Bool} {us : List Value}, Vals (bs.map V.bl) us → us = bs.map Value.bool
  | [], us, h => by cases h; rfl
  | b :: bs, us, h => by
    rw [List.map_cons] at h
    cases h with
    | cons r t =>
      cases r
      rw [vals_bools t]
      rfl
theorem readsBools (h : Heap) : ∀ bs : List Bool, ReadsAll h (bs.map Value.bool) (bs.map PyData.bool) []
  | [] => .nil
  | b :: bs => .cons (as := []) (bs := []) (.bool b) (readsBools h bs)
theorem countIn_bools (k : Bool) : ∀ bs : List Bool, PySem.Spec.countIn (.bool k) (bs.map PyData.bool) = ((bs.count k : Nat) : Int)
  | [] => rfl
  | b :: bs => by
    have ih := countIn_bools k bs
    rw [List.map_cons, List.count_cons]
    show (if PySem.Spec.same (.bool b) (.bool k) then 1 else 0) + PySem.Spec.countIn (.bool k) (bs.map PyData.bool) = _
    rw [ih]
    cases b <;> cases k <;> simp [PySem.Spec.same] <;> omega
theorem mt_countB : MtR X "list.count" (rCntB X.K) := by
  intro pins s σ H x xs v us Q I rx rxs h
  obtain ⟨p, bs, k, rfl, rfl, hs, q⟩ := h
  cases rx
  obtain ⟨u, rfl, ru⟩ := rxs.one
  cases ru
  obtain ⟨its, rv, hl, hlen⟩ := I.list hs
  have e := vals_bools rv
  subst e
  refine PyProof.Rows.count_list_bools hl.isList (readsBools s.heap bs) ?_ ⟨.int _, H, I.tok _, ⟨_, rfl⟩, ?_⟩
  · rw [List.all_map]
    exact List.all_eq_true.mpr fun b _ => rfl
  · rw [countIn_bools]
    exact q
theorem ex_count {apos : Pos} (ho : PE X o (tE c b1 f)) (he : PE X e (tE c b2 g)) (hK : X.K = c.K := by rfl)
    (hbase : attributeBase o "count" X.env (eval o X.env) = eval o X.env := by rfl)
    (hfew : ((backTo pos (starEach (e :: []) X.env)).all (fun x => !x.1) && (backToKw pos (keywordEach [] X.env)).all (fun x => x.1.isSome)
      && decide ((e :: []).length + ([] : List Keyword).length + (if ([] : List Keyword).isEmpty then 0 else 1) < 30)) = true := by rfl)
    (hline : (apos.endLine == pos.line) = true := by rfl) (hs : starEach (e :: []) X.env = (false, eval e X.env) :: starEach [] X.env := by rfl) (hplain : (backTo pos (starEach [] X.env)).any (·.1) = false := by rfl) :
    PE X (.Call (.Attribute o "count" apos) [e] [] pos) (tE c (b1 && b2) (e2 dCountB f g)) :=
  PE_imp (pe_bm PySem.F.plainAttrs_list PySem.F.slot_list_count PySem.F.type_list_count mt_countB ho (pa_cons he pa_nil hs) hbase hfew hline hs hplain) fun σ H Q ⟨G, s, fp, d, s', k, sl, hf, q⟩ => by
    rw [hK]
    unfold e2 at hf
    cases h1 : f s with
    | none => rw [h1] at hf; exact nomatch hf
    | some p =>
      obtain ⟨x, s1⟩ := p
      simp only [h1, Option.bind_some] at hf
      cases h2 : g s1 with
      | none => simp [h2] at hf
      | some p2 =>
        obtain ⟨y, s2⟩ := p2
        simp only [h2, Option.bind_some] at hf
        cases h3 : dCountB x y with
        | none => simp [h3] at hf
        | some z =>
          simp only [h3, Option.map_some, Option.some.injEq, Prod.mk.injEq] at hf
          obtain ⟨rfl, rfl⟩ := hf
          cases x <;> cases y <;> simp only [dCountB] at h3 <;> try contradiction
          rename_i xs kk
          cases hb : boolsD xs with
          | none => rw [hb] at h3; exact nomatch h3
          | some bs =>
            rw [hb] at h3
            cases h3
            refine ⟨G, s, fp, _, s1, k, sl, h1, fun v H1 G1 fp1 E1 S1 r1 p1 => ?_⟩
            cases r1 with
            | @lst a vs _ t1 r1 =>
              refine ⟨.inl ⟨rfl, _, Same.sqL E1.sub t1⟩, G1, s1, fp1, _, s2, E1.ok, S1, h2, fun u H2 G2 fp2 E2 S2 r2 p2 => ?_⟩
              cases r2
              refine ⟨a, bs, kk, rfl, rfl, ?_, q _ H2 G2 fp2 (E1.trans E2) S2 (.int _) (p1.and p2)⟩
              rw [← bools_rep r1 hb]
              exact Same.sqL E2.sub (Same.sqL E2.gs t1)

/-! ### a new list of what another one holds -/
def nList (fa : AF) : AF := fun s => (fa s).bind fun p => match p.1 with
  | [.lst xs] => some (xs, p.2)
  | [.tup xs] => some (xs, p.2)
  | _ => none
theorem xn_list {ea : Expr} {p : Pos} {x : Str} (hm : X.mg x = none) (ha : PA X [ea] (tA c b1 fa)) (hK : X.K = c.K := by rfl) (hv : bootBuiltins x = some (.type "list") := by decide +kernel) (hg : Gl X x := by rfl) (hn : x ≠ "__name__" := by decide) (hdb : (x == ("__debug__" : Str)) = false := by decide)
    (he : starEach [ea] X.env = (false, eval ea X.env) :: starEach [] X.env := by rfl) (hpl : (backTo pos (starEach [] X.env)).any (·.1) = false := by rfl) : PE X (.Call (.Name x p) [ea] [] pos) (tN c (nList fa)) :=
  PE_imp (pe_callTy call_list_of hg hm hv ha hn hdb he hpl) fun σ H Q ⟨G, s, fp, d, s', k, sl, hf, q⟩ => by
    rw [hK]
    unfold nList at hf
    cases h1 : fa s with
    | none => rw [h1] at hf; exact nomatch hf
    | some p =>
      obtain ⟨ds, s1⟩ := p
      simp only [h1, Option.bind_some] at hf
      split at hf
      · cases hf
        refine ⟨G, s, fp, _, _, k, sl, h1, fun vs H1 G1 fp1 E1 S1 r1 p1 => ?_⟩
        obtain ⟨v, rfl, r2⟩ := reps1 r1
        cases r2 with
        | lst t1 r1 => exact ⟨_, _, rfl, .inl (Same.sqL E1.sub t1), fun l hl => by
            obtain ⟨E2, S2⟩ := E1.newOwn (o := .lst _) S1 hl
            exact q l _ _ _ _ E2 S2 upd_same r1⟩
      · cases hf
        refine ⟨G, s, fp, _, _, k, sl, h1, fun vs H1 G1 fp1 E1 S1 r1 p1 => ?_⟩
        obtain ⟨v, rfl, r2⟩ := reps1 r1
        cases r2 with
        | tup t1 r1 => exact ⟨_, _, rfl, .inr (Same.sqT E1.sub t1), fun l hl => by
            obtain ⟨E2, S2⟩ := E1.newOwn (o := .lst _) S1 hl
            exact q l _ _ _ _ E2 S2 upd_same r1⟩
      · exact nomatch hf
/-- a list of one's own handed back as a new one -/
def sRetOwn (i : Nat) : SF := fun s => match s[i]? with
  | some (.lst xs) => some (.ret (.n xs) (s.set i .un))
  | _ => none
theorem sx_retOwn (i : Nat) {x : Str} {p : Pos} (hpi : i ∉ pins := by decide) (hN : X.N[i]? = some x := by rfl) (hv : Vis X.env.scope x := by first | exact Or.inl rfl | exact Or.inr (Or.inl rfl)) (hd : (x == ("__debug__" : Str)) = false := by decide) (hcd : (x == ("__classdict__" : Str)) = false := by decide) :
    PS X (.Return (some (.Name x p)) pos) (tS c pins (sRetOwn i)) := PS_imp (ps_ret (pe_var hN hv hd hcd)) fun Z σ H ⟨G, s, fp, fl, k, sl, hf, q⟩ => by
  unfold sRetOwn at hf
  split at hf
  · rename_i xs hx
    cases hf
    obtain ⟨v, f1, f2, h1, h2, hp, S2⟩ := sl.take hx (by simp)
    cases h2 with
    | @lst p vs _ hv r => exact ⟨_, h1, q p vs σ H G f2 ((Ev.refl k).perm hp.symm) S2 PinEq.refl hv r⟩
  · exact nomatch hf

/-! ### a test over a borrow -/
def bBor (i : Nat) (t : BF) : BF := fun s => match s[i]? with
  | some (.lst xs) => (t (s.set i (.val (.lst xs)))).map fun p => (p.1, s)
  | _ => t s
theorem xt_bor (i : Nat) (he : PT X e (tT c true t)) : PT X e (tT c true (bBor i t)) := PT_imp he fun σ H Q ⟨G, s, fp, d, s', k, sl, hf, q⟩ => by
  unfold bBor at hf
  split at hf
  · rename_i xs hx
    obtain ⟨v0, f1, f2, h1, h2, hp, hk⟩ := sl.split hx (by simp)
    cases h2 with
    | @lst p vs _ hv r =>
      have gp : G p = none := k.own p (hp.mem_iff.mpr (by simp))
      have sg : Same G (upd G p (.lst vs)) := same_upd gp
      have rr : Rep c.K (upd G p (.lst vs)) (.ref p) (.lst xs) := .lst (SqL.of upd_same) (r.mono sg)
      obtain ⟨fp', p', sl'⟩ := hk H (upd G p (.lst vs)) (.val (.lst xs)) [] (.val rr) (fun _ _ => rfl) sg
      have nd := List.nodup_append.mp (hp.nodup_iff.mp k.nd)
      have k' : Ok H (upd G p (.lst vs)) fp' := ⟨fun b o hb => by
          by_cases hbp : b = p
          · subst hbp; rw [upd_same] at hb; rw [← hb]; exact hv
          · rw [upd_ne hbp] at hb; exact k.sub b o hb, fun x hx => by
          have hx2 : x ∈ f2 := by simpa using p'.mem_iff.mp hx
          rw [upd_ne fun z => nd.2.2 p (by simp) x hx2 z.symm]
          exact k.own x (hp.mem_iff.mpr (List.mem_append_right _ hx2)), p'.nodup_iff.mpr (by simpa using nd.2.1)⟩
      cases h3 : t (s.set i (.val (.lst xs))) with
      | none => rw [h3] at hf; exact nomatch hf
      | some pp =>
        obtain ⟨d1, s1⟩ := pp
        simp only [h3, Option.map_some, Option.some.injEq, Prod.mk.injEq] at hf
        obtain ⟨rfl, rfl⟩ := hf
        refine ⟨_, _, fp', _, s1, k', sl', h3, fun H1 G1 fp1 E1 S1 pu => ?_⟩
        obtain ⟨gr, _⟩ := pu rfl
        have gr2 : Grow H G H1 (dropA G1 p) := ⟨gr.hs, fun a o ha => by
            have hne : a ≠ p := fun z => by rw [z, gp] at ha; cases ha
            unfold dropA
            rw [if_neg hne]
            exact gr.gs a o (by rw [upd_ne hne]; exact ha), fun a o ha => by
            unfold dropA at ha
            split at ha
            · cases ha
            · exact gr.sub a o ha, fun a ha => by
            unfold dropA
            by_cases hne : a = p
            · rw [if_pos hne, hne, gp]
            · rw [if_neg hne, gr.nw a ha, upd_ne hne]⟩
        exact q H1 (dropA G1 p) fp (gr2.ev k sl) (sl.step gr2) fun _ => ⟨gr2, rfl⟩
  · exact ⟨G, s, fp, d, s', k, sl, hf, q⟩
end

/-! ### what the top has left -/
structure DefAt (K : PySem.W.Frag) (mg : Str → Option Value) (gn nm : Str) (st : Stmt) (ps : List Str) where
  a : Addr
  d : FuncData
  F : Fun K nm nm st a d
  b : Binds K d ps []
  g : mg gn = some (.ref a)
def DefAt.mk' {K : PySem.W.Frag} {mg : Str → Option Value} {gn nm : Str} {st : Stmt} {ps : List Str} {h : Heap} (X : K.In h) (G : h.Ns mainGlobals mg) {f : Addr} {od an : Option Addr} {sl : Array (Option Value)} {oc kV dc pm cd ct : Value}
    (a : PySem.W.nsIn K mainGlobals gn = some (some (.ref f))) (l : K.lookup f = some ⟨oc, od, .func (PySem.W.fnOf nm nm (defArgs st) (defBody st) (defScope st) .none kV dc pm an cd ct), sl⟩) (c : PySem.W.codeIn K cd nm = true) (k : PySem.W.keepIn K (.ref f) = true)
    (hb : ∀ (kV doc pm : Value) (an : Option Addr) (cdv ct : Value) (us : List Value), us.length = ps.length → bindArgs (PySem.W.fnOf nm nm (defArgs st) (defBody st) (defScope st) .none kV doc pm an cdv ct) ⟨us, []⟩ = pure (ps.zip us)) : DefAt K mg gn nm st ps :=
  ⟨f, _, fun_mk l c k, (fun_mk l c k).binds hb, PySem.W.mg_of X G a⟩
/-- a module's constant -/
structure ConstAt (K : PySem.W.Frag) (mg : Str → Option Value) (nm : Str) (d : D) where
  u : Value
  v : V
  g : mg nm = some u
  r : RelV v u
  p : ∀ G, Rep K G v d
def ConstAt.str {K : PySem.W.Frag} {mg : Str → Option Value} {nm x : Str} {t : Tok} (g : mg nm = some (.str x t)) : ConstAt K mg nm (.str x) := ⟨_, .str x, g, ⟨t, rfl⟩, fun _ => .str x⟩
def ConstAt.int {K : PySem.W.Frag} {mg : Str → Option Value} {nm : Str} {x : Int} {t : Tok} (g : mg nm = some (.int x t)) : ConstAt K mg nm (.int x) := ⟨_, .int x, g, ⟨t, rfl⟩, fun _ => .int x⟩
theorem reps_ints {K : PySem.W.Frag} {G : Hp} : ∀ ns : List Int, Reps K G (ns.map V.int) (ns.map D.int)
  | [] => .nil
  | y :: ys => .cons (.int y) (reps_ints ys)
def ConstAt.tupI {K : PySem.W.Frag} {mg : Str → Option Value} {nm : Str} {p : Addr} {e : Option Addr} {its : Array Value} {n : Nat} {sl : Array (Option Value)} (g : mg nm = some (.ref p)) (l : K.lookup p = some ⟨.type "tuple", e, .seq its n, sl⟩) (ns : List Int) (hv : Vals (ns.map V.int) its.toList) (hz : ns.length ≤ 1000 := by decide) : ConstAt K mg nm (.tup (ns.map D.int)) :=
  ⟨_, .ref p, g, rfl, fun _ => .tup (.inr ⟨_, its, n, l, rfl, rfl, by
    have := hv.length
    rw [List.length_map, Array.length_toList] at this
    rw [line_eq]; exact Nat.le_trans (Nat.le_of_eq this.symm) (Nat.le_trans hz (by decide)), hv⟩) (reps_ints ns)⟩
def ConstAt.tupS {K : PySem.W.Frag} {mg : Str → Option Value} {nm : Str} {p : Addr} {e : Option Addr} {its : Array Value} {n : Nat} {sl : Array (Option Value)} (g : mg nm = some (.ref p)) (l : K.lookup p = some ⟨.type "tuple", e, .seq its n, sl⟩) (ns : List Str) (hv : Vals (ns.map V.str) its.toList) (hz : ns.length ≤ 1000 := by decide) : ConstAt K mg nm (.tup (ns.map D.str)) :=
  ⟨_, .ref p, g, rfl, fun _ => .tup (.inr ⟨_, its, n, l, rfl, rfl, by
    have := hv.length
    rw [List.length_map, Array.length_toList] at this
    rw [line_eq]; exact Nat.le_trans (Nat.le_of_eq this.symm) (Nat.le_trans hz (by decide)), hv⟩) (reps_strs ns)⟩
/-- the law's own promise, met -/
theorem spP_law {c : Cc} {m : List D → Option D} {a : Addr} {ns : List Int} {H : Hp} {Q : VK} {E : XK} (h : m [.lst (ns.map D.int)] = some (.bl true)) (hs : SqL c.K H a (ns.map V.int)) (q : ∀ H', Q (.bl true) H') : spP c m [.ref a] H Q E :=
  ⟨H, [.lst (ns.map D.int)], _, Same.refl _, .cons (.lst hs (reps_ints ns)) .nil, h, fun v H' G' g r => by cases r; exact q H'⟩
end DL
/-! DL 10: more rules. -/
namespace DL
open PySem PySem.Spec PyProof.Rows L2
section
variable {c : Cc} {X : Cx} {pins : List Nat} {b1 b2 b3 : Bool} {f g h : EF} {t : BF} {fa fi : AF} {pos : Pos} {e o : Expr} {es : List Expr}
variable {H H1 H2 G G1 G2 : Hp} {s s1 s2 : S} {fp fp1 fp2 : List Addr} {σ σ1 σ2 : L2.St} {Z : Ends}
/-! ### a list of one's own + a list -/
def eCat (i : Nat) (g : EF) : EF := fun s => match s[i]? with
  | some (.lst xs) => (g s).bind fun p => match p.1 with
    | .lst ys => if xs.length + ys.length ≤ cap then some (.lst (xs ++ ys), p.2) else none
    | _ => none
  | _ => none
theorem ex_cat (i : Nat) {x : Str} {p : Pos} (hb : PE X e (tE c true g)) (hN : X.N[i]? = some x := by rfl) (hv : Vis X.env.scope x := by first | exact Or.inl rfl | exact Or.inr (Or.inl rfl)) (hd : (x == ("__debug__" : Str)) = false := by decide) (hcd : (x == ("__classdict__" : Str)) = false := by decide)
    (hK : X.K = c.K := by rfl) : PE X (.BinOp (.Name x p) .Add e pos) (tE c true (eCat i g)) := PE_imp (pe_op op_catS (pe_var hN hv hd hcd) hb) fun σ H Q ⟨G, s, fp, d, s', k, sl, hf, q⟩ => by
  unfold eCat at hf
  split at hf
  · rename_i xs hx
    obtain ⟨v, f1, f2, h1, h2, hp, hk⟩ := sl.split hx (by simp)
    cases h2 with
    | @lst p vs _ hv r =>
      cases h3 : g s with
      | none => rw [h3] at hf; exact nomatch hf
      | some pp =>
        obtain ⟨d2, s2⟩ := pp
        simp only [h3, Option.bind_some] at hf
        split at hf
        · rename_i ys
          split at hf
          · rename_i hc
            cases hf
            refine ⟨_, h1, ⟨G, s, fp, _, _, k, sl, h3, fun w H1 G1 fp1 E1 S1 r1 pu => ?_⟩⟩
            obtain ⟨gr, rfl⟩ := pu rfl
            cases r1 with
            | @lst p2 vs2 _ t2 r2 =>
              refine ⟨_, _, vs, _, rfl, rfl, SqL.of (gr.hs _ _ hv), hK ▸ Same.sqL E1.sub t2, by rw [r.length, r2.length]; exact Nat.le_trans hc cap_line, fun p' hp' => ?_⟩
              have g2 := gr.trans (Grow.alloc (o := .lst (vs ++ vs2)) E1.sub hp')
              exact q _ _ _ _ (g2.ev k sl) (sl.step g2) (.lst (SqL.of upd_same) (((r.mono gr.gs).append r2).mono (same_upd (E1.sub.free hp')))) fun _ => ⟨g2, rfl⟩
          · exact nomatch hf
        · exact nomatch hf
  · exact nomatch hf
end
end DL
/-! DL 11: instances of one's own. -/
namespace DL
open PySem PySem.Spec PyProof.Rows L2
def putFO (f : Str) (o : O) : List (Str × O) → List (Str × O)
  | [] => [(f, o)]
  | (k, x) :: r => if k = f then (k, o) :: r else (k, x) :: putFO f o r
section
variable {c : Cc} {H H' H1 G G' G1 : Hp}
theorem OwnF.get : ∀ {vs : List (Str × V)} {fs : List (Str × O)} {fp : List Addr} {n : Str} {o : O}, OwnF c H G vs fs fp → fs.lookup n = some o → ∃ v f1, vs.lookup n = some v ∧ Own c H G v o f1
  | _, _, _, _, _, .nil, h => nomatch h
  | _, _, _, n, o, .cons (n := k) (v := v) (vs := vs) w t, h => by
    rw [List.lookup_cons] at h ⊢
    split at h
    · cases h; exact ⟨v, _, rfl, w⟩
    · exact OwnF.get t h
theorem OwnF.none : ∀ {vs : List (Str × V)} {fs : List (Str × O)} {fp : List Addr} {n : Str}, OwnF c H G vs fs fp → fs.lookup n = none → vs.lookup n = Option.none
  | _, _, _, _, .nil, _ => rfl
  | _, _, _, n, .cons (n := k) w t, h => by
    rw [List.lookup_cons] at h ⊢
    split at h
    · exact nomatch h
    · exact OwnF.none t h
theorem OwnF.length : ∀ {vs : List (Str × V)} {fs : List (Str × O)} {fp : List Addr}, OwnF c H G vs fs fp → vs.length = fs.length
  | _, _, _, .nil => rfl
  | _, _, _, .cons _ t => by rw [List.length_cons, List.length_cons, OwnF.length t]
theorem OwnF.put {n : Str} : ∀ {vs : List (Str × V)} {fs : List (Str × O)} {fp : List Addr}, OwnF c H G vs fs fp → ∃ f1 f2, fp.Perm (f1 ++ f2) ∧
    ∀ (H' G' : Hp) (v' : V) (o' : O) (f1' : List Addr), Own c H' G' v' o' f1' → (∀ a ∈ f2, H' a = H a) → Same G G' → ∃ fp', fp'.Perm (f1' ++ f2) ∧ OwnF c H' G' (putF n v' vs) (putFO n o' fs) fp'
  | _, _, _, .nil => ⟨[], [], List.Perm.refl _, fun H' G' v' o' f1' w _ _ => ⟨f1' ++ [], List.Perm.refl _, .cons w .nil⟩⟩
  | _, _, _, .cons (n := k) (v := v) (o := o) (vs := vs) (fs := fs) (f1 := g1) (f2 := g2) w t => by
    by_cases hk : k = n
    · refine ⟨g1, g2, List.Perm.refl _, fun H' G' v' o' f1' w' hh hg => ⟨f1' ++ g2, List.Perm.refl _, ?_⟩⟩
      show OwnF c H' G' (if k = n then (k, v') :: vs else _) (if k = n then (k, o') :: fs else _) _
      rw [if_pos hk, if_pos hk]
      exact .cons w' (t.stay hg hh)
    · obtain ⟨f1, f2, hp, kk⟩ := OwnF.put (n := n) t
      refine ⟨f1, g1 ++ f2, ?_, fun H' G' v' o' f1' w' hh hg => ?_⟩
      · refine (List.Perm.append_left g1 hp).trans ?_
        rw [← List.append_assoc, ← List.append_assoc]
        exact List.Perm.append_right f2 List.perm_append_comm
      · obtain ⟨fp', pp, k2⟩ := kk H' G' v' o' f1' w' (fun a ha => hh a (List.mem_append_right _ ha)) hg
        refine ⟨g1 ++ fp', ?_, ?_⟩
        · refine (List.Perm.append_left g1 pp).trans ?_
          rw [← List.append_assoc, ← List.append_assoc]
          exact List.Perm.append_right f2 List.perm_append_comm
        · show OwnF c H' G' (if k = n then _ else (k, v) :: putF n v' vs) (if k = n then _ else (k, o) :: putFO n o' fs) _
          rw [if_neg hk, if_neg hk]
          exact .cons (w.stay hg fun a ha => hh a (List.mem_append_left _ ha)) k2
theorem putFO_length (n : Str) (o : O) : ∀ fs : List (Str × O), fs.length ≤ (putFO n o fs).length
  | [] => Nat.zero_le _
  | (k, x) :: r => by
    show _ ≤ (if k = n then (k, o) :: r else (k, x) :: putFO n o r).length
    split
    · exact Nat.le_refl _
    · exact Nat.succ_le_succ (putFO_length n o r)
variable {fp : List Addr} {s : S} {σ : L2.St}
/-- an instance of one's own in a slot -/
theorem own_obj (sl : Slots c H G σ s fp) {i kk : Nat} {fs : List (Str × O)} (h : s[i]? = some (.obj kk fs)) :
    ∃ p dx vs ff f2, σ[i]? = some (some (.ref p)) ∧ H p = some (.ins (c.cm kk) dx vs) ∧ H dx = some (.own p) ∧ OwnF c H G vs fs ff ∧ fp.Perm ((p :: dx :: ff) ++ f2) ∧
      ∀ (n : Str) (y : V) (o : O) (fx : List Addr), Ok H G (fx ++ fp) → Own c H G y o fx → ∃ fp', Ev H G (fx ++ fp) (upd H p (.ins (c.cm kk) dx (putF n y vs))) G fp' ∧ Slots c (upd H p (.ins (c.cm kk) dx (putF n y vs))) G σ (s.set i (.obj kk (putFO n o fs))) fp' := by
  obtain ⟨v, f1, f2, h1, h2, hp, hk⟩ := sl.split h (by simp)
  cases h2 with
  | @obj p dx _ vs _ ff e1 e2 w =>
    refine ⟨p, dx, vs, ff, f2, h1, e1, e2, w, hp, fun n y o fx k wo => ?_⟩
    have kp : (fx ++ fp).Perm ((p :: dx :: ff) ++ (fx ++ f2)) := by
      refine (List.Perm.append_left fx hp).trans ?_
      rw [← List.append_assoc, ← List.append_assoc]
      exact List.Perm.append_right f2 List.perm_append_comm
    have nd := kp.nodup_iff.mp k.nd
    have ndp : p ∉ dx :: ff ++ (fx ++ f2) := (List.nodup_cons.mp nd).1
    have ndd := (List.nodup_cons.mp (List.nodup_cons.mp nd).2).1
    have pdx : dx ≠ p := fun z => ndp (by rw [z]; simp)
    have pff : ∀ a ∈ ff, a ≠ p := fun a ha z => ndp (by rw [← z]; simp [ha])
    have pfx : ∀ a ∈ fx, a ≠ p := fun a ha z => ndp (by rw [← z]; simp [ha])
    have pf2 : ∀ a ∈ f2, a ≠ p := fun a ha z => ndp (by rw [← z]; simp [ha])
    obtain ⟨g1, g2, gp, gk⟩ := w.put (n := n)
    obtain ⟨fr, rp, wr⟩ := gk (upd H p (.ins (c.cm kk) dx (putF n y vs))) G y o fx (wo.stay (Same.refl _) fun a ha => upd_ne (pfx a ha)) (fun a ha => upd_ne (pff a (gp.mem_iff.mpr (List.mem_append_right _ ha)))) (Same.refl _)
    obtain ⟨fp', pp, sl'⟩ := hk (upd H p (.ins (c.cm kk) dx (putF n y vs))) G (.obj kk (putFO n o fs)) (p :: dx :: fr) (.obj upd_same ((upd_ne pdx).trans e2) wr) (fun a ha => upd_ne (pf2 a ha)) (Same.refl _)
    have gp0 : G p = Option.none := k.own p (kp.mem_iff.mpr (by simp))
    have big : (fx ++ fp).Perm (g1 ++ fp') := by
      refine kp.trans ?_
      have a1 : (p :: dx :: ff ++ (fx ++ f2)).Perm (p :: dx :: (g1 ++ g2) ++ (fx ++ f2)) := List.Perm.append_right _ (List.Perm.cons _ (List.Perm.cons _ gp))
      have a2 : fp'.Perm (p :: dx :: (fx ++ g2) ++ f2) := pp.trans (List.Perm.append_right _ (List.Perm.cons _ (List.Perm.cons _ rp)))
      refine a1.trans ((List.Perm.append_left g1 a2).trans ?_).symm
      refine List.perm_iff_count.mpr fun a => ?_
      simp only [List.count_append, List.count_cons]
      omega
    refine ⟨fp', Ev.less (f1 := g1) ⟨Same.refl _, fun b ob hb => ?_, fun x h3 h4 => absurd h3 h4, fun a ob ha hn => ?_, fun a ha => ?_, fun a ha => ⟨k.own a ha, .inl ha⟩, k.nd⟩ big, sl'⟩
    · rw [upd_ne (fun z => by rw [z, gp0] at hb; cases hb)]; exact k.sub b ob hb
    · rw [upd_ne (fun z => hn (by rw [z]; exact kp.mem_iff.mpr (by simp)))]; exact ha
    · by_cases z : a = p
      · subst z; rw [upd_same]; simp
      · rw [upd_ne z]; exact ha
end
/-! ### functions -/
def eFld (k i : Nat) (n : Str) : EF := fun s => match s[i]? with
  | some (.obj k' fs) => if k' = k then match fs.lookup n with
    | some (.val d) => some (d, s)
    | _ => none
    else none
  | _ => none
def sFld (k i : Nat) (n : Str) (f : EF) : SF := fun s => (f s).bind fun p => match p.2[i]? with
  | some (.obj k' fs) => if k' = k ∧ fs.length < 1000 then some (.next (p.2.set i (.obj k (putFO n (.val p.1) fs)))) else none
  | _ => none
/-- a new list into an instance's field -/
def sFldN (k i : Nat) (n : Str) (f : AF) : SF := fun s => (f s).bind fun p => match p.2[i]? with
  | some (.obj k' fs) => if k' = k ∧ fs.length < 1000 then some (.next (p.2.set i (.obj k (putFO n (.lst p.1) fs)))) else none
  | _ => none
def eMeth (k i : Nat) (n : Str) (m : List O → Option (D × List O)) (fa : AOF) : EF := fun s => match s[i]? with
  | some (.obj k' fs) => if k' = k ∧ (fs.lookup n).isNone = true then eCallO m (aoOwn i fa) s else none
  | _ => none
/-- x = C(..) -/
def sMake (k i : Nat) (m : List O → Option (D × List O)) (fa : AF) : SF := fun s => (fa s).bind fun p => (m (.obj k [] :: p.1.map .val)).bind fun r => match r with
  | (.non, .obj k' fs :: _) => if k' = k ∧ i < p.2.length then some (.next (p.2.set i (.obj k fs))) else none
  | _ => none
section
variable {c : Cc} {X : Cx} {pins : List Nat} {b1 b2 b3 : Bool} {f g h : EF} {t : BF} {fa fi : AF} {fao : AOF} {pos : Pos} {e o : Expr} {es : List Expr}
variable {H H1 H2 G G1 G2 : Hp} {s s1 s2 : S} {fp fp1 fp2 : List Addr} {σ σ1 σ2 : L2.St} {Z : Ends}
theorem ex_fld (k i : Nat) {x : Str} {n : Str} {p : Pos} (cl : Cls X.K (c.cm k)) (na : NoAttr X.K (c.cm k) n) (hN : X.N[i]? = some x := by rfl) (hv : Vis X.env.scope x := by first | exact Or.inl rfl | exact Or.inr (Or.inl rfl) | exact Or.inr (Or.inr rfl)) (hd : (x == ("__debug__" : Str)) = false := by decide) (hcd : (x == ("__classdict__" : Str)) = false := by decide)
    (hb : attributeBase (.Name x p) n X.env (eval (.Name x p) X.env) = eval (.Name x p) X.env := by rfl) : PE X (.Attribute (.Name x p) n pos) (tE c true (eFld k i n)) := PE_imp (pe_fld (pe_var hN hv hd hcd) hb) fun σ H Q ⟨G, s, fp, d, s', ok, sl, hf, q⟩ => by
  unfold eFld at hf
  split at hf
  · rename_i k' fs hx
    split at hf
    · rename_i hk
      subst hk
      split at hf
      · rename_i d' hl
        cases hf
        obtain ⟨p, dx, vs, ff, f2, h1, h2, h3, w, hp, _⟩ := own_obj sl hx
        obtain ⟨v, f1, hv, wv⟩ := w.get hl
        cases wv with
        | val r => exact ⟨_, h1, p, _, dx, vs, v, rfl, h2, cl, na, hv, q v H G fp (Ev.refl ok) sl r (Pure.here ok.sub)⟩
      · exact nomatch hf
    · exact nomatch hf
  · exact nomatch hf
theorem sx_fld (k i : Nat) {x : Str} {n : Str} {p p' : Pos} (cl : Cls X.K (c.cm k)) (na : NoAttr X.K (c.cm k) n) (he : PE X e (tE c b1 f)) (hN : X.N[i]? = some x := by rfl) (hv : Vis X.env.scope x := by first | exact Or.inl rfl | exact Or.inr (Or.inl rfl) | exact Or.inr (Or.inr rfl)) (hd : (x == ("__debug__" : Str)) = false := by decide) (hcd : (x == ("__classdict__" : Str)) = false := by decide)
    (hs : swapsWith e (some (.Attribute (.Name x p) n p')) pos.line X.env = pure false := by rfl) : PS X (.Assign [.Attribute (.Name x p) n p'] e pos) (tS c pins (sFld k i n f)) := PS_imp (ps_fld (pe_var hN hv hd hcd) he hs) fun Z σ H ⟨G, s, fp, fl, ok, sl, hf, q⟩ => by
  unfold DL.sFld at hf
  cases h1 : f s with
  | none => rw [h1] at hf; exact nomatch hf
  | some pp =>
    obtain ⟨d, s1⟩ := pp
    simp only [h1, Option.bind_some] at hf
    split at hf
    · rename_i k' fs hx
      split at hf
      · rename_i hk
        obtain ⟨rfl, hl⟩ := hk
        cases hf
        refine ⟨G, s, fp, d, s1, ok, sl, h1, fun v H1 G1 fp1 E1 S1 r1 _ => ?_⟩
        obtain ⟨p, dx, vs, ff, f2, g1, g2, g3, w, hp, kk⟩ := own_obj S1 hx
        obtain ⟨fp', E2, S2⟩ := kk n v (.val d) [] E1.ok (.val r1)
        exact ⟨_, g1, p, _, dx, vs, rfl, g2, cl, na, by rw [w.length]; exact hl, q σ _ G1 fp' (E1.trans E2) S2 PinEq.refl⟩
      · exact nomatch hf
    · exact nomatch hf
theorem sx_fldN (k i : Nat) {x : Str} {n : Str} {p p' : Pos} (cl : Cls X.K (c.cm k)) (na : NoAttr X.K (c.cm k) n) (he : PE X e (tN c fa)) (hN : X.N[i]? = some x := by rfl) (hv : Vis X.env.scope x := by first | exact Or.inl rfl | exact Or.inr (Or.inl rfl) | exact Or.inr (Or.inr rfl)) (hd : (x == ("__debug__" : Str)) = false := by decide) (hcd : (x == ("__classdict__" : Str)) = false := by decide)
    (hs : swapsWith e (some (.Attribute (.Name x p) n p')) pos.line X.env = pure false := by rfl) : PS X (.Assign [.Attribute (.Name x p) n p'] e pos) (tS c pins (sFldN k i n fa)) := PS_imp (ps_fld (pe_var hN hv hd hcd) he hs) fun Z σ H ⟨G, s, fp, fl, ok, sl, hf, q⟩ => by
  unfold sFldN at hf
  cases h1 : fa s with
  | none => rw [h1] at hf; exact nomatch hf
  | some pp =>
    obtain ⟨xs, s1⟩ := pp
    simp only [h1, Option.bind_some] at hf
    split at hf
    · rename_i k' fs hx
      split at hf
      · rename_i hk
        obtain ⟨rfl, hl⟩ := hk
        cases hf
        refine ⟨G, s, fp, xs, s1, ok, sl, h1, fun pl us H1 G1 fp1 E1 S1 hv r1 => ?_⟩
        obtain ⟨p, dx, vs, ff, f2, g1, g2, g3, w, hp, kk⟩ := own_obj S1 hx
        obtain ⟨fp', E2, S2⟩ := kk n (.ref pl) (.lst xs) [pl] E1.ok (.lst hv r1)
        exact ⟨_, g1, p, _, dx, vs, rfl, g2, cl, na, by rw [w.length]; exact hl, q σ _ G1 fp' (E1.trans E2) S2 PinEq.refl⟩
      · exact nomatch hf
    · exact nomatch hf
end
end DL
/-! DL 12: methods, new instances. -/
namespace DL
open PySem PySem.Spec PyProof.Rows L2
section
variable {c : Cc} {X : Cx} {pins : List Nat} {b1 b2 b3 : Bool} {f g h : EF} {t : BF} {fa fi : AF} {fao : AOF} {pos pos2 apos : Pos} {e o : Expr} {es : List Expr}
variable {H H' H1 H2 G G' G1 G2 : Hp} {s s1 s2 : S} {fp fp1 fp2 : List Addr} {σ σ1 σ2 : L2.St} {Z : Ends}
theorem aoOwn_split {i : Nat} {Q : List V → Hp → Prop} (h : tAO c (aoOwn i fao) σ H Q) : ∃ v, σ[i]? = some (some v) ∧ tAO c fao σ H fun vs H1 => Q (v :: vs) H1 := by
  obtain ⟨G, s, fp, d, s', k, sl, hf, q⟩ := h
  unfold aoOwn at hf
  split at hf
  · rename_i o ho
    split at hf
    · exact nomatch hf
    · rename_i hu
      obtain ⟨v, f1, f2, h1, _⟩ := sl.split ho (fun z => hu (by rw [z]; rfl))
      cases h2 : fao s with
      | none => rw [h2] at hf; exact nomatch hf
      | some pp =>
        obtain ⟨as, s1⟩ := pp
        simp only [h2, Option.map_some, Option.some.injEq, Prod.mk.injEq] at hf
        obtain ⟨rfl, rfl⟩ := hf
        exact ⟨v, h1, G, s, fp, as, s1, k, sl, h2, fun vs fx H1 G1 fp1 E1 S1 a1 => q (v :: vs) fx H1 G1 fp1 E1 S1 (.own h1 a1)⟩
  · exact nomatch hf
section
variable {kl : Nat} {fA : Addr} {fd : FuncData} {ps : List Str} {x n : Str} {p : Pos} {m : List O → Option (D × List O)}
theorem meth_split {k i : Nat} {Q : VK} (q : tE c false (eMeth k i n m fao) σ H Q) :
    ∃ p dx vs, σ[i]? = some (some (.ref p)) ∧ H p = some (.ins (c.cm k) dx vs) ∧ vs.lookup n = none ∧ tAO c fao σ H fun us H2 => spO c m (.ref p :: (us ++ [])) H2 Q E0 := by
  obtain ⟨G, s, fp, d, s', ok, sl, hf, q⟩ := q
  unfold eMeth at hf
  split at hf
  · rename_i k' fs hx
    split at hf
    · rename_i hk
      obtain ⟨rfl, hl⟩ := hk
      obtain ⟨p, dx, vs, ff, f2, g1, g2, g3, w, hp, kk⟩ := own_obj sl hx
      obtain ⟨v, hv, q2⟩ := aoOwn_split (callO_ok (E := E0) ⟨G, s, fp, d, s', ok, sl, hf, q⟩)
      rw [g1] at hv
      cases hv
      exact ⟨p, dx, vs, g1, g2, w.none (Option.isNone_iff_eq_none.mp hl), q2⟩
    · exact nomatch hf
  · exact nomatch hf
theorem ex_meth {pl : Sem Bool} (k i : Nat) (cl : Cls X.K (c.cm k)) (M : Meth X.K (c.cm k) n fA) (F : FnOk X.prog X.w X.K X.mg X.base CX0 kl fA fd ps (spO c m)) (hr : Room kl X.A) (hb : Binds X.K fd ps []) (ha : PA X (e :: es) (tAO c fao))
    (hN : X.N[i]? = some x := by rfl) (hv : Vis X.env.scope x := by first | exact Or.inl rfl | exact Or.inr (Or.inl rfl) | exact Or.inr (Or.inr rfl)) (hd : (x == ("__debug__" : Str)) = false := by decide) (hcd : (x == ("__classdict__" : Str)) = false := by decide)
    (hst : starEach (e :: es) X.env = (false, eval e X.env) :: starEach es X.env := by rfl) (hpl : (backTo pos (starEach es X.env)).any (·.1) = false := by rfl)
    (ht : eval (.Call (.Attribute (.Name x p) n apos) (e :: es) [] pos) X.env = (do
      let ov ← eval (.Name x p) X.env
      standAt apos.atName
      let (f, first) ← holding [ov] (getMethod ov n pl)
      callWith pos f first (backTo pos (starEach (e :: es) X.env)) (backToKw pos (keywordEach [] X.env))) := by rfl) :
    PE X (.Call (.Attribute (.Name x p) n apos) (e :: es) [] pos) (tE c false (eMeth k i n m fao)) :=
  PE_imp (pe_meth (E := E0) (pe_var hN hv hd hcd) cl M F hr hb .nil pass0 ha hst hpl ht) fun σ H Q q => by
    obtain ⟨p, dx, vs, g1, g2, g3, q2⟩ := meth_split q
    exact ⟨_, g1, p, dx, vs, rfl, g2, g3, q2⟩
theorem ex_meth0 {pl : Sem Bool} (k i : Nat) (cl : Cls X.K (c.cm k)) (M : Meth X.K (c.cm k) n fA) (F : FnOk X.prog X.w X.K X.mg X.base CX0 kl fA fd ps (spO c m)) (hr : Room kl X.A) (hb : Binds X.K fd ps [])
    (hN : X.N[i]? = some x := by rfl) (hv : Vis X.env.scope x := by first | exact Or.inl rfl | exact Or.inr (Or.inl rfl) | exact Or.inr (Or.inr rfl)) (hd : (x == ("__debug__" : Str)) = false := by decide) (hcd : (x == ("__classdict__" : Str)) = false := by decide)
    (ht : eval (.Call (.Attribute (.Name x p) n apos) [] [] pos) X.env = (do
      let ov ← eval (.Name x p) X.env
      standAt apos.atName
      let (f, first) ← holding [ov] (getMethod ov n pl)
      callWith pos f first (backTo pos (starEach [] X.env)) (backToKw pos (keywordEach [] X.env))) := by rfl) :
    PE X (.Call (.Attribute (.Name x p) n apos) [] [] pos) (tE c false (eMeth k i n m aoNil)) :=
  PE_imp (pe_meth0 (E := E0) (pe_var hN hv hd hcd) cl M F hr hb .nil pass0 ht) fun σ H Q q => by
    obtain ⟨p, dx, vs, g1, g2, g3, G, s, fp, d, s', ok, sl, hf, q2⟩ := meth_split q
    cases hf
    exact ⟨_, g1, p, dx, vs, rfl, g2, g3, q2 [] [] H G fp (Ev.refl ok) sl .nil⟩
end
/-! ### a new instance -/
theorem Ev.hid (E : Ev H G fp H1 G1 fp1) (th : ∀ a ∈ fp1, H1 a ≠ none) {p : Addr} {o : HO} (hp : H1 p = none) : Ev H G fp (upd H1 p o) G1 (p :: fp1) where
  gs := E.gs
  sub := E.sub.trans (same_upd hp)
  fresh := E.fresh
  frame := fun a ob h n => same_upd hp _ _ (E.frame a ob h n)
  live := fun a h => same_ne (same_upd hp) (E.live a h)
  own := fun a ha => by
    rcases List.mem_cons.mp ha with rfl | ha
    · refine ⟨E.sub.free hp, .inr ?_⟩
      cases q : H a with
      | none => rfl
      | some u => exact absurd hp (E.live a (by rw [q]; simp))
    · exact E.own a ha
  nd := List.nodup_cons.mpr ⟨fun z => th p z hp, E.nd⟩
theorem put_own {fx : List Addr} {v : V} {o : O} (k : Ok H G (fx ++ fp)) (sl : Slots c H G σ s fp) {i : Nat} (hi : i < s.length) (w : Own c H G v o fx) :
    ∃ fp', Ev H G (fx ++ fp) H G fp' ∧ Slots c H G (σ.set i (some v)) (s.set i o) fp' := by
  obtain ⟨f1, f2, hp, kk⟩ := sl.put hi
  obtain ⟨fp', p', sl'⟩ := kk H G v o fx w (fun _ _ => rfl) (Same.refl _)
  refine ⟨fp', ?_, sl'⟩
  have q1 : (fx ++ fp).Perm (f1 ++ (fx ++ f2)) := (List.Perm.append_left fx hp).trans (by
    rw [← List.append_assoc, ← List.append_assoc]
    exact List.Perm.append_right f2 List.perm_append_comm)
  exact ((Ev.refl k).less q1).perm p'
theorem slots_vals {vs : List V} {ds : List D} (r : Reps c.K G vs ds) : Slots c H G (vs.map some) (ds.map O.val) [] := by
  have := slots_start (c := c) (H := H) r 0
  simpa using this
section
variable {kl : Nat} {fA : Addr} {fd : FuncData} {ps : List Str} {x C : Str} {p p' : Pos} {m : List O → Option (D × List O)}
theorem make_ok {k i : Nat} {E : XK} (hp : i ∉ pins) (q : tS c pins (sMake k i m fa) Z σ H) : tAsg (tMake (c.cm k) (spO c m) [] E (tA c b1 fa)) (gName i) Z σ H := by
  obtain ⟨G, s, fp, fl, ok, sl, hf, q⟩ := q
  unfold sMake at hf
  cases h1 : fa s with
  | none => rw [h1] at hf; exact nomatch hf
  | some pp =>
    obtain ⟨ds, s1⟩ := pp
    simp only [h1, Option.bind_some] at hf
    cases h2 : m (.obj k [] :: ds.map .val) with
    | none => simp [h2] at hf
    | some rr =>
      obtain ⟨r, as'⟩ := rr
      simp only [h2, Option.bind_some] at hf
      split at hf
      · rename_i k' fs rest he
        cases he
        split at hf
        · rename_i hk
          obtain ⟨rfl, hi⟩ := hk
          cases hf
          refine ⟨G, s, fp, ds, s1, ok, sl, h1, fun vs H1 G1 fp1 E1 S1 r1 _ x dx hx hdx hne => ?_⟩
          have hx' : upd H1 dx (.own x) x = none := by rw [upd_ne hne.symm]; exact hx
          have E2 := E1.hid (S1.there) (o := .own x) hdx
          have E3 := E2.hid (fun a ha => by
            rcases List.mem_cons.mp ha with rfl | ha
            · rw [upd_same]; simp
            · exact same_ne (same_upd hdx) (S1.there a ha)) (o := .ins (c.cm k') dx []) hx'
          have sm : Same H1 (upd (upd H1 dx (.own x)) x (.ins (c.cm k') dx [])) := (same_upd hdx).trans (same_upd hx')
          refine ⟨G1, [x, dx], _, _, _, ⟨E3.sub, fun a ha => (E3.own a (by simp at ha ⊢; rcases ha with h | h <;> simp [h])).1, by simp; exact hne.symm⟩, ?_, h2, fun v H2 G2 fp2 E4 S4 rv => ?_⟩
          · rw [List.append_nil]
            exact Slots.cons (f1 := [x, dx]) (f2 := []) (.obj upd_same ((upd_ne hne).trans upd_same) .nil) (slots_vals r1)
          · rw [List.append_nil] at S4
            cases rv
            refine ⟨rfl, ?_⟩
            cases S4 with
            | @cons _ _ _ _ f1 f2 w t =>
              have E5 := E3.trans (Ev.beside (f1 := [x, dx]) (f2 := fp1) E3.ok (List.Perm.refl _) (fun a ha => same_ne sm (S1.there a ha)) E4)
              have nd := E3.nd
              have nd : x ∉ fp1 ∧ dx ∉ fp1 := by
                have q1 := List.nodup_cons.mp E3.nd
                have q2 := List.nodup_cons.mp q1.2
                exact ⟨fun z => q1.1 (List.mem_cons_of_mem _ z), q2.1⟩
              have S4' : Slots c (upd (upd H1 dx (.own x)) x (.ins (c.cm k') dx [])) G1 σ s1 fp1 := S1.stay (Same.refl _) fun a ha => by
                cases z : H1 a with
                | none => exact absurd z (S1.there a ha)
                | some ob => exact sm _ _ z
              have S5 : Slots c H2 G2 σ s1 fp1 := S4'.stay E4.gs fun a ha => by
                cases z : upd (upd H1 dx (.own x)) x (.ins (c.cm k') dx []) a with
                | none => exact absurd z (same_ne sm (S1.there a ha))
                | some ob =>
                  refine E4.frame a ob z fun y => ?_
                  rcases List.mem_cons.mp y with rfl | y
                  · exact nd.1 ha
                  · rw [List.mem_singleton.mp y] at ha
                    exact nd.2 ha
              have E6 : Ev H G fp H2 G2 (f1 ++ fp1) := E5.less (f1 := f2) (by
                refine List.perm_iff_count.mpr fun a => ?_
                simp only [List.count_append]
                omega)
              obtain ⟨fp', E7, S7⟩ := put_own E6.ok S5 hi w
              exact q _ _ _ _ (E6.trans E7) S7 (pin_set hp)
        · exact nomatch hf
      · exact nomatch hf
theorem sx_make (k i : Nat) (hN : X.N.Nodup) (M : Mk X.K (c.cm k) fA) (F : FnOk X.prog X.w X.K X.mg X.base CX0 kl fA fd ps (spO c m)) (hr : Room (kl + 1) X.A) (hm : X.mg C = some (.ref (c.cm k))) (hb : Binds X.K fd ps []) (ha : PA X (e :: es) (tA c b1 fa))
    (hp : i ∉ pins := by decide) (hg : Gl X C := by rfl) (hi : X.N[i]? = some x := by rfl) (hx : Loc X.env.scope x := by first | exact Or.inl rfl | exact Or.inr rfl)
    (hdb : (C == ("__debug__" : Str)) = false := by decide) (he : starEach (e :: es) X.env = (false, eval e X.env) :: starEach es X.env := by rfl) (hpl : (backTo pos (starEach es X.env)).any (·.1) = false := by rfl)
    (hs : swapsWith (.Call (.Name C p) (e :: es) [] pos) (some (.Name x p')) pos2.line X.env = pure false := by rfl) (hf : X.fn x = true ∨ X.env.scope.names.lookup x = some .local := by first | exact .inl rfl | exact .inr rfl) :
    PS X (.Assign [.Name x p'] (.Call (.Name C p) (e :: es) [] pos) pos2) (tS c pins (sMake k i m fa)) :=
  PS_imp (ps_set hN hi hx (pe_make (E := E0) M F hr hg hm hb .nil pass0 ha hdb he hpl) hs hf) fun D σ H q => make_ok hp q
theorem sx_make0 (k i : Nat) (hN : X.N.Nodup) (M : Mk X.K (c.cm k) fA) (F : FnOk X.prog X.w X.K X.mg X.base CX0 kl fA fd ps (spO c m)) (hr : Room (kl + 1) X.A) (hm : X.mg C = some (.ref (c.cm k))) (hb : Binds X.K fd ps [])
    (hp : i ∉ pins := by decide) (hg : Gl X C := by rfl) (hi : X.N[i]? = some x := by rfl) (hx : Loc X.env.scope x := by first | exact Or.inl rfl | exact Or.inr rfl)
    (hdb : (C == ("__debug__" : Str)) = false := by decide)
    (hs : swapsWith (.Call (.Name C p) [] [] pos) (some (.Name x p')) pos2.line X.env = pure false := by rfl) (hf : X.fn x = true ∨ X.env.scope.names.lookup x = some .local := by first | exact .inl rfl | exact .inr rfl) :
    PS X (.Assign [.Name x p'] (.Call (.Name C p) [] [] pos) pos2) (tS c pins (sMake k i m aNil)) :=
  PS_imp (ps_set hN hi hx (pe_make0 (E := E0) M F hr hg hm hb .nil pass0 hdb) hs hf) fun D σ H q => by
    obtain ⟨G, s, fp, ds, s', ok, sl, hf, q2⟩ := make_ok (b1 := true) (E := E0) hp q
    cases hf
    exact q2 [] H G fp (Ev.refl ok) sl .nil (Pure.here ok.sub)
end
/-! ### what the top has left of a class -/
end
structure ClsAt (K : PySem.W.Frag) (mg : Str → Option Value) (nm : Str) where
  C : Addr
  cl : Cls K C
  g : mg nm = some (.ref C)
structure MethAt (K : PySem.W.Frag) (C : Addr) (nm qual : Str) (st : Stmt) (ps : List Str) where
  a : Addr
  d : FuncData
  F : Fun K nm qual st a d
  b : Binds K d ps []
  m : Meth K C nm a
def MethAt.mk' {K : PySem.W.Frag} {C : Addr} {nm qual : Str} {st : Stmt} {ps : List Str} {f : Addr} {od an : Option Addr} {sl : Array (Option Value)} {oc kV dc pm cd ct : Value}
    (a : PySem.W.findIn K (.ref C) nm = some (some (.ref f))) (i : PySem.W.isFn K (.ref f) = true) (l : K.lookup f = some ⟨oc, od, .func (PySem.W.fnOf nm qual (defArgs st) (defBody st) (defScope st) .none kV dc pm an cd ct), sl⟩) (c : PySem.W.codeIn K cd qual = true) (k : PySem.W.keepIn K (.ref f) = true)
    (hb : ∀ (kV doc pm : Value) (an : Option Addr) (cdv ct : Value) (us : List Value), us.length = ps.length → bindArgs (PySem.W.fnOf nm qual (defArgs st) (defBody st) (defScope st) .none kV doc pm an cdv ct) ⟨us, []⟩ = pure (ps.zip us)) : MethAt K C nm qual st ps :=
  ⟨f, _, fun_mk l c k, (fun_mk l c k).binds hb, ⟨a, i, k⟩⟩
end DL
/-! DL 13: x[::-1], sorted. -/
namespace DL
open PySem PySem.Spec PyProof.Rows L2 HT
section
variable {prog : Program} {w : World} {A : Around} {E : Value → Shared → Prop} {s : Shared}
theorem sliceApplied_rev {sl : Addr} {t : Tok} {n : Nat} {Q : Int × Int × Nat → Shared → Prop} (hs : s.heap.IsSliceOf sl .none .none (.int (-1) t))
    (h : Q ((n : Int) - 1, -1, n) s) : wpAny (model prog w) A (Builtin.Slice.sliceApplied (.ref sl) (pure (n : Int))) Q E s := by
  obtain ⟨os, hos, hcs, hds⟩ := id hs
  unfold Builtin.Slice.sliceApplied Builtin.Slice.sliceFields
  refine wpAny_bind (wpAny_bind (wpAny_field hos hds (x := .none) rfl (wpAny_bind (wpAny_field hos hds (x := .none) rfl (wpAny_bind (wpAny_field hos hds (x := .int (-1) t) rfl (wpAny_pure ?_)))))))
  refine wpAny_bind (slicePart_int ?_)
  show wpAny _ _ (if ((-1 : Int) == 0) = true then _ else _) _ _ s
  rw [if_neg (by decide)]
  refine wpAny_bind (slicePart_none (wpAny_bind (slicePart_none (wpAny_bind (wpAny_pure ?_)))))
  show wpAny _ _ (pure ((n : Int) - 1, (-1 : Int), Builtin.Slice.slicePlaces ((n : Int) - 1) (-1) (-1))) _ _ s
  have e : Builtin.Slice.slicePlaces ((n : Int) - 1) (-1) (-1) = n := by
    unfold Builtin.Slice.slicePlaces
    rw [if_neg (by decide)]
    split
    · rw [show -(-1 : Int) = 1 by decide, Int.ediv_one]; omega
    · omega
  rw [e]
  exact wpAny_pure h
theorem pick_take {α : Type} (l : List α) : ∀ n, n ≤ l.length → (List.range n).filterMap (fun m => l[m]?) = l.take n
  | 0, _ => by simp
  | n + 1, h => by
    rw [List.range_succ, List.filterMap_append, pick_take l n (by omega), List.take_succ]
    simp [List.getElem?_eq_getElem (show n < l.length by omega)]
theorem fm_congr {α β : Type} {f g : α → Option β} : ∀ {l : List α}, (∀ a ∈ l, f a = g a) → l.filterMap f = l.filterMap g
  | [], _ => rfl
  | a :: l, h => by rw [List.filterMap_cons, List.filterMap_cons, h a (by simp), fm_congr fun b hb => h b (by simp [hb])]
theorem pick_rev (xs : Array Value) : ((List.range xs.size).filterMap fun (m : Nat) => xs[((xs.size : Int) - 1 + (m : Int) * (-1)).toNat]?).toArray = xs.toList.reverse.toArray := by
  congr 1
  have e : (List.range xs.size).filterMap (fun (m : Nat) => xs[((xs.size : Int) - 1 + (m : Int) * (-1)).toNat]?) = (List.range xs.size).filterMap (fun m => (xs.toList.reverse)[m]?) := by
    refine fm_congr fun m hm => ?_
    have hm := List.mem_range.mp hm
    rw [List.getElem?_reverse (by simpa using hm), Array.getElem?_toList]
    congr 1
    simp only [Array.length_toList]
    omega
  rw [e, pick_take _ _ (by simp), List.take_of_length_le (by simp)]
theorem getItem_tuple_rev {t sl : Addr} {items : Array Value} {u : Tok} {Q : Value → Shared → Prop} (ht : IsTup s.heap t items) (hs : s.heap.IsSliceOf sl .none .none (.int (-1) u))
    (h : Q (.ref s.heap.objs.size) { s with heap := s.heap.push { cls := .type "tuple", data := .seq items.toList.reverse.toArray } })
    (hsz : items.size ≤ sizeLine) : wpAny (model prog w) A (getItem (.ref t) (.ref sl)) Q E s := by
  have htake : sizeOk (.seq items.toList.reverse.toArray) := by
    show items.toList.reverse.toArray.size ≤ sizeLine
    simpa using hsz
  obtain ⟨os, hos, hcs, hds⟩ := id hs
  have hTs : s.TypeIs (.ref sl) "slice" := ⟨os, hos, hcs⟩
  unfold getItem
  try with_reducible refine wpAny_holding ?_
  first | refine wpAny_bind (wpAny_pure ?_) | skip
  refine wpAny_bind (wpAny_sequenceKey ht.typeIs (by decide) ?_)
  refine wpAny_bind (wpAny_callSpecial?_slot (name := Str.ofString "__getitem__") ht.typeIs PyProof.Rows.slot_tuple_getitem
    (wpAny_call_entry PyProof.Rows.slot_tuple_getitem ht.typeIs entry_tuple_getitem ?_ (args_tuple_getitem _ _)))
  show wpAny _ _ (Builtin.Tuple.tupleItemsOf (.ref t) >>= _) _ _ s
  refine wpAny_bind (tupleItemsOf_ ht ?_)
  refine wpAny_bind (wpAny_typeOf hTs ?_)
  rw [if_pos (by decide)]
  refine wpAny_bind (sliceApplied_rev hs ?_)
  have hno : ¬ ((((items.size : Int) - 1) == 0 && (-1 : Int) == 1 && items.size == items.size) = true) := by
    intro q
    rw [Bool.and_eq_true, Bool.and_eq_true] at q
    exact absurd q.1.2 (by decide)
  show wpAny _ _ (if (((items.size : Int) - 1) == 0 && (-1 : Int) == 1 && items.size == items.size) = true then _ else _) _ _ s
  rw [if_neg hno, pick_rev]
  first
    | exact wpAny_bind (m := Builtin.Tuple.tupleExact _) (wpAny_newObj_type (wpAny_pure ⟨_, rfl, wpAny_pure h⟩) htake)
    | exact wpAny_bind (m := Builtin.Tuple.tupleExact _) (wpAny_newObj_type (wpAny_bind (wpAny_pure (wpAny_pure ⟨_, rfl, wpAny_pure h⟩))) htake)
    | exact wpAny_bind (wpAny_bind (m := Builtin.Tuple.tupleExact _) (wpAny_newObj_type (wpAny_pure (wpAny_pure ⟨_, rfl, wpAny_pure h⟩)) htake))
    | exact wpAny_bind (wpAny_bind (m := Builtin.Tuple.tupleExact _) (wpAny_newObj_type (wpAny_pure ⟨_, rfl, wpAny_pure h⟩) htake))
end
section
variable {X : Cx}
def tRevA (K : PySem.W.Frag) (te : TE) : TE := fun σ H Q => te σ H fun x H1 => ∃ a xs, x = .ref a ∧ SqT K H1 a xs ∧ ∀ p, H1 p = none → Q (.ref p) (upd H1 p (.tup xs.reverse))
theorem pe_revT {e : Expr} {te : TE} {k : Nat} {p1 p2 p3 pos : Pos} (he : PE X e te) : PE X (.Subscript e (.Slice none none (some (.UnaryOp .USub (.Constant (.int 1) k p1) p2)) p3) pos) (tRevA X.K te) := by
  refine ⟨fun pins s σ H Q I h => ?_⟩
  refine Subscript_ (thn (he.run pins s σ H _ I h) fun v s1 ⟨x, H1, I1, r1, q1⟩ => ?_)
  obtain ⟨a, xs, ex, hx, q⟩ := q1
  subst ex
  cases r1
  have hst : PO X (some (.UnaryOp .USub (.Constant (.int 1) k p1) p2)) (tPart (tUn (rU fun i => .int (-i)) (tC (.int 1)))) := po_some (pe_un un_neg pe_int)
  refine wpAny_Slice (thn (po_none.run pins s1 σ H1 (fun o H2 => o = none ∧ H2 = H1) I1 ⟨rfl, rfl⟩) fun vl s2 ⟨l, H2, I2, pl, el, e2⟩ => ?_)
  subst el e2
  refine thn (po_none.run pins s2 σ H2 (fun o H3 => o = none ∧ H3 = H2) I2 ⟨rfl, rfl⟩) fun vu s3 ⟨u, H3, I3, pu, eu, e3⟩ => ?_
  subst eu e3
  refine thn (hst.run pins s3 σ H3 (fun o H4 => o = some (-1) ∧ H4 = H3) I3 ⟨1, rfl, -1, rfl, rfl, rfl⟩) fun vs s4 ⟨o, H4, I4, ps, eo, e4⟩ => ?_
  subst eo e4
  cases pl
  cases pu
  cases ps with
  | int _ t =>
  have I5 : Inv X pins σ H4 { s4 with heap := s4.heap.push { cls := .type "slice", data := .fields #[.none, .none, .int (-1) t] } } := I4.kept (t' := s4.toks) fun b ob q => Heap.get?_push_of_some _ q
  obtain ⟨its, r, ht, hz⟩ := I5.tuple hx
  have hlen := r.length
  show wpAny (model X.prog X.w) X.A (subscriptTail e (.Slice none none (some (.UnaryOp .USub (.Constant (.int 1) k p1) p2)) p3) (.ref a) (.ref s4.heap.objs.size)) (EP X pins σ Q) X.xe { s4 with heap := s4.heap.push { cls := .type "slice", data := .fields #[.none, .none, .int (-1) t] } }
  refine tail_any (ops := [.ref a, .ref s4.heap.objs.size]) ht.typeIs (PyProof.Rows.slot_tuple_getitem.lookup) ?_ (by with_unfolding_all rfl)
  refine getItem_tuple_rev ht (Heap.IsSliceOf.new _ .none .none (.int (-1) t)) ?_ (by rw [List.size_toArray]; omega)
  refine ⟨.ref _, _, I5.laid (t' := s4.toks) (o := .tup xs.reverse) (fun b ob q => Heap.get?_push_of_some _ q) (Nat.le_refl _) ?_, rfl, q _ (I5.hok.fresh (Nat.le_refl _))⟩
  exact ⟨by rw [List.length_reverse]; exact hz, _, r.reverse, ⟨_, Heap.get?_push_size _ rfl, rfl, _, rfl⟩⟩
end
end DL
/-! DL 14: t * 1, reversed slices, sorted, changed lists. -/
namespace DL
open PySem PySem.Spec PyProof.Rows L2
theorem tuple_mul1 (l : Addr) (items : Array Value) (n : Nat) (dd : Option Addr) (sl : Array (Option Value)) (u : Tok) :
    Meets (Builtin.«tuple.__mul__» ⟨[.ref l, .int 1 u], []⟩) (fun _ R s => s.heap.get? l = some { cls := .type "tuple", dict := dd, data := .seq items n, slots := sl } ∧ R (.ok (.ret (Value.ref l))) s) :=
  .of_wp fun prog w A R s h => by
    obtain ⟨hp, g, d, tk, os⟩ := s
    obtain ⟨hl, h⟩ := h
    have f1 := AutoSeq1.idx_int
    have c1 : (items.isEmpty || (1 : Int) == 1) = true := by simp
    wp_walk using wpAny_loadPart' hl
    repeat (first
      | (refine wpAny_ite_true (decide_eq_true c1) ?_; wp_walk using wpAny_loadPart' hl)
      | (refine wpAny_ite_false (decide_eq_false (by decide)) ?_; wp_walk using wpAny_loadPart' hl))
    exact ⟨_, rfl, h⟩
def rRep1 (K : PySem.W.Frag) : R2 := fun x y H Q => ∃ l xs, x = .ref l ∧ y = .int 1 ∧ SqT K H l xs ∧ Q (.ref l) H
section
variable {X : Cx}
theorem op_rep1 : OpR X (binaryOp .Mult) (rRep1 X.K) := by
  intro pins s σ H x y v u Q I rx ry h
  obtain ⟨l, xs, rfl, rfl, hT, q⟩ := h
  cases rx
  obtain ⟨t, rfl⟩ := ry
  obtain ⟨its, r, ⟨⟨cls, dd, data, sl⟩, ho, hc, n, hd⟩, hs⟩ := I.tuple hT
  simp only at hc hd
  subst hc hd
  refine wpAny_binaryOp_repeat_ref (T := "tuple") (U := "int") (by decide) ⟨_, ho, rfl⟩ (fun s' => typeIs_int s' 1 t) noFill_tuple_mul F.fills_int_mul F.slot_int_rmul repeat_tuple F.slot_int_index.lookup
    (call_meets F.slot_int_rmul (typeIs_int s 1 t) F.entry_int_rmul (F.args_int_rmul_2 _ _) (int_rmul_tuple 1 t l its.toArray n dd sl)
      ⟨ho, rfl, ⟨_, ho, rfl⟩, call_meets F.slot_tuple_mul ⟨_, ho, rfl⟩ F.entry_tuple_mul (F.args_tuple_mul_2 _ _) (tuple_mul1 l its.toArray n dd sl t) ⟨ho, ?_⟩⟩)
  exact ⟨.ref l, H, I, rfl, q⟩
def rMulT (K : PySem.W.Frag) : R2 := fun x y H Q => rMulA K x y H Q ∨ rRep1 K x y H Q
theorem op_mulT : OpR X (binaryOp .Mult) (rMulT X.K) := op_mulA.or op_rep1
end
def dMulT : D → D → Option D
  | .tup xs, .int k => if k = 1 then some (.tup xs) else dMul (.tup xs) (.int k)
  | x, y => dMul x y
theorem os_mulT {c : Cc} : OpS c (rMulT c.K) dMulT := fun H G x y dx dy dz Q e rx ry hz q => by
  unfold dMulT at hz
  split at hz
  · split at hz
    · rename_i h
      subst h
      cases hz
      cases rx with
      | tup t1 r1 => exact .inr ⟨_, _, rfl, ry.ints, Same.sqT e t1, q _ _ _ (Grow.refl e) (.tup t1 r1)⟩
    · exact .inl (os_mul Q e rx ry hz q)
  · exact .inl (os_mul Q e rx ry hz q)
/-! ### x[::-1] -/
theorem PE_or {X : Cx} {e : Expr} {t1 t2 : TE} (h1 : PE X e t1) (h2 : PE X e t2) : PE X e (fun σ H Q => t1 σ H Q ∨ t2 σ H Q) := ⟨fun pins s σ H Q I h => by
  rcases h with h | h
  · exact h1.run pins s σ H Q I h
  · exact h2.run pins s σ H Q I h⟩
def dRev : D → Option D
  | .lst xs => some (.lst xs.reverse)
  | .tup xs => some (.tup xs.reverse)
  | _ => none
section
variable {c : Cc} {X : Cx} {pins : List Nat} {b1 b2 b3 : Bool} {f g h : EF} {t : BF} {fa fi : AF} {pos : Pos} {e o a : Expr} {es : List Expr}
variable {H H1 H2 G G1 G2 : Hp} {s s1 s2 : S} {fp fp1 fp2 : List Addr} {σ σ1 σ2 : L2.St} {Z : Ends}
theorem ex_rev {k : Nat} {p1 p2 p3 : Pos} (he : PE X e (tE c b1 f)) (hK : X.K = c.K := by rfl) : PE X (.Subscript e (.Slice none none (some (.UnaryOp .USub (.Constant (.int 1) k p1) p2)) p3) pos) (tE c b1 (e1 dRev f)) :=
  PE_imp (PE_or (pe_revL he) (pe_revT he)) fun σ H Q ⟨G, s, fp, d, s', ok, sl, hf, q⟩ => by
    rw [hK]
    unfold e1 at hf
    cases h1 : f s with
    | none => rw [h1] at hf; exact nomatch hf
    | some pp =>
      obtain ⟨x, s1⟩ := pp
      simp only [h1, Option.bind_some] at hf
      cases x with
      | lst xs =>
        simp only [dRev, Option.map_some, Option.some.injEq, Prod.mk.injEq] at hf
        obtain ⟨rfl, rfl⟩ := hf
        refine .inl ⟨G, s, fp, _, _, ok, sl, h1, fun v H1 G1 fp1 E1 S1 r1 p1 => ?_⟩
        cases r1 with
        | lst t1 r1 =>
          exact ⟨_, _, rfl, Same.sqL E1.sub t1, fun p hp => q _ _ _ fp1 (E1.grow S1 (Grow.alloc E1.sub hp)) (S1.step (Grow.alloc E1.sub hp)) (.lst (SqL.of upd_same) (r1.reverse.mono (same_upd (E1.sub.free hp)))) (p1.grow (Grow.alloc E1.sub hp))⟩
      | tup xs =>
        simp only [dRev, Option.map_some, Option.some.injEq, Prod.mk.injEq] at hf
        obtain ⟨rfl, rfl⟩ := hf
        refine .inr ⟨G, s, fp, _, _, ok, sl, h1, fun v H1 G1 fp1 E1 S1 r1 p1 => ?_⟩
        cases r1 with
        | tup t1 r1 =>
          exact ⟨_, _, rfl, Same.sqT E1.sub t1, fun p hp => q _ _ _ fp1 (E1.grow S1 (Grow.alloc E1.sub hp)) (S1.step (Grow.alloc E1.sub hp)) (.tup (SqT.of upd_same) (r1.reverse.mono (same_upd (E1.sub.free hp)))) (p1.grow (Grow.alloc E1.sub hp))⟩
      | _ => simp [dRev] at hf
/-! ### sorted -/
def sortI (ns : List Int) : List Int := ns.mergeSort fun a b => decide (a ≤ b)
theorem sortI_uniq {ns ms : List Int} (p : ms.Perm ns) (h : ms.Pairwise (· ≤ ·)) : ms = sortI ns := by
  have p2 : (sortI ns).Perm ns := List.mergeSort_perm _ _
  have s2 : (sortI ns).Pairwise (· ≤ ·) := by
    have := List.pairwise_mergeSort (le := fun a b : Int => decide (a ≤ b)) (fun a b c h1 h2 => by simp at *; omega) (fun a b => by simp; omega) ns
    exact this.imp fun h => by simpa using h
  exact List.Perm.eq_of_pairwise (fun a b _ _ h1 h2 => Int.le_antisymm h1 h2) h s2 (p.trans p2.symm)
def bSorted : List D → Option D
  | [.lst xs] => (intsD xs).map fun ns => .lst ((sortI ns).map .int)
  | _ => none
theorem cs_sorted : CallS c (rSortedI c.K) bSorted := fun H G vs ds z Q e r hz q => by
  unfold bSorted at hz
  split at hz
  · rename_i xs
    cases hb : intsD xs with
    | none => rw [hb] at hz; exact nomatch hz
    | some ns =>
      rw [hb] at hz
      cases hz
      obtain ⟨v, rfl, r1⟩ := reps1 r
      cases r1 with
      | lst t1 r1 =>
        refine ⟨_, ns, rfl, by rw [← ints_rep r1 hb]; exact Same.sqL e t1, fun ns' p hp hs hf => ?_⟩
        rw [sortI_uniq hp hs]
        exact q _ _ _ (Grow.alloc e hf) (.lst (SqL.of upd_same) (reps_ints _))
  · exact nomatch hz
/-! ### a comprehension as a new list; extend -/
theorem xn_lc {fe : EF} {ft : BF} {gf : GF} {elt tg iter : Expr} {ifs : List Expr} {scope : Scope} {own : List (Str × Nat)} {pins' : List Nat} (hN : X.N.Nodup) (hi : PI X tg iter (tI c b1 fi)) (ok : BlkOk X.N X.env.scope scope own) (hp : ∀ i < X.N.length, i ∉ own.map (·.2) → i ∈ pins') (ho : GOwn gf (own.map (·.2)))
    (hg : ∀ (s : Shared) (H : Hp) (C : Addr) (cl : List (Str × Addr)) (fp : List Addr), PG (X.blk s H scope (compEnvC scope cl C X.env) fp) tg (tG c pins' true gf)) (ht : ∀ (s : Shared) (H : Hp) (C : Addr) (cl : List (Str × Addr)) (fp : List Addr), PTs (X.blk s H scope (compEnvC scope cl C X.env) fp) ifs (tT c b2 ft))
    (he : ∀ (s : Shared) (H : Hp) (C : Addr) (cl : List (Str × Addr)) (fp : List Addr), PE (X.blk s H scope (compEnvC scope cl C X.env) fp) elt (tE c b3 fe)) (hnd : (own.map (·.2)).Nodup := by decide) (hc : X.calm = true := by rfl) (hs : ∀ x, foldedSetIterable iter X.env x = pure x := by exact fun _ => rfl) :
    PE X (.ListComp elt [⟨tg, iter, ifs, 0⟩] scope pos) (tN c (aLc (own.map (·.2)) fi gf ft fe)) := by
  refine ⟨fun pins s σ H Q I ⟨G, S, fp, d, s', k, sl, hf, q⟩ => (pe_lc hc hN hi ok hg ht he hs).run pins s σ H Q I (lc_ok X.N.length I.len hp ho hnd _ rfl ?_)⟩
  refine ⟨G, S, fp, d, s', k, sl, hf, fun Dl vs H' G' fp' hD hDg hDf E' S' hv rr pu => ?_⟩
  refine q Dl vs H' G' fp' { E' with own := fun a ha => ?_, nd := List.nodup_cons.mpr ⟨hDf, E'.nd⟩ } S' hv rr
  rcases List.mem_cons.mp ha with rfl | ha
  · exact ⟨hDg, .inr hD⟩
  · exact E'.own a ha
def sExt (i : Nat) (f : AF) : SF := fun s => match s[i]? with
  | some (.lst _) => (f s).bind fun p => match p.2[i]? with
    | some (.lst xs) => if xs.length + p.1.length ≤ cap then some (.next (p.2.set i (.lst (xs ++ p.1)))) else none
    | _ => none
  | _ => none
theorem sx_ext (i : Nat) {x : Str} {p1 apos cpos : Pos} {line : Pos} (he : PE X e (tN c fa)) (hN : X.N[i]? = some x := by rfl) (hv : Vis X.env.scope x := by first | exact Or.inl rfl | exact Or.inr (Or.inl rfl)) (hK : X.K = c.K := by rfl)
    (hd : (x == ("__debug__" : Str)) = false := by decide) (hcd : (x == ("__classdict__" : Str)) = false := by decide)
    (hbase : attributeBase (.Name x p1) "extend" X.env (eval (.Name x p1) X.env) = eval (.Name x p1) X.env := by rfl)
    (hfew : ((backTo cpos (starEach [e] X.env)).all (fun x => !x.1) && (backToKw cpos (keywordEach [] X.env)).all (fun x => x.1.isSome)
      && decide ([e].length + ([] : List Keyword).length + (if ([] : List Keyword).isEmpty then 0 else 1) < 30)) = true := by rfl)
    (hline : (apos.endLine == cpos.line) = true := by rfl) (hs : starEach [e] X.env = (false, eval e X.env) :: starEach [] X.env := by rfl) (hplain : (backTo cpos (starEach [] X.env)).any (·.1) = false := by rfl)
    (hsw : swapsWith (.Call (.Attribute (.Name x p1) "extend" apos) [e] [] cpos) none line.line X.env = pure false := by rfl) :
    PS X (.Expr (.Call (.Attribute (.Name x p1) "extend" apos) [e] [] cpos) line) (tS c pins (sExt i fa)) :=
  PS_imp (ps_expr (pe_bm PySem.F.plainAttrs_list PySem.F.slot_list_extend PySem.F.type_list_extend mt_extend (pe_var hN hv hd hcd) (pa_cons he pa_nil hs) hbase hfew hline hs hplain) hsw) fun Z σ H ⟨G, s, fp, fl, k, sl, hf, q⟩ => by
    unfold sExt at hf
    split at hf
    · rename_i ys hy
      cases h1 : fa s with
      | none => rw [h1] at hf; exact nomatch hf
      | some pp =>
        obtain ⟨zs, s1⟩ := pp
        simp only [h1, Option.bind_some] at hf
        split at hf
        · rename_i xs hx
          split at hf
          · rename_i hl
            cases hf
            obtain ⟨p, vs, _, hσ, hv, _, _, _⟩ := own_lst k sl hy
            refine ⟨_, hσ, .inl ⟨rfl, _, SqL.of hv⟩, G, s, fp, zs, s1, k, sl, h1, fun pl us H1 G1 fp1 E1 S1 hpl r1 => ?_⟩
            have E1' : Ev H G fp H1 G1 fp1 := E1.less (f1 := [pl]) (List.Perm.refl _)
            obtain ⟨p', vs', f2, hσ', hv', r', _, kk⟩ := own_lst E1'.ok S1 hx
            rw [hσ] at hσ'
            cases hσ'
            obtain ⟨fp', E2, S2⟩ := kk (vs' ++ us) (xs ++ zs) (r'.append r1)
            exact ⟨_, _, _, _, rfl, rfl, hv', hpl, by rw [r'.length, r1.length]; exact Nat.le_trans hl cap_line, q σ _ G1 fp' (E1'.trans E2) S2 PinEq.refl⟩
          · exact nomatch hf
        · exact nomatch hf
    · exact nomatch hf
/-! ### a slice of a list of one's own -/
def eCutO (i : Nat) (lo hi : S → Option (Option Int × S)) : EF := fun s => match s[i]? with
  | some (.lst xs) => (lo s).bind fun q => (hi q.2).bind fun r => some (.lst (DL.cutD xs q.1 r.1), r.2)
  | _ => none
theorem ex_cutO (i : Nat) {x : Str} {p p2 : Pos} {lo hi : Option Expr} {fl fh : S → Option (Option Int × S)} (hl : PO X lo (tOp' c true fl)) (hu : PO X hi (tOp' c true fh)) (hN : X.N[i]? = some x := by rfl) (hv : Vis X.env.scope x := by first | exact Or.inl rfl | exact Or.inr (Or.inl rfl)) (hd : (x == ("__debug__" : Str)) = false := by decide) (hcd : (x == ("__classdict__" : Str)) = false := by decide)
    (hK : X.K = c.K := by rfl) : PE X (.Subscript (.Name x p) (.Slice lo hi none p2) pos) (tE c true (eCutO i fl fh)) := PE_imp (pe_slice sl_list (pe_var hN hv hd hcd) hl hu) fun σ H Q ⟨G, s, fp, d, s', k, sl, hf, q⟩ => by
  rw [hK]
  unfold eCutO at hf
  split at hf
  · rename_i xs hx
    obtain ⟨v, f1, f2, h1, h2, hp, hk⟩ := sl.split hx (by simp)
    cases h2 with
    | @lst p vs _ hv r =>
      cases h3 : fl s with
      | none => rw [h3] at hf; exact nomatch hf
      | some p3 =>
        obtain ⟨y, s2⟩ := p3
        simp only [h3, Option.bind_some] at hf
        cases h4 : fh s2 with
        | none => simp [h4] at hf
        | some p4 =>
          obtain ⟨w, s3⟩ := p4
          simp only [h4, Option.bind_some, Option.some.injEq, Prod.mk.injEq] at hf
          obtain ⟨rfl, rfl⟩ := hf
          refine ⟨_, h1, ⟨G, s, fp, _, _, k, sl, h3, fun H1 G1 fp1 E1 S1 p1 => ⟨G1, _, fp1, _, _, E1.ok, S1, h4, fun H2 G2 fp2 E2 S2 p2 => ?_⟩⟩⟩
          obtain ⟨g1, e1⟩ := p1 rfl
          obtain ⟨g2, e2⟩ := p2 rfl
          subst e1
          subst e2
          have g3 := g1.trans g2
          refine ⟨_, _, rfl, SqL.of (g3.hs _ _ hv), fun p' hp' => ?_⟩
          have g4 := g3.trans (Grow.alloc (o := .lst (cutV vs y w)) g3.sub hp')
          exact q _ _ _ _ (g4.ev k sl) (sl.step g4) (.lst (SqL.of upd_same) (((r.cut _ _).mono g3.gs).mono (same_upd (g3.sub.free hp')))) fun _ => ⟨g4, rfl⟩
  · exact nomatch hf
end
end DL
/-! DL 15: in and not in of flat things; new lists put together. -/
namespace DL
open PySem PySem.Spec PyProof.Rows L2
/-! ### x in (a, b) -/
def flatD : D → Option V
  | .non => some .non
  | .bl b => some (.bl b)
  | .int i => some (.int i)
  | .str x => some (.str x)
  | _ => none
def flatsD : List D → Option (List V)
  | [] => some []
  | x :: xs => (flatD x).bind fun v => (flatsD xs).map fun vs => v :: vs
def seqD : D → Option (List D)
  | .tup xs => some xs
  | .lst xs => some xs
  | _ => none
def dInF (neg : Bool) (x y : D) : Option D := (flatD x).bind fun v => (seqD y).bind fun xs => (flatsD xs).map fun vs => .bl (if neg = true then !inV v vs else inV v vs)
theorem flatD_rep {K : PySem.W.Frag} {G : Hp} {v : V} {d : D} {u : V} (r : Rep K G v d) (h : flatD d = some u) : v = u ∧ flatV v = true := by
  cases r <;> simp only [flatD] at h <;> first | (cases h; exact ⟨rfl, rfl⟩) | exact nomatch h
theorem flatsD_rep {K : PySem.W.Frag} {G : Hp} : ∀ {vs : List V} {ds : List D} {us : List V}, Reps K G vs ds → flatsD ds = some us → vs = us ∧ vs.all flatV = true
  | _, _, us, .nil, h => by cases h; exact ⟨rfl, rfl⟩
  | _, _, us, .cons (d := d) (ds := ds) r t, h => by
    cases h1 : flatD d with
    | none => simp [flatsD, h1] at h
    | some v =>
      cases h2 : flatsD ds with
      | none => simp [flatsD, h1, h2] at h
      | some vs =>
        simp only [flatsD, h1, h2, Option.bind_some, Option.map_some] at h
        cases h
        obtain ⟨a, b⟩ := flatD_rep r h1
        obtain ⟨a2, b2⟩ := flatsD_rep t h2
        subst a a2
        exact ⟨rfl, by simp [b, b2]⟩
theorem os_inF {c : Cc} (neg : Bool) : OpS c (rIn c.K neg) (dInF neg) := fun H G x y dx dy dz Q e rx ry hz q => by
  unfold dInF at hz
  cases h1 : flatD dx with
  | none => rw [h1] at hz; exact nomatch hz
  | some v =>
    obtain ⟨rfl, fx⟩ := flatD_rep rx h1
    rw [h1, Option.bind_some] at hz
    cases ry with
    | tup t r =>
      simp only [seqD, Option.bind_some] at hz
      cases h2 : flatsD _ with
      | none => rw [h2] at hz; exact nomatch hz
      | some us =>
        rw [h2] at hz
        obtain ⟨a, b⟩ := flatsD_rep r h2
        subst a
        cases hz
        exact ⟨_, _, rfl, .inr (Same.sqT e t), fx, b, q _ _ _ (Grow.refl e) (.bl _)⟩
    | lst t r =>
      simp only [seqD, Option.bind_some] at hz
      cases h2 : flatsD _ with
      | none => rw [h2] at hz; exact nomatch hz
      | some us =>
        rw [h2] at hz
        obtain ⟨a, b⟩ := flatsD_rep r h2
        subst a
        cases hz
        exact ⟨_, _, rfl, .inl (Same.sqL e t), fx, b, q _ _ _ (Grow.refl e) (.bl _)⟩
    | _ => simp [seqD] at hz
theorem bo_inF (neg : Bool) : BoolOp2 (dInF neg) := fun x y z h => by
  unfold dInF at h
  cases h1 : flatD x with
  | none => rw [h1] at h; exact nomatch h
  | some v =>
    rw [h1, Option.bind_some] at h
    cases h2 : seqD y with
    | none => rw [h2] at h; exact nomatch h
    | some xs =>
      rw [h2, Option.bind_some] at h
      cases h3 : flatsD xs with
      | none => rw [h3] at h; exact nomatch h
      | some vs => rw [h3] at h; cases h; exact ⟨_, rfl⟩
section
variable {c : Cc} {X : Cx} {pins : List Nat} {b1 b2 b3 : Bool} {f g h : EF} {t : BF} {fa fi : AF} {pos : Pos} {e o : Expr} {es : List Expr}
variable {H H1 H2 G G1 G2 : Hp} {s s1 s2 : S} {fp fp1 fp2 : List Addr} {σ σ1 σ2 : L2.St} {Z : Ends}
/-! ### a new list: one + another -/
def nCat (f g : EF) : AF := fun s => (f s).bind fun p => (g p.2).bind fun q => match p.1, q.1 with
  | .lst xs, .lst ys => if xs.length + ys.length ≤ cap then some (xs ++ ys, q.2) else none
  | _, _ => none
theorem xn_cat {a b : Expr} (ha : PE X a (tE c b1 f)) (hb : PE X b (tE c b2 g)) (hK : X.K = c.K := by rfl) : PE X (.BinOp a .Add b pos) (tN c (nCat f g)) := PE_imp (pe_op op_catS ha hb) fun σ H Q ⟨G, s, fp, d, s', k, sl, hf, q⟩ => by
  unfold nCat at hf
  cases h1 : f s with
  | none => rw [h1] at hf; exact nomatch hf
  | some p =>
    obtain ⟨d1, s1⟩ := p
    rw [h1, Option.bind_some] at hf
    cases h2 : g s1 with
    | none => simp only [h2, Option.bind_none] at hf; exact nomatch hf
    | some p2 =>
      obtain ⟨d2, s2⟩ := p2
      simp only [h2, Option.bind_some] at hf
      split at hf
      · split at hf
        · rename_i xs ys hc
          cases hf
          refine ⟨G, s, fp, _, _, k, sl, h1, fun v H1 G1 fp1 E1 S1 r1 p1 => ⟨G1, s1, fp1, _, _, E1.ok, S1, h2, fun w H2 G2 fp2 E2 S2 r2 p2 => ?_⟩⟩
          cases r1 with
          | lst t1 r1 =>
          cases r2 with
          | lst t2 r2 =>
          refine ⟨_, _, _, _, rfl, rfl, hK ▸ Same.sqL E2.sub (Same.sqL E2.gs t1), hK ▸ Same.sqL E2.sub t2, by rw [r1.length, r2.length]; exact Nat.le_trans hc cap_line, fun l hl => ?_⟩
          obtain ⟨E3, S3⟩ := (E1.trans E2).newOwn (o := .lst _) S2 hl
          exact q l _ _ _ _ E3 S3 upd_same ((r1.mono E2.gs).append r2)
        · exact nomatch hf
      · exact nomatch hf
end
end DL
/-! DL 16: dicts of one's own. -/
namespace DL
open PySem PySem.Spec PyProof.Rows L2
theorem room65 {k : Nat} {A : Around} (r : Room k A) : A.units + 65 < cLine := by have := r.un; omega
/-! ### tables -/
def lookK (xs : List (Key × D)) (k : Key) : Option D := (xs.find? fun kv => decide (kv.1 = k)).map (·.2)
def storeK (xs : List (Key × D)) (k : Key) (d : D) : List (Key × D) := if (xs.any fun kv => decide (kv.1 = k)) = true then xs.map (fun kv => if kv.1 = k then (kv.1, d) else kv) else xs ++ [(k, d)]
theorem lookK_cons (j : Key) (d : D) (r : List (Key × D)) (k : Key) : lookK ((j, d) :: r) k = if j = k then some d else lookK r k := by
  unfold lookK
  rw [List.find?_cons]
  by_cases h : j = k
  · simp [h]
  · simp [h]
section
variable {K : PySem.W.Frag} {G : Hp}
theorem RepK.length : ∀ {kvs : List (Key × V)} {xs : List (Key × D)}, RepK K G kvs xs → kvs.length = xs.length
  | _, _, .nil => rfl
  | _, _, .cons _ t => by rw [List.length_cons, List.length_cons, RepK.length t]
theorem RepK.keys : ∀ {kvs : List (Key × V)} {xs : List (Key × D)}, RepK K G kvs xs → kvs.map (·.1) = xs.map (·.1)
  | _, _, .nil => rfl
  | _, _, .cons _ t => by rw [List.map_cons, List.map_cons, RepK.keys t]
theorem RepK.look (k : Key) : ∀ {kvs : List (Key × V)} {xs : List (Key × D)}, RepK K G kvs xs → (lookK xs k = none ∧ valV kvs k = none) ∨ ∃ v d, lookK xs k = some d ∧ valV kvs k = some v ∧ Rep K G v d
  | _, _, .nil => .inl ⟨rfl, rfl⟩
  | _, _, .cons (k := j) (v := v) (d := d) (kvs := kvs) (xs := xs) r t => by
    rw [lookK_cons]
    by_cases h : j = k
    · rw [if_pos h]
      exact .inr ⟨v, d, rfl, valV_pos (p := (j, v)) h, r⟩
    · rw [if_neg h, valV_neg (p := (j, v)) h]
      exact RepK.look k t
theorem RepK.any (k : Key) : ∀ {kvs : List (Key × V)} {xs : List (Key × D)}, RepK K G kvs xs → (kvs.any fun kv => decide (kv.1 = k)) = (xs.any fun kv => decide (kv.1 = k))
  | _, _, .nil => rfl
  | _, _, .cons _ t => by rw [List.any_cons, List.any_cons, RepK.any k t]
theorem RepK.repl {v : V} {d : D} (k : Key) (r : Rep K G v d) : ∀ {kvs : List (Key × V)} {xs : List (Key × D)}, RepK K G kvs xs → RepK K G (kvs.map fun kv => if kv.1 = k then (kv.1, v) else kv) (xs.map fun kv => if kv.1 = k then (kv.1, d) else kv)
  | _, _, .nil => .nil
  | _, _, .cons (k := j) q t => by
    rw [List.map_cons, List.map_cons]
    by_cases h : j = k
    · rw [if_pos h, if_pos h]; exact .cons r (RepK.repl k r t)
    · rw [if_neg h, if_neg h]; exact .cons q (RepK.repl k r t)
theorem RepK.snoc {v : V} {d : D} (k : Key) (r : Rep K G v d) : ∀ {kvs : List (Key × V)} {xs : List (Key × D)}, RepK K G kvs xs → RepK K G (kvs ++ [(k, v)]) (xs ++ [(k, d)])
  | _, _, .nil => .cons r .nil
  | _, _, .cons q t => .cons q (RepK.snoc k r t)
theorem RepK.put {v : V} {d : D} (k : Key) (r : Rep K G v d) {kvs : List (Key × V)} {xs : List (Key × D)} (t : RepK K G kvs xs) : RepK K G (putK kvs k v) (storeK xs k d) := by
  unfold putK storeK
  rw [t.any k]
  split
  · exact t.repl k r
  · exact t.snoc k r
end
def keyD : D → Option Key
  | .int i => some (.inl i)
  | .str x => some (.inr x)
  | _ => none
theorem keyD_rep {K : PySem.W.Frag} {G : Hp} {v : V} {d : D} {k : Key} (r : Rep K G v d) (h : keyD d = some k) : v = kV k := by
  cases r <;> simp only [keyD] at h <;> first | (cases h; rfl) | exact nomatch h
section
variable {c : Cc} {X : Cx} {pins : List Nat} {b1 b2 b3 : Bool} {f g h : EF} {t : BF} {fa fi : AF} {pos : Pos} {e o : Expr} {es : List Expr}
variable {H H1 H2 G G1 G2 : Hp} {s s1 s2 : S} {fp fp1 fp2 : List Addr} {σ σ1 σ2 : L2.St} {Z : Ends}
theorem own_dct (k : Ok H G fp) (sl : Slots c H G σ s fp) {i : Nat} {xs : List (Key × D)} (h : s[i]? = some (.dct xs)) :
    ∃ p kvs f2, σ[i]? = some (some (.ref p)) ∧ H p = some (.dK kvs) ∧ RepK c.K G kvs xs ∧ fp.Perm (p :: f2) ∧
      ∀ kvs' xs', RepK c.K G kvs' xs' → ∃ fp', Ev H G fp (upd H p (.dK kvs')) G fp' ∧ Slots c (upd H p (.dK kvs')) G σ (s.set i (.dct xs')) fp' := by
  obtain ⟨v, f1, f2, h1, h2, hp, hk⟩ := sl.split h (by simp)
  cases h2 with
  | @dct p kvs _ hv r =>
    have gp : G p = none := k.own p (hp.mem_iff.mpr (by simp))
    have nd := List.nodup_append.mp (hp.nodup_iff.mp k.nd)
    refine ⟨p, kvs, f2, h1, hv, r, hp, fun kvs' xs' r' => ?_⟩
    obtain ⟨fp', p', sl'⟩ := hk (upd H p (.dK kvs')) G (.dct xs') [p] (.dct upd_same r') (fun a ha => upd_ne fun z => nd.2.2 p (by simp) a ha z.symm) (Same.refl _)
    have pp : fp'.Perm fp := p'.trans hp.symm
    refine ⟨fp', ⟨Same.refl _, fun b o hb => ?_, fun x h3 h4 => absurd h3 h4, fun a o ha hn => ?_, fun a ha => ?_, fun a ha => ⟨k.own a (pp.mem_iff.mp ha), .inl (pp.mem_iff.mp ha)⟩, pp.nodup_iff.mpr k.nd⟩, sl'⟩
    · rw [upd_ne (fun z => by rw [z, gp] at hb; cases hb)]; exact k.sub b o hb
    · rw [upd_ne (fun z => hn (by rw [z]; exact hp.mem_iff.mpr (by simp)))]; exact ha
    · by_cases z : a = p
      · subst z; rw [upd_same]; simp
      · rw [upd_ne z]; exact ha
theorem put_newD {p : Addr} (k : Ok H G (p :: fp)) (sl : Slots c H G σ s fp) {i : Nat} {kvs : List (Key × V)} {xs : List (Key × D)} (hi : i < s.length) (hv : H p = some (.dK kvs)) (r : RepK c.K G kvs xs) :
    ∃ fp', Ev H G (p :: fp) H G fp' ∧ Slots c H G (σ.set i (some (.ref p))) (s.set i (.dct xs)) fp' := by
  obtain ⟨f1, f2, hp, kk⟩ := sl.put hi
  obtain ⟨fp', p', sl'⟩ := kk H G (.ref p) (.dct xs) [p] (.dct hv r) (fun _ _ => rfl) (Same.refl _)
  refine ⟨fp', ?_, sl'⟩
  have q1 : (p :: fp).Perm (f1 ++ (p :: f2)) := (List.Perm.cons p hp).trans (List.perm_middle.symm)
  exact ((Ev.refl k).less q1).perm p'
/-! ### x = {} -/
def sNewD (i : Nat) : SF := fun s => if i < s.length then some (.next (s.set i (.dct []))) else none
theorem sx_newD (i : Nat) {x : Str} {pos' dp : Pos} (hN : X.N.Nodup) (hp : i ∉ pins := by decide) (hi : X.N[i]? = some x := by rfl) (hx : Loc X.env.scope x := by first | exact Or.inl rfl | exact Or.inr rfl)
    (hs : swapsWith (.Dict [] [] dp) (some (.Name x pos')) pos.line X.env = pure false := by rfl) (hf : X.fn x = true ∨ X.env.scope.names.lookup x = some .local := by first | exact .inl rfl | exact .inr rfl) :
    PS X (.Assign [.Name x pos'] (.Dict [] [] dp) pos) (tS c pins (sNewD i)) := PS_imp (ps_set hN hi hx pe_dnewK hs hf) fun Z σ H ⟨G, s, fp, fl, k, sl, hf, q⟩ => by
  unfold sNewD at hf
  split at hf
  · rename_i hl
    cases hf
    intro p hpn
    obtain ⟨E1, S1⟩ := (Ev.refl k).newOwn (o := .dK []) sl hpn
    obtain ⟨fp', E2, S2⟩ := put_newD E1.ok S1 hl upd_same .nil
    exact q _ _ _ _ (E1.trans E2) S2 (pin_set hp)
  · exact nomatch hf
/-! ### x[k] = v -/
def sPutD (i : Nat) (fk fv : EF) : SF := fun s => (fv s).bind fun p => match p.2[i]? with
  | some (.dct _) => (fk p.2).bind fun q => match keyD q.1, q.2[i]? with
    | some k, some (.dct xs) => if xs.length < cap then some (.next (q.2.set i (.dct (storeK xs k p.1)))) else none
    | _, _ => none
  | _ => none
theorem sx_putD (i : Nat) {x : Str} {p pos' : Pos} {ie : Expr} (hu : X.A.units + 65 < cLine) (he : PE X e (tE c b1 f)) (hk : PE X ie (tE c b2 g)) (hN : X.N[i]? = some x := by rfl) (hv : Vis X.env.scope x := by first | exact Or.inl rfl | exact Or.inr (Or.inl rfl)) (hd : (x == ("__debug__" : Str)) = false := by decide) (hcd : (x == ("__classdict__" : Str)) = false := by decide)
    (hs : swapsWith e (some (.Subscript (.Name x p) ie pos')) pos.line X.env = pure false := by rfl) :
    PS X (.Assign [.Subscript (.Name x p) ie pos'] e pos) (tS c pins (sPutD i g f)) := PS_imp (ps_dput (by omega) (pe_var hN hv hd hcd) hk he hs) fun Z σ H ⟨G, s, fp, fl, k, sl, hf, q⟩ => by
  unfold sPutD at hf
  cases h1 : f s with
  | none => rw [h1] at hf; exact nomatch hf
  | some pp =>
    obtain ⟨d, s1⟩ := pp
    simp only [h1, Option.bind_some] at hf
    split at hf
    · rename_i ys hy
      cases h2 : g s1 with
      | none => rw [h2] at hf; exact nomatch hf
      | some p2 =>
        obtain ⟨dk, s2⟩ := p2
        simp only [h2, Option.bind_some] at hf
        split at hf
        · rename_i kk xs hkk hx
          split at hf
          · rename_i hl
            cases hf
            refine ⟨G, s, fp, d, s1, k, sl, h1, fun v H1 G1 fp1 E1 S1 r1 p1 => ?_⟩
            obtain ⟨p, kvs, f2, hσ, _, _, _, _⟩ := own_dct E1.ok S1 hy
            refine ⟨_, hσ, G1, s1, fp1, dk, s2, E1.ok, S1, h2, fun w H2 G2 fp2 E2 S2 r2 p2 => ?_⟩
            obtain ⟨p', kvs', f2', hσ', hv', r', _, fin⟩ := own_dct E2.ok S2 hx
            rw [hσ] at hσ'
            cases hσ'
            obtain ⟨fp', E3, S3⟩ := fin (putK kvs' kk v) (storeK xs kk d) (r'.put kk (r1.mono E2.gs))
            refine ⟨p, _, rfl, ?_, q σ _ G2 fp' ((E1.trans E2).trans E3) S3 PinEq.refl⟩
            rw [keyD_rep r2 hkk]
            exact DPut.k hv' (by rw [r'.length]; exact Nat.lt_trans hl cap_lt)
          · exact nomatch hf
        · exact nomatch hf
    · exact nomatch hf
/-! ### handed back -/
def sRetD (i : Nat) : SF := fun s => match s[i]? with
  | some (.dct xs) => some (.ret (.k xs) (s.set i .un))
  | _ => none
theorem sx_retD (i : Nat) {x : Str} {p : Pos} (hpi : i ∉ pins := by decide) (hN : X.N[i]? = some x := by rfl) (hv : Vis X.env.scope x := by first | exact Or.inl rfl | exact Or.inr (Or.inl rfl)) (hd : (x == ("__debug__" : Str)) = false := by decide) (hcd : (x == ("__classdict__" : Str)) = false := by decide) :
    PS X (.Return (some (.Name x p)) pos) (tS c pins (sRetD i)) := PS_imp (ps_ret (pe_var hN hv hd hcd)) fun Z σ H ⟨G, s, fp, fl, k, sl, hf, q⟩ => by
  unfold sRetD at hf
  split at hf
  · rename_i xs hx
    cases hf
    obtain ⟨v, f1, f2, h1, h2, hp, S2⟩ := sl.take hx (by simp)
    cases h2 with
    | @dct p kvs _ hv r => exact ⟨_, h1, q p kvs σ H G f2 ((Ev.refl k).perm hp.symm) S2 PinEq.refl hv r⟩
  · exact nomatch hf
/-- a def that hands back a new dict -/
def runD (np n : Nat) (fb : SF) (ds : List D) : Option (List (Key × D)) := if ds.length = np then (fb (ds.map O.val ++ List.replicate (n - np) O.un)).bind fun fl => match fl with
    | .ret (.k xs) _ => some xs
    | _ => none
  else none
def spD (c : Cc) (m : List D → Option (List (Key × D))) : Sp := fun vs H Q _ => ∃ G ds r, Same G H ∧ Reps c.K G vs ds ∧ m ds = some r ∧ ∀ p kvs H' G', Ev H G [] H' G' [p] → H' p = some (.dK kvs) → RepK c.K G' kvs r → Q (.ref p) H'
theorem fn_newD {P : Program} {wd : World} {K : PySem.W.Frag} {mg : Str → Option Value} {base : Heap} {x qual : Str} {sd : Stmt} {fA : Addr} {fd : FuncData} {N ps : List Str} {kl : Nat} (np n : Nat) (m : List D → Option (List (Key × D))) (fb : SF) (hm : m = runD np n fb) (F : Fun K x qual sd fA fd) (Sc : FnScope N ps (defScope sd)) (hK : K = c.K) (e1 : ps.length = np) (e2 : N.length = n)
    (body : ∀ (cdv : Value) (A : Around) (outer : List Env) (s : Shared) (H : Hp) (E : XK), Room kl (A.deeper (envOfC qual (defScope sd) s.heap.objs.size fA cdv)) →
      PSs (cxOf CX0 P wd K mg base N qual (defScope sd) fA cdv A outer s H E).nox (defBody sd) (tS c [] fb)) : FnOk P wd K mg base CX0 (kl + 1) fA fd ps (spD c m) := by
  subst hm e1 e2
  refine F.ok Sc (fun vs H Q E h => ?_) fun cdv A outer s H vs Q E hr h => ⟨_, body cdv A outer s H E hr, ?_⟩
  · obtain ⟨G, ds, r, _, hr, hm, _⟩ := h
    rw [hr.length]
    unfold runD at hm
    split at hm
    · assumption
    · exact nomatch hm
  · obtain ⟨G, ds, r, e, hr, hm, q⟩ := h
    unfold runD at hm
    split at hm
    · rename_i hl
      cases h1 : fb (ds.map O.val ++ List.replicate (N.length - ps.length) O.un) with
      | none => rw [h1] at hm; exact nomatch hm
      | some fl =>
        simp only [h1, Option.bind_some] at hm
        refine ⟨G, _, [], fl, ⟨e, fun a ha => by simp at ha, List.nodup_nil⟩, ?_, h1, ?_⟩
        · unfold L2.start
          rw [hr.length, hl]
          exact slots_start hr _
        · cases fl with
          | ret d s' =>
            cases d with
            | k xs =>
              cases hm
              exact fun p vs σ' H' G' fp' E1 S1 p1 hv r1 => q p vs H' G' (E1.less (f1 := fp') (f2 := [p]) ((List.perm_append_comm (l₁ := [p]) (l₂ := fp')))) hv r1
            | _ => exact nomatch hm
          | _ => exact nomatch hm
    · exact nomatch hm
abbrev DF := S → Option (List (Key × D) × S)
def tDN (c : Cc) (f : DF) : TE := fun σ H Q => ∃ G s fp xs s', Ok H G fp ∧ Slots c H G σ s fp ∧ f s = some (xs, s') ∧
  ∀ p kvs H' G' fp', Ev H G fp H' G' (p :: fp') → Slots c H' G' σ s' fp' → H' p = some (.dK kvs) → RepK c.K G' kvs xs → Q (.ref p) H'
def dCall (m : List D → Option (List (Key × D))) (fa : AF) : DF := fun s => (fa s).bind fun p => (m p.1).map fun z => (z, p.2)
theorem callD_ok {m : List D → Option (List (Key × D))} {E : XK} {Q : VK} (q : tDN c (dCall m fa) σ H Q) : tCall (spD c m) [] E (tA c b1 fa) σ H Q := by
  obtain ⟨G, s, fp, d, s', k, sl, hf, q⟩ := q
  unfold dCall at hf
  cases h1 : fa s with
  | none => rw [h1] at hf; exact nomatch hf
  | some p =>
    obtain ⟨ds, s1⟩ := p
    simp only [h1, Option.bind_some] at hf
    cases h2 : m ds with
    | none => simp [h2] at hf
    | some z =>
      simp only [h2, Option.map_some, Option.some.injEq, Prod.mk.injEq] at hf
      obtain ⟨rfl, rfl⟩ := hf
      refine ⟨G, s, fp, ds, s1, k, sl, h1, fun vs H1 G1 fp1 E1 S1 r1 p1 => ⟨G1, ds, z, E1.sub, by rw [List.append_nil]; exact r1, h2, fun p us H' G' E' hv r => ?_⟩⟩
      have E2 := Ev.beside (f1 := []) (f2 := fp1) E1.ok (List.Perm.refl _) S1.there E'
      exact q p us H' G' fp1 (E1.trans E2) (S1.stay E'.gs fun a ha => by
        cases z : H1 a with
        | none => exact absurd z (S1.there a ha)
        | some o => exact E'.frame a o z (by simp)) hv r
section
variable {kl : Nat} {fA : Addr} {fd : FuncData} {ps : List Str} {x : Str} {p : Pos} {es : List Expr} {m : List D → Option (List (Key × D))}
theorem xd_call (F : FnOk X.prog X.w X.K X.mg X.base CX0 kl fA fd ps (spD c m)) (hr : Room kl X.A) (hm : X.mg x = some (.ref fA)) (hk : PySem.W.keepIn X.K (.ref fA) = true) (hb : Binds X.K fd ps []) (ha : PA X (e :: es) (tA c b1 fa)) (hg : Gl X x := by rfl)
    (hdb : (x == ("__debug__" : Str)) = false := by decide) (he : starEach (e :: es) X.env = (false, eval e X.env) :: starEach es X.env := by rfl) (hpl : (backTo pos (starEach es X.env)).any (·.1) = false := by rfl) :
    PE X (.Call (.Name x p) (e :: es) [] pos) (tDN c (dCall m fa)) := PE_imp (pe_call (E := E0) F hr hg hm hk hb .nil pass0 ha hdb he hpl) fun _ _ _ q => callD_ok q
end
def sSetD (i : Nat) (f : DF) : SF := fun s => (f s).bind fun p => if i < p.2.length then some (.next (p.2.set i (.dct p.1))) else none
theorem sx_setD (i : Nat) {x : Str} {pos' : Pos} {fd : DF} (hN : X.N.Nodup) (he : PE X e (tDN c fd)) (hp : i ∉ pins := by decide) (hi : X.N[i]? = some x := by rfl) (hx : Loc X.env.scope x := by first | exact Or.inl rfl | exact Or.inr rfl)
    (hs : swapsWith e (some (.Name x pos')) pos.line X.env = pure false := by rfl) (hf : X.fn x = true ∨ X.env.scope.names.lookup x = some .local := by first | exact .inl rfl | exact .inr rfl) :
    PS X (.Assign [.Name x pos'] e pos) (tS c pins (sSetD i fd)) := PS_imp (ps_set hN hi hx he hs hf) fun Z σ H ⟨G, s, fp, fl, k, sl, hf, q⟩ => by
  unfold sSetD at hf
  cases h1 : fd s with
  | none => rw [h1] at hf; exact nomatch hf
  | some p =>
    obtain ⟨xs, s1⟩ := p
    simp only [h1, Option.bind_some] at hf
    split at hf
    · rename_i hl
      cases hf
      refine ⟨G, s, fp, xs, s1, k, sl, h1, fun p vs H1 G1 fp1 E1 S1 hv r => ?_⟩
      obtain ⟨fp', E2, S2⟩ := put_newD E1.ok S1 hl hv r
      exact q _ _ _ _ (E1.trans E2) S2 (pin_set hp)
    · exact nomatch hf
/-! ### x.get(k, d) -/
def eGetD (i : Nat) (fk fd : EF) : EF := fun s => match s[i]? with
  | some (.dct _) => (fk s).bind fun p => (fd p.2).bind fun q => match keyD p.1, q.2[i]? with
    | some k, some (.dct xs) => some ((lookK xs k).getD q.1, q.2)
    | _, _ => none
  | _ => none
theorem ex_getD (i : Nat) {x : Str} {p apos cpos : Pos} {e2' : Expr} (hu : X.A.units + 65 < cLine) (hk : PE X e (tE c b1 f)) (hdf : PE X e2' (tE c b2 g)) (m : M2 X (.Name x p) "get" apos e e2' cpos := by exact ⟨rfl, rfl, rfl, rfl⟩) (hN : X.N[i]? = some x := by rfl) (hv : Vis X.env.scope x := by first | exact Or.inl rfl | exact Or.inr (Or.inl rfl) | exact Or.inr (Or.inr rfl)) (hd : (x == ("__debug__" : Str)) = false := by decide) (hcd : (x == ("__classdict__" : Str)) = false := by decide) :
    PE X (.Call (.Attribute (.Name x p) "get" apos) [e, e2'] [] cpos) (tE c (b1 && b2) (eGetD i f g)) := PE_imp (pe_dget2 (by omega) (pe_var hN hv hd hcd) hk hdf m) fun σ H Q ⟨G, s, fp, d, s', k, sl, hf, q⟩ => by
  unfold eGetD at hf
  split at hf
  · rename_i ys hy
    obtain ⟨p, kvs, f2, hσ, hv0, _, _, _⟩ := own_dct k sl hy
    cases h1 : f s with
    | none => rw [h1] at hf; exact nomatch hf
    | some pp =>
      obtain ⟨dk, s1⟩ := pp
      simp only [h1, Option.bind_some] at hf
      cases h2 : g s1 with
      | none => simp [h2] at hf
      | some p2 =>
        obtain ⟨dd, s2⟩ := p2
        simp only [h2, Option.bind_some] at hf
        split at hf
        · rename_i kk xs hkk hx
          cases hf
          refine ⟨_, hσ, p, rfl, .inl ⟨kvs, .inl hv0⟩, G, s, fp, dk, s1, k, sl, h1, fun v H1 G1 fp1 E1 S1 r1 p1 => ⟨G1, s1, fp1, dd, s', E1.ok, S1, h2, fun w H2 G2 fp2 E2 S2 r2 p2 => ?_⟩⟩
          obtain ⟨p', kvs', f2', hσ', hv', r', _, _⟩ := own_dct E2.ok S2 hx
          rw [hσ] at hσ'
          cases hσ'
          have hkv := keyD_rep r1 hkk
          subst hkv
          refine ⟨_, DGet.k hv', ?_⟩
          rcases r'.look kk with ⟨l1, l2⟩ | ⟨v0, d0, l1, l2, r0⟩
          · rw [l2]
            rw [l1] at q
            exact q w H2 G2 fp2 (E1.trans E2) S2 r2 (p1.and p2)
          · rw [l2]
            rw [l1] at q
            exact q v0 H2 G2 fp2 (E1.trans E2) S2 r0 (p1.and p2)
        · exact nomatch hf
  · exact nomatch hf
end
end DL
/-! DL 17: the least and greatest key; enumerate; l.index(x). -/
namespace DL
open PySem PySem.Spec PyProof.Rows L2
/-! ### max(d) -/
theorem best_gt (num : Nat → Int) : ∀ k, argBest (fun i j => decide (num i > num j)) k ≤ k ∧ ∀ j, j ≤ k → num j ≤ num (argBest (fun i j => decide (num i > num j)) k)
  | 0 => ⟨Nat.le_refl _, fun j hj => by
    have : j = 0 := by omega
    subst this
    exact Int.le_refl _⟩
  | k + 1 => by
    obtain ⟨h1, h2⟩ := best_gt num k
    simp only [argBest]
    by_cases hc : num (k + 1) > num (argBest (fun i j => decide (num i > num j)) k)
    · rw [if_pos (by simpa using hc)]
      refine ⟨Nat.le_refl _, fun j hj => ?_⟩
      by_cases hj2 : j = k + 1
      · subst hj2; exact Int.le_refl _
      · have := h2 j (by omega)
        omega
    · rw [if_neg (by simpa using hc)]
      refine ⟨by omega, fun j hj => ?_⟩
      by_cases hj2 : j = k + 1
      · subst hj2; omega
      · exact h2 j (by omega)
def rMaxK : List V → Hp → VK → Prop := fun vs H Q => ∃ (a : Addr) (kvs : List (Key × V)) (is : List Int), vs = [V.ref a] ∧ H a = some (.dK kvs) ∧ kvs.map (·.1) = is.map Sum.inl ∧ is ≠ [] ∧ ∀ m, m ∈ is → (∀ j ∈ is, j ≤ m) → Q (.int m) H
theorem cr_maxK {X : Cx} (hc : X.calm = true) : CallR X (.builtin "max") rMaxK := by
  intro pins s σ H vs us Q I r h
  obtain ⟨a, kvs, is, rfl, ha, hv, hne, q⟩ := h
  rw [Vals.ref1 r]
  obtain ⟨_, hsys, vs, rel, dof⟩ := dk_of I.hok ha
  obtain ⟨ep, dat⟩ := dof.dictAt
  obtain ⟨ob, es, ho, _⟩ := id dat
  have hlt : a < s.heap.objs.size := Heap.lt_size ho
  have hkeys : vs.map (·.1) = is.map Sum.inl := (KV.keys rel).symm.trans hv
  have hlv : vs.length = is.length := by simpa using congrArg List.length hkeys
  have hlen : 0 < vs.length := by
    rw [hlv]
    exact List.length_pos_iff.mpr hne
  have hval : ∀ (i : Nat) (v : Value), (∃ k x, vs[i]? = some (k, x) ∧ (mixKind X.prog X.w).is k v = true) → ∃ t, v = Value.int (is.getD i 0) t := fun i v ⟨k, x, hk, hkey⟩ => by
    have e1 : (vs.map (·.1))[i]? = some k := by simp [hk]
    rw [hkeys, List.getElem?_map] at e1
    obtain ⟨j, hj, e2⟩ := Option.map_eq_some_iff.mp e1
    subst e2
    obtain ⟨t, e3⟩ := Value.isInt_shape (k := j) (v := v) hkey
    exact ⟨t, by rw [e3]; simp [hj]⟩
  refine call_max_walk (wpAny_pyIter_dict (knd := mixKind X.prog X.w) hsys dat ?_)
  refine ⟨_, _, _, _, _, _, _, rfl, Walks.dictKeys (knd := mixKind X.prog X.w) (A := X.A.in1) (I.ok.hd hc) s.heap.objs.size a (Nat.ne_of_lt hlt) vs ep,
    ⟨⟨_, Heap.get?_push_size _ rfl, rfl, rfl⟩, dat.keep fun b u e => Heap.get?_push_of_some _ e⟩, fun b hb => ?_, hlen, CmpOf.ints_gt (fun i => is.getD i 0) hval, fun v h' tk hP hk => ?_⟩
  · show b < (s.heap.push _).objs.size
    rw [Heap.size_push]
    rcases List.mem_cons.mp hb with e | hb
    · rw [e]; exact Nat.lt_succ_self _
    · rw [List.mem_singleton.mp hb]; exact Nat.lt_succ_of_lt hlt
  · obtain ⟨t, rfl⟩ := hval _ v hP
    obtain ⟨b1, b2⟩ := best_gt (fun i => is.getD i 0) (vs.length - 1)
    refine ⟨.int _, H, I.kept (t' := tk) fun b u e => hk b u (fun hmem => ?_) (Heap.get?_push_of_some _ e), ⟨t, rfl⟩, q _ ?_ fun j hj => ?_⟩
    · have e2 := Heap.lt_size e
      rw [List.mem_singleton.mp hmem] at e2
      exact absurd e2 (Nat.lt_irrefl _)
    · have hb : argBest (fun i j => decide (is.getD i 0 > is.getD j 0)) (vs.length - 1) < is.length := by omega
      rw [List.getD_eq_getElem?_getD, List.getElem?_eq_getElem hb]
      exact List.getElem_mem hb
    · obtain ⟨i, hi, e⟩ := List.mem_iff_getElem.mp hj
      have e2 : is.getD i 0 = j := by simp [hi, e]
      rw [← e2]
      exact b2 i (by omega)
def intKeys : List (Key × D) → Option (List Int)
  | [] => some []
  | (.inl i, _) :: r => (intKeys r).map (i :: ·)
  | _ => none
theorem intKeys_map : ∀ {xs : List (Key × D)} {is : List Int}, intKeys xs = some is → xs.map (·.1) = is.map Sum.inl
  | [], is, h => by cases h; rfl
  | (.inl i, d) :: r, is, h => by
    cases h1 : intKeys r with
    | none => simp [intKeys, h1] at h
    | some js =>
      simp only [intKeys, h1, Option.map_some, Option.some.injEq] at h
      subst h
      simp [intKeys_map h1]
  | (.inr x, d) :: r, is, h => nomatch h
def leastI : List Int → Option Int
  | [] => none
  | i :: r => some (r.foldl min i)
def greatI : List Int → Option Int
  | [] => none
  | i :: r => some (r.foldl max i)
theorem foldl_min : ∀ (r : List Int) (i : Int), r.foldl min i ∈ i :: r ∧ ∀ j ∈ i :: r, r.foldl min i ≤ j
  | [], i => ⟨by simp, fun j hj => by simp at hj; subst hj; exact Int.le_refl _⟩
  | k :: r, i => by
    obtain ⟨a, b⟩ := foldl_min r (min i k)
    rw [List.foldl_cons]
    have m1 := b (min i k) List.mem_cons_self
    refine ⟨?_, fun j hj => ?_⟩
    · rcases List.mem_cons.mp a with a | a
      · rw [a]
        by_cases h : i ≤ k
        · rw [Int.min_eq_left h]; simp
        · rw [Int.min_eq_right (by omega)]; simp
      · simp [a]
    · rcases List.mem_cons.mp hj with rfl | hj
      · omega
      · rcases List.mem_cons.mp hj with rfl | hj
        · omega
        · exact b j (List.mem_cons_of_mem _ hj)
theorem foldl_max : ∀ (r : List Int) (i : Int), r.foldl max i ∈ i :: r ∧ ∀ j ∈ i :: r, j ≤ r.foldl max i
  | [], i => ⟨by simp, fun j hj => by simp at hj; subst hj; exact Int.le_refl _⟩
  | k :: r, i => by
    obtain ⟨a, b⟩ := foldl_max r (max i k)
    rw [List.foldl_cons]
    have m1 := b (max i k) List.mem_cons_self
    refine ⟨?_, fun j hj => ?_⟩
    · rcases List.mem_cons.mp a with a | a
      · rw [a]
        by_cases h : k ≤ i
        · rw [Int.max_eq_left h]; simp
        · rw [Int.max_eq_right (by omega)]; simp
      · simp [a]
    · rcases List.mem_cons.mp hj with rfl | hj
      · omega
      · rcases List.mem_cons.mp hj with rfl | hj
        · omega
        · exact b j (List.mem_cons_of_mem _ hj)
theorem leastI_is {is : List Int} {m m' : Int} (h : leastI is = some m) (h1 : m' ∈ is) (h2 : ∀ j ∈ is, m' ≤ j) : m' = m ∧ is ≠ [] := by
  cases is with
  | nil => exact nomatch h
  | cons i r =>
    cases h
    obtain ⟨a, b⟩ := foldl_min r i
    have := h2 _ a
    have := b _ h1
    exact ⟨by omega, by simp⟩
theorem greatI_is {is : List Int} {m m' : Int} (h : greatI is = some m) (h1 : m' ∈ is) (h2 : ∀ j ∈ is, j ≤ m') : m' = m ∧ is ≠ [] := by
  cases is with
  | nil => exact nomatch h
  | cons i r =>
    cases h
    obtain ⟨a, b⟩ := foldl_max r i
    have := h2 _ a
    have := b _ h1
    exact ⟨by omega, by simp⟩
def eMinD (i : Nat) : EF := fun s => match s[i]? with
  | some (.dct xs) => (intKeys xs).bind fun is => (leastI is).map fun m => (.int m, s)
  | _ => none
def eMaxD (i : Nat) : EF := fun s => match s[i]? with
  | some (.dct xs) => (intKeys xs).bind fun is => (greatI is).map fun m => (.int m, s)
  | _ => none
section
variable {c : Cc} {X : Cx} {pins : List Nat} {b1 b2 b3 : Bool} {f g h : EF} {t : BF} {fa fi : AF} {pos : Pos} {e o : Expr} {es : List Expr}
variable {H H1 H2 G G1 G2 : Hp} {s s1 s2 : S} {fp fp1 fp2 : List Addr} {σ σ1 σ2 : L2.St} {Z : Ends}
theorem ex_minD (i : Nat) {x : Str} {p p' : Pos} (hm : X.mg "min" = none) (hc : X.calm = true := by rfl) (hN : X.N[i]? = some x := by rfl) (hv : Vis X.env.scope x := by first | exact Or.inl rfl | exact Or.inr (Or.inl rfl)) (hd : (x == ("__debug__" : Str)) = false := by decide) (hcd : (x == ("__classdict__" : Str)) = false := by decide)
    (hb : bootBuiltins "min" = some (.builtin "min") := by decide +kernel) (hg : Gl X "min" := by rfl)
    (he : starEach [.Name x p'] X.env = (false, eval (.Name x p') X.env) :: starEach [] X.env := by rfl) (hpl : (backTo pos (starEach [] X.env)).any (·.1) = false := by rfl) :
    PE X (.Call (.Name "min" p) [.Name x p'] [] pos) (tE c true (eMinD i)) := PE_imp (pe_callB (cr_minK hc) hg hm hb (pa_cons (pe_var hN hv hd hcd) pa_nil he) (by decide) (by decide) he hpl) fun σ H Q ⟨G, s, fp, d, s', k, sl, hf, q⟩ => by
  unfold eMinD at hf
  split at hf
  · rename_i xs hx
    cases h1 : intKeys xs with
    | none => rw [h1] at hf; exact nomatch hf
    | some is =>
      simp only [h1, Option.bind_some] at hf
      cases h2 : leastI is with
      | none => rw [h2] at hf; exact nomatch hf
      | some m =>
        simp only [h2, Option.map_some, Option.some.injEq, Prod.mk.injEq] at hf
        obtain ⟨rfl, rfl⟩ := hf
        obtain ⟨p, kvs, f2, hσ, hv, r, _, _⟩ := own_dct k sl hx
        refine ⟨_, hσ, p, kvs, is, rfl, hv, by rw [r.keys]; exact intKeys_map h1, (fun z => by rw [z] at h2; exact (nomatch h2)), fun m' a b => ?_⟩
        rw [(leastI_is h2 a b).1]
        exact q _ H G fp (Ev.refl k) sl (.int _) (Pure.here k.sub)
  · exact nomatch hf
theorem ex_maxD (i : Nat) {x : Str} {p p' : Pos} (hm : X.mg "max" = none) (hc : X.calm = true := by rfl) (hN : X.N[i]? = some x := by rfl) (hv : Vis X.env.scope x := by first | exact Or.inl rfl | exact Or.inr (Or.inl rfl)) (hd : (x == ("__debug__" : Str)) = false := by decide) (hcd : (x == ("__classdict__" : Str)) = false := by decide)
    (hb : bootBuiltins "max" = some (.builtin "max") := by decide +kernel) (hg : Gl X "max" := by rfl)
    (he : starEach [.Name x p'] X.env = (false, eval (.Name x p') X.env) :: starEach [] X.env := by rfl) (hpl : (backTo pos (starEach [] X.env)).any (·.1) = false := by rfl) :
    PE X (.Call (.Name "max" p) [.Name x p'] [] pos) (tE c true (eMaxD i)) := PE_imp (pe_callB (cr_maxK hc) hg hm hb (pa_cons (pe_var hN hv hd hcd) pa_nil he) (by decide) (by decide) he hpl) fun σ H Q ⟨G, s, fp, d, s', k, sl, hf, q⟩ => by
  unfold eMaxD at hf
  split at hf
  · rename_i xs hx
    cases h1 : intKeys xs with
    | none => rw [h1] at hf; exact nomatch hf
    | some is =>
      simp only [h1, Option.bind_some] at hf
      cases h2 : greatI is with
      | none => rw [h2] at hf; exact nomatch hf
      | some m =>
        simp only [h2, Option.map_some, Option.some.injEq, Prod.mk.injEq] at hf
        obtain ⟨rfl, rfl⟩ := hf
        obtain ⟨p, kvs, f2, hσ, hv, r, _, _⟩ := own_dct k sl hx
        refine ⟨_, hσ, p, kvs, is, rfl, hv, by rw [r.keys]; exact intKeys_map h1, (fun z => by rw [z] at h2; exact (nomatch h2)), fun m' a b => ?_⟩
        rw [(greatI_is h2 a b).1]
        exact q _ H G fp (Ev.refl k) sl (.int _) (Pure.here k.sub)
  · exact nomatch hf
end
/-! ### enumerate of a tuple -/
set_option maxHeartbeats 1000000 in
theorem meets_enum1 {v : Value} {o : Obj} {H : Heap → Prop} (B : Begins v o H) :
    Meets (Builtin.«enumerate.__new__» ⟨[.type "enumerate", v], []⟩) (fun _ R s => H s.heap ∧
      R (.ok (.ret (.ref (s.heap.push o).objs.size))) { s with heap := (s.heap.push o).push { cls := .type "enumerate", data := .fields #[.none, .bool false, .ref s.heap.objs.size, rawInt 0, .none, .none] } }) :=
  .of_wp fun prog w A R s h => by
    obtain ⟨hp, g, d, tk, os⟩ := s; obtain ⟨h1, h⟩ := h
    have hsub := sub_enumerate
    have q1 : ∀ {A' : Around} {E : Value → Shared → Prop} {Q : Value → Shared → Prop}, Q (.ref hp.objs.size) ⟨hp.push o, g, d, tk, os⟩ → wpAny (model prog w) A' (pyIter v) Q E ⟨hp, g, d, tk, os⟩ :=
      fun q => B.iter prog w _ _ ⟨hp, g, d, tk, os⟩ _ h1 q
    wp_walk using q1
    refine wpAny_stack_any fun st => wpAny_pure ?_
    split
    · rename_i c _ _ _ _ _
      cases (c == Value.type "enumerate")
      · wp_walk using q1
        exact ⟨_, rfl, h⟩
      · wp_walk using q1
        exact ⟨_, rfl, h⟩
    · wp_walk using q1
      exact ⟨_, rfl, h⟩
theorem call_enum_tuple {prog : Program} {w : World} {A : Around} {E : Value → Shared → Prop} {s : Shared} {l : Addr} {items : Array Value} {Q : Value → Shared → Prop} (hL : s.heap.IsTuple l items)
    (h : ∀ h', IsEnum h' (s.heap.objs.size + 1) s.heap.objs.size 0 .none → h'.IsTupleIter s.heap.objs.size l 0 → h'.objs.size = s.heap.objs.size + 2 →
      (∀ b o, s.heap.get? b = some o → h'.get? b = some o) → Q (.ref (s.heap.objs.size + 1)) { s with heap := h' }) :
    wpAny (model prog w) A (call (.type "enumerate") [.ref l]) Q E s := by
  refine callType_new F.called_enumerate (by decide) (F.typeCall_enumerate_1 _) (F.newCall_enumerate_1 _) (fun obj => F.args_object_init_2 obj _) F.entry_enumerate_new
    (meets_enum1 (begins_tuple l items)) ⟨hL, ?_⟩
  have hz : (s.heap.push { cls := .type "tuple_iterator", data := .fields #[.ref l, .int 0 0] }).objs.size = s.heap.objs.size + 1 := Heap.size_push ..
  show _ ∧ _
  rw [hz]
  have he : IsEnum ((s.heap.push { cls := .type "tuple_iterator", data := .fields #[.ref l, .int 0 0] }).push
      { cls := .type "enumerate", data := .fields #[.none, .bool false, .ref s.heap.objs.size, rawInt 0, .none, .none] }) (s.heap.objs.size + 1) s.heap.objs.size 0 .none := by
    have := Heap.get?_push_size (s.heap.push { cls := .type "tuple_iterator", data := .fields #[.ref l, .int 0 0] })
      (o := { cls := .type "enumerate", data := .fields #[.none, .bool false, .ref s.heap.objs.size, rawInt 0, .none, .none] }) rfl
    rw [hz] at this; exact this
  refine ⟨⟨_, he, rfl⟩, h _ he ⟨_, Heap.get?_push_of_some _ (Heap.get?_push_size _ rfl), rfl, rfl⟩ (by rw [Heap.size_push, hz]) fun b o x => Heap.get?_push_of_some _ (Heap.get?_push_of_some _ x)⟩
theorem next_enum_endT {prog : Program} {w : World} {A : Around} {E : Value → Shared → Prop} {s : Shared} {e it l : Addr} {i : Nat} {items : Array Value} {old : Value} {Q : Option Value → Shared → Prop} (hh : A.handled = none)
    (he : IsEnum s.heap e it i old) (hit : s.heap.IsTupleIter it l i) (hl : s.heap.IsTuple l items) (hx : items[i]? = none)
    (hQ : ∀ h', Heap.ExtBut it s.heap h' → Q none { s with heap := h' }) : wpAny (model prog w) A (pyNext (.ref e)) Q E s := by
  have hT : s.TypeIs (.ref e) "enumerate" := ⟨_, he, rfl⟩
  unfold pyNext
  refine wpAny_bind (wpAny_attempt (wpAny_callSpecial?_slot (name := Str.ofString "__next__") hT F.slot_enumerate_next
    (wpAny_call_entry F.slot_enumerate_next hT F.entry_enumerate_next ?_ (F.args_enumerate_next_1 _))))
  show wpAny _ _ (field (.ref e) 2 >>= _) _ _ _
  refine wpAny_bind (wpAny_field he rfl (x := .ref it) rfl ?_)
  refine wpAny_bind (wpAny_nextOf_tuple_end hh hit hl hx fun h' x he' hx' => ?_)
  obtain ⟨o, ho, hc⟩ := hx'
  refine wpAny_bind (wpAny_isInstance (T := "StopIteration") (b := true) ⟨o, ho, hc⟩ isSubtype_stop ?_)
  exact wpAny_pure (hQ _ he')
/-- the tuple at a as it stands at each turn, each thing in a new pair -/
def IteT (K : PySem.W.Frag) (a : Addr) : It :=
  ⟨fun i H => ∃ (xs : List V) (x : V), SqT K H a xs ∧ xs[i]? = some x, fun i H v H' => ∃ T x, v = .ref T ∧ H T = none ∧ H' = upd H T (.tup [.int (i : Nat), x]) ∧ ∀ xs, SqT K H a xs → xs[i]? = some x, fun i H => ∃ xs : List V, SqT K H a xs ∧ xs.length ≤ i⟩
theorem turn_enumT {P : Program} {w : World} {K : PySem.W.Frag} {elts : List Expr} {kk : Nat} {tpos : Pos} (a e it : Addr) :
    Turn P w K (.Tuple elts kk tpos) (IteT K a) [e, it] e (fun i h => (∃ old, IsEnum h e it ((i : Nat) : Int) old) ∧ h.IsTupleIter it a i ∧ e ≠ it ∧ e ≠ a ∧ a ≠ it) where
  mem := by simp
  obj := fun i h st b hb => by
    obtain ⟨⟨old, he⟩, ⟨o, ho, hc, hd⟩, _⟩ := st
    have e' : b = e ∨ b = it := by simpa using hb
    rcases e' with z | z
    · rw [z]; exact ⟨_, he, fun v q => nomatch q⟩
    · rw [z]; exact ⟨o, ho, fun v q => by rw [hd] at q; cases q⟩
  keep := fun i h h' st k => let ⟨⟨old, he⟩, hi, hne⟩ := st; ⟨⟨old, k e (by simp) _ he⟩, hi.at fun o q => k it (by simp) o q, hne⟩
  item := by
    intro X hP hw hK hc i pins s σ H E I hf st hg
    subst hP hw hK
    obtain ⟨⟨old, he⟩, hit, hne, hea, hai⟩ := st
    obtain ⟨xs, x, hq, hx⟩ := hg
    obtain ⟨its, rv, p, hz⟩ := I.tuple hq
    obtain ⟨u, hu, ru⟩ := rv.get hx
    have hel : e < s.heap.objs.size := Heap.lt_size he
    have hil : it < s.heap.objs.size := by obtain ⟨_, q, _⟩ := hit; exact Heap.lt_size q
    have hlt : i < its.toArray.size := by
      have := (List.getElem?_eq_some_iff.mp hu).1
      simpa using this
    refine wpAny_pyNext_enum_itemD (Draws.tuple (A := X.A.in1) (I.ok.hd hc) it a hai its.toArray) he ⟨hit, p⟩ hlt hne (by simp [hne, hea]) fun x' h' tk hP ho hst hT hsz hk => ?_
    obtain rfl : x' = u := by
      have hP' : its.toArray[i]? = some x' := hP
      have : its[i]? = some x' := by simpa using hP'
      rw [hu] at this
      cases this
      rfl
    refine ⟨_, rfl, wpAny_letOwnedTupleGo_enum (s := { s with heap := h', toks := tk + 1 }) ho fun h'' he' sb => ?_⟩
    have hT2 : h''.get? s.heap.objs.size = some { cls := .type "tuple", data := .seq #[.int i tk, x'] } := (sb.2 _ (Nat.ne_of_gt hel)).trans hT
    have new : ObjOk X.prog X.w (upd H s.heap.objs.size (.tup [.int (i : Nat), x])) h'' s.heap.objs.size (.tup [.int (i : Nat), x]) :=
      ⟨by show 2 ≤ sizeLine; decide, [.int i tk, x'], .cons ⟨_, rfl⟩ (.cons ru .nil), ⟨_, hT2, rfl, _, rfl⟩⟩
    have I1 : Inv X pins σ (upd H s.heap.objs.size (.tup [.int (i : Nat), x])) { s with heap := h'', toks := tk + 1 } :=
      I.turnedNew (ch := [e, it]) (fun b ob hb q => (sb.2 b (fun z => hb (by simp [z]))).trans (hk b ob (fun z => hb (by simp [z])) (fun z => hb (by simp [z])) q)) hf (Nat.le_refl _) new
    refine ⟨.ref s.heap.objs.size, _, I1, rfl, ⟨_, x, rfl, I.hok.fresh (Nat.le_refl _), rfl, fun ys hy => by rw [I.tuple_inj hy hq]; exact hx⟩, ⟨⟨x', ?_⟩, hst.1.at fun o q => (sb.2 it (Ne.symm hne)).trans q, hne, hea, hai⟩, fun b hb => ?_⟩
    · have e1 : ((i + 1 : Nat) : Int) = (i : Int) + 1 := by omega
      rw [e1]; exact he'
    · have hb' : b < s.heap.objs.size := by
        have e' : b = e ∨ b = it := by simpa using hb
        rcases e' with z | z
        · rw [z]; exact hel
        · rw [z]; exact hil
      rw [upd_ne (Nat.ne_of_lt hb')]
      exact (hf b hb).1
  done := by
    intro X hP hw hK hc i pins s σ H E I hf st hg
    subst hP hw hK
    obtain ⟨⟨old, he⟩, hit, hne, hea, hai⟩ := st
    obtain ⟨xs, hq, hx⟩ := hg
    obtain ⟨its, rv, p, hz⟩ := I.tuple hq
    obtain ⟨f0, f1, f2, f3, f4, f5⟩ := hf it (by simp)
    have hl := rv.length
    exact next_enum_endT (I.ok.hd hc) he hit p (by simp; omega) fun h' eb => ⟨rfl, I.turned (t' := s.toks) (fun b o hb q => eb b o hb q) f0 f1 f3 f4 f5⟩
  self := fun A i s Q E st h => let ⟨⟨_, he⟩, _⟩ := st; wpAny_pyIter_enum he h
def iEnumA (K : PySem.W.Frag) (ta : TA) : TI := fun σ H R => ta σ H fun vs H1 => ∃ a xs, vs = [.ref a] ∧ ((SqL K H1 a xs ∧ R (Ite K a) H1) ∨ (SqT K H1 a xs ∧ R (IteT K a) H1))
theorem pi_enumA {X : Cx} {e : Expr} {ta : TA} {p pos tpos : Pos} {elts : List Expr} {kk : Nat} (hg : Gl X "enumerate") (hm : X.mg "enumerate" = none) (ha : PA X [e] ta) (hs : starEach [e] X.env = [(false, eval e X.env)] := by rfl) :
    PI X (.Tuple elts kk tpos) (.Call (.Name "enumerate" p) [e] [] pos) (iEnumA X.K ta) := by
  refine ⟨fun pins s σ H R I h => ?_⟩
  refine Call_ (ld_blt I hg hm boot_enumerate (PyProof.Rows.callWith_type1 (thn (ha.run pos pins s σ H _ I h) fun us s1 ⟨vs, H1, I1, r1, q1⟩ => ?_) hs rfl))
  obtain ⟨a, xs, ex, q1⟩ := q1
  subst ex
  cases r1 with
  | cons r rr =>
    cases rr
    cases r
    rcases q1 with ⟨hq, q⟩ | ⟨hq, q⟩
    · obtain ⟨its, rv, p', hz⟩ := I1.list hq
      refine call_enumerate_list p'.isList fun h' he hit hsz hk => wpAny_pyIter_enum he ?_
      have I2 : Inv X pins σ H1 { s1 with heap := h' } := I1.kept (t' := s1.toks) hk
      refine ⟨s1.heap.objs.size + 1, [s1.heap.objs.size + 1, s1.heap.objs.size], _, _, H1, rfl, I2, turn_enum a (s1.heap.objs.size + 1) s1.heap.objs.size, ⟨⟨.none, he⟩, hit, Nat.succ_ne_self _⟩, fun b hb => ?_, q⟩
      have hle : s1.heap.objs.size ≤ b := by
        rcases (by simpa using hb : b = s1.heap.objs.size + 1 ∨ b = s1.heap.objs.size) with z | z
        · rw [z]; exact Nat.le_add_right _ _
        · rw [z]; exact Nat.le_refl _
      exact I1.fpOk hle (I1.hok.fresh hle)
    · obtain ⟨its, rv, p', hz⟩ := I1.tuple hq
      have hal : a < s1.heap.objs.size := by obtain ⟨_, q', _⟩ := id p'; exact Heap.lt_size q'
      refine call_enum_tuple p' fun h' he hit hsz hk => wpAny_pyIter_enum he ?_
      have I2 : Inv X pins σ H1 { s1 with heap := h' } := I1.kept (t' := s1.toks) hk
      refine ⟨s1.heap.objs.size + 1, [s1.heap.objs.size + 1, s1.heap.objs.size], _, _, H1, rfl, I2, turn_enumT a (s1.heap.objs.size + 1) s1.heap.objs.size, ⟨⟨.none, he⟩, hit, Nat.succ_ne_self _, Ne.symm (Nat.ne_of_lt (Nat.lt_succ_of_lt hal)), Nat.ne_of_lt hal⟩, fun b hb => ?_, q⟩
      have hle : s1.heap.objs.size ≤ b := by
        rcases (by simpa using hb : b = s1.heap.objs.size + 1 ∨ b = s1.heap.objs.size) with z | z
        · rw [z]; exact Nat.le_add_right _ _
        · rw [z]; exact Nat.le_refl _
      exact I1.fpOk hle (I1.hok.fresh hle)
/-! ### for i, x in enumerate(xs) -/
def enumD (xs : List D) : List D := (List.range xs.length).map fun (i : Nat) => .tup [.int (i : Int), xs.getD i .non]
def iEnumD (fa : AF) : AF := fun s => (fa s).bind fun p => match p.1 with
  | [.lst xs] => some (enumD xs, p.2)
  | [.tup xs] => some (enumD xs, p.2)
  | _ => none
theorem enumD_get {xs : List D} {i : Nat} {d : D} (h : (enumD xs)[i]? = some d) : ∃ x, xs[i]? = some x ∧ d = .tup [.int (i : Int), x] := by
  unfold enumD at h
  rw [List.getElem?_map] at h
  by_cases hi : i < xs.length
  · rw [List.getElem?_range hi] at h
    cases h
    exact ⟨xs[i], List.getElem?_eq_getElem hi, by simp [hi]⟩
  · rw [List.getElem?_eq_none (by simpa using hi)] at h
    exact nomatch h
section
variable {c : Cc} {X : Cx} {pins : List Nat} {b1 b2 b3 : Bool} {f g h : EF} {t : BF} {fa fi : AF} {pos : Pos} {e o : Expr} {es : List Expr}
variable {H H1 H2 G G1 G2 : Hp} {s s1 s2 : S} {fp fp1 fp2 : List Addr} {σ σ1 σ2 : L2.St} {Z : Ends}
theorem yl_enumL {a : Addr} {vs : List V} {xs : List D} (hq : SqL c.K G a vs) (r : Reps c.K G vs xs) : Yields c (Ite c.K a) (enumD xs) G := fun i H G' e1 e2 => by
  have q : SqL c.K H a vs := Same.sqL e2 (Same.sqL e1 hq)
  refine ⟨fun d hd => ?_, fun hl => ⟨vs, q, ?_⟩⟩
  · obtain ⟨x, h1, rfl⟩ := enumD_get hd
    obtain ⟨v, hv, rv⟩ := r.get h1
    refine ⟨⟨vs, v, q, hv⟩, fun x0 H' y0 => ?_⟩
    obtain ⟨T, x1, rfl, hT, rfl, k1⟩ := y0
    have e3 := k1 vs q
    rw [hv] at e3
    cases e3
    have gr := Grow.alloc (o := .tup [.int (i : Nat), v]) e2 hT
    exact ⟨_, gr, .tup (SqT.of upd_same) (.cons (.int _) (.cons ((rv.mono e1).mono gr.gs) .nil))⟩
  · rw [r.length]
    simpa [enumD] using hl
theorem yl_enumT {a : Addr} {vs : List V} {xs : List D} (hq : SqT c.K G a vs) (r : Reps c.K G vs xs) : Yields c (IteT c.K a) (enumD xs) G := fun i H G' e1 e2 => by
  have q : SqT c.K H a vs := Same.sqT e2 (Same.sqT e1 hq)
  refine ⟨fun d hd => ?_, fun hl => ⟨vs, q, ?_⟩⟩
  · obtain ⟨x, h1, rfl⟩ := enumD_get hd
    obtain ⟨v, hv, rv⟩ := r.get h1
    refine ⟨⟨vs, v, q, hv⟩, fun x0 H' y0 => ?_⟩
    obtain ⟨T, x1, rfl, hT, rfl, k1⟩ := y0
    have e3 := k1 vs q
    rw [hv] at e3
    cases e3
    have gr := Grow.alloc (o := .tup [.int (i : Nat), v]) e2 hT
    exact ⟨_, gr, .tup (SqT.of upd_same) (.cons (.int _) (.cons ((rv.mono e1).mono gr.gs) .nil))⟩
  · rw [r.length]
    simpa [enumD] using hl
theorem ix_enum {a : Expr} {p pos tpos : Pos} {elts : List Expr} {kk : Nat} (ha : PA X [a] (tA c b1 fa)) (hm : X.mg "enumerate" = none) (hK : X.K = c.K := by rfl) (hg : Gl X "enumerate" := by rfl) (hs : starEach [a] X.env = [(false, eval a X.env)] := by rfl) :
    PI X (.Tuple elts kk tpos) (.Call (.Name "enumerate" p) [a] [] pos) (tI c b1 (iEnumD fa)) :=
  PI_imp (pi_enumA hg hm ha hs) fun σ H R ⟨G, S, fp, xs, s', k, sl, hf, q⟩ => by
    rw [hK]
    unfold iEnumD at hf
    cases h1 : fa S with
    | none => rw [h1] at hf; exact nomatch hf
    | some p =>
      obtain ⟨ds, s1⟩ := p
      simp only [h1, Option.bind_some] at hf
      split at hf
      · cases hf
        refine ⟨G, S, fp, _, _, k, sl, h1, fun vs H1 G1 fp1 E1 S1 r1 p1 => ?_⟩
        obtain ⟨v, rfl, r2⟩ := reps1 r1
        cases r2 with
        | lst t1 r1 => exact ⟨_, _, rfl, .inl ⟨Same.sqL E1.sub t1, q _ H1 G1 fp1 E1 S1 (yl_enumL t1 r1) p1⟩⟩
      · cases hf
        refine ⟨G, S, fp, _, _, k, sl, h1, fun vs H1 G1 fp1 E1 S1 r1 p1 => ?_⟩
        obtain ⟨v, rfl, r2⟩ := reps1 r1
        cases r2 with
        | tup t1 r1 => exact ⟨_, _, rfl, .inr ⟨Same.sqT E1.sub t1, q _ H1 G1 fp1 E1 S1 (yl_enumT t1 r1) p1⟩⟩
      · exact nomatch hf
/-! ### xs.index(x) -/
def firstD (d : D) : List D → Nat → Option Nat
  | [], _ => none
  | x :: r, j => if eqD x d = true then some j else firstD d r (j + 1)
def dIndex (x y : D) : Option D := match x with
  | .lst xs => if okD 60 (.lst xs) = true ∧ okD 60 y = true then (firstD y xs 0).map fun j => .int (j : Int) else none
  | _ => none
theorem firstD_is {d : D} : ∀ {xs : List D} {k j : Nat}, firstD d xs k = some j → k ≤ j ∧ (∃ z, xs[j - k]? = some z ∧ eqD z d = true) ∧ ∀ m z, m < j - k → xs[m]? = some z → eqD z d = false
  | [], k, j, h => nomatch h
  | x :: r, k, j, h => by
    unfold firstD at h
    by_cases hx : eqD x d = true
    · rw [if_pos hx] at h
      cases h
      refine ⟨Nat.le_refl _, ⟨x, by simp, hx⟩, fun m z hm => by omega⟩
    · rw [if_neg hx] at h
      obtain ⟨a, ⟨z, b1, b2⟩, cc⟩ := firstD_is h
      have e : j - k = (j - (k + 1)) + 1 := by omega
      refine ⟨by omega, ⟨z, by rw [e]; simpa using b1, b2⟩, fun m z hm hz => ?_⟩
      cases m with
      | zero => simp at hz; subst hz; simpa using hx
      | succ m => exact cc m z (by omega) (by simpa using hz)
theorem toPyL_get : ∀ {xs : List D} {i : Nat}, (toPyL xs)[i]? = (xs[i]?).map toPy
  | [], i => by simp [toPyL]
  | x :: r, 0 => by simp [toPyL]
  | x :: r, i + 1 => by simpa [toPyL] using toPyL_get (xs := r) (i := i)
theorem ex_index {apos : Pos} (hu : X.A.units + 65 < cLine) (ho : PE X o (tE c b1 f)) (he : PE X e (tE c b2 g)) (hK : X.K = c.K := by rfl)
    (hbase : attributeBase o "index" X.env (eval o X.env) = eval o X.env := by rfl)
    (hfew : ((backTo pos (starEach (e :: []) X.env)).all (fun x => !x.1) && (backToKw pos (keywordEach [] X.env)).all (fun x => x.1.isSome)
      && decide ((e :: []).length + ([] : List Keyword).length + (if ([] : List Keyword).isEmpty then 0 else 1) < 30)) = true := by rfl)
    (hline : (apos.endLine == pos.line) = true := by rfl) (hs : starEach (e :: []) X.env = (false, eval e X.env) :: starEach [] X.env := by rfl) (hplain : (backTo pos (starEach [] X.env)).any (·.1) = false := by rfl) :
    PE X (.Call (.Attribute o "index" apos) [e] [] pos) (tE c (b1 && b2) (e2 dIndex f g)) :=
  PE_imp (pe_bm PySem.F.plainAttrs_list PySem.F.slot_list_index PySem.F.type_list_index (mt_indexD hu) ho (pa_cons he pa_nil hs) hbase hfew hline hs hplain) fun σ H Q ⟨G, s, fp, d, s', k, sl, hf, q⟩ => by
    rw [hK]
    unfold e2 at hf
    cases h1 : f s with
    | none => rw [h1] at hf; exact nomatch hf
    | some p =>
      obtain ⟨x, s1⟩ := p
      simp only [h1, Option.bind_some] at hf
      cases h2 : g s1 with
      | none => simp [h2] at hf
      | some p2 =>
        obtain ⟨y, s2⟩ := p2
        simp only [h2, Option.bind_some] at hf
        cases h3 : dIndex x y with
        | none => simp [h3] at hf
        | some z =>
          simp only [h3, Option.map_some, Option.some.injEq, Prod.mk.injEq] at hf
          obtain ⟨rfl, rfl⟩ := hf
          cases x <;> simp only [dIndex] at h3 <;> try contradiction
          rename_i xs
          split at h3
          · rename_i hc
            cases h4 : firstD y xs 0 with
            | none => rw [h4] at h3; exact nomatch h3
            | some j =>
              rw [h4] at h3
              cases h3
              obtain ⟨_, ⟨z, e1, e2⟩, e3⟩ := firstD_is h4
              refine ⟨G, s, fp, _, s1, k, sl, h1, fun v H1 G1 fp1 E1 S1 r1 p1 => ?_⟩
              cases id r1 with
              | @lst a vs _ t1 r1' =>
                refine ⟨.inl ⟨rfl, _, Same.sqL E1.sub t1⟩, G1, s1, fp1, _, s2, E1.ok, S1, h2, fun u H2 G2 fp2 E2 S2 r2 p2 => ?_⟩
                refine ⟨a, u, toPy y, toPyL xs, j, toPy z, rfl, rfl, Rep.dp hc.1 ((r1.mono E2.gs).mono E2.sub), Rep.dp hc.2 (r2.mono E2.sub), okD_shaped hc.1, okD_shaped hc.2, ?_, e2, fun m z' hm hz' => ?_, q _ H2 G2 fp2 (E1.trans E2) S2 (.int _) (p1.and p2)⟩
                · rw [toPyL_get]
                  rw [Nat.sub_zero] at e1
                  rw [e1] <;> rfl
                · rw [toPyL_get] at hz'
                  obtain ⟨w, hw, rfl⟩ := Option.map_eq_some_iff.mp hz'
                  exact e3 m w (by omega) hw
          · exact nomatch h3
end
end DL
/-! DL 18: is True, is not True. -/
namespace DL
open PySem PySem.Spec PyProof.Rows L2
def dIsB : D → D → Option D
  | .bl a, .bl b => some (.bl (decide (a = b)))
  | _, _ => none
def dIsNotB : D → D → Option D
  | .bl a, .bl b => some (.bl (!decide (a = b)))
  | _, _ => none
def rIsB2 : V → V → Hp → VK → Prop := fun x y H Q => ∃ a b, x = .bl a ∧ y = .bl b ∧ Q (.bl (decide (a = b))) H
def rIsNotB2 : V → V → Hp → VK → Prop := fun x y H Q => ∃ a b, x = .bl a ∧ y = .bl b ∧ Q (.bl (!decide (a = b))) H
theorem os_isB {c : Cc} : OpS c rIsB2 dIsB := fun H G x y dx dy dz Q e rx ry hz q => by
  cases dx <;> cases dy <;> simp only [dIsB] at hz <;> try contradiction
  cases hz
  cases rx
  cases ry
  exact ⟨_, _, rfl, rfl, q _ _ _ (Grow.refl e) (.bl _)⟩
theorem os_isNotB {c : Cc} : OpS c rIsNotB2 dIsNotB := fun H G x y dx dy dz Q e rx ry hz q => by
  cases dx <;> cases dy <;> simp only [dIsNotB] at hz <;> try contradiction
  cases hz
  cases rx
  cases ry
  exact ⟨_, _, rfl, rfl, q _ _ _ (Grow.refl e) (.bl _)⟩
theorem bo_isB : BoolOp2 dIsB := fun x y z h => by
  cases x <;> cases y <;> simp only [dIsB] at h <;> first | (cases h; exact ⟨_, rfl⟩) | (exact (nomatch h))
theorem bo_isNotB : BoolOp2 dIsNotB := fun x y z h => by
  cases x <;> cases y <;> simp only [dIsNotB] at h <;> first | (cases h; exact ⟨_, rfl⟩) | (exact (nomatch h))
end DL
/-! DL 19: two names at once, each given plain data or a new list of one's own. -/
namespace DL
open PySem PySem.Spec PyProof.Rows L2
def argO : Arg → Option O
  | .val d => some (.val d)
  | .new xs => some (.lst xs)
  | .own _ => none
def par2 (i j : Nat) (s : S) : List Arg → Option Fl
  | [a, b] => (argO a).bind fun x => (argO b).bind fun y => if i < s.length ∧ j < s.length then some (.next ((s.set i x).set j y)) else none
  | _ => none
def sParA (i j : Nat) (fa : AOF) : SF := fun s => (fa s).bind fun p => par2 i j p.2 p.1
section
variable {c : Cc} {X : Cx} {pins : List Nat} {b1 b2 b3 : Bool} {fao : AOF} {pos : Pos} {e o : Expr} {es : List Expr}
variable {H H' H1 H2 G G' G1 G2 : Hp} {s s1 s2 : S} {fp fp' fp1 fp2 : List Addr} {σ σ1 σ2 : L2.St} {Z : Ends}
theorem put_own2 {o : O} {v : V} {fo fr : List Addr} {i : Nat} (E : Ev H G fp H1 G1 (fo ++ (fr ++ fp1))) (sl : Slots c H1 G1 σ s fp1) (w : Own c H1 G1 v o fo) (hi : i < s.length) :
    ∃ fp', Ev H G fp H1 G1 (fr ++ fp') ∧ Slots c H1 G1 (σ.set i (some v)) (s.set i o) fp' := by
  obtain ⟨f1, f2, hp, kk⟩ := sl.put hi
  obtain ⟨fp', p', sl'⟩ := kk H1 G1 v o fo w (fun _ _ => rfl) (Same.refl _)
  refine ⟨fp', ?_, sl'⟩
  have q1 : (fo ++ (fr ++ fp1)).Perm (f1 ++ (fr ++ (fo ++ f2))) := by
    have a : (fo ++ (fr ++ fp1)).Perm (fo ++ (fr ++ (f1 ++ f2))) := List.Perm.append_left _ (List.Perm.append_left _ hp)
    refine a.trans ?_
    have b : (fr ++ (f1 ++ f2)).Perm (f1 ++ (fr ++ f2)) := by
      rw [← List.append_assoc, ← List.append_assoc]
      exact List.Perm.append_right f2 List.perm_append_comm
    refine (List.Perm.append_left fo b).trans ?_
    have d : (fo ++ (f1 ++ (fr ++ f2))).Perm (f1 ++ (fo ++ (fr ++ f2))) := by
      rw [← List.append_assoc, ← List.append_assoc f1 fo]
      exact List.Perm.append_right _ List.perm_append_comm
    refine d.trans (List.Perm.append_left f1 ?_)
    rw [← List.append_assoc, ← List.append_assoc]
    exact List.Perm.append_right f2 List.perm_append_comm
  exact (E.less q1).perm (List.Perm.append_left fr p')
theorem arg_own {a : Arg} {as : List Arg} {vs : List V} {fx : List Addr} {x : O} (h : ArgsV c H G σ (a :: as) vs fx) (e : argO a = some x) : ∃ v us fa fb, vs = v :: us ∧ fx = fa ++ fb ∧ Own c H G v x fa ∧ ArgsV c H G σ as us fb := by
  cases h with
  | own _ _ => exact nomatch e
  | val r t => cases e; exact ⟨_, _, [], _, rfl, rfl, .val r, t⟩
  | new hv r t => cases e; exact ⟨_, _, [_], _, rfl, rfl, .lst hv r, t⟩
theorem sx_parA (i j : Nat) {x y : Str} {ea eb : Expr} {px py pt : Pos} {kt k2 pt2} (hc : X.calm = true) (hN : X.N.Nodup) (ha : PA X [ea, eb] (tAO c fao)) (hpi : i ∉ pins := by decide) (hpj : j ∉ pins := by decide) (hij : i ≠ j := by decide) (hi : X.N[i]? = some x := by rfl) (hj : X.N[j]? = some y := by rfl)
    (hx : X.env.scope.names.lookup x = some .local := by rfl) (hy : X.env.scope.names.lookup y = some .local := by rfl)
    (hw : swappedStores [.Tuple [.Name x px, .Name y py] kt pt] (.Tuple [ea, eb] k2 pt2) X.env = pure (some [x, y]) := by rfl)
    (hs : swapsWithSole [.Tuple [.Name x px, .Name y py] kt pt] (.Tuple [ea, eb] k2 pt2) pos.line X.env = pure false := by rfl) :
    PS X (.Assign [.Tuple [.Name x px, .Name y py] kt pt] (.Tuple [ea, eb] k2 pt2) pos) (tS c pins (sParA i j fao)) := PS_imp (ps_par hc hN hi hj hij hx hy ha hw hs) fun D σ H ⟨G, s, fp, fl, k, sl, hf, q⟩ => by
  unfold sParA at hf
  cases h1 : fao s with
  | none => rw [h1] at hf; exact nomatch hf
  | some p =>
    obtain ⟨as, s1⟩ := p
    simp only [h1, Option.bind_some] at hf
    match as, h1, hf with
    | [], _, hf => exact nomatch hf
    | [_], _, hf => exact nomatch hf
    | _ :: _ :: _ :: _, _, hf => exact nomatch hf
    | [a, b], h1, hf =>
      simp only [par2] at hf
      cases ea : argO a with
      | none => rw [ea] at hf; exact nomatch hf
      | some x =>
        cases eb : argO b with
        | none => rw [ea, eb] at hf; exact nomatch hf
        | some y =>
          simp only [ea, eb, Option.bind_some] at hf
          split at hf
          · rename_i hl
            cases hf
            refine ⟨G, s, fp, _, s1, k, sl, h1, fun vs fx H1 G1 fp1 E1 S1 r1 => ?_⟩
            obtain ⟨v, us, f1, f2, rfl, rfl, w1, r2⟩ := arg_own r1 ea
            obtain ⟨w, ws, f3, f4, rfl, rfl, w2, r3⟩ := arg_own r2 eb
            cases r3
            rw [List.append_assoc] at E1
            obtain ⟨fp2, E2, S2⟩ := put_own2 E1 S1 w1 hl.1
            rw [List.append_assoc] at E2
            obtain ⟨fp3, E3, S3⟩ := put_own2 E2 S2 w2 (by rw [List.length_set]; exact hl.2)
            exact ⟨_, _, rfl, q _ _ _ _ E3 S3 ((pin_set hpi).trans (pin_set hpj))⟩
          · exact nomatch hf
end
end DL
/-! DL 20: names given the things of a list. -/
namespace DL
open PySem PySem.Spec PyProof.Rows L2
def gTupL (g : List D → S → Option S) : GF := fun d s => match d with
  | .lst xs => g xs s
  | _ => none
section
variable {c : Cc} {X : Cx} {pins : List Nat} {b1 : Bool} {pos : Pos}
theorem gx_lst {es : List Expr} {kk : Nat} {n : Nat} {gs : List D → S → Option S} (hc : X.calm = true) (h : PGs X es (tGs c pins b1 gs)) (hn : (assignEach es X.env).length = n := by rfl) (hlen : ∀ ds s s', gs ds s = some s' → ds.length = n)
    (hK : X.K = c.K := by rfl) (hst : (assignEach es X.env).findIdx? (·.1) = none := by rfl) : PG X (.Tuple es kk pos) (tG c pins b1 (gTupL gs)) := PG_imp (pg_lst hc h hn hst) fun v σ H Q ⟨G, s, fp, d, s', k, sl, r, hg, q⟩ => by
  cases r with
  | lst t1 r1 => exact ⟨_, _, rfl, by rw [hK]; exact Same.sqL k.sub t1, by rw [r1.length]; exact hlen _ _ _ hg, G, s, fp, _, s', k, sl, r1, hg, q⟩
  | _ => exact nomatch hg
end
end DL
/-! DL 21: defs handed on: a local name that holds one of some defs is called; constants that hold defs. -/
namespace DL
open PySem PySem.Spec PyProof.Rows L2
abbrev Tab := List (Addr × (List D → Option D))
def tabGet : Tab → Addr → Option (List D → Option D)
  | [], _ => none
  | (b, m) :: r, a => if a = b then some m else tabGet r a
def eCallV (i : Nat) (tab : Tab) (fa : AF) : EF := fun s => match s[i]? with
  | some (.val (.ref a)) => (tabGet tab a).bind fun m => eCall m fa s
  | _ => none
inductive TabOk (X : Cx) (c : Cc) (kl : Nat) : Tab → Prop
  | nil : TabOk X c kl []
  | cons {a : Addr} {m : List D → Option D} {r : Tab} : Held X.prog X.w X.K X.mg X.base kl a (spP c m) → TabOk X c kl r → TabOk X c kl ((a, m) :: r)
theorem TabOk.get {X : Cx} {c : Cc} {kl : Nat} : ∀ {tab : Tab}, TabOk X c kl tab → ∀ {a : Addr} {m : List D → Option D}, tabGet tab a = some m → Held X.prog X.w X.K X.mg X.base kl a (spP c m)
  | _, .nil, a, m, h => nomatch h
  | _, .cons (a := b) (m := m') h r, a, m, e => by
    simp only [tabGet] at e
    split at e
    · rename_i z
      cases e
      rw [z]
      exact h
    · exact TabOk.get r e
theorem held_of {P : Program} {w : World} {K : PySem.W.Frag} {mg : Str → Option Value} {base : Heap} {kl : Nat} {fA : Addr} {fd : FuncData} {ps : List Str} {sp : Sp} {k2 : Nat} (F : FnOk P w K mg base CX0 k2 fA fd ps sp) (hk : PySem.W.keepIn K (.ref fA) = true) (hb : Binds K fd ps []) (h : k2 ≤ kl := by decide) : Held P w K mg base kl fA sp := ⟨fd, ps, F.mono h, hk, hb⟩
section
variable {c : Cc} {X : Cx} {b1 : Bool} {fa : AF} {pos p : Pos} {e : Expr} {es : List Expr} {x : Str} {tab : Tab}
theorem ex_callV (i : Nat) {kl : Nat} (A : TabOk X c kl tab) (hr : Room kl X.A) (ha : PA X (e :: es) (tA c b1 fa)) (hN : X.N[i]? = some x := by rfl) (hv : Vis X.env.scope x := by first | exact Or.inl rfl | exact Or.inr (Or.inl rfl) | exact Or.inr (Or.inr rfl))
    (hdb : (x == ("__debug__" : Str)) = false := by decide) (hcd : (x == ("__classdict__" : Str)) = false := by decide)
    (he : starEach (e :: es) X.env = (false, eval e X.env) :: starEach es X.env := by rfl) (hpl : (backTo pos (starEach es X.env)).any (·.1) = false := by rfl) : PE X (.Call (.Name x p) (e :: es) [] pos) (tE c b1 (eCallV i tab fa)) := by
  refine PE_imp (pe_callA (i := i) (S := fun a => (tabGet tab a).map (spP c)) (fun f sp hS => ?_) hr hN hv ha hdb hcd he hpl) fun σ H Q ⟨G, s, fp, d, s', k, sl, hf, q⟩ => ?_
  · cases h : tabGet tab f with
    | none => rw [h] at hS; exact nomatch hS
    | some m =>
      rw [h] at hS
      cases hS
      exact A.get h
  · unfold eCallV at hf
    split at hf
    · rename_i a ho
      obtain ⟨v, f1, f2, h1, w, _⟩ := sl.split ho (by simp)
      cases w with
      | val r =>
        cases r
        cases hm : tabGet tab a with
        | none => rw [hm] at hf; exact nomatch hf
        | some m =>
          rw [hm, Option.bind_some] at hf
          have t := call_ok (E := fun _ _ _ => False) (Q := Q) (b1 := b1) ⟨G, s, fp, d, s', k, sl, hf, q⟩
          refine ⟨a, spP c m, h1, by simp only [hm]; rfl, ?_⟩
          have e0 : (fun (vs : List V) (H1 : Hp) => spP c m (vs ++ []) H1 Q (fun _ _ _ => False)) = fun vs H1 => spP c m vs H1 Q (fun _ _ _ => False) := by
            funext vs H1
            rw [List.append_nil]
          rw [← e0]
          exact t
    · exact nomatch hf
end
theorem DefAt.ne {K : PySem.W.Frag} {mg : Str → Option Value} {gn nm gn' nm' : Str} {st st' : Stmt} {ps ps' : List Str} (T : DefAt K mg gn nm st ps) (U : DefAt K mg gn' nm' st' ps') (h : nm ≠ nm') : T.a ≠ U.a := fun e => by
  obtain ⟨oc, od, kV, doc, pm, an, cdv, ct, osl, e1, l1, _⟩ := T.F.ex
  obtain ⟨oc', od', kV', doc', pm', an', cdv', ct', osl', e2, l2, _⟩ := U.F.ex
  rw [e, l2] at l1
  have d : T.d = U.d := by
    injection l1 with l1
    injection l1 with _ _ l1 _
    injection l1 with l1
    exact l1.symm
  have : T.d.name = U.d.name := by rw [d]
  rw [e1, e2] at this
  exact h this
theorem rep_lit {K : PySem.W.Frag} {p : Addr} {e : Option Addr} {its : Array Value} {n : Nat} {sl : Array (Option Value)} (l : K.lookup p = some ⟨.type "tuple", e, .seq its n, sl⟩) {vs : List V} {ds : List D} (hv : Vals vs its.toList) (r : ∀ G, Reps K G vs ds) (hz : vs.length ≤ 1000 := by decide) (G : Hp) : Rep K G (.ref p) (.tup ds) :=
  .tup (.inr ⟨_, its, n, l, rfl, rfl, by
    have := hv.length
    rw [Array.length_toList] at this
    rw [line_eq]; exact Nat.le_trans (Nat.le_of_eq this.symm) (Nat.le_trans hz (by decide)), hv⟩) (r G)
def ConstAt.lit {K : PySem.W.Frag} {mg : Str → Option Value} {nm : Str} {p : Addr} {d : D} (g : mg nm = some (.ref p)) (r : ∀ G, Rep K G (.ref p) d) : ConstAt K mg nm d := ⟨_, .ref p, g, rfl, r⟩
end DL
namespace DL
open PySem PySem.Spec PyProof.Rows L2
def faOf (l : List (Nat × Addr)) (n : Nat) : Addr := (l.lookup n).getD 0
end DL
set_option exponentiation.threshold 10000
/-! ### reckoning with the functions -/
namespace DL
open PySem PySem.Spec PyProof.Rows L2
section
variable {s : S} {f g h : EF} {fa : AF} {t u : BF} {x y : D} {i j : Int}
@[simp] theorem v_eVar {n : Nat} : eVar n s = match s[n]? with
  | some (.val d) => some (d, s)
  | _ => none := (rfl)
@[simp] theorem v_eC : eC x s = some (x, s) := (rfl)
theorem v_e1 {op : D → Option D} : e1 op f s = (f s).bind fun p => (op p.1).map fun z => (z, p.2) := rfl
theorem v_e2 {op : D → D → Option D} : e2 op f g s = (f s).bind fun p => (g p.2).bind fun q => (op p.1 q.1).map fun z => (z, q.2) := rfl
@[simp] theorem v_aNil : aNil s = some ([], s) := (rfl)
theorem v_aCons : aCons f fa s = (f s).bind fun p => (fa p.2).map fun q => (p.1 :: q.1, q.2) := rfl
theorem v_eTup : eTup fa s = (fa s).bind fun p => if p.1.length ≤ cap then some (.tup p.1, p.2) else none := rfl
theorem v_eLst : eLst fa s = (fa s).bind fun p => if p.1.length ≤ cap then some (.lst p.1, p.2) else none := rfl
theorem v_eCat {n : Nat} : eCat n f s = match s[n]? with
  | some (.lst xs) => (f s).bind fun p => match p.1 with
    | .lst ys => if xs.length + ys.length ≤ cap then some (.lst (xs ++ ys), p.2) else none
    | _ => none
  | _ => none := (rfl)
theorem v_nLst : nLst fa s = (fa s).bind fun p => if p.1.length ≤ cap then some p else none := rfl
theorem v_bTst : bTst f s = (f s).bind fun p => (truth p.1).map fun z => (z, p.2) := rfl
theorem v_bAnd : bAnd t u s = (t s).bind fun p => if p.1 = true then u p.2 else some (false, p.2) := rfl
theorem v_bOr : bOr t u s = (t s).bind fun p => if p.1 = true then some (true, p.2) else u p.2 := rfl
theorem v_bNot : bNot t s = (t s).map fun p => (!p.1, p.2) := rfl
@[simp] theorem v_bYes : bYes s = some (true, s) := (rfl)
theorem v_eAnd : eAnd f g s = (f s).bind fun p => (truth p.1).bind fun k => if k = true then g p.2 else some p := rfl
theorem v_eOr : eOr f g s = (f s).bind fun p => (truth p.1).bind fun k => if k = true then some p else g p.2 := rfl
theorem v_eNot : eNot f s = (f s).bind fun p => (truth p.1).map fun k => (.bl (!k), p.2) := rfl
theorem v_eIf : eIf t f g s = (t s).bind fun p => if p.1 = true then f p.2 else g p.2 := rfl
theorem v_eChain {op op' : D → D → Option D} : eChain op op' f g h s = (f s).bind fun p => (g p.2).bind fun q => (op p.1 q.1).bind fun z => match z with
  | .bl true => (h q.2).bind fun r => (op' q.1 r.1).map fun z' => (z', r.2)
  | .bl false => some (.bl false, q.2)
  | _ => none := (rfl)
@[simp] theorem v_oNo : oNo s = some (none, s) := (rfl)
theorem v_oSome : oSome f s = (f s).bind fun p => match p.1 with
  | .int i => some (some i, p.2)
  | _ => none := (rfl)
theorem v_eCut {lo hi : S → Option (Option Int × S)} : eCut f lo hi s = (f s).bind fun p => (lo p.2).bind fun q => (hi q.2).bind fun r => (dCut p.1 q.1 r.1).map fun z => (z, r.2) := rfl
theorem v_eCall {m : List D → Option D} : eCall m fa s = (fa s).bind fun p => (m p.1).map fun z => (z, p.2) := rfl
theorem v_nCall {m : List D → Option (List D)} : nCall m fa s = (fa s).bind fun p => (m p.1).map fun z => (z, p.2) := rfl
theorem v_eOfN : eOfN fa s = (fa s).map fun p => (.lst p.1, p.2) := rfl
@[simp] theorem v_sNext : sNext s = some (.next s) := (rfl)
theorem v_sSeq {f g : SF} : sSeq f g s = (f s).bind fun fl => match fl with
  | .next s' => g s'
  | fl => some fl := (rfl)
theorem v_sIf {f g : SF} : sIf t f g s = (t s).bind fun p => if p.1 = true then f p.2 else g p.2 := rfl
theorem v_sRet : sRet f s = (f s).map fun p => .ret (.d p.1) p.2 := rfl
@[simp] theorem v_sRetN : sRetN s = some (.ret (.d .non) s) := (rfl)
theorem v_sRetNew : sRetNew fa s = (fa s).map fun p => .ret (.n p.1) p.2 := rfl
@[simp] theorem v_sBrk : sBrk s = some (.brk s) := (rfl)
@[simp] theorem v_sCont : sCont s = some (.cont s) := (rfl)
theorem v_sDrop : sDrop f s = (f s).map fun p => .next p.2 := rfl
theorem v_sAsg {g : GF} : sAsg f g s = (f s).bind fun p => (g p.1 p.2).map .next := rfl
@[simp] theorem v_gN {n : Nat} : gN n x s = if n < s.length then some (s.set n (.val x)) else none := (rfl)
@[simp] theorem v_gTup {g : List D → S → Option S} {xs : List D} : gTup g (.tup xs) s = g xs s := (rfl)
@[simp] theorem v_gsNil : gsNil [] s = some s := (rfl)
theorem v_gsCons {g : GF} {r : List D → S → Option S} {ds : List D} : gsCons g r (x :: ds) s = (g x s).bind (r ds) := rfl
theorem v_gIx {k : Nat} : gIx k f x s = match s[k]? with
  | some (.lst _) => (f s).bind fun p => match p.1, p.2[k]? with
    | .int i, some (.lst xs) => (ixN xs.length i).map fun j => p.2.set k (.lst (xs.set j x))
    | _, _ => none
  | _ => none := (rfl)
theorem v_sPar {n m : Nat} : sPar n m fa s = (fa s).bind fun p => match p.1 with
  | [v, w] => if n < p.2.length ∧ m < p.2.length then some (.next ((p.2.set n (.val v)).set m (.val w))) else none
  | _ => none := (rfl)
theorem v_sNew {n : Nat} : sNew n fa s = (fa s).bind fun p => if n < p.2.length then some (.next (p.2.set n (.lst p.1))) else none := rfl
theorem v_sApp {n : Nat} : sApp n f s = match s[n]? with
  | some (.lst _) => (f s).bind fun p => match p.2[n]? with
    | some (.lst xs) => if xs.length < cap then some (.next (p.2.set n (.lst (xs ++ [p.1])))) else none
    | _ => none
  | _ => none := (rfl)
@[simp] theorem v_forD_nil {g : GF} {fb : SF} : forD g fb [] s = some (.next s) := (rfl)
theorem v_forD_cons {g : GF} {fb : SF} {xs : List D} : forD g fb (x :: xs) s = (g x s).bind fun s1 => (fb s1).bind fun fl => match fl with
    | .next s2 => forD g fb xs s2
    | .cont s2 => forD g fb xs s2
    | .brk s2 => some (.next s2)
    | .ret d s2 => some (.ret d s2) := (rfl)
/-! the same without a thing to be done under a binder: what is to be done next waits by its name -/
def kr (s : S) : Option D → Option (D × S)
  | some d => some (d, s)
  | none => none
def k1 (op : D → Option D) : Option (D × S) → Option (D × S)
  | some (d, s) => kr s (op d)
  | none => none
def k2b (op : D → D → Option D) (d : D) : Option (D × S) → Option (D × S)
  | some (d', s) => kr s (op d d')
  | none => none
def k2 (op : D → D → Option D) (g : EF) : Option (D × S) → Option (D × S)
  | some (d, s) => k2b op d (g s)
  | none => none
def kc2 (d : D) : Option (List D × S) → Option (List D × S)
  | some (ds, s) => some (d :: ds, s)
  | none => none
def kc (fa : AF) : Option (D × S) → Option (List D × S)
  | some (d, s) => kc2 d (fa s)
  | none => none
def kT : Option (List D × S) → Option (D × S)
  | some (ds, s) => if ds.length ≤ cap then some (.tup ds, s) else none
  | none => none
def kL : Option (List D × S) → Option (D × S)
  | some (ds, s) => if ds.length ≤ cap then some (.lst ds, s) else none
  | none => none
def kLn : Option (List D × S) → Option (List D × S)
  | some (ds, s) => if ds.length ≤ cap then some (ds, s) else none
  | none => none
def kLd : Option (List D × S) → Option (D × S)
  | some (ds, s) => some (.lst ds, s)
  | none => none
def kCat (xs : List D) : Option (D × S) → Option (D × S)
  | some (.lst ys, s) => if xs.length + ys.length ≤ cap then some (.lst (xs ++ ys), s) else none
  | _ => none
def kb (s : S) : Option Bool → Option (Bool × S)
  | some b => some (b, s)
  | none => none
def kB : Option (D × S) → Option (Bool × S)
  | some (d, s) => kb s (truth d)
  | none => none
def kAnd (u : BF) : Option (Bool × S) → Option (Bool × S)
  | some (b, s) => if b = true then u s else some (false, s)
  | none => none
def kOr (u : BF) : Option (Bool × S) → Option (Bool × S)
  | some (b, s) => if b = true then some (true, s) else u s
  | none => none
def kNot : Option (Bool × S) → Option (Bool × S)
  | some (b, s) => some (!b, s)
  | none => none
def kEand2 (g : EF) (d : D) (s : S) : Option Bool → Option (D × S)
  | some b => if b = true then g s else some (d, s)
  | none => none
def kEand (g : EF) : Option (D × S) → Option (D × S)
  | some (d, s) => kEand2 g d s (truth d)
  | none => none
def kEor2 (g : EF) (d : D) (s : S) : Option Bool → Option (D × S)
  | some b => if b = true then some (d, s) else g s
  | none => none
def kEor (g : EF) : Option (D × S) → Option (D × S)
  | some (d, s) => kEor2 g d s (truth d)
  | none => none
def kEnot2 (s : S) : Option Bool → Option (D × S)
  | some b => some (.bl (!b), s)
  | none => none
def kEnot : Option (D × S) → Option (D × S)
  | some (d, s) => kEnot2 s (truth d)
  | none => none
def kEif (f g : EF) : Option (Bool × S) → Option (D × S)
  | some (b, s) => if b = true then f s else g s
  | none => none
def kC3 (op' : D → D → Option D) (h : EF) (d' : D) (s : S) : Option D → Option (D × S)
  | some (.bl true) => k2b op' d' (h s)
  | some (.bl false) => some (.bl false, s)
  | _ => none
def kC2 (op op' : D → D → Option D) (h : EF) (d : D) : Option (D × S) → Option (D × S)
  | some (d', s) => kC3 op' h d' s (op d d')
  | none => none
def kC1 (op op' : D → D → Option D) (g h : EF) : Option (D × S) → Option (D × S)
  | some (d, s) => kC2 op op' h d (g s)
  | none => none
def kO : Option (D × S) → Option (Option Int × S)
  | some (.int i, s) => some (some i, s)
  | _ => none
def kCut3 (d : D) (i : Option Int) : Option (Option Int × S) → Option (D × S)
  | some (j, s) => kr s (dCut d i j)
  | none => none
def kCut2 (hi : S → Option (Option Int × S)) (d : D) : Option (Option Int × S) → Option (D × S)
  | some (i, s) => kCut3 d i (hi s)
  | none => none
def kCut (lo hi : S → Option (Option Int × S)) : Option (D × S) → Option (D × S)
  | some (d, s) => kCut2 hi d (lo s)
  | none => none
def kM (m : List D → Option D) : Option (List D × S) → Option (D × S)
  | some (ds, s) => kr s (m ds)
  | none => none
def kMn2 (s : S) : Option (List D) → Option (List D × S)
  | some ds => some (ds, s)
  | none => none
def kMn (m : List D → Option (List D)) : Option (List D × S) → Option (List D × S)
  | some (ds, s) => kMn2 s (m ds)
  | none => none
def kS (g : SF) : Option Fl → Option Fl
  | some (.next s) => g s
  | some (.ret r s) => some (.ret r s)
  | some (.brk s) => some (.brk s)
  | some (.cont s) => some (.cont s)
  | none => none
def kIf (f g : SF) : Option (Bool × S) → Option Fl
  | some (b, s) => if b = true then f s else g s
  | none => none
def kRet : Option (D × S) → Option Fl
  | some (d, s) => some (.ret (.d d) s)
  | none => none
def kRetN : Option (List D × S) → Option Fl
  | some (d, s) => some (.ret (.n d) s)
  | none => none
def kDrop : Option (D × S) → Option Fl
  | some (_, s) => some (.next s)
  | none => none
def kN : Option S → Option Fl
  | some s => some (.next s)
  | none => none
def kAs (g : GF) : Option (D × S) → Option Fl
  | some (d, s) => kN (g d s)
  | none => none
def kgs (r : List D → S → Option S) (ds : List D) : Option S → Option S
  | some s => r ds s
  | none => none
def kgIx (k : Nat) (x : D) : Option (D × S) → Option S
  | some (.int i, s) => match s[k]? with
    | some (.lst xs) => (ixN xs.length i).map fun j => s.set k (.lst (xs.set j x))
    | _ => none
  | _ => none
def kPar (n m : Nat) : Option (List D × S) → Option Fl
  | some ([v, w], s) => if n < s.length ∧ m < s.length then some (.next ((s.set n (.val v)).set m (.val w))) else none
  | _ => none
def kNew (n : Nat) : Option (List D × S) → Option Fl
  | some (ds, s) => if n < s.length then some (.next (s.set n (.lst ds))) else none
  | none => none
def kApp (n : Nat) : Option (D × S) → Option Fl
  | some (d, s) => match s[n]? with
    | some (.lst xs) => if xs.length < cap then some (.next (s.set n (.lst (xs ++ [d])))) else none
    | _ => none
  | none => none
def kFor (g : GF) (fb : SF) : Option (List D × S) → Option Fl
  | some (ds, s) => forD g fb ds s
  | none => none
def kItems (s : S) : Option (List D) → Option (List D × S)
  | some ds => some (ds, s)
  | none => none
def kSq : Option (D × S) → Option (List D × S)
  | some (d, s) => kItems s (items d)
  | none => none
def kLr (s : S) (own : List Nat) : Option (List D × S) → Option (List D × S)
  | some (ds, s') => some (ds, restS s s' own)
  | none => none
def kLc (own : List Nat) (g : GF) (ft : BF) (f : EF) : Option (List D × S) → Option (List D × S)
  | some (ds, s) => if plainS s own = true then kLr s own (lcD g ft f own ds (wipeS s own) []) else none
  | none => none
section
variable {op : D → Option D} {op2 op3 : D → D → Option D} {fs gs : SF} {s' : S} {d d' : D} {ds : List D} {lo hi : S → Option (Option Int × S)} {b : Bool} {ga : GF}
@[simp] theorem w_kr0 : kr s none = none := (rfl)
@[simp] theorem w_kr : kr s (some d) = some (d, s) := (rfl)
@[simp] theorem w_k1 : k1 op (some (d, s)) = kr s (op d) := (rfl)
@[simp] theorem w_k2b : k2b op2 d (some (d', s)) = kr s (op2 d d') := (rfl)
@[simp] theorem w_k2 : k2 op2 g (some (d, s)) = k2b op2 d (g s) := (rfl)
@[simp] theorem w_kc2 : kc2 d (some (ds, s)) = some (d :: ds, s) := (rfl)
@[simp] theorem w_kc : kc fa (some (d, s)) = kc2 d (fa s) := (rfl)
@[simp] theorem w_kT : kT (some (ds, s)) = if ds.length ≤ cap then some (.tup ds, s) else none := (rfl)
@[simp] theorem w_kL : kL (some (ds, s)) = if ds.length ≤ cap then some (.lst ds, s) else none := (rfl)
@[simp] theorem w_kLn : kLn (some (ds, s)) = if ds.length ≤ cap then some (ds, s) else none := (rfl)
@[simp] theorem w_kLd : kLd (some (ds, s)) = some (.lst ds, s) := (rfl)
@[simp] theorem w_kCat {xs ys : List D} : kCat xs (some (.lst ys, s)) = if xs.length + ys.length ≤ cap then some (.lst (xs ++ ys), s) else none := (rfl)
@[simp] theorem w_kb : kb s (some b) = some (b, s) := (rfl)
@[simp] theorem w_kB : kB (some (d, s)) = kb s (truth d) := (rfl)
@[simp] theorem w_kAnd : kAnd u (some (b, s)) = if b = true then u s else some (false, s) := (rfl)
@[simp] theorem w_kOr : kOr u (some (b, s)) = if b = true then some (true, s) else u s := (rfl)
@[simp] theorem w_kNot : kNot (some (b, s)) = some (!b, s) := (rfl)
@[simp] theorem w_kEand2 : kEand2 g d s (some b) = if b = true then g s else some (d, s) := (rfl)
@[simp] theorem w_kEand : kEand g (some (d, s)) = kEand2 g d s (truth d) := (rfl)
@[simp] theorem w_kEor2 : kEor2 g d s (some b) = if b = true then some (d, s) else g s := (rfl)
@[simp] theorem w_kEor : kEor g (some (d, s)) = kEor2 g d s (truth d) := (rfl)
@[simp] theorem w_kEnot2 : kEnot2 s (some b) = some (.bl (!b), s) := (rfl)
@[simp] theorem w_kEnot : kEnot (some (d, s)) = kEnot2 s (truth d) := (rfl)
@[simp] theorem w_kEif : kEif f g (some (b, s)) = if b = true then f s else g s := (rfl)
@[simp] theorem w_kC3t : kC3 op3 h d' s (some (.bl true)) = k2b op3 d' (h s) := (rfl)
@[simp] theorem w_kC3f : kC3 op3 h d' s (some (.bl false)) = some (.bl false, s) := (rfl)
@[simp] theorem w_kC2 : kC2 op2 op3 h d (some (d', s)) = kC3 op3 h d' s (op2 d d') := (rfl)
@[simp] theorem w_kC1 : kC1 op2 op3 g h (some (d, s)) = kC2 op2 op3 h d (g s) := (rfl)
@[simp] theorem w_kO : kO (some (.int i, s)) = some (some i, s) := (rfl)
@[simp] theorem w_kCut3 {i j : Option Int} : kCut3 d i (some (j, s)) = kr s (dCut d i j) := (rfl)
@[simp] theorem w_kCut2 {i : Option Int} : kCut2 hi d (some (i, s)) = kCut3 d i (hi s) := (rfl)
@[simp] theorem w_kCut : kCut lo hi (some (d, s)) = kCut2 hi d (lo s) := (rfl)
@[simp] theorem w_kM {m : List D → Option D} : kM m (some (ds, s)) = kr s (m ds) := (rfl)
@[simp] theorem w_kMn2 : kMn2 s (some ds) = some (ds, s) := (rfl)
@[simp] theorem w_kMn {m : List D → Option (List D)} : kMn m (some (ds, s)) = kMn2 s (m ds) := (rfl)
@[simp] theorem w_kSn : kS gs (some (.next s)) = gs s := (rfl)
@[simp] theorem w_kSr {r : Rt} : kS gs (some (.ret r s)) = some (.ret r s) := (rfl)
@[simp] theorem w_kSb : kS gs (some (.brk s)) = some (.brk s) := (rfl)
@[simp] theorem w_kSc : kS gs (some (.cont s)) = some (.cont s) := (rfl)
@[simp] theorem w_kIf : kIf fs gs (some (b, s)) = if b = true then fs s else gs s := (rfl)
@[simp] theorem w_kRet : kRet (some (d, s)) = some (.ret (.d d) s) := (rfl)
@[simp] theorem w_kRetN : kRetN (some (ds, s)) = some (.ret (.n ds) s) := (rfl)
@[simp] theorem w_kDrop : kDrop (some (d, s)) = some (.next s) := (rfl)
@[simp] theorem w_kN : kN (some s) = some (.next s) := (rfl)
@[simp] theorem w_kAs : kAs ga (some (d, s)) = kN (ga d s) := (rfl)
@[simp] theorem w_kgs {r : List D → S → Option S} : kgs r ds (some s) = r ds s := (rfl)
@[simp] theorem w_kgIx {k : Nat} : kgIx k x (some (.int i, s)) = match s[k]? with
    | some (.lst xs) => (ixN xs.length i).map fun j => s.set k (.lst (xs.set j x))
    | _ => none := (rfl)
@[simp] theorem w_kPar {n m : Nat} {v w : D} : kPar n m (some ([v, w], s)) = if n < s.length ∧ m < s.length then some (.next ((s.set n (.val v)).set m (.val w))) else none := (rfl)
@[simp] theorem w_kNew {n : Nat} : kNew n (some (ds, s)) = if n < s.length then some (.next (s.set n (.lst ds))) else none := (rfl)
@[simp] theorem w_kApp {n : Nat} : kApp n (some (d, s)) = match s[n]? with
    | some (.lst xs) => if xs.length < cap then some (.next (s.set n (.lst (xs ++ [d])))) else none
    | _ => none := (rfl)
@[simp] theorem w_kFor : kFor ga fs (some (ds, s)) = forD ga fs ds s := (rfl)
@[simp] theorem w_kItems : kItems s (some ds) = some (ds, s) := (rfl)
@[simp] theorem w_kSq : kSq (some (d, s)) = kItems s (items d) := (rfl)
@[simp] theorem w_kLr {own : List Nat} : kLr s own (some (ds, s')) = some (ds, restS s s' own) := (rfl)
@[simp] theorem w_kLc {own : List Nat} {ft : BF} : kLc own ga ft f (some (ds, s)) = if plainS s own = true then kLr s own (lcD ga ft f own ds (wipeS s own) []) else none := (rfl)
@[simp] theorem w_e1 : e1 op f s = k1 op (f s) := by rw [v_e1]; cases f s with
  | none => rfl
  | some p => cases h : op p.1 <;> simp [k1, h]
@[simp] theorem w_e2 : e2 op2 f g s = k2 op2 g (f s) := by rw [v_e2]; cases f s with
  | none => rfl
  | some p => cases h : g p.2 with
    | none => simp [k2, h, k2b]
    | some q =>
      obtain ⟨d', s2⟩ := q
      cases h2 : op2 p.1 d' <;> simp [k2, h, h2]
@[simp] theorem w_aCons : aCons f fa s = kc fa (f s) := by rw [v_aCons]; cases f s with
  | none => rfl
  | some p => cases h : fa p.2 <;> simp [kc, h, kc2]
@[simp] theorem w_eTup : eTup fa s = kT (fa s) := by rw [v_eTup]; cases fa s <;> rfl
@[simp] theorem w_eLst : eLst fa s = kL (fa s) := by rw [v_eLst]; cases fa s <;> rfl
@[simp] theorem w_nLst : nLst fa s = kLn (fa s) := by rw [v_nLst]; cases fa s <;> rfl
@[simp] theorem w_eCat {n : Nat} : eCat n f s = match s[n]? with
  | some (.lst xs) => kCat xs (f s)
  | _ => none := by
  rw [v_eCat]
  split
  · cases f s with
    | none => rfl
    | some p => obtain ⟨d, s'⟩ := p; cases d <;> rfl
  · rfl
@[simp] theorem w_bTst : bTst f s = kB (f s) := by rw [v_bTst]; cases f s with
  | none => rfl
  | some p => cases h : truth p.1 <;> simp [kB, h, kb]
@[simp] theorem w_bAnd : bAnd t u s = kAnd u (t s) := by rw [v_bAnd]; cases t s <;> rfl
@[simp] theorem w_bOr : bOr t u s = kOr u (t s) := by rw [v_bOr]; cases t s <;> rfl
@[simp] theorem w_bNot : bNot t s = kNot (t s) := by rw [v_bNot]; cases t s <;> rfl
@[simp] theorem w_eAnd : eAnd f g s = kEand g (f s) := by rw [v_eAnd]; cases f s with
  | none => rfl
  | some p => cases h : truth p.1 <;> simp [kEand, h, kEand2]
@[simp] theorem w_eOr : eOr f g s = kEor g (f s) := by rw [v_eOr]; cases f s with
  | none => rfl
  | some p => cases h : truth p.1 <;> simp [kEor, h, kEor2]
@[simp] theorem w_eNot : eNot f s = kEnot (f s) := by rw [v_eNot]; cases f s with
  | none => rfl
  | some p => cases h : truth p.1 <;> simp [kEnot, h, kEnot2]
@[simp] theorem w_eIf : eIf t f g s = kEif f g (t s) := by rw [v_eIf]; cases t s <;> rfl
@[simp] theorem w_eChain : eChain op2 op3 f g h s = kC1 op2 op3 g h (f s) := by
  rw [v_eChain]
  cases f s with
  | none => rfl
  | some p =>
    obtain ⟨d, s1⟩ := p
    cases h1 : g s1 with
    | none => simp [h1, kC2]
    | some q =>
      obtain ⟨d', s2⟩ := q
      cases h2 : op2 d d' with
      | none => simp [h1, h2, kC3]
      | some z =>
        cases z with
        | bl b =>
          cases b with
          | false => simp [h1, h2]
          | true => cases h3 : h s2 with
            | none => simp [h1, h2, h3, k2b]
            | some r => cases h4 : op3 d' r.1 <;> simp [h1, h2, h3, h4, k2b]
        | _ => simp [h1, h2, kC3]
@[simp] theorem w_oSome : oSome f s = kO (f s) := by rw [v_oSome]; cases f s with
  | none => rfl
  | some p => obtain ⟨d, s'⟩ := p; cases d <;> rfl
@[simp] theorem w_eCut : eCut f lo hi s = kCut lo hi (f s) := by rw [v_eCut]; cases f s with
  | none => rfl
  | some p =>
    cases h1 : lo p.2 with
    | none => simp [kCut, h1, kCut2]
    | some q =>
      obtain ⟨i, s2⟩ := q
      cases h2 : hi s2 with
      | none => simp [kCut, h1, h2, kCut3]
      | some r =>
        obtain ⟨j, s3⟩ := r
        cases h3 : dCut p.1 i j <;> simp [kCut, h1, h2, h3]
@[simp] theorem w_eCall {m : List D → Option D} : eCall m fa s = kM m (fa s) := by rw [v_eCall]; cases fa s with
  | none => rfl
  | some p => cases h : m p.1 <;> simp [kM, h]
@[simp] theorem w_nCall {m : List D → Option (List D)} : nCall m fa s = kMn m (fa s) := by rw [v_nCall]; cases fa s with
  | none => rfl
  | some p => cases h : m p.1 <;> simp [kMn, h, kMn2]
@[simp] theorem w_eOfN : eOfN fa s = kLd (fa s) := by rw [v_eOfN]; cases fa s <;> rfl
@[simp] theorem w_sSeq : sSeq fs gs s = kS gs (fs s) := by rw [v_sSeq]; cases fs s with
  | none => rfl
  | some p => cases p <;> rfl
@[simp] theorem w_sIf : sIf t fs gs s = kIf fs gs (t s) := by rw [v_sIf]; cases t s <;> rfl
@[simp] theorem w_sRet : sRet f s = kRet (f s) := by rw [v_sRet]; cases f s <;> rfl
@[simp] theorem w_sRetNew : sRetNew fa s = kRetN (fa s) := by rw [v_sRetNew]; cases fa s <;> rfl
@[simp] theorem w_sDrop : sDrop f s = kDrop (f s) := by rw [v_sDrop]; cases f s <;> rfl
@[simp] theorem w_sAsg : sAsg f ga s = kAs ga (f s) := by rw [v_sAsg]; cases f s with
  | none => rfl
  | some p => cases h : ga p.1 p.2 <;> simp [kAs, h, kN]
@[simp] theorem w_gsCons {r : List D → S → Option S} : gsCons ga r (x :: ds) s = kgs r ds (ga x s) := by rw [v_gsCons]; cases ga x s <;> rfl
@[simp] theorem w_gIx {k : Nat} : gIx k f x s = match s[k]? with
  | some (.lst _) => kgIx k x (f s)
  | _ => none := by
  rw [v_gIx]
  split
  · cases f s with
    | none => rfl
    | some p =>
      obtain ⟨d, s'⟩ := p
      simp only [Option.bind_some]
      cases d <;> first
        | rfl
        | (simp only [kgIx]
           cases s'[k]? with
           | none => rfl
           | some o => cases o <;> rfl)
  · rfl
@[simp] theorem w_sPar {n m : Nat} : sPar n m fa s = kPar n m (fa s) := by rw [v_sPar]; cases fa s with
  | none => rfl
  | some p => obtain ⟨ds, s'⟩ := p; rcases ds with _ | ⟨a, _ | ⟨b, _ | ⟨c, r⟩⟩⟩ <;> rfl
@[simp] theorem w_sNew {n : Nat} : sNew n fa s = kNew n (fa s) := by rw [v_sNew]; cases fa s <;> rfl
@[simp] theorem w_sApp {n : Nat} : sApp n f s = match s[n]? with
  | some (.lst _) => kApp n (f s)
  | _ => none := by
  rw [v_sApp]
  split
  · cases f s <;> rfl
  · rfl
@[simp] theorem w_sFor : sFor fa ga fs s = kFor ga fs (fa s) := by unfold sFor; cases fa s <;> rfl
@[simp] theorem w_iSeq : iSeq f s = kSq (f s) := by unfold iSeq; cases f s with
  | none => rfl
  | some p => cases h : items p.1 <;> simp [kSq, h, kItems]
@[simp] theorem w_aLc {own : List Nat} {ft : BF} : aLc own fa ga ft f s = kLc own ga ft f (fa s) := by unfold aLc; cases fa s with
  | none => rfl
  | some p =>
    simp only [Option.bind_some, kLc]
    split
    · cases lcD ga ft f own p.1 (wipeS p.2 own) [] <;> rfl
    · rfl
@[simp] theorem w_eLc {own : List Nat} {ft : BF} : eLc own fa ga ft f s = kLd (aLc own fa ga ft f s) := by unfold eLc; cases aLc own fa ga ft f s <;> rfl
end
theorem forD_inv {g : GF} {fb : SF} (I : S → Prop) : ∀ (xs : List D) (s : S), (∀ x ∈ xs, ∀ s, I s → ∃ s1 s2, g x s = some s1 ∧ fb s1 = some (.next s2) ∧ I s2) → I s → ∃ s', forD g fb xs s = some (.next s') ∧ I s'
  | [], s, _, i => ⟨s, rfl, i⟩
  | x :: xs, s, h, i => by
    obtain ⟨s1, s2, h1, h2, h3⟩ := h x (by simp) s i
    obtain ⟨s', h4, h5⟩ := forD_inv I xs s2 (fun y hy => h y (by simp [hy])) h3
    exact ⟨s', by rw [v_forD_cons, h1, Option.bind_some, h2]; exact h4, h5⟩
theorem v_sFor {g : GF} {fb : SF} : sFor fa g fb s = (fa s).bind fun p => forD g fb p.1 p.2 := rfl
theorem v_iSeq : iSeq f s = (f s).bind fun p => (items p.1).map fun xs => (xs, p.2) := rfl
theorem lcD_fm {α : Type} {g : GF} {ft : BF} {fe : EF} {own : List Nat} {s : S} (f : α → D) (e : α → Option D) : ∀ (l : List α) (acc : List D),
    (∀ a ∈ l, ∃ s1 k s2, g (f a) s = some s1 ∧ ft s1 = some (k, s2) ∧ if k = true then ∃ d s3, fe s2 = some (d, s3) ∧ e a = some d ∧ wipeS s3 own = s else e a = none ∧ wipeS s2 own = s) → acc.length + l.length ≤ cap →
    lcD g ft fe own (l.map f) s acc = some (acc ++ l.filterMap e, s)
  | [], acc, _, _ => by simp [lcD]
  | a :: l, acc, h, hl => by
    obtain ⟨s1, k, s2, h1, h2, h3⟩ := h a (by simp)
    have hl2 : acc.length + (l.length + 1) ≤ cap := hl
    cases k with
    | true =>
      simp only [if_true] at h3
      obtain ⟨d, s3, h4, h5, h6⟩ := h3
      have := lcD_fm (g := g) (ft := ft) (fe := fe) (own := own) (s := s) f e l (acc ++ [d]) (fun b hb => h b (by simp [hb])) (by simp; omega)
      simp only [List.map_cons, lcD, h1, Option.bind_some, h2, if_true, h4, h6, this]
      rw [if_pos (by omega)]
      simp [h5]
    | false =>
      simp only [Bool.false_eq_true, if_false] at h3
      have := lcD_fm (g := g) (ft := ft) (fe := fe) (own := own) (s := s) f e l acc (fun b hb => h b (by simp [hb])) (by omega)
      simp only [List.map_cons, lcD, h1, Option.bind_some, h2, Bool.false_eq_true, if_false, h3.2, this]
      simp [h3.1]
theorem lcD_map {α : Type} {g : GF} {fe : EF} {own : List Nat} {s : S} (f : α → D) (e : α → D) (l : List α)
    (h : ∀ a ∈ l, ∃ s1 s3, g (f a) s = some s1 ∧ fe s1 = some (e a, s3) ∧ wipeS s3 own = s) (hl : l.length ≤ cap) :
    lcD g bYes fe own (l.map f) s [] = some (l.map e, s) := by
  rw [lcD_fm f (fun a => some (e a)) l [] (fun a ha => ?_) (by simpa using hl)]
  · simp
  · obtain ⟨s1, s3, h1, h2, h3⟩ := h a ha
    exact ⟨s1, true, s1, h1, rfl, by simp only [if_true]; exact ⟨_, s3, h2, rfl, h3⟩⟩
theorem v_aLc {own : List Nat} {g : GF} {ft : BF} : aLc own fa g ft f s = (fa s).bind fun p => if plainS p.2 own = true then (lcD g ft f own p.1 (wipeS p.2 own) []).map fun q => (q.1, restS p.2 q.2 own) else none := rfl
theorem v_eLc {own : List Nat} {g : GF} {ft : BF} : eLc own fa g ft f s = (aLc own fa g ft f s).map fun p => (.lst p.1, p.2) := rfl
@[simp] theorem v_wipe0 : wipeS s [] = s := (rfl)
@[simp] theorem v_wipe1 {v : Nat} {vs : List Nat} : wipeS s (v :: vs) = (wipeS s vs).set v .un := (rfl)
@[simp] theorem v_rest0 {s0 : S} : restS s0 s [] = s := (rfl)
@[simp] theorem v_rest1 {s0 : S} {v : Nat} {vs : List Nat} : restS s0 s (v :: vs) = match s0[v]? with
    | some (.val d) => (restS s0 s vs).set v (.val d)
    | _ => restS s0 s vs := (rfl)
@[simp] theorem v_plain0 : plainS s [] = true := (rfl)
@[simp] theorem v_plain1 {v : Nat} {vs : List Nat} : plainS s (v :: vs) = ((match s[v]? with
  | some o => plainO o
  | none => true) && plainS s vs) := (rfl)
@[simp] theorem v_plUn : plainO .un = true := (rfl)
@[simp] theorem v_plVal {d : D} : plainO (.val d) = true := (rfl)
@[simp] theorem v_itT {xs : List D} : items (.tup xs) = some xs := (rfl)
@[simp] theorem v_itL {xs : List D} : items (.lst xs) = some xs := (rfl)
theorem boolsD_map {α : Type} (e : α → Bool) : ∀ l : List α, boolsD (l.map fun a => .bl (e a)) = some (l.map e)
  | [] => rfl
  | a :: l => by simp [boolsD, boolsD_map e l]
theorem intsD_map {α : Type} (e : α → Int) : ∀ l : List α, intsD (l.map fun a => .int (e a)) = some (l.map e)
  | [] => rfl
  | a :: l => by simp [intsD, intsD_map e l]
theorem strsD_map {α : Type} (e : α → Str) : ∀ l : List α, strsD (l.map fun a => .str (e a)) = some (l.map e)
  | [] => rfl
  | a :: l => by simp [strsD, strsD_map e l]
theorem v_atN {xs : List D} {n : Nat} : atI xs (n : Int) = xs[n]? := by
  unfold atI ixN
  rw [if_pos (by omega)]
  by_cases h : (n : Int) < (xs.length : Nat)
  · rw [if_pos h]; simp
  · rw [if_neg h]
    have : xs[n]? = none := List.getElem?_eq_none (by omega)
    simp [this]
theorem v_dIxT {xs : List D} {n : Nat} : dIx (.tup xs) (.int (n : Int)) = xs[n]? := v_atN
theorem v_dIxL {xs : List D} {n : Nat} : dIx (.lst xs) (.int (n : Int)) = xs[n]? := v_atN
@[simp] theorem v_ixt {xs : List D} {z : D} : dIx (.tup (z :: xs)) (.int 0) = some z := v_dIxT (n := 0)
@[simp] theorem v_ixt1 {xs : List D} {z z' : D} : dIx (.tup (z' :: z :: xs)) (.int 1) = some z := v_dIxT (n := 1)
@[simp] theorem v_ixt2 {xs : List D} {z z' z'' : D} : dIx (.tup (z'' :: z' :: z :: xs)) (.int 2) = some z := v_dIxT (n := 2)
@[simp] theorem v_ixl {xs : List D} {z : D} : dIx (.lst (z :: xs)) (.int 0) = some z := v_dIxL (n := 0)
@[simp] theorem v_ixl1 {xs : List D} {z z' : D} : dIx (.lst (z' :: z :: xs)) (.int 1) = some z := v_dIxL (n := 1)
@[simp] theorem v_ixl2 {xs : List D} {z z' z'' : D} : dIx (.lst (z'' :: z' :: z :: xs)) (.int 2) = some z := v_dIxL (n := 2)
@[simp] theorem v_addI : dAdd (.int i) (.int j) = some (.int (i + j)) := (rfl)
@[simp] theorem v_addL : dAddL (.int i) (.int j) = some (.int (i + j)) := (rfl)
@[simp] theorem v_subI : dSub (.int i) (.int j) = some (.int (i - j)) := (rfl)
@[simp] theorem v_ltI : dLt (.int i) (.int j) = some (.bl (decide (i < j))) := (rfl)
@[simp] theorem v_leI : dLe (.int i) (.int j) = some (.bl (decide (i ≤ j))) := (rfl)
@[simp] theorem v_gtI : dGt (.int i) (.int j) = some (.bl (decide (j < i))) := (rfl)
@[simp] theorem v_geI : dGe (.int i) (.int j) = some (.bl (decide (j ≤ i))) := (rfl)
@[simp] theorem v_negI : dNeg (.int i) = some (.int (-i)) := (rfl)
@[simp] theorem v_tN : truth .non = some false := (rfl)
@[simp] theorem v_tB {b : Bool} : truth (.bl b) = some b := (rfl)
@[simp] theorem v_tI : truth (.int i) = some (i != 0) := (rfl)
@[simp] theorem v_tT {xs : List D} : truth (.tup xs) = some (!xs.isEmpty) := (rfl)
@[simp] theorem v_tL {xs : List D} : truth (.lst xs) = some (!xs.isEmpty) := (rfl)
@[simp] theorem v_okN {n : Nat} : okD n .non = true := by cases n <;> rfl
@[simp] theorem v_okB {n : Nat} {b : Bool} : okD n (.bl b) = true := by cases n <;> rfl
@[simp] theorem v_okI {n : Nat} : okD n (.int i) = true := by cases n <;> rfl
@[simp] theorem v_eqI : dEq (.int i) (.int j) = some (.bl (decide (i = j))) := by simp [dEq, eqD, toPy]; rfl
@[simp] theorem v_neI : dNe (.int i) (.int j) = some (.bl (decide (i ≠ j))) := by simp [dNe, eqD, toPy]; rfl
theorem bnd {k : Nat} (h : k ≤ 1000) : -bigI ≤ (k : Int) ∧ (k : Int) ≤ bigI := by
  have : bigI = 1000000000 := rfl
  omega
theorem rng2_ok (i j : Nat) (hi : i ≤ 1000) (hj : j ≤ 1000) {fa : AF} {s s' : S} (h : fa s = some ([.int (i : Int), .int (j : Int)], s')) : DL.iRng2 fa s = some (rangeD (i : Int) (j - i), s') := by
  have b1 := bnd hi
  have b2 := bnd hj
  have e : ((j : Int) - (i : Int)).toNat = j - i := by omega
  simp only [DL.iRng2, h, Option.bind_some]
  rw [if_pos ⟨b1.1, b1.2, b2.1, b2.2⟩, e]
theorem rng1_ok (j : Nat) (hj : j ≤ 1000) {fa : AF} {s s' : S} (h : fa s = some ([.int (j : Int)], s')) : DL.iRng1 fa s = some (rangeD 0 j, s') := by
  have b2 := bnd hj
  have e : (j : Int).toNat = j := by omega
  simp only [DL.iRng1, h, Option.bind_some]
  rw [if_pos ⟨b2.1, b2.2⟩, e]
theorem rangeD_succ (p m : Nat) : rangeD (p : Int) (m + 1) = .int (p : Int) :: rangeD ((p + 1 : Nat) : Int) m := by
  unfold rangeD
  rw [List.range_succ_eq_map, List.map_cons, List.map_map]
  refine congr (congrArg List.cons ?_) (List.map_congr_left fun i _ => ?_)
  · simp
  · simp only [Function.comp]
    congr 1
    omega
theorem rangeD_zero (p : Int) : rangeD p 0 = [] := rfl
end
end DL
set_option exponentiation.threshold 10000
/-! ### numbers: the program's pairs are the rational numbers -/
namespace DL
open PySem PySem.Spec PyProof.Rows L2
def numD (q : Rat) : D := .tup [.int q.num, .int q.den]
theorem numD_inj {p q : Rat} : numD p = numD q ↔ p = q := ⟨fun h => by
  simp only [numD, D.tup.injEq, List.cons.injEq, D.int.injEq, and_true] at h
  exact Rat.ext h.1 (by omega), fun h => h ▸ rfl⟩
@[simp] theorem ok_numD {q : Rat} {n : Nat} : okD (n + 1) (numD q) = true := by simp [numD, okD, okL]
theorem eqD_numD {p q : Rat} : eqD (numD p) (numD q) = decide (p = q) := by
  simp only [eqD, numD, toPy, toPyL, PyData.eqv, PyData.eqvAll]
  rw [Bool.eq_iff_iff]
  simp only [Bool.and_true, Bool.and_eq_true, beq_iff_eq, decide_eq_true_eq]
  exact ⟨fun h => Rat.ext h.1 (by omega), fun h => h ▸ ⟨rfl, rfl⟩⟩
@[simp] theorem dEq_numD {p q : Rat} : dEq (numD p) (numD q) = some (.bl (decide (p = q))) := by simp [dEq, eqD_numD]
@[simp] theorem dNe_numD {p q : Rat} : dNe (numD p) (numD q) = some (.bl (decide (p ≠ q))) := by simp [dNe, eqD_numD]
/-- small tops and bottoms -/
def Sz (n : Nat) (q : Rat) : Prop := q.num.natAbs < 2 ^ n ∧ q.den < 2 ^ n
theorem Sz.mono {n m : Nat} {q : Rat} (h : Sz n q) (l : n ≤ m) : Sz m q := ⟨Nat.lt_of_lt_of_le h.1 (Nat.pow_le_pow_right (by decide) l), Nat.lt_of_lt_of_le h.2 (Nat.pow_le_pow_right (by decide) l)⟩
theorem Sz.divInt {t b : Int} {n : Nat} (h : t.natAbs < 2 ^ n) (h1 : b.natAbs < 2 ^ n) (n0 : 0 < n) : Sz n (Rat.divInt t b) := by
  constructor
  · rw [Rat.num_divInt]
    refine Nat.lt_of_le_of_lt ?_ h
    rw [Int.natAbs_ediv_of_dvd (Int.dvd_trans (Int.gcd_dvd_right ..) (Int.dvd_mul_left ..)), Int.natAbs_mul]
    refine Nat.le_trans (Nat.div_le_self _ _) ?_
    have : b.sign.natAbs ≤ 1 := by rw [Int.natAbs_sign]; split <;> omega
    exact Nat.le_trans (Nat.mul_le_mul_right _ this) (by omega)
  · rw [Rat.den_divInt]
    split
    · exact Nat.one_lt_two_pow (by omega)
    · exact Nat.lt_of_le_of_lt (Nat.div_le_self _ _) h1
theorem lt2_mul {a b n m : Nat} (h : a < 2 ^ n) (h1 : b < 2 ^ m) : a * b < 2 ^ (n + m) := by
  rw [Nat.pow_add]
  exact Nat.mul_lt_mul'' h h1
theorem Rat.add_divInt' (p q : Rat) : p + q = Rat.divInt (p.num * q.den + q.num * p.den) (p.den * q.den) := by
  have h := Rat.divInt_add_divInt p.num q.num (d₁ := p.den) (d₂ := q.den) (by have := p.den_nz; omega) (by have := q.den_nz; omega)
  rwa [Rat.num_divInt_den, Rat.num_divInt_den] at h
theorem Rat.mul_divInt' (p q : Rat) : p * q = Rat.divInt (p.num * q.num) (p.den * q.den) := by
  have h := Rat.divInt_mul_divInt p.num q.num (d₁ := p.den) (d₂ := q.den)
  rwa [Rat.num_divInt_den, Rat.num_divInt_den] at h
theorem Rat.sub_divInt' (p q : Rat) : p - q = Rat.divInt (p.num * q.den - q.num * p.den) (p.den * q.den) := by
  rw [Rat.sub_eq_add_neg, Rat.add_divInt', show (-q).num = -q.num from rfl, show (-q).den = q.den from rfl]
  congr 1
  rw [Int.neg_mul]; rfl
theorem Sz.addn {n m k : Nat} {p q : Rat} (h : Sz n p) (h1 : Sz m q) (l : n + m + 1 ≤ k) : Sz k (p + q) := by
  refine Sz.mono (n := n + m + 1) ?_ l
  rw [Rat.add_divInt']
  have a := lt2_mul h.1 h1.2
  have b := lt2_mul h1.1 h.2
  have d := lt2_mul h.2 h1.2
  rw [Nat.add_comm m n] at b
  refine .divInt ?_ ?_ (by omega)
  · rw [Nat.pow_succ]
    have := Int.natAbs_add_le (p.num * q.den) (q.num * p.den)
    simp only [Int.natAbs_mul, Int.natAbs_natCast] at this
    omega
  · rw [Nat.pow_succ]
    simp only [Int.natAbs_mul, Int.natAbs_natCast]
    omega
theorem Sz.neg {n : Nat} {p : Rat} (h : Sz n p) : Sz n (-p) := ⟨by rw [show (-p).num = -p.num from rfl, Int.natAbs_neg]; exact h.1, h.2⟩
theorem Sz.subn {n m k : Nat} {p q : Rat} (h : Sz n p) (h1 : Sz m q) (l : n + m + 1 ≤ k) : Sz k (p - q) := by
  rw [Rat.sub_eq_add_neg]
  exact h.addn h1.neg l
theorem Sz.muln {n m k : Nat} {p q : Rat} (h : Sz n p) (h1 : Sz m q) (l : n + m + 1 ≤ k) : Sz k (p * q) := by
  refine Sz.mono (n := n + m + 1) ?_ l
  rw [Rat.mul_divInt']
  have a := lt2_mul h.1 h1.1
  have d := lt2_mul h.2 h1.2
  refine .divInt ?_ ?_ (by omega)
  · rw [Nat.pow_succ, Int.natAbs_mul]
    omega
  · rw [Nat.pow_succ]
    simp only [Int.natAbs_mul, Int.natAbs_natCast]
    omega
theorem Rat.div_divInt' (p q : Rat) (h : q ≠ 0) : p / q = Rat.divInt (p.num * q.den) (p.den * q.num) := by
  have hq : q = Rat.divInt q.num q.den := (Rat.num_divInt_den q).symm
  have hp : p = Rat.divInt p.num p.den := (Rat.num_divInt_den p).symm
  have n1 : (q.num : Rat) ≠ 0 := by
    intro z
    have : q.num = 0 := by exact_mod_cast z
    exact h (Rat.num_eq_zero.mp this)
  have n2 : ((q.den : Int) : Rat) ≠ 0 := by
    intro z
    have : (q.den : Int) = 0 := by exact_mod_cast z
    have := q.den_nz
    omega
  have n3 : ((p.den : Int) : Rat) ≠ 0 := by
    intro z
    have : (p.den : Int) = 0 := by exact_mod_cast z
    have := p.den_nz
    omega
  rw [Rat.divInt_eq_div] at hq hp ⊢
  rw [Rat.intCast_mul, Rat.intCast_mul]
  generalize (q.num : Rat) = qn at *
  generalize ((q.den : Int) : Rat) = qd at *
  generalize (p.num : Rat) = pn at *
  generalize ((p.den : Int) : Rat) = pd at *
  rw [hp, hq]
  grind
theorem Sz.divn {n m k : Nat} {p q : Rat} (h : Sz n p) (h1 : Sz m q) (z : q ≠ 0) (l : n + m + 1 ≤ k) : Sz k (p / q) := by
  refine Sz.mono (n := n + m + 1) ?_ l
  rw [Rat.div_divInt' _ _ z]
  have a := lt2_mul h.1 h1.2
  have d := lt2_mul h.2 h1.1
  refine .divInt ?_ ?_ (by omega)
  · rw [Nat.pow_succ]
    simp only [Int.natAbs_mul, Int.natAbs_natCast]
    omega
  · rw [Nat.pow_succ]
    simp only [Int.natAbs_mul, Int.natAbs_natCast]
    omega
theorem log2_of {a n : Nat} (h : a < 2 ^ n) (n0 : 0 < n) : a.log2 < n := by
  by_cases z : a = 0
  · subst z; simpa using n0
  · exact (Nat.log2_lt z).mpr h
end DL
set_option exponentiation.threshold 10000
/-! ### more of reckoning with the functions: lent things, loops by invariants -/
namespace DL
open PySem PySem.Spec PyProof.Rows L2
def kao (i : Nat) : Option (List Arg × S) → Option (List Arg × S)
  | some (as, s) => some (.own i :: as, s)
  | none => none
def kav2 (d : D) : Option (List Arg × S) → Option (List Arg × S)
  | some (as, s) => some (.val d :: as, s)
  | none => none
def kav (fo : AOF) : Option (D × S) → Option (List Arg × S)
  | some (d, s) => kav2 d (fo s)
  | none => none
def kan2 (ds : List D) : Option (List Arg × S) → Option (List Arg × S)
  | some (as, s) => some (.new ds :: as, s)
  | none => none
def kan (fo : AOF) : Option (List D × S) → Option (List Arg × S)
  | some (d, s) => kan2 d (fo s)
  | none => none
def kCo4 (d : D) : Option S → Option (D × S)
  | some s => some (d, s)
  | none => none
def kCo3 (as : List Arg) (s : S) : Option (D × List O) → Option (D × S)
  | some (d, os) => kCo4 d (putO s as os)
  | none => none
def kCo2 (m : List O → Option (D × List O)) (as : List Arg) : Option (List O × S) → Option (D × S)
  | some (os, s) => kCo3 as s (m os)
  | none => none
def kCo (m : List O → Option (D × List O)) : Option (List Arg × S) → Option (D × S)
  | some (as, s) => kCo2 m as (takeO s as)
  | none => none
def kBor (s : S) : Option (D × S) → Option (D × S)
  | some (d, _) => if noL d = true then some (d, s) else none
  | none => none
def kbB (s : S) : Option (Bool × S) → Option (Bool × S)
  | some (b, _) => some (b, s)
  | none => none
def kList : Option (List D × S) → Option (List D × S)
  | some ([.lst xs], s) => some (xs, s)
  | some ([.tup xs], s) => some (xs, s)
  | _ => none
def kExt (n : Nat) : Option (List D × S) → Option Fl
  | some (ds, s) => match s[n]? with
    | some (.lst xs) => if xs.length + ds.length ≤ cap then some (.next (s.set n (.lst (xs ++ ds)))) else none
    | _ => none
  | none => none
def kZip : Option (List D × S) → Option (List D × S)
  | some ([.lst xs, .lst ys], s) => some (zipD xs ys, s)
  | some ([.tup xs, .tup ys], s) => some (zipD xs ys, s)
  | _ => none
def kCO2 (xs : List D) (i : Option Int) : Option (Option Int × S) → Option (D × S)
  | some (j, s) => some (.lst (DL.cutD xs i j), s)
  | none => none
def kCO (xs : List D) (hi : S → Option (Option Int × S)) : Option (Option Int × S) → Option (D × S)
  | some (i, s) => kCO2 xs i (hi s)
  | none => none
def kFld (k i : Nat) (n : Str) : Option (D × S) → Option Fl
  | some (d, s) => match s[i]? with
    | some (.obj k' fs) => if k' = k ∧ fs.length < 1000 then some (.next (s.set i (.obj k (putFO n (.val d) fs)))) else none
    | _ => none
  | none => none
def kMk2 (k i : Nat) (s : S) : Option (D × List O) → Option Fl
  | some (.non, .obj k' fs :: _) => if k' = k ∧ i < s.length then some (.next (s.set i (.obj k fs))) else none
  | _ => none
def kMk (k i : Nat) (m : List O → Option (D × List O)) : Option (List D × S) → Option Fl
  | some (ds, s) => kMk2 k i s (m (.obj k [] :: ds.map .val))
  | none => none
def kNc2 (xs : List D) : Option (D × S) → Option (List D × S)
  | some (.lst ys, s) => if xs.length + ys.length ≤ cap then some (xs ++ ys, s) else none
  | _ => none
def kNc (g : EF) : Option (D × S) → Option (List D × S)
  | some (.lst xs, s) => kNc2 xs (g s)
  | _ => none
section
variable {s : S} {f g h : EF} {fa : AF} {fo : AOF} {t u : BF} {x y d : D} {i j : Int} {as : List Arg} {ds : List D}
@[simp] theorem w_kNc2 {xs ys : List D} : kNc2 xs (some (.lst ys, s)) = if xs.length + ys.length ≤ cap then some (xs ++ ys, s) else none := (rfl)
@[simp] theorem w_kNc {xs : List D} : kNc g (some (.lst xs, s)) = kNc2 xs (g s) := (rfl)
@[simp] theorem w_nCat : nCat f g s = kNc g (f s) := by
  unfold nCat
  cases f s with
  | none => rfl
  | some p =>
    obtain ⟨d, s1⟩ := p
    simp only [Option.bind_some]
    cases d <;> simp only [kNc] <;> cases g s1 with
    | none => rfl
    | some q => obtain ⟨d2, s2⟩ := q; cases d2 <;> rfl
@[simp] theorem w_kao {i : Nat} : kao i (some (as, s)) = some (.own i :: as, s) := (rfl)
@[simp] theorem w_kav2 : kav2 d (some (as, s)) = some (.val d :: as, s) := (rfl)
@[simp] theorem w_kav : kav fo (some (d, s)) = kav2 d (fo s) := (rfl)
@[simp] theorem w_kan2 : kan2 ds (some (as, s)) = some (.new ds :: as, s) := (rfl)
@[simp] theorem w_kan : kan fo (some (ds, s)) = kan2 ds (fo s) := (rfl)
@[simp] theorem w_kCo4 : kCo4 d (some s) = some (d, s) := (rfl)
@[simp] theorem w_kCo3 {os : List O} : kCo3 as s (some (d, os)) = kCo4 d (putO s as os) := (rfl)
@[simp] theorem w_kCo2 {m : List O → Option (D × List O)} {os : List O} : kCo2 m as (some (os, s)) = kCo3 as s (m os) := (rfl)
@[simp] theorem w_kCo {m : List O → Option (D × List O)} : kCo m (some (as, s)) = kCo2 m as (takeO s as) := (rfl)
@[simp] theorem w_kBor {s2 : S} : kBor s (some (d, s2)) = if noL d = true then some (d, s) else none := (rfl)
@[simp] theorem w_kbB {b : Bool} {s2 : S} : kbB s (some (b, s2)) = some (b, s) := (rfl)
@[simp] theorem w_kListL {xs : List D} : kList (some ([.lst xs], s)) = some (xs, s) := (rfl)
@[simp] theorem w_kListT {xs : List D} : kList (some ([.tup xs], s)) = some (xs, s) := (rfl)
@[simp] theorem w_kExt {n : Nat} : kExt n (some (ds, s)) = match s[n]? with
    | some (.lst xs) => if xs.length + ds.length ≤ cap then some (.next (s.set n (.lst (xs ++ ds)))) else none
    | _ => none := (rfl)
@[simp] theorem w_kZipL {xs ys : List D} : kZip (some ([.lst xs, .lst ys], s)) = some (zipD xs ys, s) := (rfl)
@[simp] theorem w_kZipT {xs ys : List D} : kZip (some ([.tup xs, .tup ys], s)) = some (zipD xs ys, s) := (rfl)
@[simp] theorem w_kCO2 {xs : List D} {i j : Option Int} : kCO2 xs i (some (j, s)) = some (.lst (DL.cutD xs i j), s) := (rfl)
@[simp] theorem w_kCO {xs : List D} {i : Option Int} {hi : S → Option (Option Int × S)} : kCO xs hi (some (i, s)) = kCO2 xs i (hi s) := (rfl)
@[simp] theorem w_kFld {k i : Nat} {n : Str} : kFld k i n (some (d, s)) = match s[i]? with
    | some (.obj k' fs) => if k' = k ∧ fs.length < 1000 then some (.next (s.set i (.obj k (putFO n (.val d) fs)))) else none
    | _ => none := (rfl)
@[simp] theorem w_kMk2 {k i k' : Nat} {fs : List (Str × O)} {r : List O} : kMk2 k i s (some (.non, .obj k' fs :: r)) = if k' = k ∧ i < s.length then some (.next (s.set i (.obj k fs))) else none := (rfl)
@[simp] theorem w_kMk {k i : Nat} {m : List O → Option (D × List O)} : kMk k i m (some (ds, s)) = kMk2 k i s (m (.obj k [] :: ds.map .val)) := (rfl)
@[simp] theorem v_aoNil : aoNil s = some ([], s) := (rfl)
@[simp] theorem w_aoOwn {i : Nat} : aoOwn i fo s = match s[i]? with
  | some o => if isUn o = true then none else kao i (fo s)
  | none => none := by
  unfold aoOwn
  cases s[i]? with
  | none => rfl
  | some o => cases isUn o <;> cases fo s <;> rfl
@[simp] theorem w_aoVal : aoVal f fo s = kav fo (f s) := by unfold aoVal; cases f s with
  | none => rfl
  | some p => cases h : fo p.2 <;> simp [kav, h, kav2]
@[simp] theorem w_aoNew : aoNew fa fo s = kan fo (fa s) := by unfold aoNew; cases fa s with
  | none => rfl
  | some p => cases h : fo p.2 <;> simp [kan, h, kan2]
@[simp] theorem v_takeNil : takeO s [] = some ([], s) := by unfold takeO; rfl
@[simp] theorem v_takeVal {d : D} {r : List Arg} : takeO s (.val d :: r) = (takeO s r).map fun p => (.val d :: p.1, p.2) := by rw [takeO]
@[simp] theorem v_takeNew {xs : List D} {r : List Arg} : takeO s (.new xs :: r) = (takeO s r).map fun p => (.lst xs :: p.1, p.2) := by rw [takeO]
@[simp] theorem v_takeOwn {i : Nat} {r : List Arg} : takeO s (.own i :: r) = match s[i]? with
    | some o => if isUn o = true then none else (takeO (s.set i .un) r).map fun p => (o :: p.1, p.2)
    | none => none := by first | (rw [takeO]; done) | (rw [takeO]; rfl)
@[simp] theorem v_putNil : putO s [] [] = some s := by unfold putO; rfl
@[simp] theorem v_putVal {d : D} {r : List Arg} {o : O} {os : List O} : putO s (.val d :: r) (o :: os) = if isUn o = true then putO s r os else none := by rw [putO]
@[simp] theorem v_putNew {xs : List D} {r : List Arg} {o : O} {os : List O} : putO s (.new xs :: r) (o :: os) = putO s r os := by rw [putO]
@[simp] theorem v_putOwn {i : Nat} {r : List Arg} {o : O} {os : List O} : putO s (.own i :: r) (o :: os) = if isUn o = true then putO s r os else match s[i]? with
    | some .un => putO (s.set i o) r os
    | _ => none := by first | (rw [putO]; done) | (rw [putO]; rfl)
@[simp] theorem v_isUn0 : isUn .un = true := (rfl)
@[simp] theorem v_isUn1 {d : D} : isUn (.val d) = false := (rfl)
@[simp] theorem v_isUn2 {xs : List D} : isUn (.lst xs) = false := (rfl)
@[simp] theorem v_isUn3 {c : Nat} {fs : List (Str × O)} : isUn (.obj c fs) = false := (rfl)
@[simp] theorem w_eCallO {m : List O → Option (D × List O)} : eCallO m fo s = kCo m (fo s) := by
  unfold eCallO
  cases fo s with
  | none => rfl
  | some p =>
    obtain ⟨as, s1⟩ := p
    simp only [Option.bind_some, kCo]
    cases takeO s1 as with
    | none => rfl
    | some q =>
      obtain ⟨os, s2⟩ := q
      simp only [Option.bind_some, kCo2]
      cases m os with
      | none => rfl
      | some r =>
        obtain ⟨d, os2⟩ := r
        simp only [Option.bind_some, kCo3]
        cases putO s2 as os2 <;> rfl
@[simp] theorem v_eFrz {n : Nat} : eFrz n s = match s[n]? with
  | some (.lst xs) => some (.lst xs, s.set n (.val (.lst xs)))
  | some (.val d) => some (d, s)
  | _ => none := (rfl)
@[simp] theorem w_eBor {n : Nat} : eBor n f s = match s[n]? with
  | some (.lst xs) => kBor s (f (s.set n (.val (.lst xs))))
  | _ => f s := by
  unfold eBor
  cases s[n]? with
  | none => rfl
  | some o => cases o with
    | lst xs => simp only []; cases f (s.set n (.val (.lst xs))) <;> rfl
    | _ => rfl
@[simp] theorem w_bBor {n : Nat} : bBor n t s = match s[n]? with
  | some (.lst xs) => kbB s (t (s.set n (.val (.lst xs))))
  | _ => t s := by
  unfold bBor
  cases s[n]? with
  | none => rfl
  | some o => cases o with
    | lst xs => simp only []; cases t (s.set n (.val (.lst xs))) <;> rfl
    | _ => rfl
@[simp] theorem v_sRetOwn {n : Nat} : sRetOwn n s = match s[n]? with
  | some (.lst xs) => some (.ret (.n xs) (s.set n .un))
  | _ => none := (rfl)
theorem v_nList : nList fa s = (fa s).bind fun p => match p.1 with
  | [.lst xs] => some (xs, p.2)
  | [.tup xs] => some (xs, p.2)
  | _ => none := (rfl)
@[simp] theorem w_nList : nList fa s = kList (fa s) := by
  unfold nList
  cases fa s with
  | none => rfl
  | some p =>
    obtain ⟨ds, s1⟩ := p
    rcases ds with _ | ⟨a, _ | ⟨b, r⟩⟩
    · rfl
    · cases a <;> rfl
    · cases a <;> rfl
@[simp] theorem w_sExt {n : Nat} : sExt n fa s = match s[n]? with
  | some (.lst _) => kExt n (fa s)
  | _ => none := by
  unfold sExt
  cases s[n]? with
  | none => rfl
  | some o => cases o with
    | lst xs => simp only []; cases fa s <;> rfl
    | _ => rfl
@[simp] theorem w_iZip : iZip fa s = kZip (fa s) := by
  unfold iZip
  cases fa s with
  | none => rfl
  | some p =>
    obtain ⟨ds, s1⟩ := p
    rcases ds with _ | ⟨a, _ | ⟨b, _ | ⟨c, r⟩⟩⟩
    · rfl
    · cases a <;> rfl
    · cases a <;> cases b <;> rfl
    · cases a <;> cases b <;> rfl
@[simp] theorem v_addLL {xs ys : List D} : dAddL (.lst xs) (.lst ys) = if xs.length + ys.length ≤ cap then some (.lst (xs ++ ys)) else none := (rfl)
@[simp] theorem v_addTT {xs ys : List D} : dAddL (.tup xs) (.tup ys) = if xs.length + ys.length ≤ cap then some (.tup (xs ++ ys)) else none := (rfl)
@[simp] theorem w_eCutO {n : Nat} {lo hi : S → Option (Option Int × S)} : eCutO n lo hi s = match s[n]? with
  | some (.lst xs) => kCO xs hi (lo s)
  | _ => none := by
  unfold eCutO
  cases s[n]? with
  | none => rfl
  | some o => cases o with
    | lst xs =>
      simp only []
      cases h : lo s with
      | none => rfl
      | some q =>
        obtain ⟨i, s1⟩ := q
        simp only [Option.bind_some, kCO]
        cases hi s1 <;> rfl
    | _ => rfl
@[simp] theorem w_sFld {k i : Nat} {n : Str} : DL.sFld k i n f s = kFld k i n (f s) := by unfold DL.sFld; cases f s <;> rfl
@[simp] theorem w_sMake {k i : Nat} {m : List O → Option (D × List O)} : sMake k i m fa s = kMk k i m (fa s) := by
  unfold sMake
  cases fa s with
  | none => rfl
  | some p =>
    obtain ⟨ds, s1⟩ := p
    simp only [Option.bind_some, kMk]
    cases m (.obj k [] :: ds.map .val) with
    | none => rfl
    | some r =>
      obtain ⟨d, os⟩ := r
      cases d <;> first
        | rfl
        | (rcases os with _ | ⟨o, r⟩
           · rfl
           · cases o <;> rfl)
@[simp] theorem v_dCutL {xs : List D} {i j : Option Int} : dCut (.lst xs) i j = some (.lst (DL.cutD xs i j)) := (rfl)
@[simp] theorem v_dCutT {xs : List D} {i j : Option Int} : dCut (.tup xs) i j = some (.tup (DL.cutD xs i j)) := (rfl)
@[simp] theorem v_bTup1 {xs : List D} : bTuple [.lst xs] = some (.tup xs) := (rfl)
@[simp] theorem v_noLN {q : Rat} : noL (numD q) = true := (rfl)
@[simp] theorem v_noLI {i : Int} : noL (.int i) = true := (rfl)
@[simp] theorem v_noLB {b : Bool} : noL (.bl b) = true := (rfl)
@[simp] theorem v_lenT {xs : List D} : bLen [.tup xs] = some (.int xs.length) := (rfl)
@[simp] theorem v_lenL {xs : List D} : bLen [.lst xs] = some (.int xs.length) := (rfl)
@[simp] theorem v_dIsN0 : dIsN .non = some (.bl true) := (rfl)
@[simp] theorem v_dNotN0 : dNotN .non = some (.bl false) := (rfl)
@[simp] theorem v_dIsN1 {xs : List D} : dIsN (.tup xs) = some (.bl false) := (rfl)
@[simp] theorem v_dNotN1 {xs : List D} : dNotN (.tup xs) = some (.bl true) := (rfl)
@[simp] theorem v_dRevL {xs : List D} : dRev (.lst xs) = some (.lst xs.reverse) := (rfl)
@[simp] theorem v_dRevT {xs : List D} : dRev (.tup xs) = some (.tup xs.reverse) := (rfl)
@[simp] theorem dNe_bl (a b : Bool) : dNe (.bl a) (.bl b) = some (.bl (decide (a ≠ b))) := by
  cases a <;> cases b <;> rfl
@[simp] theorem dEq_bl (a b : Bool) : dEq (.bl a) (.bl b) = some (.bl (decide (a = b))) := by
  cases a <;> cases b <;> rfl
end
/-- a walk over plain things, by an invariant on their number -/
theorem forD_ix {g : GF} {fb : SF} (I : Nat → S → Prop) : ∀ (xs : List D) (k : Nat) (s : S), I k s →
    (∀ i (hi : i < xs.length) s, I (k + i) s → ∃ s1 s2, g xs[i] s = some s1 ∧ (fb s1 = some (.next s2) ∨ fb s1 = some (.cont s2)) ∧ I (k + i + 1) s2) →
    ∃ s', forD g fb xs s = some (.next s') ∧ I (k + xs.length) s'
  | [], k, s, i, _ => ⟨s, rfl, i⟩
  | x :: xs, k, s, i, h => by
    obtain ⟨s1, s2, h1, h2, h3⟩ := h 0 (by simp) s i
    obtain ⟨s', h4, h5⟩ := forD_ix I xs (k + 1) s2 h3 (fun j hj s hs => by
      have := h (j + 1) (by simpa using hj) s (by rwa [show k + (j + 1) = k + 1 + j by omega])
      rwa [show k + (j + 1) + 1 = k + 1 + j + 1 by omega] at this)
    refine ⟨s', ?_, by rwa [show k + (x :: xs).length = k + 1 + xs.length by simp; omega]⟩
    simp only [List.getElem_cons_zero] at h1
    rw [v_forD_cons, h1, Option.bind_some]
    rcases h2 with h2 | h2 <;> rw [h2] <;> exact h4
theorem forD_list {g : GF} {fb : SF} {xs : List D} {s : S} (I : Nat → S → Prop) (h0 : I 0 s)
    (h : ∀ i (hi : i < xs.length) s, I i s → ∃ s1 s2, g xs[i] s = some s1 ∧ (fb s1 = some (.next s2) ∨ fb s1 = some (.cont s2)) ∧ I (i + 1) s2) :
    ∃ s', forD g fb xs s = some (.next s') ∧ I xs.length s' := by
  have := forD_ix I xs 0 s h0 (fun i hi s hs => by simpa using h i hi s (by simpa using hs))
  simpa using this
/-- over plain things that stand for things -/
theorem forD_map {α : Type} {g : GF} {fb : SF} {s : S} (f : α → D) (l : List α) (I : Nat → S → Prop) (h0 : I 0 s)
    (h : ∀ i (hi : i < l.length) s, I i s → ∃ s1 s2, g (f l[i]) s = some s1 ∧ (fb s1 = some (.next s2) ∨ fb s1 = some (.cont s2)) ∧ I (i + 1) s2) :
    ∃ s', forD g fb (l.map f) s = some (.next s') ∧ I l.length s' := by
  have := forD_list (xs := l.map f) I h0 (fun i hi s hs => by
    rw [List.getElem_map]
    exact h i (by simpa using hi) s hs)
  simpa using this
theorem lcD_pure {α : Type} {g : GF} {fe : EF} {own : List Nat} {s : S} (f : α → D) (e : α → D) (l : List α)
    (h : ∀ a ∈ l, ∃ s1, g (f a) s = some s1 ∧ fe s1 = some (e a, s1) ∧ wipeS s1 own = s) (hl : l.length ≤ cap) :
    lcD g bYes fe own (l.map f) s [] = some (l.map e, s) := lcD_map f e l (fun a ha => by
      obtain ⟨s1, h1, h2, h3⟩ := h a ha
      exact ⟨s1, s1, h1, h2, h3⟩) hl
/-- a comprehension that changes things on its way -/
theorem lcD_inv {α : Type} {g : GF} {fe : EF} {own : List Nat} (f : α → D) (I : Nat → List D → S → Prop) : ∀ (l : List α) (k : Nat) (s : S) (acc : List D), I k acc s →
    (∀ i (hi : i < l.length) acc s, I (k + i) acc s → ∃ s1 d s3, g (f l[i]) s = some s1 ∧ fe s1 = some (d, s3) ∧ I (k + i + 1) (acc ++ [d]) (wipeS s3 own)) → acc.length + l.length ≤ cap →
    ∃ ds s', lcD g bYes fe own (l.map f) s acc = some (ds, s') ∧ I (k + l.length) ds s'
  | [], k, s, acc, i, _, _ => ⟨acc, s, rfl, i⟩
  | a :: l, k, s, acc, i, h, hl => by
    have hl2 : acc.length + (l.length + 1) ≤ cap := hl
    obtain ⟨s1, d, s3, h1, h2, h3⟩ := h 0 (by simp) acc s i
    simp only [List.getElem_cons_zero] at h1
    obtain ⟨ds, s', h4, h5⟩ := lcD_inv f I l (k + 1) (wipeS s3 own) (acc ++ [d]) h3 (fun j hj acc s hs => by
      have := h (j + 1) (by simpa using hj) acc s (by rwa [show k + (j + 1) = k + 1 + j by omega])
      rwa [show k + (j + 1) + 1 = k + 1 + j + 1 by omega] at this) (by simp; omega)
    refine ⟨ds, s', ?_, by rwa [show k + (a :: l).length = k + 1 + l.length by simp; omega]⟩
    simp only [List.map_cons, lcD, h1, Option.bind_some, v_bYes, if_true, h2]
    rw [if_pos (by omega)]
    exact h4
theorem rangeD_get {p : Int} {m i : Nat} (h : i < (rangeD p m).length) : (rangeD p m)[i] = .int (p + i) := by
  simp [rangeD]
theorem rangeD_len {p : Int} {m : Nat} : (rangeD p m).length = m := by simp [rangeD]
/-- over a range -/
theorem forD_rng {g : GF} {fb : SF} {s : S} (p m : Nat) (I : Nat → S → Prop) (h0 : I p s)
    (h : ∀ i s, p ≤ i → i < p + m → I i s → ∃ s1 s2, g (.int (i : Int)) s = some s1 ∧ (fb s1 = some (.next s2) ∨ fb s1 = some (.cont s2)) ∧ I (i + 1) s2) :
    ∃ s', forD g fb (rangeD (p : Int) m) s = some (.next s') ∧ I (p + m) s' := by
  obtain ⟨s', h1, h2⟩ := forD_ix I (rangeD (p : Int) m) p s h0 (fun i hi s hs => by
    rw [rangeD_get hi]
    have := h (p + i) s (by omega) (by rw [rangeD_len] at hi; omega) hs
    simpa using this)
  rw [rangeD_len] at h2
  exact ⟨s', h1, h2⟩
theorem forD_rng0 {g : GF} {fb : SF} {s : S} (m : Nat) (I : Nat → S → Prop) (h0 : I 0 s)
    (h : ∀ i s, i < m → I i s → ∃ s1 s2, g (.int (i : Int)) s = some s1 ∧ (fb s1 = some (.next s2) ∨ fb s1 = some (.cont s2)) ∧ I (i + 1) s2) :
    ∃ s', forD g fb (rangeD 0 m) s = some (.next s') ∧ I m s' := by
  have := forD_rng (g := g) (fb := fb) (s := s) 0 m I h0 (fun i s _ hi hs => h i s (by omega) hs)
  simpa using this
/-- a walk that may return -/
theorem forD_ixR {g : GF} {fb : SF} (I : Nat → S → Prop) (R : Rt → S → Prop) : ∀ (xs : List D) (k : Nat) (s : S), I k s →
    (∀ i (hi : i < xs.length) s, I (k + i) s → ∃ s1, g xs[i] s = some s1 ∧ ((∃ s2, (fb s1 = some (.next s2) ∨ fb s1 = some (.cont s2)) ∧ I (k + i + 1) s2) ∨ ∃ d s2, fb s1 = some (.ret d s2) ∧ R d s2)) →
    (∃ s', forD g fb xs s = some (.next s') ∧ I (k + xs.length) s') ∨ ∃ d s', forD g fb xs s = some (.ret d s') ∧ R d s'
  | [], k, s, i, _ => .inl ⟨s, rfl, i⟩
  | x :: xs, k, s, i, h => by
    obtain ⟨s1, h1, h2⟩ := h 0 (by simp) s i
    simp only [List.getElem_cons_zero] at h1
    rcases h2 with ⟨s2, h2, h3⟩ | ⟨d, s2, h2, h3⟩
    · have := forD_ixR I R xs (k + 1) s2 h3 (fun j hj s hs => by
        have := h (j + 1) (by simpa using hj) s (by rwa [show k + (j + 1) = k + 1 + j by omega])
        rwa [show k + (j + 1) + 1 = k + 1 + j + 1 by omega] at this)
      have e : forD g fb (x :: xs) s = forD g fb xs s2 := by
        rw [v_forD_cons, h1, Option.bind_some]
        rcases h2 with h2 | h2 <;> rw [h2] <;> rfl
      rw [e, show k + (x :: xs).length = k + 1 + xs.length by simp; omega]
      exact this
    · refine .inr ⟨d, s2, ?_, h3⟩
      rw [v_forD_cons, h1, Option.bind_some, h2]
      rfl
theorem forD_mapR {α : Type} {g : GF} {fb : SF} {s : S} (f : α → D) (l : List α) (I : Nat → S → Prop) (R : Rt → S → Prop) (h0 : I 0 s)
    (h : ∀ i (hi : i < l.length) s, I i s → ∃ s1, g (f l[i]) s = some s1 ∧ ((∃ s2, (fb s1 = some (.next s2) ∨ fb s1 = some (.cont s2)) ∧ I (i + 1) s2) ∨ ∃ d s2, fb s1 = some (.ret d s2) ∧ R d s2)) :
    (∃ s', forD g fb (l.map f) s = some (.next s') ∧ I l.length s') ∨ ∃ d s', forD g fb (l.map f) s = some (.ret d s') ∧ R d s' := by
  have := forD_ixR I R (l.map f) 0 s h0 (fun i hi s hs => by
    rw [List.getElem_map]
    simpa using h i (by simpa using hi) s (by simpa using hs))
  simpa using this
theorem forD_rngR {g : GF} {fb : SF} {s : S} (p m : Nat) (I : Nat → S → Prop) (R : Rt → S → Prop) (h0 : I p s)
    (h : ∀ i s, p ≤ i → i < p + m → I i s → ∃ s1, g (.int (i : Int)) s = some s1 ∧ ((∃ s2, (fb s1 = some (.next s2) ∨ fb s1 = some (.cont s2)) ∧ I (i + 1) s2) ∨ ∃ d s2, fb s1 = some (.ret d s2) ∧ R d s2)) :
    (∃ s', forD g fb (rangeD (p : Int) m) s = some (.next s') ∧ I (p + m) s') ∨ ∃ d s', forD g fb (rangeD (p : Int) m) s = some (.ret d s') ∧ R d s' := by
  have := forD_ixR I R (rangeD (p : Int) m) p s h0 (fun i hi s hs => by
    rw [rangeD_get hi]
    have := h (p + i) s (by omega) (by rw [rangeD_len] at hi; omega) hs
    simpa using this)
  rwa [rangeD_len] at this
theorem forD_rng0R {g : GF} {fb : SF} {s : S} (m : Nat) (I : Nat → S → Prop) (R : Rt → S → Prop) (h0 : I 0 s)
    (h : ∀ i s, i < m → I i s → ∃ s1, g (.int (i : Int)) s = some s1 ∧ ((∃ s2, (fb s1 = some (.next s2) ∨ fb s1 = some (.cont s2)) ∧ I (i + 1) s2) ∨ ∃ d s2, fb s1 = some (.ret d s2) ∧ R d s2)) :
    (∃ s', forD g fb (rangeD 0 m) s = some (.next s') ∧ I m s') ∨ ∃ d s', forD g fb (rangeD 0 m) s = some (.ret d s') ∧ R d s' := by
  have := forD_rngR (g := g) (fb := fb) (s := s) 0 m I R h0 (fun i s _ hi hs => h i s (by omega) hs)
  simpa using this
/-- a while by an invariant and a measure -/
theorem sWhile_inv {t : BF} {fb : SF} (I : S → Prop) (Q : S → Prop) (μ : S → Nat) (h : ∀ s, I s → (∃ s1, t s = some (false, s1) ∧ Q s1) ∨ ∃ s1 s2, t s = some (true, s1) ∧ (fb s1 = some (.next s2) ∨ fb s1 = some (.cont s2)) ∧ I s2 ∧ μ s2 < μ s) :
    ∀ (n : Nat) (s : S), μ s ≤ n → I s → ∃ s', sWhile t fb s = some (.next s') ∧ Q s'
  | n, s, hn, i => by
    rcases h s i with ⟨s1, h1, h2⟩ | ⟨s1, s2, h1, h2, h3, h4⟩
    · refine ⟨s1, ?_, h2⟩
      rw [sWhile_eq, h1, Option.bind_some]
      simp
    · match n with
      | 0 => omega
      | n + 1 =>
        obtain ⟨s', h5, h6⟩ := sWhile_inv I Q μ h n s2 (by omega) h3
        refine ⟨s', ?_, h6⟩
        rw [sWhile_eq, h1, Option.bind_some]
        rcases h2 with h2 | h2 <;> simp [h2, h5]
theorem sWhile_n {t : BF} {fb : SF} {s : S} (I : Nat → S → Prop) (Q : S → Prop) (n : Nat) (h0 : I n s) (h : ∀ n s, I n s → (∃ s1, t s = some (false, s1) ∧ Q s1) ∨ ∃ m s1 s2, m < n ∧ t s = some (true, s1) ∧ (fb s1 = some (.next s2) ∨ fb s1 = some (.cont s2)) ∧ I m s2) :
    ∃ s', sWhile t fb s = some (.next s') ∧ Q s' := by
  induction n using Nat.strongRecOn generalizing s with
  | _ n ih =>
    rcases h n s h0 with ⟨s1, h1, h2⟩ | ⟨m, s1, s2, hm, h1, h2, h3⟩
    · refine ⟨s1, ?_, h2⟩
      rw [sWhile_eq, h1, Option.bind_some]
      simp
    · obtain ⟨s', h5, h6⟩ := ih m hm h3
      refine ⟨s', ?_, h6⟩
      rw [sWhile_eq, h1, Option.bind_some]
      rcases h2 with h2 | h2 <;> simp [h2, h5]
end DL
namespace DL
open PySem PySem.Spec PyProof.Rows L2
theorem ix_mem {xs : List D} {i : Int} (h : 0 ≤ i) (h1 : i < (xs.length : Nat)) : ∃ d ∈ xs, dIx (.lst xs) (.int i) = some d ∧ dIx (.tup xs) (.int i) = some d ∧ xs[i.toNat]? = some d := by
  obtain ⟨n, rfl⟩ : ∃ n : Nat, i = (n : Int) := ⟨i.toNat, by omega⟩
  have hi : n < xs.length := by omega
  refine ⟨xs[n], List.getElem_mem hi, ?_, ?_, by simp [hi]⟩
  · rw [v_dIxL]; simp [hi]
  · rw [v_dIxT]; simp [hi]
end DL
set_option exponentiation.threshold 10000
/-! ### running: dicts, enumerate -/
namespace DL
open PySem PySem.Spec PyProof.Rows L2
section
variable {s : S} {f g : EF} {fa : AF} {ds : List D} {d : D} {n : Nat}
@[simp] theorem w_sNewD : sNewD n s = if n < s.length then some (.next (s.set n (.dct []))) else none := (rfl)
@[simp] theorem w_sRetD : sRetD n s = match s[n]? with
  | some (.dct xs) => some (.ret (.k xs) (s.set n .un))
  | _ => none := (rfl)
def kPutD2 (n : Nat) (d : D) : Option (D × S) → Option Fl
  | some (k, s) => match keyD k, s[n]? with
    | some k, some (.dct xs) => if xs.length < cap then some (.next (s.set n (.dct (storeK xs k d)))) else none
    | _, _ => none
  | none => none
def kPutD (n : Nat) (fk : EF) : Option (D × S) → Option Fl
  | some (d, s) => match s[n]? with
    | some (.dct _) => kPutD2 n d (fk s)
    | _ => none
  | none => none
@[simp] theorem w_sPutD : sPutD n f g s = kPutD n f (g s) := by
  unfold sPutD
  cases g s with
  | none => rfl
  | some p =>
    obtain ⟨d, s1⟩ := p
    simp only [Option.bind_some, kPutD]
    cases s1[n]? with
    | none => rfl
    | some o => cases o <;> first | rfl | (simp only []; cases f s1 <;> rfl)
@[simp] theorem w_kPutD : kPutD n f (some (d, s)) = match s[n]? with
  | some (.dct _) => kPutD2 n d (f s)
  | _ => none := (rfl)
@[simp] theorem w_kPutD2 {i : Int} : kPutD2 n d (some (.int i, s)) = match s[n]? with
  | some (.dct xs) => if xs.length < cap then some (.next (s.set n (.dct (storeK xs (.inl i) d)))) else none
  | _ => none := by
  simp only [kPutD2, keyD]
  cases s[n]? with
  | none => rfl
  | some o => cases o <;> rfl
def kDC2 (s : S) : Option (List (Key × D)) → Option (List (Key × D) × S)
  | some z => some (z, s)
  | none => none
def kDC (m : List D → Option (List (Key × D))) : Option (List D × S) → Option (List (Key × D) × S)
  | some (ds, s) => kDC2 s (m ds)
  | none => none
@[simp] theorem w_dCall {m : List D → Option (List (Key × D))} : dCall m fa s = kDC m (fa s) := by
  unfold dCall
  cases fa s with
  | none => rfl
  | some p => obtain ⟨ds, s1⟩ := p; show (m ds).map _ = kDC2 s1 (m ds); cases m ds <;> rfl
@[simp] theorem w_kDC {m : List D → Option (List (Key × D))} : kDC m (some (ds, s)) = kDC2 s (m ds) := (rfl)
@[simp] theorem w_kDC2 {z : List (Key × D)} : kDC2 s (some z) = some (z, s) := (rfl)
def kSetD (n : Nat) : Option (List (Key × D) × S) → Option Fl
  | some (z, s) => if n < s.length then some (.next (s.set n (.dct z))) else none
  | none => none
@[simp] theorem w_sSetD {fd : DF} : sSetD n fd s = kSetD n (fd s) := by
  unfold sSetD
  cases fd s <;> rfl
@[simp] theorem w_kSetD {z : List (Key × D)} : kSetD n (some (z, s)) = if n < s.length then some (.next (s.set n (.dct z))) else none := (rfl)
def kGetD2 (n : Nat) (k : D) : Option (D × S) → Option (D × S)
  | some (d, s) => match keyD k, s[n]? with
    | some k, some (.dct xs) => some ((lookK xs k).getD d, s)
    | _, _ => none
  | none => none
def kGetD (n : Nat) (fd : EF) : Option (D × S) → Option (D × S)
  | some (k, s) => kGetD2 n k (fd s)
  | none => none
@[simp] theorem w_eGetD : eGetD n f g s = match s[n]? with
  | some (.dct _) => kGetD n g (f s)
  | _ => none := by
  unfold eGetD
  cases s[n]? with
  | none => rfl
  | some o => cases o <;> first | rfl | (simp only []; cases f s with
    | none => rfl
    | some p => obtain ⟨k, s1⟩ := p; show (g s1).bind _ = kGetD2 n k (g s1); cases g s1 <;> rfl)
@[simp] theorem w_kGetD {k : D} : kGetD n g (some (k, s)) = kGetD2 n k (g s) := (rfl)
@[simp] theorem w_kGetD2 {i : Int} : kGetD2 n (.int i) (some (d, s)) = match s[n]? with
  | some (.dct xs) => some ((lookK xs (.inl i)).getD d, s)
  | _ => none := by
  simp only [kGetD2, keyD]
  cases s[n]? with
  | none => rfl
  | some o => cases o <;> rfl
def kMnD (s : S) : Option Int → Option (D × S)
  | some m => some (.int m, s)
  | none => none
@[simp] theorem w_kMnD {m : Int} : kMnD s (some m) = some (.int m, s) := (rfl)
@[simp] theorem w_eMinD : eMinD n s = match s[n]? with
  | some (.dct xs) => kMnD s ((intKeys xs).bind leastI)
  | _ => none := by
  unfold eMinD
  cases s[n]? with
  | none => rfl
  | some o => cases o <;> first | rfl | (rename_i xs; simp only []; cases intKeys xs with
    | none => rfl
    | some is => simp only [Option.bind_some]; cases leastI is <;> rfl)
@[simp] theorem w_eMaxD : eMaxD n s = match s[n]? with
  | some (.dct xs) => kMnD s ((intKeys xs).bind greatI)
  | _ => none := by
  unfold eMaxD
  cases s[n]? with
  | none => rfl
  | some o => cases o <;> first | rfl | (rename_i xs; simp only []; cases intKeys xs with
    | none => rfl
    | some is => simp only [Option.bind_some]; cases greatI is <;> rfl)
def kEn : Option (List D × S) → Option (List D × S)
  | some ([.lst xs], s) => some (enumD xs, s)
  | some ([.tup xs], s) => some (enumD xs, s)
  | _ => none
@[simp] theorem w_iEnumD : iEnumD fa s = kEn (fa s) := by
  unfold iEnumD
  cases fa s with
  | none => rfl
  | some p =>
    obtain ⟨ds, s1⟩ := p
    rcases ds with _ | ⟨a, _ | ⟨b, r⟩⟩
    · rfl
    · cases a <;> rfl
    · cases a <;> rfl
@[simp] theorem w_kEnL {xs : List D} : kEn (some ([.lst xs], s)) = some (enumD xs, s) := (rfl)
@[simp] theorem w_kEnT {xs : List D} : kEn (some ([.tup xs], s)) = some (enumD xs, s) := (rfl)
end
end DL
set_option exponentiation.threshold 10000
/-! ### running: two names at once, what a comprehension leaves out -/
namespace DL
open PySem PySem.Spec PyProof.Rows L2
section
variable {s : S} {fao : AOF} {i j : Nat} {a b : Arg} {x : D} {xs : List D}
def kParA (i j : Nat) : Option (List Arg × S) → Option Fl
  | some (as, s) => par2 i j s as
  | none => none
@[simp] theorem w_sParA : sParA i j fao s = kParA i j (fao s) := by
  unfold sParA
  cases fao s <;> rfl
@[simp] theorem w_kParA {as : List Arg} : kParA i j (some (as, s)) = par2 i j s as := (rfl)
@[simp] theorem w_par2 : par2 i j s [a, b] = (argO a).bind fun x => (argO b).bind fun y => if i < s.length ∧ j < s.length then some (.next ((s.set i x).set j y)) else none := (rfl)
@[simp] theorem w_argV : argO (.val x) = some (.val x) := (rfl)
@[simp] theorem w_argN : argO (.new xs) = some (.lst xs) := (rfl)
end
theorem lcD_filtA {α : Type} {g : GF} {ft : BF} {fe : EF} {own : List Nat} {s : S} (f : α → D) (c : α → Bool) (e : α → D) : ∀ (l : List α) (acc : List D),
    (∀ a ∈ l, ∃ s1, g (f a) s = some s1 ∧ ft s1 = some (c a, s1) ∧ (c a = true → fe s1 = some (e a, s1)) ∧ wipeS s1 own = s) → acc.length + l.length ≤ cap →
    lcD g ft fe own (l.map f) s acc = some (acc ++ (l.filter c).map e, s)
  | [], acc, _, _ => by simp [lcD]
  | a :: l, acc, h, hl => by
    obtain ⟨s1, h1, h2, h3, h4⟩ := h a (by simp)
    have hl2 : acc.length + (l.length + 1) ≤ cap := hl
    cases hc : c a
    · rw [hc] at h2
      simp only [List.map_cons, lcD, h1, Option.bind_some, h2, Bool.false_eq_true, if_false, h4]
      rw [lcD_filtA f c e l acc (fun b hb => h b (by simp [hb])) (by omega), List.filter_cons_of_neg (by simp [hc])]
    · rw [hc] at h2
      simp only [List.map_cons, lcD, h1, Option.bind_some, h2, if_true, h3 hc, h4]
      rw [if_pos (by omega), lcD_filtA f c e l (acc ++ [e a]) (fun b hb => h b (by simp [hb])) (by simp; omega), List.filter_cons_of_pos hc]
      simp
theorem lcD_filt {α : Type} {g : GF} {ft : BF} {fe : EF} {own : List Nat} {s : S} (f : α → D) (c : α → Bool) (e : α → D) (l : List α)
    (h : ∀ a ∈ l, ∃ s1, g (f a) s = some s1 ∧ ft s1 = some (c a, s1) ∧ (c a = true → fe s1 = some (e a, s1)) ∧ wipeS s1 own = s) (hl : l.length ≤ cap) :
    lcD g ft fe own (l.map f) s [] = some ((l.filter c).map e, s) := by
  have := lcD_filtA f c e l [] h (by simpa using hl)
  simpa using this
end DL
namespace DL
open PySem PySem.Spec PyProof.Rows L2
@[simp] theorem v_gTupL {g : List D → S → Option S} {xs : List D} {s : S} : gTupL g (.lst xs) s = g xs s := (rfl)
end DL
namespace DL
open PySem PySem.Spec PyProof.Rows L2
section
variable {s : S} {fa : AF} {i : Nat} {a b : Addr} {tab : Tab} {m : List D → Option D}
def kTab (fa : AF) (s : S) : Option (List D → Option D) → Option (D × S)
  | some m => eCall m fa s
  | none => none
@[simp] theorem w_eCallV : eCallV i tab fa s = match s[i]? with
  | some (.val (.ref a)) => kTab fa s (tabGet tab a)
  | _ => none := by
  unfold eCallV
  cases s[i]? with
  | none => rfl
  | some o => cases o with
    | val d => cases d with
      | ref a => show (tabGet tab a).bind _ = kTab fa s (tabGet tab a); cases tabGet tab a <;> rfl
      | _ => rfl
    | _ => rfl
@[simp] theorem w_kTab : kTab fa s (some m) = eCall m fa s := (rfl)
@[simp] theorem tabGet_cons : tabGet ((b, m) :: tab) a = if a = b then some m else tabGet tab a := (rfl)
end
end DL
set_option exponentiation.threshold 10000
/-! ### a law's own outer loop -/
namespace DL
open PySem PySem.Spec PyProof.Rows L2
theorem rng_law {L K c : Int} {f : EF} {s : S} (h : f s = some (.int (if K < L then K else L), s)) (hL : 0 ≤ L) (hK : 1 ≤ K) (hK2 : K ≤ 64) (hc : 1 ≤ c) (hc2 : c ≤ 10) :
    ∃ n : Nat, (∀ i : Nat, i < n → (i : Int) * c < K) ∧ DL.iRng3 (aCons (eC (.int 0)) (aCons (eCall bMax (aCons (eC (.int 1)) (aCons f (aNil)))) (aCons (eC (.int c)) (aNil)))) s = some (rangeC 0 c n, s) := by
  have lK : (if K < L then K else L) ≤ K := by split <;> omega
  generalize (if K < L then K else L) = m at lK h
  have b : bMax [.int 1, .int m] = some (.int (if m > 1 then m else 1)) := rfl
  have r1 : 1 ≤ (if m > 1 then m else 1) ∧ (if m > 1 then m else 1) ≤ K := by split <;> omega
  generalize (if m > 1 then m else 1) = r at r1 b
  refine ⟨((r - 0 - 1) / c + 1).toNat, fun i hi => ?_, ?_⟩
  · have h0 : 0 ≤ (r - 0 - 1) / c := Int.ediv_nonneg (by omega) (by omega)
    have h1 : (i : Int) ≤ (r - 0 - 1) / c := by omega
    have h2 := Int.mul_le_mul_of_nonneg_right h1 (by omega : 0 ≤ c)
    have h3 := Int.ediv_mul_le (r - 0 - 1) (by omega : c ≠ 0)
    omega
  · simp only [DL.iRng3, v_aCons, v_aNil, v_eC, v_eCall, h, Option.bind_some, Option.map_some, b]
    rw [if_pos ⟨by decide, by decide, by simp only [bigI]; omega, by simp only [bigI]; omega, by omega, by omega⟩, if_pos (by omega)]
theorem forD_rngC {g : GF} {fb : SF} {s : S} {c : Int} (n : Nat) (I : S → Prop) (h0 : I s)
    (h : ∀ i s, i < n → I s → ∃ s1 s2, g (.int ((i : Int) * c)) s = some s1 ∧ fb s1 = some (.next s2) ∧ I s2) :
    ∃ s', forD g fb (rangeC 0 c n) s = some (.next s') ∧ I s' := by
  obtain ⟨s', h1, h2⟩ := forD_map (g := g) (fb := fb) (s := s) (fun (k : Nat) => D.int (0 + (k : Int) * c)) (List.range n) (fun _ s => I s) h0 (fun i hi s hs => by
    rw [List.getElem_range, Int.zero_add]
    obtain ⟨s1, s2, a, b, d⟩ := h i s (by simpa using hi) hs
    exact ⟨s1, s2, a, .inl b, d⟩)
  exact ⟨s', h1, h2⟩
end DL
set_option exponentiation.threshold 10000
/-! ### taut rows: the funnel, plain -/
namespace Tt
/-- the line from (a, h) of slope s -/
def ln (a : Nat) (h s : Rat) (k : Nat) : Rat := h + s * ((k : Rat) - a)
theorem ln_here (a : Nat) (h s : Rat) : ln a h s a = h := by unfold ln; grind
theorem sub_pos' {a k : Nat} (h : a < k) : (0 : Rat) < (k : Rat) - a := by
  have : (a : Rat) < (k : Rat) := by exact_mod_cast h
  grind
theorem sub_nn {a k : Nat} (h : a ≤ k) : (0 : Rat) ≤ (k : Rat) - a := by
  have : (a : Rat) ≤ (k : Rat) := by exact_mod_cast h
  grind
theorem mul_lt_iff {x y z : Rat} (h : 0 < z) : x * z < y * z ↔ x < y := ⟨fun q => Rat.lt_of_mul_lt_mul_right q (Rat.le_of_lt h), fun q => Rat.mul_lt_mul_of_pos_right q h⟩
theorem ln_lt {a k : Nat} {h s t : Rat} (hk : a < k) : ln a h s k < ln a h t k ↔ s < t := by
  have := mul_lt_iff (x := s) (y := t) (sub_pos' hk)
  unfold ln
  generalize s * ((k : Rat) - a) = u at *
  generalize t * ((k : Rat) - a) = v at *
  grind
theorem ln_le {a k : Nat} {h s t : Rat} (hk : a < k) : ln a h s k ≤ ln a h t k ↔ s ≤ t := by
  have := ln_lt (a := a) (k := k) (h := h) (s := t) (t := s) hk
  grind
theorem ln_sl {a k : Nat} {h y : Rat} (hk : a < k) : ln a h ((y - h) / ((k : Rat) - a)) k = y := by
  have := sub_pos' hk
  unfold ln
  generalize (k : Rat) - a = d at *
  have : (y - h) / d * d = y - h := by grind
  grind
theorem ln_from {a q : Nat} {h s : Rat} (k : Nat) : ln q (ln a h s q) s k = ln a h s k := by unfold ln; grind
/-- what is known of a funnel from (a, h), places ahead of p looked at -/
structure Fun (lo hi : Nat → Rat) (a : Nat) (h : Rat) (p : Nat) (sM : Rat) (pM : Nat) (sL : Rat) (pL : Nat) : Prop where
  m1 : a < pM
  m2 : pM < p
  l1 : a < pL
  l2 : pL < p
  mh : hi pM = ln a h sM pM
  lh : lo pL = ln a h sL pL
  lm : sL ≤ sM
  low : ∀ k, a < k → k < p → lo k ≤ ln a h sL k
  high : ∀ k, a < k → k < p → ln a h sM k ≤ hi k
  mb : ∀ k, pM < k → k < p → ln a h sM k < hi k
  lb : ∀ k, pL < k → k < p → lo k < ln a h sL k
/-- where the taut row leaves its straight way -/
structure Tch (lo hi : Nat → Rat) (n a : Nat) (h s : Rat) (q : Nat) (hq : Rat) : Prop where
  q1 : a < q
  q2 : q < n
  at_ : hq = ln a h s q
  free : ∀ k, a < k → k ≤ q → lo k ≤ ln a h s k ∧ ln a h s k ≤ hi k
  kind : (hq = hi q ∧ ∃ c, q < c ∧ c < n ∧ ln a h s c < lo c ∧ ∀ k, q < k → k < c → ln a h s k < hi k) ∨
    (hq = lo q ∧ ∃ c, q < c ∧ c < n ∧ hi c < ln a h s c ∧ ∀ k, q < k → k < c → lo k < ln a h s k) ∨ (q + 1 = n ∧ hq = hi q)
section
variable {lo hi : Nat → Rat} {n a p q : Nat} {h s hq sM sL : Rat} {pM pL : Nat}
theorem Fun.mid (F : Fun lo hi a h p sM pM sL pL) (k : Nat) (h1 : a < k) (h2 : k < p) : lo k ≤ ln a h sM k ∧ ln a h sL k ≤ hi k := by
  have := (ln_le (h := h) (s := sL) (t := sM) h1).mpr F.lm
  have := F.low k h1 h2
  have := F.high k h1 h2
  grind
theorem Fun.up (F : Fun lo hi a h p sM pM sL pL) (hp : a < p) (hn : p < n) (c : sM < (lo p - h) / ((p : Rat) - a)) : Tch lo hi n a h sM pM (hi pM) where
  q1 := F.m1
  q2 := Nat.lt_trans F.m2 hn
  at_ := F.mh
  free := fun k h1 h2 => ⟨(F.mid k h1 (Nat.lt_of_le_of_lt h2 F.m2)).1, F.high k h1 (Nat.lt_of_le_of_lt h2 F.m2)⟩
  kind := .inl ⟨rfl, p, F.m2, hn, by
    have := (ln_lt (h := h) hp).mpr c
    rwa [ln_sl hp] at this, F.mb⟩
theorem Fun.down (F : Fun lo hi a h p sM pM sL pL) (hp : a < p) (hn : p < n) (c : (hi p - h) / ((p : Rat) - a) < sL) : Tch lo hi n a h sL pL (lo pL) where
  q1 := F.l1
  q2 := Nat.lt_trans F.l2 hn
  at_ := F.lh
  free := fun k h1 h2 => ⟨F.low k h1 (Nat.lt_of_le_of_lt h2 F.l2), (F.mid k h1 (Nat.lt_of_le_of_lt h2 F.l2)).2⟩
  kind := .inr (.inl ⟨rfl, p, F.l2, hn, by
    have := (ln_lt (h := h) hp).mpr c
    rwa [ln_sl hp] at this, F.lb⟩)
theorem Fun.end_ (F : Fun lo hi a h n sM pM sL pL) (ha : a + 1 < n) (tied : lo (n - 1) = hi (n - 1)) : Tch lo hi n a h sM pM (hi pM) := by
  have e : pM + 1 = n := by
    by_cases z : pM + 1 = n
    · exact z
    · have h1 := F.m2
      have h2 := F.mb (n - 1) (by omega) (by omega)
      have h3 := (F.mid (n - 1) (by omega) (by omega)).1
      grind
  exact ⟨F.m1, F.m2, F.mh, fun k h1 h2 => ⟨(F.mid k h1 (Nat.lt_of_le_of_lt h2 F.m2)).1, F.high k h1 (Nat.lt_of_le_of_lt h2 F.m2)⟩, .inr (.inr ⟨e, rfl⟩)⟩
theorem Fun.first (hn : lo (a + 1) ≤ hi (a + 1)) : Fun lo hi a h (a + 2) ((hi (a + 1) - h) / (((a + 1 : Nat) : Rat) - a)) (a + 1) ((lo (a + 1) - h) / (((a + 1 : Nat) : Rat) - a)) (a + 1) := by
  have l : a < a + 1 := Nat.lt_succ_self a
  refine ⟨l, Nat.lt_succ_self _, l, Nat.lt_succ_self _, (ln_sl l).symm, (ln_sl l).symm, ?_, fun k h1 h2 => ?_, fun k h1 h2 => ?_, fun k h1 h2 => by omega, fun k h1 h2 => by omega⟩
  · rw [← ln_le (h := h) l, ln_sl l, ln_sl l]; exact hn
  · obtain rfl : k = a + 1 := by omega
    rw [ln_sl l]; exact Rat.le_refl
  · obtain rfl : k = a + 1 := by omega
    rw [ln_sl l]; exact Rat.le_refl
theorem Fun.next (F : Fun lo hi a h p sM pM sL pL) (hp : a < p) (hn : lo p ≤ hi p) {x y : Rat} (ex : x = (lo p - h) / ((p : Rat) - a)) (ey : y = (hi p - h) / ((p : Rat) - a)) (c1 : ¬ sM < x) (c2 : ¬ y < sL) :
    Fun lo hi a h (p + 1) (if sM < y then sM else y) (if sM < y then pM else p) (if x < sL then sL else x) (if x < sL then pL else p) := by
  have hx : ln a h x p = lo p := by rw [ex, ln_sl hp]
  have hy : ln a h y p = hi p := by rw [ey, ln_sl hp]
  have xy : x ≤ y := by rw [← ln_le (h := h) hp, hx, hy]; exact hn
  have A := F.m1
  have B := F.m2
  have C := F.l1
  have D := F.l2
  refine ⟨by split <;> omega, by split <;> omega, by split <;> omega, by split <;> omega, ?_, ?_, ?_, ?_, ?_, ?_, ?_⟩
  · split
    · exact F.mh
    · exact hy.symm
  · split
    · exact F.lh
    · exact hx.symm
  · have := F.lm
    split <;> split <;> grind
  · intro k h1 h2
    by_cases hk : k = p
    · subst hk
      split
      · rename_i z
        have := (ln_lt (h := h) hp).mpr z
        grind
      · rw [hx]; exact Rat.le_refl
    · have l := F.low k h1 (by omega)
      split
      · exact l
      · rename_i z
        have := (ln_le (h := h) (s := sL) (t := x) h1).mpr (by grind)
        grind
  · intro k h1 h2
    by_cases hk : k = p
    · subst hk
      split
      · rename_i z
        have := (ln_lt (h := h) hp).mpr z
        grind
      · rw [hy]; exact Rat.le_refl
    · have l := F.high k h1 (by omega)
      split
      · exact l
      · rename_i z
        have := (ln_le (h := h) (s := y) (t := sM) h1).mpr (by grind)
        grind
  · intro k h1 h2
    split at h1
    · rename_i z
      rw [if_pos z]
      by_cases hk : k = p
      · subst hk
        have := (ln_lt (h := h) hp).mpr z
        grind
      · exact F.mb k h1 (by omega)
    · omega
  · intro k h1 h2
    split at h1
    · rename_i z
      rw [if_pos z]
      by_cases hk : k = p
      · subst hk
        have := (ln_lt (h := h) hp).mpr z
        grind
      · exact F.lb k h1 (by omega)
    · omega
/-- behind a touch at a high the way goes steeper up, at a low steeper down -/
theorem Tch.bend (ok : ∀ k, k < n → lo k ≤ hi k) (T : Tch lo hi n a h s q hq) {s' : Rat} {q' : Nat} {hq' : Rat} (T' : Tch lo hi n q hq s' q' hq') : (s < s' ∧ hq = hi q) ∨ (s' < s ∧ hq = lo q) := by
  have e := T.at_
  have ln1 : ∀ k, ln a h s k = ln q hq s k := fun k => by rw [e, ln_from]
  rcases T.kind with ⟨k1, c, c1, c2, c3, c4⟩ | ⟨k1, c, c1, c2, c3, c4⟩ | ⟨k1, _⟩
  · refine .inl ⟨?_, k1⟩
    by_cases z : s < s'
    · exact z
    have le : ∀ k, q < k → ln q hq s' k ≤ ln a h s k := fun k hk => by rw [ln1, ln_le hk]; grind
    exfalso
    rcases Nat.lt_or_ge q' c with hc | hc
    · rcases T'.kind with ⟨d1, _⟩ | ⟨d1, d, e1, e2, e3, e4⟩ | ⟨d1, _⟩
      · have h1 := c4 q' T'.q1 hc
        have h2 := le q' T'.q1
        have h3 := T'.at_
        grind
      · have l1 := T'.q1
        rcases Nat.lt_trichotomy d c with hd | hd | hd
        · have h1 := c4 d (by omega) hd
          have h2 := le d (by omega)
          grind
        · subst hd
          have h2 := le d (by omega)
          have h3 := ok d (by omega)
          grind
        · have h1 := e4 c hc hd
          have h2 := le c (by omega)
          grind
      · omega
    · have h1 := (T'.free c c1 hc).1
      have h2 := le c c1
      grind
  · refine .inr ⟨?_, k1⟩
    by_cases z : s' < s
    · exact z
    have le : ∀ k, q < k → ln a h s k ≤ ln q hq s' k := fun k hk => by rw [ln1, ln_le hk]; grind
    exfalso
    rcases Nat.lt_or_ge q' c with hc | hc
    · rcases T'.kind with ⟨d1, d, e1, e2, e3, e4⟩ | ⟨d1, _⟩ | ⟨d1, _⟩
      · have l1 := T'.q1
        rcases Nat.lt_trichotomy d c with hd | hd | hd
        · have h1 := c4 d (by omega) hd
          have h2 := le d (by omega)
          grind
        · subst hd
          have h2 := le d (by omega)
          have h3 := ok d (by omega)
          grind
        · have h1 := e4 c hc hd
          have h2 := le c (by omega)
          grind
      · have h1 := c4 q' T'.q1 hc
        have h2 := le q' T'.q1
        have h3 := T'.at_
        grind
      · omega
    · have h1 := (T'.free c c1 hc).2
      have h2 := le c c1
      grind
  · exact absurd T'.q1 (by have := T'.q2; omega)
end
/-- places told from the last touch on -/
def seg (h s : Rat) (j : Nat) : List Rat := (List.range j).map fun (i : Nat) => h + s * ((i : Rat) + 1)
theorem seg_len {h s : Rat} {j : Nat} : (seg h s j).length = j := by simp [seg]
abbrev at0 (R : List Rat) (k : Nat) : Rat := R.getD k 0
theorem at0_left {R l : List Rat} {k : Nat} (h : k < R.length) : at0 (R ++ l) k = at0 R k := by
  simp [at0, List.getD_eq_getElem?_getD, List.getElem?_append_left h]
theorem at0_seg {R : List Rat} {s : Rat} {j k : Nat} (h0 : 0 < R.length) (h1 : R.length - 1 ≤ k) (h2 : k < R.length + j) : at0 (R ++ seg (at0 R (R.length - 1)) s j) k = ln (R.length - 1) (at0 R (R.length - 1)) s k := by
  by_cases h : k < R.length
  · rw [at0_left h]
    have : k = R.length - 1 := by omega
    rw [this, ln_here]
  · have hk : (seg (at0 R (R.length - 1)) s j)[k - R.length]? = some (at0 R (R.length - 1) + s * (((k - R.length : Nat) : Rat) + 1)) := by
      simp [seg, List.getElem?_map, List.getElem?_range (show k - R.length < j by omega)]
    rw [at0, List.getD_eq_getElem?_getD, List.getElem?_append_right (by omega), hk]
    simp only [Option.getD_some, ln]
    have e : ((k - R.length : Nat) : Rat) + 1 = (k : Rat) - ((R.length - 1 : Nat) : Rat) := by
      have e1 : (k : Rat) = ((k - R.length : Nat) : Rat) + (R.length : Rat) := by
        rw [← Rat.natCast_add]; congr 1; omega
      have e2 : (R.length : Rat) = ((R.length - 1 : Nat) : Rat) + 1 := by
        rw [show (1 : Rat) = ((1 : Nat) : Rat) from rfl, ← Rat.natCast_add]; congr 1; omega
      grind
    rw [e]
structure Pre (lo hi : Nat → Rat) (n : Nat) (R : List Rat) : Prop where
  ne : 0 < R.length
  len : R.length ≤ n
  within : ∀ k, k < R.length → lo k ≤ at0 R k ∧ at0 R k ≤ hi k
  bends : ∀ k, 0 < k → k + 1 < R.length → (at0 R k - at0 R (k - 1) < at0 R (k + 1) - at0 R k → at0 R k = hi k) ∧ (at0 R (k + 1) - at0 R k < at0 R k - at0 R (k - 1) → at0 R k = lo k)
  last : R.length = 1 ∨ ∃ a h s, Tch lo hi n a h s (R.length - 1) (at0 R (R.length - 1)) ∧ 1 < R.length ∧ at0 R (R.length - 1) - at0 R (R.length - 2) = s
theorem ln_succ (a : Nat) (h s : Rat) (k : Nat) : ln a h s (k + 1) = ln a h s k + s := by
  unfold ln
  rw [Rat.natCast_add]
  have : ((1 : Nat) : Rat) = 1 := rfl
  grind
theorem Pre.step {lo hi : Nat → Rat} {n : Nat} {R : List Rat} (ok : ∀ k, k < n → lo k ≤ hi k) (P : Pre lo hi n R) {s hq : Rat} {q : Nat} (T : Tch lo hi n (R.length - 1) (at0 R (R.length - 1)) s q hq) :
    Pre lo hi n (R ++ seg (at0 R (R.length - 1)) s (q - (R.length - 1))) := by
  have h0 := P.ne
  have q1 := T.q1
  have q2 := T.q2
  have len : (R ++ seg (at0 R (R.length - 1)) s (q - (R.length - 1))).length = q + 1 := by
    rw [List.length_append, seg_len]; omega
  have sg : ∀ k, R.length - 1 ≤ k → k ≤ q → at0 (R ++ seg (at0 R (R.length - 1)) s (q - (R.length - 1))) k = ln (R.length - 1) (at0 R (R.length - 1)) s k := fun k h1 h2 => at0_seg h0 h1 (by omega)
  have lf : ∀ k, k < R.length → at0 (R ++ seg (at0 R (R.length - 1)) s (q - (R.length - 1))) k = at0 R k := fun k h => at0_left h
  generalize hR : R ++ seg (at0 R (R.length - 1)) s (q - (R.length - 1)) = R' at *
  refine ⟨by omega, by omega, fun k hk => ?_, fun k h1 h2 => ?_, .inr ⟨R.length - 1, at0 R (R.length - 1), s, ?_⟩⟩
  · by_cases h : k < R.length
    · rw [lf k h]; exact P.within k h
    · rw [sg k (by omega) (by omega)]; exact T.free k (by omega) (by omega)
  · rw [len] at h2
    by_cases h : k + 1 < R.length
    · rw [lf k (by omega), lf (k + 1) h, lf (k - 1) (by omega)]
      exact P.bends k h1 h
    · by_cases h' : k = R.length - 1
      · have e1 : at0 R' (k + 1) - at0 R' k = s := by
          rw [sg (k + 1) (by omega) (by omega), sg k (by omega) (by omega), ln_succ]; grind
        have e2 : at0 R' (k - 1) = at0 R (R.length - 2) := by rw [lf (k - 1) (by omega)]; congr 1; omega
        have e3 : at0 R' k = at0 R (R.length - 1) := by rw [lf k (by omega), h']
        rw [e1, e2, e3]
        rcases P.last with z | ⟨a, h3, s3, T3, _, e4⟩
        · omega
        · rw [e4]
          have := T3.bend ok T
          rw [h']
          grind
      · have e1 : at0 R' (k + 1) - at0 R' k = s := by
          rw [sg (k + 1) (by omega) (by omega), sg k (by omega) (by omega), ln_succ]; grind
        have e2 : at0 R' k - at0 R' (k - 1) = s := by
          have := ln_succ (R.length - 1) (at0 R (R.length - 1)) s (k - 1)
          rw [show k - 1 + 1 = k by omega] at this
          rw [sg k (by omega) (by omega), sg (k - 1) (by omega) (by omega), this]; grind
        rw [e1, e2]
        grind
  · rw [len]
    have e0 : at0 R' (q + 1 - 1) = hq := by rw [Nat.add_sub_cancel, sg q (by omega) (by omega), ← T.at_]
    refine ⟨by rw [e0]; exact T, by omega, ?_⟩
    have := ln_succ (R.length - 1) (at0 R (R.length - 1)) s (q - 1)
    rw [show q - 1 + 1 = q by omega] at this
    rw [Nat.add_sub_cancel, show q + 1 - 2 = q - 1 by omega, sg q (by omega) (by omega), sg (q - 1) (by omega) (by omega), this]
    grind
/-- a row that is within the bounds and bends rightly -/
structure Taut (lo hi r : Nat → Rat) (n : Nat) : Prop where
  within : ∀ k, k < n → lo k ≤ r k ∧ r k ≤ hi k
  up : ∀ k, 0 < k → k + 1 < n → r k - r (k - 1) < r (k + 1) - r k → r k = hi k
  down : ∀ k, 0 < k → k + 1 < n → r (k + 1) - r k < r k - r (k - 1) → r k = lo k
theorem Pre.taut {lo hi : Nat → Rat} {n : Nat} {R : List Rat} (P : Pre lo hi n R) (h : R.length = n) : Taut lo hi (at0 R) n :=
  ⟨fun k hk => P.within k (by omega), fun k h1 h2 => (P.bends k h1 (by omega)).1, fun k h1 h2 => (P.bends k h1 (by omega)).2⟩
/-- greater bounds, no lower row -/
theorem Taut.le {lo hi lo' hi' r r' : Nat → Rat} {n : Nat} (T : Taut lo hi r n) (T' : Taut lo' hi' r' n) (hl : ∀ k, k < n → lo k ≤ lo' k) (hh : ∀ k, k < n → hi k ≤ hi' k) (h0 : r 0 ≤ r' 0) (h1 : r (n - 1) ≤ r' (n - 1)) : ∀ k, k < n → r k ≤ r' k := by
  have conv : ∀ k, 0 < k → k + 1 < n → r' k < r k → r k - r (k - 1) - (r' k - r' (k - 1)) ≤ r (k + 1) - r k - (r' (k + 1) - r' k) := fun k k1 k2 z => by
    have a1 := T.down k k1 k2
    have a2 := T'.up k k1 k2
    have a3 := T.within k (by omega)
    have a4 := T'.within k (by omega)
    have a5 := hl k (by omega)
    have a6 := hh k (by omega)
    grind
  have grow : ∀ j k, 0 < k → k + j < n → r' k < r k → 0 < r k - r (k - 1) - (r' k - r' (k - 1)) → r' (k + j) < r (k + j) ∧ 0 < r (k + j) - r (k + j - 1) - (r' (k + j) - r' (k + j - 1)) := fun j => by
    induction j with
    | zero => intro k k1 k2 z w; exact ⟨z, w⟩
    | succ j ih =>
      intro k k1 k2 z w
      obtain ⟨i1, i2⟩ := ih k k1 (by omega) z w
      have c := conv (k + j) (by omega) (by omega) i1
      have e : k + (j + 1) - 1 = k + j := by omega
      rw [e]
      have e2 : k + (j + 1) = k + j + 1 := by omega
      rw [e2]
      grind
  intro k
  induction k with
  | zero => intro _; exact h0
  | succ k ih =>
    intro hk
    have i := ih (by omega)
    by_cases z : r (k + 1) ≤ r' (k + 1)
    · exact z
    · exfalso
      have := grow (n - 1 - (k + 1)) (k + 1) (by omega) (by omega) (by grind) (by rw [Nat.add_sub_cancel]; grind)
      rw [show k + 1 + (n - 1 - (k + 1)) = n - 1 by omega] at this
      grind
theorem Taut.uniq {lo hi r r' : Nat → Rat} {n : Nat} (T : Taut lo hi r n) (T' : Taut lo hi r' n) (h0 : r 0 = r' 0) (h1 : r (n - 1) = r' (n - 1)) : ∀ k, k < n → r k = r' k := fun k hk => by
  have a := T.le T' (fun _ _ => Rat.le_refl) (fun _ _ => Rat.le_refl) (by grind) (by grind) k hk
  have b := T'.le T (fun _ _ => Rat.le_refl) (fun _ _ => Rat.le_refl) (by grind) (by grind) k hk
  grind
/-! ### what is least -/
def sumN (f : Nat → Rat) : Nat → Rat
  | 0 => 0
  | m + 1 => sumN f m + f m
theorem sumN_le {f g : Nat → Rat} : ∀ {m : Nat}, (∀ k, k < m → f k ≤ g k) → sumN f m ≤ sumN g m
  | 0, _ => Rat.le_refl
  | m + 1, h => by
    have := sumN_le (m := m) fun k hk => h k (by omega)
    have := h m (by omega)
    simp only [sumN]
    grind
theorem sumN_add {f g : Nat → Rat} : ∀ m : Nat, sumN (fun k => f k + g k) m = sumN f m + sumN g m
  | 0 => by simp only [sumN]; grind
  | m + 1 => by simp only [sumN, sumN_add m]; grind
theorem sumN_nn {f : Nat → Rat} : ∀ {m : Nat}, (∀ k, k < m → 0 ≤ f k) → 0 ≤ sumN f m
  | 0, _ => Rat.le_refl
  | m + 1, h => by
    have := sumN_nn (m := m) fun k hk => h k (by omega)
    have := h m (by omega)
    simp only [sumN]
    grind
theorem sumN_pos {f : Nat → Rat} : ∀ {m : Nat}, (∀ k, k < m → 0 ≤ f k) → ∀ j, j < m → 0 < f j → 0 < sumN f m
  | 0, _, _, h, _ => absurd h (Nat.not_lt_zero _)
  | m + 1, h, j, hj, hp => by
    have h1 := sumN_nn (m := m) fun k hk => h k (by omega)
    have h2 := h m (by omega)
    simp only [sumN]
    by_cases z : j = m
    · subst z; grind
    · have := sumN_pos (m := m) (fun k hk => h k (by omega)) j (by omega) hp
      grind
theorem tri (a b : Rat) : a < b ∨ a = b ∨ b < a := by grind
theorem mul_nn {a b : Rat} (ha : 0 ≤ a) (hb : 0 ≤ b) : 0 ≤ a * b := Rat.mul_nonneg ha hb
theorem mul_pp {a b : Rat} (ha : a ≤ 0) (hb : b ≤ 0) : 0 ≤ a * b := by
  have := Rat.mul_nonneg (a := -a) (b := -b) (by grind) (by grind)
  grind
/-- by parts: slopes of a measure along the taut row, times how another row differs -/
theorem Taut.parts {lo hi r x : Nat → Rat} {n : Nat} {g : Rat → Rat} (T : Taut lo hi r n) (hx : ∀ k, k < n → lo k ≤ x k ∧ x k ≤ hi k) (gm : ∀ s t, s ≤ t → g s ≤ g t) (b0 : 1 < n → g (r 1 - r 0) * (x 0 - r 0) ≤ 0) :
    ∀ m, m + 1 < n → g (r (m + 1) - r m) * (x (m + 1) - r (m + 1)) ≤ sumN (fun k => g (r (k + 1) - r k) * ((x (k + 1) - x k) - (r (k + 1) - r k))) (m + 1)
  | 0, h => by
    have := b0 (by omega)
    simp only [sumN, Nat.zero_add]
    generalize g (r 1 - r 0) = G at *
    grind
  | m + 1, h => by
    have ih := Taut.parts T hx gm b0 m (by omega)
    have u := T.up (m + 1) (by omega) h
    have d := T.down (m + 1) (by omega) h
    rw [Nat.add_sub_cancel] at u d
    have w := hx (m + 1) (by omega)
    rw [sumN]
    generalize sumN (fun k => g (r (k + 1) - r k) * ((x (k + 1) - x k) - (r (k + 1) - r k))) (m + 1) = Sm at *
    have e : g (r (m + 1 + 1) - r (m + 1)) * (x (m + 1 + 1) - r (m + 1 + 1)) = g (r (m + 1 + 1) - r (m + 1)) * (x (m + 1 + 1) - x (m + 1) - (r (m + 1 + 1) - r (m + 1))) + g (r (m + 1 + 1) - r (m + 1)) * (x (m + 1) - r (m + 1)) := by grind
    have key : g (r (m + 1 + 1) - r (m + 1)) * (x (m + 1) - r (m + 1)) ≤ g (r (m + 1) - r m) * (x (m + 1) - r (m + 1)) := by
      have e3 : (g (r (m + 1) - r m) - g (r (m + 1 + 1) - r (m + 1))) * (x (m + 1) - r (m + 1)) = g (r (m + 1) - r m) * (x (m + 1) - r (m + 1)) - g (r (m + 1 + 1) - r (m + 1)) * (x (m + 1) - r (m + 1)) := by grind
      have p : 0 ≤ (g (r (m + 1) - r m) - g (r (m + 1 + 1) - r (m + 1))) * (x (m + 1) - r (m + 1)) := by
        rcases tri (r (m + 1) - r m) (r (m + 1 + 1) - r (m + 1)) with z | z | z
        · have := gm _ _ (Rat.le_of_lt z)
          have := u z
          exact mul_pp (by grind) (by grind)
        · rw [z]; grind
        · have := gm _ _ (Rat.le_of_lt z)
          have := d z
          exact mul_nn (by grind) (by grind)
      grind
    grind
theorem Taut.least {lo hi r x : Nat → Rat} {m : Nat} {g : Rat → Rat} (T : Taut lo hi r (m + 2)) (hx : ∀ k, k < m + 2 → lo k ≤ x k ∧ x k ≤ hi k) (gm : ∀ s t, s ≤ t → g s ≤ g t) (b0 : g (r 1 - r 0) * (x 0 - r 0) ≤ 0) (b1 : 0 ≤ g (r (m + 1) - r m) * (x (m + 1) - r (m + 1))) :
    0 ≤ sumN (fun k => g (r (k + 1) - r k) * ((x (k + 1) - x k) - (r (k + 1) - r k))) (m + 1) := by
  have := Taut.parts T hx gm (fun _ => b0) m (by omega)
  grind
/-- no row has less worth by a measure -/
theorem Taut.worth {lo hi r x : Nat → Rat} {m : Nat} {φ g : Rat → Rat} (T : Taut lo hi r (m + 2)) (hx : ∀ k, k < m + 2 → lo k ≤ x k ∧ x k ≤ hi k) (gm : ∀ s t, s ≤ t → g s ≤ g t) (sub : ∀ s t, φ s + g s * (t - s) ≤ φ t) (b0 : g (r 1 - r 0) * (x 0 - r 0) ≤ 0) (b1 : 0 ≤ g (r (m + 1) - r m) * (x (m + 1) - r (m + 1))) :
    sumN (fun k => φ (r (k + 1) - r k)) (m + 1) ≤ sumN (fun k => φ (x (k + 1) - x k)) (m + 1) := by
  have h := Taut.least T hx gm b0 b1
  have h2 : sumN (fun k => φ (r (k + 1) - r k) + g (r (k + 1) - r k) * ((x (k + 1) - x k) - (r (k + 1) - r k))) (m + 1) ≤ sumN (fun k => φ (x (k + 1) - x k)) (m + 1) := sumN_le fun k _ => sub _ _
  rw [sumN_add] at h2
  grind
/-- its squares are less than another row's -/
theorem Taut.squares {lo hi r x : Nat → Rat} {m : Nat} (T : Taut lo hi r (m + 2)) (hx : ∀ k, k < m + 2 → lo k ≤ x k ∧ x k ≤ hi k) (b0 : (r 1 - r 0) * (x 0 - r 0) ≤ 0) (b1 : 0 ≤ (r (m + 1) - r m) * (x (m + 1) - r (m + 1))) :
    sumN (fun k => (r (k + 1) - r k) * (r (k + 1) - r k)) (m + 1) + sumN (fun k => ((x (k + 1) - x k) - (r (k + 1) - r k)) * ((x (k + 1) - x k) - (r (k + 1) - r k))) (m + 1) ≤ sumN (fun k => (x (k + 1) - x k) * (x (k + 1) - x k)) (m + 1) := by
  have h := Taut.least (g := fun s => s) T hx (fun s t z => z) b0 b1
  have e : sumN (fun k => (x (k + 1) - x k) * (x (k + 1) - x k)) (m + 1) = sumN (fun k => (r (k + 1) - r k) * (r (k + 1) - r k)) (m + 1) + sumN (fun k => ((x (k + 1) - x k) - (r (k + 1) - r k)) * ((x (k + 1) - x k) - (r (k + 1) - r k))) (m + 1) + (sumN (fun k => (r (k + 1) - r k) * ((x (k + 1) - x k) - (r (k + 1) - r k))) (m + 1) + sumN (fun k => (r (k + 1) - r k) * ((x (k + 1) - x k) - (r (k + 1) - r k))) (m + 1)) := by
    rw [← sumN_add, ← sumN_add, ← sumN_add]
    congr 1
    funext k
    grind
  grind
end Tt
set_option exponentiation.threshold 10000
/-! ### sums of numbers, greatest ones together -/
namespace Tt
def sumQ : List Rat → Rat
  | [] => 0
  | x :: l => x + sumQ l
theorem sumQ_app : ∀ {a b : List Rat}, sumQ (a ++ b) = sumQ a + sumQ b
  | [], b => by simp only [List.nil_append, sumQ]; grind
  | x :: a, b => by simp only [List.cons_append, sumQ, sumQ_app (a := a)]; grind
theorem sumQ_perm {a b : List Rat} (h : a.Perm b) : sumQ a = sumQ b := by
  induction h with
  | nil => rfl
  | cons x _ ih => simp only [sumQ, ih]
  | swap x y l => simp only [sumQ]; grind
  | trans _ _ h1 h2 => exact h1.trans h2
theorem sumQ_nn : ∀ {a : List Rat}, (∀ x ∈ a, 0 ≤ x) → 0 ≤ sumQ a
  | [], _ => Rat.le_refl
  | x :: a, h => by
    have := sumQ_nn (a := a) fun y hy => h y (by simp [hy])
    have := h x (by simp)
    simp only [sumQ]
    grind
theorem sumQ_zero : ∀ {a : List Rat}, (∀ x ∈ a, x = 0) → sumQ a = 0
  | [], _ => rfl
  | x :: a, h => by
    have := sumQ_zero (a := a) fun y hy => h y (by simp [hy])
    have := h x (by simp)
    simp only [sumQ]
    grind
theorem sumN_eq (f : Nat → Rat) : ∀ m, sumN f m = sumQ ((List.range m).map f)
  | 0 => rfl
  | m + 1 => by
    rw [sumN, List.range_succ, List.map_append, sumQ_app, sumN_eq f m]
    simp only [List.map_cons, List.map_nil, sumQ]
    grind
theorem sumN_mul (c : Rat) (f : Nat → Rat) : ∀ m, c * sumN f m = sumN (fun k => c * f k) m
  | 0 => by simp only [sumN]; grind
  | m + 1 => by rw [sumN, sumN, ← sumN_mul c f m]; grind
theorem sumI_cast : ∀ l : List Int, ((l.sum : Int) : Rat) = sumQ (l.map fun (x : Int) => (x : Rat))
  | [] => rfl
  | x :: l => by
    rw [List.sum_cons, Rat.intCast_add, sumI_cast l]
    rfl
/-- what is above c -/
def pl (c x : Rat) : Rat := if x ≤ c then 0 else x - c
theorem pl_nn (c x : Rat) : 0 ≤ pl c x := by unfold pl; split <;> grind
theorem pl_ge (c x : Rat) : x ≤ pl c x + c := by unfold pl; split <;> grind
theorem sum_pl (c : Rat) : ∀ a : List Rat, sumQ a ≤ sumQ (a.map (pl c)) + (a.length : Rat) * c
  | [] => by
    simp only [List.map_nil, sumQ, List.length_nil]
    have : ((0 : Nat) : Rat) = 0 := rfl
    grind
  | x :: a => by
    have := sum_pl c a
    have := pl_ge c x
    simp only [List.map_cons, sumQ, List.length_cons]
    have e : ((a.length + 1 : Nat) : Rat) = (a.length : Rat) + 1 := by rw [Rat.natCast_add]; rfl
    rw [e]
    grind
theorem sum_pl_eq (c : Rat) : ∀ a : List Rat, (∀ x ∈ a, c ≤ x) → sumQ a = sumQ (a.map (pl c)) + (a.length : Rat) * c
  | [], _ => by
    simp only [List.map_nil, sumQ, List.length_nil]
    have : ((0 : Nat) : Rat) = 0 := rfl
    grind
  | x :: a, h => by
    have := sum_pl_eq c a fun y hy => h y (by simp [hy])
    have hx := h x (by simp)
    have : pl c x = x - c := by unfold pl; split <;> grind
    simp only [List.map_cons, sumQ, List.length_cons]
    have e : ((a.length + 1 : Nat) : Rat) = (a.length : Rat) + 1 := by rw [Rat.natCast_add]; rfl
    rw [e]
    grind
/-- greatest ones together: what is less by each pl is less -/
theorem top_le {a b : List Rat} (hl : a.length = b.length) (hb : b.Pairwise (fun x y => y ≤ x)) (h : ∀ c, sumQ (a.map (pl c)) ≤ sumQ (b.map (pl c))) (k : Nat) (hk : k ≤ b.length) : sumQ (a.take k) ≤ sumQ (b.take k) := by
  by_cases k0 : k = 0
  · subst k0; exact Rat.le_refl
  obtain ⟨j, rfl⟩ : ∃ j, k = j + 1 := ⟨k - 1, by omega⟩
  have hj : j < b.length := by omega
  have s1 := sum_pl b[j] (a.take (j + 1))
  have s2 : sumQ ((a.take (j + 1)).map (pl b[j])) ≤ sumQ (a.map (pl b[j])) := by
    have e : a.map (pl b[j]) = (a.take (j + 1)).map (pl b[j]) ++ (a.drop (j + 1)).map (pl b[j]) := by
      rw [← List.map_append, List.take_append_drop]
    rw [e, sumQ_app]
    have := sumQ_nn (a := (a.drop (j + 1)).map (pl b[j])) fun x hx => by
      obtain ⟨y, _, rfl⟩ := List.mem_map.mp hx
      exact pl_nn _ _
    grind
  have s3 := h b[j]
  have e : b.map (pl b[j]) = (b.take (j + 1)).map (pl b[j]) ++ (b.drop (j + 1)).map (pl b[j]) := by
    rw [← List.map_append, List.take_append_drop]
  have pw := List.pairwise_iff_getElem.mp hb
  have z : sumQ ((b.drop (j + 1)).map (pl b[j])) = 0 := sumQ_zero fun x hx => by
    obtain ⟨y, hy, rfl⟩ := List.mem_map.mp hx
    obtain ⟨i, hi, rfl⟩ := List.getElem_of_mem hy
    rw [List.length_drop] at hi
    have := pw j (j + 1 + i) hj (by omega) (by omega)
    rw [List.getElem_drop]
    unfold pl
    rw [if_pos this]
  have s4 := sum_pl_eq b[j] (b.take (j + 1)) fun x hx => by
    obtain ⟨i, hi, rfl⟩ := List.getElem_of_mem hx
    rw [List.length_take] at hi
    rw [List.getElem_take]
    by_cases hij : i = j
    · subst hij; exact Rat.le_refl
    · exact pw i j (by omega) hj (by omega)
  rw [e, sumQ_app, z] at s3
  have l1 : (a.take (j + 1)).length = j + 1 := by rw [List.length_take]; omega
  have l2 : (b.take (j + 1)).length = j + 1 := by rw [List.length_take]; omega
  rw [l1] at s1
  rw [l2] at s4
  grind
/-- the slope of pl -/
def plg (c x : Rat) : Rat := if x ≤ c then 0 else 1
theorem plg_mono (c : Rat) : ∀ s t, s ≤ t → plg c s ≤ plg c t := fun s t h => by unfold plg; split <;> split <;> grind
theorem pl_sub (c : Rat) : ∀ s t, pl c s + plg c s * (t - s) ≤ pl c t := fun s t => by unfold pl plg; split <;> split <;> grind
/-- of a tied tube: by each pl the taut row has no more -/
theorem Taut.pl_le {lo hi r x : Nat → Rat} {m : Nat} (T : Taut lo hi r (m + 2)) (hx : ∀ k, k < m + 2 → lo k ≤ x k ∧ x k ≤ hi k) (f : x 0 = r 0) (l : x (m + 1) = r (m + 1)) (c : Rat) :
    sumN (fun k => pl c (r (k + 1) - r k)) (m + 1) ≤ sumN (fun k => pl c (x (k + 1) - x k)) (m + 1) :=
  T.worth (g := plg c) hx (plg_mono c) (pl_sub c) (by rw [f]; grind) (by rw [l]; grind)
theorem Taut.congr' {lo hi r r' : Nat → Rat} {n : Nat} (T : Taut lo hi r n) (h : ∀ k, k < n → r k = r' k) : Taut lo hi r' n := by
  refine ⟨fun k hk => ?_, fun k k0 hk => ?_, fun k k0 hk => ?_⟩
  · rw [← h k hk]; exact T.within k hk
  · rw [← h k (by omega), ← h (k + 1) hk, ← h (k - 1) (by omega)]; exact T.up k k0 hk
  · rw [← h k (by omega), ← h (k + 1) hk, ← h (k - 1) (by omega)]; exact T.down k k0 hk
end Tt
set_option exponentiation.threshold 10000
/-! ### data smoothed: what it is, that it is one alone, that it costs least; stairs -/
namespace Tt
/-- x is y smoothed at the price p -/
structure Sm (n : Nat) (y : Nat → Rat) (p : Rat) (x : Nat → Rat) : Prop where
  tot : sumN x n = sumN y n
  band : ∀ k, 0 < k → k < n → -p ≤ sumN x k - sumN y k ∧ sumN x k - sumN y k ≤ p
  up : ∀ k, 0 < k → k < n → x (k - 1) < x k → sumN x k - sumN y k = p
  down : ∀ k, 0 < k → k < n → x k < x (k - 1) → sumN x k - sumN y k = -p
def sLo (n : Nat) (y : Nat → Rat) (p : Rat) (k : Nat) : Rat := if k = 0 ∨ k = n then sumN y k else sumN y k - p
def sHi (n : Nat) (y : Nat → Rat) (p : Rat) (k : Nat) : Rat := if k = 0 ∨ k = n then sumN y k else sumN y k + p
theorem sumN_steps (R : Nat → Rat) : ∀ k, sumN (fun j => R (j + 1) - R j) k = R k - R 0
  | 0 => by simp only [sumN]; grind
  | k + 1 => by rw [sumN, sumN_steps R k]; grind
theorem sumN_le_congr {f g : Nat → Rat} {n : Nat} (h : ∀ k, k < n → f k = g k) : ∀ m, m ≤ n → sumN f m = sumN g m
  | 0, _ => rfl
  | m + 1, hm => by rw [sumN, sumN, sumN_le_congr h m (by omega), h m (by omega)]
theorem Sm.congr {n : Nat} {y x x' : Nat → Rat} {p : Rat} (S : Sm n y p x) (h : ∀ k, k < n → x k = x' k) : Sm n y p x' := by
  have e := sumN_le_congr h
  refine ⟨by rw [← e n (Nat.le_refl _)]; exact S.tot, fun k h1 h2 => ?_, fun k h1 h2 => ?_, fun k h1 h2 => ?_⟩
  · rw [← e k (by omega)]; exact S.band k h1 h2
  · rw [← e k (by omega), ← h k h2, ← h (k - 1) (by omega)]; exact S.up k h1 h2
  · rw [← e k (by omega), ← h k h2, ← h (k - 1) (by omega)]; exact S.down k h1 h2
theorem Sm.congrY {n : Nat} {y y' x : Nat → Rat} {p : Rat} (S : Sm n y p x) (h : ∀ k, k < n → y k = y' k) : Sm n y' p x := by
  have e := sumN_le_congr h
  refine ⟨by rw [← e n (Nat.le_refl _)]; exact S.tot, fun k h1 h2 => ?_, fun k h1 h2 => ?_, fun k h1 h2 => ?_⟩
  · rw [← e k (by omega)]; exact S.band k h1 h2
  · rw [← e k (by omega)]; exact S.up k h1 h2
  · rw [← e k (by omega)]; exact S.down k h1 h2
theorem Sm.of_taut {n : Nat} {y R : Nat → Rat} {p : Rat} (n0 : 0 < n) (T : Taut (sLo n y p) (sHi n y p) R (n + 1)) : Sm n y p (fun k => R (k + 1) - R k) := by
  have r0 : R 0 = 0 := by
    have := T.within 0 (by omega)
    simp only [sLo, sHi, true_or, if_true, sumN] at this
    grind
  have rn : R n = sumN y n := by
    have := T.within n (by omega)
    simp only [sLo, sHi, or_true, if_true] at this
    grind
  have l : ∀ k, 0 < k → k < n → sLo n y p k = sumN y k - p ∧ sHi n y p k = sumN y k + p := fun k h1 h2 => by
    have : ¬ (k = 0 ∨ k = n) := by omega
    exact ⟨if_neg this, if_neg this⟩
  refine ⟨?_, fun k h1 h2 => ?_, fun k h1 h2 h => ?_, fun k h1 h2 h => ?_⟩
  · rw [sumN_steps]; grind
  · have := T.within k (by omega)
    have := l k h1 h2
    rw [sumN_steps]; grind
  · have := l k h1 h2
    have e := T.up k h1 (by omega) (by rwa [show k - 1 + 1 = k by omega] at h)
    rw [sumN_steps]; grind
  · have := l k h1 h2
    have e := T.down k h1 (by omega) (by rwa [show k - 1 + 1 = k by omega] at h)
    rw [sumN_steps]; grind
theorem sumN_step (x : Nat → Rat) (k : Nat) : sumN x (k + 1) - sumN x k = x k := by rw [sumN]; grind
theorem Sm.taut {n : Nat} {y x : Nat → Rat} {p : Rat} (S : Sm n y p x) : Taut (sLo n y p) (sHi n y p) (sumN x) (n + 1) := by
  have l : ∀ k, 0 < k → k < n → sLo n y p k = sumN y k - p ∧ sHi n y p k = sumN y k + p := fun k h1 h2 => by
    have : ¬ (k = 0 ∨ k = n) := by omega
    exact ⟨if_neg this, if_neg this⟩
  refine ⟨fun k hk => ?_, fun k h1 h2 h => ?_, fun k h1 h2 h => ?_⟩
  · by_cases k0 : k = 0
    · subst k0
      simp only [sLo, sHi, true_or, if_true, sumN]
      exact ⟨Rat.le_refl, Rat.le_refl⟩
    · by_cases kn : k = n
      · subst kn
        simp only [sLo, sHi, or_true, if_true, S.tot]
        exact ⟨Rat.le_refl, Rat.le_refl⟩
      · have := S.band k (by omega) (by omega)
        have := l k (by omega) (by omega)
        grind
  · have := l k h1 (by omega)
    have a := sumN_step x k
    have b := sumN_step x (k - 1)
    rw [show k - 1 + 1 = k by omega] at b
    have := S.up k h1 (by omega) (by grind)
    grind
  · have := l k h1 (by omega)
    have a := sumN_step x k
    have b := sumN_step x (k - 1)
    rw [show k - 1 + 1 = k by omega] at b
    have := S.down k h1 (by omega) (by grind)
    grind
theorem Sm.uniq {n : Nat} {y x x' : Nat → Rat} {p : Rat} (S : Sm n y p x) (S' : Sm n y p x') : ∀ k, k < n → x k = x' k := fun k hk => by
  have h := S.taut.uniq S'.taut rfl (by rw [Nat.add_sub_cancel, S.tot, S'.tot])
  have a := sumN_step x k
  have b := sumN_step x' k
  rw [← a, ← b, h k (by omega), h (k + 1) (by omega)]
/-! how it lies beside the data -/
section
variable {n : Nat} {y x : Nat → Rat} {p : Rat}
theorem Sm.sum_le (S : Sm n y p x) (p0 : 0 ≤ p) (k : Nat) (hk : k ≤ n) : -p ≤ sumN x k - sumN y k ∧ sumN x k - sumN y k ≤ p := by
  by_cases k0 : k = 0
  · subst k0; simp only [sumN]; grind
  · by_cases kn : k = n
    · subst kn; rw [S.tot]; grind
    · exact S.band k (by omega) (by omega)
theorem Sm.up_in (S : Sm n y p x) (p0 : 0 ≤ p) (k : Nat) (h0 : 0 < k) (hk : k < n) (h : x (k - 1) < x k) : y (k - 1) ≤ x (k - 1) ∧ x k ≤ y k := by
  have e := S.up k h0 hk h
  have a := S.sum_le p0 (k - 1) (by omega)
  have b := S.sum_le p0 (k + 1) (by omega)
  have c1 := sumN_step x k
  have c2 := sumN_step y k
  have c3 := sumN_step x (k - 1)
  have c4 := sumN_step y (k - 1)
  rw [show k - 1 + 1 = k by omega] at c3 c4
  grind
theorem Sm.down_in (S : Sm n y p x) (p0 : 0 ≤ p) (k : Nat) (h0 : 0 < k) (hk : k < n) (h : x k < x (k - 1)) : x (k - 1) ≤ y (k - 1) ∧ y k ≤ x k := by
  have e := S.down k h0 hk h
  have a := S.sum_le p0 (k - 1) (by omega)
  have b := S.sum_le p0 (k + 1) (by omega)
  have c1 := sumN_step x k
  have c2 := sumN_step y k
  have c3 := sumN_step x (k - 1)
  have c4 := sumN_step y (k - 1)
  rw [show k - 1 + 1 = k by omega] at c3 c4
  grind
theorem Sm.le_most (S : Sm n y p x) (p0 : 0 ≤ p) {M : Rat} (h : ∀ k, k < n → y k ≤ M) : ∀ k, k < n → x k ≤ M := by
  have pos : ∀ k, k < n → M < x k → 0 < sumN x (k + 1) - sumN y (k + 1) := fun k => by
    induction k with
    | zero =>
      intro hk hM
      have := h 0 hk
      simp only [sumN]
      grind
    | succ k ih =>
      intro hk hM
      have a := h (k + 1) hk
      have c1 := sumN_step x (k + 1)
      have c2 := sumN_step y (k + 1)
      by_cases z : M < x k
      · have := ih (by omega) z
        grind
      · have := S.up (k + 1) (by omega) hk (by rw [Nat.add_sub_cancel]; grind)
        grind
  have no : ∀ j k, k + j + 1 = n → ¬ M < x k := fun j => by
    induction j with
    | zero =>
      intro k hk z
      have := pos k (by omega) z
      rw [show k + 1 = n by omega, S.tot] at this
      grind
    | succ j ih =>
      intro k hk z
      have a := pos k (by omega) z
      have b := ih (k + 1) (by omega)
      have := S.down (k + 1) (by omega) (by omega) (by rw [Nat.add_sub_cancel]; grind)
      grind
  intro k hk
  have := no (n - 1 - k) k (by omega)
  grind
theorem sumN_neg (f : Nat → Rat) : ∀ m, sumN (fun k => -f k) m = -sumN f m
  | 0 => by simp only [sumN]; grind
  | m + 1 => by rw [sumN, sumN, sumN_neg f m]; grind
theorem Sm.neg (S : Sm n y p x) : Sm n (fun k => -y k) p (fun k => -x k) := by
  refine ⟨by rw [sumN_neg, sumN_neg, S.tot], fun k h1 h2 => ?_, fun k h1 h2 h => ?_, fun k h1 h2 h => ?_⟩
  · have := S.band k h1 h2
    rw [sumN_neg, sumN_neg]; grind
  · have := S.down k h1 h2 (by grind)
    rw [sumN_neg, sumN_neg]; grind
  · have := S.up k h1 h2 (by grind)
    rw [sumN_neg, sumN_neg]; grind
theorem Sm.ge_least (S : Sm n y p x) (p0 : 0 ≤ p) {M : Rat} (h : ∀ k, k < n → M ≤ y k) : ∀ k, k < n → M ≤ x k := fun k hk => by
  have := S.neg.le_most p0 (M := -M) (fun k hk => by have := h k hk; grind) k hk
  grind
/-- smoothed twice -/
theorem Sm.then {z : Nat → Rat} {q : Rat} (S : Sm n y p x) (S' : Sm n x q z) (q0 : 0 ≤ q) : Sm n y (p + q) z := by
  refine ⟨by rw [S'.tot, S.tot], fun k h1 h2 => ?_, fun k h1 h2 h => ?_, fun k h1 h2 h => ?_⟩
  · have := S.band k h1 h2
    have := S'.band k h1 h2
    grind
  · have := S'.up_in q0 k h1 h2 h
    have := S'.up k h1 h2 h
    have := S.up k h1 h2 (by grind)
    grind
  · have := S'.down_in q0 k h1 h2 h
    have := S'.down k h1 h2 h
    have := S.down k h1 h2 (by grind)
    grind
theorem Sm.self (y : Nat → Rat) : Sm n y 0 y := ⟨rfl, fun k _ _ => by grind, fun k _ _ _ => by grind, fun k _ _ _ => by grind⟩
end
/-! what it costs -/
def absQ (q : Rat) : Rat := if q < 0 then -q else q
theorem absQ_nn (q : Rat) : 0 ≤ absQ q := by unfold absQ; split <;> grind
theorem absQ_ge (q : Rat) : q ≤ absQ q ∧ -q ≤ absQ q := by unfold absQ; split <;> grind
def costQ (n : Nat) (y : Nat → Rat) (p : Rat) (x : Nat → Rat) : Rat := sumN (fun k => (y k - x k) * (y k - x k)) n + 2 * p * sumN (fun k => absQ (x (k + 1) - x k)) (n - 1)
section
variable {n : Nat} {y x : Nat → Rat} {p : Rat}
/-- by parts -/
theorem by_parts (u D : Nat → Rat) : ∀ m, sumN (fun k => u k * (D (k + 1) - D k)) (m + 1) = u m * D (m + 1) - u 0 * D 0 - sumN (fun k => D (k + 1) * (u (k + 1) - u k)) m
  | 0 => by simp only [sumN]; grind
  | m + 1 => by rw [sumN, by_parts u D m, sumN]; grind
theorem sumN_sub (f g : Nat → Rat) (m : Nat) : sumN (fun k => f k - g k) m = sumN f m - sumN g m := by
  have := sumN_add (f := f) (g := fun k => -g k) m
  rw [sumN_neg] at this
  have e : (fun k => f k - g k) = fun k => f k + -g k := by funext k; grind
  rw [e, this]; grind
theorem Sm.least (S : Sm n y p x) (p0 : 0 ≤ p) (z : Nat → Rat) : costQ n y p x + sumN (fun k => (z k - x k) * (z k - x k)) n ≤ costQ n y p z := by
  match n, S with
  | 0, _ =>
    have e : ∀ f : Nat → Rat, sumN f 0 = 0 := fun _ => rfl
    simp only [costQ, Nat.zero_sub, e]; grind
  | m + 1, S =>
    have bp := by_parts (fun k => z k - x k) (fun k => sumN x k - sumN y k) m
    have e0 : ∀ k, (sumN x (k + 1) - sumN y (k + 1)) - (sumN x k - sumN y k) = x k - y k := fun k => by
      have c1 := sumN_step x k
      have c2 := sumN_step y k
      grind
    have e1 : sumN (fun k => (z k - x k) * ((sumN x (k + 1) - sumN y (k + 1)) - (sumN x k - sumN y k))) (m + 1) = sumN (fun k => (z k - x k) * (x k - y k)) (m + 1) := by
      congr 1; funext k; rw [e0]
    have t0 : sumN x (m + 1) - sumN y (m + 1) = 0 := by rw [S.tot]; grind
    have t1 : sumN x 0 - sumN y 0 = 0 := by simp only [sumN]; grind
    simp only [t0, t1] at bp
    rw [e1] at bp
    have key : sumN (fun k => p * absQ (x (k + 1) - x k) + (sumN x (k + 1) - sumN y (k + 1)) * (z (k + 1) - x (k + 1) - (z k - x k))) m ≤ sumN (fun k => p * absQ (z (k + 1) - z k)) m := sumN_le fun k hk => by
      have b := S.band (k + 1) (by omega) (by omega)
      have u := S.up (k + 1) (by omega) (by omega)
      have d := S.down (k + 1) (by omega) (by omega)
      rw [Nat.add_sub_cancel] at u d
      generalize sumN x (k + 1) - sumN y (k + 1) = D at *
      have ex : p * absQ (x (k + 1) - x k) = D * (x (k + 1) - x k) := by
        rcases tri (x k) (x (k + 1)) with h | h | h
        · rw [u h]
          have : absQ (x (k + 1) - x k) = x (k + 1) - x k := by unfold absQ; rw [if_neg (by grind)]
          rw [this]
        · have : x (k + 1) - x k = 0 := by grind
          rw [this]
          have : absQ 0 = 0 := by unfold absQ; rw [if_neg (by grind)]
          rw [this]; grind
        · rw [d h]
          have : absQ (x (k + 1) - x k) = -(x (k + 1) - x k) := by unfold absQ; rw [if_pos (by grind)]
          rw [this]; grind
      have ez : D * (z (k + 1) - z k) ≤ p * absQ (z (k + 1) - z k) := by
        generalize z (k + 1) - z k = w
        unfold absQ
        split
        · have := mul_pp (a := D - -p + -(D - -p) - (D + p)) (b := w) (by grind) (by grind)
          grind
        · have := mul_nn (a := p - D) (b := w) (by grind) (by grind)
          grind
      grind
    rw [sumN_add] at key
    have s1 : sumN (fun k => p * absQ (x (k + 1) - x k)) m = p * sumN (fun k => absQ (x (k + 1) - x k)) m := (sumN_mul p _ m).symm
    have s2 : sumN (fun k => p * absQ (z (k + 1) - z k)) m = p * sumN (fun k => absQ (z (k + 1) - z k)) m := (sumN_mul p _ m).symm
    rw [s1, s2] at key
    have sq : sumN (fun k => (y k - z k) * (y k - z k)) (m + 1) = sumN (fun k => (y k - x k) * (y k - x k)) (m + 1) + sumN (fun k => (z k - x k) * (z k - x k)) (m + 1) + 2 * sumN (fun k => (z k - x k) * (x k - y k)) (m + 1) := by
      rw [sumN_mul, ← sumN_add, ← sumN_add]
      congr 1; funext k; grind
    unfold costQ
    rw [Nat.add_sub_cancel]
    rw [sq]
    generalize sumN (fun k => absQ (x (k + 1) - x k)) m = A1 at *
    generalize sumN (fun k => absQ (z (k + 1) - z k)) m = A2 at *
    generalize sumN (fun k => (z k - x k) * (x k - y k)) (m + 1) = A3 at *
    generalize sumN (fun k => (sumN x (k + 1) - sumN y (k + 1)) * (z (k + 1) - x (k + 1) - (z k - x k))) m = A4 at *
    grind
theorem sq_nn (q : Rat) : 0 ≤ q * q := by
  rcases tri q 0 with a | a | a
  · exact mul_pp (Rat.le_of_lt a) (Rat.le_of_lt a)
  · rw [a]; grind
  · exact mul_nn (Rat.le_of_lt a) (Rat.le_of_lt a)
theorem sq_pos {q : Rat} (h : q ≠ 0) : 0 < q * q := by
  rcases tri q 0 with a | a | a
  · have := Rat.mul_pos (a := -q) (b := -q) (by grind) (by grind)
    grind
  · exact absurd a h
  · exact Rat.mul_pos a a
theorem Sm.less (S : Sm n y p x) (p0 : 0 ≤ p) {z : Nat → Rat} (h : ¬ ∀ k, k < n → z k = x k) : costQ n y p x < costQ n y p z := by
  have := S.least p0 z
  obtain ⟨k, hk⟩ := Classical.not_forall.mp h
  obtain ⟨h1, h2⟩ := Classical.not_imp.mp hk
  have := sumN_pos (f := fun k => (z k - x k) * (z k - x k)) (m := n) (fun j _ => sq_nn _) k h1 (sq_pos (by grind))
  grind
end
end Tt
set_option exponentiation.threshold 10000
/-! ### stairs: from one price to the next -/
namespace Tt
structure Nx (n : Nat) (y : Nat → Rat) (p : Rat) (x : Nat → Rat) (p' : Rat) (x' : Nat → Rat) : Prop where
  lt : p < p'
  tot : sumN x' n = sumN y n
  band : ∀ k, 0 < k → k < n → -p' ≤ sumN x' k - sumN y k ∧ sumN x' k - sumN y k ≤ p'
  up : ∀ k, 0 < k → k < n → x (k - 1) < x k → x' (k - 1) ≤ x' k ∧ sumN x' k - sumN y k = p'
  down : ∀ k, 0 < k → k < n → x k < x (k - 1) → x' k ≤ x' (k - 1) ∧ sumN x' k - sumN y k = -p'
  alike : ∀ k, 0 < k → k < n → x (k - 1) = x k → x' (k - 1) = x' k
  some : ∃ k, 0 < k ∧ k < n ∧ x (k - 1) ≠ x k ∧ x' (k - 1) = x' k
section
variable {n : Nat} {y x x' : Nat → Rat} {p p' : Rat}
theorem Nx.sm (h : Nx n y p x p' x') : Sm n y p' x' := by
  refine ⟨h.tot, h.band, fun k k0 hk z => ?_, fun k k0 hk z => ?_⟩
  · rcases tri (x (k - 1)) (x k) with a | a | a
    · exact (h.up k k0 hk a).2
    · have := h.alike k k0 hk a; grind
    · have := (h.down k k0 hk a).1; grind
  · rcases tri (x (k - 1)) (x k) with a | a | a
    · have := (h.up k k0 hk a).1; grind
    · have := h.alike k k0 hk a; grind
    · exact (h.down k k0 hk a).2
theorem sumN_mid (f g : Nat → Rat) (s : Rat) : ∀ m, sumN (fun k => f k + s * (g k - f k)) m = sumN f m + s * (sumN g m - sumN f m)
  | 0 => by simp only [sumN]; grind
  | m + 1 => by rw [sumN, sumN, sumN, sumN_mid f g s m]; grind
theorem mid_le {a b c d s : Rat} (h0 : 0 ≤ s) (h1 : s ≤ 1) (h : a ≤ c) (h' : b ≤ d) : a + s * (b - a) ≤ c + s * (d - c) := by
  have p1 := Rat.mul_nonneg (a := s) (b := d - b) h0 (by grind)
  have p2 := Rat.mul_nonneg (a := 1 - s) (b := c - a) (by grind) (by grind)
  grind
/-- between two prices all goes evenly -/
theorem Nx.mid (S : Sm n y p x) (h : Nx n y p x p' x') {s : Rat} (h0 : 0 ≤ s) (h1 : s ≤ 1) : Sm n y (p + s * (p' - p)) (fun k => x k + s * (x' k - x k)) := by
  have e := sumN_mid x x' s
  have d : ∀ k, sumN (fun k => x k + s * (x' k - x k)) k - sumN y k = (sumN x k - sumN y k) + s * ((sumN x' k - sumN y k) - (sumN x k - sumN y k)) := fun k => by rw [e k]; grind
  refine ⟨by rw [e, S.tot, h.tot]; grind, fun k k0 hk => ?_, fun k k0 hk z => ?_, fun k k0 hk z => ?_⟩
  · rw [d]
    have a := S.band k k0 hk
    have b := h.band k k0 hk
    have c1 := mid_le h0 h1 a.1 b.1
    have c2 := mid_le h0 h1 a.2 b.2
    exact ⟨by grind, by grind⟩
  · rw [d]
    rcases tri (x (k - 1)) (x k) with a | a | a
    · rw [S.up k k0 hk a, (h.up k k0 hk a).2]
    · have := h.alike k k0 hk a
      rw [a, this] at z; grind
    · have := (h.down k k0 hk a).1
      have := mid_le h0 h1 (Rat.le_of_lt a) this
      grind
  · rw [d]
    rcases tri (x (k - 1)) (x k) with a | a | a
    · have := (h.up k k0 hk a).1
      have := mid_le h0 h1 (Rat.le_of_lt a) this
      grind
    · have := h.alike k k0 hk a
      rw [a, this] at z; grind
    · rw [S.down k k0 hk a, (h.down k k0 hk a).2]; grind
theorem Nx.jump {s : Rat} (h : Nx n y p x p' x') (h0 : 0 ≤ s) (h1 : s < 1) {k : Nat} (k0 : 0 < k) (hk : k < n) (z : x (k - 1) ≠ x k) : x (k - 1) + s * (x' (k - 1) - x (k - 1)) ≠ x k + s * (x' k - x k) := by
  rcases tri (x (k - 1)) (x k) with a | a | a
  · have := (h.up k k0 hk a).1
    have p1 := Rat.mul_nonneg (a := s) (b := x' k - x' (k - 1)) h0 (by grind)
    have p2 := Rat.mul_pos (a := 1 - s) (b := x k - x (k - 1)) (by grind) (by grind)
    grind
  · exact absurd a z
  · have := (h.down k k0 hk a).1
    have p1 := Rat.mul_nonneg (a := s) (b := x' (k - 1) - x' k) h0 (by grind)
    have p2 := Rat.mul_pos (a := 1 - s) (b := x (k - 1) - x k) (by grind) (by grind)
    grind
theorem Nx.le {x'' : Nat → Rat} {p'' : Rat} (S : Sm n y p x) (h : Nx n y p x p' x') (h' : Nx n y p x p'' x'') : ¬ p' < p'' := fun lt => by
  have a := h.lt
  have dp : p'' - p ≠ 0 := by grind
  have e : (p' - p) / (p'' - p) * (p'' - p) = p' - p := by grind
  generalize (p' - p) / (p'' - p) = s at *
  have s0 : 0 ≤ s := by
    rcases tri s 0 with z | z | z
    · have := Rat.mul_pos (a := -s) (b := p'' - p) (by grind) (by grind)
      grind
    · grind
    · grind
  have s1 : s < 1 := by
    rcases tri s 1 with z | z | z
    · exact z
    · rw [z] at e; grind
    · have := Rat.mul_pos (a := s - 1) (b := p'' - p) (by grind) (by grind)
      grind
  have M := h'.mid S s0 (Rat.le_of_lt s1)
  rw [e, show p + (p' - p) = p' by grind] at M
  obtain ⟨k, k0, hk, z1, z2⟩ := h.some
  have u := M.uniq h.sm
  have j := h'.jump s0 s1 k0 hk z1
  have u1 := u k hk
  have u2 := u (k - 1) (by omega)
  rw [u1, u2] at j
  exact j z2
theorem Nx.uniq {x'' : Nat → Rat} {p'' : Rat} (S : Sm n y p x) (h : Nx n y p x p' x') (h' : Nx n y p x p'' x'') : p' = p'' ∧ ∀ k, k < n → x' k = x'' k := by
  have a := h.le S h'
  have b := h'.le S h
  have e : p' = p'' := by grind
  subst e
  exact ⟨rfl, h.sm.uniq h'.sm⟩
end
/-- from a price and its row on: all further ones, the last row alike throughout -/
def Stair (n : Nat) (y : Nat → Rat) : Rat → List Rat → List (Rat × List Rat) → Prop
  | _, x, [] => ∀ k, 0 < k → k < n → at0 x (k - 1) = at0 x k
  | p, x, q :: L => q.2.length = n ∧ Nx n y p (at0 x) q.1 (at0 q.2) ∧ Stair n y q.1 q.2 L
theorem rows_eq {a b : List Rat} {n : Nat} (ha : a.length = n) (hb : b.length = n) (h : ∀ k, k < n → at0 a k = at0 b k) : a = b := List.ext_getElem (by omega) fun k h1 h2 => by
  have := h k (by omega)
  simpa [at0, h1, h2] using this
theorem Stair.uniq {n : Nat} {y : Nat → Rat} : ∀ {L L' : List (Rat × List Rat)} {p : Rat} {x : List Rat}, Sm n y p (at0 x) → Stair n y p x L → Stair n y p x L' → L = L'
  | [], [], _, _, _, _, _ => rfl
  | [], _ :: _, _, _, _, h, h' => by
    obtain ⟨k, k0, hk, z, _⟩ := h'.2.1.some
    exact absurd (h k k0 hk) z
  | _ :: _, [], _, _, _, h, h' => by
    obtain ⟨k, k0, hk, z, _⟩ := h.2.1.some
    exact absurd (h' k k0 hk) z
  | (p1, x1) :: L, (p2, x2) :: L', p, x, S, h, h' => by
    obtain ⟨l, a, b⟩ := h
    obtain ⟨l', a', b'⟩ := h'
    obtain ⟨e1, e2⟩ := a.uniq S a'
    simp only at e1 e2 l l' b b' a
    subst e1
    have ex := rows_eq l l' e2
    subst ex
    rw [Stair.uniq a.sm b b']
/-! ### carried over -/
section
variable {n : Nat} {y x x' : Nat → Rat} {p p' : Rat}
theorem sumN_aff (f : Nat → Rat) (a c : Rat) : ∀ m, sumN (fun k => f k * a + c) m = sumN f m * a + (m : Rat) * c
  | 0 => by
    simp only [sumN]
    have : ((0 : Nat) : Rat) = 0 := rfl
    grind
  | m + 1 => by
    have e : ((m + 1 : Nat) : Rat) = (m : Rat) + 1 := by rw [Rat.natCast_add]; rfl
    rw [sumN, sumN, sumN_aff f a c m, e]; grind
theorem aff_lt {a c u v : Rat} (h : 0 < a) : u * a + c < v * a + c ↔ u < v := by
  have := mul_lt_iff (x := u) (y := v) h
  grind
theorem aff_eq {a c u v : Rat} (h : 0 < a) : u * a + c = v * a + c ↔ u = v := by
  constructor
  · intro e
    have e2 : (u - v) * a = 0 := by grind
    rcases Rat.mul_eq_zero.mp e2 with z | z <;> grind
  · intro e; rw [e]
theorem aff_le {a c u v : Rat} (h : 0 < a) : u * a + c ≤ v * a + c ↔ u ≤ v := by
  have := aff_lt (c := c) (u := v) (v := u) h
  grind
theorem aff_d (a c : Rat) (k : Nat) : sumN (fun k => x k * a + c) k - sumN (fun k => y k * a + c) k = (sumN x k - sumN y k) * a := by
  rw [sumN_aff, sumN_aff]; grind
theorem Sm.aff (S : Sm n y p x) {a : Rat} (c : Rat) (h : 0 < a) : Sm n (fun k => y k * a + c) (p * a) (fun k => x k * a + c) := by
  refine ⟨by rw [sumN_aff, sumN_aff, S.tot], fun k k0 hk => ?_, fun k k0 hk z => ?_, fun k k0 hk z => ?_⟩
  · rw [aff_d]
    have b := S.band k k0 hk
    have b1 := aff_le (a := a) (c := 0) (u := -p) (v := sumN x k - sumN y k) h
    have b2 := aff_le (a := a) (c := 0) (u := sumN x k - sumN y k) (v := p) h
    grind
  · rw [aff_d, S.up k k0 hk ((aff_lt h).mp z)]
  · rw [aff_d, S.down k k0 hk ((aff_lt h).mp z)]; grind
theorem Nx.aff (S : Nx n y p x p' x') {a : Rat} (c : Rat) (h : 0 < a) : Nx n (fun k => y k * a + c) (p * a) (fun k => x k * a + c) (p' * a) (fun k => x' k * a + c) := by
  have sm := S.sm.aff c h
  refine ⟨?_, sm.tot, sm.band, fun k k0 hk z => ?_, fun k k0 hk z => ?_, fun k k0 hk z => ?_, ?_⟩
  · have := mul_lt_iff (x := p) (y := p') h
    exact this.mpr S.lt
  · obtain ⟨u, v⟩ := S.up k k0 hk ((aff_lt h).mp z)
    exact ⟨(aff_le h).mpr u, by rw [aff_d, v]⟩
  · obtain ⟨u, v⟩ := S.down k k0 hk ((aff_lt h).mp z)
    exact ⟨(aff_le h).mpr u, by rw [aff_d, v]; grind⟩
  · exact (aff_eq h).mpr (S.alike k k0 hk ((aff_eq h).mp z))
  · obtain ⟨k, k0, hk, u, v⟩ := S.some
    exact ⟨k, k0, hk, fun e => u ((aff_eq h).mp e), (aff_eq h).mpr v⟩
theorem Nx.neg (S : Nx n y p x p' x') : Nx n (fun k => -y k) p (fun k => -x k) p' (fun k => -x' k) := by
  have sm := S.sm.neg
  refine ⟨S.lt, sm.tot, sm.band, fun k k0 hk z => ?_, fun k k0 hk z => ?_, fun k k0 hk z => ?_, ?_⟩
  · obtain ⟨u, v⟩ := S.down k k0 hk (by grind)
    exact ⟨by grind, by rw [sumN_neg, sumN_neg]; grind⟩
  · obtain ⟨u, v⟩ := S.up k k0 hk (by grind)
    exact ⟨by grind, by rw [sumN_neg, sumN_neg]; grind⟩
  · have := S.alike k k0 hk (by grind)
    grind
  · obtain ⟨k, k0, hk, u, v⟩ := S.some
    exact ⟨k, k0, hk, by grind, by grind⟩
/-- back to front -/
def rv (n : Nat) (f : Nat → Rat) (k : Nat) : Rat := f (n - 1 - k)
theorem sumN_rv (f : Nat → Rat) (n : Nat) : ∀ k, k ≤ n → sumN (rv n f) k = sumN f n - sumN f (n - k)
  | 0, _ => by simp only [sumN, Nat.sub_zero]; grind
  | k + 1, h => by
    have c := sumN_step f (n - (k + 1))
    rw [show n - (k + 1) + 1 = n - k by omega] at c
    rw [sumN, sumN_rv f n k (by omega), rv, show n - 1 - k = n - (k + 1) by omega]
    grind
theorem Sm.rv (S : Sm n y p x) : Sm n (rv n y) p (rv n x) := by
  have d : ∀ k, k ≤ n → sumN (Tt.rv n x) k - sumN (Tt.rv n y) k = -(sumN x (n - k) - sumN y (n - k)) := fun k hk => by
    rw [sumN_rv x n k hk, sumN_rv y n k hk, S.tot]; grind
  have i : ∀ k, 0 < k → k < n → n - 1 - (k - 1) = n - k ∧ n - 1 - k = n - k - 1 := fun k h1 h2 => by omega
  refine ⟨?_, fun k k0 hk => ?_, fun k k0 hk z => ?_, fun k k0 hk z => ?_⟩
  · rw [sumN_rv x n n (Nat.le_refl _), sumN_rv y n n (Nat.le_refl _), Nat.sub_self, S.tot]
    rfl
  · rw [d k (by omega)]
    have := S.band (n - k) (by omega) (by omega)
    grind
  · rw [d k (by omega)]
    have := S.down (n - k) (by omega) (by omega) (by
      unfold Tt.rv at z
      rwa [(i k k0 hk).1, (i k k0 hk).2] at z)
    grind
  · rw [d k (by omega)]
    have := S.up (n - k) (by omega) (by omega) (by
      unfold Tt.rv at z
      rwa [(i k k0 hk).1, (i k k0 hk).2] at z)
    grind
theorem Nx.rv (S : Nx n y p x p' x') : Nx n (rv n y) p (rv n x) p' (rv n x') := by
  have sm := S.sm.rv
  have d : ∀ k, k ≤ n → sumN (Tt.rv n x') k - sumN (Tt.rv n y) k = -(sumN x' (n - k) - sumN y (n - k)) := fun k hk => by
    rw [sumN_rv x' n k hk, sumN_rv y n k hk, S.tot]; grind
  have i : ∀ k, 0 < k → k < n → n - 1 - (k - 1) = n - k ∧ n - 1 - k = n - k - 1 := fun k h1 h2 => by omega
  refine ⟨S.lt, sm.tot, sm.band, fun k k0 hk z => ?_, fun k k0 hk z => ?_, fun k k0 hk z => ?_, ?_⟩
  · unfold Tt.rv at z ⊢
    rw [(i k k0 hk).1, (i k k0 hk).2] at z ⊢
    obtain ⟨u, v⟩ := S.down (n - k) (by omega) (by omega) z
    exact ⟨u, by have := d k (by omega); unfold Tt.rv at this; grind⟩
  · unfold Tt.rv at z ⊢
    rw [(i k k0 hk).1, (i k k0 hk).2] at z ⊢
    obtain ⟨u, v⟩ := S.up (n - k) (by omega) (by omega) z
    exact ⟨u, by have := d k (by omega); unfold Tt.rv at this; grind⟩
  · unfold Tt.rv at z ⊢
    rw [(i k k0 hk).1, (i k k0 hk).2] at z ⊢
    exact (S.alike (n - k) (by omega) (by omega) z.symm).symm
  · obtain ⟨k, k0, hk, u, v⟩ := S.some
    refine ⟨n - k, by omega, by omega, ?_, ?_⟩
    · unfold Tt.rv
      rw [show n - 1 - (n - k - 1) = k by omega, show n - 1 - (n - k) = k - 1 by omega]
      exact fun e => u e.symm
    · unfold Tt.rv
      rw [show n - 1 - (n - k - 1) = k by omega, show n - 1 - (n - k) = k - 1 by omega]
      exact v.symm
end
theorem Nx.congr {n : Nat} {y y2 x x2 x' x2' : Nat → Rat} {p p' : Rat} (S : Nx n y p x p' x') (hy : ∀ k, k < n → y k = y2 k) (hx : ∀ k, k < n → x k = x2 k) (hx' : ∀ k, k < n → x' k = x2' k) : Nx n y2 p x2 p' x2' := by
  have e := sumN_le_congr hx'
  have e2 := sumN_le_congr hy
  refine ⟨S.lt, by rw [← e n (Nat.le_refl _), ← e2 n (Nat.le_refl _)]; exact S.tot, fun k h1 h2 => ?_, fun k h1 h2 => ?_, fun k h1 h2 => ?_, fun k h1 h2 => ?_, ?_⟩
  · rw [← e k (by omega), ← e2 k (by omega)]; exact S.band k h1 h2
  · rw [← e k (by omega), ← e2 k (by omega), ← hx k h2, ← hx (k - 1) (by omega), ← hx' k h2, ← hx' (k - 1) (by omega)]; exact S.up k h1 h2
  · rw [← e k (by omega), ← e2 k (by omega), ← hx k h2, ← hx (k - 1) (by omega), ← hx' k h2, ← hx' (k - 1) (by omega)]; exact S.down k h1 h2
  · rw [← hx k h2, ← hx (k - 1) (by omega), ← hx' k h2, ← hx' (k - 1) (by omega)]; exact S.alike k h1 h2
  · obtain ⟨k, k0, hk, u, v⟩ := S.some
    exact ⟨k, k0, hk, by rwa [← hx k hk, ← hx (k - 1) (by omega)], by rwa [← hx' k hk, ← hx' (k - 1) (by omega)]⟩
theorem at0_map {f : Rat → Rat} {x : List Rat} {k : Nat} (h : k < x.length) : at0 (x.map f) k = f (at0 x k) := by simp [at0, h]
theorem at0_rev {x : List Rat} {k : Nat} (h : k < x.length) : at0 x.reverse k = rv x.length (at0 x) k := by
  unfold rv
  simp [at0, h, show x.length - 1 - k < x.length by omega]
/-- carries stairs over -/
structure Carry (n : Nat) (F : List Rat → List Rat) (a : Rat) : Prop where
  len : ∀ x : List Rat, x.length = n → (F x).length = n
  nx : ∀ (y x x' : List Rat) (p p' : Rat), y.length = n → x.length = n → x'.length = n → Nx n (at0 y) p (at0 x) p' (at0 x') → Nx n (at0 (F y)) (p * a) (at0 (F x)) (p' * a) (at0 (F x'))
  flat : ∀ x : List Rat, x.length = n → (∀ k, 0 < k → k < n → at0 x (k - 1) = at0 x k) → ∀ k, 0 < k → k < n → at0 (F x) (k - 1) = at0 (F x) k
theorem Carry.stair {n : Nat} {F : List Rat → List Rat} {a : Rat} (C : Carry n F a) {y : List Rat} (hy : y.length = n) : ∀ {L : List (Rat × List Rat)} {p : Rat} {x : List Rat}, x.length = n → Stair n (at0 y) p x L → Stair n (at0 (F y)) (p * a) (F x) (L.map fun q => (q.1 * a, F q.2))
  | [], _, x, hx, h => C.flat x hx h
  | q :: L, p, x, hx, ⟨l, h1, h2⟩ => ⟨C.len _ l, C.nx y x q.2 p q.1 hy hx l h1, C.stair hy l h2⟩
theorem Carry.comp {n : Nat} {F G : List Rat → List Rat} {a b : Rat} (C : Carry n F a) (C' : Carry n G b) : Carry n (fun x => G (F x)) (a * b) :=
  ⟨fun x hx => C'.len _ (C.len _ hx), fun y x x' p p' hy hx hx' h => by
    have := C'.nx _ _ _ _ _ (C.len _ hy) (C.len _ hx) (C.len _ hx') (C.nx y x x' p p' hy hx hx' h)
    rwa [Rat.mul_assoc, Rat.mul_assoc] at this, fun x hx h => C'.flat _ (C.len _ hx) (C.flat x hx h)⟩
theorem Carry.aff {n : Nat} {a : Rat} (c : Rat) (h : 0 < a) : Carry n (fun x => x.map fun v => v * a + c) a := by
  refine ⟨fun x hx => by simp [hx], fun y x x' p p' hy hx hx' S => ?_, fun x hx h k k0 hk => ?_⟩
  · have e : ∀ z : List Rat, z.length = n → ∀ k, k < n → at0 z k * a + c = at0 (z.map fun v => v * a + c) k := fun z hz k hk => by
      rw [at0_map (by omega)]
    exact (S.aff c h).congr (e y hy) (e x hx) (e x' hx')
  · rw [at0_map (by omega), at0_map (by omega)]; rw [h k k0 hk]
theorem Carry.neg {n : Nat} : Carry n (fun x => x.map fun v => 0 - v) 1 := by
  refine ⟨fun x hx => by simp [hx], fun y x x' p p' hy hx hx' S => ?_, fun x hx h k k0 hk => ?_⟩
  · have e : ∀ z : List Rat, z.length = n → ∀ k, k < n → -at0 z k = at0 (z.map fun v => 0 - v) k := fun z hz k hk => by
      rw [at0_map (by omega)]; grind
    rw [Rat.mul_one, Rat.mul_one]
    exact S.neg.congr (e y hy) (e x hx) (e x' hx')
  · rw [at0_map (by omega), at0_map (by omega), h k k0 hk]
theorem Carry.rev {n : Nat} : Carry n List.reverse 1 := by
  refine ⟨fun x hx => by simp [hx], fun y x x' p p' hy hx hx' S => ?_, fun x hx h k k0 hk => ?_⟩
  · have e : ∀ z : List Rat, z.length = n → ∀ k, k < n → rv n (at0 z) k = at0 z.reverse k := fun z hz k hk => by
      rw [at0_rev (by omega), hz]
    rw [Rat.mul_one, Rat.mul_one]
    exact S.rv.congr (e y hy) (e x hx) (e x' hx')
  · rw [at0_rev (by omega), at0_rev (by omega), hx]
    unfold rv
    have := h (n - k) (by omega) (by omega)
    rw [show n - 1 - (k - 1) = n - k by omega, show n - 1 - k = n - k - 1 by omega]
    exact this.symm
theorem Carry.id {n : Nat} : Carry n (fun x => x) 1 := ⟨fun _ h => h, fun y x x' p p' _ _ _ S => by rwa [Rat.mul_one, Rat.mul_one], fun _ _ h => h⟩
end Tt
set_option exponentiation.threshold 10000
/-! ### rows with loose ends, and round a ring -/
namespace Tt
/-- the step that leads to a place; b: round a ring -/
def stp (b : Bool) (r : Nat → Rat) (n k : Nat) : Rat := if k = 0 ∨ n ≤ k then (if b = true then r 0 - r (n - 1) else 0) else r k - r (k - 1)
structure Bent (b : Bool) (lo hi r : Nat → Rat) (n : Nat) : Prop where
  within : ∀ k, k < n → lo k ≤ r k ∧ r k ≤ hi k
  up : ∀ k, k < n → stp b r n k < stp b r n (k + 1) → r k = hi k
  down : ∀ k, k < n → stp b r n (k + 1) < stp b r n k → r k = lo k
theorem stp_in {b : Bool} {r : Nat → Rat} {n k : Nat} (h0 : 0 < k) (h : k < n) : stp b r n k = r k - r (k - 1) := by
  unfold stp
  rw [if_neg (by omega)]
theorem stp_succ {b : Bool} {r : Nat → Rat} {n k : Nat} (h : k + 1 < n) : stp b r n (k + 1) = r (k + 1) - r k := by
  rw [stp_in (by omega) h, Nat.add_sub_cancel]
theorem stp_end {b : Bool} {r : Nat → Rat} {n k : Nat} (h : n ≤ k) : stp b r n k = stp b r n 0 := by
  simp [stp, h]
theorem stp_loose {r : Nat → Rat} {n : Nat} : stp false r n 0 = 0 := by simp [stp]
theorem stp_ring {r : Nat → Rat} {n : Nat} : stp true r n 0 = r 0 - r (n - 1) := by simp [stp]
theorem argmax (f : Nat → Rat) : ∀ {n : Nat}, 0 < n → ∃ k, k < n ∧ ∀ j, j < n → f j ≤ f k
  | 0, h => by omega
  | n + 1, _ => by
    by_cases hn : n = 0
    · subst hn
      exact ⟨0, by omega, fun j hj => by
        have : j = 0 := by omega
        subst this
        exact Rat.le_refl⟩
    · obtain ⟨k, hk, h⟩ := argmax f (n := n) (by omega)
      by_cases c : f k < f n
      · refine ⟨n, by omega, fun j hj => ?_⟩
        by_cases e : j = n
        · subst e; exact Rat.le_refl
        · have := h j (by omega)
          grind
      · refine ⟨k, by omega, fun j hj => ?_⟩
        by_cases e : j = n
        · subst e; grind
        · exact h j (by omega)
theorem stp_flat {b : Bool} {r : Nat → Rat} {n : Nat} (h : ∀ k, k < n → stp b r n (k + 1) = stp b r n k) : ∀ k, k < n → r k = r 0 := by
  have a : ∀ k, k ≤ n → stp b r n k = stp b r n 0 := fun k => by
    induction k with
    | zero => exact fun _ => rfl
    | succ k ih => exact fun hk => (h k (by omega)).trans (ih (by omega))
  have e : ∀ k, k < n → r k = r 0 + (k : Rat) * stp b r n 0 := fun k => by
    induction k with
    | zero =>
      intro _
      have : ((0 : Nat) : Rat) = 0 := rfl
      grind
    | succ k ih =>
      intro hk
      have i := ih (by omega)
      have s := a (k + 1) (by omega)
      rw [stp_succ hk] at s
      have c : ((k + 1 : Nat) : Rat) = (k : Rat) + 1 := by rw [Rat.natCast_add]; rfl
      rw [c]
      grind
  intro k hk
  have z : stp b r n 0 = 0 := by
    cases b
    · exact stp_loose
    · have l := e (n - 1) (by omega)
      have s := stp_ring (r := r) (n := n)
      have c : ((n - 1 : Nat) : Rat) = (n : Rat) - 1 := by
        have : ((n - 1 + 1 : Nat) : Rat) = ((n - 1 : Nat) : Rat) + 1 := by rw [Rat.natCast_add]; rfl
        rw [show n - 1 + 1 = n by omega] at this
        grind
      rw [c] at l
      have np : (0 : Rat) < (n : Rat) := by
        have : 0 < n := by omega
        exact_mod_cast this
      have : (n : Rat) * stp true r n 0 = 0 := by grind
      rcases Rat.mul_eq_zero.mp this with h | h
      · grind
      · exact h
  rw [e k hk, z]
  grind
section
variable {b : Bool} {lo hi lo' hi' r r' : Nat → Rat} {n : Nat}
/-- of two tubes in order: the rows are in order, or the one is level above the other, which is level, too -/
theorem Bent.far (B : Bent b lo hi r n) (B' : Bent b lo' hi' r' n) (hl : ∀ k, k < n → lo k ≤ lo' k) (hh : ∀ k, k < n → hi k ≤ hi' k) :
    (∀ k, k < n → r k ≤ r' k) ∨ ∃ d, 0 < d ∧ (∀ k, k < n → r k = r' k + d) ∧ (∀ k, k < n → lo k < r k) ∧ ∀ k, k < n → r k = r 0 := by
  by_cases all : ∀ k, k < n → r k ≤ r' k
  · exact .inl all
  have n0 : 0 < n := by
    by_cases h : 0 < n
    · exact h
    · exact absurd (fun k hk => by omega) all
  obtain ⟨m, hm, max⟩ := argmax (fun k => r k - r' k) n0
  have D0 : 0 < r m - r' m := by
    have : ∃ k, k < n ∧ r' k < r k := by
      by_cases h : ∃ k, k < n ∧ r' k < r k
      · exact h
      · exact absurd (fun k hk => by
          by_cases c : r' k < r k
          · exact absurd ⟨k, hk, c⟩ h
          · grind) all
    obtain ⟨k, hk, c⟩ := this
    have := max k hk
    grind
  generalize hD : r m - r' m = d at *
  -- at a place where they are furthest apart
  have at_ : ∀ k, k < n → r k - r' k = d → stp b r n k - stp b r' n k ≤ stp b r n (k + 1) - stp b r' n (k + 1) := fun k hk e => by
    have w := B.within k hk
    have w' := B'.within k hk
    have h1 := hl k hk
    have h2 := hh k hk
    have a : stp b r n k ≤ stp b r n (k + 1) := by
      by_cases c : stp b r n (k + 1) < stp b r n k
      · have := B.down k hk c
        grind
      · grind
    have a' : stp b r' n (k + 1) ≤ stp b r' n k := by
      by_cases c : stp b r' n k < stp b r' n (k + 1)
      · have := B'.up k hk c
        grind
      · grind
    grind
  have e0 : ∀ k, k < n → r k - r' k = d → 0 ≤ stp b r n k - stp b r' n k := fun k hk e => by
    by_cases k0 : k = 0
    · subst k0
      cases b
      · rw [stp_loose, stp_loose]; grind
      · rw [stp_ring, stp_ring]
        have := max (n - 1) (by omega)
        grind
    · rw [stp_in (by omega) hk, stp_in (by omega) hk]
      have := max (k - 1) (by omega)
      grind
  have e1 : ∀ k, k < n → r k - r' k = d → stp b r n (k + 1) - stp b r' n (k + 1) ≤ 0 := fun k hk e => by
    by_cases kn : k + 1 < n
    · rw [stp_succ kn, stp_succ kn]
      have := max (k + 1) kn
      grind
    · rw [stp_end (k := k + 1) (by omega), stp_end (k := k + 1) (by omega)]
      cases b
      · rw [stp_loose, stp_loose]; grind
      · rw [stp_ring, stp_ring]
        have := max 0 n0
        have : k = n - 1 := by omega
        subst this
        grind
  have nx : ∀ k, k + 1 < n → r k - r' k = d → r (k + 1) - r' (k + 1) = d := fun k hk e => by
    have a := at_ k (by omega) e
    have c := e0 k (by omega) e
    rw [stp_succ hk, stp_succ hk] at a
    have := max (k + 1) hk
    grind
  have pv : ∀ k, k + 1 < n → r (k + 1) - r' (k + 1) = d → r k - r' k = d := fun k hk e => by
    have a := at_ (k + 1) hk e
    have c := e1 (k + 1) hk e
    rw [stp_succ hk, stp_succ hk] at a
    have := max k (by omega)
    grind
  have down : ∀ i, i ≤ m → r (m - i) - r' (m - i) = d := fun i => by
    induction i with
    | zero => exact fun _ => hD
    | succ i ih =>
      intro hi
      have := ih (by omega)
      have e : m - i = m - (i + 1) + 1 := by omega
      rw [e] at this
      exact pv _ (by omega) this
  have z : r 0 - r' 0 = d := by
    have := down m (Nat.le_refl _)
    rwa [Nat.sub_self] at this
  have every : ∀ k, k < n → r k - r' k = d := fun k => by
    induction k with
    | zero => exact fun _ => z
    | succ k ih => exact fun hk => nx k hk (ih (by omega))
  have same : ∀ k, k ≤ n → stp b r n k = stp b r' n k := fun k hk => by
    by_cases k0 : k = 0 ∨ n ≤ k
    · have e : stp b r n k = stp b r n 0 ∧ stp b r' n k = stp b r' n 0 := by
        rcases k0 with h | h
        · subst h; exact ⟨rfl, rfl⟩
        · exact ⟨stp_end h, stp_end h⟩
      rw [e.1, e.2]
      cases b
      · rw [stp_loose, stp_loose]
      · rw [stp_ring, stp_ring]
        have := every 0 n0
        have := every (n - 1) (by omega)
        grind
    · rw [stp_in (by omega) (by omega), stp_in (by omega) (by omega)]
      have := every k (by omega)
      have := every (k - 1) (by omega)
      grind
  refine .inr ⟨d, D0, fun k hk => by have := every k hk; grind, fun k hk => ?_, stp_flat (b := b) fun k hk => ?_⟩
  · have := every k hk
    have := (B'.within k hk).1
    have := hl k hk
    grind
  · have e := every k hk
    have w := B.within k hk
    have w' := B'.within k hk
    have h1 := hl k hk
    have h2 := hh k hk
    have a : stp b r n k ≤ stp b r n (k + 1) := by
      by_cases c : stp b r n (k + 1) < stp b r n k
      · have := B.down k hk c
        grind
      · grind
    have a' : stp b r' n (k + 1) ≤ stp b r' n k := by
      by_cases c : stp b r' n k < stp b r' n (k + 1)
      · have := B'.up k hk c
        grind
      · grind
    have s1 := same k (by omega)
    have s2 := same (k + 1) (by omega)
    grind
/-- the row that is told: of level ones the least -/
structure Told (b : Bool) (lo hi r : Nat → Rat) (n : Nat) : Prop extends Bent b lo hi r n where
  least : ∀ h, (∀ k, k < n → lo k ≤ h ∧ h ≤ hi k) → ∀ k, k < n → r k ≤ h
theorem stp_const {c : Rat} {k : Nat} : stp b (fun _ => c) n k = 0 := by
  unfold stp
  split
  · split <;> grind
  · grind
theorem Bent.const {c : Rat} (h : ∀ k, k < n → lo k ≤ c ∧ c ≤ hi k) : Bent b lo hi (fun _ => c) n :=
  ⟨h, fun k hk z => by rw [stp_const, stp_const] at z; grind, fun k hk z => by rw [stp_const, stp_const] at z; grind⟩
theorem Told.le (T : Told b lo hi r n) (B' : Bent b lo' hi' r' n) (hl : ∀ k, k < n → lo k ≤ lo' k) (hh : ∀ k, k < n → hi k ≤ hi' k) : ∀ k, k < n → r k ≤ r' k := by
  rcases T.toBent.far B' hl hh with h | ⟨d, d0, e, above, lev⟩
  · exact h
  · intro k hk
    have n0 : 0 < n := by omega
    have h0 : ∀ j, j < n → r' j = r' 0 := fun j hj => by
      have := e j hj
      have := e 0 n0
      have := lev j hj
      grind
    have := T.least (r' 0) (fun j hj => by
      have w := B'.within j hj
      rw [h0 j hj] at w
      have := hl j hj
      have := T.within j hj
      have := e j hj
      have := h0 j hj
      grind) k hk
    have := e k hk
    have := h0 k hk
    grind
theorem Told.uniq (T : Told b lo hi r n) (T' : Told b lo hi r' n) : ∀ k, k < n → r k = r' k := fun k hk => by
  have := T.le T'.toBent (fun _ _ => Rat.le_refl) (fun _ _ => Rat.le_refl) k hk
  have := T'.le T.toBent (fun _ _ => Rat.le_refl) (fun _ _ => Rat.le_refl) k hk
  grind
theorem Told.congr (T : Told b lo hi r n) (h : ∀ k, k < n → lo k = lo' k ∧ hi k = hi' k ∧ r k = r' k) : Told b lo' hi' r' n := by
  have s : ∀ k, k ≤ n → stp b r' n k = stp b r n k := fun k hk => by
    unfold stp
    split
    · split
      · by_cases n0 : 0 < n
        · rw [(h 0 n0).2.2, (h (n - 1) (by omega)).2.2]
        · have : n = 0 := by omega
          subst this
          grind
      · rfl
    · rw [(h k (by omega)).2.2, (h (k - 1) (by omega)).2.2]
  refine ⟨⟨fun k hk => ?_, fun k hk z => ?_, fun k hk z => ?_⟩, fun c hc k hk => ?_⟩
  · have := T.within k hk; have := h k hk; grind
  · rw [s k (by omega), s (k + 1) (by omega)] at z
    have := T.up k hk z; have := h k hk; grind
  · rw [s k (by omega), s (k + 1) (by omega)] at z
    have := T.down k hk z; have := h k hk; grind
  · have := T.least c (fun j hj => by have := hc j hj; have := h j hj; grind) k hk
    have := h k hk; grind
/-- no row goes above what is above all lows -/
theorem Told.most (T : Told b lo hi r n) {c : Rat} (h : ∀ k, k < n → lo k ≤ c) : ∀ k, k < n → r k ≤ c :=
  T.le (lo' := fun _ => c) (hi' := fun k => if hi k ≤ c then c else hi k) (Bent.const fun k hk => by constructor <;> grind) h (fun k hk => by grind)
theorem Told.fewest (T : Told b lo hi r n) {c : Rat} (h : ∀ k, k < n → c ≤ hi k) : (∀ k, k < n → c ≤ r k) ∨ ∃ d, d < c ∧ ∀ k, k < n → r k = d := by
  rcases Bent.far (b := b) (lo := fun k => if lo k ≤ c then lo k else c) (hi := fun _ => c) (r := fun _ => c) (Bent.const fun k hk => by constructor <;> grind) T.toBent (fun k hk => by grind) h with q | ⟨d, d0, e, _, _⟩
  · exact .inl q
  · exact .inr ⟨c - d, by grind, fun k hk => by have := e k hk; grind⟩
/-- a tube made wider, round its told row or as it is -/
theorem Told.wider (T : Told b lo hi r n) {x y : Rat} (x0 : 0 ≤ x) (y0 : 0 ≤ y) {w : Nat → Rat} (W : Told b (fun k => r k - x) (fun k => r k + y) w n) : Told b (fun k => lo k - x) (fun k => hi k + y) w n := by
  have st : ∀ k, k < n → (w k = r k + y → stp b w n (k + 1) ≤ stp b r n (k + 1) ∧ stp b r n k ≤ stp b w n k) ∧ (w k = r k - x → stp b r n (k + 1) ≤ stp b w n (k + 1) ∧ stp b w n k ≤ stp b r n k) := fun k hk => by
    have n0 : 0 < n := by omega
    have w0 := W.within 0 n0
    have wn := W.within (n - 1) (by omega)
    have a1 : stp b w n (k + 1) - stp b r n (k + 1) = (w (if k + 1 < n then k + 1 else if b = true then 0 else k) - r (if k + 1 < n then k + 1 else if b = true then 0 else k)) - (w k - r k) := by
      by_cases c : k + 1 < n
      · rw [if_pos c, stp_succ c, stp_succ c]; grind
      · have e : k = n - 1 := by omega
        rw [if_neg c, stp_end (k := k + 1) (by omega), stp_end (k := k + 1) (by omega)]
        cases b
        · rw [stp_loose, stp_loose]; simp only [Bool.false_eq_true, if_false]; grind
        · rw [stp_ring, stp_ring, e]; simp only [if_true]; grind
    have a2 : stp b w n k - stp b r n k = (w k - r k) - (w (if 0 < k then k - 1 else if b = true then n - 1 else k) - r (if 0 < k then k - 1 else if b = true then n - 1 else k)) := by
      by_cases c : 0 < k
      · rw [if_pos c, stp_in c hk, stp_in c hk]; grind
      · have e : k = 0 := by omega
        subst e
        rw [if_neg c]
        cases b
        · rw [stp_loose, stp_loose]; simp only [Bool.false_eq_true, if_false]; grind
        · rw [stp_ring, stp_ring]; simp only [if_true]; grind
    have l1 : (if k + 1 < n then k + 1 else if b = true then 0 else k) < n := by split; omega; split <;> omega
    have l2 : (if 0 < k then k - 1 else if b = true then n - 1 else k) < n := by split; omega; split <;> omega
    generalize (if k + 1 < n then k + 1 else if b = true then 0 else k) = i1 at *
    generalize (if 0 < k then k - 1 else if b = true then n - 1 else k) = i2 at *
    have g1 := W.within i1 l1
    have g2 := W.within i2 l2
    constructor
    · intro e; constructor <;> grind
    · intro e; constructor <;> grind
  refine ⟨⟨fun k hk => ?_, fun k hk z => ?_, fun k hk z => ?_⟩, fun h hb k hk => ?_⟩
  · have := W.within k hk
    have := T.within k hk
    constructor <;> grind
  · have e := W.up k hk z
    obtain ⟨s1, s2⟩ := (st k hk).1 e
    have := T.up k hk (by grind)
    grind
  · have e := W.down k hk z
    obtain ⟨s1, s2⟩ := (st k hk).2 e
    have := T.down k hk (by grind)
    grind
  · have t := T.most (c := h + x) fun j hj => by have := hb j hj; grind
    rcases T.fewest (c := h - y) (fun j hj => by have := hb j hj; grind) with f | ⟨d, hd, f⟩
    · exact W.least h (fun j hj => by have := t j hj; have := f j hj; constructor <;> grind) k hk
    · have := (W.within k hk).2
      have := f k hk
      grind
end
end Tt
set_option exponentiation.threshold 10000
/-! ### loose and ring rows put together of taut ones -/
namespace Tt
section
variable {b : Bool} {lo hi lo' hi' r r' : Nat → Rat} {n : Nat}
theorem Taut.congr (T : Taut lo hi r n) (h : ∀ k, k < n → lo k = lo' k ∧ hi k = hi' k ∧ r k = r' k) : Taut lo' hi' r' n := by
  refine ⟨fun k hk => ?_, fun k k0 hk => ?_, fun k k0 hk => ?_⟩
  · obtain ⟨a, b, c⟩ := h k hk
    rw [← a, ← b, ← c]
    exact T.within k hk
  · rw [← (h k (by omega)).2.2, ← (h (k + 1) hk).2.2, ← (h (k - 1) (by omega)).2.2, ← (h k (by omega)).2.1]
    exact T.up k k0 hk
  · rw [← (h k (by omega)).2.2, ← (h (k + 1) hk).2.2, ← (h (k - 1) (by omega)).2.2, ← (h k (by omega)).1]
    exact T.down k k0 hk
theorem Taut.turn (T : Taut lo hi r n) : Taut (fun k => lo (n - 1 - k)) (fun k => hi (n - 1 - k)) (fun k => r (n - 1 - k)) n := by
  refine ⟨fun k hk => T.within _ (by omega), fun k k0 hk z => ?_, fun k k0 hk z => ?_⟩
  · have e1 : n - 1 - (k - 1) = n - 1 - k + 1 := by omega
    have e2 : n - 1 - (k + 1) = n - 1 - k - 1 := by omega
    simp only [e1, e2] at z
    exact T.up (n - 1 - k) (by omega) (by omega) (by grind)
  · have e1 : n - 1 - (k - 1) = n - 1 - k + 1 := by omega
    have e2 : n - 1 - (k + 1) = n - 1 - k - 1 := by omega
    simp only [e1, e2] at z
    exact T.down (n - 1 - k) (by omega) (by omega) (by grind)
theorem Taut.upto (T : Taut lo hi r n) {m : Nat} (h : m ≤ n) : Taut lo hi r m :=
  ⟨fun k hk => T.within k (by omega), fun k k0 hk => T.up k k0 (by omega), fun k k0 hk => T.down k k0 (by omega)⟩
theorem Taut.level {c : Rat} (h : ∀ k, k < n → lo k ≤ c ∧ c ≤ hi k) : Taut lo hi (fun _ => c) n :=
  ⟨h, fun k _ _ z => by grind, fun k _ _ z => by grind⟩
theorem Taut.most (T : Taut lo hi r n) {c : Rat} (h : ∀ k, k < n → lo k ≤ c) (h0 : r 0 ≤ c) (h1 : r (n - 1) ≤ c) : ∀ k, k < n → r k ≤ c :=
  T.le (lo' := fun _ => c) (hi' := fun k => if hi k ≤ c then c else hi k) (Taut.level fun k hk => by constructor <;> grind) h (fun k hk => by grind) h0 h1
theorem Taut.fewest (T : Taut lo hi r n) {c : Rat} (h : ∀ k, k < n → c ≤ hi k) (h0 : c ≤ r 0) (h1 : c ≤ r (n - 1)) : ∀ k, k < n → c ≤ r k :=
  Taut.le (lo := fun k => if lo k ≤ c then lo k else c) (hi := fun _ => c) (r := fun _ => c) (Taut.level fun k hk => by constructor <;> grind) T (fun k hk => by grind) h h0 h1
/-- no height in all bounds: between the least high and the greatest low, bent rightly where no such bound is -/
theorem Told.join {top bot : Rat} (lt : bot < top) (w : ∀ k, k < n → lo k ≤ r k ∧ r k ≤ hi k) (wt : ∀ k, k < n → bot ≤ r k ∧ r k ≤ top)
    (eT : ∃ k, k < n ∧ lo k = top) (eB : ∃ k, k < n ∧ hi k = bot)
    (free : ∀ k, k < n → lo k ≠ top → hi k ≠ bot → (stp b r n k < stp b r n (k + 1) → r k = hi k) ∧ (stp b r n (k + 1) < stp b r n k → r k = lo k)) : Told b lo hi r n := by
  have nb : ∀ k, k < n → ∃ x y, (∃ i, i < n ∧ x = r i) ∧ (∃ i, i < n ∧ y = r i) ∧ stp b r n k = r k - x ∧ stp b r n (k + 1) = y - r k := fun k hk => by
    have c1 : ∃ x, (∃ i, i < n ∧ x = r i) ∧ stp b r n k = r k - x := by
      by_cases k0 : 0 < k
      · exact ⟨_, ⟨k - 1, by omega, rfl⟩, stp_in k0 hk⟩
      · have : k = 0 := by omega
        subst this
        cases b
        · exact ⟨_, ⟨0, hk, rfl⟩, by rw [stp_loose]; grind⟩
        · exact ⟨_, ⟨n - 1, by omega, rfl⟩, stp_ring⟩
    have c2 : ∃ y, (∃ i, i < n ∧ y = r i) ∧ stp b r n (k + 1) = y - r k := by
      by_cases kn : k + 1 < n
      · exact ⟨_, ⟨k + 1, kn, rfl⟩, stp_succ kn⟩
      · have : k = n - 1 := by omega
        rw [stp_end (k := k + 1) (by omega)]
        cases b
        · exact ⟨_, ⟨k, hk, rfl⟩, by rw [stp_loose]; grind⟩
        · exact ⟨_, ⟨0, by omega, rfl⟩, by rw [stp_ring, this]⟩
    obtain ⟨x, h1, h2⟩ := c1
    obtain ⟨y, h3, h4⟩ := c2
    exact ⟨x, y, h1, h3, h2, h4⟩
  refine ⟨⟨w, fun k hk z => ?_, fun k hk z => ?_⟩, fun h hb k hk => ?_⟩
  · obtain ⟨x, y, ⟨i, hi', rfl⟩, ⟨j, hj, rfl⟩, s1, s2⟩ := nb k hk
    have a := w k hk
    have c := wt k hk
    have := wt i hi'
    have := wt j hj
    by_cases h1 : lo k = top
    · grind
    · by_cases h2 : hi k = bot
      · grind
      · exact (free k hk h1 h2).1 z
  · obtain ⟨x, y, ⟨i, hi', rfl⟩, ⟨j, hj, rfl⟩, s1, s2⟩ := nb k hk
    have a := w k hk
    have c := wt k hk
    have := wt i hi'
    have := wt j hj
    by_cases h1 : lo k = top
    · grind
    · by_cases h2 : hi k = bot
      · grind
      · exact (free k hk h1 h2).2 z
  · obtain ⟨i, hi', e⟩ := eT
    obtain ⟨j, hj, e2⟩ := eB
    have := hb i hi'
    have := hb j hj
    grind
/-- from both ends to the middle alike -/
theorem Taut.mirror {m : Nat} (T : Taut lo hi r (2 * m + 1)) (h : ∀ k, k ≤ m → lo (2 * m - k) = lo k ∧ hi (2 * m - k) = hi k) (tied : lo 0 = hi 0) : ∀ k, k ≤ 2 * m → r (2 * m - k) = r k := by
  have h2 : ∀ k, k < 2 * m + 1 → lo (2 * m + 1 - 1 - k) = lo k ∧ hi (2 * m + 1 - 1 - k) = hi k := fun k hk => by
    rw [show 2 * m + 1 - 1 - k = 2 * m - k by omega]
    by_cases c : k ≤ m
    · exact h k c
    · have := h (2 * m - k) (by omega)
      rw [show 2 * m - (2 * m - k) = k by omega] at this
      exact ⟨this.1.symm, this.2.symm⟩
  have T2 : Taut lo hi (fun k => r (2 * m + 1 - 1 - k)) (2 * m + 1) := T.turn.congr fun k hk => ⟨(h2 k hk).1, (h2 k hk).2, rfl⟩
  have w0 := T.within 0 (by omega)
  have w1 := T.within (2 * m) (by omega)
  have e0 := h 0 (by omega)
  rw [Nat.sub_zero] at e0
  have z : r (2 * m) = r 0 := by
    have := e0.1
    have := e0.2
    grind
  have u := T2.uniq T (by simpa using z) (by simpa using z.symm)
  intro k hk
  have := u k (by omega)
  simpa using this
end
end Tt
set_option exponentiation.threshold 10000
/-! ### moved, turned, scaled rows -/
namespace Tt
section
variable {b : Bool} {lo hi r : Nat → Rat} {n : Nat}
theorem stp_aff {c d : Rat} {k : Nat} : stp b (fun k => c * r k + d) n k = c * stp b r n k := by
  unfold stp
  split
  · split <;> grind
  · grind
/-- all made so many times as great and moved -/
theorem Told.aff (T : Told b lo hi r n) {c d : Rat} (c0 : 0 < c) : Told b (fun k => c * lo k + d) (fun k => c * hi k + d) (fun k => c * r k + d) n := by
  have mono : ∀ {x y : Rat}, x ≤ y → c * x ≤ c * y := fun h => Rat.mul_le_mul_of_nonneg_left h (Rat.le_of_lt c0)
  have lt : ∀ {x y : Rat}, c * x < c * y → x < y := fun {x y} h => by
    by_cases q : x < y
    · exact q
    · have := mono (x := y) (y := x) (by grind)
      grind
  refine ⟨⟨fun k hk => ?_, fun k hk z => ?_, fun k hk z => ?_⟩, fun h hb k hk => ?_⟩
  · have w := T.within k hk
    have := mono w.1
    have := mono w.2
    grind
  · rw [stp_aff, stp_aff] at z
    have := T.up k hk (lt z)
    simp only [this]
  · rw [stp_aff, stp_aff] at z
    have := T.down k hk (lt z)
    simp only [this]
  · have e : c * ((h - d) / c) = h - d := by grind
    have := T.least ((h - d) / c) (fun j hj => by
      have q := hb j hj
      constructor
      · by_cases z : lo j ≤ (h - d) / c
        · exact z
        · have := Rat.mul_lt_mul_of_pos_left (a := (h - d) / c) (b := lo j) (by grind) c0
          grind
      · by_cases z : (h - d) / c ≤ hi j
        · exact z
        · have := Rat.mul_lt_mul_of_pos_left (a := hi j) (b := (h - d) / c) (by grind) c0
          grind) k hk
    have := mono this
    grind
theorem Taut.shift (T : Taut lo hi r n) {d : Rat} : Taut (fun k => lo k + d) (fun k => hi k + d) (fun k => r k + d) n :=
  ⟨fun k hk => by have := T.within k hk; constructor <;> grind, fun k k0 hk z => by have := T.up k k0 hk (by grind); grind, fun k k0 hk z => by have := T.down k k0 hk (by grind); grind⟩
end
end Tt
set_option exponentiation.threshold 10000
/-! ### == of things that stand for things -/
namespace DL
open PySem PySem.Spec PyProof.Rows L2
mutual
theorem okD_mono : ∀ {n m : Nat} {d : D}, n ≤ m → okD n d = true → okD m d = true
  | n, m, .non, _, _ => by cases m <;> rfl
  | n, m, .bl _, _, _ => by cases m <;> rfl
  | n, m, .int _, _, _ => by cases m <;> rfl
  | n, m, .str _, _, h => by cases n <;> cases m <;> exact h
  | 0, m, .tup _, _, h => nomatch h
  | 0, m, .lst _, _, h => nomatch h
  | n + 1, 0, .tup _, l, _ => absurd l (by omega)
  | n + 1, 0, .lst _, l, _ => absurd l (by omega)
  | n + 1, m + 1, .tup xs, l, h => okL_mono (Nat.le_of_succ_le_succ l) h
  | n + 1, m + 1, .lst xs, l, h => okL_mono (Nat.le_of_succ_le_succ l) h
  | n, m, .ref _, _, h => by cases n <;> exact nomatch h
theorem okL_mono : ∀ {n m : Nat} {ds : List D}, n ≤ m → okL n ds = true → okL m ds = true
  | _, _, [], _, _ => by simp [okL]
  | n, m, x :: xs, l, h => by
    rw [okL, Bool.and_eq_true_iff] at h ⊢
    exact ⟨okD_mono l h.1, okL_mono l h.2⟩
end
mutual
theorem eqD_self : ∀ (n : Nat) (d : D), okD n d = true → PyData.eqv (toPy d) (toPy d) = true
  | _, .non, _ => rfl
  | _, .bl b, _ => by simp [toPy, PyData.eqv]
  | _, .int i, _ => by simp [toPy, PyData.eqv]
  | n, .str x, h => by simp [toPy, PyData.eqv]
  | 0, .tup xs, h => nomatch h
  | 0, .lst xs, h => nomatch h
  | n + 1, .tup xs, h => by simpa [toPy, PyData.eqv] using eqL_self n xs h
  | n + 1, .lst xs, h => by simpa [toPy, PyData.eqv] using eqL_self n xs h
  | n, .ref a, h => by cases n <;> exact nomatch h
theorem eqL_self : ∀ (n : Nat) (ds : List D), okL n ds = true → PyData.eqvAll (toPyL ds) (toPyL ds) = true
  | _, [], _ => rfl
  | n, x :: xs, h => by
    obtain ⟨h1, h2⟩ := Bool.and_eq_true_iff.mp h
    simp [toPyL, PyData.eqvAll, eqD_self n x h1, eqL_self n xs h2]
end
theorem eqD_refl {n : Nat} {d : D} (h : okD n d = true) : eqD d d = true := eqD_self n d h
theorem dEq_self {d : D} (h : okD 60 d = true) : dEq d d = some (.bl true) := by simp [dEq, h, eqD_refl h]
theorem dNe_self {d : D} (h : okD 60 d = true) : dNe d d = some (.bl false) := by simp [dNe, h, eqD_refl h]
structure Eqn {α : Type} [DecidableEq α] (n : Nat) (e : α → D) : Prop where
  ok : ∀ a, okD n (e a) = true
  eq : ∀ a b, eqD (e a) (e b) = decide (a = b)
section
variable {α β γ : Type} [DecidableEq α] [DecidableEq β] [DecidableEq γ] {n m : Nat} {e : α → D} {f : β → D} {g : γ → D}
theorem Eqn.mono (h : Eqn n e) (l : n ≤ m) : Eqn m e := ⟨fun a => okD_mono l (h.ok a), h.eq⟩
theorem Eqn.dEq (h : Eqn n e) (l : n ≤ 60) (a b : α) : DL.dEq (e a) (e b) = some (.bl (decide (a = b))) := by
  have h := h.mono l
  simp only [DL.dEq, h.ok, and_self, if_true, h.eq]
theorem Eqn.dNe (h : Eqn n e) (l : n ≤ 60) (a b : α) : DL.dNe (e a) (e b) = some (.bl (decide (a ≠ b))) := by
  have h := h.mono l
  simp only [DL.dNe, h.ok, and_self, if_true, h.eq, ne_eq, decide_not]
theorem Eqn.int : Eqn 0 D.int := ⟨fun _ => rfl, fun a b => by simp [eqD, toPy]; rfl⟩
theorem Eqn.num : Eqn 1 numD := ⟨fun _ => ok_numD, fun _ _ => eqD_numD⟩
theorem Eqn.nat : Eqn 0 (fun k : Nat => D.int (k : Int)) := ⟨fun _ => rfl, fun a b => by
  rw [Eqn.int.eq, decide_eq_decide]
  omega⟩
theorem Eqn.pair (h : Eqn n e) (h' : Eqn n f) : Eqn (n + 1) (fun p : α × β => D.tup [e p.1, f p.2]) := by
  refine ⟨fun a => by simp [okD, okL, h.ok, h'.ok], fun a b => ?_⟩
  have h1 := h.eq a.1 b.1
  have h2 := h'.eq a.2 b.2
  unfold eqD at h1 h2 ⊢
  simp only [toPy, toPyL, PyData.eqv, PyData.eqvAll, h1, h2, Bool.and_true]
  rw [Bool.eq_iff_iff]
  simp [Prod.ext_iff]
theorem Eqn.three (h : Eqn n e) (h' : Eqn n f) (h'' : Eqn n g) : Eqn (n + 1) (fun p : α × β × γ => D.tup [e p.1, f p.2.1, g p.2.2]) := by
  refine ⟨fun a => by simp [okD, okL, h.ok, h'.ok, h''.ok], fun a b => ?_⟩
  have h1 := h.eq a.1 b.1
  have h2 := h'.eq a.2.1 b.2.1
  have h3 := h''.eq a.2.2 b.2.2
  unfold eqD at h1 h2 h3 ⊢
  simp only [toPy, toPyL, PyData.eqv, PyData.eqvAll, h1, h2, h3, Bool.and_true]
  rw [Bool.eq_iff_iff]
  simp [Prod.ext_iff]
theorem Eqn.all (h : Eqn n e) : ∀ a b : List α, PyData.eqvAll (toPyL (a.map e)) (toPyL (b.map e)) = decide (a = b)
  | [], [] => rfl
  | [], _ :: _ => rfl
  | _ :: _, [] => rfl
  | x :: a, y :: b => by
    have h1 := h.eq x y
    unfold eqD at h1
    simp only [List.map_cons, toPyL, PyData.eqvAll, h1, Eqn.all h a b]
    rw [Bool.eq_iff_iff]
    simp
theorem Eqn.okL (h : Eqn n e) : ∀ a : List α, DL.okL n (a.map e) = true
  | [] => by simp [DL.okL]
  | x :: a => by simp [DL.okL, h.ok, Eqn.okL h a]
theorem Eqn.tup (h : Eqn n e) : Eqn (n + 1) (fun l : List α => D.tup (l.map e)) :=
  ⟨fun a => by simp only [okD, h.okL], fun a b => by simp only [eqD, toPy, PyData.eqv, h.all]⟩
theorem Eqn.lst (h : Eqn n e) : Eqn (n + 1) (fun l : List α => D.lst (l.map e)) :=
  ⟨fun a => by simp only [okD, h.okL], fun a b => by simp only [eqD, toPy, PyData.eqv, h.all]⟩
end
theorem Eqn.row : Eqn 2 (fun R : List Rat => D.tup (R.map numD)) := Eqn.num.tup
end DL
set_option exponentiation.threshold 10000
/-! ### numbers over one bottom, not too great -/
namespace DL
open PySem PySem.Spec PyProof.Rows L2
/-- so many times it is a whole number; at most M either way -/
def Gr (N M : Nat) (q : Rat) : Prop := (∃ z : Int, q * (N : Rat) = (z : Rat)) ∧ -(M : Rat) ≤ q ∧ q ≤ (M : Rat)
theorem natR_pos {N : Nat} (h : 0 < N) : (0 : Rat) < (N : Rat) := by exact_mod_cast h
theorem natR_nn (N : Nat) : (0 : Rat) ≤ (N : Rat) := by
  have : 0 ≤ N := Nat.zero_le N
  exact_mod_cast this
theorem natR_add (a b : Nat) : ((a + b : Nat) : Rat) = (a : Rat) + (b : Rat) := Rat.natCast_add a b
theorem natR_mul (a b : Nat) : ((a * b : Nat) : Rat) = (a : Rat) * (b : Rat) := Rat.natCast_mul a b
theorem natR_le {a b : Nat} (h : a ≤ b) : (a : Rat) ≤ (b : Rat) := by exact_mod_cast h
theorem q_den (q : Rat) : q * (q.den : Rat) = (q.num : Rat) := by
  have h1 : q = Rat.divInt q.num q.den := (Rat.num_divInt_den q).symm
  rw [Rat.divInt_eq_div] at h1
  have h2 : (((q.den : Nat) : Int) : Rat) = (q.den : Rat) := rfl
  have h3 : (q.den : Rat) ≠ 0 := by
    have := natR_pos q.den_pos
    grind
  rw [h2] at h1
  generalize (q.num : Rat) = n at *
  generalize (q.den : Rat) = d at *
  subst h1
  grind
theorem Gr.den {N M : Nat} {q : Rat} (h : Gr N M q) : q.den ∣ N := by
  obtain ⟨z, hz⟩ := h.1
  have e := q_den q
  have : ((q.num * (N : Int) : Int) : Rat) = ((z * (q.den : Int) : Int) : Rat) := by
    rw [Rat.intCast_mul, Rat.intCast_mul, ← e, ← hz]
    have h1 : (((N : Nat) : Int) : Rat) = (N : Rat) := rfl
    have h2 : (((q.den : Nat) : Int) : Rat) = (q.den : Rat) := rfl
    rw [h1, h2]
    grind
  have h3 : q.num * (N : Int) = z * (q.den : Int) := by exact_mod_cast this
  have h4 : (q.den : Int) ∣ q.num * (N : Int) := ⟨z, by rw [h3, Int.mul_comm]⟩
  have h5 : q.den ∣ q.num.natAbs * N := by
    have := Int.natAbs_dvd_natAbs.mpr h4
    rwa [Int.natAbs_mul, Int.natAbs_natCast, Int.natAbs_natCast] at this
  exact Nat.Coprime.dvd_of_dvd_mul_left (Nat.Coprime.symm q.reduced) h5
theorem Gr.num {N M : Nat} {q : Rat} (h : Gr N M q) (h0 : 0 < N) : q.num.natAbs ≤ M * N := by
  have d := Nat.le_of_dvd h0 h.den
  have e := q_den q
  have dp := natR_pos q.den_pos
  have b1 : (q.num : Rat) ≤ ((M * q.den : Nat) : Rat) := by
    rw [← e, natR_mul]
    exact Rat.mul_le_mul_of_nonneg_right h.2.2 (Rat.le_of_lt dp)
  have b2 : -((M * q.den : Nat) : Rat) ≤ (q.num : Rat) := by
    rw [← e, natR_mul]
    have := Rat.mul_le_mul_of_nonneg_right h.2.1 (Rat.le_of_lt dp)
    grind
  have c1 : q.num ≤ ((M * q.den : Nat) : Int) := by
    have : (q.num : Rat) ≤ (((M * q.den : Nat) : Int) : Rat) := b1
    exact_mod_cast this
  have c2 : -((M * q.den : Nat) : Int) ≤ q.num := by
    have : ((-((M * q.den : Nat) : Int) : Int) : Rat) ≤ (q.num : Rat) := by
      rw [Rat.intCast_neg]; exact b2
    exact_mod_cast this
  have : M * q.den ≤ M * N := Nat.mul_le_mul_left M d
  omega
theorem Gr.sz {N M n : Nat} {q : Rat} (h : Gr N M q) (h0 : 0 < N) (h1 : (M + 1) * N < 2 ^ n) : Sz n q := by
  have a := h.num h0
  have d := Nat.le_of_dvd h0 h.den
  have e : (M + 1) * N = M * N + N := Nat.succ_mul M N
  exact ⟨by omega, by omega⟩
section
variable {N M N' M' : Nat} {p q : Rat}
theorem Gr.mono (h : Gr N M q) (h1 : N ∣ N') (h2 : M ≤ M') : Gr N' M' q := by
  obtain ⟨⟨z, hz⟩, b1, b2⟩ := h
  obtain ⟨c, rfl⟩ := h1
  have := natR_le h2
  refine ⟨⟨z * (c : Int), ?_⟩, by grind, by grind⟩
  rw [natR_mul, Rat.intCast_mul, ← hz]
  have h1 : (((c : Nat) : Int) : Rat) = (c : Rat) := rfl
  rw [h1]
  grind
theorem Gr.most (h : Gr N M q) (h2 : M ≤ M') : Gr N M' q := h.mono (Nat.dvd_refl N) h2
theorem Gr.within (h : Gr N M q) (h1 : -(M' : Rat) ≤ q) (h2 : q ≤ (M' : Rat)) : Gr N M' q := ⟨h.1, h1, h2⟩
theorem Gr.add (h : Gr N M p) (h1 : Gr N M' q) : Gr N (M + M') (p + q) := by
  obtain ⟨⟨z, hz⟩, b1, b2⟩ := h
  obtain ⟨⟨w, hw⟩, c1, c2⟩ := h1
  have := natR_add M M'
  refine ⟨⟨z + w, ?_⟩, by grind, by grind⟩
  rw [Rat.intCast_add, ← hz, ← hw]; grind
theorem Gr.neg (h : Gr N M p) : Gr N M (-p) := by
  obtain ⟨⟨z, hz⟩, b1, b2⟩ := h
  refine ⟨⟨-z, ?_⟩, by grind, by grind⟩
  rw [Rat.intCast_neg, ← hz]; grind
theorem Gr.sub (h : Gr N M p) (h1 : Gr N M' q) : Gr N (M + M') (p - q) := by
  have := h.add h1.neg
  rwa [← Rat.sub_eq_add_neg] at this
theorem absmul {a b x y : Rat} (h1 : -a ≤ x) (h2 : x ≤ a) (h3 : -b ≤ y) (h4 : y ≤ b) : -(a * b) ≤ x * y ∧ x * y ≤ a * b := by
  have p1 := Rat.mul_nonneg (a := a - x) (b := b + y) (by grind) (by grind)
  have p2 := Rat.mul_nonneg (a := a + x) (b := b - y) (by grind) (by grind)
  have p3 := Rat.mul_nonneg (a := a - x) (b := b - y) (by grind) (by grind)
  have p4 := Rat.mul_nonneg (a := a + x) (b := b + y) (by grind) (by grind)
  constructor <;> grind
theorem Gr.mul (h : Gr N M p) (h1 : Gr N' M' q) : Gr (N * N') (M * M') (p * q) := by
  obtain ⟨⟨z, hz⟩, b1, b2⟩ := h
  obtain ⟨⟨w, hw⟩, c1, c2⟩ := h1
  have b := absmul b1 b2 c1 c2
  rw [← natR_mul] at b
  refine ⟨⟨z * w, ?_⟩, b.1, b.2⟩
  rw [Rat.intCast_mul, ← hz, ← hw, natR_mul]; grind
theorem Gr.nat {m : Nat} (h : m ≤ M) : Gr 1 M (m : Rat) := by
  have := natR_le h
  have := natR_nn m
  refine ⟨⟨(m : Int), ?_⟩, by grind, by grind⟩
  have h1 : (((m : Nat) : Int) : Rat) = (m : Rat) := rfl
  have h2 : ((1 : Nat) : Rat) = 1 := rfl
  rw [h1, h2]; grind
theorem Gr.int {t : Int} (h : t.natAbs ≤ M) : Gr 1 M (t : Rat) := by
  have a : t ≤ (M : Int) := by omega
  have b : -(M : Int) ≤ t := by omega
  refine ⟨⟨t, ?_⟩, ?_, ?_⟩
  · have h2 : ((1 : Nat) : Rat) = 1 := rfl
    rw [h2]; grind
  · have : ((-(M : Int) : Int) : Rat) ≤ (t : Rat) := by exact_mod_cast b
    rw [Rat.intCast_neg] at this
    exact this
  · have : (t : Rat) ≤ (((M : Nat) : Int) : Rat) := by exact_mod_cast a
    exact this
theorem Gr.intN {t : Int} (h : t.natAbs ≤ M) : Gr N M (t : Rat) := (Gr.int h).mono ⟨N, by omega⟩ (Nat.le_refl _)
theorem Gr.zero : Gr N M 0 := by
  have := natR_nn M
  exact ⟨⟨0, by grind⟩, by grind, by grind⟩
theorem Gr.div {m : Nat} (h : Gr N M q) (h0 : 0 < m) : Gr (N * m) M (q / (m : Rat)) := by
  obtain ⟨⟨z, hz⟩, b1, b2⟩ := h
  have mp := natR_pos h0
  have m1 : (1 : Rat) ≤ (m : Rat) := natR_le h0
  have e : q / (m : Rat) * (m : Rat) = q := by grind
  generalize q / (m : Rat) = x at *
  have hM := natR_nn M
  refine ⟨⟨z, by rw [natR_mul, ← hz]; grind⟩, ?_, ?_⟩
  · rcases Tt.tri x 0 with a | a | a
    · have := Rat.mul_nonneg (a := -x) (b := (m : Rat) - 1) (by grind) (by grind)
      grind
    · grind
    · grind
  · rcases Tt.tri x 0 with a | a | a
    · grind
    · grind
    · have := Rat.mul_nonneg (a := x) (b := (m : Rat) - 1) (by grind) (by grind)
      grind
theorem Gr.divInt {t b : Int} (ht : t.natAbs ≤ M) (hb : 0 < b) : Gr b.toNat M (Rat.divInt t b) := by
  have h := (Gr.int (M := M) ht).div (m := b.toNat) (by omega)
  rw [Nat.one_mul] at h
  rw [Rat.divInt_eq_div]
  have : ((b.toNat : Nat) : Rat) = (b : Rat) := by
    have e : ((b.toNat : Nat) : Int) = b := by omega
    have : (((b.toNat : Nat) : Int) : Rat) = (b : Rat) := by rw [e]
    exact this
  rwa [this] at h
end
/-- a number that all bottoms of slopes of at most 25 places divide -/
abbrev L25 : Nat := 26771144400
theorem dvd_L25 : ∀ d : Nat, 0 < d → d < 26 → d ∣ L25 := by
  intro d h1 h2
  have : ∀ d : Fin 26, 0 < d.val → d.val ∣ L25 := by decide
  exact this ⟨d, h2⟩ h1
end DL
set_option exponentiation.threshold 10000
/-! ### bits of alike numbers, and how they move -/
namespace Tt
abbrev Bits := List (Nat × Rat)
def mB (B : Bits) (k : Nat) : Nat := (B.getD k (0, 0)).1
def vB (B : Bits) (k : Nat) : Rat := (B.getD k (0, 0)).2
def sB (B : Bits) : Nat → Nat
  | 0 => 0
  | k + 1 => sB B k + mB B k
def rowB (B : Bits) : List Rat := B.flatMap fun b => List.replicate b.1 b.2
structure OkB (B : Bits) : Prop where
  pos : ∀ k, k < B.length → 0 < mB B k
  ne : ∀ k, 0 < k → k < B.length → vB B (k - 1) ≠ vB B k
theorem take_len (B : Bits) : ∀ k, k ≤ B.length → (rowB (B.take k)).length = sB B k
  | 0, _ => by simp [rowB, sB]
  | k + 1, h => by
    have ih := take_len B k (by omega)
    rw [List.take_succ_eq_append_getElem (by omega), rowB, List.flatMap_append, List.length_append]
    rw [rowB] at ih
    rw [ih, sB]
    simp [mB, show k < B.length by omega]
theorem rowB_len (B : Bits) : (rowB B).length = sB B B.length := by
  have := take_len B B.length (Nat.le_refl _)
  rwa [List.take_length] at this
theorem row_at_bit (B : Bits) {k c : Nat} (hk : k < B.length) (hc : c < mB B k) : at0 (rowB B) (sB B k + c) = vB B k := by
  have e : B = B.take k ++ B[k] :: B.drop (k + 1) := by
    rw [← List.drop_eq_getElem_cons hk, List.take_append_drop]
  have r : rowB B = rowB (B.take k) ++ (List.replicate B[k].1 B[k].2 ++ rowB (B.drop (k + 1))) := by
    have h : rowB (B.take k ++ B[k] :: B.drop (k + 1)) = rowB (B.take k) ++ (List.replicate B[k].1 B[k].2 ++ rowB (B.drop (k + 1))) := by
      unfold rowB
      rw [List.flatMap_append, List.flatMap_cons]
    rwa [← e] at h
  have l := take_len B k (by omega)
  have m : mB B k = B[k].1 := by simp [mB, hk]
  have v : vB B k = B[k].2 := by simp [vB, hk]
  rw [at0, List.getD_eq_getElem?_getD, r, List.getElem?_append_right (by omega), l, Nat.add_sub_cancel_left, List.getElem?_append_left (by simp; omega)]
  rw [List.getElem?_replicate, if_pos (by omega), v]
  rfl
theorem sB_mono (B : Bits) {k : Nat} : ∀ j, sB B k ≤ sB B (k + j)
  | 0 => Nat.le_refl _
  | j + 1 => Nat.le_trans (sB_mono B j) (by rw [← Nat.add_assoc, sB]; omega)
/-- which bit, and how far in it -/
theorem place_of (B : Bits) : ∀ (l : Nat), l ≤ B.length → ∀ i, i < sB B l → ∃ k c, k < l ∧ c < mB B k ∧ i = sB B k + c
  | 0, _, i, h => absurd h (Nat.not_lt_zero _)
  | l + 1, hl, i, h => by
    by_cases z : i < sB B l
    · obtain ⟨k, c, h1, h2, h3⟩ := place_of B l (by omega) i z
      exact ⟨k, c, by omega, h2, h3⟩
    · rw [sB] at h
      exact ⟨l, i - sB B l, by omega, by omega, by omega⟩
theorem sum_in_bit (B : Bits) {k : Nat} (hk : k < B.length) : ∀ c, c ≤ mB B k → sumN (at0 (rowB B)) (sB B k + c) = sumN (at0 (rowB B)) (sB B k) + (c : Rat) * vB B k
  | 0, _ => by
    have : ((0 : Nat) : Rat) = 0 := rfl
    rw [this]; grind
  | c + 1, h => by
    have e : ((c + 1 : Nat) : Rat) = (c : Rat) + 1 := by rw [Rat.natCast_add]; rfl
    rw [← Nat.add_assoc, sumN, sum_in_bit B hk c (by omega), row_at_bit B hk (by omega), e]
    grind
def wI (B : Bits) (k : Nat) : Int := if k = 0 ∨ B.length ≤ k then 0 else if vB B (k - 1) < vB B k then 1 else -1
def rate (B : Bits) (k : Nat) : Rat := ((wI B (k + 1) - wI B k : Int) : Rat) / (mB B k : Rat)
def movB (B : Bits) (t : Rat) : Bits := (List.range B.length).map fun k => (mB B k, vB B k + rate B k * t)
theorem movB_len (B : Bits) (t : Rat) : (movB B t).length = B.length := by simp [movB]
theorem movB_m (B : Bits) (t : Rat) (k : Nat) : mB (movB B t) k = mB B k := by
  by_cases h : k < B.length
  · simp [mB, movB, h]
  · simp [mB, movB, h]
theorem movB_v (B : Bits) (t : Rat) {k : Nat} (h : k < B.length) : vB (movB B t) k = vB B k + rate B k * t := by
  simp [vB, movB, h, mB]
theorem movB_s (B : Bits) (t : Rat) : ∀ k, sB (movB B t) k = sB B k
  | 0 => rfl
  | k + 1 => by rw [sB, sB, movB_s B t k, movB_m]
theorem wI_abs (B : Bits) (k : Nat) : -1 ≤ wI B k ∧ wI B k ≤ 1 := by unfold wI; split <;> (try split) <;> omega
theorem wR_abs (B : Bits) (k : Nat) : (-1 : Rat) ≤ (wI B k : Rat) ∧ (wI B k : Rat) ≤ 1 := by
  have h := wI_abs B k
  have h1 : ((-1 : Int) : Rat) ≤ (wI B k : Rat) := by exact_mod_cast h.1
  have h2 : (wI B k : Rat) ≤ ((1 : Int) : Rat) := by exact_mod_cast h.2
  have e1 : ((-1 : Int) : Rat) = -1 := rfl
  have e2 : ((1 : Int) : Rat) = 1 := rfl
  rw [e1] at h1
  rw [e2] at h2
  exact ⟨h1, h2⟩
section
variable {B : Bits} (ok : OkB B)
include ok
theorem OkB.rate_m {k : Nat} (hk : k < B.length) : rate B k * (mB B k : Rat) = (wI B (k + 1) : Rat) - (wI B k : Rat) := by
  have h := ok.pos k hk
  have : (0 : Rat) < (mB B k : Rat) := by exact_mod_cast h
  have e : ((wI B (k + 1) - wI B k : Int) : Rat) = (wI B (k + 1) : Rat) - (wI B k : Rat) := Rat.intCast_sub _ _
  unfold rate
  rw [e]
  grind
/-- how much the sums are moved -/
theorem OkB.drift (t : Rat) : ∀ k, k ≤ B.length → sumN (at0 (rowB (movB B t))) (sB B k) - sumN (at0 (rowB B)) (sB B k) = t * (wI B k : Rat)
  | 0, _ => by
    have : wI B 0 = 0 := by simp [wI]
    rw [this]
    have : ((0 : Int) : Rat) = 0 := rfl
    simp only [sB, sumN, this]
    grind
  | k + 1, h => by
    have ih := OkB.drift t k (by omega)
    have a := sum_in_bit B (k := k) (by omega) (mB B k) (Nat.le_refl _)
    have b := sum_in_bit (movB B t) (k := k) (by rw [movB_len]; omega) (mB (movB B t) k) (Nat.le_refl _)
    rw [movB_s, movB_m, movB_v B t (by omega)] at b
    have r := ok.rate_m (k := k) (by omega)
    rw [sB, a, b]
    grind
theorem OkB.drift_in (t : Rat) {k c : Nat} (hk : k < B.length) (hc : c ≤ mB B k) : sumN (at0 (rowB (movB B t))) (sB B k + c) - sumN (at0 (rowB B)) (sB B k + c) = t * ((wI B k : Rat) + (c : Rat) * rate B k) := by
  have ih := ok.drift t k (by omega)
  have a := sum_in_bit B (k := k) hk c hc
  have b := sum_in_bit (movB B t) (k := k) (by rw [movB_len]; omega) c (by rw [movB_m]; exact hc)
  rw [movB_s, movB_v B t hk] at b
  rw [a, b]
  grind
theorem OkB.between {k c : Nat} (hk : k < B.length) (hc : c ≤ mB B k) : -1 ≤ (wI B k : Rat) + (c : Rat) * rate B k ∧ (wI B k : Rat) + (c : Rat) * rate B k ≤ 1 := by
  have r := ok.rate_m hk
  have w0 := wR_abs B k
  have w1 := wR_abs B (k + 1)
  have m0 : (0 : Rat) < (mB B k : Rat) := by
    have := ok.pos k hk
    exact_mod_cast this
  have c0 : (0 : Rat) ≤ (c : Rat) := by
    have := Nat.zero_le c
    exact_mod_cast this
  have cm : (c : Rat) ≤ (mB B k : Rat) := by exact_mod_cast hc
  generalize (wI B k : Rat) = a at *
  generalize (wI B (k + 1) : Rat) = b at *
  generalize (mB B k : Rat) = m at *
  generalize (c : Rat) = c at *
  generalize rate B k = ρ at *
  -- m (a + c ρ) = (m - c) a + c b
  have e : m * (a + c * ρ) = (m - c) * a + c * b := by grind
  have p1 := Rat.mul_nonneg (a := m - c) (b := a + 1) (by grind) (by grind)
  have p2 := Rat.mul_nonneg (a := c) (b := b + 1) (by grind) (by grind)
  have p3 := Rat.mul_nonneg (a := m - c) (b := 1 - a) (by grind) (by grind)
  have p4 := Rat.mul_nonneg (a := c) (b := 1 - b) (by grind) (by grind)
  have l1 : 0 ≤ m * (a + c * ρ + 1) := by grind
  have l2 : 0 ≤ m * (1 - (a + c * ρ)) := by grind
  generalize a + c * ρ = z at *
  constructor
  · rcases tri z (-1) with h | h | h
    · have := Rat.mul_pos (a := m) (b := -(z + 1)) m0 (by grind)
      grind
    · grind
    · grind
  · rcases tri z 1 with h | h | h
    · grind
    · grind
    · have := Rat.mul_pos (a := m) (b := z - 1) m0 (by grind)
      grind
theorem OkB.move {n : Nat} {y : Nat → Rat} {p t : Rat} (hn : (rowB B).length = n) (S : Sm n y p (at0 (rowB B))) (t0 : 0 < t)
    (far : ∀ k, 0 < k → k < B.length → (vB B (k - 1) < vB B k → vB (movB B t) (k - 1) ≤ vB (movB B t) k) ∧ (vB B k < vB B (k - 1) → vB (movB B t) k ≤ vB (movB B t) (k - 1)))
    (meet : ∃ k, 0 < k ∧ k < B.length ∧ vB (movB B t) (k - 1) = vB (movB B t) k) : Nx n y p (at0 (rowB B)) (p + t) (at0 (rowB (movB B t))) := by
  have len := rowB_len B
  have ml := movB_len B t
  have at1 : ∀ {k c : Nat}, k < B.length → c < mB B k → at0 (rowB (movB B t)) (sB B k + c) = vB (movB B t) k := fun {k c} hk hc => by
    have := row_at_bit (movB B t) (k := k) (c := c) (by omega) (by rw [movB_m]; exact hc)
    rwa [movB_s] at this
  -- the place ahead of a bit's first one is in the bit ahead
  have ahead : ∀ {k : Nat}, 0 < k → k < B.length → 0 < sB B k ∧ at0 (rowB B) (sB B k - 1) = vB B (k - 1) ∧ at0 (rowB (movB B t)) (sB B k - 1) = vB (movB B t) (k - 1) := fun {k} k0 hk => by
    have m0 := ok.pos (k - 1) (by omega)
    have e : sB B k = sB B (k - 1) + mB B (k - 1) := by
      conv => lhs; rw [show k = k - 1 + 1 by omega, sB]
    have e2 : sB B k - 1 = sB B (k - 1) + (mB B (k - 1) - 1) := by omega
    refine ⟨by omega, ?_, ?_⟩
    · rw [e2]; exact row_at_bit B (by omega) (by omega)
    · rw [e2]; exact at1 (by omega) (by omega)
  have cases : ∀ i, 0 < i → i < n → (∃ k, 0 < k ∧ k < B.length ∧ i = sB B k) ∨ ∃ k c, k < B.length ∧ 0 < c ∧ c < mB B k ∧ i = sB B k + c := fun i i0 hi => by
    obtain ⟨k, c, h1, h2, h3⟩ := place_of B B.length (Nat.le_refl _) i (by omega)
    by_cases c0 : c = 0
    · subst c0
      refine .inl ⟨k, ?_, h1, by omega⟩
      rcases Nat.eq_zero_or_pos k with z | z
      · subst z; simp only [sB] at h3; omega
      · exact z
    · exact .inr ⟨k, c, h1, by omega, h2, h3⟩
  have first : ∀ {k : Nat}, 0 < k → k < B.length → at0 (rowB B) (sB B k) = vB B k ∧ at0 (rowB (movB B t)) (sB B k) = vB (movB B t) k := fun {k} k0 hk => by
    have m0 := ok.pos k hk
    exact ⟨by have := row_at_bit B (c := 0) hk m0; simpa using this, by have := at1 (c := 0) hk m0; simpa using this⟩
  have wk : ∀ {k : Nat}, 0 < k → k < B.length → wI B k = if vB B (k - 1) < vB B k then 1 else -1 := fun {k} k0 hk => by
    unfold wI
    rw [if_neg (by omega)]
  refine ⟨by grind, ?_, fun i i0 hi => ?_, fun i i0 hi z => ?_, fun i i0 hi z => ?_, fun i i0 hi z => ?_, ?_⟩
  · have d := ok.drift t B.length (Nat.le_refl _)
    have w0 : wI B B.length = 0 := by simp [wI]
    rw [w0, ← len, hn] at d
    have : ((0 : Int) : Rat) = 0 := rfl
    rw [this] at d
    have := S.tot
    grind
  · obtain ⟨k, c, h1, h2, h3⟩ := place_of B B.length (Nat.le_refl _) i (by omega)
    have d := ok.drift_in t h1 (Nat.le_of_lt h2)
    have b := ok.between h1 (Nat.le_of_lt h2)
    rw [← h3] at d
    have s := S.band i i0 hi
    generalize (wI B k : Rat) + (c : Rat) * rate B k = u at *
    have p1 := Rat.mul_nonneg (a := t) (b := u + 1) (by grind) (by grind)
    have p2 := Rat.mul_nonneg (a := t) (b := 1 - u) (by grind) (by grind)
    constructor <;> grind
  · rcases cases i i0 hi with ⟨k, k0, hk, rfl⟩ | ⟨k, c, hk, c0, hc, rfl⟩
    · obtain ⟨a1, a2, a3⟩ := ahead k0 hk
      obtain ⟨f1, f2⟩ := first k0 hk
      rw [a2, f1] at z
      rw [a3, f2]
      refine ⟨(far k k0 hk).1 z, ?_⟩
      have d := ok.drift t k (by omega)
      have s := S.up (sB B k) i0 hi (by rw [a2, f1]; exact z)
      rw [wk k0 hk, if_pos z] at d
      have : ((1 : Int) : Rat) = 1 := rfl
      rw [this] at d
      grind
    · exfalso
      rw [row_at_bit B hk hc, show sB B k + c - 1 = sB B k + (c - 1) by omega, row_at_bit B hk (by omega)] at z
      grind
  · rcases cases i i0 hi with ⟨k, k0, hk, rfl⟩ | ⟨k, c, hk, c0, hc, rfl⟩
    · obtain ⟨a1, a2, a3⟩ := ahead k0 hk
      obtain ⟨f1, f2⟩ := first k0 hk
      rw [a2, f1] at z
      rw [a3, f2]
      refine ⟨(far k k0 hk).2 z, ?_⟩
      have d := ok.drift t k (by omega)
      have s := S.down (sB B k) i0 hi (by rw [a2, f1]; exact z)
      rw [wk k0 hk, if_neg (by grind)] at d
      have : ((-1 : Int) : Rat) = -1 := rfl
      rw [this] at d
      grind
    · exfalso
      rw [row_at_bit B hk hc, show sB B k + c - 1 = sB B k + (c - 1) by omega, row_at_bit B hk (by omega)] at z
      grind
  · rcases cases i i0 hi with ⟨k, k0, hk, rfl⟩ | ⟨k, c, hk, c0, hc, rfl⟩
    · exfalso
      obtain ⟨a1, a2, a3⟩ := ahead k0 hk
      obtain ⟨f1, f2⟩ := first k0 hk
      rw [a2, f1] at z
      exact ok.ne k k0 hk z
    · rw [at1 hk hc, show sB B k + c - 1 = sB B k + (c - 1) by omega, at1 hk (by omega)]
  · obtain ⟨k, k0, hk, e⟩ := meet
    obtain ⟨a1, a2, a3⟩ := ahead k0 hk
    obtain ⟨f1, f2⟩ := first k0 hk
    refine ⟨sB B k, a1, ?_, by rw [a2, f1]; exact ok.ne k k0 hk, by rw [a3, f2]; exact e⟩
    have m0 := ok.pos k hk
    have := sB_mono B (k := k + 1) (B.length - (k + 1))
    rw [show k + 1 + (B.length - (k + 1)) = B.length by omega, sB] at this
    omega
end
/-- by how much more two neighbours meet -/
def mtg (B : Bits) (k : Nat) : Option Rat :=
  if vB B (k + 1) - vB B k < 0 then (if 0 < -(rate B k - rate B (k + 1)) then some (-(vB B (k + 1) - vB B k) / -(rate B k - rate B (k + 1))) else none)
  else (if 0 < rate B k - rate B (k + 1) then some ((vB B (k + 1) - vB B k) / (rate B k - rate B (k + 1))) else none)
theorem div_pos' {a b : Rat} (h : 0 < a) (hb : 0 < b) : 0 < a / b := by
  have e : a / b * b = a := by grind
  generalize a / b = q at *
  rcases tri q 0 with z | z | z
  · have := Rat.mul_pos (a := -q) (b := b) (by grind) hb
    grind
  · rw [z] at e; grind
  · exact z
theorem le_div' {t a b : Rat} (hb : 0 < b) (h : t ≤ a / b) : t * b ≤ a := by
  have e : a / b * b = a := by grind
  have := Rat.mul_le_mul_of_nonneg_right h (Rat.le_of_lt hb)
  grind
theorem mtg_some {B : Bits} {k : Nat} {t : Rat} (h : mtg B k = some t) (ne : vB B k ≠ vB B (k + 1)) : 0 < t ∧ vB B k + rate B k * t = vB B (k + 1) + rate B (k + 1) * t := by
  unfold mtg at h
  split at h
  · split at h
    · rename_i a b
      injection h with h
      subst h
      refine ⟨div_pos' (by grind) b, ?_⟩
      have e : -(vB B (k + 1) - vB B k) / -(rate B k - rate B (k + 1)) * -(rate B k - rate B (k + 1)) = -(vB B (k + 1) - vB B k) := by grind
      grind
    · exact nomatch h
  · split at h
    · rename_i a b
      injection h with h
      subst h
      refine ⟨div_pos' (by grind) b, ?_⟩
      have e : (vB B (k + 1) - vB B k) / (rate B k - rate B (k + 1)) * (rate B k - rate B (k + 1)) = vB B (k + 1) - vB B k := by grind
      grind
    · exact nomatch h
theorem mtg_far {B : Bits} {k : Nat} {t : Rat} (t0 : 0 < t) (h : ∀ u, mtg B k = some u → t ≤ u) : (vB B k < vB B (k + 1) → vB B k + rate B k * t ≤ vB B (k + 1) + rate B (k + 1) * t) ∧ (vB B (k + 1) < vB B k → vB B (k + 1) + rate B (k + 1) * t ≤ vB B k + rate B k * t) := by
  unfold mtg at h
  constructor
  · intro z
    rw [if_neg (by grind)] at h
    by_cases b : 0 < rate B k - rate B (k + 1)
    · rw [if_pos b] at h
      have := le_div' b (h _ rfl)
      grind
    · have := Rat.mul_nonneg (a := t) (b := -(rate B k - rate B (k + 1))) (by grind) (by grind)
      grind
  · intro z
    rw [if_pos (by grind)] at h
    by_cases b : 0 < -(rate B k - rate B (k + 1))
    · rw [if_pos b] at h
      have := le_div' b (h _ rfl)
      grind
    · have := Rat.mul_nonneg (a := t) (b := rate B k - rate B (k + 1)) (by grind) (by grind)
      grind
/-- a greatest bit -/
theorem exists_most (f : Nat → Rat) : ∀ m, ∃ K, K ≤ m ∧ ∀ k, k ≤ m → f k ≤ f K
  | 0 => ⟨0, Nat.le_refl _, fun k hk => by rw [show k = 0 by omega]; exact Rat.le_refl⟩
  | m + 1 => by
    obtain ⟨K, h1, h2⟩ := exists_most f m
    by_cases z : f K < f (m + 1)
    · refine ⟨m + 1, Nat.le_refl _, fun k hk => ?_⟩
      by_cases e : k = m + 1
      · rw [e]; exact Rat.le_refl
      · have := h2 k (by omega); grind
    · refine ⟨K, by omega, fun k hk => ?_⟩
      by_cases e : k = m + 1
      · rw [e]; grind
      · exact h2 k (by omega)
theorem OkB.meets {B : Bits} (ok : OkB B) (h2 : 2 ≤ B.length) : ∃ k, k + 1 < B.length ∧ mtg B k ≠ none := by
  obtain ⟨K, K1, K2⟩ := exists_most (vB B) (B.length - 1)
  have mpos : ∀ k, k < B.length → (0 : Rat) < (mB B k : Rat) := fun k hk => by
    have := ok.pos k hk
    exact_mod_cast this
  have neg : ∀ {a m : Rat}, 0 < m → a * m < 0 → a < 0 := fun {a m} m0 h => by
    rcases tri a 0 with z | z | z
    · exact z
    · rw [z] at h; grind
    · have := Rat.mul_pos z m0; grind
  have nn : ∀ {a m : Rat}, 0 < m → 0 ≤ a * m → 0 ≤ a := fun {a m} m0 h => by
    rcases tri a 0 with z | z | z
    · have := Rat.mul_pos (a := -a) (b := m) (by grind) m0; grind
    · grind
    · grind
  have w1 : ∀ k, wI B k = 1 → (wI B k : Rat) = 1 := fun k h => by rw [h]; rfl
  have wm1 : ∀ k, wI B k = -1 → (wI B k : Rat) = -1 := fun k h => by rw [h]; rfl
  have w0 : ∀ k, wI B k = 0 → (wI B k : Rat) = 0 := fun k h => by rw [h]; rfl
  -- behind the greatest bit it goes down, or it is the end
  have after : (wI B (K + 1) : Rat) ≤ 0 := by
    by_cases e : B.length ≤ K + 1
    · have : wI B (K + 1) = 0 := by unfold wI; rw [if_pos (by omega)]
      rw [w0 _ this]; exact Rat.le_refl
    · have := K2 (K + 1) (by omega)
      have : wI B (K + 1) = -1 := by
        unfold wI
        rw [if_neg (by omega), Nat.add_sub_cancel, if_neg (by grind)]
      rw [wm1 _ this]; grind
  by_cases K0 : K = 0
  · subst K0
    refine ⟨0, by omega, ?_⟩
    have lt : vB B 1 < vB B 0 := by
      have := K2 1 (by omega)
      have := ok.ne 1 (by omega) (by omega)
      simp only [Nat.sub_self] at this
      grind
    have r0 := ok.rate_m (k := 0) (by omega)
    have r1 := ok.rate_m (k := 1) (by omega)
    have a0 : wI B 0 = 0 := by unfold wI; rw [if_pos (by omega)]
    have a1 : wI B 1 = -1 := by
      unfold wI
      rw [if_neg (by omega), Nat.sub_self, if_neg (by grind)]
    have a2 := (wR_abs B 2).1
    rw [w0 _ a0, Nat.zero_add, wm1 _ a1] at r0
    rw [wm1 _ a1] at r1
    have n0 := neg (mpos 0 (by omega)) (a := rate B 0) (by rw [r0]; grind)
    have n1 := nn (mpos 1 (by omega)) (a := rate B 1) (by rw [r1]; grind)
    unfold mtg
    rw [Nat.zero_add, if_pos (by grind), if_pos (by grind)]
    simp
  · refine ⟨K - 1, by omega, ?_⟩
    have lt : vB B (K - 1) < vB B K := by
      have := K2 (K - 1) (by omega)
      have := ok.ne K (by omega) (by omega)
      grind
    have r0 := ok.rate_m (k := K - 1) (by omega)
    have r1 := ok.rate_m (k := K) (by omega)
    rw [show K - 1 + 1 = K by omega] at r0
    have a1 : wI B K = 1 := by
      unfold wI
      rw [if_neg (by omega), if_pos lt]
    have a2 := (wR_abs B (K - 1)).2
    rw [w1 _ a1] at r0 r1
    have n0 := nn (mpos (K - 1) (by omega)) (a := rate B (K - 1)) (by rw [r0]; grind)
    have n1 := neg (mpos K (by omega)) (a := rate B K) (by rw [r1]; grind)
    unfold mtg
    rw [show K - 1 + 1 = K by omega, if_neg (by grind), if_pos (by grind)]
    simp
/-- the meeting that comes first: a next row -/
theorem OkB.next {B : Bits} (ok : OkB B) {n : Nat} {y : Nat → Rat} {p t : Rat} (hn : (rowB B).length = n) (S : Sm n y p (at0 (rowB B))) {j : Nat} (hj : j + 1 < B.length) (e : mtg B j = some t) (least : ∀ k u, k + 1 < B.length → mtg B k = some u → t ≤ u) : 0 < t ∧ Nx n y p (at0 (rowB B)) (p + t) (at0 (rowB (movB B t))) := by
  have nej : vB B j ≠ vB B (j + 1) := by
    have := ok.ne (j + 1) (by omega) hj
    rwa [Nat.add_sub_cancel] at this
  obtain ⟨t0, m⟩ := mtg_some e nej
  refine ⟨t0, ok.move hn S t0 (fun k k0 hk => ?_) ⟨j + 1, by omega, hj, ?_⟩⟩
  · have f := mtg_far t0 (fun u hu => least (k - 1) u (by omega) hu)
    rw [show k - 1 + 1 = k by omega] at f
    rw [movB_v B t hk, movB_v B t (show k - 1 < B.length by omega)]
    exact f
  · rw [Nat.add_sub_cancel, movB_v B t hj, movB_v B t (show j < B.length by omega)]
    exact m
end Tt
set_option exponentiation.threshold 10000
/-! ### the bits of a row -/
namespace Tt
def nJ (x : List Rat) : Nat := ((List.range (x.length - 1)).filter fun k => decide (at0 x k ≠ at0 x (k + 1))).length
theorem filter_le {p q : Nat → Bool} : ∀ (l : List Nat), (∀ k ∈ l, q k = true → p k = true) → (l.filter q).length ≤ (l.filter p).length
  | [], _ => Nat.le_refl _
  | a :: l, h => by
    have ih := filter_le l fun k hk => h k (by simp [hk])
    have ha := h a (by simp)
    rw [List.filter_cons, List.filter_cons]
    by_cases z : q a = true
    · rw [if_pos z, if_pos (ha z)]; simpa using ih
    · rw [if_neg z]
      split
      · simp; omega
      · exact ih
theorem filter_lt {p q : Nat → Bool} : ∀ (l : List Nat), (∀ k ∈ l, q k = true → p k = true) → (∃ k ∈ l, p k = true ∧ q k = false) → (l.filter q).length < (l.filter p).length
  | [], _, h => by obtain ⟨k, hk, _⟩ := h; simp at hk
  | a :: l, h, ⟨k, hk, k1, k2⟩ => by
    have le := filter_le l fun k hk => h k (by simp [hk])
    have ha := h a (by simp)
    rw [List.filter_cons, List.filter_cons]
    rcases List.mem_cons.mp hk with e | hk
    · subst e
      rw [if_pos k1, if_neg (by simp [k2])]
      simp; omega
    · have ih := filter_lt l (fun k hk => h k (by simp [hk])) ⟨k, hk, k1, k2⟩
      by_cases z : q a = true
      · rw [if_pos z, if_pos (ha z)]; simpa using ih
      · rw [if_neg z]
        split
        · simp; omega
        · exact ih
theorem Nx.fewer {n : Nat} {y : Nat → Rat} {p p' : Rat} {x x' : List Rat} (h : Nx n y p (at0 x) p' (at0 x')) (hx : x.length = n) (hx' : x'.length = n) : nJ x' < nJ x := by
  unfold nJ
  rw [hx, hx']
  refine filter_lt _ (fun k hk z => ?_) ?_
  · have hk := List.mem_range.mp hk
    simp only [ne_eq, decide_not, Bool.not_eq_true', decide_eq_false_iff_not] at z ⊢
    intro e
    have := h.alike (k + 1) (by omega) (by omega) (by rw [Nat.add_sub_cancel]; exact e)
    rw [Nat.add_sub_cancel] at this
    exact z this
  · obtain ⟨k, k0, hk, z1, z2⟩ := h.some
    refine ⟨k - 1, List.mem_range.mpr (by omega), ?_, ?_⟩
    · rw [show k - 1 + 1 = k by omega]; simpa using z1
    · rw [show k - 1 + 1 = k by omega]; simpa using z2
theorem nJ_zero {x : List Rat} (h : nJ x = 0) : ∀ k, 0 < k → k < x.length → at0 x (k - 1) = at0 x k := fun k k0 hk => by
  unfold nJ at h
  have := List.filter_eq_nil_iff.mp (List.length_eq_zero_iff.mp h) (k - 1) (List.mem_range.mpr (by omega))
  rw [show k - 1 + 1 = k by omega] at this
  simpa using this
def addBit (B : Bits) (v : Rat) : Bits := if B ≠ [] ∧ vB B (B.length - 1) = v then B.set (B.length - 1) (mB B (B.length - 1) + 1, v) else B ++ [(1, v)]
def bitsR (x : List Rat) : Bits := x.foldl addBit []
theorem getD_app_left {α : Type} {a b : List α} {k : Nat} {d : α} (h : k < a.length) : (a ++ b).getD k d = a.getD k d := by
  simp [List.getD_eq_getElem?_getD, List.getElem?_append_left h]
theorem getD_app_right {α : Type} {a : List α} {b d : α} : (a ++ [b]).getD a.length d = b := by
  simp [List.getD_eq_getElem?_getD]
/-- what a row's bits keep to -/
structure BitsOf (x : List Rat) (B : Bits) : Prop where
  ok : OkB B
  row : rowB B = x
  len : x ≠ [] → B.length = nJ x + 1
  nil : x = [] → B = []
theorem bits_ne {x : List Rat} {B : Bits} (h : BitsOf x B) (hx : x ≠ []) : B ≠ [] := fun e => by
  have := h.len hx
  rw [e] at this
  simp at this
theorem set_last {α : Type} (C : List α) (b c : α) : (C ++ [b]).set ((C ++ [b]).length - 1) c = C ++ [c] := by
  simp [List.set_append_right]
theorem BitsOf.add {x : List Rat} {B : Bits} (h : BitsOf x B) (v : Rat) : BitsOf (x ++ [v]) (addBit B v) := by
  rcases List.eq_nil_or_concat B with e | ⟨C, ⟨m, u⟩, e⟩
  · subst e
    have hx : x = [] := by
      have := h.row
      simpa [rowB] using this.symm
    subst hx
    have a : addBit [] v = [(1, v)] := by simp [addBit]
    rw [a]
    refine ⟨⟨fun k hk => ?_, fun k k0 hk => ?_⟩, by simp [rowB], fun _ => by simp [nJ], fun z => by simp at z⟩
    · simp at hk; subst hk; simp [mB]
    · simp at hk; omega
  · rw [List.concat_eq_append] at e
    subst e
    have hx : x ≠ [] := fun z => by have := h.nil z; simp at this
    have l := h.len hx
    have m0 : 0 < m := by
      have := h.ok.pos C.length (by simp)
      simpa [mB, getD_app_right] using this
    have rw_ := h.row
    have lastv : at0 x (x.length - 1) = u := by
      have := row_at_bit (C ++ [(m, u)]) (k := C.length) (c := m - 1) (by simp) (by simp [mB]; omega)
      have xl := rowB_len (C ++ [(m, u)])
      rw [rw_, List.length_append, List.length_singleton, sB] at xl
      have mm : mB (C ++ [(m, u)]) C.length = m := by simp [mB]
      rw [mm] at xl
      rw [rw_, show sB (C ++ [(m, u)]) C.length + (m - 1) = x.length - 1 by omega] at this
      rw [this]
      simp [vB]
    have xpos : 0 < x.length := List.length_pos_iff.mpr hx
    have jn : nJ (x ++ [v]) = nJ x + if u = v then 0 else 1 := by
      unfold nJ
      rw [List.length_append, List.length_singleton, Nat.add_sub_cancel]
      have : x.length = x.length - 1 + 1 := by omega
      conv => lhs; rw [this]
      rw [List.range_succ, List.filter_append, List.length_append]
      congr 1
      · congr 1
        refine List.filter_congr fun k hk => ?_
        have hk := List.mem_range.mp hk
        have e1 : at0 (x ++ [v]) k = at0 x k := getD_app_left (by omega)
        have e2 : at0 (x ++ [v]) (k + 1) = at0 x (k + 1) := getD_app_left (by omega)
        rw [e1, e2]
      · have e1 : at0 (x ++ [v]) (x.length - 1) = u := by rw [← lastv]; exact getD_app_left (by omega)
        have e2 : at0 (x ++ [v]) (x.length - 1 + 1) = v := by rw [← this]; exact getD_app_right
        rw [List.filter_cons, e1, e2]
        by_cases z : u = v
        · simp [z]
        · simp [z]
    have vl : vB (C ++ [(m, u)]) ((C ++ [(m, u)]).length - 1) = u := by simp [vB]
    have ml : mB (C ++ [(m, u)]) ((C ++ [(m, u)]).length - 1) = m := by simp [mB]
    by_cases z : u = v
    · subst z
      have a : addBit (C ++ [(m, u)]) u = C ++ [(m + 1, u)] := by
        unfold addBit
        rw [vl, ml, if_pos ⟨by simp, rfl⟩, set_last]
      rw [a]
      have gv : ∀ k, vB (C ++ [(m + 1, u)]) k = vB (C ++ [(m, u)]) k := fun k => by
        unfold vB
        by_cases hk : k < C.length
        · rw [getD_app_left hk, getD_app_left hk]
        · by_cases e : k = C.length
          · subst e; rw [getD_app_right, getD_app_right]
          · rw [List.getD_eq_getElem?_getD, List.getD_eq_getElem?_getD, List.getElem?_eq_none (by simp; omega), List.getElem?_eq_none (by simp; omega)]
      refine ⟨⟨fun k hk => ?_, fun k k0 hk => ?_⟩, ?_, fun _ => ?_, fun z => by simp at z⟩
      · by_cases e : k < C.length
        · have := h.ok.pos k (by simp; omega)
          unfold mB at this ⊢
          rwa [getD_app_left e] at this ⊢
        · simp at hk
          have : k = C.length := by omega
          subst this
          simp [mB]
      · rw [gv, gv]
        exact h.ok.ne k k0 (by simpa using hk)
      · rw [← rw_]
        simp [rowB, List.replicate_succ']
      · rw [jn, if_pos rfl]
        simp only [List.length_append, List.length_singleton] at l ⊢
        omega
    · have a : addBit (C ++ [(m, u)]) v = C ++ [(m, u)] ++ [(1, v)] := by
        unfold addBit
        rw [vl, if_neg (by simp [z])]
      rw [a]
      refine ⟨⟨fun k hk => ?_, fun k k0 hk => ?_⟩, ?_, fun _ => ?_, fun z => by simp at z⟩
      · by_cases e : k < (C ++ [(m, u)]).length
        · have := h.ok.pos k e
          unfold mB at this ⊢
          rwa [getD_app_left e]
        · have : k = (C ++ [(m, u)]).length := by simp at hk e ⊢; omega
          subst this
          unfold mB
          rw [getD_app_right]
          exact Nat.one_pos
      · by_cases e : k < (C ++ [(m, u)]).length
        · have := h.ok.ne k k0 e
          unfold vB at this ⊢
          rwa [getD_app_left e, getD_app_left (by omega)]
        · have : k = (C ++ [(m, u)]).length := by simp at hk e ⊢; omega
          subst this
          have v1 : vB (C ++ [(m, u)] ++ [(1, v)]) (C ++ [(m, u)]).length = v := by unfold vB; rw [getD_app_right]
          have v2 : vB (C ++ [(m, u)] ++ [(1, v)]) ((C ++ [(m, u)]).length - 1) = u := by
            have q := vl
            unfold vB at q ⊢
            rw [getD_app_left (by simp)]
            exact q
          rw [v1, v2]
          exact z
      · rw [rowB, List.flatMap_append]
        have := rw_
        unfold rowB at this
        rw [this]
        simp
      · rw [jn, if_neg z]
        simp only [List.length_append, List.length_singleton] at l ⊢
        omega
theorem bitsOf_pre (x : List Rat) : ∀ k, k ≤ x.length → BitsOf (x.take k) ((x.take k).foldl addBit [])
  | 0, _ => ⟨⟨fun k hk => by simp at hk, fun k _ hk => by simp at hk⟩, by simp [rowB], fun z => by simp at z, fun _ => by simp⟩
  | k + 1, h => by
    have := (bitsOf_pre x k (by omega)).add x[k]
    rw [List.take_succ_eq_append_getElem (by omega), List.foldl_append]
    exact this
theorem bitsOf (x : List Rat) : BitsOf x (bitsR x) := by
  have := bitsOf_pre x x.length (Nat.le_refl _)
  rwa [List.take_length] at this
end Tt
set_option exponentiation.threshold 10000
/-! ### stairs: over one bottom, too -/
namespace DL
open Tt
abbrev L100 : Nat := 69720375229712477164533808935312303556800
theorem dvd_L100 (d : Nat) (h1 : 0 < d) (h2 : d ≤ 100) : d ∣ L100 := by
  have : ∀ d : Fin 101, 0 < d.val → d.val ∣ L100 := by decide +kernel
  exact this ⟨d, by omega⟩ h1
structure StOk (N M : Nat) (y : List Rat) : Prop where
  n1 : 1 ≤ y.length
  n24 : y.length ≤ 24
  N0 : 0 < N
  Nb : N < 2 ^ 300
  Mb : M < 2 ^ 40
  gy : ∀ k, k < y.length → Gr N M (at0 y k)
structure StRow (N M : Nat) (y : List Rat) (p : Rat) (x : List Rat) : Prop where
  len : x.length = y.length
  p0 : 0 ≤ p
  sm : Sm y.length (at0 y) p (at0 x)
  gp : Gr (N * L100) (48 * M) p
  gx : ∀ k, k < y.length → Gr (N * L100 * L25) M (at0 x k)
theorem sum_abs {f : Nat → Rat} {M : Nat} : ∀ m, (∀ k, k < m → -(M : Rat) ≤ f k ∧ f k ≤ (M : Rat)) → -((m * M : Nat) : Rat) ≤ sumN f m ∧ sumN f m ≤ ((m * M : Nat) : Rat)
  | 0, _ => by
    rw [Nat.zero_mul]
    have : ((0 : Nat) : Rat) = 0 := rfl
    rw [this]
    simp only [sumN]
    constructor <;> grind
  | m + 1, h => by
    have a := sum_abs m fun k hk => h k (by omega)
    have b := h m (by omega)
    have e : (((m + 1) * M : Nat) : Rat) = ((m * M : Nat) : Rat) + (M : Rat) := by rw [Nat.succ_mul, natR_add]
    rw [e, sumN]
    constructor <;> grind
theorem sumN_gr' {N M : Nat} {f : Nat → Rat} : ∀ m, (∀ k, k < m → Gr N M (f k)) → Gr N (m * M) (sumN f m)
  | 0, _ => by rw [Nat.zero_mul]; exact Gr.zero
  | m + 1, h => by
    have := (sumN_gr' (f := f) m fun k hk => h k (by omega)).add (h m (by omega))
    rw [Nat.succ_mul]
    exact this
theorem StOk.start {N M : Nat} {y : List Rat} (D : StOk N M y) : StRow N M y 0 y :=
  ⟨rfl, Rat.le_refl, Sm.self _, Gr.zero, fun k hk => (D.gy k hk).mono ⟨L100 * L25, by rw [Nat.mul_assoc]⟩ (Nat.le_refl _)⟩
section
variable {B : Bits} (ok : OkB B)
include ok
theorem OkB.bound {k : Nat} (k0 : 0 < k) (hk : k < B.length) : 0 < sB B k ∧ sB B k < (rowB B).length ∧ at0 (rowB B) (sB B k - 1) = vB B (k - 1) ∧ at0 (rowB B) (sB B k) = vB B k := by
  have m0 := ok.pos (k - 1) (by omega)
  have m1 := ok.pos k hk
  have e : sB B k = sB B (k - 1) + mB B (k - 1) := by
    conv => lhs; rw [show k = k - 1 + 1 by omega, sB]
  have e2 : sB B k - 1 = sB B (k - 1) + (mB B (k - 1) - 1) := by omega
  have := sB_mono B (k := k + 1) (B.length - (k + 1))
  rw [show k + 1 + (B.length - (k + 1)) = B.length by omega, sB, ← rowB_len] at this
  refine ⟨by omega, by omega, ?_, ?_⟩
  · rw [e2]; exact row_at_bit B (by omega) (by omega)
  · have := row_at_bit B (c := 0) hk m1; simpa using this
theorem OkB.sums {n : Nat} {y : Nat → Rat} {p : Rat} (hn : (rowB B).length = n) (S : Sm n y p (at0 (rowB B))) : ∀ k, k ≤ B.length → sumN (at0 (rowB B)) (sB B k) = sumN y (sB B k) + p * (wI B k : Rat) := fun k hk => by
  have i0 : ((0 : Int) : Rat) = 0 := rfl
  have i1 : ((1 : Int) : Rat) = 1 := rfl
  have im : ((-1 : Int) : Rat) = -1 := rfl
  by_cases k0 : k = 0
  · subst k0
    have : wI B 0 = 0 := by simp [wI]
    rw [this, i0]
    simp only [sB, sumN]
    grind
  · by_cases kl : k = B.length
    · subst kl
      have : wI B B.length = 0 := by simp [wI]
      rw [this, i0, ← rowB_len, hn, S.tot]
      grind
    · obtain ⟨s0, s1, a1, a2⟩ := OkB.bound ok (k := k) (by omega) (by omega)
      have ne := ok.ne k (by omega) (by omega)
      have w : wI B k = if vB B (k - 1) < vB B k then 1 else -1 := by
        unfold wI
        rw [if_neg (by omega)]
      by_cases z : vB B (k - 1) < vB B k
      · have := S.up (sB B k) s0 (by omega) (by rw [a1, a2]; exact z)
        rw [w, if_pos z, i1]
        grind
      · have := S.down (sB B k) s0 (by omega) (by rw [a1, a2]; grind)
        rw [w, if_neg z, im]
        grind
/-- a next row and its price over the same bottom -/
theorem OkB.strow {N M : Nat} {y : List Rat} {p t : Rat} (D : StOk N M y) (R : StRow N M y p (rowB B)) {j : Nat} (hj : j + 1 < B.length) (e : mtg B j = some t) (least : ∀ k u, k + 1 < B.length → mtg B k = some u → t ≤ u) : Nx y.length (at0 y) p (at0 (rowB B)) (p + t) (at0 (rowB (movB B t))) ∧ StRow N M y (p + t) (rowB (movB B t)) := by
  have n24 := D.n24
  obtain ⟨t0, nx⟩ := ok.next R.len R.sm hj e least
  have len' : (rowB (movB B t)).length = y.length := by
    rw [rowB_len, movB_len, movB_s, ← rowB_len, R.len]
  have p0 : 0 ≤ p + t := by have := R.p0; grind
  have bx : ∀ k, k < y.length → -(M : Rat) ≤ at0 (rowB (movB B t)) k ∧ at0 (rowB (movB B t)) k ≤ (M : Rat) := fun k hk =>
    ⟨nx.sm.ge_least p0 (fun i hi => (D.gy i hi).2.1) k hk, nx.sm.le_most p0 (fun i hi => (D.gy i hi).2.2) k hk⟩
  have slen : ∀ k, k ≤ B.length → sB B k ≤ y.length := fun k hk => by
    have := sB_mono B (k := k) (B.length - k)
    rw [show k + (B.length - k) = B.length by omega, ← rowB_len, R.len] at this
    exact this
  have S' : ∀ k, k ≤ B.length → sumN (at0 (rowB (movB B t))) (sB B k) = sumN (at0 y) (sB B k) + (p + t) * (wI B k : Rat) := fun k hk => by
    have a := OkB.sums ok R.len R.sm k hk
    have b := ok.drift t k hk
    grind
  have gY : ∀ k, k ≤ B.length → Gr N (24 * M) (sumN (at0 y) (sB B k)) := fun k hk => (sumN_gr' _ fun i hi => D.gy i (by have := slen k hk; omega)).most (Nat.mul_le_mul_right M (by have := slen k hk; omega))
  have vm : ∀ k, k < B.length → vB (movB B t) k * (mB B k : Rat) = sumN (at0 y) (sB B (k + 1)) - sumN (at0 y) (sB B k) + (p + t) * ((wI B (k + 1) : Rat) - (wI B k : Rat)) := fun k hk => by
    have a := sum_in_bit (movB B t) (k := k) (by rw [movB_len]; exact hk) (mB (movB B t) k) (Nat.le_refl _)
    rw [movB_s, movB_m] at a
    have s1 := S' k (by omega)
    have s2 := S' (k + 1) (by omega)
    rw [sB] at s2 ⊢
    grind
  have mpos : ∀ k, k < B.length → (0 : Rat) < (mB B k : Rat) := fun k hk => natR_pos (ok.pos k hk)
  have m24 : ∀ k, k < B.length → mB B k ≤ 24 := fun k hk => by
    have := slen (k + 1) (by omega)
    rw [sB] at this
    omega
  -- the price
  have ne : vB B j ≠ vB B (j + 1) := by
    have := ok.ne (j + 1) (by omega) hj
    rwa [Nat.add_sub_cancel] at this
  obtain ⟨_, me⟩ := mtg_some e ne
  have rne : rate B j ≠ rate B (j + 1) := by
    unfold mtg at e
    split at e
    · split at e
      · grind
      · exact nomatch e
    · split at e
      · grind
      · exact nomatch e
  have ve : vB (movB B t) j = vB (movB B t) (j + 1) := by rw [movB_v B t hj, movB_v B t (show j < B.length by omega)]; exact me
  have gp : Gr (N * L100) (48 * M) (p + t) := by
    have v0 := vm j (by omega)
    have v1 := vm (j + 1) hj
    have r0 := ok.rate_m (k := j) (by omega)
    have r1 := ok.rate_m hj
    have P0 := mpos j (by omega)
    have P1 := mpos (j + 1) hj
    have g0 := gY j (by omega)
    have g1 := gY (j + 1) (by omega)
    have g2 := gY (j + 2) (by omega)
    have wa := wI_abs B j
    have wb := wI_abs B (j + 1)
    have wc := wI_abs B (j + 2)
    have q0 := m24 j (by omega)
    have q1 := m24 (j + 1) hj
    -- bottom
    obtain ⟨z, hz⟩ : ∃ z : Int, z = (wI B (j + 1) - wI B j) * (mB B (j + 1) : Int) - (wI B (j + 2) - wI B (j + 1)) * (mB B j : Int) := ⟨_, rfl⟩
    have zc : (z : Rat) = ((wI B (j + 1) : Rat) - (wI B j : Rat)) * (mB B (j + 1) : Rat) - ((wI B (j + 2) : Rat) - (wI B (j + 1) : Rat)) * (mB B j : Rat) := by
      rw [hz, Rat.intCast_sub, Rat.intCast_mul, Rat.intCast_mul, Rat.intCast_sub, Rat.intCast_sub]
      rfl
    have zn : z ≠ 0 := fun h => by
      have h0 : (z : Rat) = 0 := by rw [h]; rfl
      rw [zc, ← r0, ← r1] at h0
      have : (rate B j - rate B (j + 1)) * ((mB B j : Rat) * (mB B (j + 1) : Rat)) = 0 := by grind
      rcases Rat.mul_eq_zero.mp this with u | u
      · exact rne (by grind)
      · rcases Rat.mul_eq_zero.mp u with u | u <;> grind
    have zle : z.natAbs ≤ 100 := by
      have b1 : ((wI B (j + 1) - wI B j) * (mB B (j + 1) : Int)).natAbs ≤ 2 * 24 := by
        rw [Int.natAbs_mul]
        exact Nat.mul_le_mul (by omega) (by omega)
      have b2 : ((wI B (j + 2) - wI B (j + 1)) * (mB B j : Int)).natAbs ≤ 2 * 24 := by
        rw [Int.natAbs_mul]
        exact Nat.mul_le_mul (by omega) (by omega)
      omega
    have pz : (p + t) * (z : Rat) = (sumN (at0 y) (sB B (j + 2)) - sumN (at0 y) (sB B (j + 1))) * (mB B j : Rat) - (sumN (at0 y) (sB B (j + 1)) - sumN (at0 y) (sB B j)) * (mB B (j + 1) : Rat) := by
      rw [zc]
      rw [ve] at v0
      have c : vB (movB B t) (j + 1) * (mB B (j + 1) : Rat) * (mB B j : Rat) = vB (movB B t) (j + 1) * (mB B j : Rat) * (mB B (j + 1) : Rat) := by grind
      rw [v0, v1] at c
      grind
    have gq : Gr N ((24 * M + 24 * M) * 24 + (24 * M + 24 * M) * 24) ((p + t) * (z : Rat)) := by
      rw [pz]
      have h1 := (g2.sub g1).mul (Gr.nat (M := 24) q0)
      have h2 := (g1.sub g0).mul (Gr.nat (M := 24) q1)
      rw [Nat.mul_one] at h1 h2
      exact h1.sub h2
    obtain ⟨c, hc⟩ := dvd_L100 z.natAbs (by omega) zle
    obtain ⟨Z, hZ⟩ := gq.1
    refine ⟨?_, ?_⟩
    · refine ⟨Z * (if z < 0 then -(c : Int) else (c : Int)), ?_⟩
      rw [hc, natR_mul, natR_mul, Rat.intCast_mul, ← hZ]
      have cc : (((c : Nat) : Int) : Rat) = (c : Rat) := rfl
      by_cases zs : z < 0
      · rw [if_pos zs, Rat.intCast_neg, cc]
        have : (z.natAbs : Rat) = -(z : Rat) := by
          have h : ((z.natAbs : Nat) : Int) = -z := by omega
          have : (((z.natAbs : Nat) : Int) : Rat) = ((-z : Int) : Rat) := by rw [h]
          rw [Rat.intCast_neg] at this
          exact this
        rw [this]; grind
      · rw [if_neg zs, cc]
        have : (z.natAbs : Rat) = (z : Rat) := by
          have h : ((z.natAbs : Nat) : Int) = z := by omega
          have : (((z.natAbs : Nat) : Int) : Rat) = (z : Rat) := by rw [h]
          exact this
        rw [this]; grind
    · have s1 := S' (j + 1) (by omega)
      have bX := sum_abs (M := M) (sB B (j + 1)) fun k hk => bx k (by have := slen (j + 1) (by omega); omega)
      have bY := (gY (j + 1) (by omega)).2
      have l1 : ((sB B (j + 1) * M : Nat) : Rat) ≤ ((24 * M : Nat) : Rat) := natR_le (Nat.mul_le_mul_right M (by have := slen (j + 1) (by omega); omega))
      have e48 : ((48 * M : Nat) : Rat) = ((24 * M : Nat) : Rat) + ((24 * M : Nat) : Rat) := by rw [← natR_add]; congr 1; omega
      have w : wI B (j + 1) = if vB B j < vB B (j + 1) then 1 else -1 := by
        unfold wI
        rw [if_neg (by omega), Nat.add_sub_cancel]
      rw [e48]
      by_cases zz : vB B j < vB B (j + 1)
      · rw [w, if_pos zz] at s1
        have : ((1 : Int) : Rat) = 1 := rfl
        rw [this] at s1
        constructor <;> grind
      · rw [w, if_neg zz] at s1
        have : ((-1 : Int) : Rat) = -1 := rfl
        rw [this] at s1
        constructor <;> grind
  refine ⟨nx, len', p0, nx.sm, gp, fun k hk => ?_⟩
  obtain ⟨b, c, hb, hc, rfl⟩ := place_of B B.length (Nat.le_refl _) k (by rw [← rowB_len, R.len]; exact hk)
  have at1 : at0 (rowB (movB B t)) (sB B b + c) = vB (movB B t) b := by
    have := row_at_bit (movB B t) (k := b) (c := c) (by rw [movB_len]; exact hb) (by rw [movB_m]; exact hc)
    rwa [movB_s] at this
  have bb := bx (sB B b + c) hk
  rw [at1] at bb ⊢
  have g0 := (gY b (by omega)).mono (N' := N * L100) ⟨L100, rfl⟩ (Nat.le_refl _)
  have g1 := (gY (b + 1) (by omega)).mono (N' := N * L100) ⟨L100, rfl⟩ (Nat.le_refl _)
  have wa := wI_abs B b
  have wb := wI_abs B (b + 1)
  have gw : Gr 1 2 ((wI B (b + 1) : Rat) - (wI B b : Rat)) := by
    have := Gr.int (t := wI B (b + 1) - wI B b) (M := 2) (by omega)
    rwa [Rat.intCast_sub] at this
  have gs := (g1.sub g0).add (by have := gp.mul gw; rwa [Nat.mul_one] at this)
  rw [← vm b hb] at gs
  have m0 := ok.pos b hb
  have gd := gs.div m0
  have ed : vB (movB B t) b * (mB B b : Rat) / (mB B b : Rat) = vB (movB B t) b := by
    have := mpos b hb
    grind
  rw [ed] at gd
  have gd2 := gd.mono (N' := N * L100 * L25) (Nat.mul_dvd_mul_left _ (dvd_L25 _ m0 (by have := m24 b hb; omega))) (Nat.le_refl _)
  exact gd2.within bb.1 bb.2
end
end DL
set_option exponentiation.threshold 10000
/-! ### no row has less worth than the loose or ring one -/
namespace Tt
section
variable {b : Bool} {lo hi r x : Nat → Rat} {n : Nat} {φ g : Rat → Rat}
theorem abel (g y : Nat → Rat) : ∀ m, sumN (fun k => g (k + 1) * (y (k + 1) - y k)) m = sumN (fun k => y k * (g k - g (k + 1))) m - g 0 * y 0 + g m * y m
  | 0 => by simp only [sumN]; grind
  | m + 1 => by rw [sumN, sumN, abel g y m]; grind
theorem sumN_congr {f h : Nat → Rat} : ∀ {m : Nat}, (∀ k, k < m → f k = h k) → sumN f m = sumN h m
  | 0, _ => rfl
  | m + 1, e => by rw [sumN, sumN, e m (by omega), sumN_congr fun k hk => e k (by omega)]
/-- what a row is worth, told by the steps round it; the least worth -/
theorem Bent.slack (B : Bent b lo hi r n) (hx : ∀ k, k < n → lo k ≤ x k ∧ x k ≤ hi k) (gm : ∀ s t, s ≤ t → g s ≤ g t) (g0 : b = false → g 0 = 0) :
    0 ≤ sumN (fun k => g (stp b r n (k + 1)) * (stp b x n (k + 1) - stp b r n (k + 1))) n := by
  by_cases n0 : n = 0
  · subst n0; exact Rat.le_refl
  obtain ⟨m, rfl⟩ : ∃ m, n = m + 1 := ⟨n - 1, by omega⟩
  have e : sumN (fun k => g (stp b r (m + 1) (k + 1)) * (stp b x (m + 1) (k + 1) - stp b r (m + 1) (k + 1))) (m + 1) = sumN (fun k => (x k - r k) * (g (stp b r (m + 1) k) - g (stp b r (m + 1) (k + 1)))) (m + 1) := by
    rw [sumN]
    have a := abel (fun k => g (stp b r (m + 1) k)) (fun k => x k - r k) m
    have c : sumN (fun k => g (stp b r (m + 1) (k + 1)) * (stp b x (m + 1) (k + 1) - stp b r (m + 1) (k + 1))) m = sumN (fun k => g (stp b r (m + 1) (k + 1)) * (x (k + 1) - r (k + 1) - (x k - r k))) m := sumN_congr fun k hk => by
      have s1 : stp b x (m + 1) (k + 1) = x (k + 1) - x k := stp_succ (by omega)
      have s2 : stp b r (m + 1) (k + 1) = r (k + 1) - r k := stp_succ (by omega)
      rw [s1]
      have : x (k + 1) - x k - stp b r (m + 1) (k + 1) = x (k + 1) - r (k + 1) - (x k - r k) := by rw [s2]; grind
      rw [this]
    rw [c, a]
    rw [sumN]
    have z : stp b r (m + 1) (m + 1) = stp b r (m + 1) 0 := stp_end (Nat.le_refl _)
    have z2 : stp b x (m + 1) (m + 1) = stp b x (m + 1) 0 := stp_end (Nat.le_refl _)
    rw [z, z2]
    cases b
    · rw [stp_loose, stp_loose, g0 rfl]; grind
    · have y1 : stp true x (m + 1) 0 = x 0 - x m := by rw [stp_ring, Nat.add_sub_cancel]
      have y2 : stp true r (m + 1) 0 = r 0 - r m := by rw [stp_ring, Nat.add_sub_cancel]
      rw [y1]
      have : x 0 - x m - stp true r (m + 1) 0 = x 0 - r 0 - (x m - r m) := by rw [y2]; grind
      rw [this]
      grind
  rw [e]
  refine sumN_nn fun k hk => ?_
  have w := hx k hk
  rcases tri (stp b r (m + 1) k) (stp b r (m + 1) (k + 1)) with c | c | c
  · have := B.up k hk c
    have := gm _ _ (Rat.le_of_lt c)
    exact mul_pp (by grind) (by grind)
  · rw [c]; grind
  · have := B.down k hk c
    have := gm _ _ (Rat.le_of_lt c)
    exact mul_nn (by grind) (by grind)
theorem Bent.worth (B : Bent b lo hi r n) (hx : ∀ k, k < n → lo k ≤ x k ∧ x k ≤ hi k) (gm : ∀ s t, s ≤ t → g s ≤ g t) (sub : ∀ s t, φ s + g s * (t - s) ≤ φ t) (g0 : b = false → g 0 = 0) :
    sumN (fun k => φ (stp b r n (k + 1))) n ≤ sumN (fun k => φ (stp b x n (k + 1))) n := by
  have s := B.slack hx gm g0
  have l := sumN_le (f := fun k => φ (stp b r n (k + 1)) + g (stp b r n (k + 1)) * (stp b x n (k + 1) - stp b r n (k + 1))) (g := fun k => φ (stp b x n (k + 1))) (m := n) fun k _ => sub _ _
  rw [sumN_add] at l
  grind
/-- squares of steps together -/
theorem Bent.squares (B : Bent b lo hi r n) (hx : ∀ k, k < n → lo k ≤ x k ∧ x k ≤ hi k) :
    sumN (fun k => stp b r n (k + 1) * stp b r n (k + 1)) n ≤ sumN (fun k => stp b x n (k + 1) * stp b x n (k + 1)) n :=
  B.worth (φ := fun t => t * t) (g := fun t => 2 * t) hx (fun s t h => by grind) (fun s t => by
    have : 0 ≤ (t - s) * (t - s) := by
      rcases tri t s with h | h | h
      · exact mul_pp (by grind) (by grind)
      · rw [h]; grind
      · exact mul_nn (by grind) (by grind)
    grind) (fun _ => by grind)
end
end Tt
set_option exponentiation.threshold 10000
/-! ### rows with other steps have more squares -/
namespace Tt
section
variable {b : Bool} {lo hi r x : Nat → Rat} {n : Nat}
theorem Bent.squares_lt (B : Bent b lo hi r n) (hx : ∀ k, k < n → lo k ≤ x k ∧ x k ≤ hi k) (h : ∃ k, k < n ∧ stp b x n (k + 1) ≠ stp b r n (k + 1)) :
    sumN (fun k => stp b r n (k + 1) * stp b r n (k + 1)) n < sumN (fun k => stp b x n (k + 1) * stp b x n (k + 1)) n := by
  obtain ⟨j, hj, ne⟩ := h
  have s := B.slack (g := fun t => 2 * t) hx (fun s t h => by grind) (fun _ => by grind)
  have sq : ∀ a c : Rat, 0 ≤ (a - c) * (a - c) := fun a c => by
    rcases tri a c with h | h | h
    · exact mul_pp (by grind) (by grind)
    · rw [h]; grind
    · exact mul_nn (by grind) (by grind)
  have p := sumN_pos (f := fun k => (stp b x n (k + 1) - stp b r n (k + 1)) * (stp b x n (k + 1) - stp b r n (k + 1))) (m := n) (fun k _ => sq _ _) j hj (by
    rcases tri (stp b x n (j + 1)) (stp b r n (j + 1)) with h | h | h
    · have := Rat.mul_pos (a := stp b r n (j + 1) - stp b x n (j + 1)) (b := stp b r n (j + 1) - stp b x n (j + 1)) (by grind) (by grind)
      grind
    · exact absurd h ne
    · exact Rat.mul_pos (by grind) (by grind))
  have e := sumN_congr (f := fun k => stp b x n (k + 1) * stp b x n (k + 1)) (h := fun k => (stp b r n (k + 1) * stp b r n (k + 1) + 2 * stp b r n (k + 1) * (stp b x n (k + 1) - stp b r n (k + 1))) + (stp b x n (k + 1) - stp b r n (k + 1)) * (stp b x n (k + 1) - stp b r n (k + 1))) (m := n) (fun k _ => by grind)
  rw [sumN_add, sumN_add] at e
  rw [e]
  grind
end
end Tt
namespace Gn
open PySem PySem.Spec PyProof.Rows L2 DL
noncomputable def b_is_whole : SF := sRet (eAnd (e1 (isTy "int") (eVar 0)) (eNot (e1 (isTy "bool") (eVar 0))))
noncomputable def m_is_whole : List D → Option D := runP 1 1 b_is_whole
noncomputable def t1_common : BF := bTst (e2 dNe (eVar 1) (eC (.int 0)))
noncomputable def l1_common : SF := sPar 0 1 (aCons (eVar 1) (aCons (e2 dMod (eVar 0) (eVar 1)) (aNil)))
noncomputable def b_common : SF := sSeq (sPar 0 1 (aCons (eCall bAbs (aCons (eVar 0) (aNil))) (aCons (eCall bAbs (aCons (eVar 1) (aNil))) (aNil)))) (sSeq (sWhile t1_common l1_common) (sRet (eVar 0)))
noncomputable def m_common : List D → Option D := runP 2 2 b_common
noncomputable def b_is_number : SF := sSeq (sIf (bOr (bNot (bTst (e1 (isTy "tuple") (eVar 0)))) (bOr (bTst (e2 dNe (eCall bLen (aCons (eVar 0) (aNil))) (eC (.int 2)))) (bNot (bTst (eCall bAll (aCons (eLc [1] (iSeq (eVar 0)) (gN 1) (bYes) (eCall m_is_whole (aCons (eVar 1) (aNil)))) (aNil))))))) (sRet (eC (.bl false))) (sNext)) (sRet (eAnd (e2 dGe (e2 dIx (eVar 0) (eC (.int 1))) (eC (.int 1))) (e2 dEq (eCall m_common (aCons (e2 dIx (eVar 0) (eC (.int 0))) (aCons (e2 dIx (eVar 0) (eC (.int 1))) (aNil)))) (eC (.int 1)))))
noncomputable def m_is_number : List D → Option D := runP 1 2 b_is_number
noncomputable def b_number : SF := sSeq (sIf (bTst (e2 dEq (eVar 1) (eC (.int 0)))) (sNever) (sNext)) (sSeq (sAsg (eCall m_common (aCons (eVar 0) (aCons (eVar 1) (aNil)))) (gN 2)) (sSeq (sIf (bTst (e2 dLt (eVar 1) (eC (.int 0)))) (sAsg (e2 dSub (eC (.int 0)) (eVar 2)) (gN 2)) (sNext)) (sRet (eTup (aCons (e2 dFdiv (eVar 0) (eVar 2)) (aCons (e2 dFdiv (eVar 1) (eVar 2)) (aNil)))))))
noncomputable def m_number : List D → Option D := runP 2 3 b_number
noncomputable def b_whole : SF := sRet (eTup (aCons (eVar 0) (aCons (eC (.int 1)) (aNil))))
noncomputable def m_whole : List D → Option D := runP 1 1 b_whole
noncomputable def b_added : SF := sRet (eCall m_number (aCons (e2 dAddL (e2 dMul (e2 dIx (eVar 0) (eC (.int 0))) (e2 dIx (eVar 1) (eC (.int 1)))) (e2 dMul (e2 dIx (eVar 1) (eC (.int 0))) (e2 dIx (eVar 0) (eC (.int 1))))) (aCons (e2 dMul (e2 dIx (eVar 0) (eC (.int 1))) (e2 dIx (eVar 1) (eC (.int 1)))) (aNil))))
noncomputable def m_added : List D → Option D := runP 2 2 b_added
noncomputable def b_taken : SF := sRet (eCall m_number (aCons (e2 dSub (e2 dMul (e2 dIx (eVar 0) (eC (.int 0))) (e2 dIx (eVar 1) (eC (.int 1)))) (e2 dMul (e2 dIx (eVar 1) (eC (.int 0))) (e2 dIx (eVar 0) (eC (.int 1))))) (aCons (e2 dMul (e2 dIx (eVar 0) (eC (.int 1))) (e2 dIx (eVar 1) (eC (.int 1)))) (aNil))))
noncomputable def m_taken : List D → Option D := runP 2 2 b_taken
noncomputable def b_parted : SF := sRet (eCall m_number (aCons (e2 dMul (e2 dIx (eVar 0) (eC (.int 0))) (e2 dIx (eVar 1) (eC (.int 1)))) (aCons (e2 dMul (e2 dIx (eVar 0) (eC (.int 1))) (e2 dIx (eVar 1) (eC (.int 0)))) (aNil))))
noncomputable def m_parted : List D → Option D := runP 2 2 b_parted
noncomputable def b_is_less : SF := sRet (e2 dLt (e2 dMul (e2 dIx (eVar 0) (eC (.int 0))) (e2 dIx (eVar 1) (eC (.int 1)))) (e2 dMul (e2 dIx (eVar 1) (eC (.int 0))) (e2 dIx (eVar 0) (eC (.int 1)))))
noncomputable def m_is_less : List D → Option D := runP 2 2 b_is_less
noncomputable def b_is_pair : SF := sSeq (sIf (bOr (bNot (bTst (e1 (isTy "tuple") (eVar 0)))) (bOr (bTst (e2 dNe (eCall bLen (aCons (eVar 0) (aNil))) (eC (.int 2)))) (bOr (bNot (bTst (eCall m_is_number (aCons (e2 dIx (eVar 0) (eC (.int 0))) (aNil))))) (bNot (bTst (eCall m_is_number (aCons (e2 dIx (eVar 0) (eC (.int 1))) (aNil)))))))) (sRet (eC (.bl false))) (sNext)) (sRet (eNot (eCall m_is_less (aCons (e2 dIx (eVar 0) (eC (.int 1))) (aCons (e2 dIx (eVar 0) (eC (.int 0))) (aNil))))))
noncomputable def m_is_pair : List D → Option D := runP 1 1 b_is_pair
def k_MOST_PLACES_tubes : D := D.int 25
noncomputable def b_is_tube : SF := sSeq (sIf (bOr (bNot (bTst (e1 (isTy "tuple") (eVar 0)))) (bNot (bTst (eChain dLe dLe (eC (.int 2)) (eCall bLen (aCons (eVar 0) (aNil))) (eC k_MOST_PLACES_tubes))))) (sRet (eC (.bl false))) (sNext)) (sRet (eCall bAll (aCons (eLc [1] (iSeq (eVar 0)) (gN 1) (bYes) (eCall m_is_pair (aCons (eVar 1) (aNil)))) (aNil))))
noncomputable def m_is_tube : List D → Option D := runP 1 2 b_is_tube
noncomputable def b_is_tied : SF := sRet (eAnd (eCall m_is_tube (aCons (eVar 0) (aNil))) (eAnd (e2 dEq (e2 dIx (e2 dIx (eVar 0) (eC (.int 0))) (eC (.int 0))) (e2 dIx (e2 dIx (eVar 0) (eC (.int 0))) (eC (.int 1)))) (e2 dEq (e2 dIx (e2 dIx (eVar 0) (e1 dNeg (eC (.int 1)))) (eC (.int 0))) (e2 dIx (e2 dIx (eVar 0) (e1 dNeg (eC (.int 1)))) (eC (.int 1))))))
noncomputable def m_is_tied : List D → Option D := runP 1 1 b_is_tied
noncomputable def b_check_tube : SF := sIf (bNot (bTst (eCall m_is_tube (aCons (eVar 0) (aNil))))) (sNever) (sNext)
noncomputable def m_check_tube : List D → Option D := runP 1 1 b_check_tube
noncomputable def b_check_tied : SF := sIf (bNot (bTst (eCall m_is_tied (aCons (eVar 0) (aNil))))) (sNever) (sNext)
noncomputable def m_check_tied : List D → Option D := runP 1 1 b_check_tied
noncomputable def b_slope_to : SF := sSeq (sAsg (eVar 0) (gTup (gsCons (gN 2) (gsCons (gN 3) (gsNil))))) (sRet (eCall m_parted (aCons (eCall m_taken (aCons (eVar 1) (aCons (eVar 2) (aNil)))) (aCons (eCall m_whole (aCons (eVar 3) (aNil))) (aNil)))))
noncomputable def m_slope_to : List D → Option D := runP 2 4 b_slope_to
noncomputable def b_Reach___init__ : SF := sSeq (DL.sFld 0 0 "begin" (eVar 1)) (sSeq (DL.sFld 0 0 "height" (eVar 2)) (sSeq (DL.sFld 0 0 "most" (eC .non)) (DL.sFld 0 0 "least" (eC .non))))
noncomputable def m_Reach___init__ : List O → Option (D × List O) := runO [true, false, false] 3 b_Reach___init__
noncomputable def b_Reach_crossed : SF := sSeq (sIf (bAnd (bTst (e1 dNotN (eFld 0 0 "most"))) (bTst (eCall m_is_less (aCons (e2 dIx (eFld 0 0 "most") (eC (.int 0))) (aCons (eVar 1) (aNil)))))) (sRet (eFld 0 0 "most")) (sNext)) (sSeq (sIf (bAnd (bTst (e1 dNotN (eFld 0 0 "least"))) (bTst (eCall m_is_less (aCons (eVar 2) (aCons (e2 dIx (eFld 0 0 "least") (eC (.int 0))) (aNil)))))) (sRet (eFld 0 0 "least")) (sNext)) (sRet (eC .non)))
noncomputable def m_Reach_crossed : List O → Option (D × List O) := runO [true, false, false] 3 b_Reach_crossed
noncomputable def b_Reach_take : SF := sSeq (sAsg (eCall m_slope_to (aCons (eTup (aCons (eFld 0 0 "height") (aCons (e2 dSub (eVar 1) (eFld 0 0 "begin")) (aNil)))) (aCons (e2 dIx (eVar 2) (eC (.int 0))) (aNil)))) (gN 3)) (sSeq (sAsg (eCall m_slope_to (aCons (eTup (aCons (eFld 0 0 "height") (aCons (e2 dSub (eVar 1) (eFld 0 0 "begin")) (aNil)))) (aCons (e2 dIx (eVar 2) (eC (.int 1))) (aNil)))) (gN 4)) (sSeq (sAsg (eMeth 0 0 "crossed" m_Reach_crossed (aoVal (eVar 3) (aoVal (eVar 4) (aoNil)))) (gN 5)) (sSeq (sIf (bTst (e1 dIsN (eVar 5))) (sSeq (sIf (bOr (bTst (e1 dIsN (eFld 0 0 "most"))) (bNot (bTst (eCall m_is_less (aCons (e2 dIx (eFld 0 0 "most") (eC (.int 0))) (aCons (eVar 4) (aNil))))))) (DL.sFld 0 0 "most" (eTup (aCons (eVar 4) (aCons (eVar 1) (aCons (e2 dIx (eVar 2) (eC (.int 1))) (aNil)))))) (sNext)) (sIf (bOr (bTst (e1 dIsN (eFld 0 0 "least"))) (bNot (bTst (eCall m_is_less (aCons (eVar 3) (aCons (e2 dIx (eFld 0 0 "least") (eC (.int 0))) (aNil))))))) (DL.sFld 0 0 "least" (eTup (aCons (eVar 3) (aCons (eVar 1) (aCons (e2 dIx (eVar 2) (eC (.int 0))) (aNil)))))) (sNext))) (sNext)) (sRet (eVar 5)))))
noncomputable def m_Reach_take : List O → Option (D × List O) := runO [true, false, false] 6 b_Reach_take
noncomputable def l1_touch_behind : SF := sSeq (sAsg (eMeth 0 3 "take" m_Reach_take (aoVal (eVar 4) (aoVal (e2 dIx (eVar 0) (eVar 4)) (aoNil)))) (gN 5)) (sIf (bTst (e1 dNotN (eVar 5))) (sRet (eVar 5)) (sNext))
noncomputable def b_touch_behind : SF := sSeq (sMake 0 3 m_Reach___init__ (aCons (eVar 1) (aCons (eVar 2) (aNil)))) (sSeq (sFor (iRng2 (aCons (e2 dAddL (eVar 1) (eC (.int 1))) (aCons (eCall bLen (aCons (eVar 0) (aNil))) (aNil)))) (gN 4) l1_touch_behind) (sRet (eFld 0 3 "most")))
noncomputable def m_touch_behind : List D → Option D := runP 3 6 b_touch_behind
noncomputable def l1_drawn_to : SF := sApp 3 (eCall m_added (aCons (eBor 3 (e2 dIx (eVar 3) (e1 dNeg (eC (.int 1))))) (aCons (eVar 1) (aNil))))
noncomputable def b_drawn_to : SF := sSeq (sNew 3 (nList (aCons (eVar 0) (aNil)))) (sSeq (sFor (iRng1 (aCons (eVar 2) (aNil))) (gN 4) l1_drawn_to) (sRet (eFrz 3)))
noncomputable def m_drawn_to : List D → Option D := runP 3 5 b_drawn_to
noncomputable def t1_drawn : BF := bTst (e2 dLt (eCall bLen (aCons (eVar 1) (aNil))) (eCall bLen (aCons (eVar 0) (aNil))))
noncomputable def l1_drawn : SF := sSeq (sAsg (e2 dSub (eCall bLen (aCons (eVar 1) (aNil))) (eC (.int 1))) (gN 2)) (sSeq (sAsg (eCall m_touch_behind (aCons (eVar 0) (aCons (eVar 2) (aCons (e2 dIx (eVar 1) (eVar 2)) (aNil))))) (gTup (gsCons (gN 3) (gsCons (gN 4) (gsCons (gN 5) (gsNil)))))) (sAsg (eCall m_drawn_to (aCons (eVar 1) (aCons (eVar 3) (aCons (e2 dSub (eVar 4) (eVar 2)) (aNil))))) (gN 1)))
noncomputable def b_drawn : SF := sSeq (sAsg (eLst (aCons (e2 dIx (e2 dIx (eVar 0) (eC (.int 0))) (eC (.int 0))) (aNil))) (gN 1)) (sSeq (sWhile t1_drawn l1_drawn) (sRet (eCall bTuple (aCons (eVar 1) (aNil)))))
noncomputable def m_drawn : List D → Option D := runP 1 6 b_drawn
noncomputable def b_cord : SF := sSeq (sDrop (eCall m_check_tied (aCons (eVar 0) (aNil)))) (sRet (eCall m_drawn (aCons (eVar 0) (aNil))))
noncomputable def m_cord : List D → Option D := runP 1 1 b_cord
noncomputable def l1_greatest_of : SF := sIf (bTst (eCall m_is_less (aCons (eVar 1) (aCons (eVar 2) (aNil))))) (sAsg (eVar 2) (gN 1)) (sNext)
noncomputable def b_greatest_of : SF := sSeq (sAsg (e2 dIx (eVar 0) (eC (.int 0))) (gN 1)) (sSeq (sFor (iSeq (eVar 0)) (gN 2) l1_greatest_of) (sRet (eVar 1)))
noncomputable def m_greatest_of : List D → Option D := runP 1 3 b_greatest_of
noncomputable def l1_least_of : SF := sIf (bTst (eCall m_is_less (aCons (eVar 2) (aCons (eVar 1) (aNil))))) (sAsg (eVar 2) (gN 1)) (sNext)
noncomputable def b_least_of : SF := sSeq (sAsg (e2 dIx (eVar 0) (eC (.int 0))) (gN 1)) (sSeq (sFor (iSeq (eVar 0)) (gN 2) l1_least_of) (sRet (eVar 1)))
noncomputable def m_least_of : List D → Option D := runP 1 3 b_least_of
noncomputable def b_level_height : SF := sSeq (sAsg (eCall m_greatest_of (aCons (eLc [2, 3] (iSeq (eVar 0)) (gTup (gsCons (gN 2) (gsCons (gN 3) (gsNil)))) (bYes) (eVar 2)) (aNil))) (gN 1)) (sSeq (sIf (bTst (eCall m_is_less (aCons (eCall m_least_of (aCons (eLc [2, 3] (iSeq (eVar 0)) (gTup (gsCons (gN 2) (gsCons (gN 3) (gsNil)))) (bYes) (eVar 3)) (aNil))) (aCons (eVar 1) (aNil))))) (sRet (eC .non)) (sNext)) (sRet (eVar 1)))
noncomputable def m_level_height : List D → Option D := runP 1 4 b_level_height
noncomputable def l1_held_places : SF := sIf (bTst (e2 dEq (e2 dIx (eVar 5) (eC (.int 0))) (eVar 1))) (sPutD 3 (eVar 4) (eTup (aCons (eVar 1) (aCons (eVar 1) (aNil))))) (sIf (bTst (e2 dEq (e2 dIx (eVar 5) (eC (.int 1))) (eVar 2))) (sPutD 3 (eVar 4) (eTup (aCons (eVar 2) (aCons (eVar 2) (aNil))))) (sNext))
noncomputable def b_held_places : SF := sSeq (sAsg (eCall m_greatest_of (aCons (eLc [6, 7] (iSeq (eVar 0)) (gTup (gsCons (gN 6) (gsCons (gN 7) (gsNil)))) (bYes) (eVar 6)) (aNil))) (gN 1)) (sSeq (sAsg (eCall m_least_of (aCons (eLc [6, 7] (iSeq (eVar 0)) (gTup (gsCons (gN 6) (gsCons (gN 7) (gsNil)))) (bYes) (eVar 7)) (aNil))) (gN 2)) (sSeq (sNewD 3) (sSeq (sFor (iEnumD (aCons (eVar 0) (aNil))) (gTup (gsCons (gN 4) (gsCons (gN 5) (gsNil)))) l1_held_places) (sRetD 3))))
noncomputable def m_held_places : List D → Option (List (Key × D)) := runD 1 8 b_held_places
noncomputable def b_to_loose_end : SF := sSeq (sAsg (e2 dAddL (eCall bList (aCons (eVar 0) (aNil))) (e1 dRev (eCall bList (aCons (eCut (eVar 0) (oNo) (oSome (e1 dNeg (eC (.int 1))))) (aNil))))) (gN 1)) (sRet (eCut (eCall bList (aCons (eCall m_drawn (aCons (eVar 1) (aNil))) (aNil))) (oNo) (oSome (eCall bLen (aCons (eVar 0) (aNil))))))
noncomputable def m_to_loose_end : List D → Option D := runP 1 2 b_to_loose_end
noncomputable def b_loose_cord : SF := sSeq (sDrop (eCall m_check_tube (aCons (eVar 0) (aNil)))) (sSeq (sAsg (eCall m_level_height (aCons (eVar 0) (aNil))) (gN 1)) (sSeq (sIf (bTst (e1 dNotN (eVar 1))) (sRet (e2 dMulT (eTup (aCons (eVar 1) (aNil))) (eCall bLen (aCons (eVar 0) (aNil))))) (sNext)) (sSeq (sSetD 2 (dCall m_held_places (aCons (eVar 0) (aNil)))) (sSeq (sPar 3 4 (aCons (eMinD 2) (aCons (eMaxD 2) (aNil)))) (sSeq (sAsg (eLc [9] (iRng1 (aCons (eCall bLen (aCons (eVar 0) (aNil))) (aNil))) (gN 9) (bYes) (eGetD 2 (eVar 9) (e2 dIx (eVar 0) (eVar 9)))) (gN 5)) (sSeq (sAsg (e1 dRev (eCall m_to_loose_end (aCons (e1 dRev (eCut (eVar 5) (oNo) (oSome (e2 dAddL (eVar 3) (eC (.int 1)))))) (aNil)))) (gN 6)) (sSeq (sAsg (eCall bList (aCons (eCall m_drawn (aCons (eCut (eVar 5) (oSome (eVar 3)) (oSome (e2 dAddL (eVar 4) (eC (.int 1))))) (aNil))) (aNil))) (gN 7)) (sSeq (sAsg (eCall m_to_loose_end (aCons (eCut (eVar 5) (oSome (eVar 4)) (oNo)) (aNil))) (gN 8)) (sRet (eCall bTuple (aCons (e2 dAddL (e2 dAddL (eCut (eVar 6) (oNo) (oSome (e1 dNeg (eC (.int 1))))) (eVar 7)) (eCut (eVar 8) (oSome (eC (.int 1))) (oNo))) (aNil))))))))))))
noncomputable def m_loose_cord : List D → Option D := runP 1 10 b_loose_cord
def k_LEAST_RING_rings : D := D.int 3
noncomputable def b_is_ring : SF := sRet (eAnd (eCall m_is_tube (aCons (eVar 0) (aNil))) (eChain dLe dLt (eC k_LEAST_RING_rings) (eCall bLen (aCons (eVar 0) (aNil))) (eC k_MOST_PLACES_tubes)))
noncomputable def m_is_ring : List D → Option D := runP 1 1 b_is_ring
noncomputable def b_check_ring : SF := sIf (bNot (bTst (eCall m_is_ring (aCons (eVar 0) (aNil))))) (sNever) (sNext)
noncomputable def m_check_ring : List D → Option D := runP 1 1 b_check_ring
noncomputable def b_ring_cord : SF := sSeq (sDrop (eCall m_check_ring (aCons (eVar 0) (aNil)))) (sSeq (sAsg (eCall m_level_height (aCons (eVar 0) (aNil))) (gN 1)) (sSeq (sIf (bTst (e1 dNotN (eVar 1))) (sRet (e2 dMulT (eTup (aCons (eVar 1) (aNil))) (eCall bLen (aCons (eVar 0) (aNil))))) (sNext)) (sSeq (sAsg (eCall m_greatest_of (aCons (eLc [6, 7] (iSeq (eVar 0)) (gTup (gsCons (gN 6) (gsCons (gN 7) (gsNil)))) (bYes) (eVar 6)) (aNil))) (gN 2)) (sSeq (sAsg (e2 dIndex (eLc [6, 7] (iSeq (eVar 0)) (gTup (gsCons (gN 6) (gsCons (gN 7) (gsNil)))) (bYes) (eVar 6)) (eVar 2)) (gN 3)) (sSeq (sAsg (e2 dAddL (eCall bList (aCons (eCut (eVar 0) (oSome (eVar 3)) (oNo)) (aNil))) (eCall bList (aCons (eCut (eVar 0) (oNo) (oSome (eVar 3))) (aNil)))) (gN 4)) (sSeq (sAsg (eCut (eCall bList (aCons (eCall m_drawn (aCons (e2 dAddL (e2 dAddL (eLst (aCons (eTup (aCons (eVar 2) (aCons (eVar 2) (aNil)))) (aNil))) (eCut (eVar 4) (oSome (eC (.int 1))) (oNo))) (eLst (aCons (eTup (aCons (eVar 2) (aCons (eVar 2) (aNil)))) (aNil)))) (aNil))) (aNil))) (oNo) (oSome (e1 dNeg (eC (.int 1))))) (gN 5)) (sRet (eCall bTuple (aCons (e2 dAddL (eCut (eVar 5) (oSome (e2 dSub (eCall bLen (aCons (eVar 0) (aNil))) (eVar 3))) (oNo)) (eCut (eVar 5) (oNo) (oSome (e2 dSub (eCall bLen (aCons (eVar 0) (aNil))) (eVar 3))))) (aNil))))))))))
noncomputable def m_ring_cord : List D → Option D := runP 1 8 b_ring_cord
noncomputable def b__law_mixed : SF := sRet (e2 dMod (e2 dMul (eVar 0) (eC (.int 141421356237309504880168872420969807856967187537694807317667))) (e2 dPow (eC (.int 10)) (eC (.int 60))))
noncomputable def m__law_mixed : List D → Option D := runP 1 1 b__law_mixed
noncomputable def l1__law_pack : SF := sAsg (e2 dAddL (e2 dMul (eVar 2) (e2 dPow (eC (.int 10)) (eC (.int 60)))) (eCall m__law_mixed (aCons (e2 dIx (e2 dAddL (eCut (eVar 0) (oSome (eVar 3)) (oSome (e2 dAddL (eVar 3) (eC (.int 1))))) (eLst (aCons (e2 dAddL (e2 dMul (eC (.int 6841)) (eVar 3)) (eC (.int 37))) (aNil)))) (eC (.int 0))) (aNil)))) (gN 2)
noncomputable def b__law_pack : SF := sSeq (sAsg (eC (.int 0)) (gN 2)) (sSeq (sFor (iSeq (eLst (aCons (e2 dAddL (eVar 1) (eC (.int 1))) (aCons (eVar 1) (aNil))))) (gN 3) l1__law_pack) (sRetNew (nLst (aCons (eVar 2) (aNil)))))
noncomputable def m__law_pack : List D → Option (List D) := runN 2 4 b__law_pack
noncomputable def b__law_take : SF := sSeq (sAsg (eCall bDivmod (aCons (eBor 0 (e2 dIx (eVar 0) (eC (.int 0)))) (aCons (eVar 1) (aNil)))) (gTup (gsCons (gIx 0 (eC (.int 0))) (gsCons (gN 2) (gsNil))))) (sRet (eVar 2))
noncomputable def m__law_take : List O → Option (D × List O) := runO [true, false] 3 b__law_take
noncomputable def t1__law_low : BF := bTst (e2 dNe (eVar 3) (eC (.int 0)))
noncomputable def l1__law_low : SF := sPar 2 3 (aCons (eVar 3) (aCons (e2 dMod (eVar 2) (eVar 3)) (aNil)))
noncomputable def b__law_low : SF := sSeq (sPar 2 3 (aCons (eCall bAbs (aCons (eVar 0) (aNil))) (aCons (eCall bAbs (aCons (eVar 1) (aNil))) (aNil)))) (sSeq (sWhile t1__law_low l1__law_low) (sSeq (sIf (bTst (e2 dLt (eVar 1) (eC (.int 0)))) (sAsg (e2 dSub (eC (.int 0)) (eVar 2)) (gN 2)) (sNext)) (sRet (eTup (aCons (e2 dFdiv (eVar 0) (eVar 2)) (aCons (e2 dFdiv (eVar 1) (eVar 2)) (aNil)))))))
noncomputable def m__law_low : List D → Option D := runP 2 4 b__law_low
noncomputable def b__law_more : SF := sRet (eCall m__law_low (aCons (e2 dAddL (e2 dMul (e2 dIx (eVar 0) (eC (.int 0))) (e2 dIx (eVar 1) (eC (.int 1)))) (e2 dMul (e2 dIx (eVar 1) (eC (.int 0))) (e2 dIx (eVar 0) (eC (.int 1))))) (aCons (e2 dMul (e2 dIx (eVar 0) (eC (.int 1))) (e2 dIx (eVar 1) (eC (.int 1)))) (aNil))))
noncomputable def m__law_more : List D → Option D := runP 2 2 b__law_more
noncomputable def b__law_less_by : SF := sRet (eCall m__law_low (aCons (e2 dSub (e2 dMul (e2 dIx (eVar 0) (eC (.int 0))) (e2 dIx (eVar 1) (eC (.int 1)))) (e2 dMul (e2 dIx (eVar 1) (eC (.int 0))) (e2 dIx (eVar 0) (eC (.int 1))))) (aCons (e2 dMul (e2 dIx (eVar 0) (eC (.int 1))) (e2 dIx (eVar 1) (eC (.int 1)))) (aNil))))
noncomputable def m__law_less_by : List D → Option D := runP 2 2 b__law_less_by
noncomputable def b__law_under : SF := sRet (e2 dLt (e2 dMul (e2 dIx (eVar 0) (eC (.int 0))) (e2 dIx (eVar 1) (eC (.int 1)))) (e2 dMul (e2 dIx (eVar 1) (eC (.int 0))) (e2 dIx (eVar 0) (eC (.int 1)))))
noncomputable def m__law_under : List D → Option D := runP 2 2 b__law_under
noncomputable def b__law_width : SF := sSeq (sAsg (eCallO m__law_take (aoOwn 0 (aoVal (eC (.int 4)) (aoNil)))) (gN 2)) (sSeq (sIf (bTst (e2 dEq (eVar 2) (eC (.int 0)))) (sRet (eTup (aCons (eC (.int 0)) (aCons (eC (.int 1)) (aNil))))) (sNext)) (sRet (eCall m__law_low (aCons (eCallO m__law_take (aoOwn 0 (aoVal (e2 dAddL (eVar 1) (eC (.int 1))) (aoNil)))) (aCons (e2 dIx (eLst (aCons (eC (.int 1)) (aCons (eC (.int 1)) (aCons (eC (.int 1)) (aCons (eC (.int 2)) (aNil)))))) (eVar 2)) (aNil))))))
noncomputable def m__law_width : List O → Option (D × List O) := runO [true, false] 3 b__law_width
noncomputable def l1__law_walk : SF := sSeq (sAsg (eCall m__law_more (aCons (eVar 3) (aCons (eTup (aCons (e2 dSub (eCallO m__law_take (aoOwn 0 (aoVal (eC (.int 7)) (aoNil)))) (eC (.int 3))) (aCons (eC (.int 1)) (aNil)))) (aNil)))) (gN 3)) (sApp 4 (eTup (aCons (eVar 3) (aCons (eCall m__law_more (aCons (eVar 3) (aCons (eCallO m__law_width (aoOwn 0 (aoVal (eVar 2) (aoNil)))) (aNil)))) (aNil)))))
noncomputable def b__law_walk : SF := sSeq (sAsg (eTup (aCons (eC (.int 0)) (aCons (eC (.int 1)) (aNil)))) (gN 3)) (sSeq (sNew 4 (nLst (aNil))) (sSeq (sFor (iRng1 (aCons (eVar 1) (aNil))) (gN 5) l1__law_walk) (sRet (eCall bTuple (aCons (eFrz 4) (aNil))))))
noncomputable def m__law_walk : List O → Option (D × List O) := runO [true, false, false] 6 b__law_walk
noncomputable def b__law_fine_number : SF := sSeq (sAsg (e2 dIx (eLst (aCons (eC (.int 999983)) (aCons (eC (.int 999979)) (aCons (eC (.int 999961)) (aCons (eC (.int 1000000)) (aNil)))))) (eCallO m__law_take (aoOwn 0 (aoVal (eC (.int 4)) (aoNil))))) (gN 1)) (sRet (eCall m__law_low (aCons (e2 dSub (e2 dMul (eC (.int 1000)) (eVar 1)) (eCallO m__law_take (aoOwn 0 (aoVal (eC (.int 3)) (aoNil))))) (aCons (eVar 1) (aNil)))))
noncomputable def m__law_fine_number : List O → Option (D × List O) := runO [true] 2 b__law_fine_number
noncomputable def l1__law_fine_walk : SF := sSeq (sPar 4 5 (aCons (eCallO m__law_fine_number (aoOwn 0 (aoNil))) (aCons (eCallO m__law_fine_number (aoOwn 0 (aoNil))) (aNil)))) (sSeq (sIf (bTst (eCall m__law_under (aCons (eVar 5) (aCons (eVar 4) (aNil))))) (sPar 4 5 (aCons (eVar 5) (aCons (eVar 4) (aNil)))) (sNext)) (sApp 2 (eTup (aCons (eVar 4) (aCons (eVar 5) (aNil))))))
noncomputable def b__law_fine_walk : SF := sSeq (sNew 2 (nLst (aNil))) (sSeq (sFor (iRng1 (aCons (eVar 1) (aNil))) (gN 3) l1__law_fine_walk) (sRet (eCall bTuple (aCons (eFrz 2) (aNil)))))
noncomputable def m__law_fine_walk : List O → Option (D × List O) := runO [true, false] 6 b__law_fine_walk
noncomputable def l1__law_moved : SF := sSeq (sAsg (e2 dIx (eVar 1) (eVar 5)) (gTup (gsCons (gN 6) (gsCons (gN 7) (gsNil))))) (sSeq (sIf (bOr (bTst (e2 dEq (eVar 2) (eVar 5))) (bTst (e2 dGe (eVar 2) (eCall bLen (aCons (eVar 1) (aNil)))))) (sPar 6 7 (aCons (eCall m__law_more (aCons (eVar 6) (aCons (e2 dIx (eVar 3) (eCallO m__law_take (aoOwn 0 (aoVal (eC (.int 6)) (aoNil))))) (aNil)))) (aCons (eCall m__law_more (aCons (eVar 7) (aCons (e2 dIx (eVar 3) (eCallO m__law_take (aoOwn 0 (aoVal (eC (.int 6)) (aoNil))))) (aNil)))) (aNil)))) (sNext)) (sSeq (sIf (bTst (eCall m__law_under (aCons (eVar 7) (aCons (eVar 6) (aNil))))) (sPar 6 7 (aCons (eVar 7) (aCons (eVar 6) (aNil)))) (sNext)) (sApp 4 (eTup (aCons (eVar 6) (aCons (eVar 7) (aNil)))))))
noncomputable def b__law_moved : SF := sSeq (sAsg (eCallO m__law_take (aoOwn 0 (aoVal (e2 dMul (eC (.int 2)) (eCall bLen (aCons (eVar 1) (aNil)))) (aoNil)))) (gN 2)) (sSeq (sAsg (eLst (aCons (eTup (aCons (eC (.int 0)) (aCons (eC (.int 1)) (aNil)))) (aCons (eTup (aCons (eC (.int 1)) (aCons (eC (.int 1)) (aNil)))) (aCons (eTup (aCons (e1 dNeg (eC (.int 1))) (aCons (eC (.int 1)) (aNil)))) (aCons (eTup (aCons (eC (.int 1)) (aCons (eC (.int 2)) (aNil)))) (aCons (eTup (aCons (e1 dNeg (eC (.int 1))) (aCons (eC (.int 3)) (aNil)))) (aCons (eTup (aCons (eC (.int 3)) (aCons (eC (.int 1)) (aNil)))) (aNil)))))))) (gN 3)) (sSeq (sNew 4 (nLst (aNil))) (sSeq (sFor (iRng1 (aCons (eCall bLen (aCons (eVar 1) (aNil))) (aNil))) (gN 5) l1__law_moved) (sRet (eCall bTuple (aCons (eFrz 4) (aNil)))))))
noncomputable def m__law_moved : List O → Option (D × List O) := runO [true, false] 8 b__law_moved
noncomputable def b__law_two : SF := sSeq (sAsg (e2 dEq (eCallO m__law_take (aoOwn 0 (aoVal (eC (.int 4)) (aoNil)))) (eC (.int 0))) (gN 3)) (sSeq (sAsg (e2 dAddL (eC (.int 2)) (eCallO m__law_take (aoOwn 0 (aoVal (eC (.int 8)) (aoNil))))) (gN 4)) (sSeq (sIf (bTst (eVar 3)) (sRet (eTup (aCons (eCallO m__law_fine_walk (aoOwn 0 (aoVal (eVar 4) (aoNil)))) (aCons (eCallO m__law_fine_walk (aoOwn 1 (aoVal (eVar 4) (aoNil)))) (aNil))))) (sNext)) (sSeq (sIf (bAnd (bTst (e2 dEq (eCallO m__law_take (aoOwn 0 (aoVal (eC (.int 8)) (aoNil)))) (eC (.int 0)))) (bTst (eVar 2))) (sAsg (eC (.int 25)) (gN 4)) (sNext)) (sSeq (sAsg (eCallO m__law_walk (aoOwn 0 (aoVal (eVar 4) (aoVal (eC (.int 6)) (aoNil))))) (gN 5)) (sSeq (sIf (bTst (e2 dEq (eCallO m__law_take (aoOwn 1 (aoVal (eC (.int 3)) (aoNil)))) (eC (.int 0)))) (sRet (eTup (aCons (eVar 5) (aCons (eCallO m__law_walk (aoOwn 1 (aoVal (eVar 4) (aoVal (eC (.int 6)) (aoNil))))) (aNil))))) (sNext)) (sRet (eTup (aCons (eVar 5) (aCons (eCallO m__law_moved (aoOwn 1 (aoVal (eVar 5) (aoNil)))) (aNil))))))))))
noncomputable def m__law_two : List O → Option (D × List O) := runO [true, true, false] 6 b__law_two
noncomputable def b__law_tied : SF := sSeq (sPar 2 3 (aCons (e2 dIx (e2 dIx (eVar 0) (eC (.int 0))) (e2 dIx (eVar 1) (eC (.int 0)))) (aCons (e2 dIx (e2 dIx (eVar 0) (e1 dNeg (eC (.int 1)))) (e2 dIx (eVar 1) (eC (.int 1)))) (aNil)))) (sRet (e2 dAddL (e2 dAddL (eTup (aCons (eTup (aCons (eVar 2) (aCons (eVar 2) (aNil)))) (aNil))) (eCut (eVar 0) (oSome (eC (.int 1))) (oSome (e1 dNeg (eC (.int 1)))))) (eTup (aCons (eTup (aCons (eVar 3) (aCons (eVar 3) (aNil)))) (aNil)))))
noncomputable def m__law_tied : List D → Option D := runP 2 4 b__law_tied
noncomputable def b__law_greater : SF := sSeq (sIf (bTst (eCall m__law_under (aCons (eVar 0) (aCons (eVar 1) (aNil))))) (sRet (eVar 1)) (sNext)) (sRet (eVar 0))
noncomputable def m__law_greater : List D → Option D := runP 2 2 b__law_greater
noncomputable def b__law_lesser : SF := sSeq (sIf (bTst (eCall m__law_under (aCons (eVar 0) (aCons (eVar 1) (aNil))))) (sRet (eVar 0)) (sNext)) (sRet (eVar 1))
noncomputable def m__law_lesser : List D → Option D := runP 2 2 b__law_lesser
noncomputable def b__law_four : SF := sSeq (sAsg (eCall bTuple (aCons (eLc [4, 5] (iZip (aCons (eVar 0) (aCons (eVar 1) (aNil)))) (gTup (gsCons (gN 4) (gsCons (gN 5) (gsNil)))) (bYes) (eTup (aCons (eCall m__law_greater (aCons (e2 dIx (eVar 4) (eC (.int 0))) (aCons (e2 dIx (eVar 5) (eC (.int 0))) (aNil)))) (aCons (eCall m__law_greater (aCons (e2 dIx (eVar 4) (eC (.int 1))) (aCons (e2 dIx (eVar 5) (eC (.int 1))) (aNil)))) (aNil))))) (aNil))) (gN 2)) (sSeq (sAsg (eCall bTuple (aCons (eLc [4, 5] (iZip (aCons (eVar 0) (aCons (eVar 1) (aNil)))) (gTup (gsCons (gN 4) (gsCons (gN 5) (gsNil)))) (bYes) (eTup (aCons (eCall m__law_lesser (aCons (e2 dIx (eVar 4) (eC (.int 0))) (aCons (e2 dIx (eVar 5) (eC (.int 0))) (aNil)))) (aCons (eCall m__law_lesser (aCons (e2 dIx (eVar 4) (eC (.int 1))) (aCons (e2 dIx (eVar 5) (eC (.int 1))) (aNil)))) (aNil))))) (aNil))) (gN 3)) (sRet (eLst (aCons (eVar 3) (aCons (eVar 0) (aCons (eVar 1) (aCons (eVar 2) (aNil))))))))
noncomputable def m__law_four : List D → Option D := runP 2 6 b__law_four
noncomputable def l2__law_far : SF := sSeq (sAsg (eCall m__law_less_by (aCons (e2 dIx (eVar 3) (eVar 5)) (aCons (e2 dIx (eVar 4) (eVar 5)) (aNil)))) (gN 6)) (sAsg (eCall m__law_greater (aCons (eVar 2) (aCons (eTup (aCons (eCall bAbs (aCons (e2 dIx (eVar 6) (eC (.int 0))) (aNil))) (aCons (e2 dIx (eVar 6) (eC (.int 1))) (aNil)))) (aNil)))) (gN 2))
noncomputable def l1__law_far : SF := sFor (iSeq (eLst (aCons (eC (.int 0)) (aCons (eC (.int 1)) (aNil))))) (gN 5) l2__law_far
noncomputable def b__law_far : SF := sSeq (sAsg (eTup (aCons (eC (.int 0)) (aCons (eC (.int 1)) (aNil)))) (gN 2)) (sSeq (sFor (iZip (aCons (eVar 0) (aCons (eVar 1) (aNil)))) (gTup (gsCons (gN 3) (gsCons (gN 4) (gsNil)))) l1__law_far) (sRet (eVar 2)))
noncomputable def m__law_far : List D → Option D := runP 2 7 b__law_far
noncomputable def b__law_steps : SF := sRet (eCall bTuple (aCons (eLc [1] (iRng1 (aCons (e2 dSub (eCall bLen (aCons (eVar 0) (aNil))) (eC (.int 1))) (aNil))) (gN 1) (bYes) (eCall m__law_less_by (aCons (e2 dIx (eVar 0) (e2 dAddL (eVar 1) (eC (.int 1)))) (aCons (e2 dIx (eVar 0) (eVar 1)) (aNil))))) (aNil)))
noncomputable def m__law_steps : List D → Option D := runP 1 2 b__law_steps
noncomputable def b__law_is_number : SF := sSeq (sIf (bOr (bNot (bTst (e1 (isTy "tuple") (eVar 0)))) (bTst (e2 dNe (eCall bLen (aCons (eVar 0) (aNil))) (eC (.int 2))))) (sRet (eC (.bl false))) (sNext)) (sSeq (sIf (bOr (bNot (bTst (eCall bAll (aCons (eLc [1] (iSeq (eVar 0)) (gN 1) (bYes) (eAnd (e1 (isTy "int") (eVar 1)) (eNot (e1 (isTy "bool") (eVar 1))))) (aNil))))) (bTst (e2 dLt (e2 dIx (eVar 0) (eC (.int 1))) (eC (.int 1))))) (sRet (eC (.bl false))) (sNext)) (sRet (e2 dEq (eCall m__law_low (aCons (e2 dIx (eVar 0) (eC (.int 0))) (aCons (e2 dIx (eVar 0) (eC (.int 1))) (aNil)))) (eVar 0))))
noncomputable def m__law_is_number : List D → Option D := runP 1 2 b__law_is_number
noncomputable def b__law_is_row : SF := sSeq (sIf (bOr (bNot (bTst (e1 (isTy "tuple") (eVar 1)))) (bOr (bTst (e2 dNe (eCall bLen (aCons (eVar 1) (aNil))) (eCall bLen (aCons (eVar 0) (aNil))))) (bNot (bTst (eCall bAll (aCons (eLc [2] (iSeq (eVar 1)) (gN 2) (bYes) (eCall m__law_is_number (aCons (eVar 2) (aNil)))) (aNil))))))) (sRet (eC (.bl false))) (sNext)) (sRet (eNot (eCall bAny (aCons (eLc [3] (iRng1 (aCons (eCall bLen (aCons (eVar 1) (aNil))) (aNil))) (gN 3) (bYes) (eOr (eCall m__law_under (aCons (e2 dIx (eVar 1) (eVar 3)) (aCons (e2 dIx (e2 dIx (eVar 0) (eVar 3)) (eC (.int 0))) (aNil)))) (eCall m__law_under (aCons (e2 dIx (e2 dIx (eVar 0) (eVar 3)) (eC (.int 1))) (aCons (e2 dIx (eVar 1) (eVar 3)) (aNil)))))) (aNil)))))
noncomputable def m__law_is_row : List D → Option D := runP 2 4 b__law_is_row
noncomputable def l1__law_bends_right : SF := sSeq (sIf (bAnd (bTst (eCall m__law_under (aCons (e2 dIx (eVar 0) (e2 dSub (eVar 4) (eC (.int 1)))) (aCons (e2 dIx (eVar 0) (eVar 4)) (aNil))))) (bTst (e2 dNe (e2 dIx (eVar 2) (eVar 4)) (e2 dIx (e2 dIx (eVar 1) (eVar 4)) (eC (.int 1)))))) (sRet (eC (.bl false))) (sNext)) (sIf (bAnd (bTst (eCall m__law_under (aCons (e2 dIx (eVar 0) (eVar 4)) (aCons (e2 dIx (eVar 0) (e2 dSub (eVar 4) (eC (.int 1)))) (aNil))))) (bTst (e2 dNe (e2 dIx (eVar 2) (eVar 4)) (e2 dIx (e2 dIx (eVar 1) (eVar 4)) (eC (.int 0)))))) (sRet (eC (.bl false))) (sNext))
noncomputable def b__law_bends_right : SF := sSeq (sFor (iRng2 (aCons (eVar 3) (aCons (eCall bLen (aCons (eVar 0) (aNil))) (aNil)))) (gN 4) l1__law_bends_right) (sRet (eC (.bl true)))
noncomputable def m__law_bends_right : List D → Option D := runP 4 5 b__law_bends_right
noncomputable def b__law_ends_right : SF := sSeq (sPar 2 3 (aCons (e2 dIx (eCall m__law_steps (aCons (eVar 1) (aNil))) (eC (.int 0))) (aCons (e2 dIx (eCall m__law_steps (aCons (eVar 1) (aNil))) (e1 dNeg (eC (.int 1)))) (aNil)))) (sSeq (sIf (bOr (bAnd (bTst (e2 dGt (e2 dIx (eVar 2) (eC (.int 0))) (eC (.int 0)))) (bTst (e2 dNe (e2 dIx (eVar 1) (eC (.int 0))) (e2 dIx (e2 dIx (eVar 0) (eC (.int 0))) (eC (.int 1)))))) (bAnd (bTst (e2 dLt (e2 dIx (eVar 2) (eC (.int 0))) (eC (.int 0)))) (bTst (e2 dNe (e2 dIx (eVar 1) (eC (.int 0))) (e2 dIx (e2 dIx (eVar 0) (eC (.int 0))) (eC (.int 0))))))) (sRet (eC (.bl false))) (sNext)) (sRet (eNot (eOr (eAnd (e2 dGt (e2 dIx (eVar 3) (eC (.int 0))) (eC (.int 0))) (e2 dNe (e2 dIx (eVar 1) (e1 dNeg (eC (.int 1)))) (e2 dIx (e2 dIx (eVar 0) (e1 dNeg (eC (.int 1)))) (eC (.int 0))))) (eAnd (e2 dLt (e2 dIx (eVar 3) (eC (.int 0))) (eC (.int 0))) (e2 dNe (e2 dIx (eVar 1) (e1 dNeg (eC (.int 1)))) (e2 dIx (e2 dIx (eVar 0) (e1 dNeg (eC (.int 1)))) (eC (.int 1)))))))))
noncomputable def m__law_ends_right : List D → Option D := runP 2 4 b__law_ends_right
noncomputable def l1__law_level : SF := sPar 1 2 (aCons (eCall m__law_greater (aCons (eVar 1) (aCons (eVar 3) (aNil)))) (aCons (eCall m__law_lesser (aCons (eVar 2) (aCons (eVar 4) (aNil)))) (aNil)))
noncomputable def b__law_level : SF := sSeq (sAsg (e2 dIx (eVar 0) (eC (.int 0))) (gTup (gsCons (gN 1) (gsCons (gN 2) (gsNil))))) (sSeq (sFor (iSeq (eVar 0)) (gTup (gsCons (gN 3) (gsCons (gN 4) (gsNil)))) l1__law_level) (sSeq (sIf (bTst (eCall m__law_under (aCons (eVar 2) (aCons (eVar 1) (aNil))))) (sRet (eC .non)) (sNext)) (sRet (eVar 1))))
noncomputable def m__law_level : List D → Option D := runP 1 5 b__law_level
noncomputable def b__law_taut : SF := sSeq (sIf (bNot (bTst (eCall m__law_is_row (aCons (eVar 1) (aCons (eVar 2) (aNil)))))) (sRet (eC (.bl false))) (sNext)) (sSeq (sAsg (eCall m__law_level (aCons (eVar 1) (aNil))) (gN 3)) (sSeq (sIf (bAnd (bTst (e2 dGt (eVar 0) (eC (.int 0)))) (bTst (e1 dNotN (eVar 3)))) (sRet (e2 dEq (eVar 2) (e2 dMulT (eTup (aCons (eVar 3) (aNil))) (eCall bLen (aCons (eVar 1) (aNil)))))) (sNext)) (sSeq (sIf (bTst (e2 dEq (eVar 0) (eC (.int 2)))) (sRet (eCall m__law_bends_right (aCons (eCall m__law_steps (aCons (e2 dAddL (eVar 2) (eCut (eVar 2) (oNo) (oSome (eC (.int 1))))) (aNil))) (aCons (eVar 1) (aCons (eVar 2) (aCons (eC (.int 0)) (aNil))))))) (sNext)) (sRet (eAnd (eCall m__law_bends_right (aCons (eCall m__law_steps (aCons (eVar 2) (aNil))) (aCons (eVar 1) (aCons (eVar 2) (aCons (eC (.int 1)) (aNil)))))) (eOr (e2 dEq (eVar 0) (eC (.int 0))) (eCall m__law_ends_right (aCons (eVar 1) (aCons (eVar 2) (aNil))))))))))
noncomputable def m__law_taut : List D → Option D := runP 3 4 b__law_taut
noncomputable def b__law_told : SF := sSeq (sIf (bTst (e2 dEq (eVar 0) (eC (.int 0)))) (sRet (eCall m_cord (aCons (eVar 1) (aNil)))) (sNext)) (sSeq (sIf (bTst (e2 dEq (eVar 0) (eC (.int 1)))) (sRet (eCall m_loose_cord (aCons (eVar 1) (aNil)))) (sNext)) (sRet (eCall m_ring_cord (aCons (eVar 1) (aNil)))))
noncomputable def m__law_told : List D → Option D := runP 2 2 b__law_told
noncomputable def l1__law_right : SF := sSeq (sIf (bOr (bTst (eCall m__law_under (aCons (eCall m__law_lesser (aCons (e2 dIx (eVar 7) (eVar 10)) (aCons (e2 dIx (eVar 8) (eVar 10)) (aNil)))) (aCons (e2 dIx (eVar 6) (eVar 10)) (aNil))))) (bTst (eCall m__law_under (aCons (e2 dIx (eVar 9) (eVar 10)) (aCons (eCall m__law_greater (aCons (e2 dIx (eVar 7) (eVar 10)) (aCons (e2 dIx (eVar 8) (eVar 10)) (aNil)))) (aNil)))))) (sRet (eC (.bl false))) (sNext)) (sIf (bTst (eCall m__law_under (aCons (eVar 5) (aCons (eCall m__law_less_by (aCons (e2 dIx (eVar 9) (eVar 10)) (aCons (e2 dIx (eVar 6) (eVar 10)) (aNil)))) (aNil))))) (sRet (eC (.bl false))) (sNext))
noncomputable def b__law_right : SF := sSeq (sAsg (eCall m__law_four (aCons (eVar 1) (aCons (eVar 2) (aNil)))) (gN 3)) (sSeq (sAsg (eLc [11] (iSeq (eVar 3)) (gN 11) (bYes) (eCall m__law_told (aCons (eVar 0) (aCons (eVar 11) (aNil))))) (gN 4)) (sSeq (sIf (bNot (bTst (eCall bAll (aCons (eLc [10] (iRng1 (aCons (eC (.int 4)) (aNil))) (gN 10) (bYes) (eCall m__law_taut (aCons (eVar 0) (aCons (e2 dIx (eVar 3) (eVar 10)) (aCons (e2 dIx (eVar 4) (eVar 10)) (aNil)))))) (aNil))))) (sRet (eC (.bl false))) (sNext)) (sSeq (sAsg (eCall m__law_far (aCons (eVar 1) (aCons (eVar 2) (aNil)))) (gN 5)) (sSeq (sAsg (eVar 4) (gTupL (gsCons (gN 6) (gsCons (gN 7) (gsCons (gN 8) (gsCons (gN 9) (gsNil))))))) (sSeq (sFor (iRng1 (aCons (eCall bLen (aCons (eVar 1) (aNil))) (aNil))) (gN 10) l1__law_right) (sRet (eC (.bl true))))))))
noncomputable def m__law_right : List D → Option D := runP 3 12 b__law_right
noncomputable def l1_law : SF := sSeq (sNew 2 (nCall m__law_pack (aCons (eVar 0) (aCons (e2 dAddL (eVar 1) (eC (.int 2))) (aNil))))) (sSeq (sAsg (eTup (aCons (eCallO m__law_take (aoOwn 2 (aoVal (eC (.int 2)) (aoNil)))) (aCons (eCallO m__law_take (aoOwn 2 (aoVal (eC (.int 2)) (aoNil)))) (aNil)))) (gN 3)) (sSeq (sAsg (eCallO m__law_two (aoNew (nCall m__law_pack (aCons (eVar 0) (aCons (eVar 1) (aNil)))) (aoOwn 2 (aoVal (e2 dEq (eVar 1) (eC (.int 0))) (aoNil))))) (gTup (gsCons (gN 4) (gsCons (gN 5) (gsNil))))) (sSeq (sIf (bOr (bNot (bTst (eCall m__law_right (aCons (eC (.int 0)) (aCons (eCall m__law_tied (aCons (eVar 4) (aCons (eVar 3) (aNil)))) (aCons (eCall m__law_tied (aCons (eVar 5) (aCons (eVar 3) (aNil)))) (aNil))))))) (bNot (bTst (eCall m__law_right (aCons (eC (.int 1)) (aCons (eVar 4) (aCons (eVar 5) (aNil)))))))) (sRet (eC (.bl false))) (sNext)) (sIf (bAnd (bTst (eChain dLe dLe (eC (.int 3)) (eCall bLen (aCons (eVar 4) (aNil))) (eC (.int 24)))) (bNot (bTst (eCall m__law_right (aCons (eC (.int 2)) (aCons (eVar 4) (aCons (eVar 5) (aNil)))))))) (sRet (eC (.bl false))) (sNext)))))
noncomputable def b_law : SF := sSeq (sFor (iRng3 (aCons (eC (.int 0)) (aCons (eCall bMax (aCons (eC (.int 1)) (aCons (eCall bMin (aCons (eCall bLen (aCons (eVar 0) (aNil))) (aCons (eC (.int 12)) (aNil)))) (aNil)))) (aCons (eC (.int 4)) (aNil))))) (gN 1) l1_law) (sRet (eC (.bl true)))
noncomputable def m_law : List D → Option D := runP 1 6 b_law
end Gn
/-! ### what the defs of levelcord.numbers reckon -/
namespace Gn
open PySem PySem.Spec PyProof.Rows L2 DL
theorem common_loop (a b : Nat) : sWhile t1_common l1_common [.val (.int a), .val (.int b)] = some (.next [.val (.int (Nat.gcd a b)), .val (.int 0)]) := by
  induction b using Nat.strongRecOn generalizing a with
  | _ b ih =>
    rw [sWhile_eq, l1_common, t1_common]
    by_cases hb : b = 0
    · subst hb
      simp
    · have e : (b : Int) ≠ 0 := by omega
      have e2 : (a : Int).fmod b = ((a % b : Nat) : Int) := by rw [Int.fmod_eq_emod_of_nonneg _ (by omega)]; rfl
      have := ih (a % b) (Nat.mod_lt _ (by omega)) b
      simp only [v_bTst, v_e2, v_eVar, v_eC, List.getElem?_cons_succ, List.getElem?_cons_zero, Option.bind_some, v_neI, Option.map_some, v_tB, decide_eq_true_eq, ne_eq, e, not_false_eq_true, if_true, v_sPar, v_aCons, v_aNil, dMod, e2, List.length_cons, List.length_nil, List.set_cons_zero, List.set_cons_succ, decide_true]
      simp only [Nat.reduceAdd, Nat.reduceLT, and_self, if_true, Option.bind_some]
      rw [l1_common, t1_common] at this
      rw [this, Nat.gcd_comm b, ← Nat.gcd_rec, Nat.gcd_comm]
theorem c_common (a b : Int) : m_common [.int a, .int b] = some (.int (Int.gcd a b)) := by
  have ab : ∀ i : Int, (if i < 0 then -i else i) = (i.natAbs : Int) := fun i => by split <;> omega
  have := common_loop a.natAbs b.natAbs
  simp only [m_common, b_common, runP, List.length_cons, List.length_nil, Nat.reduceAdd, if_true, List.map_cons, List.map_nil, Nat.sub_self, List.replicate_zero, List.append_nil, v_sSeq, v_sPar, v_aCons, v_aNil, v_eCall, v_eVar, List.getElem?_cons_succ, List.getElem?_cons_zero, Option.bind_some, Option.map_some, bAbs, Nat.reduceLT, and_self, List.set_cons_zero, List.set_cons_succ, ab, this, v_sRet]
  rfl
theorem c_number {t b : Int} {n : Nat} (hb : b ≠ 0) (hs : b.natAbs < 2 ^ n) (hn : n ≤ 9000) : m_number [.int t, .int b] = some (numD (Rat.divInt t b)) := by
  have g0 : Int.gcd t b ≠ 0 := by rw [Ne, Int.gcd_eq_zero_iff]; exact fun h => hb h.2
  have gl : (Int.gcd t b).log2 < 9000 := by
    refine log2_of (Nat.lt_of_le_of_lt ?_ (Nat.lt_of_lt_of_le hs (Nat.pow_le_pow_right (by decide) hn))) (by decide)
    exact Nat.le_of_dvd (by omega) (Int.gcd_dvd_natAbs_right t b)
  obtain ⟨t', ht⟩ : (Int.gcd t b : Int) ∣ t := Int.gcd_dvd_left ..
  obtain ⟨b', hb'⟩ : (Int.gcd t b : Int) ∣ b := Int.gcd_dvd_right ..
  have q : (Rat.divInt t b).num = b.sign * t' ∧ ((Rat.divInt t b).den : Int) = b'.natAbs := by
    rw [Rat.num_divInt, Rat.den_divInt, if_neg hb, Int.gcd_comm b t]
    generalize Int.gcd t b = g at *
    subst ht
    refine ⟨?_, ?_⟩
    · rw [← Int.mul_assoc, Int.mul_comm _ (g : Int), Int.mul_assoc]
      exact Int.mul_ediv_cancel_left _ (by omega)
    · subst hb'
      rw [Int.natAbs_mul, Int.natAbs_natCast, Nat.mul_div_cancel_left _ (by omega)]
  generalize hg : Int.gcd t b = g at *
  rw [numD, q.1, q.2]
  have gi : (g : Int) ≠ 0 := by omega
  by_cases hl : b < 0
  · have f1 : t.fdiv (-(g : Int)) = b.sign * t' := by
      rw [ht, show (g : Int) * t' = (-g) * (-t') by rw [Int.neg_mul_neg], Int.mul_fdiv_cancel_left _ (by omega), Int.sign_eq_neg_one_of_neg hl]
      omega
    have f2 : b.fdiv (-(g : Int)) = b'.natAbs := by
      have b0 : b' < 0 := by
        rcases Int.lt_or_le b' 0 with h | h
        · exact h
        · exact absurd (hb' ▸ Int.mul_nonneg (by omega) h) (by omega)
      rw [hb', show (g : Int) * b' = (-g) * (-b') by rw [Int.neg_mul_neg], Int.mul_fdiv_cancel_left _ (by omega)]
      omega
    simp [m_number, b_number, runP, c_common, hg, hb, hl, dFdiv, f1, f2, gl, g0, cap]
  · have f1 : t.fdiv (g : Int) = b.sign * t' := by
      rw [ht, Int.mul_fdiv_cancel_left _ gi, Int.sign_eq_one_of_pos (by omega)]
      omega
    have f2 : b.fdiv (g : Int) = b'.natAbs := by
      have b0 : 0 < b' := by
        rcases Int.lt_or_le 0 b' with h | h
        · exact h
        · exact absurd (hb' ▸ Int.mul_nonpos_of_nonneg_of_nonpos (by omega) h) (by omega)
      rw [hb', Int.mul_fdiv_cancel_left _ gi]
      omega
    simp [m_number, b_number, runP, c_common, hg, hb, hl, dFdiv, f1, f2, gl, gi, g0, cap]
theorem szlog {n m : Nat} {a b : Int} (h : a.natAbs < 2 ^ n) (h1 : b.natAbs < 2 ^ m) (hn : n ≤ 4000) (hm : m ≤ 4000) : a.natAbs.log2 + b.natAbs.log2 < 100000000 := by
  have := log2_of (Nat.lt_of_lt_of_le h (Nat.pow_le_pow_right (by decide) hn)) (by decide)
  have := log2_of (Nat.lt_of_lt_of_le h1 (Nat.pow_le_pow_right (by decide) hm)) (by decide)
  omega
theorem mulI {n m : Nat} {a b : Int} (h : a.natAbs < 2 ^ n) (h1 : b.natAbs < 2 ^ m) (hn : n ≤ 4000) (hm : m ≤ 4000) : dMul (.int a) (.int b) = some (.int (a * b)) := if_pos (szlog h h1 hn hm)
theorem szden {n : Nat} {p : Rat} (h : Sz n p) : ((p.den : Int)).natAbs < 2 ^ n := h.2
theorem den0 (p q : Rat) : (p.den : Int) * q.den ≠ 0 := by
  have := p.den_nz
  have := q.den_nz
  exact Int.mul_ne_zero (by omega) (by omega)
theorem dens {n : Nat} {p q : Rat} (hp : Sz n p) (hq : Sz n q) (hn : n ≤ 4000) : ((p.den : Int) * q.den).natAbs < 2 ^ 8000 := by
  rw [Int.natAbs_mul]
  exact Nat.lt_of_lt_of_le (lt2_mul hp.2 hq.2) (Nat.pow_le_pow_right (by decide) (by omega))
section
variable {n : Nat} {p q : Rat} (hp : Sz n p) (hq : Sz n q) (hn : n ≤ 4000)
include hp hq hn
theorem c_added : m_added [numD p, numD q] = some (numD (p + q)) := by
  rw [Rat.add_divInt', ← c_number (den0 p q) (dens hp hq hn) (by decide)]
  simp [m_added, b_added, runP, numD, mulI hp.1 (szden hq) hn hn, mulI hq.1 (szden hp) hn hn, mulI (szden hp) (szden hq) hn hn]
  cases m_number [D.int (p.num * ↑q.den + q.num * ↑p.den), D.int (↑p.den * ↑q.den)] <;> rfl
theorem c_taken : m_taken [numD p, numD q] = some (numD (p - q)) := by
  rw [Rat.sub_divInt', ← c_number (den0 p q) (dens hp hq hn) (by decide)]
  simp [m_taken, b_taken, runP, numD, mulI hp.1 (szden hq) hn hn, mulI hq.1 (szden hp) hn hn, mulI (szden hp) (szden hq) hn hn]
  cases m_number [D.int (p.num * ↑q.den - q.num * ↑p.den), D.int (↑p.den * ↑q.den)] <;> rfl
theorem c_parted (z : q ≠ 0) : m_parted [numD p, numD q] = some (numD (p / q)) := by
  have n0 : (p.den : Int) * q.num ≠ 0 := by
    have := p.den_nz
    exact Int.mul_ne_zero (by omega) (fun h => z (Rat.num_eq_zero.mp h))
  have n1 : ((p.den : Int) * q.num).natAbs < 2 ^ 8000 := by
    rw [Int.natAbs_mul]
    exact Nat.lt_of_lt_of_le (lt2_mul hp.2 hq.1) (Nat.pow_le_pow_right (by decide) (by omega))
  rw [Rat.div_divInt' _ _ z, ← c_number n0 n1 (by decide)]
  simp [m_parted, b_parted, runP, numD, mulI hp.1 (szden hq) hn hn, mulI (szden hp) hq.1 hn hn]
  cases m_number [D.int (p.num * q.den), D.int (↑p.den * ↑q.num)] <;> rfl
theorem c_is_less : m_is_less [numD p, numD q] = some (.bl (decide (p < q))) := by
  simp [m_is_less, b_is_less, runP, numD, mulI hp.1 (szden hq) hn hn, mulI hq.1 (szden hp) hn hn, Rat.lt_iff]
end
theorem c_is_number (q : Rat) : m_is_number [numD q] = some (.bl true) := by
  have w : ∀ i : Int, m_is_whole [.int i] = some (.bl true) := fun i => rfl
  have d : 1 ≤ (q.den : Int) := by have := q.den_pos; omega
  have g : Int.gcd q.num q.den = 1 := q.reduced
  have l := lcD_map (g := gN 1) (fe := eCall m_is_whole (aCons (eVar 1) aNil)) (own := [1]) (s := [.val (.tup [.int q.num, .int q.den]), .un]) D.int (fun _ => .bl true) [q.num, (q.den : Int)] (fun a _ => ⟨_, _, rfl, by simp [w]; rfl, rfl⟩) (Nat.le_trans (m := 2) (Nat.le_refl _) (by decide))
  simp only [List.map_cons, List.map_nil] at l
  simp [m_is_number, b_is_number, runP, numD, isTy, bLen, l, bAll, boolsD, c_common, g, d]
end Gn
/-! ### drawn digits, and the laws' own numbers -/
namespace Gn
open PySem PySem.Spec PyProof.Rows L2 DL
theorem c_take {p z : Int} (h : 0 < z) (h1 : z < 1099511627776) : m__law_take [.lst [.int p], .val (.int z)] = some (.int (p % z), [.lst [.int (p / z)], .un]) := by
  have l : z.natAbs.log2 < 9000 := by
    have e : (2 : Nat) ^ 40 = 1099511627776 := by decide
    exact log2_of (Nat.lt_of_lt_of_le (m := 2 ^ 40) (by omega) (Nat.pow_le_pow_right (by decide) (by decide))) (by decide)
  simp [m__law_take, b__law_take, runO, bDivmod, h, l, ixN, keepO]
theorem md {p z : Int} (h : 0 < z) : 0 ≤ p % z ∧ p % z < z := ⟨Int.emod_nonneg p (by omega), Int.emod_lt_of_pos p h⟩
theorem bits_log {z : Int} (h : Builtin.Int.intBits z ≤ 1048576) : z.natAbs.log2 ≤ 10000000 := by
  unfold Builtin.Int.intBits at h
  split at h
  · rename_i e
    simp only [beq_iff_eq] at e
    subst e
    decide
  · omega
theorem cell_at {xs : List D} {k : Nat} {d : D} (h : k ≤ 100) (hl : xs.length ≤ 1000) :
    (dAddL (.lst (DL.cutD xs (some k) (some ((k : Int) + 1)))) (.lst [d])).bind (fun z => dIx z (.int 0)) = some ((xs[k]?).getD d) := by
  have e : DL.cutD xs (some k) (some ((k : Int) + 1)) = (xs.drop k).take 1 := by
    have h2 : HT.sIx xs.length xs.length (some ((k : Int) + 1)) = min (k + 1) xs.length := HT.sIx_nat _ _ (k + 1)
    rw [DL.cutD, h2, HT.sIx_nat]
    by_cases hk : k < xs.length
    · rw [Nat.min_eq_left (by omega), Nat.min_eq_left (by omega)]
      congr 1; omega
    · rw [List.drop_of_length_le (by omega), List.drop_of_length_le (by omega)]; simp
  have c1 : dAddL (.lst (DL.cutD xs (some k) (some ((k : Int) + 1)))) (.lst [d]) = some (.lst ((xs.drop k).take 1 ++ [d])) := by
    rw [e]
    exact if_pos (by rw [List.length_take]; unfold cap; simp; omega)
  rw [c1, Option.bind_some]
  by_cases hk : k < xs.length
  · rw [List.drop_eq_getElem_cons hk, List.take_succ_cons, List.cons_append, v_ixl, List.getElem?_eq_getElem hk]
    rfl
  · rw [List.drop_of_length_le (by omega)]
    simp [List.getElem?_eq_none (Nat.le_of_not_lt hk)]
/-- slices by places -/
theorem cut_all {xs : List D} : DL.cutD xs none none = xs := by
  rw [DL.cutD]; simp [HT.sIx]
theorem cut_to {xs : List D} {k : Nat} : DL.cutD xs none (some (k : Int)) = xs.take k := by
  rw [DL.cutD, HT.sIx_nat]
  simp only [HT.sIx, List.drop_zero, Nat.sub_zero]
  rw [List.take_eq_take_iff]; omega
theorem cut_from {xs : List D} {k : Nat} : DL.cutD xs (some (k : Int)) none = xs.drop k := by
  rw [DL.cutD, HT.sIx_nat]
  simp only [HT.sIx]
  by_cases h : k ≤ xs.length
  · rw [Nat.min_eq_left h, List.take_of_length_le (by simp)]
  · rw [Nat.min_eq_right (by omega), List.drop_of_length_le (by omega), List.drop_of_length_le (by omega)]; simp
theorem cut_nn {xs : List D} {j k : Nat} : DL.cutD xs (some (j : Int)) (some (k : Int)) = (xs.take k).drop j := by
  rw [DL.cutD, HT.sIx_nat, HT.sIx_nat]
  by_cases h : j ≤ xs.length
  · rw [Nat.min_eq_left h, List.drop_take]
    by_cases h2 : k ≤ xs.length
    · rw [Nat.min_eq_left h2]
    · rw [Nat.min_eq_right (by omega), List.take_of_length_le (by simp), List.take_of_length_le (by simp; omega)]
  · rw [Nat.min_eq_right (a := j) (by omega), List.drop_of_length_le (by omega), List.drop_of_length_le (l := xs.take k) (by rw [List.length_take]; omega)]
    simp
theorem sIx_m1 {n d : Nat} : HT.sIx n d (some (-1)) = n - 1 := by
  unfold HT.sIx
  simp
  omega
/-- [1:-1] -/
theorem cut_in {xs : List D} : DL.cutD xs (some 1) (some (-1)) = (xs.take (xs.length - 1)).drop 1 := by
  have := cut_nn (xs := xs) (j := 1) (k := xs.length - 1)
  rw [← this, DL.cutD, DL.cutD, sIx_m1, HT.sIx_nat xs.length xs.length (xs.length - 1), Nat.min_eq_left (by omega)]
  rfl
theorem cut_but {xs : List D} : DL.cutD xs none (some (-1)) = xs.take (xs.length - 1) := by
  have := cut_to (xs := xs) (k := xs.length - 1)
  rw [← this, DL.cutD, DL.cutD, sIx_m1, HT.sIx_nat xs.length xs.length (xs.length - 1), Nat.min_eq_left (by omega)]
theorem low_loop (t b : D) (x y : Nat) : sWhile t1__law_low l1__law_low [.val t, .val b, .val (.int x), .val (.int y)] = some (.next [.val t, .val b, .val (.int (Nat.gcd x y)), .val (.int 0)]) := by
  induction y using Nat.strongRecOn generalizing x with
  | _ y ih =>
    rw [sWhile_eq, l1__law_low, t1__law_low]
    by_cases hb : y = 0
    · subst hb
      simp
    · have e : (y : Int) ≠ 0 := by omega
      have e2 : (x : Int).fmod y = ((x % y : Nat) : Int) := by rw [Int.fmod_eq_emod_of_nonneg _ (by omega)]; rfl
      have := ih (x % y) (Nat.mod_lt _ (by omega)) y
      simp only [v_bTst, v_e2, v_eVar, v_eC, List.getElem?_cons_succ, List.getElem?_cons_zero, Option.bind_some, v_neI, Option.map_some, v_tB, decide_eq_true_eq, ne_eq, e, not_false_eq_true, if_true, v_sPar, v_aCons, v_aNil, dMod, e2, List.length_cons, List.length_nil, List.set_cons_zero, List.set_cons_succ, decide_true]
      simp only [Nat.reduceAdd, Nat.reduceLT, and_self, if_true, Option.bind_some]
      rw [l1__law_low, t1__law_low] at this
      rw [this, Nat.gcd_comm y, ← Nat.gcd_rec, Nat.gcd_comm]
theorem c_low {t b : Int} {n : Nat} (hb : b ≠ 0) (hs : b.natAbs < 2 ^ n) (hn : n ≤ 9000) : m__law_low [.int t, .int b] = some (numD (Rat.divInt t b)) := by
  rw [← c_number (n := n) (t := t) hb hs hn]
  have ab : ∀ i : Int, (if i < 0 then -i else i) = (i.natAbs : Int) := fun i => by split <;> omega
  have l := low_loop (.int t) (.int b) t.natAbs b.natAbs
  have hc := c_common t b
  simp [m__law_low, b__law_low, runP, m_number, b_number, bAbs, ab, l, hc, hb, Int.gcd]
  by_cases hl : b < 0
  · simp only [hl]
    cases h1 : dFdiv (D.int t) (D.int (-↑(t.natAbs.gcd b.natAbs))) <;> cases h2 : dFdiv (D.int b) (D.int (-↑(t.natAbs.gcd b.natAbs))) <;> simp [h1, h2, cap]
  · simp only [hl]
    cases h1 : dFdiv (D.int t) (D.int (↑(t.natAbs.gcd b.natAbs))) <;> cases h2 : dFdiv (D.int b) (D.int (↑(t.natAbs.gcd b.natAbs))) <;> simp [h1, h2, cap]
section
variable {n : Nat} {p q : Rat} (hp : Sz n p) (hq : Sz n q) (hn : n ≤ 4000)
include hp hq hn
theorem c_more : m__law_more [numD p, numD q] = some (numD (p + q)) := by
  rw [Rat.add_divInt', ← c_low (den0 p q) (dens hp hq hn) (by decide)]
  simp [m__law_more, b__law_more, runP, numD, mulI hp.1 (szden hq) hn hn, mulI hq.1 (szden hp) hn hn, mulI (szden hp) (szden hq) hn hn]
  cases m__law_low [D.int (p.num * ↑q.den + q.num * ↑p.den), D.int (↑p.den * ↑q.den)] <;> rfl
theorem c_less_by : m__law_less_by [numD p, numD q] = some (numD (p - q)) := by
  rw [Rat.sub_divInt', ← c_low (den0 p q) (dens hp hq hn) (by decide)]
  simp [m__law_less_by, b__law_less_by, runP, numD, mulI hp.1 (szden hq) hn hn, mulI hq.1 (szden hp) hn hn, mulI (szden hp) (szden hq) hn hn]
  cases m__law_low [D.int (p.num * ↑q.den - q.num * ↑p.den), D.int (↑p.den * ↑q.den)] <;> rfl
theorem c_under : m__law_under [numD p, numD q] = some (.bl (decide (p < q))) := by
  simp [m__law_under, b__law_under, runP, numD, mulI hp.1 (szden hq) hn hn, mulI hq.1 (szden hp) hn hn, Rat.lt_iff]
end
end Gn
/-! ### what the defs of levelcord.cords draw -/
namespace Gn
open PySem PySem.Spec PyProof.Rows L2 DL Tt
def pairD (p : Rat × Rat) : D := .tup [numD p.1, numD p.2]
def SeqD (X : D) (xs : List D) : Prop := X = .tup xs ∨ X = .lst xs
theorem SeqD.len {X : D} {xs : List D} (h : SeqD X xs) : bLen [X] = some (.int xs.length) := by rcases h with rfl | rfl <;> rfl
theorem SeqD.ix {X : D} {xs : List D} (h : SeqD X xs) (k : Nat) : dIx X (.int k) = xs[k]? := by rcases h with rfl | rfl <;> exact v_atN
theorem SeqD.items {X : D} {xs : List D} (h : SeqD X xs) : items X = some xs := by rcases h with rfl | rfl <;> rfl
def loT (T : List (Rat × Rat)) (k : Nat) : Rat := (T.getD k (0, 0)).1
def hiT (T : List (Rat × Rat)) (k : Nat) : Rat := (T.getD k (0, 0)).2
theorem tube_at {T : List (Rat × Rat)} {k : Nat} (h : k < T.length) : (T.map pairD)[k]? = some (.tup [numD (loT T k), numD (hiT T k)]) := by
  simp [loT, hiT, pairD, h]
/-- tops and bottoms of all bounds are small -/
def TSz (b : Nat) (T : List (Rat × Rat)) : Prop := ∀ k, k < T.length → Sz b (loT T k) ∧ Sz b (hiT T k)
theorem sz_int {n : Nat} {t : Int} (h : t.natAbs < 2 ^ n) (h0 : 0 < n) : Sz n (t : Rat) := ⟨h, Nat.one_lt_two_pow (by omega)⟩
theorem numD_int (t : Int) : numD (t : Rat) = .tup [.int t, .int 1] := rfl
theorem c_whole (t : Int) : m_whole [.int t] = some (numD (t : Rat)) := by
  simp [m_whole, b_whole, runP, cap, numD_int]
/-- the slope from (a, h) to (k, y) -/
def slp (a : Nat) (h : Rat) (k : Nat) (y : Rat) : Rat := (y - h) / ((k : Rat) - a)
theorem cast_sub' {a k : Nat} (h : a < k) : (((k : Int) - (a : Int) : Int) : Rat) = (k : Rat) - a := by
  rw [Rat.intCast_sub]; rfl
theorem sz_slp {a k b : Nat} {h y : Rat} (hk : a < k) (k32 : k < 64) (hh : Sz b h) (hy : Sz b y) : Sz (2 * b + 9) (slp a h k y) := by
  have z : (k : Rat) - a ≠ 0 := by have := sub_pos' hk; grind
  have s1 : Sz 6 ((k : Rat) - a) := by
    rw [← cast_sub' hk]
    refine sz_int ?_ (by decide)
    have : (2 : Nat) ^ 6 = 64 := by decide
    omega
  exact Sz.divn (hy.subn hh (k := 2 * b + 1) (by omega)) s1 z (by omega)
theorem c_slope {a k b : Nat} {h y : Rat} (hk : a < k) (k32 : k < 64) (hh : Sz b h) (hy : Sz b y) (hb : b ≤ 1000) : m_slope_to [.tup [numD h, .int ((k : Int) - (a : Int))], numD y] = some (numD (slp a h k y)) := by
  have z : (k : Rat) - a ≠ 0 := by have := sub_pos' hk; grind
  have s1 : Sz 6 ((k : Rat) - a) := by
    rw [← cast_sub' hk]
    refine sz_int ?_ (by decide)
    have : (2 : Nat) ^ 6 = 64 := by decide
    omega
  have e1 := c_taken hy hh (by omega)
  have e2 := c_parted (n := 4000) ((hy.subn hh (k := 2 * b + 1) (by omega)).mono (by omega)) (s1.mono (by omega)) (by omega) z
  have e3 := c_whole ((k : Int) - (a : Int))
  rw [cast_sub' hk] at e3
  simp [m_slope_to, b_slope_to, runP, e1, e2, e3, slp]
/-! the funnel -/
abbrev Tc := Option (Rat × Nat × Rat)
def tD (m : Rat × Nat × Rat) : D := .tup [numD m.1, .int m.2.1, numD m.2.2]
def optD : Tc → D
  | none => .non
  | some m => tD m
def reachO (a : Nat) (h : Rat) (M L : Tc) : O := .obj 0 [("begin", .val (.int a)), ("height", .val (numD h)), ("most", .val (optD M)), ("least", .val (optD L))]
section
variable {o1 o2 o3 o4 o : O}
@[simp] theorem look_b : List.lookup ("begin" : Str) [(("begin" : Str), o1), ("height", o2), ("most", o3), ("least", o4)] = some o1 := rfl
@[simp] theorem look_h : List.lookup ("height" : Str) [(("begin" : Str), o1), ("height", o2), ("most", o3), ("least", o4)] = some o2 := rfl
@[simp] theorem look_m : List.lookup ("most" : Str) [(("begin" : Str), o1), ("height", o2), ("most", o3), ("least", o4)] = some o3 := rfl
@[simp] theorem look_l : List.lookup ("least" : Str) [(("begin" : Str), o1), ("height", o2), ("most", o3), ("least", o4)] = some o4 := rfl
@[simp] theorem look_c : List.lookup ("crossed" : Str) [(("begin" : Str), o1), ("height", o2), ("most", o3), ("least", o4)] = none := rfl
@[simp] theorem look_t : List.lookup ("take" : Str) [(("begin" : Str), o1), ("height", o2), ("most", o3), ("least", o4)] = none := rfl
@[simp] theorem put_m : putFO ("most" : Str) o [(("begin" : Str), o1), ("height", o2), ("most", o3), ("least", o4)] = [(("begin" : Str), o1), ("height", o2), ("most", o), ("least", o4)] := rfl
@[simp] theorem put_l : putFO ("least" : Str) o [(("begin" : Str), o1), ("height", o2), ("most", o3), ("least", o4)] = [(("begin" : Str), o1), ("height", o2), ("most", o3), ("least", o)] := rfl
@[simp] theorem put_0 : putFO ("begin" : Str) o [] = [(("begin" : Str), o)] := rfl
@[simp] theorem put_1 : putFO ("height" : Str) o [(("begin" : Str), o1)] = [(("begin" : Str), o1), ("height", o)] := rfl
@[simp] theorem put_2 : putFO ("most" : Str) o [(("begin" : Str), o1), ("height", o2)] = [(("begin" : Str), o1), ("height", o2), ("most", o)] := rfl
@[simp] theorem put_3 : putFO ("least" : Str) o [(("begin" : Str), o1), ("height", o2), ("most", o3)] = [(("begin" : Str), o1), ("height", o2), ("most", o3), ("least", o)] := rfl
end
theorem c_init (a : Nat) (h : Rat) : m_Reach___init__ [.obj 0 [], .val (.int a), .val (numD h)] = some (.non, [reachO a h none none, .un, .un]) := by
  simp [m_Reach___init__, b_Reach___init__, runO, DL.sFld, reachO, optD, keepO]
def crossF (M L : Tc) (x y : Rat) : Tc := match M with
  | some m => if m.1 < x then some m else match L with
    | some l => if y < l.1 then some l else none
    | none => none
  | none => none
/-- sizes of a funnel's slopes; both or none -/
def MLok (b : Nat) : Tc → Tc → Prop
  | none, none => True
  | some m, some l => Sz b m.1 ∧ Sz b l.1
  | _, _ => False
theorem c_crossed {a b : Nat} {h x y : Rat} {M L : Tc} (ok : MLok b M L) (hx : Sz b x) (hy : Sz b y) (hb : b ≤ 4000) : m_Reach_crossed [reachO a h M L, .val (numD x), .val (numD y)] = some (optD (crossF M L x y), [reachO a h M L, .un, .un]) := by
  match M, L, ok with
  | none, none, _ => simp [m_Reach_crossed, b_Reach_crossed, runO, reachO, optD, eFld, dNotN, crossF, keepO]
  | some m, some l, ⟨h1, h2⟩ =>
    have e1 := c_is_less h1 hx hb
    have e2 := c_is_less hy h2 hb
    by_cases z : m.1 < x
    · simp [m_Reach_crossed, b_Reach_crossed, runO, reachO, optD, tD, eFld, dNotN, crossF, keepO, e1, z]
    · by_cases z2 : y < l.1
      · simp [m_Reach_crossed, b_Reach_crossed, runO, reachO, optD, tD, eFld, dNotN, crossF, keepO, e1, z, e2, z2]
      · simp [m_Reach_crossed, b_Reach_crossed, runO, reachO, optD, tD, eFld, dNotN, crossF, keepO, e1, z, e2, z2]
def newM (M : Tc) (p : Nat) (y hy : Rat) : Tc := match M with
  | some m => if m.1 < y then some m else some (y, p, hy)
  | none => some (y, p, hy)
def newL (L : Tc) (p : Nat) (x hx : Rat) : Tc := match L with
  | some l => if x < l.1 then some l else some (x, p, hx)
  | none => some (x, p, hx)
theorem eMeth_eq {k i : Nat} {n : Str} {m : List O → Option (D × List O)} {fa : AOF} {s : S} {fs : List (Str × O)} (h : s[i]? = some (.obj k fs)) (h2 : fs.lookup n = none) {as : List DL.Arg} {s' : S} {q : List O × S} {r : D × List O} {s3 : S}
    (h3 : aoOwn i fa s = some (as, s')) (h4 : takeO s' as = some q) (h5 : m q.1 = some r) (h6 : putO q.2 as r.2 = some s3) : eMeth k i n m fa s = some (r.1, s3) := by
  unfold eMeth
  rw [h]
  simp only [h2, Option.isNone_none, and_self, if_true]
  unfold eCallO
  rw [h3, Option.bind_some, h4, Option.bind_some, h5, Option.bind_some, h6]
  rfl
theorem c_take' {a p b : Nat} {h u v : Rat} {M L : Tc} (hp : a < p) (p64 : p < 64) (ok : MLok (2 * b + 9) M L) (hh : Sz b h) (hu : Sz b u) (hv : Sz b v) (hb : b ≤ 1000) :
    m_Reach_take [reachO a h M L, .val (.int p), .val (.tup [numD u, numD v])] = some (optD (crossF M L (slp a h p u) (slp a h p v)), [if (crossF M L (slp a h p u) (slp a h p v)).isSome then reachO a h M L else reachO a h (newM M p (slp a h p v) v) (newL L p (slp a h p u) u), .un, .un]) := by
  have e1 := c_slope hp p64 hh hu hb
  have e2 := c_slope hp p64 hh hv hb
  have s1 := sz_slp hp p64 hh hu
  have s2 := sz_slp hp p64 hh hv
  have e3 := c_crossed (a := a) (h := h) ok s1 s2 (by omega)
  generalize slp a h p u = x at *
  generalize slp a h p v = y at *
  have e4 : ∀ o5 : O, eMeth 0 0 "crossed" m_Reach_crossed (aoVal (eVar 3) (aoVal (eVar 4) (aoNil))) [reachO a h M L, .val (.int p), .val (.tup [numD u, numD v]), .val (numD x), .val (numD y), o5] =
      some (optD (crossF M L x y), [reachO a h M L, .val (.int p), .val (.tup [numD u, numD v]), .val (numD x), .val (numD y), o5]) := fun o5 =>
    eMeth_eq (fs := [("begin", .val (.int a)), ("height", .val (numD h)), ("most", .val (optD M)), ("least", .val (optD L))]) (as := [.own 0, .val (numD x), .val (numD y)]) (q := ([reachO a h M L, .val (numD x), .val (numD y)], [.un, .val (.int p), .val (.tup [numD u, numD v]), .val (numD x), .val (numD y), o5])) rfl rfl rfl rfl e3 rfl
  match M, L, ok with
  | none, none, _ =>
    simp only [crossF, optD, reachO] at e4
    simp [m_Reach_take, b_Reach_take, runO, reachO, optD, tD, eFld, cap, e1, e2, e4, crossF, newM, newL, dIsN, keepO, DL.sFld]
  | some m, some l, ⟨h1, h2⟩ =>
    have e5 := c_is_less h1 s2 (by omega)
    have e6 := c_is_less s1 h2 (by omega)
    simp only [crossF, optD, reachO, apply_ite optD] at e4
    by_cases z : m.1 < x
    · simp only [z, if_true, optD, tD] at e4
      simp [m_Reach_take, b_Reach_take, runO, reachO, optD, tD, eFld, cap, e1, e2, e4, crossF, dIsN, keepO, DL.sFld, z]
    · by_cases z2 : y < l.1
      · simp only [z, z2, if_true, if_false, optD, tD] at e4
        simp [m_Reach_take, b_Reach_take, runO, reachO, optD, tD, eFld, cap, e1, e2, e4, crossF, dIsN, keepO, DL.sFld, z, z2]
      · simp only [z, z2, if_false, optD, tD] at e4
        by_cases z3 : m.1 < y <;> by_cases z4 : x < l.1 <;>
        simp [m_Reach_take, b_Reach_take, runO, reachO, optD, tD, eFld, cap, e1, e2, e4, e5, e6, crossF, newM, newL, dIsN, keepO, DL.sFld, z, z2, z3, z4]
/-- a funnel on its way -/
def FunO (b : Nat) (lo hi : Nat → Rat) (a : Nat) (h : Rat) (p : Nat) : Tc → Tc → Prop
  | none, none => p = a + 1
  | some m, some l => Fun lo hi a h p m.1 m.2.1 l.1 l.2.1 ∧ m.2.2 = hi m.2.1 ∧ l.2.2 = lo l.2.1 ∧ m.1 = slp a h m.2.1 m.2.2 ∧ l.1 = slp a h l.2.1 l.2.2 ∧ Sz (2 * b + 9) m.1 ∧ Sz (2 * b + 9) l.1
  | _, _ => False
theorem FunO.ml {b : Nat} {lo hi : Nat → Rat} {a p : Nat} {h : Rat} {M L : Tc} (F : FunO b lo hi a h p M L) : MLok (2 * b + 9) M L := by
  match M, L, F with
  | none, none, _ => trivial
  | some m, some l, F => exact ⟨F.2.2.2.2.2.1, F.2.2.2.2.2.2⟩
theorem FunO.next {b : Nat} {lo hi : Nat → Rat} {a p : Nat} {h : Rat} {M L : Tc} (F : FunO b lo hi a h p M L) (hp : a < p) (p64 : p < 64) (hn : lo p ≤ hi p) (hh : Sz b h) (h1 : Sz b (lo p)) (h2 : Sz b (hi p)) (c : crossF M L (slp a h p (lo p)) (slp a h p (hi p)) = none) :
    FunO b lo hi a h (p + 1) (newM M p (slp a h p (hi p)) (hi p)) (newL L p (slp a h p (lo p)) (lo p)) := by
  have s1 := sz_slp hp p64 hh h1
  have s2 := sz_slp hp p64 hh h2
  match M, L, F with
  | none, none, F =>
    obtain rfl : p = a + 1 := F
    exact ⟨Fun.first hn, rfl, rfl, rfl, rfl, s2, s1⟩
  | some m, some l, F =>
    obtain ⟨F, e1, e2, e3, e4, z1, z2⟩ := F
    have c1 : ¬ m.1 < slp a h p (lo p) := fun z => by simp [crossF, z] at c
    have c2 : ¬ slp a h p (hi p) < l.1 := fun z => by simp [crossF, c1, z] at c
    have N := F.next hp hn rfl rfl c1 c2
    have ey : (hi p - h) / ((p : Rat) - a) = slp a h p (hi p) := rfl
    have ex : (lo p - h) / ((p : Rat) - a) = slp a h p (lo p) := rfl
    rw [ex, ey] at N
    by_cases z3 : m.1 < slp a h p (hi p) <;> by_cases z4 : slp a h p (lo p) < l.1 <;> simp only [newM, newL, z3, z4, if_true, if_false] at N ⊢ <;> exact ⟨N, by first | exact e1 | rfl, by first | exact e2 | rfl, by first | exact e3 | rfl, by first | exact e4 | rfl, by assumption, by assumption⟩
theorem FunO.cross {b n : Nat} {lo hi : Nat → Rat} {a p : Nat} {h : Rat} {M L : Tc} (F : FunO b lo hi a h p M L) (hp : a < p) (hn : p < n) {m : Rat × Nat × Rat} (c : crossF M L (slp a h p (lo p)) (slp a h p (hi p)) = some m) :
    Tch lo hi n a h m.1 m.2.1 m.2.2 ∧ m.1 = slp a h m.2.1 m.2.2 ∧ (m.2.2 = lo m.2.1 ∨ m.2.2 = hi m.2.1) := by
  match M, L, F with
  | none, none, _ => simp [crossF] at c
  | some m', some l, F =>
    obtain ⟨F, e1, e2, e3, e4, z1, z2⟩ := F
    by_cases c1 : m'.1 < slp a h p (lo p)
    · simp only [crossF, c1, if_true, Option.some.injEq] at c
      subst c
      exact ⟨e1 ▸ F.up hp hn c1, e3, .inr e1⟩
    · by_cases c2 : slp a h p (hi p) < l.1
      · simp only [crossF, c1, c2, if_true, if_false, Option.some.injEq] at c
        subst c
        exact ⟨e2 ▸ F.down hp hn c2, e4, .inl e2⟩
      · simp [crossF, c1, c2] at c
theorem FunO.out {b n : Nat} {lo hi : Nat → Rat} {a : Nat} {h : Rat} {M L : Tc} (F : FunO b lo hi a h n M L) (ha : a + 1 < n) (tied : lo (n - 1) = hi (n - 1)) :
    ∃ m, M = some m ∧ Tch lo hi n a h m.1 m.2.1 m.2.2 ∧ m.1 = slp a h m.2.1 m.2.2 ∧ (m.2.2 = lo m.2.1 ∨ m.2.2 = hi m.2.1) := by
  match M, L, F with
  | none, none, F => exact absurd (show n = a + 1 from F) (by omega)
  | some m, some l, F =>
    obtain ⟨F, e1, e2, e3, e4, z1, z2⟩ := F
    exact ⟨m, rfl, e1 ▸ F.end_ ha tied, e3, .inr e1⟩
theorem touch_body {X : D} {T : List (Rat × Rat)} {a p b : Nat} {h : Rat} {M L : Tc} (hX : SeqD X (T.map pairD)) (hp : a < p) (hn : p < T.length) (n60 : T.length ≤ 60) (sz : TSz b T) (hh : Sz b h) (hb : b ≤ 1000) (ok : MLok (2 * b + 9) M L) (o5 : O) :
    l1_touch_behind [.val X, .val (.int a), .val (numD h), reachO a h M L, .val (.int p), o5] = some (match crossF M L (slp a h p (loT T p)) (slp a h p (hiT T p)) with
      | some m => .ret (.d (tD m)) [.val X, .val (.int a), .val (numD h), reachO a h M L, .val (.int p), .val (tD m)]
      | none => .next [.val X, .val (.int a), .val (numD h), reachO a h (newM M p (slp a h p (hiT T p)) (hiT T p)) (newL L p (slp a h p (loT T p)) (loT T p)), .val (.int p), .val .non]) := by
  obtain ⟨z1, z2⟩ := sz p hn
  have e1 := c_take' (M := M) (L := L) hp (by omega) ok hh z1 z2 hb
  have ex2 : dIx X (.int p) = some (.tup [numD (loT T p), numD (hiT T p)]) := by rw [hX.ix]; exact tube_at hn
  generalize slp a h p (loT T p) = x at *
  generalize slp a h p (hiT T p) = y at *
  have e4 : eMeth 0 3 "take" m_Reach_take (aoVal (eVar 4) (aoVal (e2 dIx (eVar 0) (eVar 4)) (aoNil))) [.val X, .val (.int a), .val (numD h), reachO a h M L, .val (.int p), o5] =
      some (optD (crossF M L x y), [.val X, .val (.int a), .val (numD h), if (crossF M L x y).isSome then reachO a h M L else reachO a h (newM M p y (hiT T p)) (newL L p x (loT T p)), .val (.int p), o5]) := by
    refine eMeth_eq (fs := [("begin", .val (.int a)), ("height", .val (numD h)), ("most", .val (optD M)), ("least", .val (optD L))]) (as := [.own 3, .val (.int p), .val (.tup [numD (loT T p), numD (hiT T p)])])
      (s' := [.val X, .val (.int a), .val (numD h), reachO a h M L, .val (.int p), o5]) (q := ([reachO a h M L, .val (.int p), .val (.tup [numD (loT T p), numD (hiT T p)])], [.val X, .val (.int a), .val (numD h), .un, .val (.int p), o5])) rfl rfl ?_ rfl e1 ?_
    · simp [aoOwn, isUn, reachO, aoVal, aoNil, ex2]
    · cases (crossF M L x y).isSome <;> simp [putO, isUn, reachO]
  simp only [l1_touch_behind, v_sSeq, v_sAsg, e4, Option.bind_some, v_gN, List.length_cons, List.length_nil]
  cases hc : crossF M L x y with
  | none => simp [optD, dNotN]
  | some m => simp [optD, dNotN, tD]
theorem touch_turn {X : D} {T : List (Rat × Rat)} {a p m b : Nat} {h : Rat} {M L : Tc} (hX : SeqD X (T.map pairD)) (hp : a < p) (hn : p < T.length) (n60 : T.length ≤ 60) (sz : TSz b T) (hh : Sz b h) (hb : b ≤ 1000) (ok : MLok (2 * b + 9) M L) (o4 o5 : O) :
    forD (gN 4) l1_touch_behind (rangeD p (m + 1)) [.val X, .val (.int a), .val (numD h), reachO a h M L, o4, o5] = match crossF M L (slp a h p (loT T p)) (slp a h p (hiT T p)) with
      | some t => some (.ret (.d (tD t)) [.val X, .val (.int a), .val (numD h), reachO a h M L, .val (.int p), .val (tD t)])
      | none => forD (gN 4) l1_touch_behind (rangeD ((p + 1 : Nat) : Int) m) [.val X, .val (.int a), .val (numD h), reachO a h (newM M p (slp a h p (hiT T p)) (hiT T p)) (newL L p (slp a h p (loT T p)) (loT T p)), .val (.int p), .val .non] := by
  have e := touch_body hX hp hn n60 sz hh hb ok o5
  have g : gN 4 (.int (p : Int)) [.val X, .val (.int a), .val (numD h), reachO a h M L, o4, o5] = some [.val X, .val (.int a), .val (numD h), reachO a h M L, .val (.int p), o5] := rfl
  rw [rangeD_succ, v_forD_cons, g, Option.bind_some, e, Option.bind_some]
  cases crossF M L (slp a h p (loT T p)) (slp a h p (hiT T p)) <;> rfl
theorem touch_loop {X : D} {T : List (Rat × Rat)} {a b : Nat} {h : Rat} (hX : SeqD X (T.map pairD)) (n60 : T.length ≤ 60) (sz : TSz b T) (hh : Sz b h) (hb : b ≤ 1000) (ok : ∀ k, k < T.length → loT T k ≤ hiT T k) (m : Nat) : ∀ (p : Nat) (M L : Tc) (o4 o5 : O), a < p → p + m = T.length → FunO b (loT T) (hiT T) a h p M L →
    (∃ (t : Rat × Nat × Rat) (s' : S), forD (gN 4) l1_touch_behind (rangeD p m) [.val X, .val (.int a), .val (numD h), reachO a h M L, o4, o5] = some (.ret (.d (tD t)) s') ∧ Tch (loT T) (hiT T) T.length a h t.1 t.2.1 t.2.2 ∧ t.1 = slp a h t.2.1 t.2.2 ∧ (t.2.2 = loT T t.2.1 ∨ t.2.2 = hiT T t.2.1)) ∨
    (∃ (M' L' : Tc) (o4' o5' : O), forD (gN 4) l1_touch_behind (rangeD p m) [.val X, .val (.int a), .val (numD h), reachO a h M L, o4, o5] = some (.next [.val X, .val (.int a), .val (numD h), reachO a h M' L', o4', o5']) ∧ FunO b (loT T) (hiT T) a h T.length M' L') := by
  induction m with
  | zero =>
    intro p M L o4 o5 hp hm F
    exact .inr ⟨M, L, o4, o5, by rw [rangeD_zero]; rfl, by rwa [show T.length = p by omega]⟩
  | succ m ih =>
    intro p M L o4 o5 hp hm F
    have pn : p < T.length := by omega
    rw [touch_turn hX hp pn n60 sz hh hb F.ml o4 o5]
    cases hc : crossF M L (slp a h p (loT T p)) (slp a h p (hiT T p)) with
    | some t => exact .inl ⟨t, _, rfl, F.cross hp pn hc⟩
    | none =>
      obtain ⟨z1, z2⟩ := sz p pn
      exact ih (p + 1) _ _ _ _ (by omega) (by omega) (F.next hp (by omega) (ok p pn) hh z1 z2 hc)
theorem c_touch {X : D} {T : List (Rat × Rat)} {a b : Nat} {h : Rat} (hX : SeqD X (T.map pairD)) (ha : a + 1 < T.length) (n60 : T.length ≤ 60) (sz : TSz b T) (hh : Sz b h) (hb : b ≤ 1000) (ok : ∀ k, k < T.length → loT T k ≤ hiT T k) (tied : loT T (T.length - 1) = hiT T (T.length - 1)) :
    ∃ (s : Rat) (q : Nat) (hq : Rat), Tch (loT T) (hiT T) T.length a h s q hq ∧ m_touch_behind [X, .int a, numD h] = some (.tup [numD s, .int q, numD hq]) ∧ Sz (2 * b + 9) s ∧ Sz b hq ∧ s = slp a h q hq ∧ (hq = loT T q ∨ hq = hiT T q) := by
  have mk : sMake 0 3 m_Reach___init__ (aCons (eVar 1) (aCons (eVar 2) (aNil))) [.val X, .val (.int a), .val (numD h), .un, .un, .un] = some (.next [.val X, .val (.int a), .val (numD h), reachO a h none none, .un, .un]) := by
    have := c_init a h
    simp only [sMake, v_aCons, v_aNil, v_eVar, List.getElem?_cons_succ, List.getElem?_cons_zero, Option.bind_some, Option.map_some, List.map_cons, List.map_nil, this, reachO]
    simp
  have ln := hX.len
  have rg : ∀ s : S, DL.iRng2 (aCons (e2 dAddL (eVar 1) (eC (.int 1))) (aCons (eCall bLen (aCons (eVar 0) (aNil))) (aNil))) (.val X :: .val (.int a) :: s) = some (rangeD ((a + 1 : Nat) : Int) (T.length - (a + 1)), .val X :: .val (.int a) :: s) := fun s => by
    refine rng2_ok (a + 1) T.length (by omega) (by omega) ?_
    simp only [v_aCons, v_aNil, v_e2, v_eC, v_eCall, v_eVar, List.getElem?_cons_succ, List.getElem?_cons_zero, Option.bind_some, Option.map_some, v_addL, ln, List.length_map, Int.natCast_add, Int.cast_ofNat_Int]
  have out : ∀ t : Rat × Nat × Rat, Tch (loT T) (hiT T) T.length a h t.1 t.2.1 t.2.2 → t.1 = slp a h t.2.1 t.2.2 → (t.2.2 = loT T t.2.1 ∨ t.2.2 = hiT T t.2.1) → Sz (2 * b + 9) t.1 ∧ Sz b t.2.2 := fun t T1 e1 e2 => by
    obtain ⟨z1, z2⟩ := sz t.2.1 T1.q2
    have z : Sz b t.2.2 := by rcases e2 with e | e <;> rw [e] <;> assumption
    exact ⟨e1 ▸ sz_slp T1.q1 (by have := T1.q2; omega) hh z, z⟩
  rcases touch_loop (h := h) hX n60 sz hh hb ok (T.length - (a + 1)) (a + 1) none none .un .un (by omega) (by omega) rfl with ⟨t, s', e, T1, e1, e2⟩ | ⟨M, L, o4, o5, e, F⟩
  · obtain ⟨z1, z2⟩ := out t T1 e1 e2
    refine ⟨t.1, t.2.1, t.2.2, T1, ?_, z1, z2, e1, e2⟩
    simp only [m_touch_behind, b_touch_behind, runP, List.length_cons, List.length_nil, Nat.zero_add, Nat.reduceAdd, if_true, List.map_cons, List.map_nil, Nat.reduceSub, List.replicate_succ, List.replicate_zero, List.cons_append, List.nil_append, v_sSeq, mk, Option.bind_some, v_sFor, rg, e, tD]
  · obtain ⟨m, rfl, T1, e1, e2⟩ := F.out ha tied
    obtain ⟨z1, z2⟩ := out m T1 e1 e2
    refine ⟨m.1, m.2.1, m.2.2, T1, ?_, z1, z2, e1, e2⟩
    simp only [m_touch_behind, b_touch_behind, runP, List.length_cons, List.length_nil, Nat.zero_add, Nat.reduceAdd, if_true, List.map_cons, List.map_nil, Nat.reduceSub, List.replicate_succ, List.replicate_zero, List.cons_append, List.nil_append, v_sSeq, mk, Option.bind_some, v_sFor, rg, e, v_sRet]
    simp [eFld, reachO, optD, tD]
theorem dIx_last {xs : List D} (h : 0 < xs.length) : dIx (.lst xs) (.int (-1)) = xs[xs.length - 1]? := by
  show atI xs (-1) = _
  unfold atI ixN
  rw [if_neg (by decide), if_pos (by omega)]
  simp only [Option.bind_some]
  congr 1
  omega
theorem map_last {R : List Rat} (h : 0 < R.length) : (R.map numD)[(R.map numD).length - 1]? = some (numD (at0 R (R.length - 1))) := by
  simp [at0, List.getD_eq_getElem?_getD, List.getElem?_map, List.getElem?_eq_getElem (show R.length - 1 < R.length by omega)]
theorem seg_succ (h s : Rat) (i : Nat) : seg h s (i + 1) = seg h s i ++ [h + s * ((i : Rat) + 1)] := by
  simp [seg, List.range_succ]
theorem seg_last {R : List Rat} {s : Rat} {i : Nat} (h : 0 < R.length) : at0 (R ++ seg (at0 R (R.length - 1)) s i) ((R ++ seg (at0 R (R.length - 1)) s i).length - 1) = at0 R (R.length - 1) + s * (i : Rat) := by
  have l : (R ++ seg (at0 R (R.length - 1)) s i).length - 1 = R.length - 1 + i := by rw [List.length_append, seg_len]; omega
  rw [l, at0_seg h (by omega) (by omega)]
  unfold ln
  rw [Rat.natCast_add]
  grind
theorem sz_line {b i : Nat} {h s : Rat} (hi : i ≤ 64) (hh : Sz b h) (hs : Sz (2 * b + 9) s) : Sz (3 * b + 19) (h + s * (i : Rat)) := by
  have p7 : (2 : Nat) ^ 7 = 128 := by decide
  have z : Sz 7 ((i : Int) : Rat) := sz_int (by omega) (by decide)
  exact hh.addn (hs.muln (q := (i : Rat)) z (k := 2 * b + 17) (by omega)) (by omega)
theorem drawn_to_loop {row many : D} {R : List Rat} {s : Rat} {b : Nat} (h0 : 0 < R.length) (hb : b ≤ 1000) (hh : Sz b (at0 R (R.length - 1))) (hs : Sz (2 * b + 9) s) (m : Nat) : ∀ (i : Nat) (o4 : O), i + m ≤ 60 → R.length ≤ 100 →
    ∃ o4', forD (gN 4) l1_drawn_to (rangeD i m) [.val row, .val (numD s), .val many, .lst ((R ++ seg (at0 R (R.length - 1)) s i).map numD), o4] = some (.next [.val row, .val (numD s), .val many, .lst ((R ++ seg (at0 R (R.length - 1)) s (i + m)).map numD), o4']) := by
  induction m with
  | zero => intro i o4 _ _; exact ⟨o4, rfl⟩
  | succ m ih =>
    intro i o4 hi hR
    have la := seg_last (R := R) (s := s) (i := i) h0
    have pos : 0 < (R ++ seg (at0 R (R.length - 1)) s i).length := by rw [List.length_append]; omega
    have ml := map_last pos
    rw [la] at ml
    have zl := sz_line (i := i) (by omega) hh hs
    have ad := c_added (n := 4000) (zl.mono (by omega)) (hs.mono (by omega)) (by decide)
    have nx : at0 R (R.length - 1) + s * (i : Rat) + s = at0 R (R.length - 1) + s * ((i : Rat) + 1) := by grind
    rw [nx] at ad
    have len : ((R ++ seg (at0 R (R.length - 1)) s i).map numD).length < cap := by
      rw [List.length_map, List.length_append, seg_len]; unfold cap; omega
    have st : (R ++ seg (at0 R (R.length - 1)) s i).map numD ++ [numD (at0 R (R.length - 1) + s * ((i : Rat) + 1))] = (R ++ seg (at0 R (R.length - 1)) s (i + 1)).map numD := by
      rw [seg_succ]; simp
    obtain ⟨o4', hr⟩ := ih (i + 1) (.val (.int i)) (by omega) hR
    rw [← st] at hr
    have dl := dIx_last (xs := (R ++ seg (at0 R (R.length - 1)) s i).map numD) (by rw [List.length_map]; exact pos)
    rw [ml] at dl
    refine ⟨o4', ?_⟩
    rw [show i + (m + 1) = i + 1 + m by omega, ← hr, rangeD_succ, v_forD_cons]
    generalize (R ++ seg (at0 R (R.length - 1)) s i).map numD = Lst at *
    generalize at0 R (R.length - 1) + s * (i : Rat) = lv at *
    generalize numD (at0 R (R.length - 1) + s * ((i : Rat) + 1)) = nn at *
    have bd : l1_drawn_to [.val row, .val (numD s), .val many, .lst Lst, .val (.int i)] = some (.next [.val row, .val (numD s), .val many, .lst (Lst ++ [nn]), .val (.int i)]) := by
      have nl : noL (numD lv) = true := rfl
      simp [l1_drawn_to, eBor, dl, nl, ad, len]
    have g : gN 4 (.int (i : Int)) [.val row, .val (numD s), .val many, .lst Lst, o4] = some [.val row, .val (numD s), .val many, .lst Lst, .val (.int i)] := rfl
    rw [g, Option.bind_some, bd, Option.bind_some]
theorem c_drawn_to {R : List Rat} {s : Rat} {b j : Nat} (h0 : 0 < R.length) (hb : b ≤ 1000) (hh : Sz b (at0 R (R.length - 1))) (hs : Sz (2 * b + 9) s) (hj : j ≤ 60) (hR : R.length ≤ 100) :
    m_drawn_to [.lst (R.map numD), numD s, .int j] = some (.lst ((R ++ seg (at0 R (R.length - 1)) s j).map numD)) := by
  obtain ⟨o4, e⟩ := drawn_to_loop (row := .lst (R.map numD)) (many := .int j) h0 hb hh hs j 0 .un (by omega) hR
  have e0 : (R ++ seg (at0 R (R.length - 1)) s 0) = R := by simp [seg]
  rw [e0, Nat.zero_add] at e
  have rg : ∀ st : S, DL.iRng1 (aCons (eVar 2) aNil) (.val (.lst (R.map numD)) :: .val (numD s) :: .val (.int j) :: st) = some (rangeD ((0 : Nat) : Int) j, .val (.lst (R.map numD)) :: .val (numD s) :: .val (.int j) :: st) := fun st => rng1_ok j (by omega) (by simp)
  simp only [m_drawn_to, b_drawn_to, runP, List.length_cons, List.length_nil, Nat.zero_add, Nat.reduceAdd, if_true, List.map_cons, List.map_nil, Nat.reduceSub, List.replicate_succ, List.replicate_zero, List.cons_append, List.nil_append, v_sSeq, v_sNew, nList, v_aCons, v_aNil, v_eVar, List.getElem?_cons_zero, Option.bind_some, Option.map_some]
  simp only [List.set_cons_succ, List.set_cons_zero, v_sFor, rg, Option.bind_some, Nat.reduceLT, if_true, e, v_sRet]
  simp [eFrz]
/-- between two bounds, so many parts of the way -/
def Form (T : List (Rat × Rat)) (x : Rat) : Prop := ∃ (i j d m : Nat) (u v : Rat), i < T.length ∧ j < T.length ∧ (u = loT T i ∨ u = hiT T i) ∧ (v = loT T j ∨ v = hiT T j) ∧ 0 < d ∧ d < T.length + 1 ∧ m ≤ d ∧ x = u + (v - u) / (d : Rat) * (m : Rat)
/-- a row on its way -/
structure Dr (b : Nat) (T : List (Rat × Rat)) (R : List Rat) : Prop where
  pre : Pre (loT T) (hiT T) T.length R
  here : Sz b (at0 R (R.length - 1))
  sz : ∀ k, k < R.length → Sz (3 * b + 19) (at0 R k)
  beg : at0 R 0 = loT T 0
  form : ∀ k, k < R.length → Form T (at0 R k)
  touch : ∃ i, i < T.length ∧ (at0 R (R.length - 1) = loT T i ∨ at0 R (R.length - 1) = hiT T i)
theorem Dr.step {b : Nat} {T : List (Rat × Rat)} {R : List Rat} (ok : ∀ k, k < T.length → loT T k ≤ hiT T k) (n60 : T.length ≤ 60) (d : Dr b T R) {s hq : Rat} {q : Nat} (T1 : Tch (loT T) (hiT T) T.length (R.length - 1) (at0 R (R.length - 1)) s q hq) (z1 : Sz (2 * b + 9) s) (z2 : Sz b hq) (es : s = slp (R.length - 1) (at0 R (R.length - 1)) q hq) (eq : hq = loT T q ∨ hq = hiT T q) :
    Dr b T (R ++ seg (at0 R (R.length - 1)) s (q - (R.length - 1))) ∧ (R ++ seg (at0 R (R.length - 1)) s (q - (R.length - 1))).length = q + 1 := by
  have h0 := d.pre.ne
  have q1 := T1.q1
  have q2 := T1.q2
  have len : (R ++ seg (at0 R (R.length - 1)) s (q - (R.length - 1))).length = q + 1 := by rw [List.length_append, seg_len]; omega
  refine ⟨⟨d.pre.step ok T1, ?_, fun k hk => ?_, ?_, fun k hk => ?_, ⟨q, q2, ?_⟩⟩, len⟩
  · rw [len, Nat.add_sub_cancel, at0_seg h0 (by omega) (by omega), ← T1.at_]; exact z2
  · rw [len] at hk
    by_cases h : k < R.length
    · rw [at0_left h]; exact d.sz k h
    · rw [at0_seg h0 (by omega) (by omega)]
      have e : ln (R.length - 1) (at0 R (R.length - 1)) s k = at0 R (R.length - 1) + s * ((k - (R.length - 1) : Nat) : Rat) := by
        unfold ln
        have : ((k - (R.length - 1) : Nat) : Rat) = (k : Rat) - ((R.length - 1 : Nat) : Rat) := by
          have e3 : (k : Rat) = ((k - (R.length - 1) : Nat) : Rat) + ((R.length - 1 : Nat) : Rat) := by
            rw [← Rat.natCast_add]; congr 1; omega
          grind
        rw [this]
      rw [e]
      exact sz_line (by omega) d.here z1
  · rw [at0_left h0]; exact d.beg
  · rw [len] at hk
    by_cases h : k < R.length
    · rw [at0_left h]; exact d.form k h
    · rw [at0_seg h0 (by omega) (by omega)]
      obtain ⟨i, hi, ei⟩ := d.touch
      refine ⟨i, q, q - (R.length - 1), k - (R.length - 1), at0 R (R.length - 1), hq, hi, q2, ei, eq, by omega, by omega, by omega, ?_⟩
      have c1 : ((k - (R.length - 1) : Nat) : Rat) = (k : Rat) - ((R.length - 1 : Nat) : Rat) := by
        have e3 : (k : Rat) = ((k - (R.length - 1) : Nat) : Rat) + ((R.length - 1 : Nat) : Rat) := by
          rw [← Rat.natCast_add]; congr 1; omega
        grind
      have c2 : ((q - (R.length - 1) : Nat) : Rat) = (q : Rat) - ((R.length - 1 : Nat) : Rat) := by
        have e3 : (q : Rat) = ((q - (R.length - 1) : Nat) : Rat) + ((R.length - 1 : Nat) : Rat) := by
          rw [← Rat.natCast_add]; congr 1; omega
        grind
      rw [c1, c2, es]
      rfl
  · rw [len, Nat.add_sub_cancel, at0_seg h0 (by omega) (by omega), ← T1.at_]; exact eq
theorem drawn_loop {X : D} {T : List (Rat × Rat)} {b : Nat} (hX : SeqD X (T.map pairD)) (n60 : T.length ≤ 60) (sz : TSz b T) (hb : b ≤ 1000) (ok : ∀ k, k < T.length → loT T k ≤ hiT T k) (tied : loT T (T.length - 1) = hiT T (T.length - 1)) (m : Nat) : ∀ (R : List Rat) (o2 o3 o4 o5 : O), T.length ≤ R.length + m → Dr b T R →
    ∃ (R' : List Rat) (o2' o3' o4' o5' : O), sWhile t1_drawn l1_drawn [.val X, .val (.lst (R.map numD)), o2, o3, o4, o5] = some (.next [.val X, .val (.lst (R'.map numD)), o2', o3', o4', o5']) ∧ Dr b T R' ∧ R'.length = T.length := by
  have ln := hX.len
  induction m with
  | zero =>
    intro R o2 o3 o4 o5 hm d
    have := d.pre.len
    refine ⟨R, o2, o3, o4, o5, ?_, d, by omega⟩
    have nl : ¬ (R.length < T.length) := by omega
    have bl : bLen [.lst (R.map numD)] = some (.int R.length) := by simp [bLen]
    have tt : t1_drawn [.val X, .val (.lst (R.map numD)), o2, o3, o4, o5] = some (false, [.val X, .val (.lst (R.map numD)), o2, o3, o4, o5]) := by
      simp only [t1_drawn, v_bTst, v_e2, v_eCall, v_aCons, v_aNil, v_eVar, List.getElem?_cons_succ, List.getElem?_cons_zero, Option.bind_some, Option.map_some, bl, ln, List.length_map, v_ltI, v_tB, Int.ofNat_lt, nl, decide_false]
    rw [sWhile_eq, tt, Option.bind_some]
    simp
  | succ m ih =>
    intro R o2 o3 o4 o5 hm d
    by_cases nl : R.length < T.length
    · have h0 := d.pre.ne
      obtain ⟨s, q, hq, T1, et, z1, z2, es, eq⟩ := c_touch hX (a := R.length - 1) (h := at0 R (R.length - 1)) (by omega) n60 sz d.here hb ok tied
      obtain ⟨d', len'⟩ := d.step ok n60 T1 z1 z2 es eq
      have q1 := T1.q1
      have q2 := T1.q2
      have cd := c_drawn_to (j := q - (R.length - 1)) h0 hb d.here z1 (by omega) (by omega)
      obtain ⟨R', o2', o3', o4', o5', e, dd, ll⟩ := ih (R ++ seg (at0 R (R.length - 1)) s (q - (R.length - 1))) (.val (.int ((R.length - 1 : Nat) : Int))) (.val (numD s)) (.val (.int q)) (.val (numD hq)) (by rw [len']; omega) d'
      refine ⟨R', o2', o3', o4', o5', ?_, dd, ll⟩
      have bl : bLen [.lst (R.map numD)] = some (.int R.length) := by simp [bLen]
      have c1 : (R.length : Int) - 1 = ((R.length - 1 : Nat) : Int) := by omega
      have c2 : (q : Int) - ((R.length - 1 : Nat) : Int) = ((q - (R.length - 1) : Nat) : Int) := by omega
      have ix : dIx (.lst (R.map numD)) (.int ((R.length - 1 : Nat) : Int)) = some (numD (at0 R (R.length - 1))) := by
        have := map_last h0
        rw [List.length_map] at this
        rw [v_dIxL]; exact this
      have tt : t1_drawn [.val X, .val (.lst (R.map numD)), o2, o3, o4, o5] = some (true, [.val X, .val (.lst (R.map numD)), o2, o3, o4, o5]) := by
        simp only [t1_drawn, v_bTst, v_e2, v_eCall, v_aCons, v_aNil, v_eVar, List.getElem?_cons_succ, List.getElem?_cons_zero, Option.bind_some, Option.map_some, bl, ln, List.length_map, v_ltI, v_tB, Int.ofNat_lt, nl, decide_true]
      have bd : l1_drawn [.val X, .val (.lst (R.map numD)), o2, o3, o4, o5] = some (.next [.val X, .val (.lst ((R ++ seg (at0 R (R.length - 1)) s (q - (R.length - 1))).map numD)), .val (.int ((R.length - 1 : Nat) : Int)), .val (numD s), .val (.int q), .val (numD hq)]) := by
        generalize (R ++ seg (at0 R (R.length - 1)) s (q - (R.length - 1))).map numD = LL at *
        generalize at0 R (R.length - 1) = hh at *
        generalize hj : q - (R.length - 1) = j at *
        generalize R.length - 1 = aa at *
        simp [l1_drawn, bl, c1, ix, et, c2, cd]
      rw [sWhile_eq, tt, Option.bind_some]
      simp only [if_true]
      rw [bd, Option.bind_some]
      exact e
    · have := d.pre.len
      refine ⟨R, o2, o3, o4, o5, ?_, d, by omega⟩
      have bl : bLen [.lst (R.map numD)] = some (.int R.length) := by simp [bLen]
      have tt : t1_drawn [.val X, .val (.lst (R.map numD)), o2, o3, o4, o5] = some (false, [.val X, .val (.lst (R.map numD)), o2, o3, o4, o5]) := by
        simp only [t1_drawn, v_bTst, v_e2, v_eCall, v_aCons, v_aNil, v_eVar, List.getElem?_cons_succ, List.getElem?_cons_zero, Option.bind_some, Option.map_some, bl, ln, List.length_map, v_ltI, v_tB, Int.ofNat_lt, nl, decide_false]
      rw [sWhile_eq, tt, Option.bind_some]
      simp
theorem c_drawn {X : D} {T : List (Rat × Rat)} {b : Nat} (hX : SeqD X (T.map pairD)) (n2 : 1 ≤ T.length) (n60 : T.length ≤ 60) (sz : TSz b T) (hb : b ≤ 1000) (ok : ∀ k, k < T.length → loT T k ≤ hiT T k) (tied : loT T (T.length - 1) = hiT T (T.length - 1)) :
    ∃ R : List Rat, R.length = T.length ∧ Taut (loT T) (hiT T) (at0 R) T.length ∧ m_drawn [X] = some (.tup (R.map numD)) ∧ (∀ k, k < R.length → Sz (3 * b + 19) (at0 R k)) ∧ at0 R 0 = loT T 0 ∧ ∀ k, k < R.length → Form T (at0 R k) := by
  obtain ⟨z1, z2⟩ := sz 0 (by omega)
  have d0 : Dr b T [loT T 0] := by
    refine ⟨⟨Nat.zero_lt_one, n2, fun k hk => ?_, fun k h1 h2 => ?_, .inl rfl⟩, z1, fun k hk => ?_, rfl, fun k hk => ?_, 0, by omega, .inl rfl⟩
    · have : k = 0 := by simpa using hk
      subst this
      exact ⟨Rat.le_refl, ok 0 (by omega)⟩
    · simp at h2
    · have : k = 0 := by simpa using hk
      subst this
      exact z1.mono (by omega)
    · have : k = 0 := by simpa using hk
      subst this
      refine ⟨0, 0, 1, 0, loT T 0, loT T 0, by omega, by omega, .inl rfl, .inl rfl, by omega, by omega, by omega, ?_⟩
      show loT T 0 = _
      have : ((0 : Nat) : Rat) = 0 := rfl
      grind
  obtain ⟨R, o2, o3, o4, o5, e, d, l⟩ := drawn_loop hX n60 sz hb ok tied T.length [loT T 0] .un .un .un .un (by simp) d0
  refine ⟨R, l, d.pre.taut l, ?_, d.sz, d.beg, d.form⟩
  have i0 : dIx X (.int 0) = some (.tup [numD (loT T 0), numD (hiT T 0)]) := (hX.ix 0).trans (tube_at (by omega))
  simp only [List.map_cons, List.map_nil] at e
  simp [m_drawn, b_drawn, runP, i0, cap, e, bTuple]
end Gn
/-! ### what the defs of levelcord.tubes tell -/
namespace Gn
open PySem PySem.Spec PyProof.Rows L2 DL Tt
/-- a tube: so many places, lows at most highs, small numbers -/
structure TubeOk (b : Nat) (T : List (Rat × Rat)) : Prop where
  n2 : 2 ≤ T.length
  n25 : T.length ≤ 25
  ok : ∀ k, k < T.length → loT T k ≤ hiT T k
  sz : TSz b T
def tubeX (T : List (Rat × Rat)) : D := .tup (T.map pairD)
theorem tubeX_seq (T : List (Rat × Rat)) : SeqD (tubeX T) (T.map pairD) := .inl rfl
theorem mem_tube {T : List (Rat × Rat)} {p : Rat × Rat} (h : p ∈ T) : ∃ k, k < T.length ∧ p = (loT T k, hiT T k) := by
  obtain ⟨k, hk, e⟩ := List.getElem_of_mem h
  exact ⟨k, hk, by simp [loT, hiT, hk, e]⟩
theorem c_is_pair {b : Nat} {p : Rat × Rat} (h1 : Sz b p.1) (h2 : Sz b p.2) (hb : b ≤ 4000) : m_is_pair [pairD p] = some (.bl (decide (p.1 ≤ p.2))) := by
  have e := c_is_less h2 h1 hb
  have e3 : (!decide (p.2 < p.1)) = decide (p.1 ≤ p.2) := by
    rw [← decide_not, decide_eq_decide]; grind
  simp [m_is_pair, b_is_pair, runP, pairD, isTy, bLen, c_is_number, e, e3]
theorem c_is_tube {b : Nat} {T : List (Rat × Rat)} (t : TubeOk b T) (hb : b ≤ 4000) : m_is_tube [tubeX T] = some (.bl true) := by
  have n2 := t.n2
  have n25 := t.n25
  have l := lcD_map (g := gN 1) (fe := eCall m_is_pair (aCons (eVar 1) aNil)) (own := [1]) (s := [.val (tubeX T), .un]) pairD (fun _ => .bl true) T (fun p hp => ⟨[.val (tubeX T), .val (pairD p)], [.val (tubeX T), .val (pairD p)], rfl, by
    obtain ⟨k, hk, rfl⟩ := mem_tube hp
    obtain ⟨z1, z2⟩ := t.sz k hk
    have e := c_is_pair (p := (loT T k, hiT T k)) z1 z2 hb
    have e3 := t.ok k hk
    simp only at e
    simp [e, e3], rfl⟩) (Nat.le_trans n25 (by decide))
  have c1 : (2 : Int) ≤ (T.length : Nat) := by omega
  have c2 : ((T.length : Nat) : Int) ≤ 25 := by omega
  simp only [tubeX] at l ⊢
  simp [m_is_tube, b_is_tube, runP, isTy, bLen, k_MOST_PLACES_tubes, c1, c2, l, bAll, boolsD_map]
theorem dIx_lastT {xs : List D} (h : 0 < xs.length) : dIx (.tup xs) (.int (-1)) = xs[xs.length - 1]? := dIx_last (xs := xs) h
theorem tubeX_last {T : List (Rat × Rat)} (h : 0 < T.length) : dIx (tubeX T) (.int (-1)) = some (.tup [numD (loT T (T.length - 1)), numD (hiT T (T.length - 1))]) := by
  unfold tubeX
  rw [dIx_lastT (by rw [List.length_map]; exact h), List.length_map, tube_at (by omega)]
theorem tubeX_first {T : List (Rat × Rat)} (h : 0 < T.length) : dIx (tubeX T) (.int 0) = some (.tup [numD (loT T 0), numD (hiT T 0)]) := ((tubeX_seq T).ix 0).trans (tube_at h)
structure TiedOk (b : Nat) (T : List (Rat × Rat)) : Prop extends TubeOk b T where
  first : loT T 0 = hiT T 0
  last : loT T (T.length - 1) = hiT T (T.length - 1)
theorem c_is_tied {b : Nat} {T : List (Rat × Rat)} (t : TubeOk b T) (hb : b ≤ 4000) : m_is_tied [tubeX T] = some (.bl (decide (loT T 0 = hiT T 0 ∧ loT T (T.length - 1) = hiT T (T.length - 1)))) := by
  have n2 := t.n2
  have z1 := c_is_tube t hb
  have z2 := tubeX_first (T := T) (by omega)
  have z3 := tubeX_last (T := T) (by omega)
  generalize tubeX T = X at *
  by_cases a : loT T 0 = hiT T 0 <;> simp [m_is_tied, b_is_tied, runP, z1, z2, z3, a]
theorem c_check_tube {b : Nat} {T : List (Rat × Rat)} (t : TubeOk b T) (hb : b ≤ 4000) : m_check_tube [tubeX T] = some .non := by
  have z1 := c_is_tube t hb
  generalize tubeX T = X at *
  simp [m_check_tube, b_check_tube, runP, z1]
theorem c_check_tied {b : Nat} {T : List (Rat × Rat)} (t : TiedOk b T) (hb : b ≤ 4000) : m_check_tied [tubeX T] = some .non := by
  have z1 := c_is_tied t.toTubeOk hb
  rw [decide_eq_true ⟨t.first, t.last⟩] at z1
  generalize tubeX T = X at *
  simp [m_check_tied, b_check_tied, runP, z1]
def rowX (R : List Rat) : D := .tup (R.map numD)
/-- the cord -/
theorem c_cord {b : Nat} {T : List (Rat × Rat)} (t : TiedOk b T) (hb : b ≤ 1000) :
    ∃ R : List Rat, R.length = T.length ∧ Taut (loT T) (hiT T) (at0 R) T.length ∧ m_cord [tubeX T] = some (rowX R) ∧ (∀ k, k < R.length → Sz (3 * b + 19) (at0 R k)) ∧ (∀ k, k < R.length → Form T (at0 R k)) := by
  have n2 := t.n2
  have n25 := t.n25
  obtain ⟨R, h1, h2, h3, h4, h5, h6⟩ := c_drawn (tubeX_seq T) (by omega) (by omega) t.sz hb t.ok t.last
  refine ⟨R, h1, h2, ?_, h4, h6⟩
  have z := c_check_tied t (by omega)
  unfold rowX
  generalize tubeX T = X at *
  simp [m_cord, b_cord, runP, z, h3]
def stepsR (R : List Rat) : List Rat := (List.range (R.length - 1)).map fun k => at0 R (k + 1) - at0 R k
theorem row_at {R : List Rat} {k : Nat} (h : k < R.length) : dIx (rowX R) (.int (k : Int)) = some (numD (at0 R k)) := by
  unfold rowX
  rw [v_dIxT]
  simp [at0, h]
theorem zipD_get : ∀ (xs ys : List D) (k : Nat), (zipD xs ys)[k]? = (xs[k]?).bind fun x => (ys[k]?).map fun y => .tup [x, y]
  | [], _, _ => by simp [zipD]
  | _ :: _, [], k => by simp [zipD]
  | x :: xs, y :: ys, 0 => by simp [zipD]
  | x :: xs, y :: ys, k + 1 => by simpa [zipD] using zipD_get xs ys k
theorem zip_row {T : List (Rat × Rat)} {R : List Rat} (h : R.length = T.length) : zipD (T.map pairD) (R.map numD) = (List.range T.length).map fun (k : Nat) => .tup [.tup [numD (loT T k), numD (hiT T k)], numD (at0 R k)] := by
  apply List.ext_getElem?
  intro k
  rw [zipD_get]
  by_cases hk : k < T.length
  · rw [tube_at hk]
    simp [hk, h, at0]
  · simp [hk, h]
def stR (R : List Rat) (k : Nat) : Rat := at0 R (k + 1) - at0 R k
theorem stepsR_len (R : List Rat) : (stepsR R).length = R.length - 1 := by simp [stepsR]
theorem stepsR_at {R : List Rat} {k : Nat} (h : k + 1 < R.length) : at0 (stepsR R) k = stR R k := by
  simp [at0, stepsR, stR, show k < R.length - 1 by omega]
theorem stR_sz {R : List Rat} {b k : Nat} (sz : ∀ k, k < R.length → Sz b (at0 R k)) (h : k + 1 < R.length) : Sz (2 * b + 1) (stR R k) := (sz (k + 1) h).subn (sz k (by omega)) (by omega)
/-- which way a row bends: up true, down false -/
def bendK (R : List Rat) (k : Nat) : Option Bool := if stR R (k - 1) < stR R k then some true else if stR R k < stR R (k - 1) then some false else none
def bendsL (R : List Rat) (p m : Nat) : List (Nat × Bool) := (List.range m).filterMap fun i => (bendK R (p + i)).map fun w => (p + i, w)
theorem bendsL_succ (R : List Rat) (p m : Nat) : bendsL R p (m + 1) = ((bendK R p).map fun w => (p, w)).toList ++ bendsL R (p + 1) m := by
  unfold bendsL
  rw [List.range_succ_eq_map, List.filterMap_cons, List.filterMap_map]
  have e : ((fun i => (bendK R (p + i)).map fun w => (p + i, w)) ∘ Nat.succ) = fun i => (bendK R (p + 1 + i)).map fun w => (p + 1 + i, w) := by
    funext i
    simp only [Function.comp, Nat.succ_eq_add_one]
    rw [show p + (i + 1) = p + 1 + i by omega]
  rw [e, Nat.add_zero]
  cases bendK R p <;> simp
def Right (T : List (Rat × Rat)) (R : List Rat) (q : Nat × Bool) : Prop := if q.2 = true then at0 R q.1 = hiT T q.1 else at0 R q.1 = loT T q.1
instance (T : List (Rat × Rat)) (R : List Rat) (q : Nat × Bool) : Decidable (Right T R q) := by unfold Right; infer_instance
theorem bendsL_lt {R : List Rat} {p m : Nat} {q : Nat × Bool} (h : q ∈ bendsL R p m) : p ≤ q.1 ∧ q.1 < p + m ∧ bendK R q.1 = some q.2 := by
  unfold bendsL at h
  obtain ⟨i, hi, e⟩ := List.mem_filterMap.mp h
  have hi := List.mem_range.mp hi
  cases hb : bendK R (p + i) with
  | none => rw [hb] at e; exact nomatch e
  | some w =>
    rw [hb] at e
    cases e
    exact ⟨by simp, by simp; omega, hb⟩
theorem bendsL_mem {R : List Rat} {p m k : Nat} {w : Bool} (h1 : p ≤ k) (h2 : k < p + m) (h3 : bendK R k = some w) : (k, w) ∈ bendsL R p m := by
  unfold bendsL
  refine List.mem_filterMap.mpr ⟨k - p, List.mem_range.mpr (by omega), ?_⟩
  rw [show p + (k - p) = k by omega, h3]
  rfl
theorem right_iff {T : List (Rat × Rat)} {R : List Rat} (hl : R.length = T.length) (h1 : 2 ≤ R.length) : ((∀ k, k < T.length → loT T k ≤ at0 R k ∧ at0 R k ≤ hiT T k) ∧ ∀ q ∈ bendsL R 1 (R.length - 2), Right T R q) ↔ Taut (loT T) (hiT T) (at0 R) T.length := by
  constructor
  · rintro ⟨w, r⟩
    refine ⟨w, fun k k1 k2 z => ?_, fun k k1 k2 z => ?_⟩
    · have e : stR R (k - 1) < stR R k := by unfold stR; rw [show k - 1 + 1 = k by omega]; exact z
      exact r (k, true) (bendsL_mem (by omega) (by omega) (by simp [bendK, e]))
    · have e : stR R k < stR R (k - 1) := by unfold stR; rw [show k - 1 + 1 = k by omega]; exact z
      have e3 : ¬ stR R (k - 1) < stR R k := by grind
      exact r (k, false) (bendsL_mem (by omega) (by omega) (by simp [bendK, e, e3]))
  · intro t
    refine ⟨t.within, fun q hq => ?_⟩
    obtain ⟨q1, q2, q3⟩ := bendsL_lt hq
    obtain ⟨k, w⟩ := q
    simp only at q1 q2 q3
    have e : stR R (k - 1) = at0 R k - at0 R (k - 1) := by unfold stR; rw [show k - 1 + 1 = k by omega]
    unfold bendK at q3
    split at q3
    · rename_i z
      cases q3
      rw [e] at z
      exact t.up k (by omega) (by omega) z
    · split at q3
      · rename_i z
        cases q3
        rw [e] at z
        exact t.down k (by omega) (by omega) z
      · exact nomatch q3
end Gn
/-! ### drawn numbers, tubes, rows: whatever the digits, what the laws' functions make of them -/
namespace Gn
open PySem PySem.Spec PyProof.Rows L2 DL Tt
theorem lt40 {x : Nat} (h : x < 1099511627776) : x < 2 ^ 40 := h
theorem small_sz {t b : Int} (ht : t.natAbs < 1099511627776) (hb : b.natAbs < 1099511627776) : Sz 40 (Rat.divInt t b) := Sz.divInt (n := 40) (lt40 ht) (lt40 hb) (by decide)
theorem mulS {a b : Int} (ha : a.natAbs < 1099511627776) (hb : b.natAbs < 1099511627776) : dMul (.int a) (.int b) = some (.int (a * b)) := mulI (n := 40) (m := 40) (lt40 ha) (lt40 hb) (by decide) (by decide)
theorem c_low' {t b : Int} (hb : b ≠ 0) (hs : b.natAbs < 1099511627776) : m__law_low [.int t, .int b] = some (numD (Rat.divInt t b)) := c_low (n := 40) hb (lt40 hs) (by decide)
theorem c_width {p w : Int} (h : 0 ≤ w) (h1 : w < 1000000) : ∃ (q : Rat) (p' t b : Int), q = Rat.divInt t b ∧ 0 ≤ t ∧ t ≤ w ∧ (b = 1 ∨ b = 2) ∧ m__law_width [.lst [.int p], .val (.int w)] = some (numD q, [.lst [.int p'], .un]) := by
  have m4 := md (p := p) (z := 4) (by decide)
  by_cases z : p % 4 = 0
  · refine ⟨_, p / 4, 0, 1, rfl, by omega, by omega, .inl rfl, ?_⟩
    have e0 : Rat.divInt 0 1 = 0 := rfl
    have e1 : D.tup [.int 0, .int 1] = numD 0 := rfl
    simp [m__law_width, b__law_width, runO, c_take, z, cap, keepO, e0, e1]
  · obtain ⟨d, hd, e, _⟩ := ix_mem (xs := [.int 1, .int 1, .int 1, .int 2]) m4.1 m4.2
    obtain ⟨b, rfl, hb⟩ : ∃ b : Int, d = .int b ∧ (b = 1 ∨ b = 2) := by
      simp only [List.mem_cons, List.not_mem_nil, or_false] at hd
      rcases hd with rfl | rfl | rfl | rfl <;> exact ⟨_, rfl, by decide⟩
    have mw := md (p := p / 4) (z := w + 1) (by omega)
    have t1 := c_take (p := p / 4) (z := w + 1) (by omega) (by omega)
    have lw := c_low' (t := p / 4 % (w + 1)) (b := b) (by omega) (by omega)
    refine ⟨_, p / 4 / (w + 1), p / 4 % (w + 1), b, rfl, by omega, by omega, hb, ?_⟩
    generalize Rat.divInt (p / 4 % (w + 1)) b = q at *
    simp [m__law_width, b__law_width, runO, c_take, e, z, t1, lw, cap, keepO]
theorem divInt_nn {t b : Int} (h : 0 ≤ t) (hb : 0 < b) : 0 ≤ Rat.divInt t b := by
  rw [← Rat.divInt_nonneg_iff_of_pos_right hb] at h
  exact h
/-- bounds as drawn -/
def okP (q : Rat × Rat) : Prop := q.1 ≤ q.2 ∧ Sz 40 q.1 ∧ Sz 40 q.2
theorem okP_tube {T : List (Rat × Rat)} (h : ∀ q ∈ T, okP q) (h2 : 2 ≤ T.length) (h25 : T.length ≤ 25) : TubeOk 40 T := by
  have g : ∀ k, k < T.length → okP (loT T k, hiT T k) := fun k hk => by
    have : (loT T k, hiT T k) = T[k] := by simp [loT, hiT, hk]
    rw [this]; exact h _ (List.getElem_mem hk)
  exact ⟨h2, h25, fun k hk => (g k hk).1, fun k hk => (g k hk).2⟩
theorem sz_whole {t : Int} (h : t.natAbs < 1024) : Sz 10 (t : Rat) := sz_int (n := 10) h (by decide)
theorem cast_add (a b : Int) : (a : Rat) + (b : Rat) = ((a + b : Int) : Rat) := (Rat.intCast_add a b).symm
end Gn
/-! ### a tube of so many places, as drawn -/
namespace Gn
open PySem PySem.Spec PyProof.Rows L2 DL Tt
theorem walk_step {p w : Int} (h : 0 ≤ w) (h1 : w < 1000000) {hh : Int} (hs : hh.natAbs < 1000) (o1 o : O) {L : List D} (hL : L.length < 100) : ∃ (p' : Int) (d : Int) (u : Rat × Rat), d.natAbs ≤ 3 ∧ okP u ∧ (∃ t b : Int, u = (((hh + d : Int) : Rat), ((hh + d : Int) : Rat) + Rat.divInt t b) ∧ 0 ≤ t ∧ t ≤ w ∧ (b = 1 ∨ b = 2)) ∧
    l1__law_walk [.lst [.int p], o1, .val (.int w), .val (numD (hh : Rat)), .lst L, o] = some (.next [.lst [.int p'], o1, .val (.int w), .val (numD ((hh + d : Int) : Rat)), .lst (L ++ [pairD u]), o]) := by
  have m7 := md (p := p) (z := 7) (by decide)
  obtain ⟨q, p', t, b, rfl, t0, tw, hb, e⟩ := c_width (p := p / 7) h h1
  generalize hd : p % 7 - 3 = d
  have e1 : D.tup [.int d, .int 1] = numD (d : Rat) := (numD_int d).symm
  have sd : Sz 10 (d : Rat) := sz_whole (by omega)
  have c1 := c_more (n := 4000) ((sz_whole (t := hh) (by omega)).mono (by decide)) (sd.mono (by decide)) (by decide)
  rw [cast_add] at c1
  have sh := sz_whole (t := hh + d) (by omega)
  have sq : Sz 21 (Rat.divInt t b) := Sz.divInt (n := 21) (by have : (2:Nat)^21 = 2097152 := by decide
                                                              omega) (by have : (2:Nat)^21 = 2097152 := by decide
                                                                         omega) (by decide)
  have c2 := c_more (n := 4000) (sh.mono (by decide)) (sq.mono (by decide)) (by decide)
  have qn : 0 ≤ Rat.divInt t b := divInt_nn t0 (by omega)
  refine ⟨p', d, (((hh + d : Int) : Rat), ((hh + d : Int) : Rat) + Rat.divInt t b), by omega, ⟨by grind, sh.mono (by decide), sh.addn sq (by decide)⟩, ⟨t, b, rfl, t0, tw, hb⟩, ?_⟩
  clear hb t0 tw
  generalize Rat.divInt t b = q at *
  generalize hhd : ((hh + d : Int) : Rat) = x at *
  generalize (hh : Rat) = y at *
  have cl : L.length < 1000000 := by omega
  simp [l1__law_walk, c_take, hd, e1, c1, e, c2, cap, pairD, cl]
theorem c_walk {p w : Int} {n : Nat} (hm : 2 ≤ n) (hm2 : n ≤ 25) (h : 0 ≤ w) (h1 : w < 1000000) : ∃ (T : List (Rat × Rat)) (p' : Int), TubeOk 40 T ∧ T.length = n ∧ (∀ k, k < T.length → Gr 2 (75 + w.toNat) (loT T k) ∧ Gr 2 (75 + w.toNat) (hiT T k)) ∧ m__law_walk [.lst [.int p], .val (.int (n : Int)), .val (.int w)] = some (tubeX T, [.lst [.int p'], .un, .un]) := by
  obtain ⟨s', e, p', hh, T, o, rfl, h2, h3, h4, h5⟩ := forD_rng0 (g := gN 5) (fb := l1__law_walk) (s := [.lst [.int p], .val (.int (n : Int)), .val (.int w), .val (numD 0), .lst [], .un]) n
    (fun i s => ∃ (p : Int) (hh : Int) (T : List (Rat × Rat)) (o : O), s = [.lst [.int p], .val (.int (n : Int)), .val (.int w), .val (numD (hh : Rat)), .lst (T.map pairD), o] ∧ T.length = i ∧ hh.natAbs ≤ 3 * i ∧ (∀ q ∈ T, okP q) ∧ ∀ q ∈ T, Gr 2 (75 + w.toNat) q.1 ∧ Gr 2 (75 + w.toNat) q.2)
    ⟨_, 0, [], _, rfl, rfl, by decide, by simp, by simp⟩ (fun i s hi ⟨p, hh, T, o, hs, hT, hb, ok, okg⟩ => by
      subst hs
      obtain ⟨p', d, u, h5, h6, h6g, h7⟩ := walk_step (p := p) h h1 (hh := hh) (by omega) (.val (.int (n : Int))) (.val (.int (i : Int))) (L := T.map pairD) (by simp; omega)
      exact ⟨_, _, rfl, .inl h7, p', hh + d, T ++ [u], .val (.int (i : Int)), by simp, by simp [hT], by omega, by
        intro q hq
        rcases List.mem_append.mp hq with hq | hq
        · exact ok q hq
        · simp at hq; subst hq; exact h6, by
        intro q hq
        rcases List.mem_append.mp hq with hq | hq
        · exact okg q hq
        · simp at hq
          subst hq
          obtain ⟨t, b, rfl, t0, tw, hb2⟩ := h6g
          have g1 : Gr 2 75 ((hh + d : Int) : Rat) := Gr.intN (by omega)
          have g2 : Gr 2 w.toNat (Rat.divInt t b) := by
            have := Gr.divInt (M := w.toNat) (t := t) (b := b) (by omega) (by omega)
            refine this.mono ?_ (Nat.le_refl _)
            rcases hb2 with rfl | rfl <;> decide
          exact ⟨g1.most (by omega), g1.add g2⟩⟩)
  refine ⟨T, p', okP_tube h4 (by omega) (by omega), by omega, fun k hk => ?_, ?_⟩
  · have e : (loT T k, hiT T k) = T[k] := by simp [loT, hiT, hk]
    have := h5 T[k] (List.getElem_mem hk)
    rw [← e] at this
    exact this
  have rg : ∀ st : S, DL.iRng1 (aCons (eVar 1) (aNil)) (.lst [.int p] :: .val (.int (n : Int)) :: st) = some (rangeD 0 n, .lst [.int p] :: .val (.int (n : Int)) :: st) := fun st => rng1_ok n (by omega) (by simp)
  have e0 : D.tup [.int 0, .int 1] = numD 0 := rfl
  generalize (n : Int) = ni at *
  simp [m__law_walk, b__law_walk, runO, cap, e0, rg, e, keepO, tubeX]
end Gn
/-! ### what the defs of levelcord.smoothing tell -/
namespace Gn
open PySem PySem.Spec PyProof.Rows L2 DL Tt
theorem sz_zero' (n : Nat) (h : 0 < n := by decide) : Sz n 0 := ⟨by simp; exact Nat.two_pow_pos n, Nat.one_lt_two_pow (by omega)⟩
theorem SeqD.row (R : List Rat) : SeqD (rowX R) (R.map numD) := .inl rfl
theorem at0_mem {R : List Rat} {q : Rat} (h : q ∈ R) : ∃ k, k < R.length ∧ q = at0 R k := by
  obtain ⟨k, hk, e⟩ := List.getElem_of_mem h
  exact ⟨k, hk, by simp [at0, hk, e]⟩
theorem at0_get {R : List Rat} {k : Nat} (h : k < R.length) : at0 R k = R[k] := by simp [at0, h]
/-- the tube of sums -/
def dataTube (y : List Rat) (p : Rat) : List (Rat × Rat) := (List.range (y.length + 1)).map fun k => (sLo y.length (at0 y) p k, sHi y.length (at0 y) p k)
theorem dataTube_len (y : List Rat) (p : Rat) : (dataTube y p).length = y.length + 1 := by simp [dataTube]
theorem dataTube_lo {y : List Rat} {p : Rat} {k : Nat} (h : k ≤ y.length) : loT (dataTube y p) k = sLo y.length (at0 y) p k := by
  simp [loT, dataTube, show k < y.length + 1 by omega]
theorem dataTube_hi {y : List Rat} {p : Rat} {k : Nat} (h : k ≤ y.length) : hiT (dataTube y p) k = sHi y.length (at0 y) p k := by
  simp [hiT, dataTube, show k < y.length + 1 by omega]
def preTube (y : List Rat) (p : Rat) (i : Nat) : List (Rat × Rat) := (List.range (i + 1)).map fun k => if k = 0 then (0, 0) else (sumN (at0 y) k - p, sumN (at0 y) k + p)
theorem preTube_last {y : List Rat} {p : Rat} (h : 1 ≤ y.length) : (preTube y p y.length).set y.length (sumN (at0 y) y.length, sumN (at0 y) y.length) = dataTube y p := by
  apply List.ext_getElem
  · simp [preTube, dataTube]
  · intro k h1 h2
    rw [dataTube_len] at h2
    rw [List.getElem_set]
    by_cases e : y.length = k
    · subst e
      simp [dataTube, sLo, sHi]
    · rw [if_neg e]
      by_cases k0 : k = 0
      · subst k0
        simp [preTube, dataTube, sLo, sHi, sumN]
      · have : ¬ (k = 0 ∨ k = y.length) := by omega
        simp only [preTube, dataTube, List.getElem_map, List.getElem_range, sLo, sHi, if_neg this, if_neg k0]
theorem Form.gr {T : List (Rat × Rat)} {x : Rat} {N M : Nat} (h : Form T x) (n25 : T.length ≤ 25) (g : ∀ k, k < T.length → Gr N M (loT T k) ∧ Gr N M (hiT T k)) : Gr (N * L25) (51 * M) x := by
  obtain ⟨i, j, d, m, u, v, hi, hj, eu, ev, d0, d1, md, rfl⟩ := h
  have gu : Gr N M u := by rcases eu with rfl | rfl <;> simp only [g i hi]
  have gv : Gr N M v := by rcases ev with rfl | rfl <;> simp only [g j hj]
  have q := ((gv.sub gu).div d0).mul (Gr.nat (M := 25) (m := m) (by omega))
  rw [Nat.mul_one] at q
  have q2 := q.mono (N' := N * L25) (M' := (M + M) * 25) (Nat.mul_dvd_mul_left N (dvd_L25 d d0 (by omega))) (Nat.le_refl _)
  have u2 := gu.mono (N' := N * L25) (M' := M) ⟨L25, rfl⟩ (Nat.le_refl _)
  exact (u2.add q2).most (by omega)
/-- data and a price over one bottom -/
structure DataOk (N M : Nat) (y : List Rat) (p : Rat) : Prop where
  n1 : 1 ≤ y.length
  n24 : y.length ≤ 24
  N0 : 0 < N
  Nb : N < 2 ^ 600
  Mb : M < 2 ^ 40
  gy : ∀ k, k < y.length → Gr N M (at0 y k)
  gp : Gr N M p
  p0 : 0 ≤ p
theorem sumN_gr {N M : Nat} {f : Nat → Rat} : ∀ m, (∀ k, k < m → Gr N M (f k)) → Gr N (m * M) (sumN f m)
  | 0, _ => by rw [Nat.zero_mul]; exact Gr.zero
  | m + 1, h => by
    have := (sumN_gr (f := f) m fun k hk => h k (by omega)).add (h m (by omega))
    rw [Nat.succ_mul]
    exact this
section
variable {N M : Nat} {y : List Rat} {p : Rat}
theorem big_sz {K n : Nat} {q : Rat} (D : DataOk N M y p) {A : Nat} (hA : A ≤ 2 ^ 60) (hK : K ≤ A * M) (h : Gr N K q) (hn : 720 ≤ n) : Sz n q := by
  have N0 := D.N0
  have Nb := D.Nb
  have Mb := D.Mb
  have h1 : K + 1 ≤ 2 ^ 101 := by
    have a1 : A * M ≤ 2 ^ 60 * 2 ^ 40 := Nat.mul_le_mul hA (by omega)
    have e1 : (2 : Nat) ^ 60 * 2 ^ 40 = 2 ^ 100 := by rw [← Nat.pow_add]
    have e2 : (2 : Nat) ^ 101 = 2 * 2 ^ 100 := by rw [Nat.pow_succ, Nat.mul_comm]
    have e3 : 1 ≤ (2 : Nat) ^ 100 := Nat.one_le_two_pow
    omega
  have h2 : (K + 1) * N ≤ 2 ^ 101 * N := Nat.mul_le_mul_right N h1
  have h3 : 2 ^ 101 * N < 2 ^ 101 * 2 ^ 600 := Nat.mul_lt_mul_of_pos_left Nb (Nat.two_pow_pos 101)
  have h4 : (2 : Nat) ^ 101 * 2 ^ 600 = 2 ^ 701 := by rw [← Nat.pow_add]
  have h5 : (2 : Nat) ^ 701 ≤ 2 ^ n := Nat.pow_le_pow_right (by decide) (by omega)
  exact h.sz N0 (by omega)
theorem DataOk.gs (D : DataOk N M y p) (k : Nat) (hk : k ≤ y.length) : Gr N (24 * M) (sumN (at0 y) k) :=
  (sumN_gr k fun j hj => D.gy j (by omega)).most (Nat.mul_le_mul_right M (by have := D.n24; omega))
theorem DataOk.bounds (D : DataOk N M y p) (k : Nat) (hk : k ≤ y.length) : Gr N (25 * M) (sLo y.length (at0 y) p k) ∧ Gr N (25 * M) (sHi y.length (at0 y) p k) := by
  have g := D.gs k hk
  unfold sLo sHi
  split
  · exact ⟨g.most (by omega), g.most (by omega)⟩
  · exact ⟨(g.sub D.gp).most (by omega), (g.add D.gp).most (by omega)⟩
theorem DataOk.tied (D : DataOk N M y p) : TiedOk 720 (dataTube y p) := by
  have n1 := D.n1
  have n24 := D.n24
  have p0 := D.p0
  have len := dataTube_len y p
  refine ⟨⟨by omega, by omega, fun k hk => ?_, fun k hk => ?_⟩, ?_, ?_⟩
  · rw [dataTube_lo (by omega), dataTube_hi (by omega)]
    unfold sLo sHi
    split
    · exact Rat.le_refl
    · grind
  · rw [dataTube_lo (by omega), dataTube_hi (by omega)]
    obtain ⟨g1, g2⟩ := D.bounds k (by omega)
    exact ⟨big_sz D (A := 25) (by decide) (Nat.le_refl _) g1 (Nat.le_refl _), big_sz D (A := 25) (by decide) (Nat.le_refl _) g2 (Nat.le_refl _)⟩
  · rw [dataTube_lo (by omega), dataTube_hi (by omega)]
    simp [sLo, sHi]
  · rw [len, Nat.add_sub_cancel, dataTube_lo (by omega), dataTube_hi (by omega)]
    simp [sLo, sHi]
end
end Gn
/-! ### what the defs of levelcord.looseends and rings tell -/
namespace Gn
open PySem PySem.Spec PyProof.Rows L2 DL Tt
def lows (T : List (Rat × Rat)) : List Rat := T.map (·.1)
def highs (T : List (Rat × Rat)) : List Rat := T.map (·.2)
theorem lows_len {T : List (Rat × Rat)} : (lows T).length = T.length := by simp [lows]
theorem highs_len {T : List (Rat × Rat)} : (highs T).length = T.length := by simp [highs]
theorem lows_at {T : List (Rat × Rat)} {k : Nat} (h : k < T.length) : at0 (lows T) k = loT T k := by
  simp [lows, loT, at0, h]
theorem highs_at {T : List (Rat × Rat)} {k : Nat} (h : k < T.length) : at0 (highs T) k = hiT T k := by
  simp [highs, hiT, at0, h]
theorem c_greatest {L : List Rat} {b : Nat} (h : 1 ≤ L.length) (hb : b ≤ 4000) (sz : ∀ k, k < L.length → Sz b (at0 L k)) : ∃ m : Rat, (∃ k, k < L.length ∧ m = at0 L k) ∧ (∀ k, k < L.length → at0 L k ≤ m) ∧ m_greatest_of [.lst (L.map numD)] = some (numD m) := by
  obtain ⟨s', e, m, o, rfl, ⟨j, hj, rfl⟩, least⟩ := forD_map (g := gN 2) (fb := l1_greatest_of) (s := [.val (.lst (L.map numD)), .val (numD (at0 L 0)), .un]) numD L
    (fun i s => ∃ (m : Rat) (o : O), s = [.val (.lst (L.map numD)), .val (numD m), o] ∧ (∃ k, k < L.length ∧ m = at0 L k) ∧ ∀ k, k < i → at0 L k ≤ m) ⟨_, .un, rfl, ⟨0, h, rfl⟩, fun k hk => by omega⟩ (fun i hi s ⟨m, o, hs, ⟨j, hj, em⟩, le⟩ => by
      subst hs
      have u := c_is_less (sz j hj) (sz i hi) hb
      rw [← em, at0_get hi] at u
      refine ⟨_, [.val (.lst (L.map numD)), .val (numD (if m < L[i] then L[i] else m)), .val (numD L[i])], rfl, .inl ?_, _, _, rfl, ?_, fun k hk => ?_⟩
      · by_cases z : m < L[i] <;> simp [l1_greatest_of, u, z]
      · split
        · exact ⟨i, hi, (at0_get hi).symm⟩
        · exact ⟨j, hj, em⟩
      · by_cases e : k = i
        · subst e; rw [at0_get hi]; split <;> grind
        · have := le k (by omega); split <;> grind)
  refine ⟨_, ⟨j, hj, rfl⟩, least, ?_⟩
  have i0 : dIx (.lst (L.map numD)) (.int 0) = some (numD (at0 L 0)) := by
    have := v_dIxL (xs := L.map numD) (n := 0)
    rw [List.getElem?_map, List.getElem?_eq_getElem h] at this
    rw [at0_get h]
    exact this
  have it : items (.lst (L.map numD)) = some (L.map numD) := rfl
  generalize at0 L j = mm at *
  generalize at0 L 0 = l0 at *
  generalize hX : D.lst (L.map numD) = X at *
  generalize L.map numD = LL at *
  simp [m_greatest_of, b_greatest_of, runP, i0, it, e]
theorem c_least {L : List Rat} {b : Nat} (h : 1 ≤ L.length) (hb : b ≤ 4000) (sz : ∀ k, k < L.length → Sz b (at0 L k)) : ∃ m : Rat, (∃ k, k < L.length ∧ m = at0 L k) ∧ (∀ k, k < L.length → m ≤ at0 L k) ∧ m_least_of [.lst (L.map numD)] = some (numD m) := by
  obtain ⟨s', e, m, o, rfl, ⟨j, hj, rfl⟩, least⟩ := forD_map (g := gN 2) (fb := l1_least_of) (s := [.val (.lst (L.map numD)), .val (numD (at0 L 0)), .un]) numD L
    (fun i s => ∃ (m : Rat) (o : O), s = [.val (.lst (L.map numD)), .val (numD m), o] ∧ (∃ k, k < L.length ∧ m = at0 L k) ∧ ∀ k, k < i → m ≤ at0 L k) ⟨_, .un, rfl, ⟨0, h, rfl⟩, fun k hk => by omega⟩ (fun i hi s ⟨m, o, hs, ⟨j, hj, em⟩, le⟩ => by
      subst hs
      have u := c_is_less (sz i hi) (sz j hj) hb
      rw [← em, at0_get hi] at u
      refine ⟨_, [.val (.lst (L.map numD)), .val (numD (if L[i] < m then L[i] else m)), .val (numD L[i])], rfl, .inl ?_, _, _, rfl, ?_, fun k hk => ?_⟩
      · by_cases z : L[i] < m <;> simp [l1_least_of, u, z]
      · split
        · exact ⟨i, hi, (at0_get hi).symm⟩
        · exact ⟨j, hj, em⟩
      · by_cases e : k = i
        · subst e; rw [at0_get hi]; split <;> grind
        · have := le k (by omega); split <;> grind)
  refine ⟨_, ⟨j, hj, rfl⟩, least, ?_⟩
  have i0 : dIx (.lst (L.map numD)) (.int 0) = some (numD (at0 L 0)) := by
    have := v_dIxL (xs := L.map numD) (n := 0)
    rw [List.getElem?_map, List.getElem?_eq_getElem h] at this
    rw [at0_get h]
    exact this
  have it : items (.lst (L.map numD)) = some (L.map numD) := rfl
  generalize at0 L j = mm at *
  generalize at0 L 0 = l0 at *
  generalize hX : D.lst (L.map numD) = X at *
  generalize L.map numD = LL at *
  simp [m_least_of, b_least_of, runP, i0, it, e]
/-- the greatest low, the least high -/
structure TopBot (T : List (Rat × Rat)) (top bot : Rat) : Prop where
  t1 : ∃ k, k < T.length ∧ top = loT T k
  t2 : ∀ k, k < T.length → loT T k ≤ top
  b1 : ∃ k, k < T.length ∧ bot = hiT T k
  b2 : ∀ k, k < T.length → bot ≤ hiT T k
  gr : m_greatest_of [.lst ((lows T).map numD)] = some (numD top)
  le : m_least_of [.lst ((highs T).map numD)] = some (numD bot)
theorem c_topbot {b : Nat} {T : List (Rat × Rat)} (t : TubeOk b T) (hb : b ≤ 4000) : ∃ top bot, TopBot T top bot := by
  have n2 := t.n2
  have l1 := lows_len (T := T)
  have l2 := highs_len (T := T)
  obtain ⟨top, ⟨k, hk, e⟩, a, g⟩ := c_greatest (L := lows T) (b := b) (by omega) hb (fun k hk => by rw [lows_at (by omega)]; exact (t.sz k (by omega)).1)
  obtain ⟨bot, ⟨j, hj, e'⟩, a', g'⟩ := c_least (L := highs T) (b := b) (by omega) hb (fun k hk => by rw [highs_at (by omega)]; exact (t.sz k (by omega)).2)
  exact ⟨top, bot, ⟨k, by omega, by rw [e, lows_at (by omega)]⟩, fun j hj => by rw [← lows_at hj]; exact a j (by omega), ⟨j, by omega, by rw [e', highs_at (by omega)]⟩, fun i hi => by rw [← highs_at hi]; exact a' i (by omega), g, g'⟩
theorem lows_map {T : List (Rat × Rat)} : (lows T).map numD = T.map fun p => numD p.1 := by simp [lows]
theorem highs_map {T : List (Rat × Rat)} : (highs T).map numD = T.map fun p => numD p.2 := by simp [highs]
theorem TopBot.sz {b : Nat} {T : List (Rat × Rat)} {top bot : Rat} (B : TopBot T top bot) (t : TubeOk b T) : Sz b top ∧ Sz b bot := by
  obtain ⟨k, hk, rfl⟩ := B.t1
  obtain ⟨j, hj, rfl⟩ := B.b1
  exact ⟨(t.sz k hk).1, (t.sz j hj).2⟩
theorem c_level {b : Nat} {T : List (Rat × Rat)} {top bot : Rat} (t : TubeOk b T) (hb : b ≤ 4000) (B : TopBot T top bot) : m_level_height [tubeX T] = some (if bot < top then .non else numD top) := by
  have n25 := t.n25
  have lc1 := lcD_map (g := gTup (gsCons (gN 2) (gsCons (gN 3) (gsNil)))) (fe := eVar 2) (own := [2, 3]) (s := [.val (tubeX T), .un, .un, .un]) pairD (fun p => numD p.1) T (fun p hp => ⟨_, _, rfl, rfl, rfl⟩) (by unfold cap; omega)
  have lc2 := lcD_map (g := gTup (gsCons (gN 2) (gsCons (gN 3) (gsNil)))) (fe := eVar 3) (own := [2, 3]) (s := [.val (tubeX T), .val (numD top), .un, .un]) pairD (fun p => numD p.2) T (fun p hp => ⟨_, _, rfl, rfl, rfl⟩) (by unfold cap; omega)
  have g := B.gr
  have l := B.le
  rw [lows_map] at g
  rw [highs_map] at l
  obtain ⟨s1, s2⟩ := B.sz t
  have u := c_is_less s2 s1 hb
  have it : items (tubeX T) = some (T.map pairD) := rfl
  generalize tubeX T = X at *
  generalize T.map pairD = TP at *
  generalize (T.map fun p => numD p.1) = L1 at *
  generalize (T.map fun p => numD p.2) = L2 at *
  by_cases z : bot < top <;> simp [m_level_height, b_level_height, runP, it, lc1, lc2, g, l, u, z]
/-! the places that are held -/
section
variable {T : List (Rat × Rat)} {top bot : Rat}
def isH (T : List (Rat × Rat)) (top bot : Rat) (k : Nat) : Bool := decide (loT T k = top ∨ hiT T k = bot)
def tieQ (T : List (Rat × Rat)) (top bot : Rat) (k : Nat) : Rat := if loT T k = top then top else bot
def heldX (T : List (Rat × Rat)) (top bot : Rat) (i : Nat) : List (Key × D) := ((List.range i).filter (isH T top bot)).map fun (k : Nat) => (.inl (k : Int), pairD (tieQ T top bot k, tieQ T top bot k))
theorem heldX_succ (i : Nat) : heldX T top bot (i + 1) = if isH T top bot i = true then heldX T top bot i ++ [(.inl (i : Int), pairD (tieQ T top bot i, tieQ T top bot i))] else heldX T top bot i := by
  unfold heldX
  rw [List.range_succ, List.filter_append, List.map_append]
  by_cases h : isH T top bot i = true
  · rw [if_pos h]
    simp [h]
  · rw [if_neg h]
    simp [h]
theorem heldX_store (i : Nat) (d : D) : storeK (heldX T top bot i) (.inl (i : Int)) d = heldX T top bot i ++ [(.inl (i : Int), d)] := by
  unfold storeK
  rw [if_neg]
  intro h
  obtain ⟨x, hx, e⟩ := List.any_eq_true.mp h
  obtain ⟨k, hk, rfl⟩ := List.mem_map.mp hx
  have := List.mem_range.mp (List.mem_filter.mp hk).1
  have e2 : (Sum.inl ((k : Nat) : Int) : Key) = Sum.inl ((i : Nat) : Int) := of_decide_eq_true e
  have := Sum.inl.inj e2
  omega
theorem heldX_len (i : Nat) : (heldX T top bot i).length ≤ i := by
  unfold heldX
  rw [List.length_map]
  exact Nat.le_trans (List.length_filter_le _ _) (by simp)
theorem lookK_map (f : Nat → D) (k : Nat) : ∀ l : List Nat, lookK (l.map fun (j : Nat) => ((.inl (j : Int) : Key), f j)) (.inl (k : Int)) = if k ∈ l then some (f k) else none
  | [] => by simp [lookK]
  | j :: l => by
    rw [List.map_cons, lookK_cons, lookK_map f k l]
    by_cases h : j = k
    · subst h
      simp
    · have h2 : ¬ (Sum.inl ((j : Nat) : Int) : Key) = Sum.inl ((k : Nat) : Int) := fun z => h (by have := Sum.inl.inj z; omega)
      have h3 : ¬ k = j := fun z => h z.symm
      rw [if_neg h2]
      simp [h3]
theorem intKeys_map' (f : Nat → D) : ∀ l : List Nat, intKeys (l.map fun (j : Nat) => ((.inl (j : Int) : Key), f j)) = some (l.map fun (j : Nat) => (j : Int))
  | [] => rfl
  | j :: l => by simp [intKeys, intKeys_map' f l]
theorem c_held {b : Nat} (t : TubeOk b T) (B : TopBot T top bot) : m_held_places [tubeX T] = some (heldX T top bot T.length) := by
  have n25 := t.n25
  have lc1 := lcD_map (g := gTup (gsCons (gN 6) (gsCons (gN 7) (gsNil)))) (fe := eVar 6) (own := [6, 7]) (s := [.val (tubeX T), .un, .un, .un, .un, .un, .un, .un]) pairD (fun p => numD p.1) T (fun p hp => ⟨_, _, rfl, rfl, rfl⟩) (by unfold cap; omega)
  have lc2 := lcD_map (g := gTup (gsCons (gN 6) (gsCons (gN 7) (gsNil)))) (fe := eVar 7) (own := [6, 7]) (s := [.val (tubeX T), .val (numD top), .un, .un, .un, .un, .un, .un]) pairD (fun p => numD p.2) T (fun p hp => ⟨_, _, rfl, rfl, rfl⟩) (by unfold cap; omega)
  obtain ⟨s', e, o4, o5, rfl⟩ := forD_map (g := gTup (gsCons (gN 4) (gsCons (gN 5) (gsNil)))) (fb := l1_held_places) (s := [.val (tubeX T), .val (numD top), .val (numD bot), .dct [], .un, .un, .un, .un]) (fun (k : Nat) => D.tup [.int (k : Int), (T.map pairD).getD k .non]) (List.range T.length)
    (fun i s => ∃ o4 o5 : O, s = [.val (tubeX T), .val (numD top), .val (numD bot), .dct (heldX T top bot i), o4, o5, .un, .un]) ⟨_, _, rfl⟩ (fun i hi s ⟨o4, o5, hs⟩ => by
      subst hs
      rw [List.length_range] at hi
      have hg : (T.map pairD).getD i .non = .tup [numD (loT T i), numD (hiT T i)] := by
        rw [List.getD_eq_getElem?_getD, tube_at hi]
        rfl
      have el : (List.range T.length)[i] = i := by simp
      rw [el, hg]
      refine ⟨_, [.val (tubeX T), .val (numD top), .val (numD bot), .dct (heldX T top bot (i + 1)), .val (.int (i : Int)), .val (.tup [numD (loT T i), numD (hiT T i)]), .un, .un], rfl, .inl ?_, _, _, rfl⟩
      have q1 := Eqn.num.dEq (by decide) (loT T i) top
      have q2 := Eqn.num.dEq (by decide) (hiT T i) bot
      have hs := heldX_succ (T := T) (top := top) (bot := bot) i
      have st := fun d => heldX_store (T := T) (top := top) (bot := bot) i d
      have hl := heldX_len (T := T) (top := top) (bot := bot) i
      have hl2 : (heldX T top bot i).length < 1000000 := by omega
      rw [hs]
      unfold isH tieQ pairD
      generalize heldX T top bot i = HX at *
      generalize tubeX T = X at *
      generalize (i : Int) = ii at *
      generalize loT T i = lo at *
      generalize hiT T i = hi at *
      by_cases z1 : lo = top
      · simp [l1_held_places, q1, z1, cap, st, hl2]
      · by_cases z2 : hi = bot
        · simp [l1_held_places, q1, q2, z1, z2, cap, st, hl2]
        · simp [l1_held_places, q1, q2, z1, z2])
  rw [List.length_range] at e
  have g := B.gr
  have l := B.le
  rw [lows_map] at g
  rw [highs_map] at l
  have en : enumD (T.map pairD) = (List.range T.length).map fun (k : Nat) => D.tup [.int (k : Int), (T.map pairD).getD k .non] := by simp [enumD]
  have it : items (tubeX T) = some (T.map pairD) := rfl
  have ke : ∀ st : S, kEn (some ([tubeX T], st)) = some (enumD (T.map pairD), st) := fun st => rfl
  rw [en] at ke
  generalize (List.range T.length).map (fun (k : Nat) => D.tup [.int (k : Int), (T.map pairD).getD k .non]) = EN at *
  generalize tubeX T = X at *
  generalize T.map pairD = TP at *
  generalize (T.map fun p => numD p.1) = L1 at *
  generalize (T.map fun p => numD p.2) = L2 at *
  generalize heldX T top bot T.length = HX at *
  simp [m_held_places, b_held_places, runD, it, lc1, lc2, g, l, ke, e]
end
end Gn
/-! ### what the defs of levelcord.stairs tell -/
namespace Gn
open PySem PySem.Spec PyProof.Rows L2 DL Tt
def bitD (b : Nat × Rat) : D := .tup [.int b.1, numD b.2]
def bitsX (B : Bits) : D := .lst (B.map bitD)
theorem okL_bits (n : Nat) : ∀ B : Bits, okL (n + 3) (B.map bitD) = true
  | [] => rfl
  | b :: B => by simp [okL, okL_bits n B, bitD, okD]
theorem dNe_nil {xs : List D} (h : okL 59 xs = true) : dNe (.lst xs) (.lst []) = some (.bl (!xs.isEmpty)) := by
  have a : okD 60 (.lst xs) = true := by simpa [okD] using h
  have b : okD 60 (.lst []) = true := rfl
  have c : eqD (.lst xs) (.lst []) = xs.isEmpty := by cases xs <;> rfl
  simp only [dNe, a, b, c, and_self, if_true]
theorem bits_at {B : Bits} {k : Nat} (h : k < B.length) : dIx (bitsX B) (.int (k : Int)) = some (.tup [.int (mB B k), numD (vB B k)]) := by
  unfold bitsX
  rw [v_dIxL]
  simp [h, bitD, mB, vB]
theorem noL_bit (m : Int) (q : Rat) : noL (.tup [.int m, numD q]) = true := rfl
theorem mulT_rep {d : D} {m : Nat} (h : 0 < m) (h2 : m ≤ 1000) : dMulT (.tup [d]) (.int (m : Int)) = some (.tup (List.replicate m d)) := by
  unfold dMulT
  by_cases e : (m : Int) = 1
  · have : m = 1 := by omega
    subst this
    simp
  · have f : (List.replicate m [d]).flatten = List.replicate m d := by simp
    simp [e, dMul, f]
    omega
def OkB' (B : Bits) : Prop := ∀ k, k < B.length → 0 < mB B k
def ratesX (B : Bits) : D := .lst ((List.range B.length).map fun k => numD (rate B k))
theorem rates_at {B : Bits} {k : Nat} (h : k < B.length) : dIx (ratesX B) (.int (k : Int)) = some (numD (rate B k)) := by
  unfold ratesX
  rw [v_dIxL]
  simp [h]
def optN : Option Rat → D
  | none => .non
  | some q => numD q
theorem sz_zero {n : Nat} (h : 0 < n) : Sz n 0 := ⟨by simp; exact Nat.two_pow_pos n, Nat.one_lt_two_pow (by omega)⟩
theorem mtg_sz {B : Bits} {k n : Nat} {u : Rat} (h1 : Sz n (vB B k)) (h2 : Sz n (vB B (k + 1))) (h3 : Sz 24 (rate B k)) (h4 : Sz 24 (rate B (k + 1))) (e : mtg B k = some u) : Sz (2 * n + 60) u := by
  have s1 := h2.subn h1 (k := 2 * n + 1) (by omega)
  have s2 := h3.subn h4 (k := 49) (by omega)
  unfold mtg at e
  split at e
  · split at e
    · cases e
      exact s1.neg.divn s2.neg (by grind) (by omega)
    · exact nomatch e
  · split at e
    · cases e
      exact s1.divn s2 (by grind) (by omega)
    · exact nomatch e
theorem big100 {N : Nat} (h : N < 2 ^ 300) : N * L100 * L25 < 2 ^ 480 := by
  have a : L100 * L25 < 2 ^ 180 := by decide +kernel
  have b : N * (L100 * L25) < 2 ^ 300 * 2 ^ 180 := Nat.mul_lt_mul'' h a
  rw [← Nat.pow_add] at b
  rwa [Nat.mul_assoc]
section
variable {N M : Nat} {y x : List Rat} {p : Rat}
theorem _root_.DL.StOk.big (dk : StOk N M y) {K : Nat} {q : Rat} (hK : K ≤ 2 ^ 20 * M) (h : Gr (N * L100 * L25) K q) : Sz 600 q := by
  have N0 := dk.N0
  have Mb := dk.Mb
  have nb := big100 dk.Nb
  have h1 : K + 1 ≤ 2 ^ 61 := by
    have a1 : 2 ^ 20 * M ≤ 2 ^ 20 * 2 ^ 40 := Nat.mul_le_mul_left _ (by omega)
    have e1 : (2 : Nat) ^ 20 * 2 ^ 40 = 2 ^ 60 := by rw [← Nat.pow_add]
    have e2 : (2 : Nat) ^ 61 = 2 * 2 ^ 60 := by rw [Nat.pow_succ, Nat.mul_comm]
    have e3 : 1 ≤ (2 : Nat) ^ 60 := Nat.one_le_two_pow
    omega
  have h2 : (K + 1) * (N * L100 * L25) ≤ 2 ^ 61 * (N * L100 * L25) := Nat.mul_le_mul_right _ h1
  have h3 : 2 ^ 61 * (N * L100 * L25) < 2 ^ 61 * 2 ^ 480 := Nat.mul_lt_mul_of_pos_left nb (Nat.two_pow_pos 61)
  have h4 : (2 : Nat) ^ 61 * 2 ^ 480 = 2 ^ 541 := by rw [← Nat.pow_add]
  have h5 : (2 : Nat) ^ 541 ≤ 2 ^ 600 := Nat.pow_le_pow_right (by decide) (by decide)
  exact h.sz (Nat.mul_pos (Nat.mul_pos N0 (by decide)) (by decide)) (by omega)
theorem _root_.DL.StOk.small (dk : StOk N M y) {K : Nat} {q : Rat} (hK : K ≤ 2 ^ 20 * M) (h : Gr (N * L100) K q) : Sz 600 q := dk.big hK (h.mono ⟨L25, rfl⟩ (Nat.le_refl _))
theorem _root_.DL.StRow.szp (dk : StOk N M y) (R : StRow N M y p x) : Sz 600 p := dk.small (Nat.mul_le_mul_right M (by decide)) R.gp
theorem _root_.DL.StRow.szx (dk : StOk N M y) (R : StRow N M y p x) (k : Nat) (hk : k < y.length) : Sz 600 (at0 x k) := dk.big (by omega) (R.gx k hk)
def stD (q : Rat × List Rat) : D := .tup [numD q.1, rowX q.2]
theorem vB_at {B : Bits} (ok : OkB B) {k : Nat} (hk : k < B.length) : ∃ i, i < (rowB B).length ∧ vB B k = at0 (rowB B) i := by
  have m := ok.pos k hk
  refine ⟨sB B k, ?_, ?_⟩
  · have := sB_mono B (k := k + 1) (B.length - (k + 1))
    rw [show k + 1 + (B.length - (k + 1)) = B.length by omega, sB, ← rowB_len] at this
    omega
  · have := row_at_bit B (c := 0) hk m; simpa using this.symm
theorem bits_few {B : Bits} (ok : OkB B) : ∀ k, k ≤ B.length → k ≤ sB B k
  | 0, _ => Nat.zero_le _
  | k + 1, h => by
    have := bits_few ok k (by omega)
    have := ok.pos k (by omega)
    rw [sB]; omega
end
end Gn
/-! ### tubes with their ends tied, and with what lies between changed -/
namespace Gn
open PySem PySem.Spec PyProof.Rows L2 DL Tt
def inner (T : List (Rat × Rat)) : List (Rat × Rat) := (T.take (T.length - 1)).drop 1
theorem inner_len {T : List (Rat × Rat)} : (inner T).length = T.length - 1 - 1 := by simp [inner]
theorem inner_at {T : List (Rat × Rat)} {k : Nat} (h : k + 2 < T.length) : (inner T)[k]? = T[k + 1]? := by
  unfold inner
  rw [List.getElem?_drop, List.getElem?_take, if_pos (by omega), Nat.add_comm]
def tiedT (T : List (Rat × Rat)) (u v : Rat) : List (Rat × Rat) := (u, u) :: (inner T ++ [(v, v)])
theorem tiedT_len {T : List (Rat × Rat)} {u v : Rat} (h : 2 ≤ T.length) : (tiedT T u v).length = T.length := by
  simp [tiedT, inner_len]; omega
theorem tiedT_at {T : List (Rat × Rat)} {u v : Rat} {k : Nat} (h : k < T.length) (h2 : 2 ≤ T.length) : (tiedT T u v).getD k (0, 0) = if k = 0 then (u, u) else if k + 1 = T.length then (v, v) else T.getD k (0, 0) := by
  have il := inner_len (T := T)
  simp only [List.getD_eq_getElem?_getD, tiedT]
  by_cases c : k = 0
  · subst c; simp
  · rw [if_neg c]
    obtain ⟨j, rfl⟩ : ∃ j, k = j + 1 := ⟨k - 1, by omega⟩
    rw [List.getElem?_cons_succ]
    by_cases d : j + 1 + 1 = T.length
    · rw [if_pos d, List.getElem?_append_right (by omega)]
      have : j - (inner T).length = 0 := by omega
      rw [this]; rfl
    · rw [if_neg d, List.getElem?_append_left (by omega), inner_at (by omega)]
theorem tiedT_lo {T : List (Rat × Rat)} {u v : Rat} {k : Nat} (h : k < T.length) (h2 : 2 ≤ T.length) : loT (tiedT T u v) k = (if k = 0 then u else if k + 1 = T.length then v else loT T k) ∧ hiT (tiedT T u v) k = (if k = 0 then u else if k + 1 = T.length then v else hiT T k) := by
  unfold loT hiT
  rw [tiedT_at h h2]
  by_cases c : k = 0
  · rw [if_pos c, if_pos c, if_pos c]; exact ⟨rfl, rfl⟩
  · rw [if_neg c, if_neg c, if_neg c]
    by_cases d : k + 1 = T.length
    · rw [if_pos d, if_pos d, if_pos d]; exact ⟨rfl, rfl⟩
    · rw [if_neg d, if_neg d, if_neg d]; exact ⟨rfl, rfl⟩
/-- each end one of its bounds -/
structure Ends (T : List (Rat × Rat)) (u v : Rat) : Prop where
  n2 : 2 ≤ T.length
  u : u = loT T 0 ∨ u = hiT T 0
  v : v = loT T (T.length - 1) ∨ v = hiT T (T.length - 1)
theorem Ends.tied {T : List (Rat × Rat)} {u v : Rat} {b : Nat} (e : Ends T u v) (t : TubeOk b T) : TiedOk b (tiedT T u v) := by
  have n2 := e.n2
  have n25 := t.n25
  have ln := tiedT_len (u := u) (v := v) n2
  have s0 := t.sz 0 (by omega)
  have s1 := t.sz (T.length - 1) (by omega)
  have su : Sz b u := by rcases e.u with h | h <;> rw [h] <;> simp only [s0]
  have sv : Sz b v := by rcases e.v with h | h <;> rw [h] <;> simp only [s1]
  refine ⟨⟨by omega, by omega, fun k hk => ?_, fun k hk => ?_⟩, ?_, ?_⟩
  · rw [ln] at hk
    rw [(tiedT_lo hk n2).1, (tiedT_lo hk n2).2]
    split
    · exact Rat.le_refl
    · split
      · exact Rat.le_refl
      · exact t.ok k hk
  · rw [ln] at hk
    rw [(tiedT_lo hk n2).1, (tiedT_lo hk n2).2]
    split
    · exact ⟨su, su⟩
    · split
      · exact ⟨sv, sv⟩
      · exact t.sz k hk
  · rw [(tiedT_lo (by omega) n2).1, (tiedT_lo (by omega) n2).2, if_pos rfl, if_pos rfl]
  · rw [ln, (tiedT_lo (by omega) n2).1, (tiedT_lo (by omega) n2).2]
    have h1 : ¬ T.length - 1 = 0 := by omega
    have h2 : T.length - 1 + 1 = T.length := by omega
    rw [if_neg h1, if_neg h1, if_pos h2, if_pos h2]
theorem Ends.gr {T : List (Rat × Rat)} {u v : Rat} {N M : Nat} (e : Ends T u v) (g : ∀ k, k < T.length → Gr N M (loT T k) ∧ Gr N M (hiT T k)) : ∀ k, k < (tiedT T u v).length → Gr N M (loT (tiedT T u v) k) ∧ Gr N M (hiT (tiedT T u v) k) := fun k hk => by
  have n2 := e.n2
  rw [tiedT_len n2] at hk
  have g0 := g 0 (by omega)
  have g1 := g (T.length - 1) (by omega)
  have su : Gr N M u := by rcases e.u with h | h <;> rw [h] <;> simp only [g0]
  have sv : Gr N M v := by rcases e.v with h | h <;> rw [h] <;> simp only [g1]
  rw [(tiedT_lo hk n2).1, (tiedT_lo hk n2).2]
  split
  · exact ⟨su, su⟩
  · split
    · exact ⟨sv, sv⟩
    · exact g k hk
theorem cut_m1 {xs : List D} : DL.cutD xs (some (-1)) none = xs.drop (xs.length - 1) := by
  have := cut_from (xs := xs) (k := xs.length - 1)
  rw [← this, DL.cutD, DL.cutD, sIx_m1, HT.sIx_nat xs.length 0 (xs.length - 1), Nat.min_eq_left (by omega)]
theorem cutX_in {T : List (Rat × Rat)} : dCut (tubeX T) (some 1) (some (-1)) = some (tubeX (inner T)) := by
  unfold tubeX inner
  rw [v_dCutT, cut_in, List.map_drop, List.map_take, List.length_map]
theorem cutX_first {T : List (Rat × Rat)} : dCut (tubeX T) none (some 1) = some (tubeX (T.take 1)) := by
  have := cut_to (xs := T.map pairD) (k := 1)
  rw [show ((1 : Nat) : Int) = 1 from rfl] at this
  unfold tubeX
  rw [v_dCutT, this, List.map_take]
theorem cutX_last {T : List (Rat × Rat)} : dCut (tubeX T) (some (-1)) none = some (tubeX (T.drop (T.length - 1))) := by
  unfold tubeX
  rw [v_dCutT, cut_m1, List.map_drop, List.length_map]
theorem addX {A B : List (Rat × Rat)} (h : A.length + B.length ≤ 1000) : dAddL (tubeX A) (tubeX B) = some (tubeX (A ++ B)) := by
  unfold tubeX
  rw [List.map_append]
  simp [dAddL, dAdd, cap]
  omega
theorem mul2 (q : Rat) : dMulT (.tup [numD q]) (.int 2) = some (.tup [numD q, numD q]) := by
  have := mulT_rep (d := numD q) (m := 2) (by decide) (by decide)
  exact this
theorem oneX (p : Rat × Rat) : D.tup [pairD p] = tubeX [p] := rfl
/-- what lies between the ends changed -/
def midT (T : List (Rat × Rat)) (f : Rat × Rat → Rat × Rat) : List (Rat × Rat) := T.take 1 ++ (inner T).map f ++ T.drop (T.length - 1)
theorem midT_len {T : List (Rat × Rat)} {f : Rat × Rat → Rat × Rat} (h : 2 ≤ T.length) : (midT T f).length = T.length := by
  simp [midT, inner_len]; omega
theorem midT_at {T : List (Rat × Rat)} {f : Rat × Rat → Rat × Rat} {k : Nat} (h : k < T.length) (h2 : 2 ≤ T.length) : (midT T f).getD k (0, 0) = if k = 0 ∨ T.length ≤ k + 1 then T.getD k (0, 0) else f (T.getD k (0, 0)) := by
  have il := inner_len (T := T)
  simp only [List.getD_eq_getElem?_getD, midT]
  by_cases c : k = 0
  · subst c
    rw [if_pos (.inl rfl), List.append_assoc, List.getElem?_append_left (by simp; omega), List.getElem?_take, if_pos (by omega)]
  · by_cases d : T.length ≤ k + 1
    · rw [if_pos (.inr d), List.getElem?_append_right (by simp [il]; omega), List.getElem?_drop]
      congr 2
      simp [il]
      omega
    · have hk : k + 1 < T.length := by omega
      rw [if_neg (by omega), List.append_assoc, List.getElem?_append_right (by simp; omega), List.getElem?_append_left (by simp [il]; omega)]
      have e : k - (T.take 1).length = k - 1 := by simp; omega
      rw [e, List.getElem?_map, inner_at (by omega), show k - 1 + 1 = k by omega]
      rw [List.getElem?_eq_getElem h]
      rfl
end Gn
/-! ### loose and ring cords -/
namespace Gn
open PySem PySem.Spec PyProof.Rows L2 DL Tt
theorem loT_get {T U : List (Rat × Rat)} {k j : Nat} (h : T.getD k (0, 0) = U.getD j (0, 0)) : loT T k = loT U j ∧ hiT T k = hiT U j := by
  unfold loT hiT
  rw [h]
  exact ⟨rfl, rfl⟩
theorem back_get {Q : List (Rat × Rat)} {m k : Nat} (hq : Q.length = m + 1) (hk : k ≤ 2 * m) : (Q ++ (Q.take m).reverse).getD k (0, 0) = Q.getD (if k ≤ m then k else 2 * m - k) (0, 0) := by
  by_cases c : k ≤ m
  · rw [if_pos c]
    simp only [List.getD_eq_getElem?_getD]
    rw [List.getElem?_append_left (by omega)]
  · rw [if_neg c]
    simp only [List.getD_eq_getElem?_getD]
    have l : (Q.take m).length = m := by rw [List.length_take]; omega
    rw [List.getElem?_append_right (by omega), List.getElem?_reverse (by omega), l, List.getElem?_take, if_pos (by omega)]
    congr 2
    omega
theorem at0_take {R : List Rat} {m k : Nat} (h : k < m) : at0 (R.take m) k = at0 R k := by
  simp [at0, List.getElem?_take, h]
structure HalfOk (b : Nat) (Q : List (Rat × Rat)) (R : List Rat) : Prop where
  len : R.length = Q.length
  taut : Taut (loT Q) (hiT Q) (at0 R) Q.length
  beg : at0 R 0 = loT Q 0
  endu : ∀ m, Q.length = m + 2 → at0 R (m + 1) < at0 R m → at0 R (m + 1) = hiT Q (m + 1)
  endd : ∀ m, Q.length = m + 2 → at0 R m < at0 R (m + 1) → at0 R (m + 1) = loT Q (m + 1)
  sz : ∀ k, k < R.length → Sz (3 * b + 19) (at0 R k)
  most : ∀ c, (∀ k, k < Q.length → loT Q k ≤ c) → ∀ k, k < Q.length → at0 R k ≤ c
  few : ∀ c, (∀ k, k < Q.length → c ≤ hiT Q k) → ∀ k, k < Q.length → c ≤ at0 R k
  gr : Q.length ≤ 13 → ∀ N M : Nat, (∀ k, k < Q.length → Gr N M (loT Q k) ∧ Gr N M (hiT Q k)) → ∀ k, k < R.length → Gr (N * L25) (51 * M) (at0 R k)
theorem c_looseEnd {Q : List (Rat × Rat)} {b : Nat} (q1 : 1 ≤ Q.length) (q25 : Q.length ≤ 25) (sz : TSz b Q) (hb : b ≤ 1000) (ok : ∀ k, k < Q.length → loT Q k ≤ hiT Q k) (tied : loT Q 0 = hiT Q 0) :
    ∃ R, HalfOk b Q R ∧ m_to_loose_end [.lst (Q.map pairD)] = some (.lst (R.map numD)) := by
  obtain ⟨m, hm⟩ : ∃ m, Q.length = m + 1 := ⟨Q.length - 1, by omega⟩
  have ml : (Q ++ (Q.take m).reverse).length = 2 * m + 1 := by
    rw [List.length_append, List.length_reverse, List.length_take]
    omega
  have bk := fun k (hk : k ≤ 2 * m) => loT_get (back_get hm hk)
  have bk1 : ∀ k, k ≤ m → loT (Q ++ (Q.take m).reverse) k = loT Q k ∧ hiT (Q ++ (Q.take m).reverse) k = hiT Q k := fun k hk => by
    have := bk k (by omega)
    rwa [if_pos hk] at this
  have ix : ∀ k, k ≤ 2 * m → (if k ≤ m then k else 2 * m - k) < Q.length := fun k hk => by split <;> omega
  obtain ⟨R', h1, h2, h3, h4, h5, h6⟩ := c_drawn (X := .lst ((Q ++ (Q.take m).reverse).map pairD)) (T := Q ++ (Q.take m).reverse) (b := b) (.inr rfl) (by omega) (by omega) (fun k hk => by
      rw [(bk k (by omega)).1, (bk k (by omega)).2]
      exact sz _ (ix k (by omega))) hb (fun k hk => by
      rw [(bk k (by omega)).1, (bk k (by omega)).2]
      exact ok _ (ix k (by omega))) (by
      rw [ml, Nat.add_sub_cancel, (bk (2 * m) (Nat.le_refl _)).1, (bk (2 * m) (Nat.le_refl _)).2]
      have : (if 2 * m ≤ m then 2 * m else 2 * m - 2 * m) = 0 := by split <;> omega
      rw [this]
      exact tied)
  rw [ml] at h2 h1
  have mir := Taut.mirror h2 (fun k hk => by
    rw [(bk k (by omega)).1, (bk k (by omega)).2, (bk (2 * m - k) (by omega)).1, (bk (2 * m - k) (by omega)).2]
    have : (if 2 * m - k ≤ m then 2 * m - k else 2 * m - (2 * m - k)) = if k ≤ m then k else 2 * m - k := by rw [if_pos hk]; split <;> omega
    rw [this]
    exact ⟨rfl, rfl⟩) (by rw [(bk1 0 (by omega)).1, (bk1 0 (by omega)).2]; exact tied)
  have tk : ∀ k, k < m + 1 → at0 (R'.take (m + 1)) k = at0 R' k := fun k hk => at0_take hk
  have e0 : at0 R' 0 = loT Q 0 := by rw [h5, (bk1 0 (by omega)).1]
  have eN : at0 R' (2 * m) = at0 R' 0 := by have := mir 0 (by omega); simpa using this
  refine ⟨R'.take (m + 1), ⟨by rw [List.length_take]; omega, ?_, by rw [tk 0 (by omega)]; exact e0, fun j hj z => ?_, fun j hj z => ?_, fun k hk => ?_, fun c hc k hk => ?_, fun c hc k hk => ?_, fun q13 N M g k hk => ?_⟩, ?_⟩
  · rw [hm]
    exact (h2.upto (m := m + 1) (by omega)).congr fun k hk => ⟨(bk1 k (by omega)).1, (bk1 k (by omega)).2, (tk k hk).symm⟩
  · rw [tk _ (by omega), tk _ (by omega)] at z
    rw [tk _ (by omega)]
    have a := mir j (by omega)
    have := h2.up (j + 1) (by omega) (by omega) (by
      have e : 2 * m - j = j + 1 + 1 := by omega
      rw [e] at a
      rw [a, Nat.add_sub_cancel]
      grind)
    rw [this, (bk1 (j + 1) (by omega)).2]
  · rw [tk _ (by omega), tk _ (by omega)] at z
    rw [tk _ (by omega)]
    have a := mir j (by omega)
    have := h2.down (j + 1) (by omega) (by omega) (by
      have e : 2 * m - j = j + 1 + 1 := by omega
      rw [e] at a
      rw [a, Nat.add_sub_cancel]
      grind)
    rw [this, (bk1 (j + 1) (by omega)).1]
  · rw [List.length_take] at hk
    rw [tk k (by omega)]
    exact h4 k (by omega)
  · rw [tk k (by omega)]
    refine h2.most (fun i hi => ?_) ?_ ?_ k (by omega)
    · rw [(bk i (by omega)).1]; exact hc _ (ix i (by omega))
    · rw [e0]; exact hc 0 (by omega)
    · rw [Nat.add_sub_cancel, eN, e0]; exact hc 0 (by omega)
  · rw [tk k (by omega)]
    refine h2.fewest (fun i hi => ?_) ?_ ?_ k (by omega)
    · rw [(bk i (by omega)).2]; exact hc _ (ix i (by omega))
    · rw [e0, tied]; exact hc 0 (by omega)
    · rw [Nat.add_sub_cancel, eN, e0, tied]; exact hc 0 (by omega)
  · rw [List.length_take] at hk
    rw [tk k (by omega)]
    exact (h6 k (by omega)).gr (by omega) fun j hj => by
      rw [(bk j (by omega)).1, (bk j (by omega)).2]
      exact g _ (ix j (by omega))
  · have c1 : DL.cutD (Q.map pairD) none (some (-1)) = (Q.take m).map pairD := by
      rw [cut_but, List.length_map, hm, Nat.add_sub_cancel, List.map_take]
    have c2 : DL.cutD (R'.map numD) none (some ((m : Int) + 1)) = (R'.take (m + 1)).map numD := by
      have := cut_to (xs := R'.map numD) (k := m + 1)
      rw [show ((m + 1 : Nat) : Int) = (m : Int) + 1 by omega] at this
      rw [this, List.map_take]
    have ap : (Q ++ (Q.take m).reverse).map pairD = Q.map pairD ++ ((Q.take m).map pairD).reverse := by rw [List.map_append, List.map_reverse]
    rw [ap] at h3
    have l1 : bLen [.lst (Q.map pairD)] = some (.int ((m : Int) + 1)) := by simp [hm]
    have l2 : (Q.map pairD).length + ((Q.take m).map pairD).length ≤ 1000000 := by simp; omega
    generalize (R'.take (m + 1)).map numD = RR at *
    generalize R'.map numD = RL at *
    generalize ((Q.take m).map pairD) = QM at *
    generalize Q.map pairD = QL at *
    generalize (m : Int) + 1 = mi at *
    simp [m_to_loose_end, b_to_loose_end, runP, bList, c1, dRev, l2, cap, h3, l1, c2]
theorem at0_left' {R l : List Rat} {k : Nat} (h : k < R.length) : at0 (R ++ l) k = at0 R k := at0_left h
theorem at0_right' {R l : List Rat} {k : Nat} (h : R.length ≤ k) : at0 (R ++ l) k = at0 l (k - R.length) := by
  simp only [at0, List.getD_eq_getElem?_getD]
  rw [List.getElem?_append_right h]
theorem at0_rev {R : List Rat} {k : Nat} (h : k < R.length) : at0 R.reverse k = at0 R (R.length - 1 - k) := by
  simp only [at0, List.getD_eq_getElem?_getD]
  rw [List.getElem?_reverse h]
theorem at0_drop {R : List Rat} {m k : Nat} : at0 (R.drop m) k = at0 R (m + k) := by
  simp [at0, List.getElem?_drop]
theorem at0_rep {c : Rat} {m k : Nat} (h : k < m) : at0 (List.replicate m c) k = c := by
  simp [at0, h]
theorem told_level {b : Bool} {T : List (Rat × Rat)} {top bot : Rat} (B : TopBot T top bot) (h : top ≤ bot) : Told b (loT T) (hiT T) (at0 (List.replicate T.length top)) T.length := by
  have c : Told b (loT T) (hiT T) (fun _ => top) T.length := ⟨Bent.const fun k hk => ⟨B.t2 k hk, Rat.le_trans h (B.b2 k hk)⟩, fun c hc k hk => by
    obtain ⟨i, hi, e⟩ := B.t1
    rw [e]
    exact (hc i hi).1⟩
  exact c.congr fun k hk => ⟨rfl, rfl, (at0_rep hk).symm⟩
/-- the places, the held ones tied -/
def placesT (T : List (Rat × Rat)) (top bot : Rat) : List (Rat × Rat) := (List.range T.length).map fun k => if isH T top bot k = true then (tieQ T top bot k, tieQ T top bot k) else (loT T k, hiT T k)
section
variable {T : List (Rat × Rat)} {top bot : Rat} {b : Nat}
theorem places_len : (placesT T top bot).length = T.length := by simp [placesT]
theorem places_at {k : Nat} (h : k < T.length) : loT (placesT T top bot) k = (if isH T top bot k = true then tieQ T top bot k else loT T k) ∧ hiT (placesT T top bot) k = (if isH T top bot k = true then tieQ T top bot k else hiT T k) := by
  unfold placesT
  have e : ((List.range T.length).map fun k => if isH T top bot k = true then (tieQ T top bot k, tieQ T top bot k) else (loT T k, hiT T k)).getD k (0, 0) = if isH T top bot k = true then (tieQ T top bot k, tieQ T top bot k) else (loT T k, hiT T k) := by
    simp [h]
  have e1 : ∀ L : List (Rat × Rat), loT L k = (L.getD k (0, 0)).1 := fun _ => rfl
  have e2 : ∀ L : List (Rat × Rat), hiT L k = (L.getD k (0, 0)).2 := fun _ => rfl
  rw [e1 (List.map _ _), e2 (List.map _ _), e]
  by_cases c : isH T top bot k = true
  · rw [if_pos c, if_pos c, if_pos c]; exact ⟨rfl, rfl⟩
  · rw [if_neg c, if_neg c, if_neg c]; exact ⟨rfl, rfl⟩
theorem tie_is {k : Nat} (h : isH T top bot k = true) : (loT T k = top ∧ tieQ T top bot k = top) ∨ (loT T k ≠ top ∧ hiT T k = bot ∧ tieQ T top bot k = bot) := by
  have h' := of_decide_eq_true h
  unfold tieQ
  by_cases c : loT T k = top
  · rw [if_pos c]; exact .inl ⟨c, rfl⟩
  · rw [if_neg c]
    rcases h' with h' | h'
    · exact absurd h' c
    · exact .inr ⟨c, h', rfl⟩
theorem places_ok (t : TubeOk b T) (B : TopBot T top bot) (lt : bot < top) {k : Nat} (hk : k < T.length) :
    loT T k ≤ loT (placesT T top bot) k ∧ hiT (placesT T top bot) k ≤ hiT T k ∧ loT (placesT T top bot) k ≤ hiT (placesT T top bot) k ∧ loT (placesT T top bot) k ≤ top ∧ bot ≤ hiT (placesT T top bot) k ∧ Sz b (loT (placesT T top bot) k) ∧ Sz b (hiT (placesT T top bot) k) := by
  obtain ⟨e1, e2⟩ := places_at (top := top) (bot := bot) hk
  obtain ⟨s1, s2⟩ := B.sz t
  have o := t.ok k hk
  have a1 := B.t2 k hk
  have a2 := B.b2 k hk
  rw [e1, e2]
  by_cases c : isH T top bot k = true
  · rw [if_pos c, if_pos c]
    rcases tie_is c with ⟨h1, h2⟩ | ⟨h0, h1, h2⟩
    · rw [h2]
      exact ⟨by grind, by grind, Rat.le_refl, Rat.le_refl, by grind, s1, s1⟩
    · rw [h2]
      exact ⟨by grind, by grind, Rat.le_refl, by grind, Rat.le_refl, s2, s2⟩
  · rw [if_neg c, if_neg c]
    exact ⟨Rat.le_refl, Rat.le_refl, o, a1, a2, (t.sz k hk).1, (t.sz k hk).2⟩
theorem held_tie {k : Nat} (hk : k < T.length) (c : isH T top bot k = true) : loT (placesT T top bot) k = hiT (placesT T top bot) k := by
  obtain ⟨e1, e2⟩ := places_at (top := top) (bot := bot) hk
  rw [e1, e2, if_pos c, if_pos c]
/-- the first and last held places -/
theorem held_ends (B : TopBot T top bot) : ∃ f l : Nat, f ≤ l ∧ l < T.length ∧ isH T top bot f = true ∧ isH T top bot l = true ∧ (∀ k, k < T.length → isH T top bot k = true → f ≤ k ∧ k ≤ l) ∧
    (intKeys (heldX T top bot T.length)).bind leastI = some (f : Int) ∧ (intKeys (heldX T top bot T.length)).bind greatI = some (l : Int) := by
  have ik : intKeys (heldX T top bot T.length) = some (((List.range T.length).filter (isH T top bot)).map fun (j : Nat) => (j : Int)) := intKeys_map' _ _
  obtain ⟨k, hk, e⟩ := B.t1
  have hm : k ∈ (List.range T.length).filter (isH T top bot) := List.mem_filter.mpr ⟨List.mem_range.mpr hk, decide_eq_true (.inl e.symm)⟩
  rw [ik]
  have sp : ∀ j : Nat, j ∈ (List.range T.length).filter (isH T top bot) ↔ j < T.length ∧ isH T top bot j = true := fun j => by rw [List.mem_filter, List.mem_range]
  generalize (List.range T.length).filter (isH T top bot) = L at *
  cases L with
  | nil => simp at hm
  | cons x r =>
    obtain ⟨a1, a2⟩ := foldl_min (r.map fun (j : Nat) => (j : Int)) (x : Int)
    obtain ⟨c1, c2⟩ := foldl_max (r.map fun (j : Nat) => (j : Int)) (x : Int)
    rw [← List.map_cons (f := fun (j : Nat) => (j : Int)) (a := x) (l := r)] at a1 a2 c1 c2
    obtain ⟨f, hf, ef⟩ := List.mem_map.mp a1
    obtain ⟨l, hl, el⟩ := List.mem_map.mp c1
    have f1 := (sp f).mp hf
    have l1 := (sp l).mp hl
    have fl : ∀ j : Nat, j ∈ x :: r → f ≤ j ∧ j ≤ l := fun j hj => by
      have p1 := a2 (j : Int) (List.mem_map.mpr ⟨j, hj, rfl⟩)
      have p2 := c2 (j : Int) (List.mem_map.mpr ⟨j, hj, rfl⟩)
      omega
    refine ⟨f, l, (fl l hl).1, l1.1, f1.2, l1.2, fun j hj h => fl j ((sp j).mpr ⟨hj, h⟩), ?_, ?_⟩
    · show some _ = _
      rw [ef] <;> rfl
    · show some _ = _
      rw [el] <;> rfl
end
end Gn
/-! ### loose_cord -/
namespace Gn
open PySem PySem.Spec PyProof.Rows L2 DL Tt
theorem mulT_rept {d : D} {m : Nat} (h : 2 ≤ m) (h2 : m ≤ 1000) : dMulT (.tup [d]) (.int (m : Int)) = some (.tup (List.replicate m d)) := by
  unfold dMulT
  have e : (List.replicate m [d]).flatten = List.replicate m d := by
    clear h h2
    induction m with
    | zero => rfl
    | succ m ih => rw [List.replicate_succ, List.flatten_cons, ih, List.replicate_succ]; rfl
  simp only []
  rw [if_neg (by omega)]
  simp only [dMul]
  simp [cap, e]
  omega
theorem c_loose_cord {T : List (Rat × Rat)} {b : Nat} (t : TubeOk b T) (hb : b ≤ 1000) : ∃ R : List Rat, R.length = T.length ∧ Told false (loT T) (hiT T) (at0 R) T.length ∧ (∀ k, k < R.length → Sz (3 * b + 19) (at0 R k)) ∧ m_loose_cord [tubeX T] = some (rowX R) ∧ (T.length ≤ 13 → ∀ N M : Nat, (∀ k, k < T.length → Gr N M (loT T k) ∧ Gr N M (hiT T k)) → ∀ k, k < R.length → Gr (N * L25) (51 * M) (at0 R k)) := by
  have n2 := t.n2
  have n25 := t.n25
  obtain ⟨top, bot, B⟩ := c_topbot t (by omega)
  have cl := c_level t (by omega) B
  have ct := c_check_tube t (by omega)
  have bl : bLen [tubeX T] = some (.int (T.length : Int)) := by simp [tubeX]
  by_cases lt : bot < top
  · rw [if_pos lt] at cl
    have ch := c_held t B
    obtain ⟨f, l, fl, ln, hf, hl, held, kmin, kmax⟩ := held_ends B
    have pok := fun k (hk : k < T.length) => places_ok t B lt hk
    have ptie := fun k (hk : k < T.length) (h : isH T top bot k = true) => held_tie (T := T) (top := top) (bot := bot) hk h
    have pat := fun k (hk : k < T.length) => places_at (T := T) (top := top) (bot := bot) hk
    have pl := places_len (T := T) (top := top) (bot := bot)
    -- the places
    have lc := lcD_pure (g := gN 9) (fe := eGetD 2 (eVar 9) (e2 dIx (eVar 0) (eVar 9))) (own := [9]) (s := [.val (tubeX T), .val .non, .dct (heldX T top bot T.length), .val (.int (f : Int)), .val (.int (l : Int)), .un, .un, .un, .un, .un])
      (fun (k : Nat) => D.int (k : Int)) (fun k => pairD (if isH T top bot k = true then (tieQ T top bot k, tieQ T top bot k) else (loT T k, hiT T k))) (List.range T.length) (fun k hk => ⟨_, rfl, by
        have hk := List.mem_range.mp hk
        have i0 : dIx (tubeX T) (.int (k : Int)) = some (pairD (loT T k, hiT T k)) := ((tubeX_seq T).ix k).trans (tube_at hk)
        have lk := lookK_map (fun k => pairD (tieQ T top bot k, tieQ T top bot k)) k ((List.range T.length).filter (isH T top bot))
        have lk2 : lookK (heldX T top bot T.length) (.inl (k : Int)) = if isH T top bot k = true then some (pairD (tieQ T top bot k, tieQ T top bot k)) else none := by
          unfold heldX
          rw [lk]
          by_cases c : isH T top bot k = true
          · rw [if_pos c, if_pos (List.mem_filter.mpr ⟨List.mem_range.mpr hk, c⟩)]
          · rw [if_neg c, if_neg (fun z => c (List.mem_filter.mp z).2)]
        generalize heldX T top bot T.length = HX at *
        generalize tubeX T = X at *
        generalize (k : Int) = ki at *
        by_cases c : isH T top bot k = true
        · simp [i0, lk2, c]
        · simp [i0, lk2, c], rfl⟩) (by rw [List.length_range]; unfold cap; omega)
    have pm : ((List.range T.length).map fun k => pairD (if isH T top bot k = true then (tieQ T top bot k, tieQ T top bot k) else (loT T k, hiT T k))) = (placesT T top bot).map pairD := by
      unfold placesT
      rw [List.map_map]
      rfl
    rw [pm] at lc
    have rg : ∀ st : S, DL.iRng1 (aCons (eCall bLen (aCons (eVar 0) (aNil))) (aNil)) (.val (tubeX T) :: st) = some ((List.range T.length).map fun (k : Nat) => D.int (k : Int), .val (tubeX T) :: st) := fun st => by
      rw [rng1_ok T.length (by omega) (s' := .val (tubeX T) :: st) (by simp [bl])]
      simp [rangeD]
    generalize hP : placesT T top bot = P at *
    -- the three parts
    have gA : ∀ j, j ≤ f → loT (P.take (f + 1)).reverse j = loT P (f - j) ∧ hiT (P.take (f + 1)).reverse j = hiT P (f - j) := fun j hj => loT_get (by
      simp only [List.getD_eq_getElem?_getD]
      have e : (P.take (f + 1)).length = f + 1 := by rw [List.length_take]; omega
      rw [List.getElem?_reverse (by omega), e, List.getElem?_take, if_pos (by omega)]
      congr 2)
    have gB : ∀ j, j ≤ l - f → loT ((P.take (l + 1)).drop f) j = loT P (f + j) ∧ hiT ((P.take (l + 1)).drop f) j = hiT P (f + j) := fun j hj => loT_get (by
      simp only [List.getD_eq_getElem?_getD]
      rw [List.getElem?_drop, List.getElem?_take, if_pos (by omega)])
    have gC : ∀ j, loT (P.drop l) j = loT P (l + j) ∧ hiT (P.drop l) j = hiT P (l + j) := fun j => loT_get (by
      simp only [List.getD_eq_getElem?_getD]
      rw [List.getElem?_drop])
    have lA : (P.take (f + 1)).reverse.length = f + 1 := by rw [List.length_reverse, List.length_take]; omega
    have lB : ((P.take (l + 1)).drop f).length = l - f + 1 := by rw [List.length_drop, List.length_take]; omega
    have lC : (P.drop l).length = T.length - l := by rw [List.length_drop]; omega
    obtain ⟨RA, hA, eA⟩ := c_looseEnd (Q := (P.take (f + 1)).reverse) (b := b) (by omega) (by omega) (fun k hk => by
      rw [(gA k (by omega)).1, (gA k (by omega)).2]; exact (pok (f - k) (by omega)).2.2.2.2.2) hb (fun k hk => by
      rw [(gA k (by omega)).1, (gA k (by omega)).2]; exact (pok (f - k) (by omega)).2.2.1) (by
      rw [(gA 0 (by omega)).1, (gA 0 (by omega)).2]; exact ptie _ (by omega) hf)
    obtain ⟨RB, b1, b2, b3, b4, b5, b6⟩ := c_drawn (X := .lst (((P.take (l + 1)).drop f).map pairD)) (T := (P.take (l + 1)).drop f) (b := b) (.inr rfl) (by omega) (by omega) (fun k hk => by
      rw [(gB k (by omega)).1, (gB k (by omega)).2]; exact (pok (f + k) (by omega)).2.2.2.2.2) hb (fun k hk => by
      rw [(gB k (by omega)).1, (gB k (by omega)).2]; exact (pok (f + k) (by omega)).2.2.1) (by
      rw [lB, Nat.add_sub_cancel, (gB (l - f) (by omega)).1, (gB (l - f) (by omega)).2, show f + (l - f) = l by omega]; exact ptie l ln hl)
    obtain ⟨RC, hC, eC⟩ := c_looseEnd (Q := P.drop l) (b := b) (by omega) (by omega) (fun k hk => by
      rw [(gC k).1, (gC k).2]; exact (pok (l + k) (by omega)).2.2.2.2.2) hb (fun k hk => by
      rw [(gC k).1, (gC k).2]; exact (pok (l + k) (by omega)).2.2.1) (by
      rw [(gC 0).1, (gC 0).2]; exact ptie l ln hl)
    have nA := hA.len
    have nC := hC.len
    rw [lA] at nA
    rw [lC] at nC
    rw [lB] at b1 b2
    have lAr : (RA.reverse.take f).length = f := by rw [List.length_take, List.length_reverse]; omega
    have rlen : (RA.reverse.take f ++ RB ++ RC.drop 1).length = T.length := by
      simp only [List.length_append, lAr, b1, List.length_drop]; omega
    have a0 : at0 RA 0 = at0 RB 0 := by rw [hA.beg, b5, (gA 0 (by omega)).1, (gB 0 (by omega)).1]; simp
    have c0 : at0 RC 0 = at0 RB (l - f) := by
      have w := b2.within (l - f) (by omega)
      rw [(gB _ (Nat.le_refl _)).1, (gB _ (Nat.le_refl _)).2, show f + (l - f) = l by omega] at w
      have := ptie l ln hl
      have := hC.beg
      rw [(gC 0).1, Nat.add_zero] at this
      grind
    have rA : ∀ k, k ≤ f → at0 (RA.reverse.take f ++ RB ++ RC.drop 1) k = at0 RA (f - k) := fun k hk => by
      rw [List.append_assoc]
      by_cases c : k < f
      · rw [at0_left' (by omega), at0_take c, at0_rev (by omega), nA]
        congr 1
      · rw [at0_right' (by omega), lAr, at0_left' (by omega)]
        have : k = f := by omega
        subst this
        rw [Nat.sub_self, a0]
    have rB : ∀ k, f ≤ k → k ≤ l → at0 (RA.reverse.take f ++ RB ++ RC.drop 1) k = at0 RB (k - f) := fun k h1 h2 => by
      rw [List.append_assoc, at0_right' (by omega), lAr, at0_left' (by omega)]
    have rC : ∀ k, l ≤ k → k < T.length → at0 (RA.reverse.take f ++ RB ++ RC.drop 1) k = at0 RC (k - l) := fun k h1 h2 => by
      by_cases c : k = l
      · subst c
        rw [rB k fl (Nat.le_refl _), Nat.sub_self, c0]
      · rw [at0_right' (by rw [List.length_append]; omega), List.length_append, lAr, b1, at0_drop]
        congr 1
        omega
    have sA : ∀ k, k ≤ f → Sz (3 * b + 19) (at0 RA k) := fun k hk => hA.sz k (by omega)
    have sC : ∀ k, k < T.length - l → Sz (3 * b + 19) (at0 RC k) := fun k hk => hC.sz k (by omega)
    refine ⟨RA.reverse.take f ++ RB ++ RC.drop 1, rlen, ?_, fun k hk => ?_, ?_, fun n13 N M g k hk => ?_⟩
    · generalize hr : at0 (RA.reverse.take f ++ RB ++ RC.drop 1) = r at *
      have wP : ∀ k, k < T.length → (loT P k ≤ r k ∧ r k ≤ hiT P k) ∧ bot ≤ r k ∧ r k ≤ top := fun k hk => by
        by_cases c1 : k ≤ f
        · rw [rA k c1]
          have w := hA.taut.within (f - k) (by omega)
          rw [(gA _ (by omega)).1, (gA _ (by omega)).2, show f - (f - k) = k by omega] at w
          exact ⟨w, hA.few bot (fun j hj => by rw [(gA j (by omega)).2]; exact (pok _ (by omega)).2.2.2.2.1) _ (by omega), hA.most top (fun j hj => by rw [(gA j (by omega)).1]; exact (pok _ (by omega)).2.2.2.1) _ (by omega)⟩
        · by_cases c2 : k ≤ l
          · rw [rB k (by omega) c2]
            have w := b2.within (k - f) (by omega)
            rw [(gB _ (by omega)).1, (gB _ (by omega)).2, show f + (k - f) = k by omega] at w
            have w0 := b2.within 0 (by omega)
            have w1 := b2.within (l - f) (by omega)
            rw [(gB _ (by omega)).1, (gB _ (by omega)).2] at w0 w1
            rw [show f + (l - f) = l by omega] at w1
            rw [Nat.add_zero] at w0
            have t0 := ptie f (by omega) hf
            have t1 := ptie l ln hl
            have p0 := pok f (by omega)
            have p1 := pok l ln
            refine ⟨w, b2.fewest (fun j hj => by rw [(gB j (by omega)).2]; exact (pok _ (by omega)).2.2.2.2.1) ?_ ?_ _ (by omega), b2.most (fun j hj => by rw [(gB j (by omega)).1]; exact (pok _ (by omega)).2.2.2.1) ?_ ?_ _ (by omega)⟩
            · grind
            · rw [Nat.add_sub_cancel]; grind
            · grind
            · rw [Nat.add_sub_cancel]; grind
          · rw [rC k (by omega) hk]
            have w := hC.taut.within (k - l) (by omega)
            rw [(gC _).1, (gC _).2, show l + (k - l) = k by omega] at w
            exact ⟨w, hC.few bot (fun j hj => by rw [(gC j).2]; exact (pok _ (by omega)).2.2.2.2.1) _ (by omega), hC.most top (fun j hj => by rw [(gC j).1]; exact (pok _ (by omega)).2.2.2.1) _ (by omega)⟩
      obtain ⟨kt, hkt, et⟩ := B.t1
      obtain ⟨kb, hkb, eb⟩ := B.b1
      refine Told.join lt (fun k hk => ?_) (fun k hk => (wP k hk).2) ⟨kt, hkt, et.symm⟩ ⟨kb, hkb, eb.symm⟩ (fun k hk n1 n2 => ?_)
      · have := (wP k hk).1
        have := pok k hk
        constructor <;> grind
      · have nh : ¬ isH T top bot k = true := fun z => by
          rcases of_decide_eq_true z with z | z
          · exact n1 z
          · exact n2 z
        have kf : k ≠ f := fun z => nh (z ▸ hf)
        have kl : k ≠ l := fun z => nh (z ▸ hl)
        have pk := pat k hk
        rw [if_neg nh, if_neg nh] at pk
        rw [← pk.1, ← pk.2]
        have rk1 : ∀ (e : k + 1 < T.length), stp false r T.length (k + 1) = r (k + 1) - r k := fun e => stp_succ e
        have rk0 : ∀ (e : 0 < k), stp false r T.length k = r k - r (k - 1) := fun e => stp_in e hk
        by_cases c1 : k < f
        · rw [rk1 (by omega), rA k (by omega), rA (k + 1) (by omega)]
          by_cases k0 : 0 < k
          · rw [rk0 k0, rA k (by omega), rA (k - 1) (by omega)]
            have u := hA.taut.up (f - k) (by omega) (by omega)
            have d := hA.taut.down (f - k) (by omega) (by omega)
            rw [(gA _ (by omega)).1, show f - (f - k) = k by omega, show f - k - 1 = f - (k + 1) by omega, show f - k + 1 = f - (k - 1) by omega] at d
            rw [(gA _ (by omega)).2, show f - (f - k) = k by omega, show f - k - 1 = f - (k + 1) by omega, show f - k + 1 = f - (k - 1) by omega] at u
            exact ⟨fun z => u (by grind), fun z => d (by grind)⟩
          · have e : k = 0 := by omega
            subst e
            rw [stp_loose]
            have u := hA.endu (f - 1) (by omega)
            have d := hA.endd (f - 1) (by omega)
            rw [show f - 1 + 1 = f by omega, (gA f (by omega)).2, Nat.sub_self] at u
            rw [show f - 1 + 1 = f by omega, (gA f (by omega)).1, Nat.sub_self] at d
            rw [Nat.sub_zero, show f - (0 + 1) = f - 1 by omega]
            exact ⟨fun z => u (by grind), fun z => d (by grind)⟩
        · by_cases c2 : k < l
          · rw [rk1 (by omega), rk0 (by omega), rB k (by omega) (by omega), rB (k + 1) (by omega) (by omega), rB (k - 1) (by omega) (by omega)]
            have u := b2.up (k - f) (by omega) (by omega)
            have d := b2.down (k - f) (by omega) (by omega)
            rw [(gB _ (by omega)).1, show f + (k - f) = k by omega, show k - f - 1 = k - 1 - f by omega, show k - f + 1 = k + 1 - f by omega] at d
            rw [(gB _ (by omega)).2, show f + (k - f) = k by omega, show k - f - 1 = k - 1 - f by omega, show k - f + 1 = k + 1 - f by omega] at u
            exact ⟨u, d⟩
          · rw [rk0 (by omega), rC k (by omega) hk, rC (k - 1) (by omega) (by omega)]
            by_cases kn : k + 1 < T.length
            · rw [rk1 kn, rC k (by omega) hk, rC (k + 1) (by omega) kn]
              have u := hC.taut.up (k - l) (by omega) (by omega)
              have d := hC.taut.down (k - l) (by omega) (by omega)
              rw [(gC _).1, show l + (k - l) = k by omega, show k - l - 1 = k - 1 - l by omega, show k - l + 1 = k + 1 - l by omega] at d
              rw [(gC _).2, show l + (k - l) = k by omega, show k - l - 1 = k - 1 - l by omega, show k - l + 1 = k + 1 - l by omega] at u
              exact ⟨u, d⟩
            · rw [stp_end (k := k + 1) (by omega), stp_loose]
              have u := hC.endu (k - l - 1) (by omega)
              have d := hC.endd (k - l - 1) (by omega)
              rw [show k - l - 1 + 1 = k - l by omega, (gC _).2, show l + (k - l) = k by omega, show k - l - 1 = k - 1 - l by omega] at u
              rw [show k - l - 1 + 1 = k - l by omega, (gC _).1, show l + (k - l) = k by omega, show k - l - 1 = k - 1 - l by omega] at d
              exact ⟨fun z => u (by grind), fun z => d (by grind)⟩
    · rw [rlen] at hk
      by_cases c1 : k ≤ f
      · rw [rA k c1]; exact sA _ (by omega)
      · by_cases c2 : k ≤ l
        · rw [rB k (by omega) c2]; exact b4 _ (by omega)
        · rw [rC k (by omega) hk]; exact sC _ (by omega)
    · have p1 : DL.cutD (P.map pairD) none (some ((f : Int) + 1)) = (P.take (f + 1)).map pairD := by
        have := cut_to (xs := P.map pairD) (k := f + 1)
        rw [show ((f + 1 : Nat) : Int) = (f : Int) + 1 by omega] at this
        rw [this, List.map_take]
      have p2 : DL.cutD (P.map pairD) (some (f : Int)) (some ((l : Int) + 1)) = ((P.take (l + 1)).drop f).map pairD := by
        have := cut_nn (xs := P.map pairD) (j := f) (k := l + 1)
        rw [show ((l + 1 : Nat) : Int) = (l : Int) + 1 by omega] at this
        rw [this, List.map_drop, List.map_take]
      have p3 : DL.cutD (P.map pairD) (some (l : Int)) none = (P.drop l).map pairD := by
        rw [cut_from, List.map_drop]
      have p4 : dRev (.lst ((P.take (f + 1)).map pairD)) = some (.lst ((P.take (f + 1)).reverse.map pairD)) := by
        simp only [dRev, List.map_reverse]
      have p5 : dRev (.lst (RA.map numD)) = some (.lst (RA.reverse.map numD)) := by simp only [dRev, List.map_reverse]
      have p6 : DL.cutD (RA.reverse.map numD) none (some (-1)) = (RA.reverse.take f).map numD := by
        rw [cut_but, List.length_map, List.length_reverse, nA, Nat.add_sub_cancel, List.map_take]
      have p7 : DL.cutD (RC.map numD) (some 1) none = (RC.drop 1).map numD := by
        have := cut_from (xs := RC.map numD) (k := 1)
        rw [show ((1 : Nat) : Int) = 1 from rfl] at this
        rw [this, List.map_drop]
      have q1 : ((RA.reverse.take f).map numD).length + (RB.map numD).length ≤ 1000000 := by
        rw [List.length_map, List.length_map, lAr, b1]; omega
      have q2 : ((RA.reverse.take f).map numD).length + ((RB.map numD).length + ((RC.drop 1).map numD).length) ≤ 1000000 := by
        rw [List.length_map, List.length_map, List.length_map, lAr, b1, List.length_drop]; omega
      have out : rowX (RA.reverse.take f ++ RB ++ RC.drop 1) = .tup ((RA.reverse.take f).map numD ++ RB.map numD ++ (RC.drop 1).map numD) := by
        unfold rowX
        rw [List.map_append, List.map_append]
      rw [out]
      generalize (RA.reverse.take f).map numD = W1 at *
      generalize (RC.drop 1).map numD = W3 at *
      generalize RB.map numD = W2 at *
      generalize RA.reverse.map numD = V1 at *
      generalize RA.map numD = V0 at *
      generalize RC.map numD = V3 at *
      generalize (P.take (f + 1)).reverse.map pairD = U1 at *
      generalize (P.take (f + 1)).map pairD = U0 at *
      generalize ((P.take (l + 1)).drop f).map pairD = U2 at *
      generalize (P.drop l).map pairD = U3 at *
      generalize P.map pairD = PP at *
      generalize (List.range T.length).map (fun (k : Nat) => D.int (k : Int)) = RG at *
      generalize heldX T top bot T.length = HX at *
      generalize tubeX T = X at *
      generalize (f : Int) = fi at *
      generalize (l : Int) = li at *
      simp [m_loose_cord, b_loose_cord, runP, ct, cl, dNotN, ch, kmin, kmax, rg, lc, p1, p4, eA, p5, p2, b3, bList, p3, eC, p6, p7, q1, q2, cap, bTuple, Nat.add_assoc]
    · rw [rlen] at hk
      have gP : ∀ j, j < T.length → Gr N M (loT P j) ∧ Gr N M (hiT P j) := fun j hj => by
        rw [(pat j hj).1, (pat j hj).2]
        by_cases c : isH T top bot j = true
        · rw [if_pos c, if_pos c]
          rcases tie_is c with ⟨h1, h2⟩ | ⟨h0, h1, h2⟩
          · rw [h2, ← h1]; exact ⟨(g j hj).1, (g j hj).1⟩
          · rw [h2, ← h1]; exact ⟨(g j hj).2, (g j hj).2⟩
        · rw [if_neg c, if_neg c]; exact g j hj
      by_cases c1 : k ≤ f
      · rw [rA k c1]
        exact hA.gr (by omega) N M (fun j hj => by rw [(gA j (by omega)).1, (gA j (by omega)).2]; exact gP _ (by omega)) _ (by omega)
      · by_cases c2 : k ≤ l
        · rw [rB k (by omega) c2]
          exact (b6 _ (by omega)).gr (by omega) (fun j hj => by rw [(gB j (by omega)).1, (gB j (by omega)).2]; exact gP _ (by omega))
        · rw [rC k (by omega) hk]
          exact hC.gr (by omega) N M (fun j hj => by rw [(gC j).1, (gC j).2]; exact gP _ (by omega)) _ (by omega)
  · rw [if_neg lt] at cl
    refine ⟨List.replicate T.length top, by simp, told_level B (by grind), fun k hk => ?_, ?_, fun n13 N M g k hk => ?_⟩
    · rw [at0_rep (by simpa using hk)]
      exact (B.sz t).1.mono (by omega)
    · have mt := mulT_rept (d := numD top) n2 (by omega)
      have out : rowX (List.replicate T.length top) = .tup (List.replicate T.length (numD top)) := by
        unfold rowX
        rw [List.map_replicate]
      rw [out]
      generalize List.replicate T.length (numD top) = RR at *
      generalize tubeX T = X at *
      generalize (T.length : Int) = ni at *
      simp [m_loose_cord, b_loose_cord, runP, ct, cl, numD, dNotN, cap, bl] at mt ⊢
      simp [mt]
    · rw [at0_rep (by simpa using hk)]
      obtain ⟨i, hi, e⟩ := B.t1
      rw [e]
      exact (g i hi).1.mono ⟨L25, rfl⟩ (by omega)
end Gn
/-! ### ring_cord -/
namespace Gn
open PySem PySem.Spec PyProof.Rows L2 DL Tt
theorem first_num {q : Rat} : ∀ (L : List Rat) (k : Nat), q ∈ L → ∃ c, c < L.length ∧ at0 L c = q ∧ firstD (numD q) (L.map numD) k = some (k + c)
  | [], k, h => by simp at h
  | x :: L, k, h => by
    rw [List.map_cons, firstD, eqD_numD]
    by_cases e : x = q
    · exact ⟨0, by simp, by simp [at0, e], by simp [e]⟩
    · have h2 : q ∈ L := by
        rcases List.mem_cons.mp h with z | z
        · exact absurd z.symm e
        · exact z
      obtain ⟨c, h1, h3, h4⟩ := first_num L (k + 1) h2
      refine ⟨c + 1, by simp; omega, by simpa [at0] using h3, ?_⟩
      rw [if_neg (by simp [e]), h4, show k + 1 + c = k + (c + 1) by omega]
theorem c_is_ring {T : List (Rat × Rat)} {b : Nat} (t : TubeOk b T) (hb : b ≤ 4000) (n3 : 3 ≤ T.length) (n24 : T.length ≤ 24) : m_check_ring [tubeX T] = some .non := by
  have it := c_is_tube t hb
  have bl : bLen [tubeX T] = some (.int (T.length : Int)) := by simp [tubeX]
  have c1 : (3 : Int) ≤ (T.length : Int) := by omega
  have c2 : (T.length : Int) < 25 := by omega
  generalize tubeX T = X at *
  generalize (T.length : Int) = n at *
  simp [m_check_ring, b_check_ring, runP, m_is_ring, b_is_ring, it, bl, k_LEAST_RING_rings, k_MOST_PLACES_tubes, c1, c2]
theorem c_ring_cord {T : List (Rat × Rat)} {b : Nat} (t : TubeOk b T) (n3 : 3 ≤ T.length) (n24 : T.length ≤ 24) (hb : b ≤ 1000) : ∃ R : List Rat, R.length = T.length ∧ Told true (loT T) (hiT T) (at0 R) T.length ∧ (∀ k, k < R.length → Sz (3 * b + 19) (at0 R k)) ∧ m_ring_cord [tubeX T] = some (rowX R) ∧ (∀ N M : Nat, (∀ k, k < T.length → Gr N M (loT T k) ∧ Gr N M (hiT T k)) → ∀ k, k < R.length → Gr (N * L25) (51 * M) (at0 R k)) := by
  obtain ⟨top, bot, B⟩ := c_topbot t (by omega)
  have cl := c_level t (by omega) B
  have ct := c_is_ring t (by omega) n3 n24
  have bl : bLen [tubeX T] = some (.int (T.length : Int)) := by simp [tubeX]
  by_cases lt : bot < top
  · rw [if_pos lt] at cl
    obtain ⟨n, hn⟩ : ∃ n, T.length = n := ⟨_, rfl⟩
    have lc1 := lcD_map (g := gTup (gsCons (gN 6) (gsCons (gN 7) (gsNil)))) (fe := eVar 6) (own := [6, 7]) (s := [.val (tubeX T), .val .non, .un, .un, .un, .un, .un, .un]) pairD (fun p => numD p.1) T (fun p hp => ⟨_, _, rfl, rfl, rfl⟩) (by unfold cap; omega)
    have lc2 := lcD_map (g := gTup (gsCons (gN 6) (gsCons (gN 7) (gsNil)))) (fe := eVar 6) (own := [6, 7]) (s := [.val (tubeX T), .val .non, .val (numD top), .un, .un, .un, .un, .un]) pairD (fun p => numD p.1) T (fun p hp => ⟨_, _, rfl, rfl, rfl⟩) (by unfold cap; omega)
    obtain ⟨k0, hk0, e0⟩ := B.t1
    obtain ⟨c, hc, ec, fd⟩ := first_num (q := top) (lows T) 0 (by
      rw [e0, ← lows_at hk0, at0_get (by rw [lows_len]; exact hk0)]
      exact List.getElem_mem _)
    rw [lows_len] at hc
    rw [lows_at hc] at ec
    rw [Nat.zero_add] at fd
    have dx : dIndex (.lst ((lows T).map numD)) (numD top) = some (.int (c : Int)) := by
      have o1 : okD 60 (.lst ((lows T).map numD)) = true := okL_mono (n := 1) (by decide) (Eqn.num.okL (lows T))
      have o2 : okD 60 (numD top) = true := (Eqn.num.mono (m := 60) (by decide)).ok top
      simp only [dIndex, o1, o2, and_self, if_true]
      rw [fd]
      rfl
    rw [hn] at hc
    obtain ⟨M, hM⟩ : ∃ M, M = (top, top) :: ((T.drop c ++ T.take c).drop 1 ++ [(top, top)]) := ⟨_, rfl⟩
    have lR : (T.drop c ++ T.take c).length = n := by simp; omega
    have lM : M.length = n + 1 := by rw [hM, List.length_cons, List.length_append, List.length_drop, lR]; simp; omega
    have gM : ∀ j, 0 < j → j < n → loT M j = loT T (if c + j < n then c + j else c + j - n) ∧ hiT M j = hiT T (if c + j < n then c + j else c + j - n) := fun j j0 jn => loT_get (by
      rw [hM]
      obtain ⟨i, rfl⟩ : ∃ i, j = i + 1 := ⟨j - 1, by omega⟩
      simp only [List.getD_eq_getElem?_getD]
      rw [List.getElem?_cons_succ, List.getElem?_append_left (by rw [List.length_drop, lR]; omega), List.getElem?_drop]
      by_cases z : c + (i + 1) < n
      · rw [if_pos z, List.getElem?_append_left (by rw [List.length_drop]; omega), List.getElem?_drop]
        congr 2
        omega
      · rw [if_neg z, List.getElem?_append_right (by rw [List.length_drop]; omega), List.length_drop, List.getElem?_take, if_pos (by omega)]
        congr 2
        omega)
    have g0 : loT M 0 = top ∧ hiT M 0 = top := by rw [hM]; exact ⟨rfl, rfl⟩
    have gEnd : loT M n = top ∧ hiT M n = top := by
      obtain ⟨i, rfl⟩ : ∃ i, n = i + 1 := ⟨n - 1, by omega⟩
      have e : M.getD (i + 1) (0, 0) = (top, top) := by
        rw [hM]
        simp only [List.getD_eq_getElem?_getD]
        rw [List.getElem?_cons_succ, List.getElem?_append_right (by rw [List.length_drop, lR]; omega), List.length_drop, lR]
        simp
      unfold loT hiT
      rw [e]
      exact ⟨rfl, rfl⟩
    obtain ⟨s1, s2⟩ := B.sz t
    have ixl : ∀ j, j < n → (if c + j < n then c + j else c + j - n) < n := fun j hj => by split <;> omega
    have all : ∀ j, j < n + 1 → Sz b (loT M j) ∧ Sz b (hiT M j) ∧ loT M j ≤ hiT M j ∧ loT M j ≤ top ∧ bot ≤ hiT M j := fun j hj => by
      by_cases z : j = 0
      · subst z; rw [g0.1, g0.2]; exact ⟨s1, s1, Rat.le_refl, Rat.le_refl, by grind⟩
      · by_cases z2 : j = n
        · subst z2; rw [gEnd.1, gEnd.2]; exact ⟨s1, s1, Rat.le_refl, Rat.le_refl, by grind⟩
        · rw [(gM j (by omega) (by omega)).1, (gM j (by omega) (by omega)).2]
          have := ixl j (by omega)
          exact ⟨(t.sz _ (by omega)).1, (t.sz _ (by omega)).2, t.ok _ (by omega), B.t2 _ (by omega), B.b2 _ (by omega)⟩
    obtain ⟨R', b1, b2, b3, b4, b5, b6⟩ := c_drawn (X := .lst (M.map pairD)) (T := M) (b := b) (.inr rfl) (by omega) (by omega) (fun k hk => ⟨(all k (by omega)).1, (all k (by omega)).2.1⟩) hb (fun k hk => (all k (by omega)).2.2.1) (by rw [lM, Nat.add_sub_cancel, gEnd.1, gEnd.2])
    rw [lM] at b1 b2
    rw [g0.1] at b5
    have bn : at0 R' n = top := by
      have := b2.within n (by omega)
      rw [gEnd.1, gEnd.2] at this
      grind
    have mo := b2.most (c := top) (fun k hk => (all k hk).2.2.2.1) (by rw [b5]; exact Rat.le_refl) (by rw [Nat.add_sub_cancel, bn]; exact Rat.le_refl)
    have fe := b2.fewest (c := bot) (fun k hk => (all k hk).2.2.2.2) (by rw [b5]; grind) (by rw [Nat.add_sub_cancel, bn]; grind)
    have rlen : ((R'.take n).drop (n - c) ++ (R'.take n).take (n - c)).length = n := by
      simp only [List.length_append, List.length_drop, List.length_take]; omega
    have rat : ∀ k, k < n → at0 ((R'.take n).drop (n - c) ++ (R'.take n).take (n - c)) k = at0 R' (if k < c then n - c + k else k - c) := fun k hk => by
      have ld : ((R'.take n).drop (n - c)).length = c := by rw [List.length_drop, List.length_take]; omega
      by_cases z : k < c
      · rw [if_pos z, at0_left' (by omega), at0_drop, at0_take (by omega)]
      · rw [if_neg z, at0_right' (by omega), ld, at0_take (by omega), at0_take (by omega)]
    refine ⟨(R'.take n).drop (n - c) ++ (R'.take n).take (n - c), rlen.trans hn.symm, ?_, fun k hk => ?_, ?_, fun N G g k hk => ?_⟩
    · generalize at0 ((R'.take n).drop (n - c) ++ (R'.take n).take (n - c)) = r at *
      rw [hn]
      have hlo : ∀ k, k < n → k ≠ c → loT M (if k < c then n - c + k else k - c) = loT T k ∧ hiT M (if k < c then n - c + k else k - c) = hiT T k := fun k hk kc => by
        have h := gM (if k < c then n - c + k else k - c) (by split <;> omega) (by split <;> omega)
        have e : (if c + (if k < c then n - c + k else k - c) < n then c + (if k < c then n - c + k else k - c) else c + (if k < c then n - c + k else k - c) - n) = k := by
          by_cases z : k < c
          · rw [if_pos z, if_neg (by omega)]; omega
          · rw [if_neg z, if_pos (by omega)]; omega
        rw [e] at h
        exact h
      obtain ⟨kb, hkb, eb⟩ := B.b1
      refine Told.join lt (fun k hk => ?_) (fun k hk => ?_) ⟨k0, by omega, e0.symm⟩ ⟨kb, by omega, eb.symm⟩ (fun k hk n1 n2 => ?_)
      · rw [rat k hk]
        by_cases z : k = c
        · subst z
          rw [if_neg (by omega), Nat.sub_self, b5]
          have := t.ok k (by omega)
          rw [ec] at this ⊢
          exact ⟨Rat.le_refl, this⟩
        · have w := b2.within (if k < c then n - c + k else k - c) (by split <;> omega)
          rwa [(hlo k hk z).1, (hlo k hk z).2] at w
      · rw [rat k hk]
        exact ⟨fe _ (by split <;> omega), mo _ (by split <;> omega)⟩
      · have kc : k ≠ c := fun z => n1 (z ▸ ec)
        have u := b2.up (if k < c then n - c + k else k - c) (by split <;> omega) (by split <;> omega)
        have d := b2.down (if k < c then n - c + k else k - c) (by split <;> omega) (by split <;> omega)
        rw [(hlo k hk kc).2] at u
        rw [(hlo k hk kc).1] at d
        have e1 : stp true r n k = at0 R' (if k < c then n - c + k else k - c) - at0 R' ((if k < c then n - c + k else k - c) - 1) := by
          by_cases z : 0 < k
          · rw [stp_in z hk, rat k hk, rat (k - 1) (by omega)]
            congr 2
            by_cases z2 : k < c
            · rw [if_pos z2, if_pos (by omega)]; omega
            · rw [if_neg z2, if_neg (by omega)]; omega
          · have : k = 0 := by omega
            subst this
            rw [stp_ring, rat 0 hk, rat (n - 1) (by omega), if_pos (by omega), if_neg (by omega)]
            congr 2
            omega
        have e2 : stp true r n (k + 1) = at0 R' ((if k < c then n - c + k else k - c) + 1) - at0 R' (if k < c then n - c + k else k - c) := by
          by_cases z : k + 1 < n
          · rw [stp_succ z, rat k hk, rat (k + 1) z]
            congr 1
            by_cases z2 : k < c
            · rw [if_pos z2]
              by_cases z3 : k + 1 < c
              · rw [if_pos z3]; congr 1
              · have z4 : k + 1 = c := by omega
                rw [if_neg z3, z4, Nat.sub_self, b5, show n - c + k + 1 = n by omega, bn]
            · rw [if_neg z2, if_neg (by omega)]; congr 1; omega
          · have z4 : k = n - 1 := by omega
            rw [stp_end (k := k + 1) (by omega), stp_ring, ← z4, rat k hk, rat 0 (by omega), if_neg (show ¬ k < c by omega)]
            congr 1
            by_cases z2 : 0 < c
            · rw [if_pos z2]; congr 1; omega
            · have z5 : c = 0 := by omega
              rw [if_neg z2, z5, Nat.sub_zero, Nat.sub_zero, b5, show k + 1 = n by omega, bn]
        rw [rat k hk, e1, e2]
        exact ⟨u, d⟩
    · rw [rlen] at hk
      rw [rat k hk]
      exact b4 _ (by rw [b1]; split <;> omega)
    · have gr := B.gr
      rw [lows_map] at gr dx
      have it : items (tubeX T) = some (T.map pairD) := rfl
      have p1 : dCut (tubeX T) (some (c : Int)) none = some (.tup ((T.drop c).map pairD)) := by
        unfold tubeX
        rw [v_dCutT, cut_from, List.map_drop]
      have p2 : dCut (tubeX T) none (some (c : Int)) = some (.tup ((T.take c).map pairD)) := by
        unfold tubeX
        rw [v_dCutT, cut_to, List.map_take]
      have p3 : DL.cutD ((T.drop c).map pairD ++ (T.take c).map pairD) (some 1) none = ((T.drop c ++ T.take c).drop 1).map pairD := by
        have := cut_from (xs := (T.drop c).map pairD ++ (T.take c).map pairD) (k := 1)
        rw [show ((1 : Nat) : Int) = 1 from rfl] at this
        rw [this, ← List.map_append, List.map_drop]
      have mm : M.map pairD = .tup [numD top, numD top] :: (((T.drop c ++ T.take c).drop 1).map pairD ++ [.tup [numD top, numD top]]) := by
        rw [hM, List.map_cons, List.map_append]
        rfl
      rw [mm] at b3
      have p4 : DL.cutD (R'.map numD) none (some (-1)) = (R'.take n).map numD := by
        rw [cut_but, List.length_map, b1, Nat.add_sub_cancel, List.map_take]
      have p5 : DL.cutD ((R'.take n).map numD) (some ((n : Int) - (c : Int))) none = ((R'.take n).drop (n - c)).map numD := by
        rw [show (n : Int) - (c : Int) = ((n - c : Nat) : Int) by omega, cut_from, List.map_drop]
      have p6 : DL.cutD ((R'.take n).map numD) none (some ((n : Int) - (c : Int))) = ((R'.take n).take (n - c)).map numD := by
        rw [show (n : Int) - (c : Int) = ((n - c : Nat) : Int) by omega, cut_to]
        simp only [List.map_take]
      have q1 : ((T.drop c).map pairD).length + ((T.take c).map pairD).length ≤ 1000000 := by simp; omega
      have q2 : 1 + (((T.drop c ++ T.take c).drop 1).map pairD).length ≤ 1000000 := by
        rw [List.length_map, List.length_drop, lR]; omega
      have q3 : (((T.drop c ++ T.take c).drop 1).map pairD).length + 1 + 1 ≤ 1000000 := by
        rw [List.length_map, List.length_drop, lR]; omega
      have q4 : (((R'.take n).drop (n - c)).map numD).length + (((R'.take n).take (n - c)).map numD).length ≤ 1000000 := by
        simp only [List.length_map, List.length_drop, List.length_take]; omega
      have out : rowX ((R'.take n).drop (n - c) ++ (R'.take n).take (n - c)) = .tup (((R'.take n).drop (n - c)).map numD ++ ((R'.take n).take (n - c)).map numD) := by
        unfold rowX
        rw [List.map_append]
      rw [out]
      rw [hn] at bl
      generalize ((R'.take n).drop (n - c)).map numD = W1 at *
      generalize ((R'.take n).take (n - c)).map numD = W2 at *
      generalize (R'.take n).map numD = W3 at *
      generalize R'.map numD = W4 at *
      generalize ((T.drop c ++ T.take c).drop 1).map pairD = U1 at *
      generalize (T.drop c).map pairD = U2 at *
      generalize (T.take c).map pairD = U3 at *
      generalize T.map pairD = TP at *
      generalize (T.map fun p => numD p.1) = L1 at *
      generalize tubeX T = X at *
      generalize numD top = tp at *
      generalize (n : Int) = ni at *
      generalize (c : Int) = ci at *
      simp [m_ring_cord, b_ring_cord, runP, ct, cl, dNotN, it, lc1, gr, lc2, dx, p1, p2, bList, q1, p3, q2, q3, cap, b3, p4, bl, p5, p6, q4, bTuple]
    · rw [rlen] at hk
      rw [rat k hk]
      refine (b6 _ (by rw [b1]; split <;> omega)).gr (by omega) fun j hj => ?_
      by_cases z : j = 0
      · subst z; rw [g0.1, g0.2, e0]; exact ⟨(g k0 hk0).1, (g k0 hk0).1⟩
      · by_cases z2 : j = n
        · rw [z2, gEnd.1, gEnd.2, e0]; exact ⟨(g k0 hk0).1, (g k0 hk0).1⟩
        · rw [(gM j (by omega) (by omega)).1, (gM j (by omega) (by omega)).2]
          have := ixl j (by omega)
          exact g _ (by omega)
  · rw [if_neg lt] at cl
    refine ⟨List.replicate T.length top, by simp, told_level B (by grind), fun k hk => ?_, ?_, fun N G g k hk => ?_⟩
    · rw [at0_rep (by simpa using hk)]
      exact (B.sz t).1.mono (by omega)
    · have mt := mulT_rept (d := numD top) (m := T.length) (by omega) (by omega)
      have out : rowX (List.replicate T.length top) = .tup (List.replicate T.length (numD top)) := by
        unfold rowX
        rw [List.map_replicate]
      rw [out]
      generalize List.replicate T.length (numD top) = RR at *
      generalize tubeX T = X at *
      generalize (T.length : Int) = ni at *
      simp [m_ring_cord, b_ring_cord, runP, ct, cl, numD, dNotN, cap, bl] at mt ⊢
      simp [mt]
    · rw [at0_rep (by simpa using hk)]
      obtain ⟨i, hi, e⟩ := B.t1
      rw [e]
      exact (g i hi).1.mono ⟨L25, rfl⟩ (by omega)
end Gn
/-! ### what laws ask of rows by their own sums -/
namespace Gn
open PySem PySem.Spec PyProof.Rows L2 DL Tt
/-- a row over one bottom -/
structure RowG (A K : Nat) (x : List Rat) : Prop where
  A0 : 0 < A
  Ab : A < 2 ^ 700
  Kb : K < 2 ^ 60
  g : ∀ k, k < x.length → Gr A K (at0 x k)
theorem gr_sz {A K J : Nat} {q : Rat} (A0 : 0 < A) (Ab : A < 2 ^ 700) (Kb : K < 2 ^ 60) (hJ : J ≤ 2 ^ 20 * K) (h : Gr A J q) : Sz 800 q := by
  have h1 : J + 1 ≤ 2 ^ 81 := by
    have a1 : 2 ^ 20 * K ≤ 2 ^ 20 * 2 ^ 60 := Nat.mul_le_mul_left _ (by omega)
    have e1 : (2 : Nat) ^ 20 * 2 ^ 60 = 2 ^ 80 := by rw [← Nat.pow_add]
    have e2 : (2 : Nat) ^ 81 = 2 * 2 ^ 80 := by rw [Nat.pow_succ, Nat.mul_comm]
    have e3 : 1 ≤ (2 : Nat) ^ 80 := Nat.one_le_two_pow
    omega
  have h2 : (J + 1) * A ≤ 2 ^ 81 * A := Nat.mul_le_mul_right A h1
  have h3 : 2 ^ 81 * A < 2 ^ 81 * 2 ^ 700 := Nat.mul_lt_mul_of_pos_left Ab (Nat.two_pow_pos 81)
  have h4 : (2 : Nat) ^ 81 * 2 ^ 700 = 2 ^ 781 := by rw [← Nat.pow_add]
  have h5 : (2 : Nat) ^ 781 ≤ 2 ^ 800 := Nat.pow_le_pow_right (by decide) (by decide)
  exact h.sz A0 (by omega)
section
variable {A K : Nat} {x : List Rat}
theorem RowG.sz (R : RowG A K x) {J : Nat} {q : Rat} (hJ : J ≤ 2 ^ 20 * K) (h : Gr A J q) : Sz 800 q := gr_sz R.A0 R.Ab R.Kb hJ h
theorem RowG.at (R : RowG A K x) (k : Nat) (hk : k < x.length) : Sz 800 (at0 x k) := R.sz (by omega) (R.g k hk)
theorem DataOk.rowg {N M : Nat} {y : List Rat} {p : Rat} (dk : DataOk N M y p) {x : List Rat} (h : ∀ k, k < x.length → Gr (N * L25) (2550 * M) (at0 x k)) : RowG (N * L25) (2550 * M) x := by
  refine ⟨Nat.mul_pos dk.N0 (by decide), ?_, ?_, h⟩
  · have : N * L25 < 2 ^ 600 * 2 ^ 35 := Nat.mul_lt_mul'' dk.Nb (by decide)
    rw [← Nat.pow_add] at this
    exact Nat.lt_of_lt_of_le this (Nat.pow_le_pow_right (by decide) (by decide))
  · have h1 := dk.Mb
    have : 2550 * M ≤ 2550 * 2 ^ 40 := Nat.mul_le_mul_left _ (by omega)
    exact Nat.lt_of_le_of_lt this (by decide)
theorem RowG.step (R : RowG A K x) {k : Nat} (hk : k + 1 < x.length) : Gr A (2 * K) (at0 x (k + 1) - at0 x k) := ((R.g (k + 1) hk).sub (R.g k (by omega))).most (by omega)
theorem gr_abs {q : Rat} (h : Gr A K q) : Gr A K (absQ q) := by
  unfold absQ
  split
  · exact h.neg
  · exact h
theorem RowG.ups_sz (R : RowG A K x) (h2 : x.length ≤ 100) : Sz 800 (sumN (fun k => absQ (at0 x (k + 1) - at0 x k)) (x.length - 1)) :=
  R.sz (J := 100 * (2 * K)) (by omega) ((sumN_gr _ fun k hk => gr_abs (R.step (by omega))).most (Nat.mul_le_mul_right _ (by omega)))
theorem absQ_of (q : Rat) : (if q < 0 then 0 - q else q) = absQ q := by unfold absQ; split <;> grind
def ordQ (a b : Rat) : Int := if a < b then 1 else if b < a then -1 else 0
end
end Gn
/-! ### steps and squares as the laws reckon them -/
namespace Gn
open PySem PySem.Spec PyProof.Rows L2 DL Tt
theorem row_len {R : List Rat} : bLen [rowX R] = some (.int (R.length : Int)) := by simp [rowX]
theorem c_lsteps' {R : List Rat} {b : Nat} (h1 : 1 ≤ R.length) (h2 : R.length ≤ 100) (sz : ∀ k, k < R.length → Sz b (at0 R k)) (hb : b ≤ 4000) : m__law_steps [rowX R] = some (rowX (stepsR R)) := by
  have lc := lcD_pure (g := gN 1) (fe := eCall m__law_less_by (aCons (e2 dIx (eVar 0) (e2 dAddL (eVar 1) (eC (.int 1)))) (aCons (e2 dIx (eVar 0) (eVar 1)) (aNil)))) (own := [1]) (s := [.val (rowX R), .un])
    (fun (k : Nat) => D.int (k : Int)) (fun k => numD (at0 R (k + 1) - at0 R k)) (List.range (R.length - 1)) (fun k hk => ⟨_, rfl, by
      have hk := List.mem_range.mp hk
      have r1 := row_at (R := R) (k := k + 1) (by omega)
      have r0 := row_at (R := R) (k := k) (by omega)
      have a := c_less_by (sz (k + 1) (by omega)) (sz k (by omega)) hb
      rw [show ((k + 1 : Nat) : Int) = (k : Int) + 1 by omega] at r1
      generalize at0 R (k + 1) = y1 at *
      generalize at0 R k = y0 at *
      generalize rowX R = X at *
      generalize (k : Int) = ki at *
      simp [r1, r0, a], rfl⟩) (by rw [List.length_range]; unfold cap; omega)
  have rg : ∀ st : S, DL.iRng1 (aCons (e2 dSub (eCall bLen (aCons (eVar 0) (aNil))) (eC (.int 1))) (aNil)) (.val (rowX R) :: st) = some ((List.range (R.length - 1)).map fun (k : Nat) => D.int (k : Int), .val (rowX R) :: st) := fun st => by
    rw [rng1_ok (R.length - 1) (by omega) (s' := .val (rowX R) :: st) (by simp [row_len]; omega)]
    simp [rangeD]
  have out : rowX (stepsR R) = .tup ((List.range (R.length - 1)).map fun k => numD (at0 R (k + 1) - at0 R k)) := by
    unfold rowX stepsR
    rw [List.map_map]
    rfl
  rw [out]
  generalize ((List.range (R.length - 1)).map fun k => numD (at0 R (k + 1) - at0 R k)) = W at *
  generalize (List.range (R.length - 1)).map (fun (k : Nat) => D.int (k : Int)) = RG at *
  generalize rowX R = X at *
  simp [m__law_steps, b__law_steps, runP, rg, lc, bTuple]
/-- the steps round a ring -/
def ringR (R : List Rat) : List Rat := (List.range R.length).map fun k => stp true (at0 R) R.length (k + 1)
theorem ring_ix {R : List Rat} {k : Nat} (hk : k < R.length) (h2 : R.length ≤ 100) : dIx (rowX R) (.int ((k : Int) + 1 - (R.length : Int))) = some (numD (at0 R (if k + 1 < R.length then k + 1 else 0))) := by
  by_cases c : k + 1 < R.length
  · rw [if_pos c]
    have r := row_at (R := R) (k := k + 1) c
    have e : ixN R.length ((k : Int) + 1 - (R.length : Int)) = ixN R.length ((k + 1 : Nat) : Int) := by
      unfold ixN
      grind
    unfold rowX at r ⊢
    simp only [dIx, atI, List.length_map] at r ⊢
    rw [e]
    exact r
  · rw [if_neg c]
    have e : (k : Int) + 1 - (R.length : Int) = ((0 : Nat) : Int) := by omega
    rw [e]
    exact row_at (by omega)
theorem num_pos' {q : Rat} : 0 < q.num ↔ 0 < q := by
  have e := q_den q
  have d := natR_pos q.den_pos
  constructor
  · intro h
    have h2 : ((0 : Int) : Rat) < (q.num : Rat) := by exact_mod_cast h
    have h3 : ((0 : Int) : Rat) = 0 := rfl
    by_cases c : 0 < q
    · exact c
    · have := Rat.mul_nonneg (a := -q) (b := (q.den : Rat)) (by grind) (by grind)
      grind
  · intro h
    by_cases c : 0 < q.num
    · exact c
    · have h2 : (q.num : Rat) ≤ ((0 : Int) : Rat) := by
        have : q.num ≤ 0 := by omega
        exact_mod_cast this
      have h3 : ((0 : Int) : Rat) = 0 := rfl
      have := Rat.mul_pos h d
      grind
theorem eq_rep {R : List Rat} {c : Rat} {n : Nat} (hl : R.length = n) (h : ∀ k, k < n → at0 R k = c) : R = List.replicate n c :=
  rows_eq (n := n) hl (by simp) fun k hk => by rw [h k hk, at0_rep hk]
theorem c_mult {q : Rat} {n : Nat} (h : 2 ≤ n) (h2 : n ≤ 1000) : dMulT (.tup [numD q]) (.int (n : Int)) = some (rowX (List.replicate n q)) := by
  rw [mulT_rept h h2]
  unfold rowX
  rw [List.map_replicate]
end Gn
/-! ### steps of a row, loose or round a ring -/
namespace Gn
open PySem PySem.Spec PyProof.Rows L2 DL Tt
def SR (b : Bool) (R : List Rat) : List Rat := if b = true then ringR R else stepsR R
theorem SR_len (b : Bool) (R : List Rat) : (SR b R).length = if b = true then R.length else R.length - 1 := by
  cases b <;> simp [SR, ringR, stepsR]
theorem SR_at {b : Bool} {R : List Rat} {k : Nat} (h : k < (SR b R).length) : at0 (SR b R) k = stp b (at0 R) R.length (k + 1) := by
  rw [SR_len] at h
  cases b
  · simp only [Bool.false_eq_true, if_false] at h
    rw [stp_succ (by omega)]
    simp [SR, stepsR, at0, h]
  · simp only [if_true] at h
    simp [SR, ringR, at0, h]
theorem SR_sum {b : Bool} {R : List Rat} (φ : Rat → Rat) (h : 1 ≤ R.length) : sumN (fun k => φ (at0 (SR b R) k)) (SR b R).length + (if b = true then 0 else φ 0) = sumN (fun k => φ (stp b (at0 R) R.length (k + 1))) R.length := by
  have e := sumN_congr (f := fun k => φ (at0 (SR b R) k)) (h := fun k => φ (stp b (at0 R) R.length (k + 1))) (m := (SR b R).length) fun k hk => by rw [SR_at hk]
  rw [e, SR_len]
  cases b
  · simp only [Bool.false_eq_true, if_false]
    obtain ⟨m, hm⟩ : ∃ m, R.length = m + 1 := ⟨R.length - 1, by omega⟩
    rw [hm, Nat.add_sub_cancel, sumN, stp_end (k := m + 1) (by omega), stp_loose]
  · simp only [if_true]
    grind
theorem SR_gr {b : Bool} {R : List Rat} {A K : Nat} (g : ∀ k, k < R.length → Gr A K (at0 R k)) : ∀ k, k < (SR b R).length → Gr A (K + K) (at0 (SR b R) k) := fun k hk => by
  rw [SR_at hk]
  rw [SR_len] at hk
  by_cases c : k + 1 < R.length
  · rw [stp_succ c]
    exact (g (k + 1) c).sub (g k (by omega))
  · cases b
    · simp only [Bool.false_eq_true, if_false] at hk
      omega
    · simp only [if_true] at hk
      rw [stp_end (k := k + 1) (by omega), stp_ring]
      exact (g 0 (by omega)).sub (g (R.length - 1) (by omega))
theorem SR_ne {b : Bool} {R R' : List Rat} (hl : R.length = R'.length) (h : SR b R ≠ SR b R') : ∃ k, k < R'.length ∧ stp b (at0 R) R'.length (k + 1) ≠ stp b (at0 R') R'.length (k + 1) := by
  have l : (SR b R).length = (SR b R').length := by rw [SR_len, SR_len, hl]
  by_cases c : ∃ k, k < R'.length ∧ stp b (at0 R) R'.length (k + 1) ≠ stp b (at0 R') R'.length (k + 1)
  · exact c
  · refine absurd (rows_eq (n := (SR b R').length) l rfl fun k hk => ?_) h
    rw [SR_at (by omega), SR_at hk, hl]
    have hk2 : k < R'.length := by
      rw [SR_len] at hk
      split at hk <;> omega
    by_cases e : stp b (at0 R) R'.length (k + 1) = stp b (at0 R') R'.length (k + 1)
    · exact e
    · exact absurd ⟨k, hk2, e⟩ c
end Gn
/-! ### numbers without sign -/
namespace Gn
open PySem PySem.Spec PyProof.Rows L2 DL Tt
theorem num_abs (q : Rat) : D.tup [.int (if q.num < 0 then -q.num else q.num), .int (q.den : Int)] = numD (absQ q) := by
  unfold absQ
  by_cases c : q < 0
  · have h : q.num < 0 := by
      by_cases d : q.num < 0
      · exact d
      · have := Rat.num_nonneg.mp (show 0 ≤ q.num by omega)
        grind
    rw [if_pos c, if_pos h]
    rfl
  · have h : ¬ q.num < 0 := by
      have := Rat.num_nonneg.mpr (show 0 ≤ q by grind)
      omega
    rw [if_neg c, if_neg h]
    rfl
theorem absQ_sz {q : Rat} {n : Nat} (h : Sz n q) : Sz n (absQ q) := by
  unfold absQ
  split
  · exact h.neg
  · exact h
end Gn
/-! ### the law's own pack -/
namespace Gn
open PySem PySem.Spec PyProof.Rows L2 DL
theorem c_mixed {z : Int} (h : z.natAbs.log2 ≤ 10000000) : ∃ r : Int, r.natAbs.log2 ≤ 1000 ∧ m__law_mixed [.int z] = some (.int r) := by
  refine ⟨(z * 141421356237309504880168872420969807856967187537694807317667).fmod (10 ^ 60), ?_, ?_⟩
  · have h1 := Int.fmod_nonneg_of_pos (z * 141421356237309504880168872420969807856967187537694807317667) (b := 10 ^ 60) (by decide)
    have h2 := Int.fmod_lt_of_pos (z * 141421356237309504880168872420969807856967187537694807317667) (b := 10 ^ 60) (by decide)
    generalize (z * 141421356237309504880168872420969807856967187537694807317667).fmod (10 ^ 60) = r at h1 h2
    exact Nat.le_of_lt (log2_of (n := 1000) (Nat.lt_of_lt_of_le (m := 10 ^ 60) (by omega) (by decide +kernel)) (by decide))
  · have l : z.natAbs.log2 + (141421356237309504880168872420969807856967187537694807317667 : Int).natAbs.log2 < 100000000 := by
      have : (141421356237309504880168872420969807856967187537694807317667 : Int).natAbs.log2 < 1000 := log2_of (by decide +kernel) (by decide)
      omega
    have m : dMul (.int z) (.int 141421356237309504880168872420969807856967187537694807317667) = some (.int (z * 141421356237309504880168872420969807856967187537694807317667)) := if_pos l
    have w : dPow (.int 10) (.int 60) = some (.int (10 ^ 60)) := rfl
    simp [m__law_mixed, b__law_mixed, runP, m, w, dMod]
theorem pack_step {ns : List Int} (hl : ns.length ≤ 63) (hb : ∀ z ∈ ns, Builtin.Int.intBits z ≤ 1048576) {a : Nat} (ha : a ≤ 100) {f : Int} (hf : f.natAbs.log2 ≤ 1000) (k : O) : ∃ r : Int, r.natAbs.log2 ≤ 1000 ∧
    l1__law_pack [.val (.lst (ns.map D.int)), k, .val (.int f), .val (.int a)] = some (.next [.val (.lst (ns.map D.int)), k, .val (.int (f * 10 ^ 60 + r)), .val (.int a)]) := by
  obtain ⟨z, hz, e⟩ : ∃ z : Int, z.natAbs.log2 ≤ 10000000 ∧ ((ns.map D.int)[a]?).getD (.int (6841 * a + 37)) = .int z := by
    by_cases h : a < ns.length
    · exact ⟨ns[a], bits_log (hb _ (List.getElem_mem h)), by simp [h]⟩
    · have h2 : (6841 * (a : Int) + 37).natAbs.log2 < 1000 := log2_of (Nat.lt_of_lt_of_le (m := 10 ^ 8) (by omega) (by decide +kernel)) (by decide)
      refine ⟨6841 * a + 37, by omega, ?_⟩
      rw [List.getElem?_eq_none (by simpa using Nat.le_of_not_lt h)]; rfl
  obtain ⟨r, hr, er⟩ := c_mixed hz
  have c := cell_at (xs := ns.map D.int) (k := a) (d := .int (6841 * a + 37)) ha (by simp; omega)
  rw [e] at c
  have p : dPow (.int 10) (.int 60) = some (.int (10 ^ 60)) := rfl
  have w : (10 ^ 60 : Int).natAbs.log2 < 1000 := log2_of (by decide +kernel) (by decide)
  have m : dMul (.int f) (.int (10 ^ 60)) = some (.int (f * 10 ^ 60)) := if_pos (by omega)
  have m2 : dMul (.int 6841) (.int a) = some (.int (6841 * a)) := if_pos (by
    have h1 : (6841 : Int).natAbs.log2 < 1000 := log2_of (by decide +kernel) (by decide)
    have h2 : (a : Int).natAbs.log2 < 1000 := log2_of (Nat.lt_of_lt_of_le (m := 2 ^ 10) (by omega) (by decide +kernel)) (by decide)
    omega)
  refine ⟨r, hr, ?_⟩
  have cb : dCut (.lst (ns.map D.int)) (some a) (some ((a : Int) + 1)) = some (.lst (DL.cutD (ns.map D.int) (some a) (some ((a : Int) + 1)))) := rfl
  simp only [l1__law_pack, v_sAsg, v_e2, v_eVar, v_eC, v_eCall, v_aCons, v_aNil, v_eCut, v_oSome, v_eLst, List.getElem?_cons_succ, List.getElem?_cons_zero, Option.bind_some, Option.map_some, p, m, m2, v_addL, cb]
  cases hq : dAddL (.lst (DL.cutD (ns.map D.int) (some a) (some ((a : Int) + 1)))) (.lst [.int (6841 * a + 37)]) with
  | none => rw [hq] at c; exact nomatch c
  | some q =>
    rw [hq, Option.bind_some] at c
    simp [cap, hq, c, er]
theorem c_pack {ns : List Int} (hl : ns.length ≤ 63) (hb : ∀ z ∈ ns, Builtin.Int.intBits z ≤ 1048576) {k : Nat} (hk : k ≤ 99) : ∃ p : Int, m__law_pack [.lst (ns.map D.int), .int k] = some [.int p] := by
  obtain ⟨r, hr, e⟩ := pack_step hl hb (a := k + 1) (by omega) (f := 0) (by decide) (.val (.int k))
  obtain ⟨r2, _, e2⟩ := pack_step hl hb (a := k) (by omega) (f := r) hr (.val (.int k))
  refine ⟨r * 10 ^ 60 + r2, ?_⟩
  have c : ((k + 1 : Nat) : Int) = (k : Int) + 1 := by omega
  rw [c, Int.zero_mul, Int.zero_add] at e
  simp [m__law_pack, b__law_pack, DL.runN, cap, v_forD_cons, e, e2]
end Gn
/-! ### the law k92 -/
namespace Gn
open PySem PySem.Spec PyProof.Rows L2 DL Tt
def gre (p q : Rat) : Rat := if p < q then q else p
def les (p q : Rat) : Rat := if p < q then p else q
theorem c_greater {p q : Rat} (hp : Sz 4000 p) (hq : Sz 4000 q) : m__law_greater [numD p, numD q] = some (numD (gre p q)) := by
  have u := c_under hp hq (Nat.le_refl _)
  unfold gre
  by_cases z : p < q <;> simp [m__law_greater, b__law_greater, runP, u, z]
theorem c_lesser {p q : Rat} (hp : Sz 4000 p) (hq : Sz 4000 q) : m__law_lesser [numD p, numD q] = some (numD (les p q)) := by
  have u := c_under hp hq (Nat.le_refl _)
  unfold les
  by_cases z : p < q <;> simp [m__law_lesser, b__law_lesser, runP, u, z]
theorem s40 {q : Rat} (h : Sz 40 q) : Sz 4000 q := h.mono (by decide)
/-! what is drawn -/
theorem c_fine {p : Int} : ∃ (q : Rat) (p' : Int), Sz 40 q ∧ m__law_fine_number [.lst [.int p]] = some (numD q, [.lst [.int p']]) := by
  have m4 := md (p := p) (z := 4) (by decide)
  have m3 := md (p := p / 4) (z := 3) (by decide)
  have t4 := c_take (p := p) (z := 4) (by decide) (by decide)
  have t3 := c_take (p := p / 4) (z := 3) (by decide) (by decide)
  obtain ⟨d, hd, e, _⟩ := ix_mem (xs := [.int 999983, .int 999979, .int 999961, .int 1000000]) m4.1 m4.2
  obtain ⟨b, rfl, b0, b1⟩ : ∃ b : Int, d = .int b ∧ 999961 ≤ b ∧ b ≤ 1000000 := by
    simp only [List.mem_cons, List.not_mem_nil, or_false] at hd
    rcases hd with rfl | rfl | rfl | rfl <;> exact ⟨_, rfl, by decide, by decide⟩
  have mm : dMul (.int 1000) (.int b) = some (.int (1000 * b)) := mulS (by decide) (by omega)
  have lw := c_low' (t := 1000 * b - p / 4 % 3) (b := b) (by omega) (by omega)
  have sz := small_sz (t := 1000 * b - p / 4 % 3) (b := b) (by omega) (by omega)
  refine ⟨_, p / 4 / 3, sz, ?_⟩
  generalize Rat.divInt (1000 * b - p / 4 % 3) b = q at *
  simp [m__law_fine_number, b__law_fine_number, runO, cap, t4, t3, e, mm, lw, keepO]
theorem fine_step {p : Int} (o1 o3 o4 o5 : O) {L : List D} (hL : L.length < 100) : ∃ (p' : Int) (u : Rat × Rat) (o4' o5' : O), okP u ∧
    l1__law_fine_walk [.lst [.int p], o1, .lst L, o3, o4, o5] = some (.next [.lst [.int p'], o1, .lst (L ++ [pairD u]), o3, o4', o5']) := by
  obtain ⟨a, p1, sa, e1⟩ := c_fine (p := p)
  obtain ⟨b, p2, sb, e2⟩ := c_fine (p := p1)
  have u := c_under (s40 sb) (s40 sa) (Nat.le_refl _)
  have cl : L.length < 1000000 := by omega
  by_cases z : b < a
  · refine ⟨p2, (b, a), .val (numD b), .val (numD a), ⟨Rat.le_of_lt z, sb, sa⟩, ?_⟩
    simp [l1__law_fine_walk, e1, e2, u, z, cap, cl, pairD]
  · refine ⟨p2, (a, b), .val (numD a), .val (numD b), ⟨by show a ≤ b; grind, sa, sb⟩, ?_⟩
    simp [l1__law_fine_walk, e1, e2, u, z, cap, cl, pairD]
theorem c_fine_walk {p : Int} {n : Nat} (hm : 2 ≤ n) (hm2 : n ≤ 25) : ∃ (T : List (Rat × Rat)) (p' : Int), TubeOk 40 T ∧ T.length = n ∧ m__law_fine_walk [.lst [.int p], .val (.int (n : Int))] = some (tubeX T, [.lst [.int p'], .un]) := by
  obtain ⟨s', e, p', T, o3, o4, o5, rfl, h2, h4⟩ := forD_rng0 (g := gN 3) (fb := l1__law_fine_walk) (s := [.lst [.int p], .val (.int (n : Int)), .lst [], .un, .un, .un]) n
    (fun i s => ∃ (p : Int) (T : List (Rat × Rat)) (o3 o4 o5 : O), s = [.lst [.int p], .val (.int (n : Int)), .lst (T.map pairD), o3, o4, o5] ∧ T.length = i ∧ (∀ q ∈ T, okP q))
    ⟨_, [], _, _, _, rfl, rfl, by simp⟩ (fun i s hi ⟨p, T, o3, o4, o5, hs, hT, ok⟩ => by
      subst hs
      obtain ⟨p', u, o4', o5', h6, h7⟩ := fine_step (p := p) (.val (.int (n : Int))) (.val (.int (i : Int))) o4 o5 (L := T.map pairD) (by simp; omega)
      exact ⟨_, _, rfl, .inl h7, p', T ++ [u], _, _, _, by rw [List.map_append]; rfl, by simp [hT], by
        intro q hq
        rcases List.mem_append.mp hq with hq | hq
        · exact ok q hq
        · simp at hq; subst hq; exact h6⟩)
  refine ⟨T, p', okP_tube h4 (by omega) (by omega), by omega, ?_⟩
  have rg : ∀ st : S, DL.iRng1 (aCons (eVar 1) (aNil)) (.lst [.int p] :: .val (.int (n : Int)) :: st) = some (rangeD 0 n, .lst [.int p] :: .val (.int (n : Int)) :: st) := fun st => rng1_ok n (by omega) (by simp)
  unfold tubeX
  generalize T.map pairD = TP at *
  generalize (n : Int) = ni at *
  simp [m__law_fine_walk, b__law_fine_walk, runO, cap, rg, e, keepO]
def byD : D := .lst [.tup [.int 0, .int 1], .tup [.int 1, .int 1], .tup [.int (-1), .int 1], .tup [.int 1, .int 2], .tup [.int (-1), .int 3], .tup [.int 3, .int 1]]
theorem by_ix (p : Int) : ∃ m : Rat, Gr 6 3 m ∧ dIx byD (.int (p % 6)) = some (numD m) := by
  have m6 := md (p := p) (z := 6) (by decide)
  obtain ⟨d, hd, e, _⟩ := ix_mem (xs := [D.tup [.int 0, .int 1], .tup [.int 1, .int 1], .tup [.int (-1), .int 1], .tup [.int 1, .int 2], .tup [.int (-1), .int 3], .tup [.int 3, .int 1]]) m6.1 m6.2
  have go : ∀ (q : Rat), -3 ≤ q → q ≤ 3 → (∃ z : Int, q * ((6 : Nat) : Rat) = (z : Rat)) → Gr 6 3 q := fun q h0 h1 hz => by
    have e1 : ((3 : Nat) : Rat) = 3 := rfl
    exact ⟨hz, by rw [e1]; exact h0, by rw [e1]; exact h1⟩
  obtain ⟨m, rfl, g⟩ : ∃ m : Rat, d = numD m ∧ Gr 6 3 m := by
    simp only [List.mem_cons, List.not_mem_nil, or_false] at hd
    rcases hd with rfl | rfl | rfl | rfl | rfl | rfl
    · exact ⟨0, rfl, go _ (by decide +kernel) (by decide +kernel) ⟨0, by decide +kernel⟩⟩
    · exact ⟨1, rfl, go _ (by decide +kernel) (by decide +kernel) ⟨6, by decide +kernel⟩⟩
    · exact ⟨-1, rfl, go _ (by decide +kernel) (by decide +kernel) ⟨-6, by decide +kernel⟩⟩
    · exact ⟨⟨1, 2, by decide, by decide⟩, rfl, go _ (by decide +kernel) (by decide +kernel) ⟨3, by decide +kernel⟩⟩
    · exact ⟨⟨-1, 3, by decide, by decide⟩, rfl, go _ (by decide +kernel) (by decide +kernel) ⟨-2, by decide +kernel⟩⟩
    · exact ⟨3, rfl, go _ (by decide +kernel) (by decide +kernel) ⟨18, by decide +kernel⟩⟩
  exact ⟨m, g, e⟩
theorem g84 {q : Rat} (h : Gr 6 84 q) : Sz 40 q := (h.sz (n := 20) (by decide) (by decide)).mono (by decide)
theorem mv_step {p only : Int} {T : List (Rat × Rat)} (n25 : T.length ≤ 25) (ok : ∀ k, k < T.length → loT T k ≤ hiT T k) (g : ∀ k, k < T.length → Gr 2 81 (loT T k) ∧ Gr 2 81 (hiT T k)) {i : Nat} (hi : i < T.length) (o6 o7 : O) {L : List D} (hL : L.length < 100) : ∃ (p' : Int) (u : Rat × Rat) (o6' o7' : O), okP u ∧
    l1__law_moved [.lst [.int p], .val (tubeX T), .val (.int only), .val byD, .lst L, .val (.int (i : Int)), o6, o7] = some (.next [.lst [.int p'], .val (tubeX T), .val (.int only), .val byD, .lst (L ++ [pairD u]), .val (.int (i : Int)), o6', o7']) := by
  have cl : L.length < 1000000 := by omega
  have ix : dIx (tubeX T) (.int (i : Int)) = some (.tup [numD (loT T i), numD (hiT T i)]) := ((tubeX_seq T).ix i).trans (tube_at hi)
  have bl : bLen [tubeX T] = some (.int (T.length : Int)) := by simp [tubeX]
  have gl := (g i hi).1.mono (N' := 6) (by decide) (Nat.le_refl _)
  have gh := (g i hi).2.mono (N' := 6) (by decide) (Nat.le_refl _)
  have oo := ok i hi
  have t6 := c_take (p := p) (z := 6) (by decide) (by decide)
  have t6' := c_take (p := p / 6) (z := 6) (by decide) (by decide)
  obtain ⟨m1, g1, i1⟩ := by_ix p
  obtain ⟨m2, g2, i2⟩ := by_ix (p / 6)
  generalize loT T i = l at *
  generalize hiT T i = h at *
  have a1 := c_more (s40 (g84 (gl.most (by decide)))) (s40 (g84 (g1.most (by decide)))) (Nat.le_refl _)
  have a2 := c_more (s40 (g84 (gh.most (by decide)))) (s40 (g84 (g2.most (by decide)))) (Nat.le_refl _)
  have sl : Sz 40 l := g84 (gl.most (by decide))
  have sh : Sz 40 h := g84 (gh.most (by decide))
  have sl' : Sz 40 (l + m1) := g84 (gl.add g1)
  have sh' : Sz 40 (h + m2) := g84 (gh.add g2)
  by_cases c : only = (i : Int) ∨ only ≥ (T.length : Int)
  · have u := c_under (s40 sh') (s40 sl') (Nat.le_refl _)
    have cc : ∀ X : Bool, decide (only = (i : Int)) = false → decide (only ≥ (T.length : Int)) = true := fun _ h1 => by
      rcases c with c | c
      · rw [decide_eq_true c] at h1; exact nomatch h1
      · exact decide_eq_true c
    by_cases z : h + m2 < l + m1
    · refine ⟨p / 6 / 6, (h + m2, l + m1), .val (numD (h + m2)), .val (numD (l + m1)), ⟨Rat.le_of_lt z, sh', sl'⟩, ?_⟩
      generalize l + m1 = v1 at *
      generalize h + m2 = v2 at *
      generalize tubeX T = X at *
      generalize byD = BY at *
      generalize (T.length : Int) = n at *
      generalize (i : Int) = ii at *
      by_cases c1 : only = ii
      · simp [l1__law_moved, ix, c1, t6, t6', i1, i2, a1, a2, u, z, cap, cl, pairD]
      · have c2 : only ≥ n := by rcases c with c | c; exact absurd c c1; exact c
        simp [l1__law_moved, ix, c1, bl, c2, t6, t6', i1, i2, a1, a2, u, z, cap, cl, pairD]
    · refine ⟨p / 6 / 6, (l + m1, h + m2), .val (numD (l + m1)), .val (numD (h + m2)), ⟨by show l + m1 ≤ h + m2; grind, sl', sh'⟩, ?_⟩
      generalize l + m1 = v1 at *
      generalize h + m2 = v2 at *
      generalize tubeX T = X at *
      generalize byD = BY at *
      generalize (T.length : Int) = n at *
      generalize (i : Int) = ii at *
      by_cases c1 : only = ii
      · simp [l1__law_moved, ix, c1, t6, t6', i1, i2, a1, a2, u, z, cap, cl, pairD]
      · have c2 : only ≥ n := by rcases c with c | c; exact absurd c c1; exact c
        simp [l1__law_moved, ix, c1, bl, c2, t6, t6', i1, i2, a1, a2, u, z, cap, cl, pairD]
  · have u := c_under (s40 sh) (s40 sl) (Nat.le_refl _)
    have z : ¬ h < l := by grind
    have c1 : ¬ only = (i : Int) := fun e => c (.inl e)
    have c2 : ¬ only ≥ (T.length : Int) := fun e => c (.inr e)
    refine ⟨p, (l, h), .val (numD l), .val (numD h), ⟨oo, sl, sh⟩, ?_⟩
    generalize tubeX T = X at *
    generalize byD = BY at *
    generalize (T.length : Int) = n at *
    generalize (i : Int) = ii at *
    have c2' : ¬ n ≤ only := by omega
    simp [l1__law_moved, ix, c1, bl, c2', u, z, cap, cl, pairD]
theorem c_moved {p : Int} {T : List (Rat × Rat)} (n2 : 2 ≤ T.length) (n25 : T.length ≤ 25) (ok : ∀ k, k < T.length → loT T k ≤ hiT T k) (g : ∀ k, k < T.length → Gr 2 81 (loT T k) ∧ Gr 2 81 (hiT T k)) : ∃ (U : List (Rat × Rat)) (p' : Int), TubeOk 40 U ∧ U.length = T.length ∧ m__law_moved [.lst [.int p], .val (tubeX T)] = some (tubeX U, [.lst [.int p'], .un]) := by
  have bl : bLen [tubeX T] = some (.int (T.length : Int)) := by simp [tubeX]
  have mm : dMul (.int 2) (.int (T.length : Int)) = some (.int (2 * (T.length : Int))) := mulS (by decide) (by omega)
  have t1 := c_take (p := p) (z := 2 * (T.length : Int)) (by omega) (by omega)
  obtain ⟨s', e, p', U, o5, o6, o7, rfl, h2, h4⟩ := forD_rng0 (g := gN 5) (fb := l1__law_moved) (s := [.lst [.int (p / (2 * (T.length : Int)))], .val (tubeX T), .val (.int (p % (2 * (T.length : Int)))), .val byD, .lst [], .un, .un, .un]) T.length
    (fun i s => ∃ (q : Int) (U : List (Rat × Rat)) (o5 o6 o7 : O), s = [.lst [.int q], .val (tubeX T), .val (.int (p % (2 * (T.length : Int)))), .val byD, .lst (U.map pairD), o5, o6, o7] ∧ U.length = i ∧ (∀ q ∈ U, okP q))
    ⟨_, [], _, _, _, rfl, rfl, by simp⟩ (fun i s hi ⟨q, U, o5, o6, o7, hs, hU, okU⟩ => by
      subst hs
      obtain ⟨p', u, o6', o7', h6, h7⟩ := mv_step (p := q) (only := p % (2 * (T.length : Int))) n25 ok g hi o6 o7 (L := U.map pairD) (by simp; omega)
      exact ⟨_, _, rfl, .inl h7, p', U ++ [u], _, _, _, by rw [List.map_append]; rfl, by simp [hU], by
        intro q hq
        rcases List.mem_append.mp hq with hq | hq
        · exact okU q hq
        · simp at hq; subst hq; exact h6⟩)
  refine ⟨U, p', okP_tube h4 (by omega) (by omega), h2, ?_⟩
  have rg : ∀ (o0 : O) (st : S), DL.iRng1 (aCons (eCall bLen (aCons (eVar 1) (aNil))) (aNil)) (o0 :: .val (tubeX T) :: st) = some (rangeD 0 T.length, o0 :: .val (tubeX T) :: st) := fun o0 st => rng1_ok T.length (by omega) (by simp [bl])
  have eb : D.lst [.tup [.int 0, .int 1], .tup [.int 1, .int 1], .tup [.int (-1), .int 1], .tup [.int 1, .int 2], .tup [.int (-1), .int 3], .tup [.int 3, .int 1]] = byD := rfl
  have eU : tubeX U = .tup (U.map pairD) := rfl
  rw [eU]
  generalize U.map pairD = UP at *
  generalize tubeX T = X at *
  generalize byD = BY at *
  generalize rangeD 0 T.length = RG at *
  generalize (T.length : Int) = ni at *
  simp [m__law_moved, b__law_moved, runO, cap, bl, mm, t1, eb, rg, e, keepO]
theorem c_two {p r : Int} {first : Bool} : ∃ (T U : List (Rat × Rat)) (p' r' : Int), TubeOk 40 T ∧ TubeOk 40 U ∧ U.length = T.length ∧ m__law_two [.lst [.int p], .lst [.int r], .val (.bl first)] = some (.tup [tubeX T, tubeX U], [.lst [.int p'], .lst [.int r'], .un]) := by
  have t4 := c_take (p := p) (z := 4) (by decide) (by decide)
  have t8 := c_take (p := p / 4) (z := 8) (by decide) (by decide)
  have m8 := md (p := p / 4) (z := 8) (by decide)
  obtain ⟨n, hn⟩ : ∃ n : Nat, 2 + p / 4 % 8 = (n : Int) := ⟨(2 + p / 4 % 8).toNat, by omega⟩
  by_cases z : p % 4 = 0
  · obtain ⟨T, p1, a1, a2, a3⟩ := c_fine_walk (p := p / 4 / 8) (n := n) (by omega) (by omega)
    obtain ⟨U, r1, b1, b2, b3⟩ := c_fine_walk (p := r) (n := n) (by omega) (by omega)
    refine ⟨T, U, p1, r1, a1, b1, by omega, ?_⟩
    generalize tubeX T = X at *
    generalize tubeX U = Y at *
    generalize (n : Int) = ni at *
    simp [m__law_two, b__law_two, runO, t4, t8, hn, z, a3, b3, cap, keepO]
  · have t8' := c_take (p := p / 4 / 8) (z := 8) (by decide) (by decide)
    have t3 := c_take (p := r) (z := 3) (by decide) (by decide)
    obtain ⟨k, hk, k2, k25⟩ : ∃ k : Nat, (if p / 4 / 8 % 8 = 0 ∧ first = true then (25 : Int) else (n : Int)) = (k : Int) ∧ 2 ≤ k ∧ k ≤ 25 := by
      split
      · exact ⟨25, rfl, by decide, by decide⟩
      · exact ⟨n, rfl, by omega, by omega⟩
    obtain ⟨T, p1, a1, a2, a3, a4⟩ := c_walk (p := p / 4 / 8 / 8) (w := 6) (n := k) k2 k25 (by decide) (by decide)
    obtain ⟨U, r1, b1, b2, b3, b4⟩ := c_walk (p := r / 3) (w := 6) (n := k) k2 k25 (by decide) (by decide)
    obtain ⟨V, r2, c1, c2, c3⟩ := c_moved (p := r / 3) (T := T) (by omega) (by omega) a1.ok a3
    have kk : (p / 4 / 8 % 8 = 0 ∧ first = true ∧ (25 : Int) = (k : Int)) ∨ ((¬ p / 4 / 8 % 8 = 0 ∨ first = false) ∧ n = k) := by
      by_cases c : p / 4 / 8 % 8 = 0 ∧ first = true
      · rw [if_pos c] at hk; exact .inl ⟨c.1, c.2, hk⟩
      · rw [if_neg c] at hk
        refine .inr ⟨?_, by omega⟩
        by_cases c1 : p / 4 / 8 % 8 = 0
        · right
          cases first
          · rfl
          · exact absurd ⟨c1, rfl⟩ c
        · exact .inl c1
    by_cases y : r % 3 = 0
    · refine ⟨T, U, p1, r1, a1, b1, by omega, ?_⟩
      generalize tubeX T = X at *
      generalize tubeX U = Y at *
      clear hk
      rcases kk with ⟨h1, h2, h3⟩ | ⟨h1, h2⟩
      · subst h2
        rw [← h3] at a4 b4
        simp [m__law_two, b__law_two, runO, t4, t8, hn, z, t8', h1, a4, t3, y, b4, cap, keepO]
      · subst h2
        generalize (n : Int) = ni at *
        rcases h1 with h1 | h1
        · simp [m__law_two, b__law_two, runO, t4, t8, hn, z, t8', h1, a4, t3, y, b4, cap, keepO]
        · subst h1
          by_cases h1 : p / 4 / 8 % 8 = 0 <;> simp [m__law_two, b__law_two, runO, t4, t8, hn, z, t8', h1, a4, t3, y, b4, cap, keepO]
    · refine ⟨T, V, p1, r2, a1, c1, c2, ?_⟩
      generalize tubeX T = X at *
      generalize tubeX V = Y at *
      clear hk
      rcases kk with ⟨h1, h2, h3⟩ | ⟨h1, h2⟩
      · subst h2
        rw [← h3] at a4 b4
        simp [m__law_two, b__law_two, runO, t4, t8, hn, z, t8', h1, a4, t3, y, c3, cap, keepO]
      · subst h2
        generalize (n : Int) = ni at *
        rcases h1 with h1 | h1
        · simp [m__law_two, b__law_two, runO, t4, t8, hn, z, t8', h1, a4, t3, y, c3, cap, keepO]
        · subst h1
          by_cases h1 : p / 4 / 8 % 8 = 0 <;> simp [m__law_two, b__law_two, runO, t4, t8, hn, z, t8', h1, a4, t3, y, c3, cap, keepO]
/-! tied ends -/
theorem ends_ix {a b : Rat} {e : Int} (h : e = 0 ∨ e = 1) : ∃ u : Rat, (u = a ∨ u = b) ∧ dIx (.tup [numD a, numD b]) (.int e) = some (numD u) := by
  rcases h with rfl | rfl
  · exact ⟨a, .inl rfl, v_ixt⟩
  · exact ⟨b, .inr rfl, v_ixt1⟩
theorem c_tied92 {T : List (Rat × Rat)} {e0 e1 : Int} (t : TubeOk 40 T) (h0 : e0 = 0 ∨ e0 = 1) (h1 : e1 = 0 ∨ e1 = 1) : ∃ u v : Rat, Ends T u v ∧ m__law_tied [tubeX T, .tup [.int e0, .int e1]] = some (tubeX (tiedT T u v)) := by
  have n2 := t.n2
  have n25 := t.n25
  obtain ⟨u, hu, iu⟩ := ends_ix (a := loT T 0) (b := hiT T 0) h0
  obtain ⟨v, hv, iv⟩ := ends_ix (a := loT T (T.length - 1)) (b := hiT T (T.length - 1)) h1
  refine ⟨u, v, ⟨n2, hu, hv⟩, ?_⟩
  have i0 := tubeX_first (T := T) (by omega)
  have i1 := tubeX_last (T := T) (by omega)
  have ad1 : dAddL (.tup [.tup [numD u, numD u]]) (tubeX (inner T)) = some (tubeX ((u, u) :: inner T)) := addX (A := [(u, u)]) (B := inner T) (by rw [inner_len]; simp; omega)
  have ad2 : dAddL (tubeX ((u, u) :: inner T)) (.tup [.tup [numD v, numD v]]) = some (tubeX (tiedT T u v)) := addX (A := (u, u) :: inner T) (B := [(v, v)]) (by rw [List.length_cons, inner_len]; simp; omega)
  have ci := cutX_in (T := T)
  generalize tubeX (tiedT T u v) = X1 at *
  generalize tubeX ((u, u) :: inner T) = X4 at *
  generalize tubeX (inner T) = X5 at *
  generalize tubeX T = X at *
  generalize loT T 0 = z1 at *
  generalize hiT T 0 = z2 at *
  generalize loT T (T.length - 1) = z3 at *
  generalize hiT T (T.length - 1) = z4 at *
  simp [m__law_tied, b__law_tied, runP, i0, i1, iu, iv, cap, ci, ad1, ad2]
/-! four tubes -/
def upT (T U : List (Rat × Rat)) : List (Rat × Rat) := (List.range T.length).map fun k => (gre (loT T k) (loT U k), gre (hiT T k) (hiT U k))
def dnT (T U : List (Rat × Rat)) : List (Rat × Rat) := (List.range T.length).map fun k => (les (loT T k) (loT U k), les (hiT T k) (hiT U k))
theorem upT_at {T U : List (Rat × Rat)} {k : Nat} (h : k < T.length) : loT (upT T U) k = gre (loT T k) (loT U k) ∧ hiT (upT T U) k = gre (hiT T k) (hiT U k) := by
  have e : (upT T U).getD k (0, 0) = (gre (loT T k) (loT U k), gre (hiT T k) (hiT U k)) := by
    simp only [upT, List.getD_eq_getElem?_getD, List.getElem?_map]
    rw [List.getElem?_range h]
    rfl
  have e1 : ∀ L : List (Rat × Rat), loT L k = (L.getD k (0, 0)).1 := fun _ => rfl
  have e2 : ∀ L : List (Rat × Rat), hiT L k = (L.getD k (0, 0)).2 := fun _ => rfl
  rw [e1 (upT T U), e2 (upT T U), e]
  exact ⟨rfl, rfl⟩
theorem dnT_at {T U : List (Rat × Rat)} {k : Nat} (h : k < T.length) : loT (dnT T U) k = les (loT T k) (loT U k) ∧ hiT (dnT T U) k = les (hiT T k) (hiT U k) := by
  have e : (dnT T U).getD k (0, 0) = (les (loT T k) (loT U k), les (hiT T k) (hiT U k)) := by
    simp only [dnT, List.getD_eq_getElem?_getD, List.getElem?_map]
    rw [List.getElem?_range h]
    rfl
  have e1 : ∀ L : List (Rat × Rat), loT L k = (L.getD k (0, 0)).1 := fun _ => rfl
  have e2 : ∀ L : List (Rat × Rat), hiT L k = (L.getD k (0, 0)).2 := fun _ => rfl
  rw [e1 (dnT T U), e2 (dnT T U), e]
  exact ⟨rfl, rfl⟩
theorem upT_len {T U : List (Rat × Rat)} : (upT T U).length = T.length := by simp [upT]
theorem dnT_len {T U : List (Rat × Rat)} : (dnT T U).length = T.length := by simp [dnT]
theorem gre_sz {n : Nat} {p q : Rat} (hp : Sz n p) (hq : Sz n q) : Sz n (gre p q) := by unfold gre; split <;> assumption
theorem les_sz {n : Nat} {p q : Rat} (hp : Sz n p) (hq : Sz n q) : Sz n (les p q) := by unfold les; split <;> assumption
theorem upT_ok {T U : List (Rat × Rat)} (t : TubeOk 40 T) (u : TubeOk 40 U) (hl : U.length = T.length) : TubeOk 40 (upT T U) := by
  refine ⟨by rw [upT_len]; exact t.n2, by rw [upT_len]; exact t.n25, fun k hk => ?_, fun k hk => ?_⟩ <;> rw [upT_len] at hk <;> rw [(upT_at hk).1, (upT_at hk).2]
  · have := t.ok k hk
    have := u.ok k (by omega)
    unfold gre
    split <;> split <;> grind
  · have := t.sz k hk
    have := u.sz k (by omega)
    exact ⟨gre_sz (by simp only [*]) (by simp only [*]), gre_sz (by simp only [*]) (by simp only [*])⟩
theorem dnT_ok {T U : List (Rat × Rat)} (t : TubeOk 40 T) (u : TubeOk 40 U) (hl : U.length = T.length) : TubeOk 40 (dnT T U) := by
  refine ⟨by rw [dnT_len]; exact t.n2, by rw [dnT_len]; exact t.n25, fun k hk => ?_, fun k hk => ?_⟩ <;> rw [dnT_len] at hk <;> rw [(dnT_at hk).1, (dnT_at hk).2]
  · have := t.ok k hk
    have := u.ok k (by omega)
    unfold les
    split <;> split <;> grind
  · have := t.sz k hk
    have := u.sz k (by omega)
    exact ⟨les_sz (by simp only [*]) (by simp only [*]), les_sz (by simp only [*]) (by simp only [*])⟩
def zipX (T U : List (Rat × Rat)) (k : Nat) : D := .tup [.tup [numD (loT T k), numD (hiT T k)], .tup [numD (loT U k), numD (hiT U k)]]
theorem zip_tubes {T U : List (Rat × Rat)} (h : U.length = T.length) : zipD (T.map pairD) (U.map pairD) = (List.range T.length).map (zipX T U) := by
  apply List.ext_getElem?
  intro k
  rw [zipD_get]
  by_cases hk : k < T.length
  · rw [tube_at hk, tube_at (show k < U.length by omega)]
    simp [hk, zipX]
  · simp [hk, h]
theorem zip_it {T U : List (Rat × Rat)} (h : U.length = T.length) (st : S) : kZip (some ([tubeX T, tubeX U], st)) = some ((List.range T.length).map (zipX T U), st) := by
  rw [← zip_tubes h]
  rfl
theorem c_four {T U : List (Rat × Rat)} (t : TubeOk 40 T) (u : TubeOk 40 U) (hl : U.length = T.length) : m__law_four [tubeX T, tubeX U] = some (.lst [tubeX (dnT T U), tubeX T, tubeX U, tubeX (upT T U)]) := by
  have n25 := t.n25
  have zi := zip_it hl
  have l1 := lcD_pure (g := gTup (gsCons (gN 4) (gsCons (gN 5) (gsNil)))) (fe := eTup (aCons (eCall m__law_greater (aCons (e2 dIx (eVar 4) (eC (.int 0))) (aCons (e2 dIx (eVar 5) (eC (.int 0))) (aNil)))) (aCons (eCall m__law_greater (aCons (e2 dIx (eVar 4) (eC (.int 1))) (aCons (e2 dIx (eVar 5) (eC (.int 1))) (aNil)))) (aNil)))) (own := [4, 5]) (s := [.val (tubeX T), .val (tubeX U), .un, .un, .un, .un])
    (zipX T U) (fun k => pairD (gre (loT T k) (loT U k), gre (hiT T k) (hiT U k))) (List.range T.length) (fun k hk => ⟨_, rfl, by
      have hk := List.mem_range.mp hk
      have s1 := t.sz k hk
      have s2 := u.sz k (by omega)
      have c1 := c_greater (s40 s1.1) (s40 s2.1)
      have c2 := c_greater (s40 s1.2) (s40 s2.2)
      generalize tubeX T = X at *
      generalize tubeX U = Y at *
      generalize loT T k = a at *
      generalize loT U k = b at *
      generalize hiT T k = c at *
      generalize hiT U k = d at *
      simp [c1, c2, cap, pairD], rfl⟩) (by rw [List.length_range]; unfold cap; omega)
  have l2 := lcD_pure (g := gTup (gsCons (gN 4) (gsCons (gN 5) (gsNil)))) (fe := eTup (aCons (eCall m__law_lesser (aCons (e2 dIx (eVar 4) (eC (.int 0))) (aCons (e2 dIx (eVar 5) (eC (.int 0))) (aNil)))) (aCons (eCall m__law_lesser (aCons (e2 dIx (eVar 4) (eC (.int 1))) (aCons (e2 dIx (eVar 5) (eC (.int 1))) (aNil)))) (aNil)))) (own := [4, 5]) (s := [.val (tubeX T), .val (tubeX U), .val (tubeX (upT T U)), .un, .un, .un])
    (zipX T U) (fun k => pairD (les (loT T k) (loT U k), les (hiT T k) (hiT U k))) (List.range T.length) (fun k hk => ⟨_, rfl, by
      have hk := List.mem_range.mp hk
      have s1 := t.sz k hk
      have s2 := u.sz k (by omega)
      have c1 := c_lesser (s40 s1.1) (s40 s2.1)
      have c2 := c_lesser (s40 s1.2) (s40 s2.2)
      generalize tubeX (upT T U) = Z at *
      generalize tubeX T = X at *
      generalize tubeX U = Y at *
      generalize loT T k = a at *
      generalize loT U k = b at *
      generalize hiT T k = c at *
      generalize hiT U k = d at *
      simp [c1, c2, cap, pairD], rfl⟩) (by rw [List.length_range]; unfold cap; omega)
  have o1 : .tup ((List.range T.length).map fun k => pairD (gre (loT T k) (loT U k), gre (hiT T k) (hiT U k))) = tubeX (upT T U) := by
    unfold tubeX upT
    rw [List.map_map]
    rfl
  have o2 : .tup ((List.range T.length).map fun k => pairD (les (loT T k) (loT U k), les (hiT T k) (hiT U k))) = tubeX (dnT T U) := by
    unfold tubeX dnT
    rw [List.map_map]
    rfl
  generalize tubeX (upT T U) = Z1 at *
  generalize tubeX (dnT T U) = Z2 at *
  generalize ((List.range T.length).map fun k => pairD (gre (loT T k) (loT U k), gre (hiT T k) (hiT U k))) = W1 at *
  generalize ((List.range T.length).map fun k => pairD (les (loT T k) (loT U k), les (hiT T k) (hiT U k))) = W2 at *
  generalize (List.range T.length).map (zipX T U) = ZZ at *
  generalize tubeX T = X at *
  generalize tubeX U = Y at *
  simp [m__law_four, b__law_four, runP, zi, l1, l2, bTuple, o1, o2, cap]
theorem absQ_le {q d : Rat} : absQ q ≤ d ↔ q ≤ d ∧ -q ≤ d := by unfold absQ; split <;> grind
theorem c_far {T U : List (Rat × Rat)} (t : TubeOk 40 T) (u : TubeOk 40 U) (hl : U.length = T.length) : ∃ d : Rat, 0 ≤ d ∧ Sz 81 d ∧ (∀ k, k < T.length → absQ (loT T k - loT U k) ≤ d ∧ absQ (hiT T k - hiT U k) ≤ d) ∧ m__law_far [tubeX T, tubeX U] = some (numD d) := by
  have n25 := t.n25
  have zi := zip_it hl
  have ai : ∀ q : Rat, bAbs [.int q.num] = some (.int (if q.num < 0 then -q.num else q.num)) := fun _ => rfl
  have side : ∀ (a b m : Rat), Sz 40 a → Sz 40 b → Sz 81 m → m__law_less_by [numD a, numD b] = some (numD (a - b)) ∧ m__law_greater [numD m, numD (absQ (a - b))] = some (numD (gre m (absQ (a - b)))) ∧ Sz 81 (gre m (absQ (a - b))) := fun a b m sa sb sm => by
    have sd : Sz 81 (a - b) := sa.subn sb (by decide)
    exact ⟨c_less_by (s40 sa) (s40 sb) (Nat.le_refl _), c_greater (sm.mono (by decide)) ((absQ_sz sd).mono (by decide)), gre_sz sm (absQ_sz sd)⟩
  obtain ⟨s', e, m, o3, o4, o5, o6, rfl, m0, sm, le⟩ := forD_map (g := gTup (gsCons (gN 3) (gsCons (gN 4) (gsNil)))) (fb := l1__law_far) (s := [.val (tubeX T), .val (tubeX U), .val (numD 0), .un, .un, .un, .un]) (zipX T U) (List.range T.length)
    (fun i s => ∃ (m : Rat) (o3 o4 o5 o6 : O), s = [.val (tubeX T), .val (tubeX U), .val (numD m), o3, o4, o5, o6] ∧ 0 ≤ m ∧ Sz 81 m ∧ ∀ k, k < i → absQ (loT T k - loT U k) ≤ m ∧ absQ (hiT T k - hiT U k) ≤ m) ⟨0, _, _, _, _, rfl, Rat.le_refl, sz_zero' 81, fun k hk => by omega⟩ (fun i hi s ⟨m, o3, o4, o5, o6, hs, m0, sm, le⟩ => by
      subst hs
      rw [List.length_range] at hi
      rw [List.getElem_range]
      have s1 := t.sz i hi
      have s2 := u.sz i (by omega)
      obtain ⟨a1, a2, a3⟩ := side _ _ m s1.1 s2.1 sm
      obtain ⟨b1, b2, b3⟩ := side _ _ (gre m (absQ (loT T i - loT U i))) s1.2 s2.2 a3
      have n1 := num_abs (loT T i - loT U i)
      have n2 := num_abs (hiT T i - hiT U i)
      have j1 : dIx (numD (loT T i - loT U i)) (.int 0) = some (.int (loT T i - loT U i).num) := v_ixt
      have j2 : dIx (numD (loT T i - loT U i)) (.int 1) = some (.int ((loT T i - loT U i).den : Int)) := v_ixt1
      have j3 : dIx (numD (hiT T i - hiT U i)) (.int 0) = some (.int (hiT T i - hiT U i).num) := v_ixt
      have j4 : dIx (numD (hiT T i - hiT U i)) (.int 1) = some (.int ((hiT T i - hiT U i).den : Int)) := v_ixt1
      have ab1 := ai (loT T i - loT U i)
      have ab2 := ai (hiT T i - hiT U i)
      refine ⟨_, [.val (tubeX T), .val (tubeX U), .val (numD (gre (gre m (absQ (loT T i - loT U i))) (absQ (hiT T i - hiT U i)))), .val (.tup [numD (loT T i), numD (hiT T i)]), .val (.tup [numD (loT U i), numD (hiT U i)]), .val (.int 1), .val (numD (hiT T i - hiT U i))], rfl, .inl ?_, _, _, _, _, _, rfl, ?_, b3, fun k hk => ?_⟩
      · generalize tubeX T = X at *
        generalize tubeX U = Y at *
        generalize loT T i = a at *
        generalize loT U i = b at *
        generalize hiT T i = c at *
        generalize hiT U i = d at *
        generalize (if (a - b).num < 0 then -(a - b).num else (a - b).num) = w1 at *
        generalize (if (c - d).num < 0 then -(c - d).num else (c - d).num) = w2 at *
        generalize ((a - b).den : Int) = w3 at *
        generalize ((c - d).den : Int) = w4 at *
        generalize (a - b).num = w5 at *
        generalize (c - d).num = w6 at *
        generalize numD (absQ (a - b)) = w7 at *
        generalize numD (absQ (c - d)) = w8 at *
        generalize numD (a - b) = w9 at *
        generalize numD (c - d) = w10 at *
        generalize numD (gre m (absQ (a - b))) = w11 at *
        simp [l1__law_far, v_forD_cons, l2__law_far, cap, a1, a2, b1, b2, j1, j2, j3, j4, ab1, ab2, n1, n2]
      · unfold gre
        split <;> split <;> first | exact absQ_nn _ | exact m0
      · have up : m ≤ gre (gre m (absQ (loT T i - loT U i))) (absQ (hiT T i - hiT U i)) ∧ absQ (loT T i - loT U i) ≤ gre (gre m (absQ (loT T i - loT U i))) (absQ (hiT T i - hiT U i)) ∧ absQ (hiT T i - hiT U i) ≤ gre (gre m (absQ (loT T i - loT U i))) (absQ (hiT T i - hiT U i)) := by
          unfold gre
          generalize absQ (loT T i - loT U i) = x at *
          generalize absQ (hiT T i - hiT U i) = y at *
          refine ⟨?_, ?_, ?_⟩ <;> (split <;> split <;> grind)
        by_cases c : k < i
        · have := le k c
          constructor <;> grind
        · obtain rfl : k = i := by omega
          exact ⟨up.2.1, up.2.2⟩)
  rw [List.length_range] at le
  refine ⟨m, m0, sm, le, ?_⟩
  have e0 : D.tup [.int 0, .int 1] = numD 0 := rfl
  generalize (List.range T.length).map (zipX T U) = ZZ at *
  generalize tubeX T = X at *
  generalize tubeX U = Y at *
  simp [m__law_far, b__law_far, runP, e0, cap, zi, e]
/-! looked at here -/
theorem c_is_num92 {q : Rat} (h : Sz 4000 q) : m__law_is_number [numD q] = some (.bl true) := by
  have lw := c_low (t := q.num) (b := (q.den : Int)) (n := 4000) (by have := q.den_nz; omega) h.2 (by decide)
  rw [Rat.num_divInt_den] at lw
  have d : ¬ (q.den : Int) < 1 := by have := q.den_pos; omega
  have l := lcD_pure (g := gN 1) (fe := eAnd (e1 (isTy "int") (eVar 1)) (eNot (e1 (isTy "bool") (eVar 1)))) (own := [1]) (s := [.val (numD q), .un]) D.int (fun _ => .bl true) [q.num, (q.den : Int)] (fun a _ => ⟨_, rfl, by simp [isTy], rfl⟩) (by unfold cap; simp)
  simp only [List.map_cons, List.map_nil] at l
  have i0 : dIx (numD q) (.int 0) = some (.int q.num) := v_ixt
  have i1 : dIx (numD q) (.int 1) = some (.int (q.den : Int)) := v_ixt1
  have it : items (numD q) = some [.int q.num, .int (q.den : Int)] := rfl
  have ty : isTy "tuple" (numD q) = some (.bl true) := rfl
  have bl : bLen [numD q] = some (.int 2) := rfl
  have ne : dNe (.int 2) (.int 2) = some (.bl false) := dNe_self rfl
  have eq := Eqn.num.dEq (by decide) q q
  rw [decide_eq_true rfl] at eq
  have al : bAll [.lst [.bl true, .bl true]] = some (.bl true) := rfl
  generalize (q.den : Int) = qd at *
  generalize q.num = qn at *
  generalize numD q = Q at *
  simp [m__law_is_number, b__law_is_number, runP, ty, bl, ne, it, l, al, i0, i1, d, lw, eq]
theorem c_is_row92 {T : List (Rat × Rat)} {R : List Rat} {b : Nat} (hb : b ≤ 4000) (b40 : 40 ≤ b) (t : TubeOk 40 T) (hl : R.length = T.length) (sz : ∀ k, k < T.length → Sz b (at0 R k)) (w : ∀ k, k < T.length → loT T k ≤ at0 R k ∧ at0 R k ≤ hiT T k) : m__law_is_row [tubeX T, rowX R] = some (.bl true) := by
  have n25 := t.n25
  have l1 := lcD_pure (g := gN 2) (fe := eCall m__law_is_number (aCons (eVar 2) (aNil))) (own := [2]) (s := [.val (tubeX T), .val (rowX R), .un, .un]) numD (fun _ => .bl true) R (fun q hq => ⟨_, rfl, by
    obtain ⟨k, hk, rfl⟩ := at0_mem hq
    have c := c_is_num92 ((sz k (by omega)).mono hb)
    generalize at0 R k = v at *
    generalize tubeX T = X at *
    generalize rowX R = Y at *
    simp [c], rfl⟩) (by unfold cap; omega)
  have l2 := lcD_pure (g := gN 3) (fe := eOr (eCall m__law_under (aCons (e2 dIx (eVar 1) (eVar 3)) (aCons (e2 dIx (e2 dIx (eVar 0) (eVar 3)) (eC (.int 0))) (aNil)))) (eCall m__law_under (aCons (e2 dIx (e2 dIx (eVar 0) (eVar 3)) (eC (.int 1))) (aCons (e2 dIx (eVar 1) (eVar 3)) (aNil))))) (own := [3]) (s := [.val (tubeX T), .val (rowX R), .un, .un])
    (fun (k : Nat) => D.int (k : Int)) (fun _ => .bl false) (List.range T.length) (fun k hk => ⟨_, rfl, by
      have hk := List.mem_range.mp hk
      have rx := row_at (R := R) (k := k) (by omega)
      have tx : dIx (tubeX T) (.int (k : Int)) = some (.tup [numD (loT T k), numD (hiT T k)]) := ((tubeX_seq T).ix k).trans (tube_at hk)
      have s := t.sz k hk
      have ww := w k hk
      have u1 := c_under ((sz k hk).mono hb) (s40 s.1) (Nat.le_refl _)
      have u2 := c_under (s40 s.2) ((sz k hk).mono hb) (Nat.le_refl _)
      rw [decide_eq_false (by grind)] at u1 u2
      generalize at0 R k = y at *
      generalize loT T k = l at *
      generalize hiT T k = h at *
      generalize tubeX T = X at *
      generalize rowX R = Y at *
      generalize (k : Int) = ki at *
      simp [rx, tx, u1, u2], rfl⟩) (by rw [List.length_range]; unfold cap; omega)
  have it : items (rowX R) = some (R.map numD) := rfl
  have ty : isTy "tuple" (rowX R) = some (.bl true) := rfl
  have bl : bLen [tubeX T] = some (.int (T.length : Int)) := by simp [tubeX]
  have bl2 : bLen [rowX R] = some (.int (T.length : Int)) := by rw [← hl]; simp [rowX]
  have ne : dNe (.int (T.length : Int)) (.int (T.length : Int)) = some (.bl false) := dNe_self rfl
  have al : bAll [.lst (R.map fun _ => D.bl true)] = some (.bl true) := by simp [bAll, boolsD_map]
  have an : bAny [.lst ((List.range T.length).map fun _ => D.bl false)] = some (.bl false) := by simp [bAny, boolsD_map]
  have rg : ∀ (o0 : O) (st : S), DL.iRng1 (aCons (eCall bLen (aCons (eVar 1) (aNil))) (aNil)) (o0 :: .val (rowX R) :: st) = some ((List.range T.length).map fun (k : Nat) => D.int (k : Int), o0 :: .val (rowX R) :: st) := fun o0 st => by
    rw [rng1_ok T.length (by omega) (s' := o0 :: .val (rowX R) :: st) (by simp [bl2])]
    simp [rangeD]
  generalize (R.map fun _ => D.bl true) = B1 at *
  generalize ((List.range T.length).map fun _ => D.bl false) = B2 at *
  generalize ((List.range T.length).map fun (k : Nat) => D.int (k : Int)) = RG at *
  generalize R.map numD = RM at *
  generalize tubeX T = X at *
  generalize rowX R = Y at *
  generalize (T.length : Int) = n at *
  simp [m__law_is_row, b__law_is_row, runP, ty, bl, bl2, ne, it, l1, al, rg, l2, an]
theorem row_before {S0 : List Rat} {k : Nat} (hk : k < S0.length) (h2 : S0.length ≤ 1000) : dIx (rowX S0) (.int ((k : Int) - 1)) = some (numD (at0 S0 (if k = 0 then S0.length - 1 else k - 1))) := by
  by_cases c : k = 0
  · subst c
    rw [if_pos rfl]
    have e : ((0 : Nat) : Int) - 1 = -1 := rfl
    rw [e]
    unfold rowX
    rw [dIx_lastT (by simpa using hk), List.length_map]
    simp [at0, show S0.length - 1 < S0.length by omega]
  · rw [if_neg c, show (k : Int) - 1 = ((k - 1 : Nat) : Int) by omega]
    exact row_at (by omega)
theorem c_bends92 {S0 R : List Rat} {T : List (Rat × Rat)} {p b : Nat} (hb : b ≤ 4000) (t : TubeOk 40 T) (h1 : S0.length ≤ T.length) (h2 : R.length = T.length) (hp : p ≤ S0.length) (sz : ∀ k, k < S0.length → Sz b (at0 S0 k))
    (up : ∀ k, p ≤ k → k < S0.length → at0 S0 (if k = 0 then S0.length - 1 else k - 1) < at0 S0 k → at0 R k = hiT T k) (dn : ∀ k, p ≤ k → k < S0.length → at0 S0 k < at0 S0 (if k = 0 then S0.length - 1 else k - 1) → at0 R k = loT T k) : m__law_bends_right [rowX S0, tubeX T, rowX R, .int (p : Int)] = some (.bl true) := by
  have n25 := t.n25
  obtain ⟨s', e, o, rfl⟩ := forD_rng (g := gN 4) (fb := l1__law_bends_right) (s := [.val (rowX S0), .val (tubeX T), .val (rowX R), .val (.int (p : Int)), .un]) p (S0.length - p)
    (fun i s => ∃ o : O, s = [.val (rowX S0), .val (tubeX T), .val (rowX R), .val (.int (p : Int)), o]) ⟨_, rfl⟩ (fun i s hpi hi ⟨o, hs⟩ => by
      subst hs
      have hk : i < S0.length := by omega
      have r1 := row_before hk (by omega)
      have r2 := row_at (R := S0) (k := i) hk
      have r3 := row_at (R := R) (k := i) (by omega)
      have tx : dIx (tubeX T) (.int (i : Int)) = some (.tup [numD (loT T i), numD (hiT T i)]) := ((tubeX_seq T).ix i).trans (tube_at (by omega))
      have u1 := up i hpi hk
      have d1 := dn i hpi hk
      have sb : Sz b (at0 S0 (if i = 0 then S0.length - 1 else i - 1)) := sz _ (by split <;> omega)
      have l1 := c_under (sb.mono hb) ((sz i hk).mono hb) (Nat.le_refl _)
      have l2 := c_under ((sz i hk).mono hb) (sb.mono hb) (Nat.le_refl _)
      have q1 := Eqn.num.dNe (by decide) (at0 R i) (hiT T i)
      have q2 := Eqn.num.dNe (by decide) (at0 R i) (loT T i)
      refine ⟨_, [.val (rowX S0), .val (tubeX T), .val (rowX R), .val (.int (p : Int)), .val (.int (i : Int))], rfl, .inl ?_, _, rfl⟩
      generalize at0 S0 (if i = 0 then S0.length - 1 else i - 1) = a at *
      generalize at0 S0 i = c at *
      generalize at0 R i = y at *
      generalize loT T i = lo at *
      generalize hiT T i = h at *
      generalize rowX S0 = SX at *
      generalize rowX R = RX at *
      generalize tubeX T = TX at *
      generalize (i : Int) = ii at *
      generalize (p : Int) = pp at *
      rcases tri a c with z | z | z
      · have z2 : ¬ c < a := by grind
        have y1 := u1 z
        rw [decide_eq_false (by simpa using y1)] at q1
        simp [l1__law_bends_right, r1, r2, r3, tx, l1, l2, z, z2, q1]
      · have z1 : ¬ a < c := by grind
        have z2 : ¬ c < a := by grind
        simp [l1__law_bends_right, r1, r2, r3, tx, l1, l2, z1, z2]
      · have z1 : ¬ a < c := by grind
        have y1 := d1 z
        rw [decide_eq_false (by simpa using y1)] at q2
        simp [l1__law_bends_right, r1, r2, r3, tx, l1, l2, z1, z, q2])
  have bl : bLen [rowX S0] = some (.int (S0.length : Int)) := by simp [rowX]
  have rg : ∀ (o1 o2 : O) (st : S), DL.iRng2 (aCons (eVar 3) (aCons (eCall bLen (aCons (eVar 0) (aNil))) (aNil))) (.val (rowX S0) :: o1 :: o2 :: .val (.int (p : Int)) :: st) = some (rangeD (p : Int) (S0.length - p), .val (rowX S0) :: o1 :: o2 :: .val (.int (p : Int)) :: st) := fun o1 o2 st => rng2_ok p S0.length (by omega) (by omega) (by simp [bl])
  generalize rangeD (p : Int) (S0.length - p) = RG at *
  generalize rowX S0 = SX at *
  generalize rowX R = RX at *
  generalize tubeX T = TX at *
  generalize (p : Int) = pp at *
  simp [m__law_bends_right, b__law_bends_right, runP, rg, e]
theorem num_lt' {q : Rat} : q.num < 0 ↔ q < 0 := by
  have a := @num_pos' (-q)
  have e : (-q).num = -q.num := rfl
  rw [e] at a
  constructor
  · intro h
    have := a.mp (by omega)
    grind
  · intro h
    have := a.mpr (by grind)
    omega
theorem c_ends92 {T : List (Rat × Rat)} {R : List Rat} {b : Nat} (hb : b ≤ 4000) (t : TubeOk 40 T) (hl : R.length = T.length) (sz : ∀ k, k < T.length → Sz b (at0 R k)) (W : Bent false (loT T) (hiT T) (at0 R) T.length) : m__law_ends_right [tubeX T, rowX R] = some (.bl true) := by
  have n2 := t.n2
  have n25 := t.n25
  have st := c_lsteps' (R := R) (b := b) (by omega) (by omega) (fun k hk => sz k (by omega)) hb
  have sl := stepsR_len R
  have f := row_at (R := stepsR R) (k := 0) (by omega)
  rw [show ((0 : Nat) : Int) = 0 from rfl] at f
  have l : dIx (rowX (stepsR R)) (.int (-1)) = some (numD (at0 (stepsR R) (R.length - 2))) := by
    have := row_before (S0 := stepsR R) (k := 0) (by omega) (by omega)
    rw [if_pos rfl, sl, show R.length - 1 - 1 = R.length - 2 by omega] at this
    exact this
  have e0 : at0 (stepsR R) 0 = stp false (at0 R) T.length 1 := by
    rw [stepsR_at (by omega), stp_succ (by omega)]
    rfl
  have e1 : at0 (stepsR R) (R.length - 2) = stp false (at0 R) T.length (T.length - 1) := by
    rw [stepsR_at (by omega), stp_in (by omega) (by omega)]
    unfold stR
    rw [hl, show T.length - 2 + 1 = T.length - 1 by omega, show T.length - 1 - 1 = T.length - 2 by omega]
  have u0 := W.up 0 (by omega)
  have d0 := W.down 0 (by omega)
  have u1 := W.up (T.length - 1) (by omega)
  have d1 := W.down (T.length - 1) (by omega)
  rw [stp_end (k := T.length - 1 + 1) (by omega), stp_loose] at u1 d1
  rw [stp_loose, Nat.zero_add] at u0 d0
  rw [← e0] at u0 d0
  rw [← e1] at u1 d1
  have r0 := row_at (R := R) (k := 0) (by omega)
  rw [show ((0 : Nat) : Int) = 0 from rfl] at r0
  have r1 : dIx (rowX R) (.int (-1)) = some (numD (at0 R (T.length - 1))) := by
    have := row_before (S0 := R) (k := 0) (by omega) (by omega)
    rw [if_pos rfl, hl] at this
    exact this
  have i0 := tubeX_first (T := T) (by omega)
  have i1 := tubeX_last (T := T) (by omega)
  have p0 := @num_pos' (at0 (stepsR R) 0)
  have p1 := @num_pos' (at0 (stepsR R) (R.length - 2))
  have m0 := @num_lt' (at0 (stepsR R) 0)
  have m1 := @num_lt' (at0 (stepsR R) (R.length - 2))
  generalize at0 (stepsR R) 0 = s0 at *
  generalize at0 (stepsR R) (R.length - 2) = s1 at *
  have j0 : dIx (numD s0) (.int 0) = some (.int s0.num) := v_ixt
  have j1 : dIx (numD s1) (.int 0) = some (.int s1.num) := v_ixt
  have q1 := Eqn.num.dNe (by decide) (at0 R 0) (hiT T 0)
  have q2 := Eqn.num.dNe (by decide) (at0 R 0) (loT T 0)
  have q3 := Eqn.num.dNe (by decide) (at0 R (T.length - 1)) (loT T (T.length - 1))
  have q4 := Eqn.num.dNe (by decide) (at0 R (T.length - 1)) (hiT T (T.length - 1))
  generalize at0 R 0 = y0 at *
  generalize at0 R (T.length - 1) = y1 at *
  generalize loT T 0 = l0 at *
  generalize hiT T 0 = h0 at *
  generalize loT T (T.length - 1) = l1 at *
  generalize hiT T (T.length - 1) = h1 at *
  have q1' : 0 < s0.num → dNe (numD y0) (numD h0) = some (.bl false) := fun h => by rw [q1, decide_eq_false (by simpa using u0 (p0.mp h))]
  have q2' : s0.num < 0 → dNe (numD y0) (numD l0) = some (.bl false) := fun h => by rw [q2, decide_eq_false (by simpa using d0 (m0.mp h))]
  have q3' : 0 < s1.num → dNe (numD y1) (numD l1) = some (.bl false) := fun h => by rw [q3, decide_eq_false (by simpa using d1 (p1.mp h))]
  have q4' : s1.num < 0 → dNe (numD y1) (numD h1) = some (.bl false) := fun h => by rw [q4, decide_eq_false (by simpa using u1 (m1.mp h))]
  clear q1 q2 q3 q4 u0 d0 u1 d1 p0 p1 m0 m1 e0 e1
  generalize numD y0 = yd0 at *
  generalize numD y1 = yd1 at *
  generalize numD l0 = ld0 at *
  generalize numD h0 = hd0 at *
  generalize numD l1 = ld1 at *
  generalize numD h1 = hd1 at *
  generalize s0.num = a at *
  generalize s1.num = c at *
  generalize numD s0 = sd0 at *
  generalize numD s1 = sd1 at *
  generalize rowX (stepsR R) = SX at *
  generalize rowX R = RX at *
  generalize tubeX T = TX at *
  have tri : ∀ z : Int, 0 < z ∨ z = 0 ∨ z < 0 := fun z => by omega
  rcases tri a with za | za | za <;> rcases tri c with zc | zc | zc
  · have q1 := q1' za; have q3 := q3' zc
    have na : ¬ a < 0 := by omega
    have nc : ¬ c < 0 := by omega
    simp [m__law_ends_right, b__law_ends_right, runP, st, f, l, j0, j1, r0, r1, i0, i1, za, zc, na, nc, q1, q3]
  · have q1 := q1' za
    have na : ¬ a < 0 := by omega
    subst zc
    simp [m__law_ends_right, b__law_ends_right, runP, st, f, l, j0, j1, r0, r1, i0, i1, za, na, q1]
  · have q1 := q1' za; have q4 := q4' zc
    have na : ¬ a < 0 := by omega
    have nc : ¬ 0 < c := by omega
    simp [m__law_ends_right, b__law_ends_right, runP, st, f, l, j0, j1, r0, r1, i0, i1, za, zc, na, nc, q1, q4]
  · have q3 := q3' zc
    have nc : ¬ c < 0 := by omega
    subst za
    simp [m__law_ends_right, b__law_ends_right, runP, st, f, l, j0, j1, r0, r1, i0, i1, zc, nc, q3]
  · subst za
    subst zc
    simp [m__law_ends_right, b__law_ends_right, runP, st, f, l, j0, j1, r0, r1, i0, i1]
  · have q4 := q4' zc
    have nc : ¬ 0 < c := by omega
    subst za
    simp [m__law_ends_right, b__law_ends_right, runP, st, f, l, j0, j1, r0, r1, i0, i1, zc, nc, q4]
  · have q2 := q2' za; have q3 := q3' zc
    have na : ¬ 0 < a := by omega
    have nc : ¬ c < 0 := by omega
    simp [m__law_ends_right, b__law_ends_right, runP, st, f, l, j0, j1, r0, r1, i0, i1, za, zc, na, nc, q2, q3]
  · have q2 := q2' za
    have na : ¬ 0 < a := by omega
    subst zc
    simp [m__law_ends_right, b__law_ends_right, runP, st, f, l, j0, j1, r0, r1, i0, i1, za, na, q2]
  · have q2 := q2' za; have q4 := q4' zc
    have na : ¬ 0 < a := by omega
    have nc : ¬ 0 < c := by omega
    simp [m__law_ends_right, b__law_ends_right, runP, st, f, l, j0, j1, r0, r1, i0, i1, za, zc, na, nc, q2, q4]
theorem c_level92 {T : List (Rat × Rat)} {top bot : Rat} (t : TubeOk 40 T) (B : TopBot T top bot) : m__law_level [tubeX T] = some (if bot < top then .non else numD top) := by
  have n2 := t.n2
  obtain ⟨s', e, m, w, o3, o4, rfl, ⟨j, hj, em⟩, ⟨j2, hj2, ew⟩, le, ge⟩ := forD_map (g := gTup (gsCons (gN 3) (gsCons (gN 4) (gsNil)))) (fb := l1__law_level) (s := [.val (tubeX T), .val (numD (loT T 0)), .val (numD (hiT T 0)), .un, .un]) pairD T
    (fun i s => ∃ (m w : Rat) (o3 o4 : O), s = [.val (tubeX T), .val (numD m), .val (numD w), o3, o4] ∧ (∃ k, k < T.length ∧ m = loT T k) ∧ (∃ k, k < T.length ∧ w = hiT T k) ∧ (∀ k, k < i → loT T k ≤ m) ∧ ∀ k, k < i → w ≤ hiT T k) ⟨_, _, _, _, rfl, ⟨0, by omega, rfl⟩, ⟨0, by omega, rfl⟩, fun k hk => by omega, fun k hk => by omega⟩ (fun i hi s ⟨m, w, o3, o4, hs, ⟨j, hj, em⟩, ⟨j2, hj2, ew⟩, le, ge⟩ => by
      subst hs
      have s1 := t.sz j hj
      have s2 := t.sz j2 hj2
      have si := t.sz i hi
      have g := c_greater (s40 s1.1) (s40 si.1)
      have l := c_lesser (s40 s2.2) (s40 si.2)
      rw [← em] at g
      rw [← ew] at l
      have ei : T[i] = (loT T i, hiT T i) := by simp [loT, hiT, hi]
      rw [ei]
      refine ⟨_, [.val (tubeX T), .val (numD (gre m (loT T i))), .val (numD (les w (hiT T i))), .val (numD (loT T i)), .val (numD (hiT T i))], rfl, .inl ?_, _, _, _, _, rfl, ?_, ?_, fun k hk => ?_, fun k hk => ?_⟩
      · generalize tubeX T = X at *
        generalize loT T i = a at *
        generalize hiT T i = b at *
        simp [l1__law_level, g, l]
      · unfold gre; split
        · exact ⟨i, hi, rfl⟩
        · exact ⟨j, hj, em⟩
      · unfold les; split
        · exact ⟨j2, hj2, ew⟩
        · exact ⟨i, hi, rfl⟩
      · unfold gre
        by_cases c : k = i
        · subst c; split <;> grind
        · have := le k (by omega); split <;> grind
      · unfold les
        by_cases c : k = i
        · subst c; split <;> grind
        · have := ge k (by omega); split <;> grind)
  have em' : m = top := by
    obtain ⟨k, hk, ek⟩ := B.t1
    have := le k hk
    have := B.t2 j hj
    grind
  have ew' : w = bot := by
    obtain ⟨k, hk, ek⟩ := B.b1
    have := ge k hk
    have := B.b2 j2 hj2
    grind
  subst em'
  subst ew'
  have i0 := tubeX_first (T := T) (by omega)
  obtain ⟨z1, z2⟩ := B.sz t
  have u := c_under (s40 z2) (s40 z1) (Nat.le_refl _)
  have it : items (tubeX T) = some (T.map pairD) := rfl
  generalize tubeX T = X at *
  generalize T.map pairD = TP at *
  generalize loT T 0 = l0 at *
  generalize hiT T 0 = h0 at *
  by_cases z : w < m
  · simp [m__law_level, b__law_level, runP, i0, it, e, u, z]
  · simp [m__law_level, b__law_level, runP, i0, it, e, u, z]
/-! kinds of rows -/
def Kd (c : Nat) (lo hi r : Nat → Rat) (n : Nat) : Prop := if c = 0 then Taut lo hi r n else Told (decide (c = 2)) lo hi r n
structure KOk (c : Nat) (T : List (Rat × Rat)) : Prop where
  t : TubeOk 40 T
  c2 : c ≤ 2
  tied : c = 0 → loT T 0 = hiT T 0 ∧ loT T (T.length - 1) = hiT T (T.length - 1)
  ring : c = 2 → 3 ≤ T.length ∧ T.length ≤ 24
structure KRow (c : Nat) (T : List (Rat × Rat)) (R : List Rat) : Prop where
  len : R.length = T.length
  kd : Kd c (loT T) (hiT T) (at0 R) T.length
  sz : ∀ k, k < T.length → Sz 139 (at0 R k)
theorem Kd.within {c n : Nat} {lo hi r : Nat → Rat} (h : Kd c lo hi r n) : ∀ k, k < n → lo k ≤ r k ∧ r k ≤ hi k := by
  unfold Kd at h
  split at h
  · exact h.within
  · exact h.within
theorem Kd.le {c n : Nat} {lo hi r lo' hi' r' : Nat → Rat} (n0 : 0 < n) (h : Kd c lo hi r n) (h' : Kd c lo' hi' r' n) (td : c = 0 → lo 0 = hi 0 ∧ lo (n - 1) = hi (n - 1)) (hl : ∀ k, k < n → lo k ≤ lo' k) (hh : ∀ k, k < n → hi k ≤ hi' k) : ∀ k, k < n → r k ≤ r' k := by
  unfold Kd at h h'
  by_cases z : c = 0
  · rw [if_pos z] at h h'
    have a := td z
    have w0 := h.within 0 n0
    have w1 := h.within (n - 1) (by omega)
    have v0 := h'.within 0 n0
    have v1 := h'.within (n - 1) (by omega)
    have b0 := hl 0 n0
    have b1 := hl (n - 1) (by omega)
    exact h.le h' hl hh (by grind) (by grind)
  · rw [if_neg z] at h h'
    exact h.le h'.toBent hl hh
theorem Kd.shift {c n : Nat} {lo hi r : Nat → Rat} (h : Kd c lo hi r n) (d : Rat) : Kd c (fun k => lo k + d) (fun k => hi k + d) (fun k => r k + d) n := by
  unfold Kd at h ⊢
  split <;> rename_i z
  · rw [if_pos z] at h
    exact h.shift
  · rw [if_neg z] at h
    have := h.aff (c := 1) (d := d) (by decide)
    exact this.congr fun k hk => ⟨by grind, by grind, by grind⟩
theorem c_told92 {c : Nat} {T : List (Rat × Rat)} (K : KOk c T) : ∃ R : List Rat, KRow c T R ∧ m__law_told [.int (c : Int), tubeX T] = some (rowX R) := by
  have c2 := K.c2
  have cc : c = 0 ∨ c = 1 ∨ c = 2 := by omega
  rcases cc with rfl | rfl | rfl
  · obtain ⟨R, a1, a2, a3, a4, a5⟩ := c_cord ⟨K.t, (K.tied rfl).1, (K.tied rfl).2⟩ (by decide)
    refine ⟨R, ⟨a1, a2, fun k hk => a4 k (by omega)⟩, ?_⟩
    generalize tubeX T = X at *
    generalize rowX R = Y at *
    have q : dEq (.int ((0 : Nat) : Int)) (.int 0) = some (.bl true) := rfl
    simp [m__law_told, b__law_told, runP, a3]
  · obtain ⟨R, a1, a2, a3, a4, a5⟩ := c_loose_cord K.t (by decide)
    refine ⟨R, ⟨a1, a2, fun k hk => a3 k (by omega)⟩, ?_⟩
    generalize tubeX T = X at *
    generalize rowX R = Y at *
    simp [m__law_told, b__law_told, runP, a4]
  · obtain ⟨R, a1, a2, a3, a4, a5⟩ := c_ring_cord K.t (K.ring rfl).1 (K.ring rfl).2 (by decide)
    refine ⟨R, ⟨a1, a2, fun k hk => a3 k (by omega)⟩, ?_⟩
    generalize tubeX T = X at *
    generalize rowX R = Y at *
    simp [m__law_told, b__law_told, runP, a4]
theorem told_top {b : Bool} {T : List (Rat × Rat)} {top bot : Rat} (B : TopBot T top bot) (h : top ≤ bot) {r : Nat → Rat} (W : Told b (loT T) (hiT T) r T.length) : ∀ k, k < T.length → r k = top := by
  have c : Told b (loT T) (hiT T) (fun _ => top) T.length := ⟨Bent.const fun k hk => ⟨B.t2 k hk, Rat.le_trans h (B.b2 k hk)⟩, fun c hc k hk => by
    obtain ⟨i, hi, e⟩ := B.t1
    rw [e]
    exact (hc i hi).1⟩
  exact W.uniq c
/-- the steps of a row with its first number behind it -/
theorem round_steps {R : List Rat} (h : 1 ≤ R.length) : stepsR (R ++ R.take 1) = ringR R := by
  have l1 : (stepsR (R ++ R.take 1)).length = R.length := by rw [stepsR_len]; simp; omega
  refine rows_eq (n := R.length) l1 (by simp [ringR]) fun k hk => ?_
  rw [stepsR_at (by simp; omega)]
  have e : at0 (ringR R) k = stp true (at0 R) R.length (k + 1) := by simp [ringR, at0, hk]
  rw [e]
  unfold stR
  rw [at0_left hk]
  by_cases c : k + 1 < R.length
  · rw [at0_left c, stp_succ c]
  · have : at0 (R ++ R.take 1) (k + 1) = at0 R 0 := by
      rw [at0_right' (by omega), show k + 1 - R.length = 0 by omega]
      simp [at0, show 0 < R.length by omega]
    rw [this, stp_end (k := k + 1) (by omega), stp_ring, show R.length - 1 = k by omega]
theorem c_taut92 {c : Nat} {T : List (Rat × Rat)} {R : List Rat} (K : KOk c T) (W : KRow c T R) : m__law_taut [.int (c : Int), tubeX T, rowX R] = some (.bl true) := by
  have n2 := K.t.n2
  have n25 := K.t.n25
  have c2 := K.c2
  have hl := W.len
  have ir := c_is_row92 (b := 139) (by decide) (by decide) K.t hl W.sz W.kd.within
  obtain ⟨top, bot, B⟩ := c_topbot K.t (by decide)
  have lv := c_level92 K.t B
  have st := c_lsteps' (R := R) (b := 139) (by omega) (by omega) (fun k hk => W.sz k (by omega)) (by decide)
  have sl := stepsR_len R
  have ssz : ∀ k, k < (stepsR R).length → Sz 279 (at0 (stepsR R) k) := fun k hk => by
    rw [stepsR_at (by omega)]
    exact (W.sz (k + 1) (by omega)).subn (W.sz k (by omega)) (by decide)
  have cc : c = 0 ∨ c = 1 ∨ c = 2 := by omega
  have inb : (∀ k, 0 < k → k + 1 < T.length → at0 R k - at0 R (k - 1) < at0 R (k + 1) - at0 R k → at0 R k = hiT T k) → (∀ k, 0 < k → k + 1 < T.length → at0 R (k + 1) - at0 R k < at0 R k - at0 R (k - 1) → at0 R k = loT T k) → m__law_bends_right [rowX (stepsR R), tubeX T, rowX R, .int 1] = some (.bl true) := fun up dn => by
    refine c_bends92 (p := 1) (b := 279) (by decide) K.t (by omega) hl (by omega) ssz (fun k h1 hk z => ?_) (fun k h1 hk z => ?_)
    · rw [if_neg (by omega), stepsR_at (by omega), stepsR_at (by omega)] at z
      unfold stR at z
      rw [show k - 1 + 1 = k by omega] at z
      exact up k h1 (by omega) z
    · rw [if_neg (by omega), stepsR_at (by omega), stepsR_at (by omega)] at z
      unfold stR at z
      rw [show k - 1 + 1 = k by omega] at z
      exact dn k h1 (by omega) z
  have bl : bLen [tubeX T] = some (.int (T.length : Int)) := by simp [tubeX]
  rcases cc with rfl | rfl | rfl
  · have W0 : Taut (loT T) (hiT T) (at0 R) T.length := W.kd
    have be := inb W0.up W0.down
    generalize tubeX T = X at *
    generalize rowX R = Y at *
    generalize rowX (stepsR R) = Z at *
    generalize (if bot < top then D.non else numD top) = LV at *
    simp [m__law_taut, b__law_taut, runP, ir, lv, st, be]
  · have W1 : Told false (loT T) (hiT T) (at0 R) T.length := W.kd
    by_cases z : bot < top
    · rw [if_pos z] at lv
      have be := inb (fun k k0 hk h => W1.up k (by omega) (by rw [stp_in k0 (by omega), stp_succ hk]; exact h)) (fun k k0 hk h => W1.down k (by omega) (by rw [stp_in k0 (by omega), stp_succ hk]; exact h))
      have en := c_ends92 (b := 139) (by decide) K.t hl W.sz W1.toBent
      generalize tubeX T = X at *
      generalize rowX R = Y at *
      generalize rowX (stepsR R) = Z at *
      simp [m__law_taut, b__law_taut, runP, ir, lv, st, be, en]
    · rw [if_neg z] at lv
      have rr := eq_rep hl (told_top B (by grind) W1)
      have cm := c_mult (q := top) (n := T.length) n2 (by omega)
      have eq := Eqn.row.dEq (by decide) (List.replicate T.length top) (List.replicate T.length top)
      rw [decide_eq_true rfl] at eq
      have eq' : dEq (rowX (List.replicate T.length top)) (rowX (List.replicate T.length top)) = some (.bl true) := eq
      rw [← rr] at eq' cm
      have nt : dNotN (numD top) = some (.bl true) := rfl
      clear rr inb
      generalize tubeX T = X at *
      generalize rowX R = Y at *
      generalize numD top = td at *
      generalize (T.length : Int) = n at *
      simp [m__law_taut, b__law_taut, runP, ir, lv, nt, cap, bl, cm, eq']
  · have W2 : Told true (loT T) (hiT T) (at0 R) T.length := W.kd
    by_cases z : bot < top
    · rw [if_pos z] at lv
      have n3 := (K.ring rfl).1
      have cu : dCut (rowX R) none (some 1) = some (rowX (R.take 1)) := by
        have := cut_to (xs := R.map numD) (k := 1)
        rw [show ((1 : Nat) : Int) = 1 from rfl] at this
        unfold rowX
        rw [v_dCutT, this, List.map_take]
      have ad : dAddL (rowX R) (rowX (R.take 1)) = some (rowX (R ++ R.take 1)) := by
        unfold rowX
        rw [List.map_append]
        simp [dAddL, dAdd, cap]
        omega
      have lw : (R ++ R.take 1).length = R.length + 1 := by simp; omega
      have st2 := c_lsteps' (R := R ++ R.take 1) (b := 139) (by omega) (by omega) (fun k hk => by
        by_cases c : k < R.length
        · rw [at0_left c]; exact W.sz k (by omega)
        · rw [at0_right' (by omega), show k - R.length = 0 by omega]
          have : at0 (R.take 1) 0 = at0 R 0 := by simp [at0, show 0 < R.length by omega]
          rw [this]
          exact W.sz 0 (by omega)) (by decide)
      rw [round_steps (by omega)] at st2
      have rl : (ringR R).length = T.length := by simp [ringR, hl]
      have ra : ∀ k, k < T.length → at0 (ringR R) k = stp true (at0 R) T.length (k + 1) := fun k hk => by simp [ringR, at0, hl, hk]
      have rp : ∀ k, k < T.length → at0 (ringR R) (if k = 0 then T.length - 1 else k - 1) = stp true (at0 R) T.length k := fun k hk => by
        by_cases c : k = 0
        · subst c
          rw [if_pos rfl, ra _ (by omega), stp_end (k := T.length - 1 + 1) (by omega)]
        · rw [if_neg c, ra _ (by omega), show k - 1 + 1 = k by omega]
      have be := c_bends92 (S0 := ringR R) (R := R) (p := 0) (b := 279) (by decide) K.t (by omega) hl (by omega) (fun k hk => by
        rw [rl] at hk
        rw [ra k hk]
        by_cases c : k + 1 < T.length
        · rw [stp_succ c]
          exact (W.sz (k + 1) c).subn (W.sz k (by omega)) (by decide)
        · rw [stp_end (k := k + 1) (by omega), stp_ring]
          exact (W.sz 0 (by omega)).subn (W.sz (T.length - 1) (by omega)) (by decide)) (fun k h1 hk z => by
        rw [rl] at hk z
        rw [rp k hk, ra k hk] at z
        exact W2.up k hk z) (fun k h1 hk z => by
        rw [rl] at hk z
        rw [rp k hk, ra k hk] at z
        exact W2.down k hk z)
      rw [show ((0 : Nat) : Int) = 0 from rfl] at be
      generalize rowX (R ++ R.take 1) = Y2 at *
      generalize rowX (R.take 1) = Y1 at *
      generalize tubeX T = X at *
      generalize rowX R = Y at *
      generalize rowX (ringR R) = Z at *
      simp [m__law_taut, b__law_taut, runP, ir, lv, cu, ad, st2, be]
    · rw [if_neg z] at lv
      have rr := eq_rep hl (told_top B (by grind) W2)
      have cm := c_mult (q := top) (n := T.length) n2 (by omega)
      have eq := Eqn.row.dEq (by decide) (List.replicate T.length top) (List.replicate T.length top)
      rw [decide_eq_true rfl] at eq
      have eq' : dEq (rowX (List.replicate T.length top)) (rowX (List.replicate T.length top)) = some (.bl true) := eq
      rw [← rr] at eq' cm
      have nt : dNotN (numD top) = some (.bl true) := rfl
      clear rr inb
      generalize tubeX T = X at *
      generalize rowX R = Y at *
      generalize numD top = td at *
      generalize (T.length : Int) = n at *
      simp [m__law_taut, b__law_taut, runP, ir, lv, nt, cap, bl, cm, eq']
theorem KOk.up {c : Nat} {T U : List (Rat × Rat)} (K : KOk c T) (L : KOk c U) (hl : U.length = T.length) : KOk c (upT T U) ∧ KOk c (dnT T U) := by
  have n2 := K.t.n2
  refine ⟨⟨upT_ok K.t L.t hl, K.c2, fun h => ?_, fun h => by rw [upT_len]; exact K.ring h⟩, ⟨dnT_ok K.t L.t hl, K.c2, fun h => ?_, fun h => by rw [dnT_len]; exact K.ring h⟩⟩
  · have a := K.tied h
    have b := L.tied h
    rw [upT_len, (upT_at (by omega)).1, (upT_at (by omega)).2, (upT_at (by omega)).1, (upT_at (by omega)).2, a.1, a.2, b.1, ← hl, b.2]
    exact ⟨rfl, rfl⟩
  · have a := K.tied h
    have b := L.tied h
    rw [dnT_len, (dnT_at (by omega)).1, (dnT_at (by omega)).2, (dnT_at (by omega)).1, (dnT_at (by omega)).2, a.1, a.2, b.1, ← hl, b.2]
    exact ⟨rfl, rfl⟩
theorem gre_ge (p q : Rat) : p ≤ gre p q ∧ q ≤ gre p q := by unfold gre; split <;> constructor <;> grind
theorem les_le (p q : Rat) : les p q ≤ p ∧ les p q ≤ q := by unfold les; split <;> constructor <;> grind
theorem far_le {p q d : Rat} (h : absQ (p - q) ≤ d) : gre p q ≤ les p q + d := by
  have := absQ_le.mp h
  unfold gre les
  split <;> grind
theorem turn92 {T : List (Rat × Rat)} {Rd R1 R2 Ru : List Rat} {n : Nat} {d : Rat} {i : Nat} (hi : i < n) (k0 : D) (X1 X2 X3 X4 : D) (o10 : O) (o11 : O) (ld : Rd.length = n) (l1 : R1.length = n) (l2 : R2.length = n) (lu : Ru.length = n)
    (sd : Sz 139 (at0 Rd i)) (s1 : Sz 139 (at0 R1 i)) (s2 : Sz 139 (at0 R2 i)) (su : Sz 139 (at0 Ru i)) (sD : Sz 81 d) (a1 : at0 Rd i ≤ at0 R1 i) (a2 : at0 Rd i ≤ at0 R2 i) (b1 : at0 R1 i ≤ at0 Ru i) (b2 : at0 R2 i ≤ at0 Ru i) (f : at0 Ru i ≤ at0 Rd i + d) :
    l1__law_right [.val k0, .val X1, .val X2, .val X3, .val X4, .val (numD d), .val (rowX Rd), .val (rowX R1), .val (rowX R2), .val (rowX Ru), .val (.int (i : Int)), o11] = some (.next [.val k0, .val X1, .val X2, .val X3, .val X4, .val (numD d), .val (rowX Rd), .val (rowX R1), .val (rowX R2), .val (rowX Ru), .val (.int (i : Int)), o11]) := by
  have rd := row_at (R := Rd) (k := i) (by omega)
  have r1 := row_at (R := R1) (k := i) (by omega)
  have r2 := row_at (R := R2) (k := i) (by omega)
  have ru := row_at (R := Ru) (k := i) (by omega)
  generalize at0 Rd i = yd at *
  generalize at0 R1 i = y1 at *
  generalize at0 R2 i = y2 at *
  generalize at0 Ru i = yu at *
  have z : ∀ {q : Rat}, Sz 139 q → Sz 4000 q := fun h => h.mono (by decide)
  have cl := c_lesser (z s1) (z s2)
  have cg := c_greater (z s1) (z s2)
  have u1 := c_under (z (les_sz s1 s2)) (z sd) (Nat.le_refl _)
  have u2 := c_under (z su) (z (gre_sz s1 s2)) (Nat.le_refl _)
  have lb := c_less_by (z su) (z sd) (Nat.le_refl _)
  have u3 := c_under (sD.mono (m := 4000) (by decide)) ((su.subn sd (k := 279) (by decide)).mono (by decide)) (Nat.le_refl _)
  rw [decide_eq_false (by unfold les; split <;> grind)] at u1
  rw [decide_eq_false (by unfold gre; split <;> grind)] at u2
  rw [decide_eq_false (by grind)] at u3
  generalize numD (les y1 y2) = v1 at *
  generalize numD (gre y1 y2) = v2 at *
  generalize numD (yu - yd) = v3 at *
  generalize rowX Rd = w1 at *
  generalize rowX R1 = w2 at *
  generalize rowX R2 = w3 at *
  generalize rowX Ru = w4 at *
  generalize (i : Int) = ii at *
  simp [l1__law_right, rd, r1, r2, ru, cl, cg, u1, u2, lb, u3]
theorem c_right92 {c : Nat} {T U : List (Rat × Rat)} (K : KOk c T) (L : KOk c U) (hl : U.length = T.length) : m__law_right [.int (c : Int), tubeX T, tubeX U] = some (.bl true) := by
  have n2 := K.t.n2
  have n25 := K.t.n25
  obtain ⟨Ku, Kd⟩ := K.up L hl
  have c4 := c_four K.t L.t hl
  obtain ⟨Rd, wd, td⟩ := c_told92 Kd
  obtain ⟨R1, w1, t1⟩ := c_told92 K
  obtain ⟨R2, w2, t2⟩ := c_told92 L
  obtain ⟨Ru, wu, tu⟩ := c_told92 Ku
  have qd := c_taut92 Kd wd
  have q1 := c_taut92 K w1
  have q2 := c_taut92 L w2
  have qu := c_taut92 Ku wu
  obtain ⟨d, d0, sD, far, cf⟩ := c_far K.t L.t hl
  have ud : (upT T U).length = T.length := upT_len
  have dd : (dnT T U).length = T.length := dnT_len
  have kdd := wd.kd
  have kd1 := w1.kd
  have kd2 := w2.kd
  have kdu := wu.kd
  rw [dd] at kdd
  rw [hl] at kd2
  rw [ud] at kdu
  have tdd := Kd.tied
  have tdl := L.tied
  rw [dd] at tdd
  rw [hl] at tdl
  have a1 := kdd.le (by omega) kd1 tdd (fun k hk => by rw [(dnT_at hk).1]; exact (les_le _ _).1) (fun k hk => by rw [(dnT_at hk).2]; exact (les_le _ _).1)
  have a2 := kdd.le (by omega) kd2 tdd (fun k hk => by rw [(dnT_at hk).1]; exact (les_le _ _).2) (fun k hk => by rw [(dnT_at hk).2]; exact (les_le _ _).2)
  have b1 := kd1.le (by omega) kdu K.tied (fun k hk => by rw [(upT_at hk).1]; exact (gre_ge _ _).1) (fun k hk => by rw [(upT_at hk).2]; exact (gre_ge _ _).1)
  have b2 := kd2.le (by omega) kdu tdl (fun k hk => by rw [(upT_at hk).1]; exact (gre_ge _ _).2) (fun k hk => by rw [(upT_at hk).2]; exact (gre_ge _ _).2)
  have tdu := Ku.tied
  rw [ud] at tdu
  have f := kdu.le (by omega) (kdd.shift d) tdu (fun k hk => by rw [(upT_at hk).1, (dnT_at hk).1]; exact far_le (far k hk).1) (fun k hk => by rw [(upT_at hk).2, (dnT_at hk).2]; exact far_le (far k hk).2)
  have lc := lcD_pure (g := gN 11) (fe := eCall m__law_told (aCons (eVar 0) (aCons (eVar 11) (aNil)))) (own := [11]) (s := [.val (.int (c : Int)), .val (tubeX T), .val (tubeX U), .val (.lst [tubeX (dnT T U), tubeX T, tubeX U, tubeX (upT T U)]), .un, .un, .un, .un, .un, .un, .un, .un])
    (fun p : D × D => p.1) (fun p => p.2) [(tubeX (dnT T U), rowX Rd), (tubeX T, rowX R1), (tubeX U, rowX R2), (tubeX (upT T U), rowX Ru)] (fun p hp => ⟨_, rfl, by
      generalize (c : Int) = ci at *
      generalize tubeX (dnT T U) = X1 at *
      generalize tubeX (upT T U) = X4 at *
      generalize tubeX T = X2 at *
      generalize tubeX U = X3 at *
      simp only [List.mem_cons, List.not_mem_nil, or_false] at hp
      rcases hp with rfl | rfl | rfl | rfl <;> simp [td, t1, t2, tu], rfl⟩) (by unfold cap; simp)
  simp only [List.map_cons, List.map_nil] at lc
  have lt := lcD_pure (g := gN 10) (fe := eCall m__law_taut (aCons (eVar 0) (aCons (e2 dIx (eVar 3) (eVar 10)) (aCons (e2 dIx (eVar 4) (eVar 10)) (aNil))))) (own := [10]) (s := [.val (.int (c : Int)), .val (tubeX T), .val (tubeX U), .val (.lst [tubeX (dnT T U), tubeX T, tubeX U, tubeX (upT T U)]), .val (.lst [rowX Rd, rowX R1, rowX R2, rowX Ru]), .un, .un, .un, .un, .un, .un, .un])
    (fun (k : Nat) => D.int (k : Int)) (fun _ => .bl true) (List.range 4) (fun k hk => ⟨_, rfl, by
      have hk := List.mem_range.mp hk
      have i3 : dIx (.lst [tubeX (dnT T U), tubeX T, tubeX U, tubeX (upT T U)]) (.int (k : Int)) = [tubeX (dnT T U), tubeX T, tubeX U, tubeX (upT T U)][k]? := v_dIxL
      have i4 : dIx (.lst [rowX Rd, rowX R1, rowX R2, rowX Ru]) (.int (k : Int)) = [rowX Rd, rowX R1, rowX R2, rowX Ru][k]? := v_dIxL
      generalize (c : Int) = ci at *
      generalize tubeX (dnT T U) = X1 at *
      generalize tubeX (upT T U) = X4 at *
      generalize tubeX T = X2 at *
      generalize tubeX U = X3 at *
      generalize rowX Rd = Y1 at *
      generalize rowX Ru = Y4 at *
      generalize rowX R1 = Y2 at *
      generalize rowX R2 = Y3 at *
      have kk : k = 0 ∨ k = 1 ∨ k = 2 ∨ k = 3 := by omega
      generalize (k : Int) = ki at *
      rcases kk with rfl | rfl | rfl | rfl <;> simp at i3 i4 <;> simp [i3, i4, qd, q1, q2, qu], rfl⟩) (by unfold cap; simp)
  obtain ⟨s', e, o10, rfl⟩ := forD_rng0 (g := gN 10) (fb := l1__law_right) (s := [.val (.int (c : Int)), .val (tubeX T), .val (tubeX U), .val (.lst [tubeX (dnT T U), tubeX T, tubeX U, tubeX (upT T U)]), .val (.lst [rowX Rd, rowX R1, rowX R2, rowX Ru]), .val (numD d), .val (rowX Rd), .val (rowX R1), .val (rowX R2), .val (rowX Ru), .un, .un]) T.length
    (fun i s => ∃ o10 : O, s = [.val (.int (c : Int)), .val (tubeX T), .val (tubeX U), .val (.lst [tubeX (dnT T U), tubeX T, tubeX U, tubeX (upT T U)]), .val (.lst [rowX Rd, rowX R1, rowX R2, rowX Ru]), .val (numD d), .val (rowX Rd), .val (rowX R1), .val (rowX R2), .val (rowX Ru), o10, .un]) ⟨_, rfl⟩ (fun i s hi ⟨o10, hs⟩ => by
      subst hs
      have := turn92 (T := T) (d := d) hi (.int (c : Int)) (tubeX T) (tubeX U) (.lst [tubeX (dnT T U), tubeX T, tubeX U, tubeX (upT T U)]) (.lst [rowX Rd, rowX R1, rowX R2, rowX Ru]) o10 .un (by rw [wd.len, dd]) w1.len (by rw [w2.len, hl]) (by rw [wu.len, ud]) (wd.sz i (by omega)) (w1.sz i hi) (w2.sz i (by omega)) (wu.sz i (by omega)) sD (a1 i hi) (a2 i hi) (b1 i hi) (b2 i hi) (f i hi)
      exact ⟨_, _, rfl, .inl this, _, rfl⟩)
  have r4 : ∀ st : S, DL.iRng1 (aCons (eC (.int 4)) (aNil)) st = some ((List.range 4).map fun (k : Nat) => D.int (k : Int), st) := fun st => by
    rw [rng1_ok 4 (by decide) (s' := st) rfl]
    simp [rangeD]
  have al : bAll [.lst ((List.range 4).map fun _ => D.bl true)] = some (.bl true) := by simp [bAll, boolsD_map]
  have bl : bLen [tubeX T] = some (.int (T.length : Int)) := by simp [tubeX]
  have rg : ∀ (o0 : O) (st : S), DL.iRng1 (aCons (eCall bLen (aCons (eVar 1) (aNil))) (aNil)) (o0 :: .val (tubeX T) :: st) = some (rangeD 0 T.length, o0 :: .val (tubeX T) :: st) := fun o0 st => rng1_ok T.length (by omega) (by simp [bl])
  have it : items (.lst [tubeX (dnT T U), tubeX T, tubeX U, tubeX (upT T U)]) = some [tubeX (dnT T U), tubeX T, tubeX U, tubeX (upT T U)] := rfl
  generalize ((List.range 4).map fun _ => D.bl true) = B4 at *
  generalize ((List.range 4).map fun (k : Nat) => D.int (k : Int)) = K4 at *
  generalize rangeD 0 T.length = RG at *
  generalize tubeX (dnT T U) = X1 at *
  generalize tubeX (upT T U) = X4 at *
  generalize tubeX T = X2 at *
  generalize tubeX U = X3 at *
  generalize rowX Rd = Y1 at *
  generalize rowX Ru = Y4 at *
  generalize rowX R1 = Y2 at *
  generalize rowX R2 = Y3 at *
  generalize (c : Int) = ci at *
  simp [m__law_right, b__law_right, runP, c4, it, lc, r4, lt, al, cf, rg, e]
theorem start92 {ns : List Int} (hl : ns.length ≤ 63) (hb : ∀ z ∈ ns, Builtin.Int.intBits z ≤ 1048576) {k : Nat} (hk : k ≤ 30) (o2 o3 o4 o5 : O) : ∃ o2' o3' o4' o5' : O,
    l1_law [.val (.lst (ns.map D.int)), .val (.int (k : Int)), o2, o3, o4, o5] = some (.next [.val (.lst (ns.map D.int)), .val (.int (k : Int)), o2', o3', o4', o5']) := by
  obtain ⟨p, hp⟩ := c_pack hl hb (k := k) (by omega)
  obtain ⟨r, hr⟩ := c_pack hl hb (k := k + 2) (by omega)
  rw [show ((k + 2 : Nat) : Int) = (k : Int) + 2 by omega] at hr
  have ta := c_take (p := r) (z := 2) (by decide) (by decide)
  have tb := c_take (p := r / 2) (z := 2) (by decide) (by decide)
  have ma := md (p := r) (z := 2) (by decide)
  have mb := md (p := r / 2) (z := 2) (by decide)
  obtain ⟨T, U, p', r', a1, a2, a3, a4⟩ := c_two (p := p) (r := r / 2 / 2) (first := decide ((k : Int) = 0))
  obtain ⟨u1, v1, b1, b2⟩ := c_tied92 (e0 := r % 2) (e1 := r / 2 % 2) a1 (by omega) (by omega)
  obtain ⟨u2, v2, c1, c2⟩ := c_tied92 (e0 := r % 2) (e1 := r / 2 % 2) a2 (by omega) (by omega)
  have t1 := b1.tied a1
  have t2 := c1.tied a2
  have l1 := tiedT_len (u := u1) (v := v1) b1.n2
  have l2 := tiedT_len (u := u2) (v := v2) c1.n2
  have r0 := c_right92 (c := 0) (T := tiedT T u1 v1) (U := tiedT U u2 v2) ⟨t1.toTubeOk, by decide, fun _ => ⟨t1.first, t1.last⟩, fun h => nomatch h⟩ ⟨t2.toTubeOk, by decide, fun _ => ⟨t2.first, t2.last⟩, fun h => nomatch h⟩ (by omega)
  have r1 := c_right92 (c := 1) (T := T) (U := U) ⟨a1, by decide, (fun h => nomatch h), (fun h => nomatch h)⟩ ⟨a2, by decide, (fun h => nomatch h), (fun h => nomatch h)⟩ a3
  rw [show ((0 : Nat) : Int) = 0 from rfl] at r0
  rw [show ((1 : Nat) : Int) = 1 from rfl] at r1
  have bl : bLen [tubeX T] = some (.int (T.length : Int)) := by simp [tubeX]
  refine ⟨.lst [.int r'], .val (.tup [.int (r % 2), .int (r / 2 % 2)]), .val (tubeX T), .val (tubeX U), ?_⟩
  by_cases n3 : 3 ≤ T.length ∧ T.length ≤ 24
  · have r2 := c_right92 (c := 2) (T := T) (U := U) ⟨a1, by decide, (fun h => nomatch h), fun _ => n3⟩ ⟨a2, by decide, (fun h => nomatch h), fun _ => by omega⟩ a3
    rw [show ((2 : Nat) : Int) = 2 from rfl] at r2
    have m3 : (3 : Int) ≤ (T.length : Int) := by omega
    have m24 : (T.length : Int) ≤ 24 := by omega
    generalize tubeX (tiedT T u1 v1) = X1 at *
    generalize tubeX (tiedT U u2 v2) = X2 at *
    generalize tubeX T = X at *
    generalize tubeX U = Y at *
    generalize (T.length : Int) = n at *
    generalize (k : Int) = ki at *
    simp [l1_law, hp, hr, ta, tb, cap, a4, b2, c2, r0, r1, bl, m3, m24, r2]
  · by_cases m3 : (3 : Int) ≤ (T.length : Int)
    · have m24 : ¬ (T.length : Int) ≤ 24 := by omega
      generalize tubeX (tiedT T u1 v1) = X1 at *
      generalize tubeX (tiedT U u2 v2) = X2 at *
      generalize tubeX T = X at *
      generalize tubeX U = Y at *
      generalize (T.length : Int) = n at *
      generalize (k : Int) = ki at *
      simp [l1_law, hp, hr, ta, tb, cap, a4, b2, c2, r0, r1, bl, m3, m24]
    · generalize tubeX (tiedT T u1 v1) = X1 at *
      generalize tubeX (tiedT U u2 v2) = X2 at *
      generalize tubeX T = X at *
      generalize tubeX U = Y at *
      generalize (T.length : Int) = n at *
      generalize (k : Int) = ki at *
      simp [l1_law, hp, hr, ta, tb, cap, a4, b2, c2, r0, r1, bl, m3]
theorem law_true (ns : List Int) (hl : ns.length ≤ 63) (hb : ∀ z ∈ ns, Builtin.Int.intBits z ≤ 1048576) : m_law [.lst (ns.map D.int)] = some (.bl true) := by
  obtain ⟨n, hn, rg⟩ := rng_law (L := (ns.length : Nat)) (K := 12) (c := 4) (f := eCall bMin (aCons (eCall bLen (aCons (eVar 0) (aNil))) (aCons (eC (.int 12)) (aNil)))) (s := [.val (.lst (ns.map D.int)), .un, .un, .un, .un, .un]) (by simp [bMin]) (by omega) (by decide) (by decide) (by decide) (by decide)
  obtain ⟨s', e, o1, o2, o3, o4, o5, rfl⟩ := forD_rngC (g := gN 1) (fb := l1_law) (s := [.val (.lst (ns.map D.int)), .un, .un, .un, .un, .un]) (c := 4) n (fun s => ∃ o1 o2 o3 o4 o5 : O, s = [.val (.lst (ns.map D.int)), o1, o2, o3, o4, o5]) ⟨_, _, _, _, _, rfl⟩ (fun i s hi ⟨o1, o2, o3, o4, o5, hs⟩ => by
    subst hs
    obtain ⟨o2', o3', o4', o5', h⟩ := start92 hl hb (k := i * 4) (by have := hn i hi; omega) o2 o3 o4 o5
    rw [show ((i * 4 : Nat) : Int) = (i : Int) * 4 by omega] at h
    exact ⟨_, _, rfl, h, _, _, _, _, _, rfl⟩)
  simp [m_law, b_law, runP, rg, e]
end Gn
namespace Gn
open PySem PySem.Spec PyProof.Rows L2 DL
def topS (i : Nat) : Stmt := PySem.Challenge.pw_levelcord_k92_whole_two_tubes_in_order.main.body.getD i (.Pass ⟨0, 0, 0, 0⟩)
abbrev s_is_whole : Stmt := topS 5
theorem sc_is_whole : FnScope ["thing"] ["thing"] (defScope s_is_whole) := ⟨rfl, rfl, rfl, by decide +kernel, rfl, by decide +kernel, by decide +kernel⟩
abbrev s_common : Stmt := topS 6
theorem sc_common : FnScope ["one", "other"] ["one", "other"] (defScope s_common) := ⟨rfl, rfl, rfl, by decide +kernel, rfl, by decide +kernel, by decide +kernel⟩
abbrev s_is_number : Stmt := topS 7
theorem sc_is_number : FnScope ["thing", "part"] ["thing"] (defScope s_is_number) := ⟨rfl, rfl, rfl, by decide +kernel, rfl, by decide +kernel, by decide +kernel⟩
abbrev s_number : Stmt := topS 8
theorem sc_number : FnScope ["top", "bottom", "both"] ["top", "bottom"] (defScope s_number) := ⟨rfl, rfl, rfl, by decide +kernel, rfl, by decide +kernel, by decide +kernel⟩
abbrev s_whole : Stmt := topS 9
theorem sc_whole : FnScope ["top"] ["top"] (defScope s_whole) := ⟨rfl, rfl, rfl, by decide +kernel, rfl, by decide +kernel, by decide +kernel⟩
abbrev s_added : Stmt := topS 10
theorem sc_added : FnScope ["one", "other"] ["one", "other"] (defScope s_added) := ⟨rfl, rfl, rfl, by decide +kernel, rfl, by decide +kernel, by decide +kernel⟩
abbrev s_taken : Stmt := topS 11
theorem sc_taken : FnScope ["one", "other"] ["one", "other"] (defScope s_taken) := ⟨rfl, rfl, rfl, by decide +kernel, rfl, by decide +kernel, by decide +kernel⟩
abbrev s_parted : Stmt := topS 12
theorem sc_parted : FnScope ["one", "other"] ["one", "other"] (defScope s_parted) := ⟨rfl, rfl, rfl, by decide +kernel, rfl, by decide +kernel, by decide +kernel⟩
abbrev s_is_less : Stmt := topS 13
theorem sc_is_less : FnScope ["one", "other"] ["one", "other"] (defScope s_is_less) := ⟨rfl, rfl, rfl, by decide +kernel, rfl, by decide +kernel, by decide +kernel⟩
abbrev s_is_pair : Stmt := topS 16
theorem sc_is_pair : FnScope ["thing"] ["thing"] (defScope s_is_pair) := ⟨rfl, rfl, rfl, by decide +kernel, rfl, by decide +kernel, by decide +kernel⟩
abbrev s_is_tube : Stmt := topS 17
theorem sc_is_tube : FnScope ["thing", "pair"] ["thing"] (defScope s_is_tube) := ⟨rfl, rfl, rfl, by decide +kernel, rfl, by decide +kernel, by decide +kernel⟩
abbrev s_is_tied : Stmt := topS 18
theorem sc_is_tied : FnScope ["thing"] ["thing"] (defScope s_is_tied) := ⟨rfl, rfl, rfl, by decide +kernel, rfl, by decide +kernel, by decide +kernel⟩
abbrev s_check_tube : Stmt := topS 19
theorem sc_check_tube : FnScope ["thing"] ["thing"] (defScope s_check_tube) := ⟨rfl, rfl, rfl, by decide +kernel, rfl, by decide +kernel, by decide +kernel⟩
abbrev s_check_tied : Stmt := topS 20
theorem sc_check_tied : FnScope ["thing"] ["thing"] (defScope s_check_tied) := ⟨rfl, rfl, rfl, by decide +kernel, rfl, by decide +kernel, by decide +kernel⟩
abbrev s_slope_to : Stmt := topS 22
theorem sc_slope_to : FnScope ["row", "height", "end", "far"] ["row", "height"] (defScope s_slope_to) := ⟨rfl, rfl, rfl, by decide +kernel, rfl, by decide +kernel, by decide +kernel⟩
abbrev s_Reach___init__ : Stmt := inClass (topS 23) 0
theorem sc_Reach___init__ : FnScope ["self", "begin", "height"] ["self", "begin", "height"] (defScope s_Reach___init__) := ⟨rfl, rfl, rfl, by decide +kernel, rfl, by decide +kernel, by decide +kernel⟩
abbrev s_Reach_crossed : Stmt := inClass (topS 23) 1
theorem sc_Reach_crossed : FnScope ["self", "low", "high"] ["self", "low", "high"] (defScope s_Reach_crossed) := ⟨rfl, rfl, rfl, by decide +kernel, rfl, by decide +kernel, by decide +kernel⟩
abbrev s_Reach_take : Stmt := inClass (topS 23) 2
theorem sc_Reach_take : FnScope ["self", "place", "bounds", "low", "high", "found"] ["self", "place", "bounds"] (defScope s_Reach_take) := ⟨rfl, rfl, rfl, by decide +kernel, rfl, by decide +kernel, by decide +kernel⟩
abbrev s_touch_behind : Stmt := topS 24
theorem sc_touch_behind : FnScope ["tube", "at", "height", "reach", "place", "found"] ["tube", "at", "height"] (defScope s_touch_behind) := ⟨rfl, rfl, rfl, by decide +kernel, rfl, by decide +kernel, by decide +kernel⟩
abbrev s_drawn_to : Stmt := topS 25
theorem sc_drawn_to : FnScope ["row", "slope", "many", "found", "turn"] ["row", "slope", "many"] (defScope s_drawn_to) := ⟨rfl, rfl, rfl, by decide +kernel, rfl, by decide +kernel, by decide +kernel⟩
abbrev s_drawn : Stmt := topS 26
theorem sc_drawn : FnScope ["places", "found", "at", "slope", "place", "height"] ["places"] (defScope s_drawn) := ⟨rfl, rfl, rfl, by decide +kernel, rfl, by decide +kernel, by decide +kernel⟩
abbrev s_cord : Stmt := topS 27
theorem sc_cord : FnScope ["tube"] ["tube"] (defScope s_cord) := ⟨rfl, rfl, rfl, by decide +kernel, rfl, by decide +kernel, by decide +kernel⟩
abbrev s_greatest_of : Stmt := topS 29
theorem sc_greatest_of : FnScope ["some", "found", "one"] ["some"] (defScope s_greatest_of) := ⟨rfl, rfl, rfl, by decide +kernel, rfl, by decide +kernel, by decide +kernel⟩
abbrev s_least_of : Stmt := topS 30
theorem sc_least_of : FnScope ["some", "found", "one"] ["some"] (defScope s_least_of) := ⟨rfl, rfl, rfl, by decide +kernel, rfl, by decide +kernel, by decide +kernel⟩
abbrev s_level_height : Stmt := topS 31
theorem sc_level_height : FnScope ["tube", "height", "low", "high"] ["tube"] (defScope s_level_height) := ⟨rfl, rfl, rfl, by decide +kernel, rfl, by decide +kernel, by decide +kernel⟩
abbrev s_held_places : Stmt := topS 32
theorem sc_held_places : FnScope ["tube", "top", "bottom", "found", "place", "bounds", "low", "high"] ["tube"] (defScope s_held_places) := ⟨rfl, rfl, rfl, by decide +kernel, rfl, by decide +kernel, by decide +kernel⟩
abbrev s_to_loose_end : Stmt := topS 33
theorem sc_to_loose_end : FnScope ["places", "there_and_back"] ["places"] (defScope s_to_loose_end) := ⟨rfl, rfl, rfl, by decide +kernel, rfl, by decide +kernel, by decide +kernel⟩
abbrev s_loose_cord : Stmt := topS 34
theorem sc_loose_cord : FnScope ["tube", "height", "held", "first", "last", "places", "ahead", "between", "behind", "place"] ["tube"] (defScope s_loose_cord) := ⟨rfl, rfl, rfl, by decide +kernel, rfl, by decide +kernel, by decide +kernel⟩
abbrev s_is_ring : Stmt := topS 37
theorem sc_is_ring : FnScope ["thing"] ["thing"] (defScope s_is_ring) := ⟨rfl, rfl, rfl, by decide +kernel, rfl, by decide +kernel, by decide +kernel⟩
abbrev s_check_ring : Stmt := topS 38
theorem sc_check_ring : FnScope ["thing"] ["thing"] (defScope s_check_ring) := ⟨rfl, rfl, rfl, by decide +kernel, rfl, by decide +kernel, by decide +kernel⟩
abbrev s_ring_cord : Stmt := topS 39
theorem sc_ring_cord : FnScope ["tube", "height", "top", "cut", "places", "found", "low", "high"] ["tube"] (defScope s_ring_cord) := ⟨rfl, rfl, rfl, by decide +kernel, rfl, by decide +kernel, by decide +kernel⟩
abbrev s__law_mixed : Stmt := topS 41
theorem sc__law_mixed : FnScope ["_law_cell"] ["_law_cell"] (defScope s__law_mixed) := ⟨rfl, rfl, rfl, by decide +kernel, rfl, by decide +kernel, by decide +kernel⟩
abbrev s__law_pack : Stmt := topS 42
theorem sc__law_pack : FnScope ["_law_script", "_law_k", "_law_found", "_law_at"] ["_law_script", "_law_k"] (defScope s__law_pack) := ⟨rfl, rfl, rfl, by decide +kernel, rfl, by decide +kernel, by decide +kernel⟩
abbrev s__law_take : Stmt := topS 43
theorem sc__law_take : FnScope ["_law_pack_here", "_law_size", "_law_digit"] ["_law_pack_here", "_law_size"] (defScope s__law_take) := ⟨rfl, rfl, rfl, by decide +kernel, rfl, by decide +kernel, by decide +kernel⟩
abbrev s__law_low : Stmt := topS 44
theorem sc__law_low : FnScope ["_law_top", "_law_bottom", "_law_one", "_law_other"] ["_law_top", "_law_bottom"] (defScope s__law_low) := ⟨rfl, rfl, rfl, by decide +kernel, rfl, by decide +kernel, by decide +kernel⟩
abbrev s__law_more : Stmt := topS 45
theorem sc__law_more : FnScope ["_law_one", "_law_other"] ["_law_one", "_law_other"] (defScope s__law_more) := ⟨rfl, rfl, rfl, by decide +kernel, rfl, by decide +kernel, by decide +kernel⟩
abbrev s__law_less_by : Stmt := topS 46
theorem sc__law_less_by : FnScope ["_law_one", "_law_other"] ["_law_one", "_law_other"] (defScope s__law_less_by) := ⟨rfl, rfl, rfl, by decide +kernel, rfl, by decide +kernel, by decide +kernel⟩
abbrev s__law_under : Stmt := topS 48
theorem sc__law_under : FnScope ["_law_one", "_law_other"] ["_law_one", "_law_other"] (defScope s__law_under) := ⟨rfl, rfl, rfl, by decide +kernel, rfl, by decide +kernel, by decide +kernel⟩
abbrev s__law_width : Stmt := topS 49
theorem sc__law_width : FnScope ["_law_pack_here", "_law_wide", "_law_pick"] ["_law_pack_here", "_law_wide"] (defScope s__law_width) := ⟨rfl, rfl, rfl, by decide +kernel, rfl, by decide +kernel, by decide +kernel⟩
abbrev s__law_walk : Stmt := topS 50
theorem sc__law_walk : FnScope ["_law_pack_here", "_law_size", "_law_wide", "_law_here", "_law_found", "_law_turn"] ["_law_pack_here", "_law_size", "_law_wide"] (defScope s__law_walk) := ⟨rfl, rfl, rfl, by decide +kernel, rfl, by decide +kernel, by decide +kernel⟩
abbrev s__law_fine_number : Stmt := topS 51
theorem sc__law_fine_number : FnScope ["_law_pack_here", "_law_bottom"] ["_law_pack_here"] (defScope s__law_fine_number) := ⟨rfl, rfl, rfl, by decide +kernel, rfl, by decide +kernel, by decide +kernel⟩
abbrev s__law_fine_walk : Stmt := topS 52
theorem sc__law_fine_walk : FnScope ["_law_pack_here", "_law_size", "_law_found", "_law_turn", "_law_one", "_law_other"] ["_law_pack_here", "_law_size"] (defScope s__law_fine_walk) := ⟨rfl, rfl, rfl, by decide +kernel, rfl, by decide +kernel, by decide +kernel⟩
abbrev s__law_moved : Stmt := topS 53
theorem sc__law_moved : FnScope ["_law_pack_here", "_law_tube", "_law_only", "_law_by_here", "_law_found", "_law_at", "_law_low_here", "_law_high"] ["_law_pack_here", "_law_tube"] (defScope s__law_moved) := ⟨rfl, rfl, rfl, by decide +kernel, rfl, by decide +kernel, by decide +kernel⟩
abbrev s__law_two : Stmt := topS 54
theorem sc__law_two : FnScope ["_law_pack_here", "_law_more_here", "_law_first", "_law_fine", "_law_size", "_law_tube"] ["_law_pack_here", "_law_more_here", "_law_first"] (defScope s__law_two) := ⟨rfl, rfl, rfl, by decide +kernel, rfl, by decide +kernel, by decide +kernel⟩
abbrev s__law_tied : Stmt := topS 55
theorem sc__law_tied : FnScope ["_law_tube", "_law_ends", "_law_first", "_law_last"] ["_law_tube", "_law_ends"] (defScope s__law_tied) := ⟨rfl, rfl, rfl, by decide +kernel, rfl, by decide +kernel, by decide +kernel⟩
abbrev s__law_greater : Stmt := topS 56
theorem sc__law_greater : FnScope ["_law_one", "_law_other"] ["_law_one", "_law_other"] (defScope s__law_greater) := ⟨rfl, rfl, rfl, by decide +kernel, rfl, by decide +kernel, by decide +kernel⟩
abbrev s__law_lesser : Stmt := topS 57
theorem sc__law_lesser : FnScope ["_law_one", "_law_other"] ["_law_one", "_law_other"] (defScope s__law_lesser) := ⟨rfl, rfl, rfl, by decide +kernel, rfl, by decide +kernel, by decide +kernel⟩
abbrev s__law_four : Stmt := topS 58
theorem sc__law_four : FnScope ["_law_tube", "_law_other", "_law_up", "_law_down", "_law_one", "_law_two_here"] ["_law_tube", "_law_other"] (defScope s__law_four) := ⟨rfl, rfl, rfl, by decide +kernel, rfl, by decide +kernel, by decide +kernel⟩
abbrev s__law_far : Stmt := topS 59
theorem sc__law_far : FnScope ["_law_tube", "_law_other", "_law_found", "_law_one", "_law_two_here", "_law_side", "_law_less"] ["_law_tube", "_law_other"] (defScope s__law_far) := ⟨rfl, rfl, rfl, by decide +kernel, rfl, by decide +kernel, by decide +kernel⟩
abbrev s__law_steps : Stmt := topS 60
theorem sc__law_steps : FnScope ["_law_row", "_law_k"] ["_law_row"] (defScope s__law_steps) := ⟨rfl, rfl, rfl, by decide +kernel, rfl, by decide +kernel, by decide +kernel⟩
abbrev s__law_is_number : Stmt := topS 61
theorem sc__law_is_number : FnScope ["_law_thing", "_law_part"] ["_law_thing"] (defScope s__law_is_number) := ⟨rfl, rfl, rfl, by decide +kernel, rfl, by decide +kernel, by decide +kernel⟩
abbrev s__law_is_row : Stmt := topS 62
theorem sc__law_is_row : FnScope ["_law_tube", "_law_row", "_law_one", "_law_k"] ["_law_tube", "_law_row"] (defScope s__law_is_row) := ⟨rfl, rfl, rfl, by decide +kernel, rfl, by decide +kernel, by decide +kernel⟩
abbrev s__law_bends_right : Stmt := topS 63
theorem sc__law_bends_right : FnScope ["_law_some", "_law_tube", "_law_row", "_law_begin", "_law_k"] ["_law_some", "_law_tube", "_law_row", "_law_begin"] (defScope s__law_bends_right) := ⟨rfl, rfl, rfl, by decide +kernel, rfl, by decide +kernel, by decide +kernel⟩
abbrev s__law_ends_right : Stmt := topS 64
theorem sc__law_ends_right : FnScope ["_law_tube", "_law_row", "_law_first", "_law_last"] ["_law_tube", "_law_row"] (defScope s__law_ends_right) := ⟨rfl, rfl, rfl, by decide +kernel, rfl, by decide +kernel, by decide +kernel⟩
abbrev s__law_level : Stmt := topS 65
theorem sc__law_level : FnScope ["_law_tube", "_law_top", "_law_bottom", "_law_low_here", "_law_high"] ["_law_tube"] (defScope s__law_level) := ⟨rfl, rfl, rfl, by decide +kernel, rfl, by decide +kernel, by decide +kernel⟩
abbrev s__law_taut : Stmt := topS 66
theorem sc__law_taut : FnScope ["_law_kind", "_law_tube", "_law_row", "_law_height"] ["_law_kind", "_law_tube", "_law_row"] (defScope s__law_taut) := ⟨rfl, rfl, rfl, by decide +kernel, rfl, by decide +kernel, by decide +kernel⟩
abbrev s__law_told : Stmt := topS 67
theorem sc__law_told : FnScope ["_law_kind", "_law_tube"] ["_law_kind", "_law_tube"] (defScope s__law_told) := ⟨rfl, rfl, rfl, by decide +kernel, rfl, by decide +kernel, by decide +kernel⟩
abbrev s__law_right : Stmt := topS 68
theorem sc__law_right : FnScope ["_law_kind", "_law_tube", "_law_other", "_law_tubes", "_law_rows", "_law_apart", "_law_down", "_law_one", "_law_two_here", "_law_up", "_law_k", "_law_some"] ["_law_kind", "_law_tube", "_law_other"] (defScope s__law_right) := ⟨rfl, rfl, rfl, by decide +kernel, rfl, by decide +kernel, by decide +kernel⟩
abbrev s_law : Stmt := topS 69
theorem sc_law : FnScope ["_law_script", "_law_k", "_law_more_here", "_law_ends", "_law_tube", "_law_other"] ["_law_script"] (defScope s_law) := ⟨rfl, rfl, rfl, by decide +kernel, rfl, by decide +kernel, by decide +kernel⟩
/-- what the top has left -/
structure Tx (K : PySem.W.Frag) (mg : Str → Option Value) : Type where
  c_Reach : ClsAt K mg "Reach"
  na_Reach_begin : NoAttr K c_Reach.C "begin"
  na_Reach_height : NoAttr K c_Reach.C "height"
  na_Reach_most : NoAttr K c_Reach.C "most"
  na_Reach_least : NoAttr K c_Reach.C "least"
  n_abs : mg "abs" = none
  n_all : mg "all" = none
  n_any : mg "any" = none
  n_bool : mg "bool" = none
  n_divmod : mg "divmod" = none
  n_enumerate : mg "enumerate" = none
  n_int : mg "int" = none
  n_isinstance : mg "isinstance" = none
  n_len : mg "len" = none
  n_list : mg "list" = none
  n_max : mg "max" = none
  n_min : mg "min" = none
  n_range : mg "range" = none
  n_tuple : mg "tuple" = none
  n_zip : mg "zip" = none
  LEAST_RING : ConstAt K mg "LEAST_RING" k_LEAST_RING_rings
  MOST_PLACES : ConstAt K mg "MOST_PLACES" k_MOST_PLACES_tubes
  is_whole : DefAt K mg "is_whole" "is_whole" s_is_whole ["thing"]
  common : DefAt K mg "common" "common" s_common ["one", "other"]
  is_number : DefAt K mg "is_number" "is_number" s_is_number ["thing"]
  number : DefAt K mg "number" "number" s_number ["top", "bottom"]
  whole : DefAt K mg "whole" "whole" s_whole ["top"]
  added : DefAt K mg "added" "added" s_added ["one", "other"]
  taken : DefAt K mg "taken" "taken" s_taken ["one", "other"]
  parted : DefAt K mg "parted" "parted" s_parted ["one", "other"]
  is_less : DefAt K mg "is_less" "is_less" s_is_less ["one", "other"]
  is_pair : DefAt K mg "is_pair" "is_pair" s_is_pair ["thing"]
  is_tube : DefAt K mg "is_tube" "is_tube" s_is_tube ["thing"]
  is_tied : DefAt K mg "is_tied" "is_tied" s_is_tied ["thing"]
  check_tube : DefAt K mg "check_tube" "check_tube" s_check_tube ["thing"]
  check_tied : DefAt K mg "check_tied" "check_tied" s_check_tied ["thing"]
  slope_to : DefAt K mg "slope_to" "slope_to" s_slope_to ["row", "height"]
  Reach___init__ : MethAt K c_Reach.C "__init__" "Reach.__init__" s_Reach___init__ ["self", "begin", "height"]
  mk_Reach : Mk K c_Reach.C Reach___init__.a
  Reach_crossed : MethAt K c_Reach.C "crossed" "Reach.crossed" s_Reach_crossed ["self", "low", "high"]
  Reach_take : MethAt K c_Reach.C "take" "Reach.take" s_Reach_take ["self", "place", "bounds"]
  touch_behind : DefAt K mg "touch_behind" "touch_behind" s_touch_behind ["tube", "at", "height"]
  drawn_to : DefAt K mg "drawn_to" "drawn_to" s_drawn_to ["row", "slope", "many"]
  drawn : DefAt K mg "drawn" "drawn" s_drawn ["places"]
  cord : DefAt K mg "cord" "cord" s_cord ["tube"]
  greatest_of : DefAt K mg "greatest_of" "greatest_of" s_greatest_of ["some"]
  least_of : DefAt K mg "least_of" "least_of" s_least_of ["some"]
  level_height : DefAt K mg "level_height" "level_height" s_level_height ["tube"]
  held_places : DefAt K mg "held_places" "held_places" s_held_places ["tube"]
  to_loose_end : DefAt K mg "to_loose_end" "to_loose_end" s_to_loose_end ["places"]
  loose_cord : DefAt K mg "loose_cord" "loose_cord" s_loose_cord ["tube"]
  is_ring : DefAt K mg "is_ring" "is_ring" s_is_ring ["thing"]
  check_ring : DefAt K mg "check_ring" "check_ring" s_check_ring ["thing"]
  ring_cord : DefAt K mg "ring_cord" "ring_cord" s_ring_cord ["tube"]
  _law_mixed : DefAt K mg "_law_mixed" "_law_mixed" s__law_mixed ["_law_cell"]
  _law_pack : DefAt K mg "_law_pack" "_law_pack" s__law_pack ["_law_script", "_law_k"]
  _law_take : DefAt K mg "_law_take" "_law_take" s__law_take ["_law_pack_here", "_law_size"]
  _law_low : DefAt K mg "_law_low" "_law_low" s__law_low ["_law_top", "_law_bottom"]
  _law_more : DefAt K mg "_law_more" "_law_more" s__law_more ["_law_one", "_law_other"]
  _law_less_by : DefAt K mg "_law_less_by" "_law_less_by" s__law_less_by ["_law_one", "_law_other"]
  _law_under : DefAt K mg "_law_under" "_law_under" s__law_under ["_law_one", "_law_other"]
  _law_width : DefAt K mg "_law_width" "_law_width" s__law_width ["_law_pack_here", "_law_wide"]
  _law_walk : DefAt K mg "_law_walk" "_law_walk" s__law_walk ["_law_pack_here", "_law_size", "_law_wide"]
  _law_fine_number : DefAt K mg "_law_fine_number" "_law_fine_number" s__law_fine_number ["_law_pack_here"]
  _law_fine_walk : DefAt K mg "_law_fine_walk" "_law_fine_walk" s__law_fine_walk ["_law_pack_here", "_law_size"]
  _law_moved : DefAt K mg "_law_moved" "_law_moved" s__law_moved ["_law_pack_here", "_law_tube"]
  _law_two : DefAt K mg "_law_two" "_law_two" s__law_two ["_law_pack_here", "_law_more_here", "_law_first"]
  _law_tied : DefAt K mg "_law_tied" "_law_tied" s__law_tied ["_law_tube", "_law_ends"]
  _law_greater : DefAt K mg "_law_greater" "_law_greater" s__law_greater ["_law_one", "_law_other"]
  _law_lesser : DefAt K mg "_law_lesser" "_law_lesser" s__law_lesser ["_law_one", "_law_other"]
  _law_four : DefAt K mg "_law_four" "_law_four" s__law_four ["_law_tube", "_law_other"]
  _law_far : DefAt K mg "_law_far" "_law_far" s__law_far ["_law_tube", "_law_other"]
  _law_steps : DefAt K mg "_law_steps" "_law_steps" s__law_steps ["_law_row"]
  _law_is_number : DefAt K mg "_law_is_number" "_law_is_number" s__law_is_number ["_law_thing"]
  _law_is_row : DefAt K mg "_law_is_row" "_law_is_row" s__law_is_row ["_law_tube", "_law_row"]
  _law_bends_right : DefAt K mg "_law_bends_right" "_law_bends_right" s__law_bends_right ["_law_some", "_law_tube", "_law_row", "_law_begin"]
  _law_ends_right : DefAt K mg "_law_ends_right" "_law_ends_right" s__law_ends_right ["_law_tube", "_law_row"]
  _law_level : DefAt K mg "_law_level" "_law_level" s__law_level ["_law_tube"]
  _law_taut : DefAt K mg "_law_taut" "_law_taut" s__law_taut ["_law_kind", "_law_tube", "_law_row"]
  _law_told : DefAt K mg "_law_told" "_law_told" s__law_told ["_law_kind", "_law_tube"]
  _law_right : DefAt K mg "_law_right" "_law_right" s__law_right ["_law_kind", "_law_tube", "_law_other"]
  law : DefAt K mg "law" "law" s_law ["_law_script"]
abbrev cx {K : PySem.W.Frag} {mg : Str → Option Value} (T : Tx K mg) : Cc := ⟨K, fun n => match n with | 0 => T.c_Reach.C | _ => 0⟩
section
variable {P : Program} {w : World} {K : PySem.W.Frag} {mg : Str → Option Value} {base : Heap}
theorem ok_is_whole (T : Tx K mg) : FnOk P w K mg base CX0 1 T.is_whole.a T.is_whole.d ["thing"] (spP (cx T) m_is_whole) :=
  fn_pure 1 1 m_is_whole b_is_whole rfl T.is_whole.F sc_is_whole rfl rfl rfl fun cdv A outer s H E hr => ss_one (sx_ret (ex_and (ex_isi (ex_var 0) (by decide) T.n_isinstance T.n_int (by decide +kernel)) (ex_one (ex_not (ex_isi (ex_var 0) (by decide) T.n_isinstance T.n_bool (by decide +kernel))))))
theorem ok_common (T : Tx K mg) : FnOk P w K mg base CX0 1 T.common.a T.common.d ["one", "other"] (spP (cx T) m_common) :=
  fn_pure 2 2 m_common b_common rfl T.common.F sc_common rfl rfl rfl fun cdv A outer s H E hr => ss_cons (sx_par 0 1 rfl sc_common.nd (xa_cons (ex_callB call_abs cs_abs T.n_abs (xa_cons (ex_var 0) (xa_nil))) (xa_cons (ex_callB call_abs cs_abs T.n_abs (xa_cons (ex_var 1) (xa_nil))) (xa_nil)))) (ss_cons (sx_while (xt_cmp (op_neD hr.units) os_ne bo_ne (ex_var 1) (ex_int)) (ss_one (sx_par 0 1 rfl sc_common.nd (xa_cons (ex_var 1) (xa_cons (ex_op op_modN os_mod (ex_var 0) (ex_var 1)) (xa_nil)))))) (ss_one (sx_ret (ex_var 0))))
theorem ok_is_number (T : Tx K mg) : FnOk P w K mg base CX0 2 T.is_number.a T.is_number.d ["thing"] (spP (cx T) m_is_number) :=
  fn_pure 1 2 m_is_number b_is_number rfl T.is_number.F sc_is_number rfl rfl rfl fun cdv A outer s H E hr => ss_cons (sx_if (PW.pt (xw_or (xt_not (xt_val (ex_isi (ex_var 0) (by decide) T.n_isinstance T.n_tuple (by decide +kernel)))) (xw_or (xt_cmp (op_neD hr.units) os_ne bo_ne (ex_callB call_len cs_len T.n_len (xa_cons (ex_var 0) (xa_nil))) (ex_int)) (xw_or1 (xt_not (xt_val (ex_callB (cr_all rfl) cs_all T.n_all (xa_cons (ex_lc (own := [("part", 1)]) (pins' := [0]) sc_is_number.nd (ix_seq' (ex_var 0)) (blkOk_by (N := ["thing", "part"]) (sc := defScope s_is_number) (by decide +kernel)) (pins_ok (n := 2) (by decide) rfl) (gown_name) (fun _ _ _ _ _ => gx_name 1 sc_is_number.nd) (fun _ _ _ _ _ => xts_nil) (fun _ _ _ _ _ => ex_call (ok_is_whole T) (hr.mono (by decide)) T.is_whole.g T.is_whole.F.kp T.is_whole.b (xa_cons (ex_var 1) (xa_nil)))) (xa_nil))))))))) (ss_one (sx_ret (ex_bl))) (ss_nil)) (ss_one (sx_ret (ex_and (ex_cmp op_ge os_ge (ex_ix ix_seq os_ix (ex_var 0) (ex_int)) (ex_int)) (ex_one (ex_cmp (op_eqD hr.units) os_eq (ex_call (ok_common T) (hr.mono (by decide)) T.common.g T.common.F.kp T.common.b (xa_cons (ex_ix ix_seq os_ix (ex_var 0) (ex_int)) (xa_cons (ex_ix ix_seq os_ix (ex_var 0) (ex_int)) (xa_nil)))) (ex_int))))))
theorem ok_number (T : Tx K mg) : FnOk P w K mg base CX0 2 T.number.a T.number.d ["top", "bottom"] (spP (cx T) m_number) :=
  fn_pure 2 3 m_number b_number rfl T.number.F sc_number rfl rfl rfl fun cdv A outer s H E hr => ss_cons (sx_if (xt_cmp (op_eqD hr.units) os_eq bo_eq (ex_var 1) (ex_int)) (ss_one (sx_never)) (ss_nil)) (ss_cons (sx_set 2 sc_number.nd (ex_call (ok_common T) (hr.mono (by decide)) T.common.g T.common.F.kp T.common.b (xa_cons (ex_var 0) (xa_cons (ex_var 1) (xa_nil))))) (ss_cons (sx_if (xt_cmp op_lt os_lt bo_lt (ex_var 1) (ex_int)) (ss_one (sx_set 2 sc_number.nd (ex_op op_sub os_sub (ex_int) (ex_var 2)))) (ss_nil)) (ss_one (sx_ret (ex_tup (xa_cons (ex_op op_fdivS os_fdiv (ex_var 0) (ex_var 2)) (xa_cons (ex_op op_fdivS os_fdiv (ex_var 1) (ex_var 2)) (xa_nil))))))))
theorem ok_whole (T : Tx K mg) : FnOk P w K mg base CX0 1 T.whole.a T.whole.d ["top"] (spP (cx T) m_whole) :=
  fn_pure 1 1 m_whole b_whole rfl T.whole.F sc_whole rfl rfl rfl fun cdv A outer s H E hr => ss_one (sx_ret (ex_tup (xa_cons (ex_var 0) (xa_cons (ex_int) (xa_nil)))))
theorem ok_added (T : Tx K mg) : FnOk P w K mg base CX0 3 T.added.a T.added.d ["one", "other"] (spP (cx T) m_added) :=
  fn_pure 2 2 m_added b_added rfl T.added.F sc_added rfl rfl rfl fun cdv A outer s H E hr => ss_one (sx_ret (ex_call (ok_number T) (hr.mono (by decide)) T.number.g T.number.F.kp T.number.b (xa_cons (ex_op op_addL os_addL (ex_op op_mulA os_mul (ex_ix ix_seq os_ix (ex_var 0) (ex_int)) (ex_ix ix_seq os_ix (ex_var 1) (ex_int))) (ex_op op_mulA os_mul (ex_ix ix_seq os_ix (ex_var 1) (ex_int)) (ex_ix ix_seq os_ix (ex_var 0) (ex_int)))) (xa_cons (ex_op op_mulA os_mul (ex_ix ix_seq os_ix (ex_var 0) (ex_int)) (ex_ix ix_seq os_ix (ex_var 1) (ex_int))) (xa_nil)))))
theorem ok_taken (T : Tx K mg) : FnOk P w K mg base CX0 3 T.taken.a T.taken.d ["one", "other"] (spP (cx T) m_taken) :=
  fn_pure 2 2 m_taken b_taken rfl T.taken.F sc_taken rfl rfl rfl fun cdv A outer s H E hr => ss_one (sx_ret (ex_call (ok_number T) (hr.mono (by decide)) T.number.g T.number.F.kp T.number.b (xa_cons (ex_op op_sub os_sub (ex_op op_mulA os_mul (ex_ix ix_seq os_ix (ex_var 0) (ex_int)) (ex_ix ix_seq os_ix (ex_var 1) (ex_int))) (ex_op op_mulA os_mul (ex_ix ix_seq os_ix (ex_var 1) (ex_int)) (ex_ix ix_seq os_ix (ex_var 0) (ex_int)))) (xa_cons (ex_op op_mulA os_mul (ex_ix ix_seq os_ix (ex_var 0) (ex_int)) (ex_ix ix_seq os_ix (ex_var 1) (ex_int))) (xa_nil)))))
theorem ok_parted (T : Tx K mg) : FnOk P w K mg base CX0 3 T.parted.a T.parted.d ["one", "other"] (spP (cx T) m_parted) :=
  fn_pure 2 2 m_parted b_parted rfl T.parted.F sc_parted rfl rfl rfl fun cdv A outer s H E hr => ss_one (sx_ret (ex_call (ok_number T) (hr.mono (by decide)) T.number.g T.number.F.kp T.number.b (xa_cons (ex_op op_mulA os_mul (ex_ix ix_seq os_ix (ex_var 0) (ex_int)) (ex_ix ix_seq os_ix (ex_var 1) (ex_int))) (xa_cons (ex_op op_mulA os_mul (ex_ix ix_seq os_ix (ex_var 0) (ex_int)) (ex_ix ix_seq os_ix (ex_var 1) (ex_int))) (xa_nil)))))
theorem ok_is_less (T : Tx K mg) : FnOk P w K mg base CX0 1 T.is_less.a T.is_less.d ["one", "other"] (spP (cx T) m_is_less) :=
  fn_pure 2 2 m_is_less b_is_less rfl T.is_less.F sc_is_less rfl rfl rfl fun cdv A outer s H E hr => ss_one (sx_ret (ex_cmp op_lt os_lt (ex_op op_mulA os_mul (ex_ix ix_seq os_ix (ex_var 0) (ex_int)) (ex_ix ix_seq os_ix (ex_var 1) (ex_int))) (ex_op op_mulA os_mul (ex_ix ix_seq os_ix (ex_var 1) (ex_int)) (ex_ix ix_seq os_ix (ex_var 0) (ex_int)))))
theorem ok_is_pair (T : Tx K mg) : FnOk P w K mg base CX0 3 T.is_pair.a T.is_pair.d ["thing"] (spP (cx T) m_is_pair) :=
  fn_pure 1 1 m_is_pair b_is_pair rfl T.is_pair.F sc_is_pair rfl rfl rfl fun cdv A outer s H E hr => ss_cons (sx_if (PW.pt (xw_or (xt_not (xt_val (ex_isi (ex_var 0) (by decide) T.n_isinstance T.n_tuple (by decide +kernel)))) (xw_or (xt_cmp (op_neD hr.units) os_ne bo_ne (ex_callB call_len cs_len T.n_len (xa_cons (ex_var 0) (xa_nil))) (ex_int)) (xw_or (xt_not (xt_val (ex_call (ok_is_number T) (hr.mono (by decide)) T.is_number.g T.is_number.F.kp T.is_number.b (xa_cons (ex_ix ix_seq os_ix (ex_var 0) (ex_int)) (xa_nil))))) (xw_or1 (xt_not (xt_val (ex_call (ok_is_number T) (hr.mono (by decide)) T.is_number.g T.is_number.F.kp T.is_number.b (xa_cons (ex_ix ix_seq os_ix (ex_var 0) (ex_int)) (xa_nil)))))))))) (ss_one (sx_ret (ex_bl))) (ss_nil)) (ss_one (sx_ret (ex_not (ex_call (ok_is_less T) (hr.mono (by decide)) T.is_less.g T.is_less.F.kp T.is_less.b (xa_cons (ex_ix ix_seq os_ix (ex_var 0) (ex_int)) (xa_cons (ex_ix ix_seq os_ix (ex_var 0) (ex_int)) (xa_nil)))))))
theorem ok_is_tube (T : Tx K mg) : FnOk P w K mg base CX0 4 T.is_tube.a T.is_tube.d ["thing"] (spP (cx T) m_is_tube) :=
  fn_pure 1 2 m_is_tube b_is_tube rfl T.is_tube.F sc_is_tube rfl rfl rfl fun cdv A outer s H E hr => ss_cons (sx_if (PW.pt (xw_or (xt_not (xt_val (ex_isi (ex_var 0) (by decide) T.n_isinstance T.n_tuple (by decide +kernel)))) (xw_or1 (xt_not (xt_chain op_le op_le os_le os_le bo_le bo_le (ex_int) (ex_callB call_len cs_len T.n_len (xa_cons (ex_var 0) (xa_nil))) (ex_c (pe_glob rfl T.MOST_PLACES.g T.MOST_PLACES.r) T.MOST_PLACES.p)))))) (ss_one (sx_ret (ex_bl))) (ss_nil)) (ss_one (sx_ret (ex_callB (cr_all rfl) cs_all T.n_all (xa_cons (ex_lc (own := [("pair", 1)]) (pins' := [0]) sc_is_tube.nd (ix_seq' (ex_var 0)) (blkOk_by (N := ["thing", "pair"]) (sc := defScope s_is_tube) (by decide +kernel)) (pins_ok (n := 2) (by decide) rfl) (gown_name) (fun _ _ _ _ _ => gx_name 1 sc_is_tube.nd) (fun _ _ _ _ _ => xts_nil) (fun _ _ _ _ _ => ex_call (ok_is_pair T) (hr.mono (by decide)) T.is_pair.g T.is_pair.F.kp T.is_pair.b (xa_cons (ex_var 1) (xa_nil)))) (xa_nil)))))
theorem ok_is_tied (T : Tx K mg) : FnOk P w K mg base CX0 5 T.is_tied.a T.is_tied.d ["thing"] (spP (cx T) m_is_tied) :=
  fn_pure 1 1 m_is_tied b_is_tied rfl T.is_tied.F sc_is_tied rfl rfl rfl fun cdv A outer s H E hr => ss_one (sx_ret (ex_and (ex_call (ok_is_tube T) (hr.mono (by decide)) T.is_tube.g T.is_tube.F.kp T.is_tube.b (xa_cons (ex_var 0) (xa_nil))) (ex_and (ex_cmp (op_eqD hr.units) os_eq (ex_ix ix_seq os_ix (ex_ix ix_seq os_ix (ex_var 0) (ex_int)) (ex_int)) (ex_ix ix_seq os_ix (ex_ix ix_seq os_ix (ex_var 0) (ex_int)) (ex_int))) (ex_one (ex_cmp (op_eqD hr.units) os_eq (ex_ix ix_seq os_ix (ex_ix ix_seq os_ix (ex_var 0) (ex_un un_neg un_negS (ex_int))) (ex_int)) (ex_ix ix_seq os_ix (ex_ix ix_seq os_ix (ex_var 0) (ex_un un_neg un_negS (ex_int))) (ex_int)))))))
theorem ok_check_tube (T : Tx K mg) : FnOk P w K mg base CX0 5 T.check_tube.a T.check_tube.d ["thing"] (spP (cx T) m_check_tube) :=
  fn_pure 1 1 m_check_tube b_check_tube rfl T.check_tube.F sc_check_tube rfl rfl rfl fun cdv A outer s H E hr => ss_one (sx_if (xt_not (xt_val (ex_call (ok_is_tube T) (hr.mono (by decide)) T.is_tube.g T.is_tube.F.kp T.is_tube.b (xa_cons (ex_var 0) (xa_nil))))) (ss_one (sx_never)) (ss_nil))
theorem ok_check_tied (T : Tx K mg) : FnOk P w K mg base CX0 6 T.check_tied.a T.check_tied.d ["thing"] (spP (cx T) m_check_tied) :=
  fn_pure 1 1 m_check_tied b_check_tied rfl T.check_tied.F sc_check_tied rfl rfl rfl fun cdv A outer s H E hr => ss_one (sx_if (xt_not (xt_val (ex_call (ok_is_tied T) (hr.mono (by decide)) T.is_tied.g T.is_tied.F.kp T.is_tied.b (xa_cons (ex_var 0) (xa_nil))))) (ss_one (sx_never)) (ss_nil))
theorem ok_slope_to (T : Tx K mg) : FnOk P w K mg base CX0 4 T.slope_to.a T.slope_to.d ["row", "height"] (spP (cx T) m_slope_to) :=
  fn_pure 2 4 m_slope_to b_slope_to rfl T.slope_to.F sc_slope_to rfl rfl rfl fun cdv A outer s H E hr => ss_cons (sx_asg (ex_var 0) (gx_tup rfl (gsx_cons (gx_name 2 sc_slope_to.nd) (gsx_cons (gx_name 3 sc_slope_to.nd) (gsx_nil))) rfl (gs_lenS (gs_lenS (gs_len0))))) (ss_one (sx_ret (ex_call (ok_parted T) (hr.mono (by decide)) T.parted.g T.parted.F.kp T.parted.b (xa_cons (ex_call (ok_taken T) (hr.mono (by decide)) T.taken.g T.taken.F.kp T.taken.b (xa_cons (ex_var 1) (xa_cons (ex_var 2) (xa_nil)))) (xa_cons (ex_call (ok_whole T) (hr.mono (by decide)) T.whole.g T.whole.F.kp T.whole.b (xa_cons (ex_var 3) (xa_nil))) (xa_nil))))))
theorem ok_Reach___init__ (T : Tx K mg) : FnOk P w K mg base CX0 1 T.Reach___init__.a T.Reach___init__.d ["self", "begin", "height"] (spO (cx T) m_Reach___init__) :=
  fn_own [true, false, false] [0] 3 m_Reach___init__ b_Reach___init__ rfl T.Reach___init__.F sc_Reach___init__ rfl rfl rfl (by decide) (mask_ok (by decide)) fun cdv A outer s H E hr => ss_cons (sx_fld 0 0 T.c_Reach.cl T.na_Reach_begin (ex_var 1)) (ss_cons (sx_fld 0 0 T.c_Reach.cl T.na_Reach_height (ex_var 2)) (ss_cons (sx_fld 0 0 T.c_Reach.cl T.na_Reach_most (ex_non)) (ss_one (sx_fld 0 0 T.c_Reach.cl T.na_Reach_least (ex_non)))))
theorem ok_Reach_crossed (T : Tx K mg) : FnOk P w K mg base CX0 2 T.Reach_crossed.a T.Reach_crossed.d ["self", "low", "high"] (spO (cx T) m_Reach_crossed) :=
  fn_own [true, false, false] [0] 3 m_Reach_crossed b_Reach_crossed rfl T.Reach_crossed.F sc_Reach_crossed rfl rfl rfl (by decide) (mask_ok (by decide)) fun cdv A outer s H E hr => ss_cons (sx_if (PW.pt (xw_and (xt_notN (ex_fld 0 0 T.c_Reach.cl T.na_Reach_most)) (xw_and1 (xt_val (ex_call (ok_is_less T) (hr.mono (by decide)) T.is_less.g T.is_less.F.kp T.is_less.b (xa_cons (ex_ix ix_seq os_ix (ex_fld 0 0 T.c_Reach.cl T.na_Reach_most) (ex_int)) (xa_cons (ex_var 1) (xa_nil)))))))) (ss_one (sx_ret (ex_fld 0 0 T.c_Reach.cl T.na_Reach_most))) (ss_nil)) (ss_cons (sx_if (PW.pt (xw_and (xt_notN (ex_fld 0 0 T.c_Reach.cl T.na_Reach_least)) (xw_and1 (xt_val (ex_call (ok_is_less T) (hr.mono (by decide)) T.is_less.g T.is_less.F.kp T.is_less.b (xa_cons (ex_var 2) (xa_cons (ex_ix ix_seq os_ix (ex_fld 0 0 T.c_Reach.cl T.na_Reach_least) (ex_int)) (xa_nil)))))))) (ss_one (sx_ret (ex_fld 0 0 T.c_Reach.cl T.na_Reach_least))) (ss_nil)) (ss_one (sx_ret (ex_non))))
theorem ok_Reach_take (T : Tx K mg) : FnOk P w K mg base CX0 5 T.Reach_take.a T.Reach_take.d ["self", "place", "bounds"] (spO (cx T) m_Reach_take) :=
  fn_own [true, false, false] [0] 6 m_Reach_take b_Reach_take rfl T.Reach_take.F sc_Reach_take rfl rfl rfl (by decide) (mask_ok (by decide)) fun cdv A outer s H E hr => ss_cons (sx_set 3 sc_Reach_take.nd (ex_call (ok_slope_to T) (hr.mono (by decide)) T.slope_to.g T.slope_to.F.kp T.slope_to.b (xa_cons (ex_tup (xa_cons (ex_fld 0 0 T.c_Reach.cl T.na_Reach_height) (xa_cons (ex_op op_sub os_sub (ex_var 1) (ex_fld 0 0 T.c_Reach.cl T.na_Reach_begin)) (xa_nil)))) (xa_cons (ex_ix ix_seq os_ix (ex_var 2) (ex_int)) (xa_nil))))) (ss_cons (sx_set 4 sc_Reach_take.nd (ex_call (ok_slope_to T) (hr.mono (by decide)) T.slope_to.g T.slope_to.F.kp T.slope_to.b (xa_cons (ex_tup (xa_cons (ex_fld 0 0 T.c_Reach.cl T.na_Reach_height) (xa_cons (ex_op op_sub os_sub (ex_var 1) (ex_fld 0 0 T.c_Reach.cl T.na_Reach_begin)) (xa_nil)))) (xa_cons (ex_ix ix_seq os_ix (ex_var 2) (ex_int)) (xa_nil))))) (ss_cons (sx_set 5 sc_Reach_take.nd (ex_meth 0 0 T.c_Reach.cl T.Reach_crossed.m (ok_Reach_crossed T) (hr.mono (by decide)) T.Reach_crossed.b (xao_val (ex_var 3) (xao_val (ex_var 4) (xao_nil))))) (ss_cons (sx_if (xt_isN (ex_var 5)) (ss_cons (sx_if (PW.pt (xw_or (xt_isN (ex_fld 0 0 T.c_Reach.cl T.na_Reach_most)) (xw_or1 (xt_not (xt_val (ex_call (ok_is_less T) (hr.mono (by decide)) T.is_less.g T.is_less.F.kp T.is_less.b (xa_cons (ex_ix ix_seq os_ix (ex_fld 0 0 T.c_Reach.cl T.na_Reach_most) (ex_int)) (xa_cons (ex_var 4) (xa_nil))))))))) (ss_one (sx_fld 0 0 T.c_Reach.cl T.na_Reach_most (ex_tup (xa_cons (ex_var 4) (xa_cons (ex_var 1) (xa_cons (ex_ix ix_seq os_ix (ex_var 2) (ex_int)) (xa_nil))))))) (ss_nil)) (ss_one (sx_if (PW.pt (xw_or (xt_isN (ex_fld 0 0 T.c_Reach.cl T.na_Reach_least)) (xw_or1 (xt_not (xt_val (ex_call (ok_is_less T) (hr.mono (by decide)) T.is_less.g T.is_less.F.kp T.is_less.b (xa_cons (ex_var 3) (xa_cons (ex_ix ix_seq os_ix (ex_fld 0 0 T.c_Reach.cl T.na_Reach_least) (ex_int)) (xa_nil))))))))) (ss_one (sx_fld 0 0 T.c_Reach.cl T.na_Reach_least (ex_tup (xa_cons (ex_var 3) (xa_cons (ex_var 1) (xa_cons (ex_ix ix_seq os_ix (ex_var 2) (ex_int)) (xa_nil))))))) (ss_nil)))) (ss_nil)) (ss_one (sx_ret (ex_var 5))))))
theorem ok_touch_behind (T : Tx K mg) : FnOk P w K mg base CX0 6 T.touch_behind.a T.touch_behind.d ["tube", "at", "height"] (spP (cx T) m_touch_behind) :=
  fn_pure 3 6 m_touch_behind b_touch_behind rfl T.touch_behind.F sc_touch_behind rfl rfl rfl fun cdv A outer s H E hr => ss_cons (sx_make 0 3 sc_touch_behind.nd T.mk_Reach (ok_Reach___init__ T) (hr.mono (by decide)) T.c_Reach.g T.Reach___init__.b (xa_cons (ex_var 1) (xa_cons (ex_var 2) (xa_nil)))) (ss_cons (sx_for (ix_range2 (xa_cons (ex_op op_addL os_addL (ex_var 1) (ex_int)) (xa_cons (ex_callB call_len cs_len T.n_len (xa_cons (ex_var 0) (xa_nil))) (xa_nil))) T.n_range) (gx_name 4 sc_touch_behind.nd) (ss_cons (sx_set 5 sc_touch_behind.nd (ex_meth 0 3 T.c_Reach.cl T.Reach_take.m (ok_Reach_take T) (hr.mono (by decide)) T.Reach_take.b (xao_val (ex_var 4) (xao_val (ex_ix ix_seq os_ix (ex_var 0) (ex_var 4)) (xao_nil))))) (ss_one (sx_if (xt_notN (ex_var 5)) (ss_one (sx_ret (ex_var 5))) (ss_nil))))) (ss_one (sx_ret (ex_fld 0 3 T.c_Reach.cl T.na_Reach_most))))
theorem ok_drawn_to (T : Tx K mg) : FnOk P w K mg base CX0 4 T.drawn_to.a T.drawn_to.d ["row", "slope", "many"] (spP (cx T) m_drawn_to) :=
  fn_pure 3 5 m_drawn_to b_drawn_to rfl T.drawn_to.F sc_drawn_to rfl rfl rfl fun cdv A outer s H E hr => ss_cons (sx_new 3 sc_drawn_to.nd (xn_list T.n_list (xa_cons (ex_var 0) (xa_nil)))) (ss_cons (sx_for (ix_range1 (xa_cons (ex_var 2) (xa_nil)) T.n_range) (gx_name 4 sc_drawn_to.nd) (ss_one (sx_app 3 (ex_call (ok_added T) (hr.mono (by decide)) T.added.g T.added.F.kp T.added.b (xa_cons (ex_bor 3 (ex_ix ix_seq os_ix (ex_var 3) (ex_un un_neg un_negS (ex_int)))) (xa_cons (ex_var 1) (xa_nil))))))) (ss_one (sx_ret (ex_frz 3))))
theorem ok_drawn (T : Tx K mg) : FnOk P w K mg base CX0 7 T.drawn.a T.drawn.d ["places"] (spP (cx T) m_drawn) :=
  fn_pure 1 6 m_drawn b_drawn rfl T.drawn.F sc_drawn rfl rfl rfl fun cdv A outer s H E hr => ss_cons (sx_set 1 sc_drawn.nd (ex_lst (xa_cons (ex_ix ix_seq os_ix (ex_ix ix_seq os_ix (ex_var 0) (ex_int)) (ex_int)) (xa_nil)))) (ss_cons (sx_while (xt_cmp op_lt os_lt bo_lt (ex_callB call_len cs_len T.n_len (xa_cons (ex_var 1) (xa_nil))) (ex_callB call_len cs_len T.n_len (xa_cons (ex_var 0) (xa_nil)))) (ss_cons (sx_set 2 sc_drawn.nd (ex_op op_sub os_sub (ex_callB call_len cs_len T.n_len (xa_cons (ex_var 1) (xa_nil))) (ex_int))) (ss_cons (sx_asg (ex_call (ok_touch_behind T) (hr.mono (by decide)) T.touch_behind.g T.touch_behind.F.kp T.touch_behind.b (xa_cons (ex_var 0) (xa_cons (ex_var 2) (xa_cons (ex_ix ix_seq os_ix (ex_var 1) (ex_var 2)) (xa_nil))))) (gx_tup rfl (gsx_cons (gx_name 3 sc_drawn.nd) (gsx_cons (gx_name 4 sc_drawn.nd) (gsx_cons (gx_name 5 sc_drawn.nd) (gsx_nil)))) rfl (gs_lenS (gs_lenS (gs_lenS (gs_len0)))))) (ss_one (sx_set 1 sc_drawn.nd (ex_call (ok_drawn_to T) (hr.mono (by decide)) T.drawn_to.g T.drawn_to.F.kp T.drawn_to.b (xa_cons (ex_var 1) (xa_cons (ex_var 3) (xa_cons (ex_op op_sub os_sub (ex_var 4) (ex_var 2)) (xa_nil)))))))))) (ss_one (sx_ret (ex_callTy call_tuple_of cs_tuple T.n_tuple (xa_cons (ex_var 1) (xa_nil))))))
theorem ok_cord (T : Tx K mg) : FnOk P w K mg base CX0 8 T.cord.a T.cord.d ["tube"] (spP (cx T) m_cord) :=
  fn_pure 1 1 m_cord b_cord rfl T.cord.F sc_cord rfl rfl rfl fun cdv A outer s H E hr => ss_cons (sx_drop (ex_call (ok_check_tied T) (hr.mono (by decide)) T.check_tied.g T.check_tied.F.kp T.check_tied.b (xa_cons (ex_var 0) (xa_nil)))) (ss_one (sx_ret (ex_call (ok_drawn T) (hr.mono (by decide)) T.drawn.g T.drawn.F.kp T.drawn.b (xa_cons (ex_var 0) (xa_nil)))))
theorem ok_greatest_of (T : Tx K mg) : FnOk P w K mg base CX0 2 T.greatest_of.a T.greatest_of.d ["some"] (spP (cx T) m_greatest_of) :=
  fn_pure 1 3 m_greatest_of b_greatest_of rfl T.greatest_of.F sc_greatest_of rfl rfl rfl fun cdv A outer s H E hr => ss_cons (sx_set 1 sc_greatest_of.nd (ex_ix ix_seq os_ix (ex_var 0) (ex_int))) (ss_cons (sx_for (ix_seq' (ex_var 0)) (gx_name 2 sc_greatest_of.nd) (ss_one (sx_if (xt_val (ex_call (ok_is_less T) (hr.mono (by decide)) T.is_less.g T.is_less.F.kp T.is_less.b (xa_cons (ex_var 1) (xa_cons (ex_var 2) (xa_nil))))) (ss_one (sx_set 1 sc_greatest_of.nd (ex_var 2))) (ss_nil)))) (ss_one (sx_ret (ex_var 1))))
theorem ok_least_of (T : Tx K mg) : FnOk P w K mg base CX0 2 T.least_of.a T.least_of.d ["some"] (spP (cx T) m_least_of) :=
  fn_pure 1 3 m_least_of b_least_of rfl T.least_of.F sc_least_of rfl rfl rfl fun cdv A outer s H E hr => ss_cons (sx_set 1 sc_least_of.nd (ex_ix ix_seq os_ix (ex_var 0) (ex_int))) (ss_cons (sx_for (ix_seq' (ex_var 0)) (gx_name 2 sc_least_of.nd) (ss_one (sx_if (xt_val (ex_call (ok_is_less T) (hr.mono (by decide)) T.is_less.g T.is_less.F.kp T.is_less.b (xa_cons (ex_var 2) (xa_cons (ex_var 1) (xa_nil))))) (ss_one (sx_set 1 sc_least_of.nd (ex_var 2))) (ss_nil)))) (ss_one (sx_ret (ex_var 1))))
theorem ok_level_height (T : Tx K mg) : FnOk P w K mg base CX0 3 T.level_height.a T.level_height.d ["tube"] (spP (cx T) m_level_height) :=
  fn_pure 1 4 m_level_height b_level_height rfl T.level_height.F sc_level_height rfl rfl rfl fun cdv A outer s H E hr => ss_cons (sx_set 1 sc_level_height.nd (ex_call (ok_greatest_of T) (hr.mono (by decide)) T.greatest_of.g T.greatest_of.F.kp T.greatest_of.b (xa_cons (ex_lc (own := [("low", 2), ("high", 3)]) (pins' := [0, 1]) sc_level_height.nd (ix_seq' (ex_var 0)) (blkOk_by (N := ["tube", "height", "low", "high"]) (sc := defScope s_level_height) (by decide +kernel)) (pins_ok (n := 4) (by decide) rfl) (gown_tup (gown_cons (gown_name) (gown_cons (gown_name) (gown_nil)))) (fun _ _ _ _ _ => gx_tup rfl (gsx_cons (gx_name 2 sc_level_height.nd) (gsx_cons (gx_name 3 sc_level_height.nd) (gsx_nil))) rfl (gs_lenS (gs_lenS (gs_len0)))) (fun _ _ _ _ _ => xts_nil) (fun _ _ _ _ _ => ex_var 2)) (xa_nil)))) (ss_cons (sx_if (xt_val (ex_call (ok_is_less T) (hr.mono (by decide)) T.is_less.g T.is_less.F.kp T.is_less.b (xa_cons (ex_call (ok_least_of T) (hr.mono (by decide)) T.least_of.g T.least_of.F.kp T.least_of.b (xa_cons (ex_lc (own := [("low", 2), ("high", 3)]) (pins' := [0, 1]) sc_level_height.nd (ix_seq' (ex_var 0)) (blkOk_by (N := ["tube", "height", "low", "high"]) (sc := defScope s_level_height) (by decide +kernel)) (pins_ok (n := 4) (by decide) rfl) (gown_tup (gown_cons (gown_name) (gown_cons (gown_name) (gown_nil)))) (fun _ _ _ _ _ => gx_tup rfl (gsx_cons (gx_name 2 sc_level_height.nd) (gsx_cons (gx_name 3 sc_level_height.nd) (gsx_nil))) rfl (gs_lenS (gs_lenS (gs_len0)))) (fun _ _ _ _ _ => xts_nil) (fun _ _ _ _ _ => ex_var 3)) (xa_nil))) (xa_cons (ex_var 1) (xa_nil))))) (ss_one (sx_ret (ex_non))) (ss_nil)) (ss_one (sx_ret (ex_var 1))))
theorem ok_held_places (T : Tx K mg) : FnOk P w K mg base CX0 3 T.held_places.a T.held_places.d ["tube"] (spD (cx T) m_held_places) :=
  fn_newD 1 8 m_held_places b_held_places rfl T.held_places.F sc_held_places rfl rfl rfl fun cdv A outer s H E hr => ss_cons (sx_set 1 sc_held_places.nd (ex_call (ok_greatest_of T) (hr.mono (by decide)) T.greatest_of.g T.greatest_of.F.kp T.greatest_of.b (xa_cons (ex_lc (own := [("low", 6), ("high", 7)]) (pins' := [0, 1, 2, 3, 4, 5]) sc_held_places.nd (ix_seq' (ex_var 0)) (blkOk_by (N := ["tube", "top", "bottom", "found", "place", "bounds", "low", "high"]) (sc := defScope s_held_places) (by decide +kernel)) (pins_ok (n := 8) (by decide) rfl) (gown_tup (gown_cons (gown_name) (gown_cons (gown_name) (gown_nil)))) (fun _ _ _ _ _ => gx_tup rfl (gsx_cons (gx_name 6 sc_held_places.nd) (gsx_cons (gx_name 7 sc_held_places.nd) (gsx_nil))) rfl (gs_lenS (gs_lenS (gs_len0)))) (fun _ _ _ _ _ => xts_nil) (fun _ _ _ _ _ => ex_var 6)) (xa_nil)))) (ss_cons (sx_set 2 sc_held_places.nd (ex_call (ok_least_of T) (hr.mono (by decide)) T.least_of.g T.least_of.F.kp T.least_of.b (xa_cons (ex_lc (own := [("low", 6), ("high", 7)]) (pins' := [0, 1, 2, 3, 4, 5]) sc_held_places.nd (ix_seq' (ex_var 0)) (blkOk_by (N := ["tube", "top", "bottom", "found", "place", "bounds", "low", "high"]) (sc := defScope s_held_places) (by decide +kernel)) (pins_ok (n := 8) (by decide) rfl) (gown_tup (gown_cons (gown_name) (gown_cons (gown_name) (gown_nil)))) (fun _ _ _ _ _ => gx_tup rfl (gsx_cons (gx_name 6 sc_held_places.nd) (gsx_cons (gx_name 7 sc_held_places.nd) (gsx_nil))) rfl (gs_lenS (gs_lenS (gs_len0)))) (fun _ _ _ _ _ => xts_nil) (fun _ _ _ _ _ => ex_var 7)) (xa_nil)))) (ss_cons (sx_newD 3 sc_held_places.nd) (ss_cons (sx_for (ix_enum (xa_cons (ex_var 0) (xa_nil)) T.n_enumerate) (gx_tup rfl (gsx_cons (gx_name 4 sc_held_places.nd) (gsx_cons (gx_name 5 sc_held_places.nd) (gsx_nil))) rfl (gs_lenS (gs_lenS (gs_len0)))) (ss_one (sx_if (xt_cmp (op_eqD hr.units) os_eq bo_eq (ex_ix ix_seq os_ix (ex_var 5) (ex_int)) (ex_var 1)) (ss_one (sx_putD 3 (room65 hr) (ex_tup (xa_cons (ex_var 1) (xa_cons (ex_var 1) (xa_nil)))) (ex_var 4))) (ss_one (sx_if (xt_cmp (op_eqD hr.units) os_eq bo_eq (ex_ix ix_seq os_ix (ex_var 5) (ex_int)) (ex_var 2)) (ss_one (sx_putD 3 (room65 hr) (ex_tup (xa_cons (ex_var 2) (xa_cons (ex_var 2) (xa_nil)))) (ex_var 4))) (ss_nil)))))) (ss_one (sx_retD 3)))))
theorem ok_to_loose_end (T : Tx K mg) : FnOk P w K mg base CX0 8 T.to_loose_end.a T.to_loose_end.d ["places"] (spP (cx T) m_to_loose_end) :=
  fn_pure 1 2 m_to_loose_end b_to_loose_end rfl T.to_loose_end.F sc_to_loose_end rfl rfl rfl fun cdv A outer s H E hr => ss_cons (sx_set 1 sc_to_loose_end.nd (ex_op op_addL os_addL (ex_callTy call_list_of cs_list T.n_list (xa_cons (ex_var 0) (xa_nil))) (ex_rev (ex_callTy call_list_of cs_list T.n_list (xa_cons (ex_cut (ex_var 0) (xo_no) (xo_some (ex_un un_neg un_negS (ex_int)))) (xa_nil)))))) (ss_one (sx_ret (ex_cut (ex_callTy call_list_of cs_list T.n_list (xa_cons (ex_call (ok_drawn T) (hr.mono (by decide)) T.drawn.g T.drawn.F.kp T.drawn.b (xa_cons (ex_var 1) (xa_nil))) (xa_nil))) (xo_no) (xo_some (ex_callB call_len cs_len T.n_len (xa_cons (ex_var 0) (xa_nil)))))))
theorem ok_loose_cord (T : Tx K mg) : FnOk P w K mg base CX0 9 T.loose_cord.a T.loose_cord.d ["tube"] (spP (cx T) m_loose_cord) :=
  fn_pure 1 10 m_loose_cord b_loose_cord rfl T.loose_cord.F sc_loose_cord rfl rfl rfl fun cdv A outer s H E hr => ss_cons (sx_drop (ex_call (ok_check_tube T) (hr.mono (by decide)) T.check_tube.g T.check_tube.F.kp T.check_tube.b (xa_cons (ex_var 0) (xa_nil)))) (ss_cons (sx_set 1 sc_loose_cord.nd (ex_call (ok_level_height T) (hr.mono (by decide)) T.level_height.g T.level_height.F.kp T.level_height.b (xa_cons (ex_var 0) (xa_nil)))) (ss_cons (sx_if (xt_notN (ex_var 1)) (ss_one (sx_ret (ex_op op_mulT os_mulT (ex_tup (xa_cons (ex_var 1) (xa_nil))) (ex_callB call_len cs_len T.n_len (xa_cons (ex_var 0) (xa_nil)))))) (ss_nil)) (ss_cons (sx_setD 2 sc_loose_cord.nd (xd_call (ok_held_places T) (hr.mono (by decide)) T.held_places.g T.held_places.F.kp T.held_places.b (xa_cons (ex_var 0) (xa_nil)))) (ss_cons (sx_par 3 4 rfl sc_loose_cord.nd (xa_cons (ex_minD 2 T.n_min) (xa_cons (ex_maxD 2 T.n_max) (xa_nil)))) (ss_cons (sx_setLc [] 5 (own := [("place", 9)]) (pins' := [0, 1, 2, 3, 4, 5, 6, 7, 8]) sc_loose_cord.nd (ix_range1 (xa_cons (ex_callB call_len cs_len T.n_len (xa_cons (ex_var 0) (xa_nil))) (xa_nil)) T.n_range) (blkOk_by (N := ["tube", "height", "held", "first", "last", "places", "ahead", "between", "behind", "place"]) (sc := defScope s_loose_cord) (by decide +kernel)) (pins_ok (n := 10) (by decide) rfl) (gown_name) (fun _ _ _ _ _ => gx_name 9 sc_loose_cord.nd) (fun _ _ _ _ _ => xts_nil) (fun _ _ _ _ _ => ex_getD 2 (room65 hr) (ex_var 9) (ex_ix ix_seq os_ix (ex_var 0) (ex_var 9))) (sw_true rfl rfl rfl (by decide +kernel))) (ss_cons (sx_set 6 sc_loose_cord.nd (ex_rev (ex_call (ok_to_loose_end T) (hr.mono (by decide)) T.to_loose_end.g T.to_loose_end.F.kp T.to_loose_end.b (xa_cons (ex_rev (ex_cut (ex_var 5) (xo_no) (xo_some (ex_op op_addL os_addL (ex_var 3) (ex_int))))) (xa_nil))))) (ss_cons (sx_set 7 sc_loose_cord.nd (ex_callTy call_list_of cs_list T.n_list (xa_cons (ex_call (ok_drawn T) (hr.mono (by decide)) T.drawn.g T.drawn.F.kp T.drawn.b (xa_cons (ex_cut (ex_var 5) (xo_some (ex_var 3)) (xo_some (ex_op op_addL os_addL (ex_var 4) (ex_int)))) (xa_nil))) (xa_nil)))) (ss_cons (sx_set 8 sc_loose_cord.nd (ex_call (ok_to_loose_end T) (hr.mono (by decide)) T.to_loose_end.g T.to_loose_end.F.kp T.to_loose_end.b (xa_cons (ex_cut (ex_var 5) (xo_some (ex_var 4)) (xo_no)) (xa_nil)))) (ss_one (sx_ret (ex_callTy call_tuple_of cs_tuple T.n_tuple (xa_cons (ex_op op_addL os_addL (ex_op op_addL os_addL (ex_cut (ex_var 6) (xo_no) (xo_some (ex_un un_neg un_negS (ex_int)))) (ex_var 7)) (ex_cut (ex_var 8) (xo_some (ex_int)) (xo_no))) (xa_nil)))))))))))))
theorem ok_is_ring (T : Tx K mg) : FnOk P w K mg base CX0 5 T.is_ring.a T.is_ring.d ["thing"] (spP (cx T) m_is_ring) :=
  fn_pure 1 1 m_is_ring b_is_ring rfl T.is_ring.F sc_is_ring rfl rfl rfl fun cdv A outer s H E hr => ss_one (sx_ret (ex_and (ex_call (ok_is_tube T) (hr.mono (by decide)) T.is_tube.g T.is_tube.F.kp T.is_tube.b (xa_cons (ex_var 0) (xa_nil))) (ex_one (ex_chain op_le op_lt os_le os_lt bo_le (ex_c (pe_glob rfl T.LEAST_RING.g T.LEAST_RING.r) T.LEAST_RING.p) (ex_callB call_len cs_len T.n_len (xa_cons (ex_var 0) (xa_nil))) (ex_c (pe_glob rfl T.MOST_PLACES.g T.MOST_PLACES.r) T.MOST_PLACES.p)))))
theorem ok_check_ring (T : Tx K mg) : FnOk P w K mg base CX0 6 T.check_ring.a T.check_ring.d ["thing"] (spP (cx T) m_check_ring) :=
  fn_pure 1 1 m_check_ring b_check_ring rfl T.check_ring.F sc_check_ring rfl rfl rfl fun cdv A outer s H E hr => ss_one (sx_if (xt_not (xt_val (ex_call (ok_is_ring T) (hr.mono (by decide)) T.is_ring.g T.is_ring.F.kp T.is_ring.b (xa_cons (ex_var 0) (xa_nil))))) (ss_one (sx_never)) (ss_nil))
theorem ok_ring_cord (T : Tx K mg) : FnOk P w K mg base CX0 8 T.ring_cord.a T.ring_cord.d ["tube"] (spP (cx T) m_ring_cord) :=
  fn_pure 1 8 m_ring_cord b_ring_cord rfl T.ring_cord.F sc_ring_cord rfl rfl rfl fun cdv A outer s H E hr => ss_cons (sx_drop (ex_call (ok_check_ring T) (hr.mono (by decide)) T.check_ring.g T.check_ring.F.kp T.check_ring.b (xa_cons (ex_var 0) (xa_nil)))) (ss_cons (sx_set 1 sc_ring_cord.nd (ex_call (ok_level_height T) (hr.mono (by decide)) T.level_height.g T.level_height.F.kp T.level_height.b (xa_cons (ex_var 0) (xa_nil)))) (ss_cons (sx_if (xt_notN (ex_var 1)) (ss_one (sx_ret (ex_op op_mulT os_mulT (ex_tup (xa_cons (ex_var 1) (xa_nil))) (ex_callB call_len cs_len T.n_len (xa_cons (ex_var 0) (xa_nil)))))) (ss_nil)) (ss_cons (sx_set 2 sc_ring_cord.nd (ex_call (ok_greatest_of T) (hr.mono (by decide)) T.greatest_of.g T.greatest_of.F.kp T.greatest_of.b (xa_cons (ex_lc (own := [("low", 6), ("high", 7)]) (pins' := [0, 1, 2, 3, 4, 5]) sc_ring_cord.nd (ix_seq' (ex_var 0)) (blkOk_by (N := ["tube", "height", "top", "cut", "places", "found", "low", "high"]) (sc := defScope s_ring_cord) (by decide +kernel)) (pins_ok (n := 8) (by decide) rfl) (gown_tup (gown_cons (gown_name) (gown_cons (gown_name) (gown_nil)))) (fun _ _ _ _ _ => gx_tup rfl (gsx_cons (gx_name 6 sc_ring_cord.nd) (gsx_cons (gx_name 7 sc_ring_cord.nd) (gsx_nil))) rfl (gs_lenS (gs_lenS (gs_len0)))) (fun _ _ _ _ _ => xts_nil) (fun _ _ _ _ _ => ex_var 6)) (xa_nil)))) (ss_cons (sx_set 3 sc_ring_cord.nd (ex_index (room65 hr) (ex_lc (own := [("low", 6), ("high", 7)]) (pins' := [0, 1, 2, 3, 4, 5]) sc_ring_cord.nd (ix_seq' (ex_var 0)) (blkOk_by (N := ["tube", "height", "top", "cut", "places", "found", "low", "high"]) (sc := defScope s_ring_cord) (by decide +kernel)) (pins_ok (n := 8) (by decide) rfl) (gown_tup (gown_cons (gown_name) (gown_cons (gown_name) (gown_nil)))) (fun _ _ _ _ _ => gx_tup rfl (gsx_cons (gx_name 6 sc_ring_cord.nd) (gsx_cons (gx_name 7 sc_ring_cord.nd) (gsx_nil))) rfl (gs_lenS (gs_lenS (gs_len0)))) (fun _ _ _ _ _ => xts_nil) (fun _ _ _ _ _ => ex_var 6)) (ex_var 2))) (ss_cons (sx_set 4 sc_ring_cord.nd (ex_op op_addL os_addL (ex_callTy call_list_of cs_list T.n_list (xa_cons (ex_cut (ex_var 0) (xo_some (ex_var 3)) (xo_no)) (xa_nil))) (ex_callTy call_list_of cs_list T.n_list (xa_cons (ex_cut (ex_var 0) (xo_no) (xo_some (ex_var 3))) (xa_nil))))) (ss_cons (sx_set 5 sc_ring_cord.nd (ex_cut (ex_callTy call_list_of cs_list T.n_list (xa_cons (ex_call (ok_drawn T) (hr.mono (by decide)) T.drawn.g T.drawn.F.kp T.drawn.b (xa_cons (ex_op op_addL os_addL (ex_op op_addL os_addL (ex_lst (xa_cons (ex_tup (xa_cons (ex_var 2) (xa_cons (ex_var 2) (xa_nil)))) (xa_nil))) (ex_cut (ex_var 4) (xo_some (ex_int)) (xo_no))) (ex_lst (xa_cons (ex_tup (xa_cons (ex_var 2) (xa_cons (ex_var 2) (xa_nil)))) (xa_nil)))) (xa_nil))) (xa_nil))) (xo_no) (xo_some (ex_un un_neg un_negS (ex_int))))) (ss_one (sx_ret (ex_callTy call_tuple_of cs_tuple T.n_tuple (xa_cons (ex_op op_addL os_addL (ex_cut (ex_var 5) (xo_some (ex_op op_sub os_sub (ex_callB call_len cs_len T.n_len (xa_cons (ex_var 0) (xa_nil))) (ex_var 3))) (xo_no)) (ex_cut (ex_var 5) (xo_no) (xo_some (ex_op op_sub os_sub (ex_callB call_len cs_len T.n_len (xa_cons (ex_var 0) (xa_nil))) (ex_var 3))))) (xa_nil)))))))))))
theorem ok__law_mixed (T : Tx K mg) : FnOk P w K mg base CX0 1 T._law_mixed.a T._law_mixed.d ["_law_cell"] (spP (cx T) m__law_mixed) :=
  fn_pure 1 1 m__law_mixed b__law_mixed rfl T._law_mixed.F sc__law_mixed rfl rfl rfl fun cdv A outer s H E hr => ss_one (sx_ret (ex_op op_modN os_mod (ex_op op_mulA os_mul (ex_var 0) (ex_int)) (ex_op op_pow os_pow (ex_int) (ex_int))))
theorem ok__law_pack (T : Tx K mg) : FnOk P w K mg base CX0 2 T._law_pack.a T._law_pack.d ["_law_script", "_law_k"] (spN (cx T) m__law_pack) :=
  fn_new 2 4 m__law_pack b__law_pack rfl T._law_pack.F sc__law_pack rfl rfl rfl fun cdv A outer s H E hr => ss_cons (sx_set 2 sc__law_pack.nd (ex_int)) (ss_cons (sx_for (ix_seq' (ex_lst (xa_cons (ex_op op_addL os_addL (ex_var 1) (ex_int)) (xa_cons (ex_var 1) (xa_nil))))) (gx_name 3 sc__law_pack.nd) (ss_one (sx_set 2 sc__law_pack.nd (ex_op op_addL os_addL (ex_op op_mulA os_mul (ex_var 2) (ex_op op_pow os_pow (ex_int) (ex_int))) (ex_call (ok__law_mixed T) (hr.mono (by decide)) T._law_mixed.g T._law_mixed.F.kp T._law_mixed.b (xa_cons (ex_ix ix_seq os_ix (ex_op op_addL os_addL (ex_cut (ex_var 0) (xo_some (ex_var 3)) (xo_some (ex_op op_addL os_addL (ex_var 3) (ex_int)))) (ex_lst (xa_cons (ex_op op_addL os_addL (ex_op op_mulA os_mul (ex_int) (ex_var 3)) (ex_int)) (xa_nil)))) (ex_int)) (xa_nil))))))) (ss_one (sx_retNew (xn_lst (xa_cons (ex_var 2) (xa_nil))))))
theorem ok__law_take (T : Tx K mg) : FnOk P w K mg base CX0 1 T._law_take.a T._law_take.d ["_law_pack_here", "_law_size"] (spO (cx T) m__law_take) :=
  fn_own [true, false] [0] 3 m__law_take b__law_take rfl T._law_take.F sc__law_take rfl rfl rfl (by decide) (mask_ok (by decide)) fun cdv A outer s H E hr => ss_cons (sx_asg (ex_callB call_divmodB cs_divmod T.n_divmod (xa_cons (ex_bor 0 (ex_ix ix_seq os_ix (ex_var 0) (ex_int))) (xa_cons (ex_var 1) (xa_nil)))) (gx_tup rfl (gsx_cons (gx_ix 0 (ex_int)) (gsx_cons (gx_name 2 sc__law_take.nd) (gsx_nil))) rfl (gs_lenS (gs_lenS (gs_len0))))) (ss_one (sx_ret (ex_var 2)))
theorem ok__law_low (T : Tx K mg) : FnOk P w K mg base CX0 1 T._law_low.a T._law_low.d ["_law_top", "_law_bottom"] (spP (cx T) m__law_low) :=
  fn_pure 2 4 m__law_low b__law_low rfl T._law_low.F sc__law_low rfl rfl rfl fun cdv A outer s H E hr => ss_cons (sx_par 2 3 rfl sc__law_low.nd (xa_cons (ex_callB call_abs cs_abs T.n_abs (xa_cons (ex_var 0) (xa_nil))) (xa_cons (ex_callB call_abs cs_abs T.n_abs (xa_cons (ex_var 1) (xa_nil))) (xa_nil)))) (ss_cons (sx_while (xt_cmp (op_neD hr.units) os_ne bo_ne (ex_var 3) (ex_int)) (ss_one (sx_par 2 3 rfl sc__law_low.nd (xa_cons (ex_var 3) (xa_cons (ex_op op_modN os_mod (ex_var 2) (ex_var 3)) (xa_nil)))))) (ss_cons (sx_if (xt_cmp op_lt os_lt bo_lt (ex_var 1) (ex_int)) (ss_one (sx_set 2 sc__law_low.nd (ex_op op_sub os_sub (ex_int) (ex_var 2)))) (ss_nil)) (ss_one (sx_ret (ex_tup (xa_cons (ex_op op_fdivS os_fdiv (ex_var 0) (ex_var 2)) (xa_cons (ex_op op_fdivS os_fdiv (ex_var 1) (ex_var 2)) (xa_nil))))))))
theorem ok__law_more (T : Tx K mg) : FnOk P w K mg base CX0 2 T._law_more.a T._law_more.d ["_law_one", "_law_other"] (spP (cx T) m__law_more) :=
  fn_pure 2 2 m__law_more b__law_more rfl T._law_more.F sc__law_more rfl rfl rfl fun cdv A outer s H E hr => ss_one (sx_ret (ex_call (ok__law_low T) (hr.mono (by decide)) T._law_low.g T._law_low.F.kp T._law_low.b (xa_cons (ex_op op_addL os_addL (ex_op op_mulA os_mul (ex_ix ix_seq os_ix (ex_var 0) (ex_int)) (ex_ix ix_seq os_ix (ex_var 1) (ex_int))) (ex_op op_mulA os_mul (ex_ix ix_seq os_ix (ex_var 1) (ex_int)) (ex_ix ix_seq os_ix (ex_var 0) (ex_int)))) (xa_cons (ex_op op_mulA os_mul (ex_ix ix_seq os_ix (ex_var 0) (ex_int)) (ex_ix ix_seq os_ix (ex_var 1) (ex_int))) (xa_nil)))))
theorem ok__law_less_by (T : Tx K mg) : FnOk P w K mg base CX0 2 T._law_less_by.a T._law_less_by.d ["_law_one", "_law_other"] (spP (cx T) m__law_less_by) :=
  fn_pure 2 2 m__law_less_by b__law_less_by rfl T._law_less_by.F sc__law_less_by rfl rfl rfl fun cdv A outer s H E hr => ss_one (sx_ret (ex_call (ok__law_low T) (hr.mono (by decide)) T._law_low.g T._law_low.F.kp T._law_low.b (xa_cons (ex_op op_sub os_sub (ex_op op_mulA os_mul (ex_ix ix_seq os_ix (ex_var 0) (ex_int)) (ex_ix ix_seq os_ix (ex_var 1) (ex_int))) (ex_op op_mulA os_mul (ex_ix ix_seq os_ix (ex_var 1) (ex_int)) (ex_ix ix_seq os_ix (ex_var 0) (ex_int)))) (xa_cons (ex_op op_mulA os_mul (ex_ix ix_seq os_ix (ex_var 0) (ex_int)) (ex_ix ix_seq os_ix (ex_var 1) (ex_int))) (xa_nil)))))
theorem ok__law_under (T : Tx K mg) : FnOk P w K mg base CX0 1 T._law_under.a T._law_under.d ["_law_one", "_law_other"] (spP (cx T) m__law_under) :=
  fn_pure 2 2 m__law_under b__law_under rfl T._law_under.F sc__law_under rfl rfl rfl fun cdv A outer s H E hr => ss_one (sx_ret (ex_cmp op_lt os_lt (ex_op op_mulA os_mul (ex_ix ix_seq os_ix (ex_var 0) (ex_int)) (ex_ix ix_seq os_ix (ex_var 1) (ex_int))) (ex_op op_mulA os_mul (ex_ix ix_seq os_ix (ex_var 1) (ex_int)) (ex_ix ix_seq os_ix (ex_var 0) (ex_int)))))
theorem ok__law_width (T : Tx K mg) : FnOk P w K mg base CX0 2 T._law_width.a T._law_width.d ["_law_pack_here", "_law_wide"] (spO (cx T) m__law_width) :=
  fn_own [true, false] [0] 3 m__law_width b__law_width rfl T._law_width.F sc__law_width rfl rfl rfl (by decide) (mask_ok (by decide)) fun cdv A outer s H E hr => ss_cons (sx_set 2 sc__law_width.nd (ex_callO (ok__law_take T) (hr.mono (by decide)) T._law_take.g T._law_take.F.kp T._law_take.b (xao_own 0 (xao_val (ex_int) (xao_nil))))) (ss_cons (sx_if (xt_cmp (op_eqD hr.units) os_eq bo_eq (ex_var 2) (ex_int)) (ss_one (sx_ret (ex_tup (xa_cons (ex_int) (xa_cons (ex_int) (xa_nil)))))) (ss_nil)) (ss_one (sx_ret (ex_call (ok__law_low T) (hr.mono (by decide)) T._law_low.g T._law_low.F.kp T._law_low.b (xa_cons (ex_callO (ok__law_take T) (hr.mono (by decide)) T._law_take.g T._law_take.F.kp T._law_take.b (xao_own 0 (xao_val (ex_op op_addL os_addL (ex_var 1) (ex_int)) (xao_nil)))) (xa_cons (ex_ix ix_seq os_ix (ex_lst (xa_cons (ex_int) (xa_cons (ex_int) (xa_cons (ex_int) (xa_cons (ex_int) (xa_nil)))))) (ex_var 2)) (xa_nil)))))))
theorem ok__law_walk (T : Tx K mg) : FnOk P w K mg base CX0 3 T._law_walk.a T._law_walk.d ["_law_pack_here", "_law_size", "_law_wide"] (spO (cx T) m__law_walk) :=
  fn_own [true, false, false] [0] 6 m__law_walk b__law_walk rfl T._law_walk.F sc__law_walk rfl rfl rfl (by decide) (mask_ok (by decide)) fun cdv A outer s H E hr => ss_cons (sx_set 3 sc__law_walk.nd (ex_tup (xa_cons (ex_int) (xa_cons (ex_int) (xa_nil))))) (ss_cons (sx_new 4 sc__law_walk.nd (xn_lst (xa_nil))) (ss_cons (sx_for (ix_range1 (xa_cons (ex_var 1) (xa_nil)) T.n_range) (gx_name 5 sc__law_walk.nd) (ss_cons (sx_set 3 sc__law_walk.nd (ex_call (ok__law_more T) (hr.mono (by decide)) T._law_more.g T._law_more.F.kp T._law_more.b (xa_cons (ex_var 3) (xa_cons (ex_tup (xa_cons (ex_op op_sub os_sub (ex_callO (ok__law_take T) (hr.mono (by decide)) T._law_take.g T._law_take.F.kp T._law_take.b (xao_own 0 (xao_val (ex_int) (xao_nil)))) (ex_int)) (xa_cons (ex_int) (xa_nil)))) (xa_nil))))) (ss_one (sx_app 4 (ex_tup (xa_cons (ex_var 3) (xa_cons (ex_call (ok__law_more T) (hr.mono (by decide)) T._law_more.g T._law_more.F.kp T._law_more.b (xa_cons (ex_var 3) (xa_cons (ex_callO (ok__law_width T) (hr.mono (by decide)) T._law_width.g T._law_width.F.kp T._law_width.b (xao_own 0 (xao_val (ex_var 2) (xao_nil)))) (xa_nil)))) (xa_nil)))))))) (ss_one (sx_ret (ex_callTy call_tuple_of cs_tuple T.n_tuple (xa_cons (ex_frz 4) (xa_nil)))))))
theorem ok__law_fine_number (T : Tx K mg) : FnOk P w K mg base CX0 2 T._law_fine_number.a T._law_fine_number.d ["_law_pack_here"] (spO (cx T) m__law_fine_number) :=
  fn_own [true] [0] 2 m__law_fine_number b__law_fine_number rfl T._law_fine_number.F sc__law_fine_number rfl rfl rfl (by decide) (mask_ok (by decide)) fun cdv A outer s H E hr => ss_cons (sx_set 1 sc__law_fine_number.nd (ex_ix ix_seq os_ix (ex_lst (xa_cons (ex_int) (xa_cons (ex_int) (xa_cons (ex_int) (xa_cons (ex_int) (xa_nil)))))) (ex_callO (ok__law_take T) (hr.mono (by decide)) T._law_take.g T._law_take.F.kp T._law_take.b (xao_own 0 (xao_val (ex_int) (xao_nil)))))) (ss_one (sx_ret (ex_call (ok__law_low T) (hr.mono (by decide)) T._law_low.g T._law_low.F.kp T._law_low.b (xa_cons (ex_op op_sub os_sub (ex_op op_mulA os_mul (ex_int) (ex_var 1)) (ex_callO (ok__law_take T) (hr.mono (by decide)) T._law_take.g T._law_take.F.kp T._law_take.b (xao_own 0 (xao_val (ex_int) (xao_nil))))) (xa_cons (ex_var 1) (xa_nil))))))
theorem ok__law_fine_walk (T : Tx K mg) : FnOk P w K mg base CX0 3 T._law_fine_walk.a T._law_fine_walk.d ["_law_pack_here", "_law_size"] (spO (cx T) m__law_fine_walk) :=
  fn_own [true, false] [0] 6 m__law_fine_walk b__law_fine_walk rfl T._law_fine_walk.F sc__law_fine_walk rfl rfl rfl (by decide) (mask_ok (by decide)) fun cdv A outer s H E hr => ss_cons (sx_new 2 sc__law_fine_walk.nd (xn_lst (xa_nil))) (ss_cons (sx_for (ix_range1 (xa_cons (ex_var 1) (xa_nil)) T.n_range) (gx_name 3 sc__law_fine_walk.nd) (ss_cons (sx_par 4 5 rfl sc__law_fine_walk.nd (xa_cons (ex_callO (ok__law_fine_number T) (hr.mono (by decide)) T._law_fine_number.g T._law_fine_number.F.kp T._law_fine_number.b (xao_own 0 (xao_nil))) (xa_cons (ex_callO (ok__law_fine_number T) (hr.mono (by decide)) T._law_fine_number.g T._law_fine_number.F.kp T._law_fine_number.b (xao_own 0 (xao_nil))) (xa_nil)))) (ss_cons (sx_if (xt_val (ex_call (ok__law_under T) (hr.mono (by decide)) T._law_under.g T._law_under.F.kp T._law_under.b (xa_cons (ex_var 5) (xa_cons (ex_var 4) (xa_nil))))) (ss_one (sx_par 4 5 rfl sc__law_fine_walk.nd (xa_cons (ex_var 5) (xa_cons (ex_var 4) (xa_nil))))) (ss_nil)) (ss_one (sx_app 2 (ex_tup (xa_cons (ex_var 4) (xa_cons (ex_var 5) (xa_nil))))))))) (ss_one (sx_ret (ex_callTy call_tuple_of cs_tuple T.n_tuple (xa_cons (ex_frz 2) (xa_nil))))))
theorem ok__law_moved (T : Tx K mg) : FnOk P w K mg base CX0 3 T._law_moved.a T._law_moved.d ["_law_pack_here", "_law_tube"] (spO (cx T) m__law_moved) :=
  fn_own [true, false] [0] 8 m__law_moved b__law_moved rfl T._law_moved.F sc__law_moved rfl rfl rfl (by decide) (mask_ok (by decide)) fun cdv A outer s H E hr => ss_cons (sx_set 2 sc__law_moved.nd (ex_callO (ok__law_take T) (hr.mono (by decide)) T._law_take.g T._law_take.F.kp T._law_take.b (xao_own 0 (xao_val (ex_op op_mulA os_mul (ex_int) (ex_callB call_len cs_len T.n_len (xa_cons (ex_var 1) (xa_nil)))) (xao_nil))))) (ss_cons (sx_set 3 sc__law_moved.nd (ex_lst (xa_cons (ex_tup (xa_cons (ex_int) (xa_cons (ex_int) (xa_nil)))) (xa_cons (ex_tup (xa_cons (ex_int) (xa_cons (ex_int) (xa_nil)))) (xa_cons (ex_tup (xa_cons (ex_un un_neg un_negS (ex_int)) (xa_cons (ex_int) (xa_nil)))) (xa_cons (ex_tup (xa_cons (ex_int) (xa_cons (ex_int) (xa_nil)))) (xa_cons (ex_tup (xa_cons (ex_un un_neg un_negS (ex_int)) (xa_cons (ex_int) (xa_nil)))) (xa_cons (ex_tup (xa_cons (ex_int) (xa_cons (ex_int) (xa_nil)))) (xa_nil))))))))) (ss_cons (sx_new 4 sc__law_moved.nd (xn_lst (xa_nil))) (ss_cons (sx_for (ix_range1 (xa_cons (ex_callB call_len cs_len T.n_len (xa_cons (ex_var 1) (xa_nil))) (xa_nil)) T.n_range) (gx_name 5 sc__law_moved.nd) (ss_cons (sx_asg (ex_ix ix_seq os_ix (ex_var 1) (ex_var 5)) (gx_tup rfl (gsx_cons (gx_name 6 sc__law_moved.nd) (gsx_cons (gx_name 7 sc__law_moved.nd) (gsx_nil))) rfl (gs_lenS (gs_lenS (gs_len0))))) (ss_cons (sx_if (PW.pt (xw_or (xt_cmp (op_eqD hr.units) os_eq bo_eq (ex_var 2) (ex_var 5)) (xw_or1 (xt_cmp op_ge os_ge bo_ge (ex_var 2) (ex_callB call_len cs_len T.n_len (xa_cons (ex_var 1) (xa_nil))))))) (ss_one (sx_par 6 7 rfl sc__law_moved.nd (xa_cons (ex_call (ok__law_more T) (hr.mono (by decide)) T._law_more.g T._law_more.F.kp T._law_more.b (xa_cons (ex_var 6) (xa_cons (ex_ix ix_seq os_ix (ex_var 3) (ex_callO (ok__law_take T) (hr.mono (by decide)) T._law_take.g T._law_take.F.kp T._law_take.b (xao_own 0 (xao_val (ex_int) (xao_nil))))) (xa_nil)))) (xa_cons (ex_call (ok__law_more T) (hr.mono (by decide)) T._law_more.g T._law_more.F.kp T._law_more.b (xa_cons (ex_var 7) (xa_cons (ex_ix ix_seq os_ix (ex_var 3) (ex_callO (ok__law_take T) (hr.mono (by decide)) T._law_take.g T._law_take.F.kp T._law_take.b (xao_own 0 (xao_val (ex_int) (xao_nil))))) (xa_nil)))) (xa_nil))))) (ss_nil)) (ss_cons (sx_if (xt_val (ex_call (ok__law_under T) (hr.mono (by decide)) T._law_under.g T._law_under.F.kp T._law_under.b (xa_cons (ex_var 7) (xa_cons (ex_var 6) (xa_nil))))) (ss_one (sx_par 6 7 rfl sc__law_moved.nd (xa_cons (ex_var 7) (xa_cons (ex_var 6) (xa_nil))))) (ss_nil)) (ss_one (sx_app 4 (ex_tup (xa_cons (ex_var 6) (xa_cons (ex_var 7) (xa_nil)))))))))) (ss_one (sx_ret (ex_callTy call_tuple_of cs_tuple T.n_tuple (xa_cons (ex_frz 4) (xa_nil))))))))
theorem ok__law_two (T : Tx K mg) : FnOk P w K mg base CX0 4 T._law_two.a T._law_two.d ["_law_pack_here", "_law_more_here", "_law_first"] (spO (cx T) m__law_two) :=
  fn_own [true, true, false] [0, 1] 6 m__law_two b__law_two rfl T._law_two.F sc__law_two rfl rfl rfl (by decide) (mask_ok (by decide)) fun cdv A outer s H E hr => ss_cons (sx_set 3 sc__law_two.nd (ex_cmp (op_eqD hr.units) os_eq (ex_callO (ok__law_take T) (hr.mono (by decide)) T._law_take.g T._law_take.F.kp T._law_take.b (xao_own 0 (xao_val (ex_int) (xao_nil)))) (ex_int))) (ss_cons (sx_set 4 sc__law_two.nd (ex_op op_addL os_addL (ex_int) (ex_callO (ok__law_take T) (hr.mono (by decide)) T._law_take.g T._law_take.F.kp T._law_take.b (xao_own 0 (xao_val (ex_int) (xao_nil)))))) (ss_cons (sx_if (xt_val (ex_var 3)) (ss_one (sx_ret (ex_tup (xa_cons (ex_callO (ok__law_fine_walk T) (hr.mono (by decide)) T._law_fine_walk.g T._law_fine_walk.F.kp T._law_fine_walk.b (xao_own 0 (xao_val (ex_var 4) (xao_nil)))) (xa_cons (ex_callO (ok__law_fine_walk T) (hr.mono (by decide)) T._law_fine_walk.g T._law_fine_walk.F.kp T._law_fine_walk.b (xao_own 1 (xao_val (ex_var 4) (xao_nil)))) (xa_nil)))))) (ss_nil)) (ss_cons (sx_if (PW.pt (xw_and (xt_cmp (op_eqD hr.units) os_eq bo_eq (ex_callO (ok__law_take T) (hr.mono (by decide)) T._law_take.g T._law_take.F.kp T._law_take.b (xao_own 0 (xao_val (ex_int) (xao_nil)))) (ex_int)) (xw_and1 (xt_val (ex_var 2))))) (ss_one (sx_set 4 sc__law_two.nd (ex_int))) (ss_nil)) (ss_cons (sx_set 5 sc__law_two.nd (ex_callO (ok__law_walk T) (hr.mono (by decide)) T._law_walk.g T._law_walk.F.kp T._law_walk.b (xao_own 0 (xao_val (ex_var 4) (xao_val (ex_int) (xao_nil)))))) (ss_cons (sx_if (xt_cmp (op_eqD hr.units) os_eq bo_eq (ex_callO (ok__law_take T) (hr.mono (by decide)) T._law_take.g T._law_take.F.kp T._law_take.b (xao_own 1 (xao_val (ex_int) (xao_nil)))) (ex_int)) (ss_one (sx_ret (ex_tup (xa_cons (ex_var 5) (xa_cons (ex_callO (ok__law_walk T) (hr.mono (by decide)) T._law_walk.g T._law_walk.F.kp T._law_walk.b (xao_own 1 (xao_val (ex_var 4) (xao_val (ex_int) (xao_nil))))) (xa_nil)))))) (ss_nil)) (ss_one (sx_ret (ex_tup (xa_cons (ex_var 5) (xa_cons (ex_callO (ok__law_moved T) (hr.mono (by decide)) T._law_moved.g T._law_moved.F.kp T._law_moved.b (xao_own 1 (xao_val (ex_var 5) (xao_nil)))) (xa_nil)))))))))))
theorem ok__law_tied (T : Tx K mg) : FnOk P w K mg base CX0 1 T._law_tied.a T._law_tied.d ["_law_tube", "_law_ends"] (spP (cx T) m__law_tied) :=
  fn_pure 2 4 m__law_tied b__law_tied rfl T._law_tied.F sc__law_tied rfl rfl rfl fun cdv A outer s H E hr => ss_cons (sx_par 2 3 rfl sc__law_tied.nd (xa_cons (ex_ix ix_seq os_ix (ex_ix ix_seq os_ix (ex_var 0) (ex_int)) (ex_ix ix_seq os_ix (ex_var 1) (ex_int))) (xa_cons (ex_ix ix_seq os_ix (ex_ix ix_seq os_ix (ex_var 0) (ex_un un_neg un_negS (ex_int))) (ex_ix ix_seq os_ix (ex_var 1) (ex_int))) (xa_nil)))) (ss_one (sx_ret (ex_op op_addL os_addL (ex_op op_addL os_addL (ex_tup (xa_cons (ex_tup (xa_cons (ex_var 2) (xa_cons (ex_var 2) (xa_nil)))) (xa_nil))) (ex_cut (ex_var 0) (xo_some (ex_int)) (xo_some (ex_un un_neg un_negS (ex_int))))) (ex_tup (xa_cons (ex_tup (xa_cons (ex_var 3) (xa_cons (ex_var 3) (xa_nil)))) (xa_nil))))))
theorem ok__law_greater (T : Tx K mg) : FnOk P w K mg base CX0 2 T._law_greater.a T._law_greater.d ["_law_one", "_law_other"] (spP (cx T) m__law_greater) :=
  fn_pure 2 2 m__law_greater b__law_greater rfl T._law_greater.F sc__law_greater rfl rfl rfl fun cdv A outer s H E hr => ss_cons (sx_if (xt_val (ex_call (ok__law_under T) (hr.mono (by decide)) T._law_under.g T._law_under.F.kp T._law_under.b (xa_cons (ex_var 0) (xa_cons (ex_var 1) (xa_nil))))) (ss_one (sx_ret (ex_var 1))) (ss_nil)) (ss_one (sx_ret (ex_var 0)))
theorem ok__law_lesser (T : Tx K mg) : FnOk P w K mg base CX0 2 T._law_lesser.a T._law_lesser.d ["_law_one", "_law_other"] (spP (cx T) m__law_lesser) :=
  fn_pure 2 2 m__law_lesser b__law_lesser rfl T._law_lesser.F sc__law_lesser rfl rfl rfl fun cdv A outer s H E hr => ss_cons (sx_if (xt_val (ex_call (ok__law_under T) (hr.mono (by decide)) T._law_under.g T._law_under.F.kp T._law_under.b (xa_cons (ex_var 0) (xa_cons (ex_var 1) (xa_nil))))) (ss_one (sx_ret (ex_var 0))) (ss_nil)) (ss_one (sx_ret (ex_var 1)))
theorem ok__law_four (T : Tx K mg) : FnOk P w K mg base CX0 3 T._law_four.a T._law_four.d ["_law_tube", "_law_other"] (spP (cx T) m__law_four) :=
  fn_pure 2 6 m__law_four b__law_four rfl T._law_four.F sc__law_four rfl rfl rfl fun cdv A outer s H E hr => ss_cons (sx_set 2 sc__law_four.nd (ex_callTy call_tuple_of cs_tuple T.n_tuple (xa_cons (ex_lc (own := [("_law_one", 4), ("_law_two_here", 5)]) (pins' := [0, 1, 2, 3]) sc__law_four.nd (ix_zip (xa_cons (ex_var 0) (xa_cons (ex_var 1) (xa_nil))) T.n_zip) (blkOk_by (N := ["_law_tube", "_law_other", "_law_up", "_law_down", "_law_one", "_law_two_here"]) (sc := defScope s__law_four) (by decide +kernel)) (pins_ok (n := 6) (by decide) rfl) (gown_tup (gown_cons (gown_name) (gown_cons (gown_name) (gown_nil)))) (fun _ _ _ _ _ => gx_tup rfl (gsx_cons (gx_name 4 sc__law_four.nd) (gsx_cons (gx_name 5 sc__law_four.nd) (gsx_nil))) rfl (gs_lenS (gs_lenS (gs_len0)))) (fun _ _ _ _ _ => xts_nil) (fun _ _ _ _ _ => ex_tup (xa_cons (ex_call (ok__law_greater T) (hr.mono (by decide)) T._law_greater.g T._law_greater.F.kp T._law_greater.b (xa_cons (ex_ix ix_seq os_ix (ex_var 4) (ex_int)) (xa_cons (ex_ix ix_seq os_ix (ex_var 5) (ex_int)) (xa_nil)))) (xa_cons (ex_call (ok__law_greater T) (hr.mono (by decide)) T._law_greater.g T._law_greater.F.kp T._law_greater.b (xa_cons (ex_ix ix_seq os_ix (ex_var 4) (ex_int)) (xa_cons (ex_ix ix_seq os_ix (ex_var 5) (ex_int)) (xa_nil)))) (xa_nil))))) (xa_nil)))) (ss_cons (sx_set 3 sc__law_four.nd (ex_callTy call_tuple_of cs_tuple T.n_tuple (xa_cons (ex_lc (own := [("_law_one", 4), ("_law_two_here", 5)]) (pins' := [0, 1, 2, 3]) sc__law_four.nd (ix_zip (xa_cons (ex_var 0) (xa_cons (ex_var 1) (xa_nil))) T.n_zip) (blkOk_by (N := ["_law_tube", "_law_other", "_law_up", "_law_down", "_law_one", "_law_two_here"]) (sc := defScope s__law_four) (by decide +kernel)) (pins_ok (n := 6) (by decide) rfl) (gown_tup (gown_cons (gown_name) (gown_cons (gown_name) (gown_nil)))) (fun _ _ _ _ _ => gx_tup rfl (gsx_cons (gx_name 4 sc__law_four.nd) (gsx_cons (gx_name 5 sc__law_four.nd) (gsx_nil))) rfl (gs_lenS (gs_lenS (gs_len0)))) (fun _ _ _ _ _ => xts_nil) (fun _ _ _ _ _ => ex_tup (xa_cons (ex_call (ok__law_lesser T) (hr.mono (by decide)) T._law_lesser.g T._law_lesser.F.kp T._law_lesser.b (xa_cons (ex_ix ix_seq os_ix (ex_var 4) (ex_int)) (xa_cons (ex_ix ix_seq os_ix (ex_var 5) (ex_int)) (xa_nil)))) (xa_cons (ex_call (ok__law_lesser T) (hr.mono (by decide)) T._law_lesser.g T._law_lesser.F.kp T._law_lesser.b (xa_cons (ex_ix ix_seq os_ix (ex_var 4) (ex_int)) (xa_cons (ex_ix ix_seq os_ix (ex_var 5) (ex_int)) (xa_nil)))) (xa_nil))))) (xa_nil)))) (ss_one (sx_ret (ex_lst (xa_cons (ex_var 3) (xa_cons (ex_var 0) (xa_cons (ex_var 1) (xa_cons (ex_var 2) (xa_nil)))))))))
theorem ok__law_far (T : Tx K mg) : FnOk P w K mg base CX0 3 T._law_far.a T._law_far.d ["_law_tube", "_law_other"] (spP (cx T) m__law_far) :=
  fn_pure 2 7 m__law_far b__law_far rfl T._law_far.F sc__law_far rfl rfl rfl fun cdv A outer s H E hr => ss_cons (sx_set 2 sc__law_far.nd (ex_tup (xa_cons (ex_int) (xa_cons (ex_int) (xa_nil))))) (ss_cons (sx_for (ix_zip (xa_cons (ex_var 0) (xa_cons (ex_var 1) (xa_nil))) T.n_zip) (gx_tup rfl (gsx_cons (gx_name 3 sc__law_far.nd) (gsx_cons (gx_name 4 sc__law_far.nd) (gsx_nil))) rfl (gs_lenS (gs_lenS (gs_len0)))) (ss_one (sx_for (ix_seq' (ex_lst (xa_cons (ex_int) (xa_cons (ex_int) (xa_nil))))) (gx_name 5 sc__law_far.nd) (ss_cons (sx_set 6 sc__law_far.nd (ex_call (ok__law_less_by T) (hr.mono (by decide)) T._law_less_by.g T._law_less_by.F.kp T._law_less_by.b (xa_cons (ex_ix ix_seq os_ix (ex_var 3) (ex_var 5)) (xa_cons (ex_ix ix_seq os_ix (ex_var 4) (ex_var 5)) (xa_nil))))) (ss_one (sx_set 2 sc__law_far.nd (ex_call (ok__law_greater T) (hr.mono (by decide)) T._law_greater.g T._law_greater.F.kp T._law_greater.b (xa_cons (ex_var 2) (xa_cons (ex_tup (xa_cons (ex_callB call_abs cs_abs T.n_abs (xa_cons (ex_ix ix_seq os_ix (ex_var 6) (ex_int)) (xa_nil))) (xa_cons (ex_ix ix_seq os_ix (ex_var 6) (ex_int)) (xa_nil)))) (xa_nil)))))))))) (ss_one (sx_ret (ex_var 2))))
theorem ok__law_steps (T : Tx K mg) : FnOk P w K mg base CX0 3 T._law_steps.a T._law_steps.d ["_law_row"] (spP (cx T) m__law_steps) :=
  fn_pure 1 2 m__law_steps b__law_steps rfl T._law_steps.F sc__law_steps rfl rfl rfl fun cdv A outer s H E hr => ss_one (sx_ret (ex_callTy call_tuple_of cs_tuple T.n_tuple (xa_cons (ex_lc (own := [("_law_k", 1)]) (pins' := [0]) sc__law_steps.nd (ix_range1 (xa_cons (ex_op op_sub os_sub (ex_callB call_len cs_len T.n_len (xa_cons (ex_var 0) (xa_nil))) (ex_int)) (xa_nil)) T.n_range) (blkOk_by (N := ["_law_row", "_law_k"]) (sc := defScope s__law_steps) (by decide +kernel)) (pins_ok (n := 2) (by decide) rfl) (gown_name) (fun _ _ _ _ _ => gx_name 1 sc__law_steps.nd) (fun _ _ _ _ _ => xts_nil) (fun _ _ _ _ _ => ex_call (ok__law_less_by T) (hr.mono (by decide)) T._law_less_by.g T._law_less_by.F.kp T._law_less_by.b (xa_cons (ex_ix ix_seq os_ix (ex_var 0) (ex_op op_addL os_addL (ex_var 1) (ex_int))) (xa_cons (ex_ix ix_seq os_ix (ex_var 0) (ex_var 1)) (xa_nil))))) (xa_nil))))
theorem ok__law_is_number (T : Tx K mg) : FnOk P w K mg base CX0 2 T._law_is_number.a T._law_is_number.d ["_law_thing"] (spP (cx T) m__law_is_number) :=
  fn_pure 1 2 m__law_is_number b__law_is_number rfl T._law_is_number.F sc__law_is_number rfl rfl rfl fun cdv A outer s H E hr => ss_cons (sx_if (PW.pt (xw_or (xt_not (xt_val (ex_isi (ex_var 0) (by decide) T.n_isinstance T.n_tuple (by decide +kernel)))) (xw_or1 (xt_cmp (op_neD hr.units) os_ne bo_ne (ex_callB call_len cs_len T.n_len (xa_cons (ex_var 0) (xa_nil))) (ex_int))))) (ss_one (sx_ret (ex_bl))) (ss_nil)) (ss_cons (sx_if (PW.pt (xw_or (xt_not (xt_val (ex_callB (cr_all rfl) cs_all T.n_all (xa_cons (ex_lc (own := [("_law_part", 1)]) (pins' := [0]) sc__law_is_number.nd (ix_seq' (ex_var 0)) (blkOk_by (N := ["_law_thing", "_law_part"]) (sc := defScope s__law_is_number) (by decide +kernel)) (pins_ok (n := 2) (by decide) rfl) (gown_name) (fun _ _ _ _ _ => gx_name 1 sc__law_is_number.nd) (fun _ _ _ _ _ => xts_nil) (fun _ _ _ _ _ => ex_and (ex_isi (ex_var 1) (by decide) T.n_isinstance T.n_int (by decide +kernel)) (ex_one (ex_not (ex_isi (ex_var 1) (by decide) T.n_isinstance T.n_bool (by decide +kernel)))))) (xa_nil))))) (xw_or1 (xt_cmp op_lt os_lt bo_lt (ex_ix ix_seq os_ix (ex_var 0) (ex_int)) (ex_int))))) (ss_one (sx_ret (ex_bl))) (ss_nil)) (ss_one (sx_ret (ex_cmp (op_eqD hr.units) os_eq (ex_call (ok__law_low T) (hr.mono (by decide)) T._law_low.g T._law_low.F.kp T._law_low.b (xa_cons (ex_ix ix_seq os_ix (ex_var 0) (ex_int)) (xa_cons (ex_ix ix_seq os_ix (ex_var 0) (ex_int)) (xa_nil)))) (ex_var 0)))))
theorem ok__law_is_row (T : Tx K mg) : FnOk P w K mg base CX0 3 T._law_is_row.a T._law_is_row.d ["_law_tube", "_law_row"] (spP (cx T) m__law_is_row) :=
  fn_pure 2 4 m__law_is_row b__law_is_row rfl T._law_is_row.F sc__law_is_row rfl rfl rfl fun cdv A outer s H E hr => ss_cons (sx_if (PW.pt (xw_or (xt_not (xt_val (ex_isi (ex_var 1) (by decide) T.n_isinstance T.n_tuple (by decide +kernel)))) (xw_or (xt_cmp (op_neD hr.units) os_ne bo_ne (ex_callB call_len cs_len T.n_len (xa_cons (ex_var 1) (xa_nil))) (ex_callB call_len cs_len T.n_len (xa_cons (ex_var 0) (xa_nil)))) (xw_or1 (xt_not (xt_val (ex_callB (cr_all rfl) cs_all T.n_all (xa_cons (ex_lc (own := [("_law_one", 2)]) (pins' := [0, 1, 3]) sc__law_is_row.nd (ix_seq' (ex_var 1)) (blkOk_by (N := ["_law_tube", "_law_row", "_law_one", "_law_k"]) (sc := defScope s__law_is_row) (by decide +kernel)) (pins_ok (n := 4) (by decide) rfl) (gown_name) (fun _ _ _ _ _ => gx_name 2 sc__law_is_row.nd) (fun _ _ _ _ _ => xts_nil) (fun _ _ _ _ _ => ex_call (ok__law_is_number T) (hr.mono (by decide)) T._law_is_number.g T._law_is_number.F.kp T._law_is_number.b (xa_cons (ex_var 2) (xa_nil)))) (xa_nil))))))))) (ss_one (sx_ret (ex_bl))) (ss_nil)) (ss_one (sx_ret (ex_not (ex_callB (cr_any rfl) cs_any T.n_any (xa_cons (ex_lc (own := [("_law_k", 3)]) (pins' := [0, 1, 2]) sc__law_is_row.nd (ix_range1 (xa_cons (ex_callB call_len cs_len T.n_len (xa_cons (ex_var 1) (xa_nil))) (xa_nil)) T.n_range) (blkOk_by (N := ["_law_tube", "_law_row", "_law_one", "_law_k"]) (sc := defScope s__law_is_row) (by decide +kernel)) (pins_ok (n := 4) (by decide) rfl) (gown_name) (fun _ _ _ _ _ => gx_name 3 sc__law_is_row.nd) (fun _ _ _ _ _ => xts_nil) (fun _ _ _ _ _ => ex_or (ex_call (ok__law_under T) (hr.mono (by decide)) T._law_under.g T._law_under.F.kp T._law_under.b (xa_cons (ex_ix ix_seq os_ix (ex_var 1) (ex_var 3)) (xa_cons (ex_ix ix_seq os_ix (ex_ix ix_seq os_ix (ex_var 0) (ex_var 3)) (ex_int)) (xa_nil)))) (ex_one (ex_call (ok__law_under T) (hr.mono (by decide)) T._law_under.g T._law_under.F.kp T._law_under.b (xa_cons (ex_ix ix_seq os_ix (ex_ix ix_seq os_ix (ex_var 0) (ex_var 3)) (ex_int)) (xa_cons (ex_ix ix_seq os_ix (ex_var 1) (ex_var 3)) (xa_nil))))))) (xa_nil))))))
theorem ok__law_bends_right (T : Tx K mg) : FnOk P w K mg base CX0 2 T._law_bends_right.a T._law_bends_right.d ["_law_some", "_law_tube", "_law_row", "_law_begin"] (spP (cx T) m__law_bends_right) :=
  fn_pure 4 5 m__law_bends_right b__law_bends_right rfl T._law_bends_right.F sc__law_bends_right rfl rfl rfl fun cdv A outer s H E hr => ss_cons (sx_for (ix_range2 (xa_cons (ex_var 3) (xa_cons (ex_callB call_len cs_len T.n_len (xa_cons (ex_var 0) (xa_nil))) (xa_nil))) T.n_range) (gx_name 4 sc__law_bends_right.nd) (ss_cons (sx_if (PW.pt (xw_and (xt_val (ex_call (ok__law_under T) (hr.mono (by decide)) T._law_under.g T._law_under.F.kp T._law_under.b (xa_cons (ex_ix ix_seq os_ix (ex_var 0) (ex_op op_sub os_sub (ex_var 4) (ex_int))) (xa_cons (ex_ix ix_seq os_ix (ex_var 0) (ex_var 4)) (xa_nil))))) (xw_and1 (xt_cmp (op_neD hr.units) os_ne bo_ne (ex_ix ix_seq os_ix (ex_var 2) (ex_var 4)) (ex_ix ix_seq os_ix (ex_ix ix_seq os_ix (ex_var 1) (ex_var 4)) (ex_int)))))) (ss_one (sx_ret (ex_bl))) (ss_nil)) (ss_one (sx_if (PW.pt (xw_and (xt_val (ex_call (ok__law_under T) (hr.mono (by decide)) T._law_under.g T._law_under.F.kp T._law_under.b (xa_cons (ex_ix ix_seq os_ix (ex_var 0) (ex_var 4)) (xa_cons (ex_ix ix_seq os_ix (ex_var 0) (ex_op op_sub os_sub (ex_var 4) (ex_int))) (xa_nil))))) (xw_and1 (xt_cmp (op_neD hr.units) os_ne bo_ne (ex_ix ix_seq os_ix (ex_var 2) (ex_var 4)) (ex_ix ix_seq os_ix (ex_ix ix_seq os_ix (ex_var 1) (ex_var 4)) (ex_int)))))) (ss_one (sx_ret (ex_bl))) (ss_nil))))) (ss_one (sx_ret (ex_bl)))
theorem ok__law_ends_right (T : Tx K mg) : FnOk P w K mg base CX0 4 T._law_ends_right.a T._law_ends_right.d ["_law_tube", "_law_row"] (spP (cx T) m__law_ends_right) :=
  fn_pure 2 4 m__law_ends_right b__law_ends_right rfl T._law_ends_right.F sc__law_ends_right rfl rfl rfl fun cdv A outer s H E hr => ss_cons (sx_par 2 3 rfl sc__law_ends_right.nd (xa_cons (ex_ix ix_seq os_ix (ex_call (ok__law_steps T) (hr.mono (by decide)) T._law_steps.g T._law_steps.F.kp T._law_steps.b (xa_cons (ex_var 1) (xa_nil))) (ex_int)) (xa_cons (ex_ix ix_seq os_ix (ex_call (ok__law_steps T) (hr.mono (by decide)) T._law_steps.g T._law_steps.F.kp T._law_steps.b (xa_cons (ex_var 1) (xa_nil))) (ex_un un_neg un_negS (ex_int))) (xa_nil)))) (ss_cons (sx_if (PW.pt (xw_or (PW.pt (xw_and (xt_cmp op_gt os_gt bo_gt (ex_ix ix_seq os_ix (ex_var 2) (ex_int)) (ex_int)) (xw_and1 (xt_cmp (op_neD hr.units) os_ne bo_ne (ex_ix ix_seq os_ix (ex_var 1) (ex_int)) (ex_ix ix_seq os_ix (ex_ix ix_seq os_ix (ex_var 0) (ex_int)) (ex_int)))))) (xw_or1 (PW.pt (xw_and (xt_cmp op_lt os_lt bo_lt (ex_ix ix_seq os_ix (ex_var 2) (ex_int)) (ex_int)) (xw_and1 (xt_cmp (op_neD hr.units) os_ne bo_ne (ex_ix ix_seq os_ix (ex_var 1) (ex_int)) (ex_ix ix_seq os_ix (ex_ix ix_seq os_ix (ex_var 0) (ex_int)) (ex_int))))))))) (ss_one (sx_ret (ex_bl))) (ss_nil)) (ss_one (sx_ret (ex_not (ex_or (ex_and (ex_cmp op_gt os_gt (ex_ix ix_seq os_ix (ex_var 3) (ex_int)) (ex_int)) (ex_one (ex_cmp (op_neD hr.units) os_ne (ex_ix ix_seq os_ix (ex_var 1) (ex_un un_neg un_negS (ex_int))) (ex_ix ix_seq os_ix (ex_ix ix_seq os_ix (ex_var 0) (ex_un un_neg un_negS (ex_int))) (ex_int))))) (ex_one (ex_and (ex_cmp op_lt os_lt (ex_ix ix_seq os_ix (ex_var 3) (ex_int)) (ex_int)) (ex_one (ex_cmp (op_neD hr.units) os_ne (ex_ix ix_seq os_ix (ex_var 1) (ex_un un_neg un_negS (ex_int))) (ex_ix ix_seq os_ix (ex_ix ix_seq os_ix (ex_var 0) (ex_un un_neg un_negS (ex_int))) (ex_int)))))))))))
theorem ok__law_level (T : Tx K mg) : FnOk P w K mg base CX0 3 T._law_level.a T._law_level.d ["_law_tube"] (spP (cx T) m__law_level) :=
  fn_pure 1 5 m__law_level b__law_level rfl T._law_level.F sc__law_level rfl rfl rfl fun cdv A outer s H E hr => ss_cons (sx_asg (ex_ix ix_seq os_ix (ex_var 0) (ex_int)) (gx_tup rfl (gsx_cons (gx_name 1 sc__law_level.nd) (gsx_cons (gx_name 2 sc__law_level.nd) (gsx_nil))) rfl (gs_lenS (gs_lenS (gs_len0))))) (ss_cons (sx_for (ix_seq' (ex_var 0)) (gx_tup rfl (gsx_cons (gx_name 3 sc__law_level.nd) (gsx_cons (gx_name 4 sc__law_level.nd) (gsx_nil))) rfl (gs_lenS (gs_lenS (gs_len0)))) (ss_one (sx_par 1 2 rfl sc__law_level.nd (xa_cons (ex_call (ok__law_greater T) (hr.mono (by decide)) T._law_greater.g T._law_greater.F.kp T._law_greater.b (xa_cons (ex_var 1) (xa_cons (ex_var 3) (xa_nil)))) (xa_cons (ex_call (ok__law_lesser T) (hr.mono (by decide)) T._law_lesser.g T._law_lesser.F.kp T._law_lesser.b (xa_cons (ex_var 2) (xa_cons (ex_var 4) (xa_nil)))) (xa_nil)))))) (ss_cons (sx_if (xt_val (ex_call (ok__law_under T) (hr.mono (by decide)) T._law_under.g T._law_under.F.kp T._law_under.b (xa_cons (ex_var 2) (xa_cons (ex_var 1) (xa_nil))))) (ss_one (sx_ret (ex_non))) (ss_nil)) (ss_one (sx_ret (ex_var 1)))))
theorem ok__law_taut (T : Tx K mg) : FnOk P w K mg base CX0 5 T._law_taut.a T._law_taut.d ["_law_kind", "_law_tube", "_law_row"] (spP (cx T) m__law_taut) :=
  fn_pure 3 4 m__law_taut b__law_taut rfl T._law_taut.F sc__law_taut rfl rfl rfl fun cdv A outer s H E hr => ss_cons (sx_if (xt_not (xt_val (ex_call (ok__law_is_row T) (hr.mono (by decide)) T._law_is_row.g T._law_is_row.F.kp T._law_is_row.b (xa_cons (ex_var 1) (xa_cons (ex_var 2) (xa_nil)))))) (ss_one (sx_ret (ex_bl))) (ss_nil)) (ss_cons (sx_set 3 sc__law_taut.nd (ex_call (ok__law_level T) (hr.mono (by decide)) T._law_level.g T._law_level.F.kp T._law_level.b (xa_cons (ex_var 1) (xa_nil)))) (ss_cons (sx_if (PW.pt (xw_and (xt_cmp op_gt os_gt bo_gt (ex_var 0) (ex_int)) (xw_and1 (xt_notN (ex_var 3))))) (ss_one (sx_ret (ex_cmp (op_eqD hr.units) os_eq (ex_var 2) (ex_op op_mulT os_mulT (ex_tup (xa_cons (ex_var 3) (xa_nil))) (ex_callB call_len cs_len T.n_len (xa_cons (ex_var 1) (xa_nil))))))) (ss_nil)) (ss_cons (sx_if (xt_cmp (op_eqD hr.units) os_eq bo_eq (ex_var 0) (ex_int)) (ss_one (sx_ret (ex_call (ok__law_bends_right T) (hr.mono (by decide)) T._law_bends_right.g T._law_bends_right.F.kp T._law_bends_right.b (xa_cons (ex_call (ok__law_steps T) (hr.mono (by decide)) T._law_steps.g T._law_steps.F.kp T._law_steps.b (xa_cons (ex_op op_addL os_addL (ex_var 2) (ex_cut (ex_var 2) (xo_no) (xo_some (ex_int)))) (xa_nil))) (xa_cons (ex_var 1) (xa_cons (ex_var 2) (xa_cons (ex_int) (xa_nil)))))))) (ss_nil)) (ss_one (sx_ret (ex_and (ex_call (ok__law_bends_right T) (hr.mono (by decide)) T._law_bends_right.g T._law_bends_right.F.kp T._law_bends_right.b (xa_cons (ex_call (ok__law_steps T) (hr.mono (by decide)) T._law_steps.g T._law_steps.F.kp T._law_steps.b (xa_cons (ex_var 2) (xa_nil))) (xa_cons (ex_var 1) (xa_cons (ex_var 2) (xa_cons (ex_int) (xa_nil)))))) (ex_one (ex_or (ex_cmp (op_eqD hr.units) os_eq (ex_var 0) (ex_int)) (ex_one (ex_call (ok__law_ends_right T) (hr.mono (by decide)) T._law_ends_right.g T._law_ends_right.F.kp T._law_ends_right.b (xa_cons (ex_var 1) (xa_cons (ex_var 2) (xa_nil)))))))))))))
theorem ok__law_told (T : Tx K mg) : FnOk P w K mg base CX0 10 T._law_told.a T._law_told.d ["_law_kind", "_law_tube"] (spP (cx T) m__law_told) :=
  fn_pure 2 2 m__law_told b__law_told rfl T._law_told.F sc__law_told rfl rfl rfl fun cdv A outer s H E hr => ss_cons (sx_if (xt_cmp (op_eqD hr.units) os_eq bo_eq (ex_var 0) (ex_int)) (ss_one (sx_ret (ex_call (ok_cord T) (hr.mono (by decide)) T.cord.g T.cord.F.kp T.cord.b (xa_cons (ex_var 1) (xa_nil))))) (ss_nil)) (ss_cons (sx_if (xt_cmp (op_eqD hr.units) os_eq bo_eq (ex_var 0) (ex_int)) (ss_one (sx_ret (ex_call (ok_loose_cord T) (hr.mono (by decide)) T.loose_cord.g T.loose_cord.F.kp T.loose_cord.b (xa_cons (ex_var 1) (xa_nil))))) (ss_nil)) (ss_one (sx_ret (ex_call (ok_ring_cord T) (hr.mono (by decide)) T.ring_cord.g T.ring_cord.F.kp T.ring_cord.b (xa_cons (ex_var 1) (xa_nil))))))
theorem ok__law_right (T : Tx K mg) : FnOk P w K mg base CX0 11 T._law_right.a T._law_right.d ["_law_kind", "_law_tube", "_law_other"] (spP (cx T) m__law_right) :=
  fn_pure 3 12 m__law_right b__law_right rfl T._law_right.F sc__law_right rfl rfl rfl fun cdv A outer s H E hr => ss_cons (sx_set 3 sc__law_right.nd (ex_call (ok__law_four T) (hr.mono (by decide)) T._law_four.g T._law_four.F.kp T._law_four.b (xa_cons (ex_var 1) (xa_cons (ex_var 2) (xa_nil))))) (ss_cons (sx_set 4 sc__law_right.nd (ex_lc (own := [("_law_some", 11)]) (pins' := [0, 1, 2, 3, 4, 5, 6, 7, 8, 9, 10]) sc__law_right.nd (ix_seq' (ex_var 3)) (blkOk_by (N := ["_law_kind", "_law_tube", "_law_other", "_law_tubes", "_law_rows", "_law_apart", "_law_down", "_law_one", "_law_two_here", "_law_up", "_law_k", "_law_some"]) (sc := defScope s__law_right) (by decide +kernel)) (pins_ok (n := 12) (by decide) rfl) (gown_name) (fun _ _ _ _ _ => gx_name 11 sc__law_right.nd) (fun _ _ _ _ _ => xts_nil) (fun _ _ _ _ _ => ex_call (ok__law_told T) (hr.mono (by decide)) T._law_told.g T._law_told.F.kp T._law_told.b (xa_cons (ex_var 0) (xa_cons (ex_var 11) (xa_nil)))))) (ss_cons (sx_if (xt_not (xt_val (ex_callB (cr_all rfl) cs_all T.n_all (xa_cons (ex_lc (own := [("_law_k", 10)]) (pins' := [0, 1, 2, 3, 4, 5, 6, 7, 8, 9, 11]) sc__law_right.nd (ix_range1 (xa_cons (ex_int) (xa_nil)) T.n_range) (blkOk_by (N := ["_law_kind", "_law_tube", "_law_other", "_law_tubes", "_law_rows", "_law_apart", "_law_down", "_law_one", "_law_two_here", "_law_up", "_law_k", "_law_some"]) (sc := defScope s__law_right) (by decide +kernel)) (pins_ok (n := 12) (by decide) rfl) (gown_name) (fun _ _ _ _ _ => gx_name 10 sc__law_right.nd) (fun _ _ _ _ _ => xts_nil) (fun _ _ _ _ _ => ex_call (ok__law_taut T) (hr.mono (by decide)) T._law_taut.g T._law_taut.F.kp T._law_taut.b (xa_cons (ex_var 0) (xa_cons (ex_ix ix_seq os_ix (ex_var 3) (ex_var 10)) (xa_cons (ex_ix ix_seq os_ix (ex_var 4) (ex_var 10)) (xa_nil)))))) (xa_nil))))) (ss_one (sx_ret (ex_bl))) (ss_nil)) (ss_cons (sx_set 5 sc__law_right.nd (ex_call (ok__law_far T) (hr.mono (by decide)) T._law_far.g T._law_far.F.kp T._law_far.b (xa_cons (ex_var 1) (xa_cons (ex_var 2) (xa_nil))))) (ss_cons (sx_asg (ex_var 4) (gx_lst rfl (gsx_cons (gx_name 6 sc__law_right.nd) (gsx_cons (gx_name 7 sc__law_right.nd) (gsx_cons (gx_name 8 sc__law_right.nd) (gsx_cons (gx_name 9 sc__law_right.nd) (gsx_nil))))) rfl (gs_lenS (gs_lenS (gs_lenS (gs_lenS (gs_len0))))))) (ss_cons (sx_for (ix_range1 (xa_cons (ex_callB call_len cs_len T.n_len (xa_cons (ex_var 1) (xa_nil))) (xa_nil)) T.n_range) (gx_name 10 sc__law_right.nd) (ss_cons (sx_if (PW.pt (xw_or (xt_val (ex_call (ok__law_under T) (hr.mono (by decide)) T._law_under.g T._law_under.F.kp T._law_under.b (xa_cons (ex_call (ok__law_lesser T) (hr.mono (by decide)) T._law_lesser.g T._law_lesser.F.kp T._law_lesser.b (xa_cons (ex_ix ix_seq os_ix (ex_var 7) (ex_var 10)) (xa_cons (ex_ix ix_seq os_ix (ex_var 8) (ex_var 10)) (xa_nil)))) (xa_cons (ex_ix ix_seq os_ix (ex_var 6) (ex_var 10)) (xa_nil))))) (xw_or1 (xt_val (ex_call (ok__law_under T) (hr.mono (by decide)) T._law_under.g T._law_under.F.kp T._law_under.b (xa_cons (ex_ix ix_seq os_ix (ex_var 9) (ex_var 10)) (xa_cons (ex_call (ok__law_greater T) (hr.mono (by decide)) T._law_greater.g T._law_greater.F.kp T._law_greater.b (xa_cons (ex_ix ix_seq os_ix (ex_var 7) (ex_var 10)) (xa_cons (ex_ix ix_seq os_ix (ex_var 8) (ex_var 10)) (xa_nil)))) (xa_nil)))))))) (ss_one (sx_ret (ex_bl))) (ss_nil)) (ss_one (sx_if (xt_val (ex_call (ok__law_under T) (hr.mono (by decide)) T._law_under.g T._law_under.F.kp T._law_under.b (xa_cons (ex_var 5) (xa_cons (ex_call (ok__law_less_by T) (hr.mono (by decide)) T._law_less_by.g T._law_less_by.F.kp T._law_less_by.b (xa_cons (ex_ix ix_seq os_ix (ex_var 9) (ex_var 10)) (xa_cons (ex_ix ix_seq os_ix (ex_var 6) (ex_var 10)) (xa_nil)))) (xa_nil))))) (ss_one (sx_ret (ex_bl))) (ss_nil))))) (ss_one (sx_ret (ex_bl))))))))
theorem ok_law (T : Tx K mg) : FnOk P w K mg base CX0 12 T.law.a T.law.d ["_law_script"] (spP (cx T) m_law) :=
  fn_pure 1 6 m_law b_law rfl T.law.F sc_law rfl rfl rfl fun cdv A outer s H E hr => ss_cons (sx_for (ix_range3 (xa_cons (ex_int) (xa_cons (ex_callB (call_max2 rfl) cs_max T.n_max (xa_cons (ex_int) (xa_cons (ex_callB (call_min2 rfl) cs_min T.n_min (xa_cons (ex_callB call_len cs_len T.n_len (xa_cons (ex_var 0) (xa_nil))) (xa_cons (ex_int) (xa_nil)))) (xa_nil)))) (xa_cons (ex_int) (xa_nil)))) T.n_range) (gx_name 1 sc_law.nd) (ss_cons (sx_new 2 sc_law.nd (xn_call (ok__law_pack T) (hr.mono (by decide)) T._law_pack.g T._law_pack.F.kp T._law_pack.b (xa_cons (ex_var 0) (xa_cons (ex_op op_addL os_addL (ex_var 1) (ex_int)) (xa_nil))))) (ss_cons (sx_set 3 sc_law.nd (ex_tup (xa_cons (ex_callO (ok__law_take T) (hr.mono (by decide)) T._law_take.g T._law_take.F.kp T._law_take.b (xao_own 2 (xao_val (ex_int) (xao_nil)))) (xa_cons (ex_callO (ok__law_take T) (hr.mono (by decide)) T._law_take.g T._law_take.F.kp T._law_take.b (xao_own 2 (xao_val (ex_int) (xao_nil)))) (xa_nil))))) (ss_cons (sx_asg (ex_callO (ok__law_two T) (hr.mono (by decide)) T._law_two.g T._law_two.F.kp T._law_two.b (xao_new (xn_call (ok__law_pack T) (hr.mono (by decide)) T._law_pack.g T._law_pack.F.kp T._law_pack.b (xa_cons (ex_var 0) (xa_cons (ex_var 1) (xa_nil)))) (xao_own 2 (xao_val (ex_cmp (op_eqD hr.units) os_eq (ex_var 1) (ex_int)) (xao_nil))))) (gx_tup rfl (gsx_cons (gx_name 4 sc_law.nd) (gsx_cons (gx_name 5 sc_law.nd) (gsx_nil))) rfl (gs_lenS (gs_lenS (gs_len0))))) (ss_cons (sx_if (PW.pt (xw_or (xt_not (xt_val (ex_call (ok__law_right T) (hr.mono (by decide)) T._law_right.g T._law_right.F.kp T._law_right.b (xa_cons (ex_int) (xa_cons (ex_call (ok__law_tied T) (hr.mono (by decide)) T._law_tied.g T._law_tied.F.kp T._law_tied.b (xa_cons (ex_var 4) (xa_cons (ex_var 3) (xa_nil)))) (xa_cons (ex_call (ok__law_tied T) (hr.mono (by decide)) T._law_tied.g T._law_tied.F.kp T._law_tied.b (xa_cons (ex_var 5) (xa_cons (ex_var 3) (xa_nil)))) (xa_nil))))))) (xw_or1 (xt_not (xt_val (ex_call (ok__law_right T) (hr.mono (by decide)) T._law_right.g T._law_right.F.kp T._law_right.b (xa_cons (ex_int) (xa_cons (ex_var 4) (xa_cons (ex_var 5) (xa_nil)))))))))) (ss_one (sx_ret (ex_bl))) (ss_nil)) (ss_one (sx_if (PW.pt (xw_and (xt_chain op_le op_le os_le os_le bo_le bo_le (ex_int) (ex_callB call_len cs_len T.n_len (xa_cons (ex_var 4) (xa_nil))) (ex_int)) (xw_and1 (xt_not (xt_val (ex_call (ok__law_right T) (hr.mono (by decide)) T._law_right.g T._law_right.F.kp T._law_right.b (xa_cons (ex_int) (xa_cons (ex_var 4) (xa_cons (ex_var 5) (xa_nil)))))))))) (ss_one (sx_ret (ex_bl))) (ss_nil)))))))) (ss_one (sx_ret (ex_bl)))
end
/-! ### what the top has written -/
set_option maxHeartbeats 0 in
theorem all_mk {h : Heap} {K : PySem.W.Frag} {mg : Str → Option Value} (X : K.In h) (G : h.Ns mainGlobals mg)
    {C_Reach : Addr} (aC_Reach : PySem.W.nsIn K mainGlobals "Reach" = some (some (.ref C_Reach))) (pg_Reach : PySem.W.plainGet K C_Reach Str.empty = true) (hd_Reach : PySem.W.hasDictIn K C_Reach = true) (po_Reach : PySem.W.plainOver K C_Reach = true) (sa_Reach : PySem.W.findIn K (.ref C_Reach) "__setattr__" = some (some (.builtin "object.__setattr__"))) (mk_Reach : PySem.W.makesIn K C_Reach = true) (kc_Reach : PySem.W.keepIn K (.ref C_Reach) = true)
    (na_Reach_begin : PySem.W.findIn K (.ref C_Reach) "begin" = some none)
    (na_Reach_height : PySem.W.findIn K (.ref C_Reach) "height" = some none)
    (na_Reach_most : PySem.W.findIn K (.ref C_Reach) "most" = some none)
    (na_Reach_least : PySem.W.findIn K (.ref C_Reach) "least" = some none)
    {f0 : Addr} {od0 an0 : Option Addr} {sl0 : Array (Option Value)} {oc0 kV0 dc0 pm0 cd0 ct0 : Value}
    (a0 : PySem.W.nsIn K mainGlobals "is_whole" = some (some (.ref f0))) (l0 : K.lookup f0 = some ⟨oc0, od0, .func (PySem.W.fnOf "is_whole" "is_whole" (defArgs s_is_whole) (defBody s_is_whole) (defScope s_is_whole) .none kV0 dc0 pm0 an0 cd0 ct0), sl0⟩) (c0 : PySem.W.codeIn K cd0 "is_whole" = true) (k0 : PySem.W.keepIn K (.ref f0) = true)
    {f1 : Addr} {od1 an1 : Option Addr} {sl1 : Array (Option Value)} {oc1 kV1 dc1 pm1 cd1 ct1 : Value}
    (a1 : PySem.W.nsIn K mainGlobals "common" = some (some (.ref f1))) (l1 : K.lookup f1 = some ⟨oc1, od1, .func (PySem.W.fnOf "common" "common" (defArgs s_common) (defBody s_common) (defScope s_common) .none kV1 dc1 pm1 an1 cd1 ct1), sl1⟩) (c1 : PySem.W.codeIn K cd1 "common" = true) (k1 : PySem.W.keepIn K (.ref f1) = true)
    {f2 : Addr} {od2 an2 : Option Addr} {sl2 : Array (Option Value)} {oc2 kV2 dc2 pm2 cd2 ct2 : Value}
    (a2 : PySem.W.nsIn K mainGlobals "is_number" = some (some (.ref f2))) (l2 : K.lookup f2 = some ⟨oc2, od2, .func (PySem.W.fnOf "is_number" "is_number" (defArgs s_is_number) (defBody s_is_number) (defScope s_is_number) .none kV2 dc2 pm2 an2 cd2 ct2), sl2⟩) (c2 : PySem.W.codeIn K cd2 "is_number" = true) (k2 : PySem.W.keepIn K (.ref f2) = true)
    {f3 : Addr} {od3 an3 : Option Addr} {sl3 : Array (Option Value)} {oc3 kV3 dc3 pm3 cd3 ct3 : Value}
    (a3 : PySem.W.nsIn K mainGlobals "number" = some (some (.ref f3))) (l3 : K.lookup f3 = some ⟨oc3, od3, .func (PySem.W.fnOf "number" "number" (defArgs s_number) (defBody s_number) (defScope s_number) .none kV3 dc3 pm3 an3 cd3 ct3), sl3⟩) (c3 : PySem.W.codeIn K cd3 "number" = true) (k3 : PySem.W.keepIn K (.ref f3) = true)
    {f4 : Addr} {od4 an4 : Option Addr} {sl4 : Array (Option Value)} {oc4 kV4 dc4 pm4 cd4 ct4 : Value}
    (a4 : PySem.W.nsIn K mainGlobals "whole" = some (some (.ref f4))) (l4 : K.lookup f4 = some ⟨oc4, od4, .func (PySem.W.fnOf "whole" "whole" (defArgs s_whole) (defBody s_whole) (defScope s_whole) .none kV4 dc4 pm4 an4 cd4 ct4), sl4⟩) (c4 : PySem.W.codeIn K cd4 "whole" = true) (k4 : PySem.W.keepIn K (.ref f4) = true)
    {f5 : Addr} {od5 an5 : Option Addr} {sl5 : Array (Option Value)} {oc5 kV5 dc5 pm5 cd5 ct5 : Value}
    (a5 : PySem.W.nsIn K mainGlobals "added" = some (some (.ref f5))) (l5 : K.lookup f5 = some ⟨oc5, od5, .func (PySem.W.fnOf "added" "added" (defArgs s_added) (defBody s_added) (defScope s_added) .none kV5 dc5 pm5 an5 cd5 ct5), sl5⟩) (c5 : PySem.W.codeIn K cd5 "added" = true) (k5 : PySem.W.keepIn K (.ref f5) = true)
    {f6 : Addr} {od6 an6 : Option Addr} {sl6 : Array (Option Value)} {oc6 kV6 dc6 pm6 cd6 ct6 : Value}
    (a6 : PySem.W.nsIn K mainGlobals "taken" = some (some (.ref f6))) (l6 : K.lookup f6 = some ⟨oc6, od6, .func (PySem.W.fnOf "taken" "taken" (defArgs s_taken) (defBody s_taken) (defScope s_taken) .none kV6 dc6 pm6 an6 cd6 ct6), sl6⟩) (c6 : PySem.W.codeIn K cd6 "taken" = true) (k6 : PySem.W.keepIn K (.ref f6) = true)
    {f7 : Addr} {od7 an7 : Option Addr} {sl7 : Array (Option Value)} {oc7 kV7 dc7 pm7 cd7 ct7 : Value}
    (a7 : PySem.W.nsIn K mainGlobals "parted" = some (some (.ref f7))) (l7 : K.lookup f7 = some ⟨oc7, od7, .func (PySem.W.fnOf "parted" "parted" (defArgs s_parted) (defBody s_parted) (defScope s_parted) .none kV7 dc7 pm7 an7 cd7 ct7), sl7⟩) (c7 : PySem.W.codeIn K cd7 "parted" = true) (k7 : PySem.W.keepIn K (.ref f7) = true)
    {f8 : Addr} {od8 an8 : Option Addr} {sl8 : Array (Option Value)} {oc8 kV8 dc8 pm8 cd8 ct8 : Value}
    (a8 : PySem.W.nsIn K mainGlobals "is_less" = some (some (.ref f8))) (l8 : K.lookup f8 = some ⟨oc8, od8, .func (PySem.W.fnOf "is_less" "is_less" (defArgs s_is_less) (defBody s_is_less) (defScope s_is_less) .none kV8 dc8 pm8 an8 cd8 ct8), sl8⟩) (c8 : PySem.W.codeIn K cd8 "is_less" = true) (k8 : PySem.W.keepIn K (.ref f8) = true)
    {f9 : Addr} {od9 an9 : Option Addr} {sl9 : Array (Option Value)} {oc9 kV9 dc9 pm9 cd9 ct9 : Value}
    (a9 : PySem.W.nsIn K mainGlobals "is_pair" = some (some (.ref f9))) (l9 : K.lookup f9 = some ⟨oc9, od9, .func (PySem.W.fnOf "is_pair" "is_pair" (defArgs s_is_pair) (defBody s_is_pair) (defScope s_is_pair) .none kV9 dc9 pm9 an9 cd9 ct9), sl9⟩) (c9 : PySem.W.codeIn K cd9 "is_pair" = true) (k9 : PySem.W.keepIn K (.ref f9) = true)
    {f10 : Addr} {od10 an10 : Option Addr} {sl10 : Array (Option Value)} {oc10 kV10 dc10 pm10 cd10 ct10 : Value}
    (a10 : PySem.W.nsIn K mainGlobals "is_tube" = some (some (.ref f10))) (l10 : K.lookup f10 = some ⟨oc10, od10, .func (PySem.W.fnOf "is_tube" "is_tube" (defArgs s_is_tube) (defBody s_is_tube) (defScope s_is_tube) .none kV10 dc10 pm10 an10 cd10 ct10), sl10⟩) (c10 : PySem.W.codeIn K cd10 "is_tube" = true) (k10 : PySem.W.keepIn K (.ref f10) = true)
    {f11 : Addr} {od11 an11 : Option Addr} {sl11 : Array (Option Value)} {oc11 kV11 dc11 pm11 cd11 ct11 : Value}
    (a11 : PySem.W.nsIn K mainGlobals "is_tied" = some (some (.ref f11))) (l11 : K.lookup f11 = some ⟨oc11, od11, .func (PySem.W.fnOf "is_tied" "is_tied" (defArgs s_is_tied) (defBody s_is_tied) (defScope s_is_tied) .none kV11 dc11 pm11 an11 cd11 ct11), sl11⟩) (c11 : PySem.W.codeIn K cd11 "is_tied" = true) (k11 : PySem.W.keepIn K (.ref f11) = true)
    {f12 : Addr} {od12 an12 : Option Addr} {sl12 : Array (Option Value)} {oc12 kV12 dc12 pm12 cd12 ct12 : Value}
    (a12 : PySem.W.nsIn K mainGlobals "check_tube" = some (some (.ref f12))) (l12 : K.lookup f12 = some ⟨oc12, od12, .func (PySem.W.fnOf "check_tube" "check_tube" (defArgs s_check_tube) (defBody s_check_tube) (defScope s_check_tube) .none kV12 dc12 pm12 an12 cd12 ct12), sl12⟩) (c12 : PySem.W.codeIn K cd12 "check_tube" = true) (k12 : PySem.W.keepIn K (.ref f12) = true)
    {f13 : Addr} {od13 an13 : Option Addr} {sl13 : Array (Option Value)} {oc13 kV13 dc13 pm13 cd13 ct13 : Value}
    (a13 : PySem.W.nsIn K mainGlobals "check_tied" = some (some (.ref f13))) (l13 : K.lookup f13 = some ⟨oc13, od13, .func (PySem.W.fnOf "check_tied" "check_tied" (defArgs s_check_tied) (defBody s_check_tied) (defScope s_check_tied) .none kV13 dc13 pm13 an13 cd13 ct13), sl13⟩) (c13 : PySem.W.codeIn K cd13 "check_tied" = true) (k13 : PySem.W.keepIn K (.ref f13) = true)
    {f14 : Addr} {od14 an14 : Option Addr} {sl14 : Array (Option Value)} {oc14 kV14 dc14 pm14 cd14 ct14 : Value}
    (a14 : PySem.W.nsIn K mainGlobals "slope_to" = some (some (.ref f14))) (l14 : K.lookup f14 = some ⟨oc14, od14, .func (PySem.W.fnOf "slope_to" "slope_to" (defArgs s_slope_to) (defBody s_slope_to) (defScope s_slope_to) .none kV14 dc14 pm14 an14 cd14 ct14), sl14⟩) (c14 : PySem.W.codeIn K cd14 "slope_to" = true) (k14 : PySem.W.keepIn K (.ref f14) = true)
    {f15 : Addr} {od15 an15 : Option Addr} {sl15 : Array (Option Value)} {oc15 kV15 dc15 pm15 cd15 ct15 : Value}
    (a15 : PySem.W.findIn K (.ref C_Reach) "__init__" = some (some (.ref f15))) (i15 : PySem.W.isFn K (.ref f15) = true) (l15 : K.lookup f15 = some ⟨oc15, od15, .func (PySem.W.fnOf "__init__" "Reach.__init__" (defArgs s_Reach___init__) (defBody s_Reach___init__) (defScope s_Reach___init__) .none kV15 dc15 pm15 an15 cd15 ct15), sl15⟩) (c15 : PySem.W.codeIn K cd15 "Reach.__init__" = true) (k15 : PySem.W.keepIn K (.ref f15) = true)
    {f16 : Addr} {od16 an16 : Option Addr} {sl16 : Array (Option Value)} {oc16 kV16 dc16 pm16 cd16 ct16 : Value}
    (a16 : PySem.W.findIn K (.ref C_Reach) "crossed" = some (some (.ref f16))) (i16 : PySem.W.isFn K (.ref f16) = true) (l16 : K.lookup f16 = some ⟨oc16, od16, .func (PySem.W.fnOf "crossed" "Reach.crossed" (defArgs s_Reach_crossed) (defBody s_Reach_crossed) (defScope s_Reach_crossed) .none kV16 dc16 pm16 an16 cd16 ct16), sl16⟩) (c16 : PySem.W.codeIn K cd16 "Reach.crossed" = true) (k16 : PySem.W.keepIn K (.ref f16) = true)
    {f17 : Addr} {od17 an17 : Option Addr} {sl17 : Array (Option Value)} {oc17 kV17 dc17 pm17 cd17 ct17 : Value}
    (a17 : PySem.W.findIn K (.ref C_Reach) "take" = some (some (.ref f17))) (i17 : PySem.W.isFn K (.ref f17) = true) (l17 : K.lookup f17 = some ⟨oc17, od17, .func (PySem.W.fnOf "take" "Reach.take" (defArgs s_Reach_take) (defBody s_Reach_take) (defScope s_Reach_take) .none kV17 dc17 pm17 an17 cd17 ct17), sl17⟩) (c17 : PySem.W.codeIn K cd17 "Reach.take" = true) (k17 : PySem.W.keepIn K (.ref f17) = true)
    {f18 : Addr} {od18 an18 : Option Addr} {sl18 : Array (Option Value)} {oc18 kV18 dc18 pm18 cd18 ct18 : Value}
    (a18 : PySem.W.nsIn K mainGlobals "touch_behind" = some (some (.ref f18))) (l18 : K.lookup f18 = some ⟨oc18, od18, .func (PySem.W.fnOf "touch_behind" "touch_behind" (defArgs s_touch_behind) (defBody s_touch_behind) (defScope s_touch_behind) .none kV18 dc18 pm18 an18 cd18 ct18), sl18⟩) (c18 : PySem.W.codeIn K cd18 "touch_behind" = true) (k18 : PySem.W.keepIn K (.ref f18) = true)
    {f19 : Addr} {od19 an19 : Option Addr} {sl19 : Array (Option Value)} {oc19 kV19 dc19 pm19 cd19 ct19 : Value}
    (a19 : PySem.W.nsIn K mainGlobals "drawn_to" = some (some (.ref f19))) (l19 : K.lookup f19 = some ⟨oc19, od19, .func (PySem.W.fnOf "drawn_to" "drawn_to" (defArgs s_drawn_to) (defBody s_drawn_to) (defScope s_drawn_to) .none kV19 dc19 pm19 an19 cd19 ct19), sl19⟩) (c19 : PySem.W.codeIn K cd19 "drawn_to" = true) (k19 : PySem.W.keepIn K (.ref f19) = true)
    {f20 : Addr} {od20 an20 : Option Addr} {sl20 : Array (Option Value)} {oc20 kV20 dc20 pm20 cd20 ct20 : Value}
    (a20 : PySem.W.nsIn K mainGlobals "drawn" = some (some (.ref f20))) (l20 : K.lookup f20 = some ⟨oc20, od20, .func (PySem.W.fnOf "drawn" "drawn" (defArgs s_drawn) (defBody s_drawn) (defScope s_drawn) .none kV20 dc20 pm20 an20 cd20 ct20), sl20⟩) (c20 : PySem.W.codeIn K cd20 "drawn" = true) (k20 : PySem.W.keepIn K (.ref f20) = true)
    {f21 : Addr} {od21 an21 : Option Addr} {sl21 : Array (Option Value)} {oc21 kV21 dc21 pm21 cd21 ct21 : Value}
    (a21 : PySem.W.nsIn K mainGlobals "cord" = some (some (.ref f21))) (l21 : K.lookup f21 = some ⟨oc21, od21, .func (PySem.W.fnOf "cord" "cord" (defArgs s_cord) (defBody s_cord) (defScope s_cord) .none kV21 dc21 pm21 an21 cd21 ct21), sl21⟩) (c21 : PySem.W.codeIn K cd21 "cord" = true) (k21 : PySem.W.keepIn K (.ref f21) = true)
    {f22 : Addr} {od22 an22 : Option Addr} {sl22 : Array (Option Value)} {oc22 kV22 dc22 pm22 cd22 ct22 : Value}
    (a22 : PySem.W.nsIn K mainGlobals "greatest_of" = some (some (.ref f22))) (l22 : K.lookup f22 = some ⟨oc22, od22, .func (PySem.W.fnOf "greatest_of" "greatest_of" (defArgs s_greatest_of) (defBody s_greatest_of) (defScope s_greatest_of) .none kV22 dc22 pm22 an22 cd22 ct22), sl22⟩) (c22 : PySem.W.codeIn K cd22 "greatest_of" = true) (k22 : PySem.W.keepIn K (.ref f22) = true)
    {f23 : Addr} {od23 an23 : Option Addr} {sl23 : Array (Option Value)} {oc23 kV23 dc23 pm23 cd23 ct23 : Value}
    (a23 : PySem.W.nsIn K mainGlobals "least_of" = some (some (.ref f23))) (l23 : K.lookup f23 = some ⟨oc23, od23, .func (PySem.W.fnOf "least_of" "least_of" (defArgs s_least_of) (defBody s_least_of) (defScope s_least_of) .none kV23 dc23 pm23 an23 cd23 ct23), sl23⟩) (c23 : PySem.W.codeIn K cd23 "least_of" = true) (k23 : PySem.W.keepIn K (.ref f23) = true)
    {f24 : Addr} {od24 an24 : Option Addr} {sl24 : Array (Option Value)} {oc24 kV24 dc24 pm24 cd24 ct24 : Value}
    (a24 : PySem.W.nsIn K mainGlobals "level_height" = some (some (.ref f24))) (l24 : K.lookup f24 = some ⟨oc24, od24, .func (PySem.W.fnOf "level_height" "level_height" (defArgs s_level_height) (defBody s_level_height) (defScope s_level_height) .none kV24 dc24 pm24 an24 cd24 ct24), sl24⟩) (c24 : PySem.W.codeIn K cd24 "level_height" = true) (k24 : PySem.W.keepIn K (.ref f24) = true)
    {f25 : Addr} {od25 an25 : Option Addr} {sl25 : Array (Option Value)} {oc25 kV25 dc25 pm25 cd25 ct25 : Value}
    (a25 : PySem.W.nsIn K mainGlobals "held_places" = some (some (.ref f25))) (l25 : K.lookup f25 = some ⟨oc25, od25, .func (PySem.W.fnOf "held_places" "held_places" (defArgs s_held_places) (defBody s_held_places) (defScope s_held_places) .none kV25 dc25 pm25 an25 cd25 ct25), sl25⟩) (c25 : PySem.W.codeIn K cd25 "held_places" = true) (k25 : PySem.W.keepIn K (.ref f25) = true)
    {f26 : Addr} {od26 an26 : Option Addr} {sl26 : Array (Option Value)} {oc26 kV26 dc26 pm26 cd26 ct26 : Value}
    (a26 : PySem.W.nsIn K mainGlobals "to_loose_end" = some (some (.ref f26))) (l26 : K.lookup f26 = some ⟨oc26, od26, .func (PySem.W.fnOf "to_loose_end" "to_loose_end" (defArgs s_to_loose_end) (defBody s_to_loose_end) (defScope s_to_loose_end) .none kV26 dc26 pm26 an26 cd26 ct26), sl26⟩) (c26 : PySem.W.codeIn K cd26 "to_loose_end" = true) (k26 : PySem.W.keepIn K (.ref f26) = true)
    {f27 : Addr} {od27 an27 : Option Addr} {sl27 : Array (Option Value)} {oc27 kV27 dc27 pm27 cd27 ct27 : Value}
    (a27 : PySem.W.nsIn K mainGlobals "loose_cord" = some (some (.ref f27))) (l27 : K.lookup f27 = some ⟨oc27, od27, .func (PySem.W.fnOf "loose_cord" "loose_cord" (defArgs s_loose_cord) (defBody s_loose_cord) (defScope s_loose_cord) .none kV27 dc27 pm27 an27 cd27 ct27), sl27⟩) (c27 : PySem.W.codeIn K cd27 "loose_cord" = true) (k27 : PySem.W.keepIn K (.ref f27) = true)
    {f28 : Addr} {od28 an28 : Option Addr} {sl28 : Array (Option Value)} {oc28 kV28 dc28 pm28 cd28 ct28 : Value}
    (a28 : PySem.W.nsIn K mainGlobals "is_ring" = some (some (.ref f28))) (l28 : K.lookup f28 = some ⟨oc28, od28, .func (PySem.W.fnOf "is_ring" "is_ring" (defArgs s_is_ring) (defBody s_is_ring) (defScope s_is_ring) .none kV28 dc28 pm28 an28 cd28 ct28), sl28⟩) (c28 : PySem.W.codeIn K cd28 "is_ring" = true) (k28 : PySem.W.keepIn K (.ref f28) = true)
    {f29 : Addr} {od29 an29 : Option Addr} {sl29 : Array (Option Value)} {oc29 kV29 dc29 pm29 cd29 ct29 : Value}
    (a29 : PySem.W.nsIn K mainGlobals "check_ring" = some (some (.ref f29))) (l29 : K.lookup f29 = some ⟨oc29, od29, .func (PySem.W.fnOf "check_ring" "check_ring" (defArgs s_check_ring) (defBody s_check_ring) (defScope s_check_ring) .none kV29 dc29 pm29 an29 cd29 ct29), sl29⟩) (c29 : PySem.W.codeIn K cd29 "check_ring" = true) (k29 : PySem.W.keepIn K (.ref f29) = true)
    {f30 : Addr} {od30 an30 : Option Addr} {sl30 : Array (Option Value)} {oc30 kV30 dc30 pm30 cd30 ct30 : Value}
    (a30 : PySem.W.nsIn K mainGlobals "ring_cord" = some (some (.ref f30))) (l30 : K.lookup f30 = some ⟨oc30, od30, .func (PySem.W.fnOf "ring_cord" "ring_cord" (defArgs s_ring_cord) (defBody s_ring_cord) (defScope s_ring_cord) .none kV30 dc30 pm30 an30 cd30 ct30), sl30⟩) (c30 : PySem.W.codeIn K cd30 "ring_cord" = true) (k30 : PySem.W.keepIn K (.ref f30) = true)
    {f31 : Addr} {od31 an31 : Option Addr} {sl31 : Array (Option Value)} {oc31 kV31 dc31 pm31 cd31 ct31 : Value}
    (a31 : PySem.W.nsIn K mainGlobals "_law_mixed" = some (some (.ref f31))) (l31 : K.lookup f31 = some ⟨oc31, od31, .func (PySem.W.fnOf "_law_mixed" "_law_mixed" (defArgs s__law_mixed) (defBody s__law_mixed) (defScope s__law_mixed) .none kV31 dc31 pm31 an31 cd31 ct31), sl31⟩) (c31 : PySem.W.codeIn K cd31 "_law_mixed" = true) (k31 : PySem.W.keepIn K (.ref f31) = true)
    {f32 : Addr} {od32 an32 : Option Addr} {sl32 : Array (Option Value)} {oc32 kV32 dc32 pm32 cd32 ct32 : Value}
    (a32 : PySem.W.nsIn K mainGlobals "_law_pack" = some (some (.ref f32))) (l32 : K.lookup f32 = some ⟨oc32, od32, .func (PySem.W.fnOf "_law_pack" "_law_pack" (defArgs s__law_pack) (defBody s__law_pack) (defScope s__law_pack) .none kV32 dc32 pm32 an32 cd32 ct32), sl32⟩) (c32 : PySem.W.codeIn K cd32 "_law_pack" = true) (k32 : PySem.W.keepIn K (.ref f32) = true)
    {f33 : Addr} {od33 an33 : Option Addr} {sl33 : Array (Option Value)} {oc33 kV33 dc33 pm33 cd33 ct33 : Value}
    (a33 : PySem.W.nsIn K mainGlobals "_law_take" = some (some (.ref f33))) (l33 : K.lookup f33 = some ⟨oc33, od33, .func (PySem.W.fnOf "_law_take" "_law_take" (defArgs s__law_take) (defBody s__law_take) (defScope s__law_take) .none kV33 dc33 pm33 an33 cd33 ct33), sl33⟩) (c33 : PySem.W.codeIn K cd33 "_law_take" = true) (k33 : PySem.W.keepIn K (.ref f33) = true)
    {f34 : Addr} {od34 an34 : Option Addr} {sl34 : Array (Option Value)} {oc34 kV34 dc34 pm34 cd34 ct34 : Value}
    (a34 : PySem.W.nsIn K mainGlobals "_law_low" = some (some (.ref f34))) (l34 : K.lookup f34 = some ⟨oc34, od34, .func (PySem.W.fnOf "_law_low" "_law_low" (defArgs s__law_low) (defBody s__law_low) (defScope s__law_low) .none kV34 dc34 pm34 an34 cd34 ct34), sl34⟩) (c34 : PySem.W.codeIn K cd34 "_law_low" = true) (k34 : PySem.W.keepIn K (.ref f34) = true)
    {f35 : Addr} {od35 an35 : Option Addr} {sl35 : Array (Option Value)} {oc35 kV35 dc35 pm35 cd35 ct35 : Value}
    (a35 : PySem.W.nsIn K mainGlobals "_law_more" = some (some (.ref f35))) (l35 : K.lookup f35 = some ⟨oc35, od35, .func (PySem.W.fnOf "_law_more" "_law_more" (defArgs s__law_more) (defBody s__law_more) (defScope s__law_more) .none kV35 dc35 pm35 an35 cd35 ct35), sl35⟩) (c35 : PySem.W.codeIn K cd35 "_law_more" = true) (k35 : PySem.W.keepIn K (.ref f35) = true)
    {f36 : Addr} {od36 an36 : Option Addr} {sl36 : Array (Option Value)} {oc36 kV36 dc36 pm36 cd36 ct36 : Value}
    (a36 : PySem.W.nsIn K mainGlobals "_law_less_by" = some (some (.ref f36))) (l36 : K.lookup f36 = some ⟨oc36, od36, .func (PySem.W.fnOf "_law_less_by" "_law_less_by" (defArgs s__law_less_by) (defBody s__law_less_by) (defScope s__law_less_by) .none kV36 dc36 pm36 an36 cd36 ct36), sl36⟩) (c36 : PySem.W.codeIn K cd36 "_law_less_by" = true) (k36 : PySem.W.keepIn K (.ref f36) = true)
    {f37 : Addr} {od37 an37 : Option Addr} {sl37 : Array (Option Value)} {oc37 kV37 dc37 pm37 cd37 ct37 : Value}
    (a37 : PySem.W.nsIn K mainGlobals "_law_under" = some (some (.ref f37))) (l37 : K.lookup f37 = some ⟨oc37, od37, .func (PySem.W.fnOf "_law_under" "_law_under" (defArgs s__law_under) (defBody s__law_under) (defScope s__law_under) .none kV37 dc37 pm37 an37 cd37 ct37), sl37⟩) (c37 : PySem.W.codeIn K cd37 "_law_under" = true) (k37 : PySem.W.keepIn K (.ref f37) = true)
    {f38 : Addr} {od38 an38 : Option Addr} {sl38 : Array (Option Value)} {oc38 kV38 dc38 pm38 cd38 ct38 : Value}
    (a38 : PySem.W.nsIn K mainGlobals "_law_width" = some (some (.ref f38))) (l38 : K.lookup f38 = some ⟨oc38, od38, .func (PySem.W.fnOf "_law_width" "_law_width" (defArgs s__law_width) (defBody s__law_width) (defScope s__law_width) .none kV38 dc38 pm38 an38 cd38 ct38), sl38⟩) (c38 : PySem.W.codeIn K cd38 "_law_width" = true) (k38 : PySem.W.keepIn K (.ref f38) = true)
    {f39 : Addr} {od39 an39 : Option Addr} {sl39 : Array (Option Value)} {oc39 kV39 dc39 pm39 cd39 ct39 : Value}
    (a39 : PySem.W.nsIn K mainGlobals "_law_walk" = some (some (.ref f39))) (l39 : K.lookup f39 = some ⟨oc39, od39, .func (PySem.W.fnOf "_law_walk" "_law_walk" (defArgs s__law_walk) (defBody s__law_walk) (defScope s__law_walk) .none kV39 dc39 pm39 an39 cd39 ct39), sl39⟩) (c39 : PySem.W.codeIn K cd39 "_law_walk" = true) (k39 : PySem.W.keepIn K (.ref f39) = true)
    {f40 : Addr} {od40 an40 : Option Addr} {sl40 : Array (Option Value)} {oc40 kV40 dc40 pm40 cd40 ct40 : Value}
    (a40 : PySem.W.nsIn K mainGlobals "_law_fine_number" = some (some (.ref f40))) (l40 : K.lookup f40 = some ⟨oc40, od40, .func (PySem.W.fnOf "_law_fine_number" "_law_fine_number" (defArgs s__law_fine_number) (defBody s__law_fine_number) (defScope s__law_fine_number) .none kV40 dc40 pm40 an40 cd40 ct40), sl40⟩) (c40 : PySem.W.codeIn K cd40 "_law_fine_number" = true) (k40 : PySem.W.keepIn K (.ref f40) = true)
    {f41 : Addr} {od41 an41 : Option Addr} {sl41 : Array (Option Value)} {oc41 kV41 dc41 pm41 cd41 ct41 : Value}
    (a41 : PySem.W.nsIn K mainGlobals "_law_fine_walk" = some (some (.ref f41))) (l41 : K.lookup f41 = some ⟨oc41, od41, .func (PySem.W.fnOf "_law_fine_walk" "_law_fine_walk" (defArgs s__law_fine_walk) (defBody s__law_fine_walk) (defScope s__law_fine_walk) .none kV41 dc41 pm41 an41 cd41 ct41), sl41⟩) (c41 : PySem.W.codeIn K cd41 "_law_fine_walk" = true) (k41 : PySem.W.keepIn K (.ref f41) = true)
    {f42 : Addr} {od42 an42 : Option Addr} {sl42 : Array (Option Value)} {oc42 kV42 dc42 pm42 cd42 ct42 : Value}
    (a42 : PySem.W.nsIn K mainGlobals "_law_moved" = some (some (.ref f42))) (l42 : K.lookup f42 = some ⟨oc42, od42, .func (PySem.W.fnOf "_law_moved" "_law_moved" (defArgs s__law_moved) (defBody s__law_moved) (defScope s__law_moved) .none kV42 dc42 pm42 an42 cd42 ct42), sl42⟩) (c42 : PySem.W.codeIn K cd42 "_law_moved" = true) (k42 : PySem.W.keepIn K (.ref f42) = true)
    {f43 : Addr} {od43 an43 : Option Addr} {sl43 : Array (Option Value)} {oc43 kV43 dc43 pm43 cd43 ct43 : Value}
    (a43 : PySem.W.nsIn K mainGlobals "_law_two" = some (some (.ref f43))) (l43 : K.lookup f43 = some ⟨oc43, od43, .func (PySem.W.fnOf "_law_two" "_law_two" (defArgs s__law_two) (defBody s__law_two) (defScope s__law_two) .none kV43 dc43 pm43 an43 cd43 ct43), sl43⟩) (c43 : PySem.W.codeIn K cd43 "_law_two" = true) (k43 : PySem.W.keepIn K (.ref f43) = true)
    {f44 : Addr} {od44 an44 : Option Addr} {sl44 : Array (Option Value)} {oc44 kV44 dc44 pm44 cd44 ct44 : Value}
    (a44 : PySem.W.nsIn K mainGlobals "_law_tied" = some (some (.ref f44))) (l44 : K.lookup f44 = some ⟨oc44, od44, .func (PySem.W.fnOf "_law_tied" "_law_tied" (defArgs s__law_tied) (defBody s__law_tied) (defScope s__law_tied) .none kV44 dc44 pm44 an44 cd44 ct44), sl44⟩) (c44 : PySem.W.codeIn K cd44 "_law_tied" = true) (k44 : PySem.W.keepIn K (.ref f44) = true)
    {f45 : Addr} {od45 an45 : Option Addr} {sl45 : Array (Option Value)} {oc45 kV45 dc45 pm45 cd45 ct45 : Value}
    (a45 : PySem.W.nsIn K mainGlobals "_law_greater" = some (some (.ref f45))) (l45 : K.lookup f45 = some ⟨oc45, od45, .func (PySem.W.fnOf "_law_greater" "_law_greater" (defArgs s__law_greater) (defBody s__law_greater) (defScope s__law_greater) .none kV45 dc45 pm45 an45 cd45 ct45), sl45⟩) (c45 : PySem.W.codeIn K cd45 "_law_greater" = true) (k45 : PySem.W.keepIn K (.ref f45) = true)
    {f46 : Addr} {od46 an46 : Option Addr} {sl46 : Array (Option Value)} {oc46 kV46 dc46 pm46 cd46 ct46 : Value}
    (a46 : PySem.W.nsIn K mainGlobals "_law_lesser" = some (some (.ref f46))) (l46 : K.lookup f46 = some ⟨oc46, od46, .func (PySem.W.fnOf "_law_lesser" "_law_lesser" (defArgs s__law_lesser) (defBody s__law_lesser) (defScope s__law_lesser) .none kV46 dc46 pm46 an46 cd46 ct46), sl46⟩) (c46 : PySem.W.codeIn K cd46 "_law_lesser" = true) (k46 : PySem.W.keepIn K (.ref f46) = true)
    {f47 : Addr} {od47 an47 : Option Addr} {sl47 : Array (Option Value)} {oc47 kV47 dc47 pm47 cd47 ct47 : Value}
    (a47 : PySem.W.nsIn K mainGlobals "_law_four" = some (some (.ref f47))) (l47 : K.lookup f47 = some ⟨oc47, od47, .func (PySem.W.fnOf "_law_four" "_law_four" (defArgs s__law_four) (defBody s__law_four) (defScope s__law_four) .none kV47 dc47 pm47 an47 cd47 ct47), sl47⟩) (c47 : PySem.W.codeIn K cd47 "_law_four" = true) (k47 : PySem.W.keepIn K (.ref f47) = true)
    {f48 : Addr} {od48 an48 : Option Addr} {sl48 : Array (Option Value)} {oc48 kV48 dc48 pm48 cd48 ct48 : Value}
    (a48 : PySem.W.nsIn K mainGlobals "_law_far" = some (some (.ref f48))) (l48 : K.lookup f48 = some ⟨oc48, od48, .func (PySem.W.fnOf "_law_far" "_law_far" (defArgs s__law_far) (defBody s__law_far) (defScope s__law_far) .none kV48 dc48 pm48 an48 cd48 ct48), sl48⟩) (c48 : PySem.W.codeIn K cd48 "_law_far" = true) (k48 : PySem.W.keepIn K (.ref f48) = true)
    {f49 : Addr} {od49 an49 : Option Addr} {sl49 : Array (Option Value)} {oc49 kV49 dc49 pm49 cd49 ct49 : Value}
    (a49 : PySem.W.nsIn K mainGlobals "_law_steps" = some (some (.ref f49))) (l49 : K.lookup f49 = some ⟨oc49, od49, .func (PySem.W.fnOf "_law_steps" "_law_steps" (defArgs s__law_steps) (defBody s__law_steps) (defScope s__law_steps) .none kV49 dc49 pm49 an49 cd49 ct49), sl49⟩) (c49 : PySem.W.codeIn K cd49 "_law_steps" = true) (k49 : PySem.W.keepIn K (.ref f49) = true)
    {f50 : Addr} {od50 an50 : Option Addr} {sl50 : Array (Option Value)} {oc50 kV50 dc50 pm50 cd50 ct50 : Value}
    (a50 : PySem.W.nsIn K mainGlobals "_law_is_number" = some (some (.ref f50))) (l50 : K.lookup f50 = some ⟨oc50, od50, .func (PySem.W.fnOf "_law_is_number" "_law_is_number" (defArgs s__law_is_number) (defBody s__law_is_number) (defScope s__law_is_number) .none kV50 dc50 pm50 an50 cd50 ct50), sl50⟩) (c50 : PySem.W.codeIn K cd50 "_law_is_number" = true) (k50 : PySem.W.keepIn K (.ref f50) = true)
    {f51 : Addr} {od51 an51 : Option Addr} {sl51 : Array (Option Value)} {oc51 kV51 dc51 pm51 cd51 ct51 : Value}
    (a51 : PySem.W.nsIn K mainGlobals "_law_is_row" = some (some (.ref f51))) (l51 : K.lookup f51 = some ⟨oc51, od51, .func (PySem.W.fnOf "_law_is_row" "_law_is_row" (defArgs s__law_is_row) (defBody s__law_is_row) (defScope s__law_is_row) .none kV51 dc51 pm51 an51 cd51 ct51), sl51⟩) (c51 : PySem.W.codeIn K cd51 "_law_is_row" = true) (k51 : PySem.W.keepIn K (.ref f51) = true)
    {f52 : Addr} {od52 an52 : Option Addr} {sl52 : Array (Option Value)} {oc52 kV52 dc52 pm52 cd52 ct52 : Value}
    (a52 : PySem.W.nsIn K mainGlobals "_law_bends_right" = some (some (.ref f52))) (l52 : K.lookup f52 = some ⟨oc52, od52, .func (PySem.W.fnOf "_law_bends_right" "_law_bends_right" (defArgs s__law_bends_right) (defBody s__law_bends_right) (defScope s__law_bends_right) .none kV52 dc52 pm52 an52 cd52 ct52), sl52⟩) (c52 : PySem.W.codeIn K cd52 "_law_bends_right" = true) (k52 : PySem.W.keepIn K (.ref f52) = true)
    {f53 : Addr} {od53 an53 : Option Addr} {sl53 : Array (Option Value)} {oc53 kV53 dc53 pm53 cd53 ct53 : Value}
    (a53 : PySem.W.nsIn K mainGlobals "_law_ends_right" = some (some (.ref f53))) (l53 : K.lookup f53 = some ⟨oc53, od53, .func (PySem.W.fnOf "_law_ends_right" "_law_ends_right" (defArgs s__law_ends_right) (defBody s__law_ends_right) (defScope s__law_ends_right) .none kV53 dc53 pm53 an53 cd53 ct53), sl53⟩) (c53 : PySem.W.codeIn K cd53 "_law_ends_right" = true) (k53 : PySem.W.keepIn K (.ref f53) = true)
    {f54 : Addr} {od54 an54 : Option Addr} {sl54 : Array (Option Value)} {oc54 kV54 dc54 pm54 cd54 ct54 : Value}
    (a54 : PySem.W.nsIn K mainGlobals "_law_level" = some (some (.ref f54))) (l54 : K.lookup f54 = some ⟨oc54, od54, .func (PySem.W.fnOf "_law_level" "_law_level" (defArgs s__law_level) (defBody s__law_level) (defScope s__law_level) .none kV54 dc54 pm54 an54 cd54 ct54), sl54⟩) (c54 : PySem.W.codeIn K cd54 "_law_level" = true) (k54 : PySem.W.keepIn K (.ref f54) = true)
    {f55 : Addr} {od55 an55 : Option Addr} {sl55 : Array (Option Value)} {oc55 kV55 dc55 pm55 cd55 ct55 : Value}
    (a55 : PySem.W.nsIn K mainGlobals "_law_taut" = some (some (.ref f55))) (l55 : K.lookup f55 = some ⟨oc55, od55, .func (PySem.W.fnOf "_law_taut" "_law_taut" (defArgs s__law_taut) (defBody s__law_taut) (defScope s__law_taut) .none kV55 dc55 pm55 an55 cd55 ct55), sl55⟩) (c55 : PySem.W.codeIn K cd55 "_law_taut" = true) (k55 : PySem.W.keepIn K (.ref f55) = true)
    {f56 : Addr} {od56 an56 : Option Addr} {sl56 : Array (Option Value)} {oc56 kV56 dc56 pm56 cd56 ct56 : Value}
    (a56 : PySem.W.nsIn K mainGlobals "_law_told" = some (some (.ref f56))) (l56 : K.lookup f56 = some ⟨oc56, od56, .func (PySem.W.fnOf "_law_told" "_law_told" (defArgs s__law_told) (defBody s__law_told) (defScope s__law_told) .none kV56 dc56 pm56 an56 cd56 ct56), sl56⟩) (c56 : PySem.W.codeIn K cd56 "_law_told" = true) (k56 : PySem.W.keepIn K (.ref f56) = true)
    {f57 : Addr} {od57 an57 : Option Addr} {sl57 : Array (Option Value)} {oc57 kV57 dc57 pm57 cd57 ct57 : Value}
    (a57 : PySem.W.nsIn K mainGlobals "_law_right" = some (some (.ref f57))) (l57 : K.lookup f57 = some ⟨oc57, od57, .func (PySem.W.fnOf "_law_right" "_law_right" (defArgs s__law_right) (defBody s__law_right) (defScope s__law_right) .none kV57 dc57 pm57 an57 cd57 ct57), sl57⟩) (c57 : PySem.W.codeIn K cd57 "_law_right" = true) (k57 : PySem.W.keepIn K (.ref f57) = true)
    {f58 : Addr} {od58 an58 : Option Addr} {sl58 : Array (Option Value)} {oc58 kV58 dc58 pm58 cd58 ct58 : Value}
    (a58 : PySem.W.nsIn K mainGlobals "law" = some (some (.ref f58))) (l58 : K.lookup f58 = some ⟨oc58, od58, .func (PySem.W.fnOf "law" "law" (defArgs s_law) (defBody s_law) (defScope s_law) .none kV58 dc58 pm58 an58 cd58 ct58), sl58⟩) (c58 : PySem.W.codeIn K cd58 "law" = true) (k58 : PySem.W.keepIn K (.ref f58) = true)
    {t_LEAST_RING : Tok} (u_LEAST_RING : PySem.W.nsIn K mainGlobals "LEAST_RING" = some (some (.int 3 t_LEAST_RING)))
    {t_MOST_PLACES : Tok} (u_MOST_PLACES : PySem.W.nsIn K mainGlobals "MOST_PLACES" = some (some (.int 25 t_MOST_PLACES)))
    (z_abs : PySem.W.nsIn K mainGlobals "abs" = some none)
    (z_all : PySem.W.nsIn K mainGlobals "all" = some none)
    (z_any : PySem.W.nsIn K mainGlobals "any" = some none)
    (z_bool : PySem.W.nsIn K mainGlobals "bool" = some none)
    (z_divmod : PySem.W.nsIn K mainGlobals "divmod" = some none)
    (z_enumerate : PySem.W.nsIn K mainGlobals "enumerate" = some none)
    (z_int : PySem.W.nsIn K mainGlobals "int" = some none)
    (z_isinstance : PySem.W.nsIn K mainGlobals "isinstance" = some none)
    (z_len : PySem.W.nsIn K mainGlobals "len" = some none)
    (z_list : PySem.W.nsIn K mainGlobals "list" = some none)
    (z_max : PySem.W.nsIn K mainGlobals "max" = some none)
    (z_min : PySem.W.nsIn K mainGlobals "min" = some none)
    (z_range : PySem.W.nsIn K mainGlobals "range" = some none)
    (z_tuple : PySem.W.nsIn K mainGlobals "tuple" = some none)
    (z_zip : PySem.W.nsIn K mainGlobals "zip" = some none)
    : Nonempty (Tx K mg) := ⟨{
    n_abs := PySem.W.mg_none_of X G z_abs
    n_all := PySem.W.mg_none_of X G z_all
    n_any := PySem.W.mg_none_of X G z_any
    n_bool := PySem.W.mg_none_of X G z_bool
    n_divmod := PySem.W.mg_none_of X G z_divmod
    n_enumerate := PySem.W.mg_none_of X G z_enumerate
    n_int := PySem.W.mg_none_of X G z_int
    n_isinstance := PySem.W.mg_none_of X G z_isinstance
    n_len := PySem.W.mg_none_of X G z_len
    n_list := PySem.W.mg_none_of X G z_list
    n_max := PySem.W.mg_none_of X G z_max
    n_min := PySem.W.mg_none_of X G z_min
    n_range := PySem.W.mg_none_of X G z_range
    n_tuple := PySem.W.mg_none_of X G z_tuple
    n_zip := PySem.W.mg_none_of X G z_zip
    LEAST_RING := .int (PySem.W.mg_of X G u_LEAST_RING)
    MOST_PLACES := .int (PySem.W.mg_of X G u_MOST_PLACES)
    c_Reach := ⟨C_Reach, ⟨pg_Reach, hd_Reach, po_Reach, sa_Reach⟩, PySem.W.mg_of X G aC_Reach⟩
    na_Reach_begin := na_Reach_begin
    na_Reach_height := na_Reach_height
    na_Reach_most := na_Reach_most
    na_Reach_least := na_Reach_least
    is_whole := .mk' X G a0 l0 c0 k0 (fun _ _ _ _ _ _ us hl => match us, hl with | [_], _ => rfl)
    common := .mk' X G a1 l1 c1 k1 (fun _ _ _ _ _ _ us hl => match us, hl with | [_, _], _ => rfl)
    is_number := .mk' X G a2 l2 c2 k2 (fun _ _ _ _ _ _ us hl => match us, hl with | [_], _ => rfl)
    number := .mk' X G a3 l3 c3 k3 (fun _ _ _ _ _ _ us hl => match us, hl with | [_, _], _ => rfl)
    whole := .mk' X G a4 l4 c4 k4 (fun _ _ _ _ _ _ us hl => match us, hl with | [_], _ => rfl)
    added := .mk' X G a5 l5 c5 k5 (fun _ _ _ _ _ _ us hl => match us, hl with | [_, _], _ => rfl)
    taken := .mk' X G a6 l6 c6 k6 (fun _ _ _ _ _ _ us hl => match us, hl with | [_, _], _ => rfl)
    parted := .mk' X G a7 l7 c7 k7 (fun _ _ _ _ _ _ us hl => match us, hl with | [_, _], _ => rfl)
    is_less := .mk' X G a8 l8 c8 k8 (fun _ _ _ _ _ _ us hl => match us, hl with | [_, _], _ => rfl)
    is_pair := .mk' X G a9 l9 c9 k9 (fun _ _ _ _ _ _ us hl => match us, hl with | [_], _ => rfl)
    is_tube := .mk' X G a10 l10 c10 k10 (fun _ _ _ _ _ _ us hl => match us, hl with | [_], _ => rfl)
    is_tied := .mk' X G a11 l11 c11 k11 (fun _ _ _ _ _ _ us hl => match us, hl with | [_], _ => rfl)
    check_tube := .mk' X G a12 l12 c12 k12 (fun _ _ _ _ _ _ us hl => match us, hl with | [_], _ => rfl)
    check_tied := .mk' X G a13 l13 c13 k13 (fun _ _ _ _ _ _ us hl => match us, hl with | [_], _ => rfl)
    slope_to := .mk' X G a14 l14 c14 k14 (fun _ _ _ _ _ _ us hl => match us, hl with | [_, _], _ => rfl)
    Reach___init__ := .mk' a15 i15 l15 c15 k15 (fun _ _ _ _ _ _ us hl => match us, hl with | [_, _, _], _ => rfl)
    mk_Reach := ⟨mk_Reach, a15, i15, kc_Reach⟩
    Reach_crossed := .mk' a16 i16 l16 c16 k16 (fun _ _ _ _ _ _ us hl => match us, hl with | [_, _, _], _ => rfl)
    Reach_take := .mk' a17 i17 l17 c17 k17 (fun _ _ _ _ _ _ us hl => match us, hl with | [_, _, _], _ => rfl)
    touch_behind := .mk' X G a18 l18 c18 k18 (fun _ _ _ _ _ _ us hl => match us, hl with | [_, _, _], _ => rfl)
    drawn_to := .mk' X G a19 l19 c19 k19 (fun _ _ _ _ _ _ us hl => match us, hl with | [_, _, _], _ => rfl)
    drawn := .mk' X G a20 l20 c20 k20 (fun _ _ _ _ _ _ us hl => match us, hl with | [_], _ => rfl)
    cord := .mk' X G a21 l21 c21 k21 (fun _ _ _ _ _ _ us hl => match us, hl with | [_], _ => rfl)
    greatest_of := .mk' X G a22 l22 c22 k22 (fun _ _ _ _ _ _ us hl => match us, hl with | [_], _ => rfl)
    least_of := .mk' X G a23 l23 c23 k23 (fun _ _ _ _ _ _ us hl => match us, hl with | [_], _ => rfl)
    level_height := .mk' X G a24 l24 c24 k24 (fun _ _ _ _ _ _ us hl => match us, hl with | [_], _ => rfl)
    held_places := .mk' X G a25 l25 c25 k25 (fun _ _ _ _ _ _ us hl => match us, hl with | [_], _ => rfl)
    to_loose_end := .mk' X G a26 l26 c26 k26 (fun _ _ _ _ _ _ us hl => match us, hl with | [_], _ => rfl)
    loose_cord := .mk' X G a27 l27 c27 k27 (fun _ _ _ _ _ _ us hl => match us, hl with | [_], _ => rfl)
    is_ring := .mk' X G a28 l28 c28 k28 (fun _ _ _ _ _ _ us hl => match us, hl with | [_], _ => rfl)
    check_ring := .mk' X G a29 l29 c29 k29 (fun _ _ _ _ _ _ us hl => match us, hl with | [_], _ => rfl)
    ring_cord := .mk' X G a30 l30 c30 k30 (fun _ _ _ _ _ _ us hl => match us, hl with | [_], _ => rfl)
    _law_mixed := .mk' X G a31 l31 c31 k31 (fun _ _ _ _ _ _ us hl => match us, hl with | [_], _ => rfl)
    _law_pack := .mk' X G a32 l32 c32 k32 (fun _ _ _ _ _ _ us hl => match us, hl with | [_, _], _ => rfl)
    _law_take := .mk' X G a33 l33 c33 k33 (fun _ _ _ _ _ _ us hl => match us, hl with | [_, _], _ => rfl)
    _law_low := .mk' X G a34 l34 c34 k34 (fun _ _ _ _ _ _ us hl => match us, hl with | [_, _], _ => rfl)
    _law_more := .mk' X G a35 l35 c35 k35 (fun _ _ _ _ _ _ us hl => match us, hl with | [_, _], _ => rfl)
    _law_less_by := .mk' X G a36 l36 c36 k36 (fun _ _ _ _ _ _ us hl => match us, hl with | [_, _], _ => rfl)
    _law_under := .mk' X G a37 l37 c37 k37 (fun _ _ _ _ _ _ us hl => match us, hl with | [_, _], _ => rfl)
    _law_width := .mk' X G a38 l38 c38 k38 (fun _ _ _ _ _ _ us hl => match us, hl with | [_, _], _ => rfl)
    _law_walk := .mk' X G a39 l39 c39 k39 (fun _ _ _ _ _ _ us hl => match us, hl with | [_, _, _], _ => rfl)
    _law_fine_number := .mk' X G a40 l40 c40 k40 (fun _ _ _ _ _ _ us hl => match us, hl with | [_], _ => rfl)
    _law_fine_walk := .mk' X G a41 l41 c41 k41 (fun _ _ _ _ _ _ us hl => match us, hl with | [_, _], _ => rfl)
    _law_moved := .mk' X G a42 l42 c42 k42 (fun _ _ _ _ _ _ us hl => match us, hl with | [_, _], _ => rfl)
    _law_two := .mk' X G a43 l43 c43 k43 (fun _ _ _ _ _ _ us hl => match us, hl with | [_, _, _], _ => rfl)
    _law_tied := .mk' X G a44 l44 c44 k44 (fun _ _ _ _ _ _ us hl => match us, hl with | [_, _], _ => rfl)
    _law_greater := .mk' X G a45 l45 c45 k45 (fun _ _ _ _ _ _ us hl => match us, hl with | [_, _], _ => rfl)
    _law_lesser := .mk' X G a46 l46 c46 k46 (fun _ _ _ _ _ _ us hl => match us, hl with | [_, _], _ => rfl)
    _law_four := .mk' X G a47 l47 c47 k47 (fun _ _ _ _ _ _ us hl => match us, hl with | [_, _], _ => rfl)
    _law_far := .mk' X G a48 l48 c48 k48 (fun _ _ _ _ _ _ us hl => match us, hl with | [_, _], _ => rfl)
    _law_steps := .mk' X G a49 l49 c49 k49 (fun _ _ _ _ _ _ us hl => match us, hl with | [_], _ => rfl)
    _law_is_number := .mk' X G a50 l50 c50 k50 (fun _ _ _ _ _ _ us hl => match us, hl with | [_], _ => rfl)
    _law_is_row := .mk' X G a51 l51 c51 k51 (fun _ _ _ _ _ _ us hl => match us, hl with | [_, _], _ => rfl)
    _law_bends_right := .mk' X G a52 l52 c52 k52 (fun _ _ _ _ _ _ us hl => match us, hl with | [_, _, _, _], _ => rfl)
    _law_ends_right := .mk' X G a53 l53 c53 k53 (fun _ _ _ _ _ _ us hl => match us, hl with | [_, _], _ => rfl)
    _law_level := .mk' X G a54 l54 c54 k54 (fun _ _ _ _ _ _ us hl => match us, hl with | [_], _ => rfl)
    _law_taut := .mk' X G a55 l55 c55 k55 (fun _ _ _ _ _ _ us hl => match us, hl with | [_, _, _], _ => rfl)
    _law_told := .mk' X G a56 l56 c56 k56 (fun _ _ _ _ _ _ us hl => match us, hl with | [_, _], _ => rfl)
    _law_right := .mk' X G a57 l57 c57 k57 (fun _ _ _ _ _ _ us hl => match us, hl with | [_, _, _], _ => rfl)
    law := .mk' X G a58 l58 c58 k58 (fun _ _ _ _ _ _ us hl => match us, hl with | [_], _ => rfl)
    }⟩
end Gn
namespace Gn
open PySem PySem.Spec PyProof.Rows L2 DL
def spLaw (K : PySem.W.Frag) : Sp := fun vs H Q _ => ∃ (a : Addr) (ns : List Int), vs = [.ref a] ∧ SqL K H a (ns.map V.int) ∧ ns.length ≤ 63 ∧ (∀ z ∈ ns, Builtin.Int.intBits z ≤ 1048576) ∧ ∀ H', Q (.bl true) H'
theorem law_mk {l : PySem.W.OpenLaw} {w : World} {K : PySem.W.Frag} {h : Heap} {mg : Str → Option Value} {fa f : Addr} (N : Nonempty (Tx K mg)) (X : K.In h) (G : h.Ns mainGlobals mg) (hfa : mg "law" = some (.ref fa)) (a : PySem.W.nsIn K mainGlobals "law" = some (some (.ref f))) :
    ∃ fd : FuncData, (∀ (s : Shared) (v : Value), BindsTo s fd ⟨[v], []⟩ [("_law_script", v)]) ∧ ∀ base : Heap, K.In base → base.Ns mainGlobals mg → FnOk l.prog w K mg base CX0 12 fa fd ["_law_script"] (spLaw K) := by
  obtain ⟨T⟩ := N
  have e := hfa.symm.trans T.law.g
  cases e
  refine ⟨T.law.d, fun s v => ?_, fun base _ _ => (ok_law T).imp fun vs H Q E q => ?_⟩
  · obtain ⟨oc, od, kV, doc, pm, an, cdv, ct, osl, e, _, _⟩ := T.law.F.ex
    rw [e]
    exact .of_eq rfl
  · obtain ⟨a, ns, rfl, hS, hl, hb, q⟩ := q
    exact spP_law (law_true ns hl hb) hS q
end Gn
open PySem PySem.W PyProof.Rows
set_option maxHeartbeats 0 in
theorem PySem.Challenge.cw_levelcord_k92_whole_two_tubes_in_order_holds : PySem.Challenge.rw_levelcord_k92_whole_two_tubes_in_order.Holds := by
  w_on; o_law; k_head; (case hw => w_witness2)
  k_fill
  refine L2.walk_ofB (l := PySem.Challenge.rw_levelcord_k92_whole_two_tubes_in_order) (n := 63) (k := 12) (x := "_law_script") (CX := fun _ => L2.CX0) (sp := fun w => Gn.spLaw _) rfl (by decide) rfl ⟨rfl, by decide, by decide⟩ (fun w h Y => PySem.W.kIn_of Y) ?F (fun _ _ a ns hl hb _ hS => ⟨a, ns, rfl, hS, hl, hb, fun _ => rfl⟩) (fun _ _ _ _ _ h => h)
  case F =>
    intro w mg fa h KX G hmg
    refine' Gn.law_mk (Gn.all_mk KX G ?aC_Reach ?pg_Reach ?hd_Reach ?po_Reach ?sa_Reach ?mk_Reach ?kc_Reach ?na_Reach_begin ?na_Reach_height ?na_Reach_most ?na_Reach_least ?a0 ?l0 ?c0 ?k0 ?a1 ?l1 ?c1 ?k1 ?a2 ?l2 ?c2 ?k2 ?a3 ?l3 ?c3 ?k3 ?a4 ?l4 ?c4 ?k4 ?a5 ?l5 ?c5 ?k5 ?a6 ?l6 ?c6 ?k6 ?a7 ?l7 ?c7 ?k7 ?a8 ?l8 ?c8 ?k8 ?a9 ?l9 ?c9 ?k9 ?a10 ?l10 ?c10 ?k10 ?a11 ?l11 ?c11 ?k11 ?a12 ?l12 ?c12 ?k12 ?a13 ?l13 ?c13 ?k13 ?a14 ?l14 ?c14 ?k14 ?a15 ?i15 ?l15 ?c15 ?k15 ?a16 ?i16 ?l16 ?c16 ?k16 ?a17 ?i17 ?l17 ?c17 ?k17 ?a18 ?l18 ?c18 ?k18 ?a19 ?l19 ?c19 ?k19 ?a20 ?l20 ?c20 ?k20 ?a21 ?l21 ?c21 ?k21 ?a22 ?l22 ?c22 ?k22 ?a23 ?l23 ?c23 ?k23 ?a24 ?l24 ?c24 ?k24 ?a25 ?l25 ?c25 ?k25 ?a26 ?l26 ?c26 ?k26 ?a27 ?l27 ?c27 ?k27 ?a28 ?l28 ?c28 ?k28 ?a29 ?l29 ?c29 ?k29 ?a30 ?l30 ?c30 ?k30 ?a31 ?l31 ?c31 ?k31 ?a32 ?l32 ?c32 ?k32 ?a33 ?l33 ?c33 ?k33 ?a34 ?l34 ?c34 ?k34 ?a35 ?l35 ?c35 ?k35 ?a36 ?l36 ?c36 ?k36 ?a37 ?l37 ?c37 ?k37 ?a38 ?l38 ?c38 ?k38 ?a39 ?l39 ?c39 ?k39 ?a40 ?l40 ?c40 ?k40 ?a41 ?l41 ?c41 ?k41 ?a42 ?l42 ?c42 ?k42 ?a43 ?l43 ?c43 ?k43 ?a44 ?l44 ?c44 ?k44 ?a45 ?l45 ?c45 ?k45 ?a46 ?l46 ?c46 ?k46 ?a47 ?l47 ?c47 ?k47 ?a48 ?l48 ?c48 ?k48 ?a49 ?l49 ?c49 ?k49 ?a50 ?l50 ?c50 ?k50 ?a51 ?l51 ?c51 ?k51 ?a52 ?l52 ?c52 ?k52 ?a53 ?l53 ?c53 ?k53 ?a54 ?l54 ?c54 ?k54 ?a55 ?l55 ?c55 ?k55 ?a56 ?l56 ?c56 ?k56 ?a57 ?l57 ?c57 ?k57 ?a58 ?l58 ?c58 ?k58 ?u_LEAST_RING ?u_MOST_PLACES ?z_abs ?z_all ?z_any ?z_bool ?z_divmod ?z_enumerate ?z_int ?z_isinstance ?z_len ?z_list ?z_max ?z_min ?z_range ?z_tuple ?z_zip) KX G hmg ?zlaw
    (case aC_Reach => k_is)
    (case pg_Reach => k_is)
    (case hd_Reach => k_is)
    (case po_Reach => k_is)
    (case sa_Reach => k_is)
    (case mk_Reach => k_is)
    (case kc_Reach => k_is)
    (case na_Reach_begin => k_is)
    (case na_Reach_height => k_is)
    (case na_Reach_most => k_is)
    (case na_Reach_least => k_is)
    (case a0 => k_is)
    (case l0 => k_is)
    (case c0 => k_is)
    (case k0 => k_is)
    (case a1 => k_is)
    (case l1 => k_is)
    (case c1 => k_is)
    (case k1 => k_is)
    (case a2 => k_is)
    (case l2 => k_is)
    (case c2 => k_is)
    (case k2 => k_is)
    (case a3 => k_is)
    (case l3 => k_is)
    (case c3 => k_is)
    (case k3 => k_is)
    (case a4 => k_is)
    (case l4 => k_is)
    (case c4 => k_is)
    (case k4 => k_is)
    (case a5 => k_is)
    (case l5 => k_is)
    (case c5 => k_is)
    (case k5 => k_is)
    (case a6 => k_is)
    (case l6 => k_is)
    (case c6 => k_is)
    (case k6 => k_is)
    (case a7 => k_is)
    (case l7 => k_is)
    (case c7 => k_is)
    (case k7 => k_is)
    (case a8 => k_is)
    (case l8 => k_is)
    (case c8 => k_is)
    (case k8 => k_is)
    (case a9 => k_is)
    (case l9 => k_is)
    (case c9 => k_is)
    (case k9 => k_is)
    (case a10 => k_is)
    (case l10 => k_is)
    (case c10 => k_is)
    (case k10 => k_is)
    (case a11 => k_is)
    (case l11 => k_is)
    (case c11 => k_is)
    (case k11 => k_is)
    (case a12 => k_is)
    (case l12 => k_is)
    (case c12 => k_is)
    (case k12 => k_is)
    (case a13 => k_is)
    (case l13 => k_is)
    (case c13 => k_is)
    (case k13 => k_is)
    (case a14 => k_is)
    (case l14 => k_is)
    (case c14 => k_is)
    (case k14 => k_is)
    (case a15 => k_is)
    (case i15 => k_is)
    (case l15 => k_is)
    (case c15 => k_is)
    (case k15 => k_is)
    (case a16 => k_is)
    (case i16 => k_is)
    (case l16 => k_is)
    (case c16 => k_is)
    (case k16 => k_is)
    (case a17 => k_is)
    (case i17 => k_is)
    (case l17 => k_is)
    (case c17 => k_is)
    (case k17 => k_is)
    (case a18 => k_is)
    (case l18 => k_is)
    (case c18 => k_is)
    (case k18 => k_is)
    (case a19 => k_is)
    (case l19 => k_is)
    (case c19 => k_is)
    (case k19 => k_is)
    (case a20 => k_is)
    (case l20 => k_is)
    (case c20 => k_is)
    (case k20 => k_is)
    (case a21 => k_is)
    (case l21 => k_is)
    (case c21 => k_is)
    (case k21 => k_is)
    (case a22 => k_is)
    (case l22 => k_is)
    (case c22 => k_is)
    (case k22 => k_is)
    (case a23 => k_is)
    (case l23 => k_is)
    (case c23 => k_is)
    (case k23 => k_is)
    (case a24 => k_is)
    (case l24 => k_is)
    (case c24 => k_is)
    (case k24 => k_is)
    (case a25 => k_is)
    (case l25 => k_is)
    (case c25 => k_is)
    (case k25 => k_is)
    (case a26 => k_is)
    (case l26 => k_is)
    (case c26 => k_is)
    (case k26 => k_is)
    (case a27 => k_is)
    (case l27 => k_is)
    (case c27 => k_is)
    (case k27 => k_is)
    (case a28 => k_is)
    (case l28 => k_is)
    (case c28 => k_is)
    (case k28 => k_is)
    (case a29 => k_is)
    (case l29 => k_is)
    (case c29 => k_is)
    (case k29 => k_is)
    (case a30 => k_is)
    (case l30 => k_is)
    (case c30 => k_is)
    (case k30 => k_is)
    (case a31 => k_is)
    (case l31 => k_is)
    (case c31 => k_is)
    (case k31 => k_is)
    (case a32 => k_is)
    (case l32 => k_is)
    (case c32 => k_is)
    (case k32 => k_is)
    (case a33 => k_is)
    (case l33 => k_is)
    (case c33 => k_is)
    (case k33 => k_is)
    (case a34 => k_is)
    (case l34 => k_is)
    (case c34 => k_is)
    (case k34 => k_is)
    (case a35 => k_is)
    (case l35 => k_is)
    (case c35 => k_is)
    (case k35 => k_is)
    (case a36 => k_is)
    (case l36 => k_is)
    (case c36 => k_is)
    (case k36 => k_is)
    (case a37 => k_is)
    (case l37 => k_is)
    (case c37 => k_is)
    (case k37 => k_is)
    (case a38 => k_is)
    (case l38 => k_is)
    (case c38 => k_is)
    (case k38 => k_is)
    (case a39 => k_is)
    (case l39 => k_is)
    (case c39 => k_is)
    (case k39 => k_is)
    (case a40 => k_is)
    (case l40 => k_is)
    (case c40 => k_is)
    (case k40 => k_is)
    (case a41 => k_is)
    (case l41 => k_is)
    (case c41 => k_is)
    (case k41 => k_is)
    (case a42 => k_is)
    (case l42 => k_is)
    (case c42 => k_is)
    (case k42 => k_is)
    (case a43 => k_is)
    (case l43 => k_is)
    (case c43 => k_is)
    (case k43 => k_is)
    (case a44 => k_is)
    (case l44 => k_is)
    (case c44 => k_is)
    (case k44 => k_is)
    (case a45 => k_is)
    (case l45 => k_is)
    (case c45 => k_is)
    (case k45 => k_is)
    (case a46 => k_is)
    (case l46 => k_is)
    (case c46 => k_is)
    (case k46 => k_is)
    (case a47 => k_is)
    (case l47 => k_is)
    (case c47 => k_is)
    (case k47 => k_is)
    (case a48 => k_is)
    (case l48 => k_is)
    (case c48 => k_is)
    (case k48 => k_is)
    (case a49 => k_is)
    (case l49 => k_is)
    (case c49 => k_is)
    (case k49 => k_is)
    (case a50 => k_is)
    (case l50 => k_is)
    (case c50 => k_is)
    (case k50 => k_is)
    (case a51 => k_is)
    (case l51 => k_is)
    (case c51 => k_is)
    (case k51 => k_is)
    (case a52 => k_is)
    (case l52 => k_is)
    (case c52 => k_is)
    (case k52 => k_is)
    (case a53 => k_is)
    (case l53 => k_is)
    (case c53 => k_is)
    (case k53 => k_is)
    (case a54 => k_is)
    (case l54 => k_is)
    (case c54 => k_is)
    (case k54 => k_is)
    (case a55 => k_is)
    (case l55 => k_is)
    (case c55 => k_is)
    (case k55 => k_is)
    (case a56 => k_is)
    (case l56 => k_is)
    (case c56 => k_is)
    (case k56 => k_is)
    (case a57 => k_is)
    (case l57 => k_is)
    (case c57 => k_is)
    (case k57 => k_is)
    (case a58 => k_is)
    (case l58 => k_is)
    (case c58 => k_is)
    (case k58 => k_is)
    (case u_LEAST_RING => k_is)
    (case u_MOST_PLACES => k_is)
    (case z_abs => k_is)
    (case z_all => k_is)
    (case z_any => k_is)
    (case z_bool => k_is)
    (case z_divmod => k_is)
    (case z_enumerate => k_is)
    (case z_int => k_is)
    (case z_isinstance => k_is)
    (case z_len => k_is)
    (case z_list => k_is)
    (case z_max => k_is)
    (case z_min => k_is)
    (case z_range => k_is)
    (case z_tuple => k_is)
    (case z_zip => k_is)
    (case zlaw => k_is)
