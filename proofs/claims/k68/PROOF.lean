import PyProof.Rows.All
import Wide.All
import OpenK.AllK
import Wide.FinOn
import KE.KStateDown
import HandS.Base
import HandS.Call
import HandS.Words
import HandS.Head0
import HandS.Head1
import HandS.Head2
import HandS.HeadHook1
import HandS.HeadHook2
import HandS.ForMost
import HandS.Wide
import HandS.IsInst
import HandS.TupAny
import HandS.TupMul
import HandS.Deep
import HandS.Flow
import HandS.Zip
import HandS.Style
import HandS.SortInts
import HandS.Dict
import HandS.TupSets
import KE.GoesEnum
import PyProof.SeqI3
import PyProof.WalkInts
import HandS.TupLe
import HandS.TryOnly
import HandS.CallLocal
import HandS.EndBits
import HandS.Text
import PySem.Challenge.RW_levelcord_k68_whole_jobs_moved_and_joine
set_option Elab.async false
set_option linter.all false
set_option maxRecDepth 100000
set_option exponentiation.threshold 10000
/-! DL 0: plain data D; what the top has left, read by runs of it: a Hook for defs, classes and constants. -/
namespace DL
open PySem PySem.Spec PyProof.Rows L2

/-- plain data -/
inductive D where
  | non | bl (b : Bool) | int (i : Int) | str (x : Str) | tup (xs : List D) | lst (xs : List D) | ref (a : Addr)

/-! ### a constant that stands for plain data -/
mutual
def repB (K : PySem.W.Frag) : D → Value → Bool
  | .non, .none => true
  | .bl b, .bool c => b == c
  | .int i, .int j _ => decide (i = j)
  | .str x, .str y _ => decide (x = y)
  | .ref a, .ref b => decide (a = b)
  | .tup ds, .ref p => match K.lookup p with
    | some ⟨.type c, _, .seq its _, _⟩ => decide (c = "tuple") && (decide (its.size ≤ 1000) && repsB K ds its.toList)
    | _ => false
  | _, _ => false
def repsB (K : PySem.W.Frag) : List D → List Value → Bool
  | [], [] => true
  | d :: ds, u :: us => repB K d u && repsB K ds us
  | _, _ => false
end
/-- the module's name x stands for d -/
def cstB (K : PySem.W.Frag) (x : Str) (d : D) : Bool := match PySem.W.nsIn K mainGlobals x with
  | some (some u) => repB K d u
  | _ => false
/-! ### the Hook -/
abbrev Csts := List (Str × (PySem.W.Frag → D))
def obsX (fa : List He.Fa) (fn : List He.DefD) (cs : Csts) (K : PySem.W.Frag) : He.AlD := (((fa.all fun f => f.ok K) && fn.all fun d => d.ok K) && cs.all fun q => cstB K q.1 (q.2 K), fn.map fun d => He.fnW K d.at_)
def SaysX (fa : List He.Fa) (fn : List He.DefD) (cs : Csts) (K : PySem.W.Frag) : Prop := obsX fa fn cs K = He.valD fn
/-- the part of the heap at these addresses, written out one behind the other -/
def frC {α : Type} (g : Addr → Option Obj) : List Addr → (PySem.W.Frag → α) → α
  | [], k => k []
  | a :: as, k => match g a with
    | some o => frC g as fun r => k ((a, o) :: r)
    | none => frC g as k
theorem frC_eq {α : Type} {g : Addr → Option Obj} : ∀ (as : List Addr) (k : PySem.W.Frag → α), frC g as k = k (He.frG g as)
  | [], k => rfl
  | a :: as, k => by
    unfold frC He.frG
    cases h : g a with
    | some o =>
      rw [List.filterMap_cons, h]
      exact frC_eq as _
    | none =>
      rw [List.filterMap_cons, h]
      exact frC_eq as k
def upL : Nat → List Addr → List Addr
  | 0, acc => acc
  | k + 1, acc => upL k (k :: acc)
def upC {α : Type} : Nat → List Addr → (List Addr → α) → α
  | 0, acc, c => c acc
  | k + 1, acc, c => upC k (k :: acc) c
theorem upC_eq {α : Type} : ∀ (k : Nat) (acc : List Addr) (c : List Addr → α), upC k acc c = c (upL k acc)
  | 0, acc, _ => rfl
  | k + 1, acc, c => upC_eq k (k :: acc) c
def _root_.He.dfd (at_ : Str × Option Str) (nm qual : Str) (st : Stmt) : He.DefD := ⟨at_, nm, qual, defArgs st, defBody st, defScope st, [], []⟩
def faOf (l : List (Nat × Addr)) (n : Nat) : Addr := (l.lookup n).getD 0
/-- what is looked at: facts, defs, constants -/
structure Ck where
  fa : List He.Fa
  fn : List He.DefD
  cs : Csts
def obsXG (q : Ck) (g : Addr → Option Obj) (n : Nat) : He.AlD := upC n [] fun as => frC g as (obsX q.fa q.fn q.cs)
def Ck.says (q : Ck) (K : PySem.W.Frag) : Prop := SaysX q.fa q.fn q.cs K
def hookX (cks : List Ck) : PySem.W.Hook where
  α := List He.AlD
  obs := fun s => cks.map fun q => obsXG q s.heap.get? s.heap.objs.size
  val := fun _ => cks.map fun q => He.valD q.fn
  says := fun _ h => ∃ K : PySem.W.Frag, K.In h ∧ ∀ q ∈ cks, q.says K
  of := fun _ s e => by
    refine ⟨He.frG s.heap.get? (upL s.heap.objs.size []), He.frG_in, fun q hq => ?_⟩
    have e : (cks.map fun q => obsXG q s.heap.get? s.heap.objs.size) = cks.map fun q => He.valD q.fn := e
    have z := List.map_inj_left.mp e q hq
    unfold obsXG at z
    rw [upC_eq, frC_eq] at z
    exact z
  keeps := fun _ _ _ ⟨K, hK, c⟩ k => ⟨K, PySem.W.Frag.In.keeps hK k, c⟩
def obX (cks : List Ck) (s : PySem.W.SharedT) : List He.AlD := cks.map fun q => obsXG q (HandSHeadRun.getT s) s.n
theorem obX_eq {cks : List Ck} (s : PySem.W.SharedT) : obX cks s = (hookX cks).obs s.abs := by
  have e : HandSHeadRun.getT s = s.abs.heap.get? := funext (HandSHeadRun.getT_eq s)
  have e2 : s.n = s.abs.heap.objs.size := (PySem.W.absHeap_size s.tree s.n s.life).symm
  unfold obX
  rw [e, e2] <;> rfl
/-- the run, one look -/
noncomputable abbrev endR (r : PySem.W.OpenRow) (M : Nat) (w : World) (os : OsState) : Option PySem.W.SharedT := HandSHeadRun.endF (HandSHeadRun.stepQ (HandSHeadRun.denQ HandSHeadRun.tabQ) r.prog w) M r.prog w os
def CkRun (r : PySem.W.OpenRow) (M : Nat) (q : Ck) : Prop := ∀ (w : World) (os : OsState), (endR r M w os).map (fun s => obsXG q (HandSHeadRun.getT s) s.n) = some (He.valD q.fn)
theorem runs_all {r : PySem.W.OpenRow} {v : Program} {M : Nat} {loose : List Str} {cks : List Ck} (h0 : ∀ w, HandSHeadRun.RunEq r v PySem.W.Hook.none (fun _ => ()) M loose w) (h : ∀ q ∈ cks, CkRun r M q) (w : World) : HandSHeadRun.RunEq r v (hookX cks) (obX cks) M loose w := by
  intro os
  have z := h0 w os
  obtain ⟨s, hs, e⟩ := Option.map_eq_some_iff.mp z
  refine Option.map_eq_some_iff.mpr ⟨s, hs, ?_⟩
  have e1 := congrArg Prod.fst e
  have e2 := congrArg (fun x => x.2.1) e
  refine Prod.ext e1 (Prod.ext e2 ?_)
  show obX cks s = cks.map fun q => He.valD q.fn
  refine List.map_inj_left.mpr fun q hq => ?_
  obtain ⟨s', hs', e'⟩ := Option.map_eq_some_iff.mp (h q hq w os)
  have hs2 : endR r M w os = some s := hs
  rw [hs2] at hs'
  cases hs'
  exact e'
end DL
namespace Gn
open PySem PySem.Spec PyProof.Rows L2 DL
def k_MOST_PLACES_tubes : D := D.int 25
def k_LAST_HOUR : D := D.int 24
def k_NOUGHT : D := D.tup [D.int 0, D.int 1]
def k_MOST_JOBS_jobs : D := D.int 12
end Gn
namespace Gn
open PySem PySem.Spec PyProof.Rows L2 DL
def topS (i : Nat) : Stmt := PySem.Challenge.pw_levelcord_k68_whole_jobs_moved_and_joine.main.body.getD i (.Pass ⟨0, 0, 0, 0⟩)
abbrev s_is_whole : Stmt := topS 8
abbrev s_common : Stmt := topS 9
abbrev s_is_number : Stmt := topS 10
abbrev s_number : Stmt := topS 11
abbrev s_whole : Stmt := topS 12
abbrev s_added : Stmt := topS 13
abbrev s_taken : Stmt := topS 14
abbrev s_parted : Stmt := topS 15
abbrev s_is_less : Stmt := topS 16
abbrev s_is_pair : Stmt := topS 19
abbrev s_is_tube : Stmt := topS 20
abbrev s_is_tied : Stmt := topS 21
abbrev s_check_tied : Stmt := topS 22
abbrev s_are_numbers_tubes : Stmt := topS 23
abbrev s_check_plain_row : Stmt := topS 24
abbrev s_steps : Stmt := topS 25
abbrev s_slope_to : Stmt := topS 27
abbrev s_Reach___init__ : Stmt := inClass (topS 28) 0
abbrev s_Reach_crossed : Stmt := inClass (topS 28) 1
abbrev s_Reach_take : Stmt := inClass (topS 28) 2
abbrev s_touch_behind : Stmt := topS 29
abbrev s_drawn_to : Stmt := topS 30
abbrev s_drawn : Stmt := topS 31
abbrev s_cord : Stmt := topS 32
abbrev s_is_job_jobs : Stmt := topS 36
abbrev s_is_jobs : Stmt := topS 37
abbrev s_check_jobs : Stmt := topS 38
abbrev s_job_tube : Stmt := topS 39
abbrev s_speeds : Stmt := topS 40
abbrev s_parts : Stmt := topS 41
abbrev s__law_mixed : Stmt := topS 43
abbrev s__law_pack : Stmt := topS 44
abbrev s__law_take : Stmt := topS 45
abbrev s__law_low : Stmt := topS 46
abbrev s__law_less_by : Stmt := topS 47
abbrev s__law_by : Stmt := topS 48
abbrev s__law_jobs : Stmt := topS 49
abbrev s__law_later : Stmt := topS 50
abbrev s__law_greater : Stmt := topS 51
abbrev s__law_parted : Stmt := topS 52
abbrev s__law_turned : Stmt := topS 53
abbrev s__law_apart_right : Stmt := topS 54
abbrev s_law : Stmt := topS 55
def hCk0 : Ck := ⟨[.cls "Reach", .glo "Reach", .noat "Reach" "begin", .noat "Reach" "height", .noat "Reach" "most", .noat "Reach" "least", .free "abs", .free "all", .free "bool", .free "divmod", .free "int", .free "isinstance", .free "len", .free "list", .free "max", .free "min", .free "range", .free "tuple", .free "zip", .glo "is_whole", .glo "common", .glo "is_number", .glo "number", .glo "whole", .glo "added", .glo "taken", .glo "parted", .glo "is_less", .glo "is_pair", .glo "is_tube", .glo "is_tied", .glo "check_tied", .glo "are_numbers", .glo "check_plain_row", .glo "steps", .glo "slope_to", .meth "Reach" "__init__", .mkr "Reach", .meth "Reach" "crossed", .meth "Reach" "take", .glo "touch_behind", .glo "drawn_to", .glo "drawn", .glo "cord", .glo "is_job", .glo "is_jobs", .glo "check_jobs", .glo "job_tube", .glo "speeds", .glo "parts", .glo "_law_mixed", .glo "_law_pack", .glo "_law_take", .glo "_law_low", .glo "_law_less_by"],
  [He.dfd ("is_whole", none) "is_whole" "is_whole" s_is_whole,
  He.dfd ("common", none) "common" "common" s_common,
  He.dfd ("is_number", none) "is_number" "is_number" s_is_number,
  He.dfd ("number", none) "number" "number" s_number,
  He.dfd ("whole", none) "whole" "whole" s_whole,
  He.dfd ("added", none) "added" "added" s_added,
  He.dfd ("taken", none) "taken" "taken" s_taken,
  He.dfd ("parted", none) "parted" "parted" s_parted,
  He.dfd ("is_less", none) "is_less" "is_less" s_is_less,
  He.dfd ("is_pair", none) "is_pair" "is_pair" s_is_pair,
  He.dfd ("is_tube", none) "is_tube" "is_tube" s_is_tube,
  He.dfd ("is_tied", none) "is_tied" "is_tied" s_is_tied,
  He.dfd ("check_tied", none) "check_tied" "check_tied" s_check_tied,
  He.dfd ("are_numbers", none) "are_numbers" "are_numbers" s_are_numbers_tubes,
  He.dfd ("check_plain_row", none) "check_plain_row" "check_plain_row" s_check_plain_row,
  He.dfd ("steps", none) "steps" "steps" s_steps,
  He.dfd ("slope_to", none) "slope_to" "slope_to" s_slope_to,
  He.dfd ("Reach", some "__init__") "__init__" "Reach.__init__" s_Reach___init__,
  He.dfd ("Reach", some "crossed") "crossed" "Reach.crossed" s_Reach_crossed,
  He.dfd ("Reach", some "take") "take" "Reach.take" s_Reach_take,
  He.dfd ("touch_behind", none) "touch_behind" "touch_behind" s_touch_behind,
  He.dfd ("drawn_to", none) "drawn_to" "drawn_to" s_drawn_to,
  He.dfd ("drawn", none) "drawn" "drawn" s_drawn,
  He.dfd ("cord", none) "cord" "cord" s_cord,
  He.dfd ("is_job", none) "is_job" "is_job" s_is_job_jobs,
  He.dfd ("is_jobs", none) "is_jobs" "is_jobs" s_is_jobs,
  He.dfd ("check_jobs", none) "check_jobs" "check_jobs" s_check_jobs,
  He.dfd ("job_tube", none) "job_tube" "job_tube" s_job_tube,
  He.dfd ("speeds", none) "speeds" "speeds" s_speeds,
  He.dfd ("parts", none) "parts" "parts" s_parts,
  He.dfd ("_law_mixed", none) "_law_mixed" "_law_mixed" s__law_mixed,
  He.dfd ("_law_pack", none) "_law_pack" "_law_pack" s__law_pack,
  He.dfd ("_law_take", none) "_law_take" "_law_take" s__law_take,
  He.dfd ("_law_low", none) "_law_low" "_law_low" s__law_low,
  He.dfd ("_law_less_by", none) "_law_less_by" "_law_less_by" s__law_less_by],
  []⟩
def hCk1 : Ck := ⟨[.glo "_law_by", .glo "_law_jobs", .glo "_law_later", .glo "_law_greater", .glo "_law_parted", .glo "_law_turned", .glo "_law_apart_right", .glo "law"],
  [He.dfd ("_law_by", none) "_law_by" "_law_by" s__law_by,
  He.dfd ("_law_jobs", none) "_law_jobs" "_law_jobs" s__law_jobs,
  He.dfd ("_law_later", none) "_law_later" "_law_later" s__law_later,
  He.dfd ("_law_greater", none) "_law_greater" "_law_greater" s__law_greater,
  He.dfd ("_law_parted", none) "_law_parted" "_law_parted" s__law_parted,
  He.dfd ("_law_turned", none) "_law_turned" "_law_turned" s__law_turned,
  He.dfd ("_law_apart_right", none) "_law_apart_right" "_law_apart_right" s__law_apart_right,
  He.dfd ("law", none) "law" "law" s_law],
  [("LAST_HOUR", fun _ => k_LAST_HOUR), ("MOST_JOBS", fun _ => k_MOST_JOBS_jobs), ("MOST_PLACES", fun _ => k_MOST_PLACES_tubes), ("NOUGHT", fun _ => k_NOUGHT)]⟩
def hCks : List Ck := [hCk0, hCk1]
end Gn
namespace Gn
open PySem PySem.Spec PyProof.Rows L2 DL
abbrev hR : PySem.W.OpenRow := PySem.W.OpenLaw.row PySem.Challenge.rw_levelcord_k68_whole_jobs_moved_and_joine
def hNames0 : List PySem.Str := ["CordError", "NoNumber", "NoTube", "NoRow", "NoJobs", "NOUGHT", "is_whole", "common", "is_number", "number", "whole", "added", "taken", "parted", "is_less", "MOST_PLACES", "is_pair", "is_tube", "is_tied", "check_tied", "are_numbers", "check_plain_row", "steps", "slope_to", "Reach", "touch_behind", "drawn_to", "drawn", "cord", "MOST_JOBS"]
def hNames1 : List PySem.Str := ["LAST_HOUR", "is_job", "is_jobs", "check_jobs", "job_tube", "speeds", "parts", "_law_mixed", "_law_pack", "_law_take", "_law_low", "_law_less_by", "_law_by", "_law_jobs", "_law_later", "_law_greater", "_law_parted", "_law_turned", "_law_apart_right"]
def hNames : List PySem.Str := hNames0 ++ hNames1
set_option maxHeartbeats 0 in
theorem hRun0 (w : World) : HandSHeadRun.RunEq hR (PySem.W.view hR.prog [55]) PySem.W.Hook.none (fun _ => ()) 20000 hNames w := by
  intro os
  kernel_rfl
set_option maxHeartbeats 0 in
theorem hLook0 : CkRun hR 20000 hCk0 := by
  intro w os
  kernel_rfl
set_option maxHeartbeats 0 in
theorem hLook1 : CkRun hR 20000 hCk1 := by
  intro w os
  kernel_rfl
theorem hRun (w : World) : HandSHeadRun.RunEq hR (PySem.W.view hR.prog [55]) (hookX hCks) (obX hCks) 20000 hNames w := by
  refine runs_all hRun0 (fun q hq => ?_) w
  simp only [hCks, List.mem_cons, List.not_mem_nil, or_false] at hq
  rcases hq with rfl | rfl
  · exact hLook0
  · exact hLook1
end Gn
/-! DL 1: plain data D, what represents it, own things in slots, the world of a running def. -/
namespace DL
open PySem PySem.Spec PyProof.Rows L2

/-- what a slot holds: nothing known, plain data, a list of its own, an instance of its own -/
inductive O where
  | un | val (d : D) | lst (xs : List D) | obj (c : Nat) (fs : List (Str × O)) | dct (xs : List (Key × D))

abbrev S := List O

structure Cc where
  K : PySem.W.Frag
  cm : Nat → Addr

mutual
inductive Rep (K : PySem.W.Frag) (G : Hp) : V → D → Prop
  | non : Rep K G .non .non
  | bl (b : Bool) : Rep K G (.bl b) (.bl b)
  | int (i : Int) : Rep K G (.int i) (.int i)
  | str (x : Str) : Rep K G (.str x) (.str x)
  | ref (a : Addr) : Rep K G (.ref a) (.ref a)
  | tup {a : Addr} {vs : List V} {xs : List D} : SqT K G a vs → Reps K G vs xs → Rep K G (.ref a) (.tup xs)
  | lst {a : Addr} {vs : List V} {xs : List D} : SqL K G a vs → Reps K G vs xs → Rep K G (.ref a) (.lst xs)
inductive Reps (K : PySem.W.Frag) (G : Hp) : List V → List D → Prop
  | nil : Reps K G [] []
  | cons {v : V} {vs : List V} {d : D} {ds : List D} : Rep K G v d → Reps K G vs ds → Reps K G (v :: vs) (d :: ds)
end

section
variable {K : PySem.W.Frag} {G G' H H' : Hp} {v : V} {d : D} {a : Addr} {vs : List V} {ds : List D}
theorem Same.sqL (e : Same G G') (h : SqL K G a vs) : SqL K G' a vs := e.seq h
theorem Same.sqT (e : Same G G') (h : SqT K G a vs) : SqT K G' a vs := by
  rcases h with (h | ⟨o, h⟩) | h
  · exact .inl (.inl (e _ _ h))
  · exact .inl (.inr ⟨o, e _ _ h⟩)
  · exact .inr h
mutual
theorem Rep.mono (e : Same G G') : ∀ {v : V} {d : D}, Rep K G v d → Rep K G' v d
  | _, _, .non => .non
  | _, _, .bl b => .bl b
  | _, _, .int i => .int i
  | _, _, .str x => .str x
  | _, _, .ref a => .ref a
  | _, _, .tup h r => .tup (Same.sqT e h) (Reps.mono e r)
  | _, _, .lst h r => .lst (Same.sqL e h) (Reps.mono e r)
theorem Reps.mono (e : Same G G') : ∀ {vs : List V} {ds : List D}, Reps K G vs ds → Reps K G' vs ds
  | _, _, .nil => .nil
  | _, _, .cons h r => .cons (Rep.mono e h) (Reps.mono e r)
end
theorem Reps.length : ∀ {vs : List V} {ds : List D}, Reps K G vs ds → vs.length = ds.length
  | _, _, .nil => rfl
  | _, _, .cons _ r => by rw [List.length_cons, List.length_cons, Reps.length r]
theorem Reps.get : ∀ {vs : List V} {ds : List D} {i : Nat} {d : D}, Reps K G vs ds → ds[i]? = some d → ∃ v, vs[i]? = some v ∧ Rep K G v d
  | _, _, _, _, .nil, e => by simp at e
  | _, _, 0, d, .cons h _, e => by simp at e; subst e; exact ⟨_, rfl, h⟩
  | _, _, i + 1, d, .cons _ r, e => by
    obtain ⟨u, h1, h2⟩ := Reps.get (i := i) (d := d) r (by simpa using e)
    exact ⟨u, by simpa using h1, h2⟩
theorem Reps.getV : ∀ {vs : List V} {ds : List D} {i : Nat} {v : V}, Reps K G vs ds → vs[i]? = some v → ∃ d, ds[i]? = some d ∧ Rep K G v d
  | _, _, _, _, .nil, e => by simp at e
  | _, _, 0, d, .cons h _, e => by simp at e; subst e; exact ⟨_, rfl, h⟩
  | _, _, i + 1, d, .cons _ r, e => by
    obtain ⟨u, h1, h2⟩ := Reps.getV (i := i) (v := d) r (by simpa using e)
    exact ⟨u, by simpa using h1, h2⟩
theorem Reps.append : ∀ {vs ws : List V} {ds es : List D}, Reps K G vs ds → Reps K G ws es → Reps K G (vs ++ ws) (ds ++ es)
  | _, _, _, _, .nil, s => s
  | _, _, _, _, .cons r t, s => .cons r (Reps.append t s)
theorem Reps.take : ∀ {vs : List V} {ds : List D} (n : Nat), Reps K G vs ds → Reps K G (vs.take n) (ds.take n)
  | _, _, 0, _ => .nil
  | _, _, _ + 1, .nil => .nil
  | _, _, n + 1, .cons r t => .cons r (Reps.take n t)
theorem Reps.drop : ∀ {vs : List V} {ds : List D} (n : Nat), Reps K G vs ds → Reps K G (vs.drop n) (ds.drop n)
  | _, _, 0, r => r
  | _, _, _ + 1, .nil => .nil
  | _, _, n + 1, .cons _ t => Reps.drop n t
theorem Reps.set {v : V} {d : D} (r : Rep K G v d) : ∀ {vs : List V} {ds : List D} (i : Nat), Reps K G vs ds → Reps K G (vs.set i v) (ds.set i d)
  | _, _, _, .nil => .nil
  | _, _, 0, .cons _ t => .cons r t
  | _, _, i + 1, .cons q t => .cons q (Reps.set r i t)
theorem Reps.reverse : ∀ {vs : List V} {ds : List D}, Reps K G vs ds → Reps K G vs.reverse ds.reverse
  | _, _, .nil => .nil
  | _, _, .cons r t => by
    rw [List.reverse_cons, List.reverse_cons]
    exact (Reps.reverse t).append (.cons r .nil)
theorem Reps.eraseIdx : ∀ {vs : List V} {ds : List D} (i : Nat), Reps K G vs ds → Reps K G (vs.eraseIdx i) (ds.eraseIdx i)
  | _, _, _, .nil => .nil
  | _, _, 0, .cons _ t => t
  | _, _, i + 1, .cons q t => .cons q (Reps.eraseIdx i t)
theorem Reps.one (h : Rep K G v d) : Reps K G [v] [d] := .cons h .nil
end

/-- a dict's entries -/
inductive RepK (K : PySem.W.Frag) (G : Hp) : List (Key × V) → List (Key × D) → Prop
  | nil : RepK K G [] []
  | cons {k : Key} {v : V} {d : D} {kvs : List (Key × V)} {xs : List (Key × D)} : Rep K G v d → RepK K G kvs xs → RepK K G ((k, v) :: kvs) ((k, d) :: xs)
theorem RepK.mono {K : PySem.W.Frag} {G G' : Hp} (e : Same G G') : ∀ {kvs : List (Key × V)} {xs : List (Key × D)}, RepK K G kvs xs → RepK K G' kvs xs
  | _, _, .nil => .nil
  | _, _, .cons r t => .cons (r.mono e) (RepK.mono e t)
/-! ### own things -/
mutual
inductive Own (c : Cc) (H G : Hp) : V → O → List Addr → Prop
  | val {v : V} {d : D} : Rep c.K G v d → Own c H G v (.val d) []
  | lst {p : Addr} {vs : List V} {xs : List D} : H p = some (.lst vs) → Reps c.K G vs xs → Own c H G (.ref p) (.lst xs) [p]
  | dct {p : Addr} {kvs : List (Key × V)} {xs : List (Key × D)} : H p = some (.dK kvs) → RepK c.K G kvs xs → Own c H G (.ref p) (.dct xs) [p]
  | obj {p dx : Addr} {k : Nat} {vs : List (Str × V)} {fs : List (Str × O)} {fp : List Addr} : H p = some (.ins (c.cm k) dx vs) → H dx = some (.own p) → OwnF c H G vs fs fp → Own c H G (.ref p) (.obj k fs) (p :: dx :: fp)
inductive OwnF (c : Cc) (H G : Hp) : List (Str × V) → List (Str × O) → List Addr → Prop
  | nil : OwnF c H G [] [] []
  | cons {n : Str} {v : V} {o : O} {vs : List (Str × V)} {fs : List (Str × O)} {f1 f2 : List Addr} : Own c H G v o f1 → OwnF c H G vs fs f2 → OwnF c H G ((n, v) :: vs) ((n, o) :: fs) (f1 ++ f2)
end
inductive Slots (c : Cc) (H G : Hp) : List (Option V) → List O → List Addr → Prop
  | nil : Slots c H G [] [] []
  | un {x : Option V} {σ : List (Option V)} {s : S} {fp : List Addr} : Slots c H G σ s fp → Slots c H G (x :: σ) (.un :: s) fp
  | cons {v : V} {o : O} {σ : List (Option V)} {s : S} {f1 f2 : List Addr} : Own c H G v o f1 → Slots c H G σ s f2 → Slots c H G (some v :: σ) (o :: s) (f1 ++ f2)

section
variable {c : Cc} {H H' G G' : Hp}
mutual
theorem Own.stay (hg : Same G G') : ∀ {v : V} {o : O} {fp : List Addr}, Own c H G v o fp → (∀ a ∈ fp, H' a = H a) → Own c H' G' v o fp
  | _, _, _, .val r, _ => .val (r.mono hg)
  | _, _, _, .lst (p := p) e r, h => .lst ((h p (by simp)).trans e) (r.mono hg)
  | _, _, _, .dct (p := p) e r, h => .dct ((h p (by simp)).trans e) (r.mono hg)
  | _, _, _, .obj (p := p) (dx := dx) e1 e2 r, h => .obj ((h p (by simp)).trans e1) ((h dx (by simp)).trans e2) (OwnF.stay hg r fun a ha => h a (by simp [ha]))
theorem OwnF.stay (hg : Same G G') : ∀ {vs : List (Str × V)} {fs : List (Str × O)} {fp : List Addr}, OwnF c H G vs fs fp → (∀ a ∈ fp, H' a = H a) → OwnF c H' G' vs fs fp
  | _, _, _, .nil, _ => .nil
  | _, _, _, .cons r t, h => .cons (Own.stay hg r fun a ha => h a (by simp [ha])) (OwnF.stay hg t fun a ha => h a (by simp [ha]))
end
mutual
theorem Own.there : ∀ {v : V} {o : O} {fp : List Addr}, Own c H G v o fp → ∀ a ∈ fp, H a ≠ none
  | _, _, _, .val _, a, h => by simp at h
  | _, _, _, .lst e _, a, h => by
    simp at h; subst h; rw [e]; simp
  | _, _, _, .dct e _, a, h => by
    simp at h; subst h; rw [e]; simp
  | _, _, _, .obj e1 e2 r, a, h => by
    simp at h
    rcases h with rfl | rfl | h
    · rw [e1]; simp
    · rw [e2]; simp
    · exact OwnF.there r a h
theorem OwnF.there : ∀ {vs : List (Str × V)} {fs : List (Str × O)} {fp : List Addr}, OwnF c H G vs fs fp → ∀ a ∈ fp, H a ≠ none
  | _, _, _, .nil, a, h => by simp at h
  | _, _, _, .cons r t, a, h => by
    rcases List.mem_append.mp h with h | h
    · exact Own.there r a h
    · exact OwnF.there t a h
end
theorem Slots.stay (hg : Same G G') : ∀ {σ : List (Option V)} {s : S} {fp : List Addr}, Slots c H G σ s fp → (∀ a ∈ fp, H' a = H a) → Slots c H' G' σ s fp
  | _, _, _, .nil, _ => .nil
  | _, _, _, .un t, h => .un (Slots.stay hg t h)
  | _, _, _, .cons r t, h => .cons (Own.stay hg r fun a ha => h a (by simp [ha])) (Slots.stay hg t fun a ha => h a (by simp [ha]))
theorem Slots.length : ∀ {σ : List (Option V)} {s : S} {fp : List Addr}, Slots c H G σ s fp → σ.length = s.length
  | _, _, _, .nil => rfl
  | _, _, _, .un t => by rw [List.length_cons, List.length_cons, Slots.length t]
  | _, _, _, .cons _ t => by rw [List.length_cons, List.length_cons, Slots.length t]
theorem Slots.there : ∀ {σ : List (Option V)} {s : S} {fp : List Addr}, Slots c H G σ s fp → ∀ a ∈ fp, H a ≠ none
  | _, _, _, .nil, a, h => by simp at h
  | _, _, _, .un t, a, h => Slots.there t a h
  | _, _, _, .cons r t, a, h => by
    rcases List.mem_append.mp h with h | h
    · exact r.there a h
    · exact Slots.there t a h
/-- a slot with what it holds, and the rest -/
theorem Slots.split : ∀ {σ : List (Option V)} {s : S} {fp : List Addr} {i : Nat} {o : O}, Slots c H G σ s fp → s[i]? = some o → o ≠ .un →
    ∃ v f1 f2, σ[i]? = some (some v) ∧ Own c H G v o f1 ∧ fp.Perm (f1 ++ f2) ∧ ∀ (H' G' : Hp) (o' : O) (f1' : List Addr), Own c H' G' v o' f1' → (∀ a ∈ f2, H' a = H a) → Same G G' →
      ∃ fp', fp'.Perm (f1' ++ f2) ∧ Slots c H' G' σ (s.set i o') fp'
  | _, _, _, i, o, .nil, e, _ => by simp at e
  | _, _, _, 0, o, .un t, e, h => by simp at e; exact absurd e.symm h
  | _, _, _, i + 1, o, .un t, e, h => by
    obtain ⟨v, f1, f2, e1, w, p, k⟩ := Slots.split (i := i) t (by simpa using e) h
    refine ⟨v, f1, f2, by simpa using e1, w, p, fun H' G' o' f1' w' hh hg => ?_⟩
    obtain ⟨fp', p', t'⟩ := k H' G' o' f1' w' hh hg
    exact ⟨fp', p', by simpa using Slots.un t'⟩
  | _, _, _, 0, o, .cons (v := v) (f1 := f1) (f2 := f2) r t, e, h => by
    simp at e
    subst e
    refine ⟨v, f1, f2, rfl, r, List.Perm.refl _, fun H' G' o' f1' w' hh hg => ⟨f1' ++ f2, List.Perm.refl _, ?_⟩⟩
    simpa using Slots.cons w' (t.stay hg hh)
  | _, _, _, i + 1, o, .cons (v := v0) (o := o0) (f1 := g1) (f2 := g2) r t, e, h => by
    obtain ⟨v, f1, f2, e1, w, p, k⟩ := Slots.split (i := i) t (by simpa using e) h
    refine ⟨v, f1, g1 ++ f2, by simpa using e1, w, ?_, fun H' G' o' f1' w' hh hg => ?_⟩
    · refine (List.Perm.append_left g1 p).trans ?_
      rw [← List.append_assoc, ← List.append_assoc]
      exact List.Perm.append_right f2 List.perm_append_comm
    · obtain ⟨fp', p', t'⟩ := k H' G' o' f1' w' (fun a ha => hh a (by simp [ha])) hg
      refine ⟨g1 ++ fp', ?_, ?_⟩
      · refine (List.Perm.append_left g1 p').trans ?_
        rw [← List.append_assoc, ← List.append_assoc]
        exact List.Perm.append_right f2 List.perm_append_comm
      · simpa using Slots.cons (r.stay hg fun a ha => hh a (by simp [ha])) t'
/-- a slot is given another thing -/
theorem Slots.put : ∀ {σ : List (Option V)} {s : S} {fp : List Addr} {i : Nat}, Slots c H G σ s fp → i < s.length →
    ∃ f1 f2, fp.Perm (f1 ++ f2) ∧ ∀ (H' G' : Hp) (v' : V) (o' : O) (f1' : List Addr), Own c H' G' v' o' f1' → (∀ a ∈ f2, H' a = H a) → Same G G' →
      ∃ fp', fp'.Perm (f1' ++ f2) ∧ Slots c H' G' (σ.set i (some v')) (s.set i o') fp'
  | _, _, _, i, .nil, e => by simp at e
  | _, _, _, 0, .un (fp := fp) t, e => ⟨[], fp, List.Perm.refl _, fun H' G' v' o' f1' w' hh hg => ⟨f1' ++ fp, List.Perm.refl _, by simpa using Slots.cons w' (t.stay hg hh)⟩⟩
  | _, _, _, i + 1, .un t, e => by
    obtain ⟨f1, f2, p, k⟩ := Slots.put (i := i) t (by simpa using e)
    refine ⟨f1, f2, p, fun H' G' v' o' f1' w' hh hg => ?_⟩
    obtain ⟨fp', p', t'⟩ := k H' G' v' o' f1' w' hh hg
    exact ⟨fp', p', by simpa using Slots.un t'⟩
  | _, _, _, 0, .cons (f1 := f1) (f2 := f2) r t, e => ⟨f1, f2, List.Perm.refl _, fun H' G' v' o' f1' w' hh hg => ⟨f1' ++ f2, List.Perm.refl _, by simpa using Slots.cons w' (t.stay hg hh)⟩⟩
  | _, _, _, i + 1, .cons (v := v0) (o := o0) (f1 := g1) (f2 := g2) r t, e => by
    obtain ⟨f1, f2, p, k⟩ := Slots.put (i := i) t (by simpa using e)
    refine ⟨f1, g1 ++ f2, ?_, fun H' G' v' o' f1' w' hh hg => ?_⟩
    · refine (List.Perm.append_left g1 p).trans ?_
      rw [← List.append_assoc, ← List.append_assoc]
      exact List.Perm.append_right f2 List.perm_append_comm
    · obtain ⟨fp', p', t'⟩ := k H' G' v' o' f1' w' (fun a ha => hh a (by simp [ha])) hg
      refine ⟨g1 ++ fp', ?_, ?_⟩
      · refine (List.Perm.append_left g1 p').trans ?_
        rw [← List.append_assoc, ← List.append_assoc]
        exact List.Perm.append_right f2 List.perm_append_comm
      · simpa using Slots.cons (r.stay hg fun a ha => hh a (by simp [ha])) t'
/-- forgetting a slot -/
theorem Slots.forget : ∀ {σ : List (Option V)} {s : S} {fp : List Addr} (i : Nat) (x : Option V), Slots c H G σ s fp →
    ∃ f1 f2, fp.Perm (f1 ++ f2) ∧ Slots c H G (σ.set i x) (s.set i .un) f2
  | _, _, _, i, x, .nil => ⟨[], [], List.Perm.refl _, .nil⟩
  | _, _, _, 0, x, .un (fp := fp) t => ⟨[], fp, List.Perm.refl _, .un t⟩
  | _, _, _, i + 1, x, .un t => by
    obtain ⟨f1, f2, p, k⟩ := Slots.forget i x t
    exact ⟨f1, f2, p, .un k⟩
  | _, _, _, 0, x, .cons (f1 := f1) (f2 := f2) r t => ⟨f1, f2, List.Perm.refl _, .un t⟩
  | _, _, _, i + 1, x, .cons (v := v0) (o := o0) (f1 := g1) (f2 := g2) r t => by
    obtain ⟨f1, f2, p, k⟩ := Slots.forget i x t
    refine ⟨f1, g1 ++ f2, ?_, .cons r k⟩
    refine (List.Perm.append_left g1 p).trans ?_
    rw [← List.append_assoc, ← List.append_assoc]
    exact List.Perm.append_right f2 List.perm_append_comm
end

/-- a slot's thing taken out -/
theorem Slots.take {c : Cc} {H G : Hp} : ∀ {σ : List (Option V)} {s : S} {fp : List Addr} {i : Nat} {o : O}, Slots c H G σ s fp → s[i]? = some o → o ≠ .un →
    ∃ v f1 f2, σ[i]? = some (some v) ∧ Own c H G v o f1 ∧ fp.Perm (f1 ++ f2) ∧ Slots c H G σ (s.set i .un) f2
  | _, _, _, i, o, .nil, e, _ => by simp at e
  | _, _, _, 0, o, .un t, e, h => by simp at e; exact absurd e.symm h
  | _, _, _, i + 1, o, .un t, e, h => by
    obtain ⟨v, f1, f2, e1, w, p, k⟩ := Slots.take (i := i) t (by simpa using e) h
    exact ⟨v, f1, f2, by simpa using e1, w, p, by simpa using Slots.un k⟩
  | _, _, _, 0, o, .cons (v := v) (f1 := f1) (f2 := f2) r t, e, h => by
    simp at e
    subst e
    exact ⟨v, f1, f2, rfl, r, List.Perm.refl _, .un t⟩
  | _, _, _, i + 1, o, .cons (v := v0) (o := o0) (f1 := g1) (f2 := g2) r t, e, h => by
    obtain ⟨v, f1, f2, e1, w, p, k⟩ := Slots.take (i := i) t (by simpa using e) h
    refine ⟨v, f1, g1 ++ f2, by simpa using e1, w, ?_, .cons r k⟩
    refine (List.Perm.append_left g1 p).trans ?_
    rw [← List.append_assoc, ← List.append_assoc]
    exact List.Perm.append_right f2 List.perm_append_comm
/-- .. and put back -/
theorem Slots.back {c : Cc} {H G : Hp} {v : V} {o : O} {f1 : List Addr} (w : Own c H G v o f1) : ∀ {σ : List (Option V)} {s : S} {fp : List Addr} {i : Nat}, Slots c H G σ s fp → s[i]? = some .un → σ[i]? = some (some v) →
    ∃ fp', fp'.Perm (f1 ++ fp) ∧ Slots c H G σ (s.set i o) fp'
  | _, _, _, i, .nil, e, _ => by simp at e
  | _, _, _, 0, .un (fp := fp) t, _, e => by
    simp at e
    subst e
    exact ⟨f1 ++ fp, List.Perm.refl _, .cons w t⟩
  | _, _, _, i + 1, .un t, e, h => by
    obtain ⟨fp', p, k⟩ := Slots.back w (i := i) t (by simpa using e) (by simpa using h)
    exact ⟨fp', p, .un k⟩
  | _, _, _, 0, .cons r t, e, h => by
    simp at e h
    subst e
    cases r
  | _, _, _, i + 1, .cons (f1 := g1) (f2 := g2) r t, e, h => by
    obtain ⟨fp', p, k⟩ := Slots.back w (i := i) t (by simpa using e) (by simpa using h)
    refine ⟨g1 ++ fp', ?_, .cons r k⟩
    refine (List.Perm.append_left g1 p).trans ?_
    rw [← List.append_assoc, ← List.append_assoc]
    exact List.Perm.append_right _ List.perm_append_comm

/-! ### from one place of a running def to the next -/
/-- the frozen part G of the heap H, the own things at fp -/
structure Ok (H G : Hp) (fp : List Addr) : Prop where
  sub : Same G H
  own : ∀ a ∈ fp, G a = none
  nd : fp.Nodup
structure Ev (H G : Hp) (fp : List Addr) (H' G' : Hp) (fp' : List Addr) : Prop where
  gs : Same G G'
  sub : Same G' H'
  fresh : ∀ a, G a = none → G' a ≠ none → H a = none ∨ a ∈ fp
  frame : ∀ a o, H a = some o → a ∉ fp → H' a = some o
  live : ∀ a, H a ≠ none → H' a ≠ none
  own : ∀ a ∈ fp', G' a = none ∧ (a ∈ fp ∨ H a = none)
  nd : fp'.Nodup
/-- nothing that stood is changed; what is new may be frozen -/
structure Grow (H G H' G' : Hp) : Prop where
  hs : Same H H'
  gs : Same G G'
  sub : Same G' H'
  nw : ∀ a, H a ≠ none → G' a = G a

section
variable {c : Cc} {H H' H1 H2 G G' G1 G2 : Hp} {fp fp' fp1 fp2 f1 f2 : List Addr} {p : Addr} {o : HO} {σ : List (Option V)} {s : S}
theorem same_ne {G H : Hp} (e : Same G H) {a : Addr} (h : G a ≠ none) : H a ≠ none := fun z => h (e.free z)
theorem same_upd {H : Hp} {p : Addr} {o : HO} (h : H p = none) : Same H (upd H p o) := fun b x e => by
  rw [upd_ne (ne_of_none e h)]
  exact e
theorem Grow.refl (h : Same G H) : Grow H G H G := ⟨Same.refl _, Same.refl _, h, fun _ _ => rfl⟩
theorem Grow.trans (a : Grow H G H' G') (b : Grow H' G' H2 G2) : Grow H G H2 G2 :=
  ⟨a.hs.trans b.hs, a.gs.trans b.gs, b.sub, fun x hx => (b.nw x (same_ne a.hs hx)).trans (a.nw x hx)⟩
theorem Grow.alloc (h : Same G H) (hp : H p = none) : Grow H G (upd H p o) (upd G p o) := by
  have gp : G p = none := h.free hp
  refine ⟨same_upd hp, same_upd gp, fun b x e => ?_, fun a ha => ?_⟩
  · by_cases hb : b = p
    · subst hb; rw [upd_same] at e ⊢; exact e
    · rw [upd_ne hb] at e ⊢; exact h b x e
  · exact upd_ne fun z => ha (z ▸ hp)
theorem Grow.hid (h : Same G H) (hp : H p = none) : Grow H G (upd H p o) G := ⟨same_upd hp, Same.refl _, h.trans (same_upd hp), fun _ _ => rfl⟩
theorem Grow.keep (g : Grow H G H' G') {a : Addr} (h : H a ≠ none) : H' a = H a := by
  cases q : H a with
  | none => exact absurd q h
  | some o => exact g.hs a o q
theorem Slots.step (x : Slots c H G σ s fp) (g : Grow H G H' G') : Slots c H' G' σ s fp := x.stay g.gs fun a ha => g.keep (x.there a ha)
theorem Grow.ev (k : Ok H G fp) (x : Slots c H G σ s fp) (g : Grow H G H' G') : Ev H G fp H' G' fp where
  gs := g.gs
  sub := g.sub
  fresh := fun a h1 h2 => by
    by_cases ha : H a = none
    · exact .inl ha
    · rw [g.nw a ha] at h2
      exact absurd h1 h2
  frame := fun a o e _ => g.hs a o e
  live := fun a h => same_ne g.hs h
  own := fun a ha => ⟨(g.nw a (x.there a ha)).trans (k.own a ha), .inl ha⟩
  nd := k.nd
theorem Ev.ok (e : Ev H G fp H' G' fp') : Ok H' G' fp' := ⟨e.sub, fun a ha => (e.own a ha).1, e.nd⟩
theorem Ev.refl (k : Ok H G fp) : Ev H G fp H G fp := ⟨Same.refl _, k.sub, fun a h1 h2 => absurd h1 h2, fun _ _ e _ => e, fun _ h => h, fun a ha => ⟨k.own a ha, .inl ha⟩, k.nd⟩
/-- what was done with a part of the own things, beside the rest of them -/
theorem Ev.beside (k : Ok H G fp) (p : fp.Perm (f1 ++ f2)) (h2 : ∀ a ∈ f2, H a ≠ none) (e : Ev H G f1 H' G' fp1) : Ev H G fp H' G' (fp1 ++ f2) where
  gs := e.gs
  sub := e.sub
  fresh := fun a x y => (e.fresh a x y).imp id fun z => p.mem_iff.mpr (List.mem_append_left _ z)
  frame := fun a o x y => e.frame a o x fun z => y (p.mem_iff.mpr (List.mem_append_left _ z))
  live := e.live
  own := fun a ha => by
    rcases List.mem_append.mp ha with ha | ha
    · obtain ⟨x, y⟩ := e.own a ha
      exact ⟨x, y.imp (fun z => p.mem_iff.mpr (List.mem_append_left _ z)) id⟩
    · refine ⟨?_, .inl (p.mem_iff.mpr (List.mem_append_right _ ha))⟩
      have ga := k.own a (p.mem_iff.mpr (List.mem_append_right _ ha))
      cases q : G' a with
      | none => rfl
      | some o =>
        rcases e.fresh a ga (by rw [q]; simp) with z | z
        · exact absurd z (h2 a ha)
        · exact absurd rfl ((List.nodup_append.mp (p.nodup_iff.mp k.nd)).2.2 a z a ha)
  nd := by
    refine List.nodup_append.mpr ⟨e.nd, (List.nodup_append.mp (p.nodup_iff.mp k.nd)).2.1, fun a ha b hb z => ?_⟩
    subst z
    rcases (e.own a ha).2 with x | x
    · exact (List.nodup_append.mp (p.nodup_iff.mp k.nd)).2.2 a x a hb rfl
    · exact h2 a hb x
theorem Ev.trans (a : Ev H G fp H1 G1 fp1) (b : Ev H1 G1 fp1 H2 G2 fp2) : Ev H G fp H2 G2 fp2 where
  gs := a.gs.trans b.gs
  sub := b.sub
  fresh := fun x h1 h2 => by
    cases q : G1 x with
    | some o => exact a.fresh x h1 (by rw [q]; simp)
    | none =>
      rcases b.fresh x q h2 with z | z
      · left
        cases r : H x with
        | none => rfl
        | some o => exact absurd z (a.live x (by rw [r]; simp))
      · exact (a.own x z).2.symm
  frame := fun x o h1 h2 => b.frame x o (a.frame x o h1 h2) fun z => by
    rcases (a.own x z).2 with y | y
    · exact h2 y
    · rw [h1] at y; cases y
  live := fun x h => b.live x (a.live x h)
  own := fun x hx => by
    obtain ⟨h1, h2⟩ := b.own x hx
    refine ⟨h1, ?_⟩
    rcases h2 with h2 | h2
    · exact (a.own x h2).2
    · right
      cases r : H x with
      | none => rfl
      | some o => exact absurd h2 (a.live x (by rw [r]; simp))
  nd := b.nd
theorem Ev.grow (a : Ev H G fp H1 G1 fp1) (x : Slots c H1 G1 σ s fp1) (g : Grow H1 G1 H2 G2) : Ev H G fp H2 G2 fp1 := a.trans (g.ev a.ok x)
theorem Ev.perm (a : Ev H G fp H' G' fp') (p : fp1.Perm fp') : Ev H G fp H' G' fp1 := { a with own := fun x hx => a.own x (p.mem_iff.mp hx), nd := p.nodup_iff.mpr a.nd }
theorem Ev.less (a : Ev H G fp H' G' fp') (p : fp'.Perm (f1 ++ f2)) : Ev H G fp H' G' f2 :=
  { a with own := fun x hx => a.own x (p.mem_iff.mpr (List.mem_append_right _ hx)), nd := (List.nodup_append.mp (p.nodup_iff.mp a.nd)).2.1 }
theorem Ev.pure (x : Ev H G [] H' G' fp) : Grow H G H' G' where
  hs := fun a o e => x.frame a o e (by simp)
  gs := x.gs
  sub := x.sub
  nw := fun a ha => by
    cases q : G a with
    | some o => exact x.gs a o q
    | none =>
      cases r : G' a with
      | none => rfl
      | some o =>
        rcases x.fresh a q (by rw [r]; simp) with z | z
        · exact absurd z ha
        · simp at z
theorem Ok.perm (k : Ok H G fp) (p : fp'.Perm fp) : Ok H G fp' := ⟨k.sub, fun a ha => k.own a (p.mem_iff.mp ha), p.nodup_iff.mpr k.nd⟩
theorem Ok.left (k : Ok H G fp) (p : fp.Perm (f1 ++ f2)) : Ok H G f1 := ⟨k.sub, fun a ha => k.own a (p.mem_iff.mpr (List.mem_append_left _ ha)), (List.nodup_append.mp (p.nodup_iff.mp k.nd)).1⟩
theorem Ok.right (k : Ok H G fp) (p : fp.Perm (f1 ++ f2)) : Ok H G f2 := ⟨k.sub, fun a ha => k.own a (p.mem_iff.mpr (List.mem_append_right _ ha)), (List.nodup_append.mp (p.nodup_iff.mp k.nd)).2.1⟩
end
end DL
/-! DL 2: operations on plain data, by values. -/
namespace DL
open PySem PySem.Spec PyProof.Rows L2

theorem line_eq : (sizeLine : Nat) = 16777216 := PySem.sizeLine_eq
/-! ### equality -/
mutual
def toPy : D → PyData
  | .non => .none
  | .bl b => .bool b
  | .int i => .int i
  | .str x => .str x
  | .tup xs => .tuple (toPyL xs)
  | .lst xs => .list (toPyL xs)
  | .ref _ => .none
def toPyL : List D → List PyData
  | [] => []
  | x :: xs => toPy x :: toPyL xs
end
/-! no strange text, no reference, depth below n -/
mutual
def okD : Nat → D → Bool
  | _, .non => true
  | _, .bl _ => true
  | _, .int _ => true
  | _, .str x => PyData.strOk x
  | 0, .tup _ => false
  | 0, .lst _ => false
  | n + 1, .tup xs => okL n xs
  | n + 1, .lst xs => okL n xs
  | _, .ref _ => false
def okL : Nat → List D → Bool
  | _, [] => true
  | n, x :: xs => okD n x && okL n xs
end
mutual
theorem okD_lay : ∀ (n : Nat) (d : D), okD n d = true → (toPy d).canLay0 = true ∧ (toPy d).depth ≤ n
  | n, .non, _ => ⟨rfl, Nat.zero_le _⟩
  | n, .bl b, _ => ⟨rfl, Nat.zero_le _⟩
  | n, .int i, _ => ⟨rfl, Nat.zero_le _⟩
  | n, .str x, h => by
    cases n <;> exact ⟨h, Nat.zero_le _⟩
  | 0, .tup xs, h => nomatch h
  | 0, .lst xs, h => nomatch h
  | n + 1, .tup xs, h => by
    obtain ⟨h1, h2⟩ := okL_lay n xs h
    exact ⟨h1, Nat.succ_le_succ h2⟩
  | n + 1, .lst xs, h => by
    obtain ⟨h1, h2⟩ := okL_lay n xs h
    exact ⟨h1, Nat.succ_le_succ h2⟩
  | n, .ref a, h => by cases n <;> exact nomatch h
theorem okL_lay : ∀ (n : Nat) (ds : List D), okL n ds = true → PyData.canLayAll0 (toPyL ds) = true ∧ PyData.depthAll (toPyL ds) ≤ n
  | n, [], _ => ⟨rfl, Nat.zero_le _⟩
  | n, x :: xs, h => by
    obtain ⟨h1, h2⟩ := Bool.and_eq_true_iff.mp h
    obtain ⟨a1, a2⟩ := okD_lay n x h1
    obtain ⟨b1, b2⟩ := okL_lay n xs h2
    refine ⟨Bool.and_eq_true_iff.mpr ⟨a1, b1⟩, Nat.max_le.mpr ⟨a2, b2⟩⟩
end
mutual
theorem Rep.dp {K : PySem.W.Frag} {G : Hp} : ∀ {n : Nat} {v : V} {d : D}, okD n d = true → Rep K G v d → Dp K G v (toPy d)
  | _, _, _, _, .non => .non
  | _, _, _, _, .bl b => .bl b
  | _, _, _, _, .int i => .int i
  | _, _, _, _, .str x => .str x
  | n, _, .ref a, h, .ref _ => by cases n <;> exact nomatch h
  | 0, _, _, h, .tup _ _ => nomatch h
  | 0, _, _, h, .lst _ _ => nomatch h
  | n + 1, _, _, h, .tup e r => .tup e (Reps.dp (n := n) h r)
  | n + 1, _, _, h, .lst e r => .lst e (Reps.dp (n := n) h r)
theorem Reps.dp {K : PySem.W.Frag} {G : Hp} : ∀ {n : Nat} {vs : List V} {ds : List D}, okL n ds = true → Reps K G vs ds → DpAll K G vs (toPyL ds)
  | _, _, _, _, .nil => .nil
  | n, _, _, h, .cons r t => .cons (Rep.dp (n := n) (Bool.and_eq_true_iff.mp h).1 r) (Reps.dp (n := n) (Bool.and_eq_true_iff.mp h).2 t)
end
theorem okD_shaped {d : D} (h : okD 60 d = true) : SeqAt.shaped (toPy d) = true := by
  obtain ⟨h1, h2⟩ := okD_lay 60 d h
  exact Bool.and_eq_true_iff.mpr ⟨h1, decide_eq_true (by omega)⟩
/-- plain data as == tells it apart -/
def eqD (x y : D) : Bool := PyData.eqv (toPy x) (toPy y)
def dEq (x y : D) : Option D := if okD 60 x = true ∧ okD 60 y = true then some (.bl (eqD x y)) else none
def dNe (x y : D) : Option D := if okD 60 x = true ∧ okD 60 y = true then some (.bl (!eqD x y)) else none

/-! ### operations -/
def cap : Nat := 1000000
def dAdd : D → D → Option D
  | .int i, .int j => some (.int (i + j))
  | .str x, .str y => if x.length + y.length ≤ cap then some (.str (x ++ y)) else none
  | .tup xs, .tup ys => if xs.length + ys.length ≤ cap then some (.tup (xs ++ ys)) else none
  | _, _ => none
def dSub : D → D → Option D
  | .int i, .int j => some (.int (i - j))
  | _, _ => none
def dMul : D → D → Option D
  | .int i, .int j => if i.natAbs.log2 + j.natAbs.log2 < 100000000 then some (.int (i * j)) else none
  | .tup xs, .int k => if xs ≠ [] ∧ 2 ≤ k ∧ k ≤ 1000 ∧ xs.length ≤ 1000 then some (.tup (List.replicate k.toNat xs).flatten) else none
  | _, _ => none
def dFdiv : D → D → Option D
  | .int i, .int j => if j ≠ 0 ∧ j.natAbs.log2 < 9000 then some (.int (i.fdiv j)) else none
  | _, _ => none
def dMod : D → D → Option D
  | .int i, .int j => if j ≠ 0 then some (.int (i.fmod j)) else none
  | _, _ => none
def dPow : D → D → Option D
  | .int i, .int j => if 0 ≤ j ∧ j ≤ 1000000 ∧ i.natAbs < 2 ^ 64 then some (.int (i ^ j.toNat)) else none
  | _, _ => none
def dLt : D → D → Option D
  | .int i, .int j => some (.bl (decide (i < j)))
  | _, _ => none
def dLe : D → D → Option D
  | .int i, .int j => some (.bl (decide (i ≤ j)))
  | _, _ => none
def dGt : D → D → Option D
  | .int i, .int j => some (.bl (decide (j < i)))
  | _, _ => none
def dGe : D → D → Option D
  | .int i, .int j => some (.bl (decide (j ≤ i)))
  | _, _ => none
def dNeg : D → Option D
  | .int i => some (.int (-i))
  | _ => none
def dIx : D → D → Option D
  | .tup xs, .int i => atI xs i
  | .lst xs, .int i => atI xs i
  | .str x, .int i => if x.length ≤ cap then (atI x.cps.toList i).map fun k => .str ⟨#[k]⟩ else none
  | _, _ => none

def OpS (c : Cc) (r : R2) (f : D → D → Option D) : Prop :=
  ∀ ⦃H G : Hp⦄ ⦃x y : V⦄ ⦃dx dy dz : D⦄ (Q : VK), Same G H → Rep c.K G x dx → Rep c.K G y dy → f dx dy = some dz → (∀ v H' G', Grow H G H' G' → Rep c.K G' v dz → Q v H') → r x y H Q
def UnS (c : Cc) (r : V → Hp → VK → Prop) (f : D → Option D) : Prop :=
  ∀ ⦃H G : Hp⦄ ⦃x : V⦄ ⦃dx dz : D⦄ (Q : VK), Same G H → Rep c.K G x dx → f dx = some dz → (∀ v H' G', Grow H G H' G' → Rep c.K G' v dz → Q v H') → r x H Q
section
variable {c : Cc} {X : Cx}
theorem cap_line : cap ≤ sizeLine := by rw [line_eq]; decide
theorem cap_lt : cap < sizeLine := by rw [line_eq]; decide

theorem Rep.ints {K : PySem.W.Frag} {G : Hp} {x : V} {i : Int} (h : Rep K G x (.int i)) : x = .int i := by cases h; rfl
theorem opS_int {C : Int → Int → Prop} {g : Int → Int → V} {h : Int → Int → D} {f : D → D → Option D} (hf : ∀ dx dy dz, f dx dy = some dz → ∃ i j, dx = .int i ∧ dy = .int j ∧ C i j ∧ dz = h i j) (hr : ∀ K G i j, Rep K G (g i j) (h i j)) :
    OpS c (rI C g) f := fun H G x y dx dy dz Q e rx ry hz q => by
  obtain ⟨i, j, rfl, rfl, hc, rfl⟩ := hf dx dy dz hz
  exact ⟨i, j, rx.ints, ry.ints, hc, q _ _ _ (Grow.refl e) (hr _ _ _ _)⟩
theorem opS_int0 {g : Int → Int → V} {h : Int → Int → D} {f : D → D → Option D} (hf : ∀ dx dy dz, f dx dy = some dz → ∃ i j, dx = .int i ∧ dy = .int j ∧ dz = h i j) (hr : ∀ K G i j, Rep K G (g i j) (h i j)) :
    OpS c (rI0 g) f := fun H G x y dx dy dz Q e rx ry hz q => by
  obtain ⟨i, j, rfl, rfl, rfl⟩ := hf dx dy dz hz
  exact ⟨i, j, rx.ints, ry.ints, q _ _ _ (Grow.refl e) (hr _ _ _ _)⟩
theorem os_sub : OpS c (rI0 fun i j => .int (i - j)) dSub := opS_int0 (h := fun i j => .int (i - j)) (fun dx dy dz h => by
  cases dx <;> cases dy <;> simp [dSub] at h
  exact ⟨_, _, rfl, rfl, h.symm⟩) fun _ _ _ _ => .int _
theorem os_lt : OpS c (rI0 fun i j => .bl (decide (i < j))) dLt := opS_int0 (h := fun i j => .bl (decide (i < j))) (fun dx dy dz h => by
  cases dx <;> cases dy <;> simp [dLt] at h
  exact ⟨_, _, rfl, rfl, h.symm⟩) fun _ _ _ _ => .bl _
theorem os_le : OpS c (rI0 fun i j => .bl (decide (i ≤ j))) dLe := opS_int0 (h := fun i j => .bl (decide (i ≤ j))) (fun dx dy dz h => by
  cases dx <;> cases dy <;> simp [dLe] at h
  exact ⟨_, _, rfl, rfl, h.symm⟩) fun _ _ _ _ => .bl _
theorem os_gt : OpS c (rI0 fun i j => .bl (decide (j < i))) dGt := opS_int0 (h := fun i j => .bl (decide (j < i))) (fun dx dy dz h => by
  cases dx <;> cases dy <;> simp [dGt] at h
  exact ⟨_, _, rfl, rfl, h.symm⟩) fun _ _ _ _ => .bl _
theorem os_ge : OpS c (rI0 fun i j => .bl (decide (j ≤ i))) dGe := opS_int0 (h := fun i j => .bl (decide (j ≤ i))) (fun dx dy dz h => by
  cases dx <;> cases dy <;> simp [dGe] at h
  exact ⟨_, _, rfl, rfl, h.symm⟩) fun _ _ _ _ => .bl _
theorem os_mod : OpS c (rI (fun _ j => j ≠ 0) fun i j => .int (i.fmod j)) dMod := opS_int (h := fun i j => .int (i.fmod j)) (fun dx dy dz h => by
  cases dx <;> cases dy <;> simp [dMod] at h
  exact ⟨_, _, rfl, rfl, h.1, h.2.symm⟩) fun _ _ _ _ => .int _
theorem os_pow : OpS c (rI CPow fun i j => .int (i ^ j.toNat)) dPow := opS_int (h := fun i j => .int (i ^ j.toNat)) (fun dx dy dz h => by
  cases dx <;> cases dy <;> simp only [dPow] at h <;> try contradiction
  split at h
  · rename_i hc; cases h; exact ⟨_, _, rfl, rfl, hc, rfl⟩
  · exact nomatch h) fun _ _ _ _ => .int _
def CDivS (_ j : Int) : Prop := j ≠ 0 ∧ j.natAbs.log2 < 9000
theorem op_fdivS : OpR X (binaryOp .FloorDiv) (rI CDivS fun i j => .int (i.fdiv j)) := opI fun i j _ _ _ _ _ hc q => floordiv_int hc.1 q (.inl (PyProof.noPylong_of_log2 hc.2))
theorem os_fdiv : OpS c (rI CDivS fun i j => .int (i.fdiv j)) dFdiv := opS_int (h := fun i j => .int (i.fdiv j)) (fun dx dy dz h => by
  cases dx <;> cases dy <;> simp only [dFdiv] at h <;> try contradiction
  split at h
  · rename_i hc; cases h; exact ⟨_, _, rfl, rfl, hc, rfl⟩
  · exact nomatch h) fun _ _ _ _ => .int _

/-- either of two readings -/
theorem OpS.or {r r' : R2} {f : D → D → Option D} (h : ∀ ⦃H G : Hp⦄ ⦃x y : V⦄ ⦃dx dy dz : D⦄ (Q : VK), Same G H → Rep c.K G x dx → Rep c.K G y dy → f dx dy = some dz → (∀ v H' G', Grow H G H' G' → Rep c.K G' v dz → Q v H') → r x y H Q ∨ r' x y H Q) :
    OpS c (fun x y H Q => r x y H Q ∨ r' x y H Q) f := h
def rAddS : R2 := fun x y H Q => ∃ i j, x = .str i ∧ y = .str j ∧ i.length + j.length ≤ sizeLine ∧ Q (.str (i ++ j)) H
def rAddA (K : PySem.W.Frag) : R2 := fun x y H Q => rI0 (fun i j => .int (i + j)) x y H Q ∨ rAddS x y H Q ∨ rCatA K x y H Q
theorem op_addA : OpR X (binaryOp .Add) (rAddA X.K) := op_add.or (op_add_str.or op_catA)
theorem os_add : OpS c (rAddA c.K) dAdd := fun H G x y dx dy dz Q e rx ry hz q => by
  cases dx <;> cases dy <;> simp only [dAdd] at hz <;> try contradiction
  · cases hz
    exact .inl ⟨_, _, rx.ints, ry.ints, q _ _ _ (Grow.refl e) (.int _)⟩
  · split at hz
    · rename_i hc; cases hz
      cases rx; cases ry
      exact .inr (.inl ⟨_, _, rfl, rfl, Nat.le_trans hc cap_line, q _ _ _ (Grow.refl e) (.str _)⟩)
    · exact nomatch hz
  · split at hz
    · rename_i hc; cases hz
      cases rx with
      | tup t1 r1 =>
      cases ry with
      | tup t2 r2 =>
      have l1 := r1.length
      have l2 := r2.length
      refine .inr (.inr ⟨_, _, _, _, rfl, rfl, Same.sqT e t1, Same.sqT e t2, Nat.le_trans (by omega) cap_line, fun z => ?_, fun z1 z2 => ?_, fun z1 z2 p hp => ?_⟩)
      · subst z
        cases r1
        exact q _ _ _ (Grow.refl e) (by simpa using Rep.tup t2 r2)
      · subst z2
        cases r2
        exact q _ _ _ (Grow.refl e) (by simpa using Rep.tup t1 r1)
      · exact q _ _ _ (Grow.alloc e hp) (.tup (SqT.of upd_same) ((r1.append r2).mono (same_upd (e.free hp))))
    · exact nomatch hz
def CMulS (i j : Int) : Prop := i.natAbs.log2 + j.natAbs.log2 < 100000000
theorem CMulS.ok {i j : Int} (h : CMulS i j) : IntMulOk i j := by
  have b : ∀ x : Int, Builtin.Int.intBits x ≤ x.natAbs.log2 + 1 := fun x => by
    unfold Builtin.Int.intBits
    split <;> omega
  have h1 := b i
  have h2 := b j
  have h3 : i.natAbs.log2 + j.natAbs.log2 < 100000000 := h
  have e : bitsLine = 134217728 := by decide
  unfold IntMulOk
  intro z
  rw [Bool.and_eq_true] at z
  have z2 := z.2
  unfold Builtin.Int.intTooBig at z2
  have z3 := of_decide_eq_true z2
  rw [e] at z3
  omega
theorem op_mulS : OpR X (binaryOp .Mult) (rI CMulS fun i j => .int (i * j)) := opI fun _ _ _ _ _ _ _ hc q => mul_int q hc.ok
def rMulA (K : PySem.W.Frag) : R2 := fun x y H Q => rI CMulS (fun i j => .int (i * j)) x y H Q ∨ rRepT K x y H Q
theorem op_mulA : OpR X (binaryOp .Mult) (rMulA X.K) := op_mulS.or op_repT
theorem Reps.rep {K : PySem.W.Frag} {G : Hp} {vs : List V} {xs : List D} (r : Reps K G vs xs) : ∀ k : Nat, Reps K G (List.replicate k vs).flatten (List.replicate k xs).flatten
  | 0 => .nil
  | k + 1 => by
    rw [List.replicate_succ, List.replicate_succ, List.flatten_cons, List.flatten_cons]
    exact r.append (Reps.rep r k)
theorem os_mul : OpS c (rMulA c.K) dMul := fun H G x y dx dy dz Q e rx ry hz q => by
  cases dx <;> cases dy <;> simp only [dMul] at hz <;> try contradiction
  · split at hz
    · rename_i hc; cases hz
      exact .inl ⟨_, _, rx.ints, ry.ints, hc, q _ _ _ (Grow.refl e) (.int _)⟩
    · exact nomatch hz
  · split at hz
    · rename_i hc; cases hz
      cases rx with
      | tup t1 r1 =>
      obtain ⟨h1, h2, h3, h4⟩ := hc
      refine .inr ⟨_, _, _, rfl, ry.ints, Same.sqT e t1, fun z => h1 ?_, h2, h3, by rw [r1.length]; exact h4, fun p hp => ?_⟩
      · subst z; cases r1; rfl
      · exact q _ _ _ (Grow.alloc e hp) (.tup (SqT.of upd_same) ((r1.rep _).mono (same_upd (e.free hp))))
    · exact nomatch hz
theorem os_eq : OpS c (rEqD c.K) dEq := fun H G x y dx dy dz Q e rx ry hz q => by
  unfold dEq at hz
  split at hz
  · rename_i hc; cases hz
    exact ⟨_, _, Rep.dp hc.1 (rx.mono e), Rep.dp hc.2 (ry.mono e), okD_shaped hc.1, okD_shaped hc.2, q _ _ _ (Grow.refl e) (.bl _)⟩
  · exact nomatch hz
theorem os_ne : OpS c (rNeD c.K) dNe := fun H G x y dx dy dz Q e rx ry hz q => by
  unfold dNe at hz
  split at hz
  · rename_i hc; cases hz
    exact ⟨_, _, Rep.dp hc.1 (rx.mono e), Rep.dp hc.2 (ry.mono e), okD_shaped hc.1, okD_shaped hc.2, q _ _ _ (Grow.refl e) (.bl _)⟩
  · exact nomatch hz
theorem un_negS : UnS c (rU fun i => .int (-i)) dNeg := fun H G x dx dz Q e rx hz q => by
  cases dx <;> simp [dNeg] at hz
  subst hz
  exact ⟨_, rx.ints, q _ _ _ (Grow.refl e) (.int _)⟩
theorem ixN_len {K : PySem.W.Frag} {G : Hp} {vs : List V} {xs : List D} {i : Int} {d : D} (r : Reps K G vs xs) (h : atI xs i = some d) : ∃ v, atI vs i = some v ∧ Rep K G v d := by
  unfold atI at h ⊢
  rw [r.length]
  cases e : ixN xs.length i with
  | none => rw [e] at h; exact nomatch h
  | some j =>
    rw [e] at h
    exact r.get (i := j) h
theorem os_ix : OpS c (rIx c.K) dIx := fun H G x y dx dy dz Q e rx ry hz q => by
  cases dx <;> cases dy <;> simp only [dIx] at hz <;> try contradiction
  · rename_i z i
    split at hz
    · rename_i hc
      cases rx
      cases e2 : atI z.cps.toList i with
      | none => rw [e2] at hz; exact nomatch hz
      | some k =>
        rw [e2] at hz; cases hz
        exact .inr (.inr ⟨_, _, _, rfl, ry.ints, Nat.le_trans hc cap_line, e2, q _ _ _ (Grow.refl e) (.str _)⟩)
    · exact nomatch hz
  · cases rx with
    | tup t1 r1 =>
    obtain ⟨v, e2, r2⟩ := ixN_len r1 hz
    exact .inr (.inl ⟨_, _, _, _, rfl, ry.ints, Same.sqT e t1, e2, q _ _ _ (Grow.refl e) r2⟩)
  · cases rx with
    | lst t1 r1 =>
    obtain ⟨v, e2, r2⟩ := ixN_len r1 hz
    exact .inl ⟨_, _, _, _, rfl, ry.ints, Same.sqL e t1, e2, q _ _ _ (Grow.refl e) r2⟩
end
end DL
/-! DL 3: expressions: each gives plain data by a function of the slots. -/
namespace DL
open PySem PySem.Spec PyProof.Rows L2

abbrev EF := S → Option (D × S)
abbrev BF := S → Option (Bool × S)
abbrev AF := S → Option (List D × S)

section
variable (c : Cc)
/-- what is known behind: pure: nothing that stood is changed -/
abbrev Pure (b : Bool) (H G : Hp) (s : S) (fp : List Addr) (H' G' : Hp) (s' : S) (fp' : List Addr) : Prop := b = true → Grow H G H' G' ∧ s' = s
def tE (b : Bool) (f : EF) : TE := fun σ H Q => ∃ G s fp d s', Ok H G fp ∧ Slots c H G σ s fp ∧ f s = some (d, s') ∧
  ∀ v H' G' fp', Ev H G fp H' G' fp' → Slots c H' G' σ s' fp' → Rep c.K G' v d → Pure b H G s fp H' G' s' fp' → Q v H'
def tT (b : Bool) (f : BF) : TT := fun σ H Q => ∃ G s fp d s', Ok H G fp ∧ Slots c H G σ s fp ∧ f s = some (d, s') ∧
  ∀ H' G' fp', Ev H G fp H' G' fp' → Slots c H' G' σ s' fp' → Pure b H G s fp H' G' s' fp' → Q d H'
def tA (b : Bool) (f : AF) : TA := fun σ H Q => ∃ G s fp d s', Ok H G fp ∧ Slots c H G σ s fp ∧ f s = some (d, s') ∧
  ∀ vs H' G' fp', Ev H G fp H' G' fp' → Slots c H' G' σ s' fp' → Reps c.K G' vs d → Pure b H G s fp H' G' s' fp' → Q vs H'
def tOp' (b : Bool) (f : S → Option (Option Int × S)) : TO := fun σ H Q => ∃ G s fp d s', Ok H G fp ∧ Slots c H G σ s fp ∧ f s = some (d, s') ∧
  ∀ H' G' fp', Ev H G fp H' G' fp' → Slots c H' G' σ s' fp' → Pure b H G s fp H' G' s' fp' → Q d H'
end

theorem PE_imp {X : Cx} {e : Expr} {t t' : TE} (h : PE X e t) (k : ∀ σ H Q, t' σ H Q → t σ H Q) : PE X e t' := ⟨fun pins s σ H Q I q => h.run pins s σ H Q I (k σ H Q q)⟩
theorem PT_imp {X : Cx} {e : Expr} {t t' : TT} (h : PT X e t) (k : ∀ σ H Q, t' σ H Q → t σ H Q) : PT X e t' := ⟨fun pins s σ H Q I q => h.run pins s σ H Q I (k σ H Q q)⟩
theorem PW_imp {X : Cx} {e : Expr} {t t' : TT} (h : PW X e t) (k : ∀ σ H Q, t' σ H Q → t σ H Q) : PW X e t' := ⟨fun wh pins s σ H Q I q => h.run wh pins s σ H Q I (k σ H Q q)⟩
theorem PA_imp {X : Cx} {es : List Expr} {t t' : TA} (h : PA X es t) (k : ∀ σ H Q, t' σ H Q → t σ H Q) : PA X es t' := ⟨fun pos pins s σ H Q I q => h.run pos pins s σ H Q I (k σ H Q q)⟩
theorem PO_imp {X : Cx} {e : Option Expr} {t t' : TO} (h : PO X e t) (k : ∀ σ H Q, t' σ H Q → t σ H Q) : PO X e t' := ⟨fun pins s σ H Q I q => h.run pins s σ H Q I (k σ H Q q)⟩

/-! ### the functions -/
def eVar (i : Nat) : EF := fun s => match s[i]? with
  | some (.val d) => some (d, s)
  | _ => none
/-- a list of one's own becomes plain data for good -/
def eFrz (i : Nat) : EF := fun s => match s[i]? with
  | some (.lst xs) => some (.lst xs, s.set i (.val (.lst xs)))
  | some (.val d) => some (d, s)
  | _ => none
def eC (d : D) : EF := fun s => some (d, s)
def e1 (op : D → Option D) (f : EF) : EF := fun s => (f s).bind fun p => (op p.1).map fun z => (z, p.2)
def e2 (op : D → D → Option D) (f g : EF) : EF := fun s => (f s).bind fun p => (g p.2).bind fun q => (op p.1 q.1).map fun z => (z, q.2)
def aNil : AF := fun s => some ([], s)
def aCons (f : EF) (g : AF) : AF := fun s => (f s).bind fun p => (g p.2).map fun q => (p.1 :: q.1, q.2)
def eTup (f : AF) : EF := fun s => (f s).bind fun p => if p.1.length ≤ cap then some (.tup p.1, p.2) else none
def eLst (f : AF) : EF := fun s => (f s).bind fun p => if p.1.length ≤ cap then some (.lst p.1, p.2) else none
def truth : D → Option Bool
  | .non => some false
  | .bl b => some b
  | .int i => some (i != 0)
  | .str x => if x.length ≤ cap then some ((x.length : Int) != 0) else none
  | .tup xs => some (!xs.isEmpty)
  | .lst xs => some (!xs.isEmpty)
  | .ref _ => none
def bTst (f : EF) : BF := fun s => (f s).bind fun p => (truth p.1).map fun z => (z, p.2)
def bAnd (t u : BF) : BF := fun s => (t s).bind fun p => if p.1 = true then u p.2 else some (false, p.2)
def bOr (t u : BF) : BF := fun s => (t s).bind fun p => if p.1 = true then some (true, p.2) else u p.2
def bNot (t : BF) : BF := fun s => (t s).map fun p => (!p.1, p.2)
def eAnd (f g : EF) : EF := fun s => (f s).bind fun p => (truth p.1).bind fun k => if k = true then g p.2 else some p
def eOr (f g : EF) : EF := fun s => (f s).bind fun p => (truth p.1).bind fun k => if k = true then some p else g p.2
def eNot (f : EF) : EF := fun s => (f s).bind fun p => (truth p.1).map fun k => (.bl (!k), p.2)
def eIf (t : BF) (f g : EF) : EF := fun s => (t s).bind fun p => if p.1 = true then f p.2 else g p.2
def dIsN : D → Option D
  | .non => some (.bl true)
  | _ => some (.bl false)
def dNotN : D → Option D
  | .non => some (.bl false)
  | _ => some (.bl true)
/-- a < b < c -/
def eChain (op op' : D → D → Option D) (f g h : EF) : EF := fun s => (f s).bind fun p => (g p.2).bind fun q => (op p.1 q.1).bind fun z => match z with
  | .bl true => (h q.2).bind fun r => (op' q.1 r.1).map fun z' => (z', r.2)
  | .bl false => some (.bl false, q.2)
  | _ => none
def oNo : S → Option (Option Int × S) := fun s => some (none, s)
def oSome (f : EF) : S → Option (Option Int × S) := fun s => (f s).bind fun p => match p.1 with
  | .int i => some (some i, p.2)
  | _ => none
def cutD (xs : List D) (lo hi : Option Int) : List D := (xs.drop (HT.sIx xs.length 0 lo)).take (HT.sIx xs.length xs.length hi - HT.sIx xs.length 0 lo)
def dCut : D → Option Int → Option Int → Option D
  | .tup xs, lo, hi => some (.tup (cutD xs lo hi))
  | .lst xs, lo, hi => some (.lst (cutD xs lo hi))
  | .str x, lo, hi => if x.length ≤ cap then some (.str (cutS x lo hi)) else none
  | _, _, _ => none
def eCut (f : EF) (lo hi : S → Option (Option Int × S)) : EF := fun s => (f s).bind fun p => (lo p.2).bind fun q => (hi q.2).bind fun r => (dCut p.1 q.1 r.1).map fun z => (z, r.2)
/-- a def's function on plain data -/
def eCall (m : List D → Option D) (f : AF) : EF := fun s => (f s).bind fun p => (m p.1).map fun z => (z, p.2)

section
variable {c : Cc} {X : Cx} {a b : Expr} {e : Expr} {es rest : List Expr} {pos : Pos} {b1 b2 b3 : Bool} {f g h : EF} {t u : BF} {fa : AF}
variable {H H1 H2 G G1 G2 : Hp} {s s1 s2 : S} {fp fp1 fp2 : List Addr}
theorem Pure.and {H' G' : Hp} {s' : S} {fp' : List Addr} (p : Pure b1 H G s fp H1 G1 s1 fp1) (q : Pure b2 H1 G1 s1 fp1 H' G' s' fp') : Pure (b1 && b2) H G s fp H' G' s' fp' := fun h => by
  obtain ⟨h1, h2⟩ := Bool.and_eq_true_iff.mp h
  obtain ⟨g1, e1⟩ := p h1
  obtain ⟨g2, e3⟩ := q h2
  exact ⟨g1.trans g2, e3.trans e1⟩
theorem Pure.grow {H' G' : Hp} (p : Pure b1 H G s fp H1 G1 s1 fp1) (g : Grow H1 G1 H' G') : Pure b1 H G s fp H' G' s1 fp1 := fun h => by
  obtain ⟨g1, e1⟩ := p h
  exact ⟨g1.trans g, e1⟩
theorem Pure.here (k : Same G H) : Pure b1 H G s fp H G s fp := fun _ => ⟨Grow.refl k, rfl⟩

theorem ex_var (i : Nat) {x : Str} (hN : X.N[i]? = some x := by rfl) (hv : Vis X.env.scope x := by first | exact Or.inl rfl | exact Or.inr (Or.inl rfl) | exact Or.inr (Or.inr rfl)) (hd : (x == ("__debug__" : Str)) = false := by decide)
    (hcd : (x == ("__classdict__" : Str)) = false := by decide) : PE X (.Name x pos) (tE c true (eVar i)) := PE_imp (pe_var hN hv hd hcd) fun σ H Q ⟨G, s, fp, d, s', k, sl, hf, q⟩ => by
  unfold eVar at hf
  split at hf
  · rename_i d' e
    cases hf
    obtain ⟨v, f1, f2, h1, h2, _⟩ := sl.split e (by simp)
    cases h2 with
    | val r => exact ⟨v, h1, q v H G fp (Ev.refl k) sl r (Pure.here k.sub)⟩
  · exact nomatch hf
theorem ex_frz (i : Nat) {x : Str} (hN : X.N[i]? = some x := by rfl) (hv : Vis X.env.scope x := by first | exact Or.inl rfl | exact Or.inr (Or.inl rfl) | exact Or.inr (Or.inr rfl)) (hd : (x == ("__debug__" : Str)) = false := by decide)
    (hcd : (x == ("__classdict__" : Str)) = false := by decide) : PE X (.Name x pos) (tE c false (eFrz i)) := PE_imp (pe_var hN hv hd hcd) fun σ H Q ⟨G, s, fp, d, s', k, sl, hf, q⟩ => by
  unfold eFrz at hf
  split at hf
  · rename_i xs e
    cases hf
    obtain ⟨v, f1, f2, h1, h2, hp, hk⟩ := sl.split e (by simp)
    cases h2 with
    | @lst p vs _ hv r =>
      have gp : G p = none := k.own p (hp.mem_iff.mpr (by simp))
      have sg : Same G (upd G p (.lst vs)) := same_upd gp
      have rr : Rep c.K (upd G p (.lst vs)) (.ref p) (.lst xs) := .lst (SqL.of upd_same) (r.mono sg)
      obtain ⟨fp', p', sl'⟩ := hk H (upd G p (.lst vs)) (.val (.lst xs)) [] (.val rr) (fun _ _ => rfl) sg
      refine ⟨_, h1, q (.ref p) H (upd G p (.lst vs)) fp' ⟨sg, fun b o hb => ?_, fun x h3 h4 => ?_, fun _ _ z _ => z, fun _ z => z, fun x hx => ?_, ?_⟩ sl' rr (fun z => nomatch z)⟩
      · by_cases hbp : b = p
        · subst hbp; rw [upd_same] at hb; rw [← hb]; exact hv
        · rw [upd_ne hbp] at hb; exact k.sub b o hb
      · by_cases hbp : x = p
        · subst hbp; exact .inr (hp.mem_iff.mpr (by simp))
        · rw [upd_ne hbp] at h4; exact absurd h3 h4
      · have hx2 : x ∈ f2 := by simpa using p'.mem_iff.mp hx
        have hxp : x ≠ p := by
          have nd := List.nodup_append.mp (hp.nodup_iff.mp k.nd)
          exact fun z => nd.2.2 p (by simp) x hx2 z.symm
        exact ⟨by rw [upd_ne hxp]; exact k.own x (hp.mem_iff.mpr (List.mem_append_right _ hx2)), .inl (hp.mem_iff.mpr (List.mem_append_right _ hx2))⟩
      · exact p'.nodup_iff.mpr (by simpa using (List.nodup_append.mp (hp.nodup_iff.mp k.nd)).2.1)
  · rename_i d' e
    cases hf
    obtain ⟨v, f1, f2, h1, h2, _⟩ := sl.split e (by simp)
    cases h2 with
    | val r => exact ⟨v, h1, q v H G fp (Ev.refl k) sl r fun z => nomatch z⟩
  · exact nomatch hf
theorem ex_c {v : V} {d : D} (he : PE X e (tC v)) (hr : ∀ G, Rep c.K G v d) : PE X e (tE c true (eC d)) := PE_imp he fun σ H Q ⟨G, s, fp, d', s', k, sl, hf, q⟩ => by
  cases hf
  exact q v H G fp (Ev.refl k) sl (hr G) (Pure.here k.sub)
theorem ex_int {i j} : PE X (.Constant (.int i) j pos) (tE c true (eC (.int i))) := ex_c pe_int fun _ => .int i
theorem ex_bl {i j} : PE X (.Constant (.bool i) j pos) (tE c true (eC (.bl i))) := ex_c pe_bl fun _ => .bl i
theorem ex_str {i j} : PE X (.Constant (.str i) j pos) (tE c true (eC (.str i))) := ex_c pe_str fun _ => .str i
theorem ex_non {j} : PE X (.Constant .none j pos) (tE c true (eC .non)) := ex_c pe_non fun _ => .non
/-- two after another, by values -/
theorem op2 {r : R2} {op : D → D → Option D} (hr : OpS c r op) {σ : L2.St} {Q : VK} (q : tE c (b1 && b2) (e2 op f g) σ H Q) : tOp r (tE c b1 f) (tE c b2 g) σ H Q := by
  obtain ⟨G, s, fp, d, s', k, sl, hf, q⟩ := q
  unfold e2 at hf
  cases h1 : f s with
  | none => rw [h1] at hf; exact nomatch hf
  | some p =>
    obtain ⟨x, s1⟩ := p
    rw [h1] at hf
    cases h2 : g s1 with
    | none => simp [h2] at hf
    | some p2 =>
      obtain ⟨y, s2⟩ := p2
      simp only [Option.bind_some, h2] at hf
      cases h3 : op x y with
      | none => simp [h3] at hf
      | some z =>
        simp only [h3, Option.map_some, Option.some.injEq, Prod.mk.injEq] at hf
        obtain ⟨rfl, rfl⟩ := hf
        exact ⟨G, s, fp, x, s1, k, sl, h1, fun v H1 G1 fp1 E1 S1 r1 p1 => ⟨G1, s1, fp1, y, s2, E1.ok, S1, h2, fun u H2 G2 fp2 E2 S2 r2 p2 =>
          hr Q E2.sub (r1.mono E2.gs) r2 h3 fun v' H' G' gr r' => q v' H' G' fp2 ((E1.trans E2).grow S2 gr) (S2.step gr) r' ((p1.and p2).grow gr)⟩⟩
theorem op1 {r : V → Hp → VK → Prop} {op : D → Option D} (hr : UnS c r op) {σ : L2.St} {Q : VK} (q : tE c b1 (e1 op f) σ H Q) : tUn r (tE c b1 f) σ H Q := by
  obtain ⟨G, s, fp, d, s', k, sl, hf, q⟩ := q
  unfold e1 at hf
  cases h1 : f s with
  | none => rw [h1] at hf; exact nomatch hf
  | some p =>
    obtain ⟨x, s1⟩ := p
    simp only [h1, Option.bind_some] at hf
    cases h3 : op x with
    | none => simp [h3] at hf
    | some z =>
      simp only [h3, Option.map_some, Option.some.injEq, Prod.mk.injEq] at hf
      obtain ⟨rfl, rfl⟩ := hf
      exact ⟨G, s, fp, x, s1, k, sl, h1, fun v H1 G1 fp1 E1 S1 r1 p1 => hr Q E1.sub r1 h3 fun v' H' G' gr r' => q v' H' G' fp1 (E1.grow S1 gr) (S1.step gr) r' (p1.grow gr)⟩
theorem ex_op {o : Operator} {r : R2} {op : D → D → Option D} (ho : OpR X (binaryOp o) r) (hr : OpS c r op) (ha : PE X a (tE c b1 f)) (hb : PE X b (tE c b2 g)) : PE X (.BinOp a o b pos) (tE c (b1 && b2) (e2 op f g)) :=
  PE_imp (pe_op ho ha hb) fun _ _ _ q => op2 hr q
theorem ex_un {o : UnaryOp} {r : V → Hp → VK → Prop} {op : D → Option D} (ho : UnR X (unaryOp o) r) (hr : UnS c r op) (ha : PE X a (tE c b1 f)) : PE X (.UnaryOp o a pos) (tE c b1 (e1 op f)) :=
  PE_imp (pe_un ho ha) fun _ _ _ q => op1 hr q
theorem ex_cmp {o : CmpOp} {r : R2} {op : D → D → Option D} (ho : OpR X (compareOp o) r) (hr : OpS c r op) (ha : PE X a (tE c b1 f)) (hb : PE X b (tE c b2 g)) (hm : behindInMarks o b = false := by first | exact nomark _ | rfl) : PE X (.Compare a [o] [b] pos) (tE c (b1 && b2) (e2 op f g)) :=
  PE_imp (pe_cmpR ho ha hb hm) fun _ _ _ q => op2 hr q
theorem ex_ix {r : R2} {op : D → D → Option D} (ho : IxR X r) (hr : OpS c r op) (ha : PE X a (tE c b1 f)) (hb : PE X b (tE c b2 g)) (hs : PlainIx b := by exact fun _ _ => rfl) : PE X (.Subscript a b pos) (tE c (b1 && b2) (e2 op f g)) :=
  PE_imp (pe_ix ho ha hb hs) fun _ _ _ q => op2 hr q
theorem rep_isN {K : PySem.W.Frag} {G : Hp} {v : V} {d : D} (r : Rep K G v d) : dIsN d = some (.bl (decide (v = .non))) ∧ dNotN d = some (.bl (!decide (v = .non))) := by
  cases r <;> exact ⟨rfl, rfl⟩
theorem ex_isN {j pos'} (ha : PE X a (tE c b1 f)) : PE X (.Compare a [.Is] [.Constant .none j pos'] pos) (tE c b1 (e1 dIsN f)) :=
  PE_imp (pe_cmp (pc_isN ha)) fun σ H Q q => op1 (c := c) (op := dIsN) (r := fun x H Q => Q (.bl (decide (x = .non))) H) (fun H G x dx dz Q e rx hz q => q _ _ _ (Grow.refl e) (by
    rw [(rep_isN rx).1] at hz; cases hz; exact .bl _)) q
theorem ex_notN {j pos'} (ha : PE X a (tE c b1 f)) : PE X (.Compare a [.IsNot] [.Constant .none j pos'] pos) (tE c b1 (e1 dNotN f)) :=
  PE_imp (pe_cmp (pc_notN ha)) fun σ H Q q => op1 (c := c) (op := dNotN) (r := fun x H Q => Q (.bl (!decide (x = .non))) H) (fun H G x dx dz Q e rx hz q => q _ _ _ (Grow.refl e) (by
    rw [(rep_isN rx).2] at hz; cases hz; exact .bl _)) q
theorem xa_nil : PA X [] (tA c true aNil) := PA_imp pa_nil fun σ H Q ⟨G, s, fp, d, s', k, sl, hf, q⟩ => by
  cases hf
  exact q [] H G fp (Ev.refl k) sl .nil (Pure.here k.sub)
theorem xa_cons (he : PE X e (tE c b1 f)) (hr : PA X es (tA c b2 fa)) (hs : starEach (e :: es) X.env = (false, eval e X.env) :: starEach es X.env := by rfl) : PA X (e :: es) (tA c (b1 && b2) (aCons f fa)) :=
  PA_imp (pa_cons he hr hs) fun σ H Q ⟨G, s, fp, d, s', k, sl, hf, q⟩ => by
    unfold aCons at hf
    cases h1 : f s with
    | none => rw [h1] at hf; exact nomatch hf
    | some p =>
      obtain ⟨x, s1⟩ := p
      simp only [h1, Option.bind_some] at hf
      cases h2 : fa s1 with
      | none => simp [h2] at hf
      | some p2 =>
        obtain ⟨ys, s2⟩ := p2
        simp only [h2, Option.map_some, Option.some.injEq, Prod.mk.injEq] at hf
        obtain ⟨rfl, rfl⟩ := hf
        exact ⟨G, s, fp, x, s1, k, sl, h1, fun v H1 G1 fp1 E1 S1 r1 p1 => ⟨G1, s1, fp1, ys, s2, E1.ok, S1, h2, fun us H2 G2 fp2 E2 S2 r2 p2 =>
          q (v :: us) H2 G2 fp2 (E1.trans E2) S2 (.cons (r1.mono E2.gs) r2) (p1.and p2)⟩⟩
theorem ex_tup {x1} (h : PA X es (tA c b1 fa)) : PE X (.Tuple es x1 pos) (tE c b1 (eTup fa)) := PE_imp (pe_tup h) fun σ H Q ⟨G, s, fp, d, s', k, sl, hf, q⟩ => by
  unfold eTup at hf
  cases h1 : fa s with
  | none => rw [h1] at hf; exact nomatch hf
  | some p =>
    obtain ⟨x, s1⟩ := p
    simp only [h1, Option.bind_some] at hf
    split at hf
    · rename_i hc
      cases hf
      refine ⟨G, s, fp, x, _, k, sl, h1, fun vs H1 G1 fp1 E1 S1 r1 p1 => ⟨by rw [r1.length]; exact Nat.le_trans hc cap_line, fun p hp => ?_⟩⟩
      have gr := Grow.alloc (o := .tup vs) E1.sub hp
      exact q _ _ _ _ (E1.grow S1 gr) (S1.step gr) (.tup (SqT.of upd_same) (r1.mono gr.gs)) (p1.grow gr)
    · exact nomatch hf
theorem ex_lst (h : PA X es (tA c b1 fa)) : PE X (.List es pos) (tE c b1 (eLst fa)) := PE_imp (pe_lst h) fun σ H Q ⟨G, s, fp, d, s', k, sl, hf, q⟩ => by
  unfold eLst at hf
  cases h1 : fa s with
  | none => rw [h1] at hf; exact nomatch hf
  | some p =>
    obtain ⟨x, s1⟩ := p
    simp only [h1, Option.bind_some] at hf
    split at hf
    · rename_i hc
      cases hf
      refine ⟨G, s, fp, x, _, k, sl, h1, fun vs H1 G1 fp1 E1 S1 r1 p1 => ⟨by rw [r1.length]; exact Nat.le_trans hc cap_line, fun p hp => ?_⟩⟩
      have gr := Grow.alloc (o := .lst vs) E1.sub hp
      exact q _ _ _ _ (E1.grow S1 gr) (S1.step gr) (.lst (SqL.of upd_same) (r1.mono gr.gs)) (p1.grow gr)
    · exact nomatch hf

/-! ### truth, tests -/
theorem truth_ok {K : PySem.W.Frag} {G H : Hp} {v : V} {d : D} {k : Bool} (e : Same G H) (r : Rep K G v d) (h : truth d = some k) : TruV K v H k := by
  cases r with
  | non => cases h; rfl
  | bl b => cases h; rfl
  | int i => cases h; rfl
  | str x =>
    simp only [truth] at h
    split at h
    · cases h; exact ⟨Nat.le_trans (by assumption) cap_line, rfl⟩
    · exact nomatch h
  | ref a => exact nomatch h
  | tup t1 r1 =>
    cases h
    refine .inr (.inl ⟨_, Same.sqT e t1, ?_⟩)
    cases r1 <;> rfl
  | lst t1 r1 =>
    cases h
    refine .inl ⟨_, Same.sqL e t1, ?_⟩
    cases r1 <;> rfl
theorem tst_ok {σ : L2.St} {Q : Bool → Hp → Prop} (q : tT c b1 (bTst f) σ H Q) : tE c b1 f σ H fun x H' => ∃ k, TruV c.K x H' k ∧ Q k H' := by
  obtain ⟨G, s, fp, d, s', k, sl, hf, q⟩ := q
  unfold bTst at hf
  cases h1 : f s with
  | none => rw [h1] at hf; exact nomatch hf
  | some p =>
    obtain ⟨x, s1⟩ := p
    simp only [h1, Option.bind_some] at hf
    cases h2 : truth x with
    | none => simp [h2] at hf
    | some z =>
      simp only [h2, Option.map_some, Option.some.injEq, Prod.mk.injEq] at hf
      obtain ⟨rfl, rfl⟩ := hf
      exact ⟨G, s, fp, x, s1, k, sl, h1, fun v H1 G1 fp1 E1 S1 r1 p1 => ⟨z, truth_ok E1.sub r1 h2, q H1 G1 fp1 E1 S1 p1⟩⟩
theorem tstB_ok {σ : L2.St} {Q : Bool → Hp → Prop} (hb : ∀ s x s', f s = some (x, s') → ∃ k, x = .bl k) (q : tT c b1 (bTst f) σ H Q) : tTest (tE c b1 f) σ H Q := by
  obtain ⟨G, s, fp, d, s', k, sl, hf, q⟩ := q
  unfold bTst at hf
  cases h1 : f s with
  | none => rw [h1] at hf; exact nomatch hf
  | some p =>
    obtain ⟨x, s1⟩ := p
    simp only [h1, Option.bind_some] at hf
    obtain ⟨k', rfl⟩ := hb _ _ _ h1
    simp only [truth, Option.map_some, Option.some.injEq, Prod.mk.injEq] at hf
    obtain ⟨rfl, rfl⟩ := hf
    exact ⟨G, s, fp, _, s1, k, sl, h1, fun v H1 G1 fp1 E1 S1 r1 p1 => ⟨k', by cases r1; rfl, q H1 G1 fp1 E1 S1 p1⟩⟩
/-- an expression of any kind as a test -/
theorem xt_val (ha : PE X a (tE c b1 f)) (hK : X.K = c.K := by rfl) (he : ∀ whole, isTrue a X.env whole = (do let v ← whole; standAt a.pos; holding [v] (truthy v)) := by exact fun _ => rfl) : PT X a (tT c b1 (bTst f)) :=
  PT_imp (pt_truth ha he) fun σ H Q q => by rw [hK]; exact tst_ok q
def BoolOp2 (op : D → D → Option D) : Prop := ∀ x y z, op x y = some z → ∃ k, z = .bl k
theorem e2_bool {op : D → D → Option D} (h : BoolOp2 op) : ∀ s x s', e2 op f g s = some (x, s') → ∃ k, x = .bl k := fun s x s' e => by
  unfold e2 at e
  cases h1 : f s with
  | none => rw [h1] at e; exact nomatch e
  | some p =>
    simp only [h1, Option.bind_some] at e
    cases h2 : g p.2 with
    | none => rw [h2] at e; exact nomatch e
    | some q =>
      simp only [h2, Option.bind_some] at e
      cases h3 : op p.1 q.1 with
      | none => rw [h3] at e; exact nomatch e
      | some z =>
        simp only [h3, Option.map_some, Option.some.injEq, Prod.mk.injEq] at e
        obtain ⟨rfl, _⟩ := e
        exact h _ _ _ h3
theorem bo_lt : BoolOp2 dLt := fun x y z h => by cases x <;> cases y <;> simp [dLt] at h; exact ⟨_, h.symm⟩
theorem bo_le : BoolOp2 dLe := fun x y z h => by cases x <;> cases y <;> simp [dLe] at h; exact ⟨_, h.symm⟩
theorem bo_gt : BoolOp2 dGt := fun x y z h => by cases x <;> cases y <;> simp [dGt] at h; exact ⟨_, h.symm⟩
theorem bo_ge : BoolOp2 dGe := fun x y z h => by cases x <;> cases y <;> simp [dGe] at h; exact ⟨_, h.symm⟩
theorem bo_eq : BoolOp2 dEq := fun x y z h => by
  unfold dEq at h
  split at h
  · cases h; exact ⟨_, rfl⟩
  · exact nomatch h
theorem bo_ne : BoolOp2 dNe := fun x y z h => by
  unfold dNe at h
  split at h
  · cases h; exact ⟨_, rfl⟩
  · exact nomatch h
theorem xt_cmp {o : CmpOp} {r : R2} {op : D → D → Option D} (ho : OpR X (compareOp o) r) (hr : OpS c r op) (hb2 : BoolOp2 op) (ha : PE X a (tE c b1 f)) (hb : PE X b (tE c b2 g)) (hm : behindInMarks o b = false := by first | exact nomark _ | rfl) :
    PT X (.Compare a [o] [b] pos) (tT c (b1 && b2) (bTst (e2 op f g))) := PT_imp (pt_cmpR ho ha hb hm) fun σ H Q q => by
  obtain ⟨G, s, fp, d, s', k, sl, hf, q⟩ := tstB_ok (e2_bool hb2) q
  exact op2 hr ⟨G, s, fp, d, s', k, sl, hf, q⟩
theorem e1_isN (op : D → Option D) (h : ∀ x z, op x = some z → ∃ k, z = .bl k) : ∀ s x s', e1 op f s = some (x, s') → ∃ k, x = .bl k := fun s x s' e => by
  unfold e1 at e
  cases h1 : f s with
  | none => rw [h1] at e; exact nomatch e
  | some p =>
    simp only [h1, Option.bind_some] at e
    cases h3 : op p.1 with
    | none => rw [h3] at e; exact nomatch e
    | some z =>
      simp only [h3, Option.map_some, Option.some.injEq, Prod.mk.injEq] at e
      obtain ⟨rfl, _⟩ := e
      exact h _ _ h3
theorem xt_isN {j pos'} (ha : PE X a (tE c b1 f)) : PT X (.Compare a [.Is] [.Constant .none j pos'] pos) (tT c b1 (bTst (e1 dIsN f))) :=
  PT_imp (pt_cmp (pc_isN ha)) fun σ H Q q => op1 (c := c) (op := dIsN) (r := fun x H Q => Q (.bl (decide (x = .non))) H) (fun H G x dx dz Q e rx hz q => q _ _ _ (Grow.refl e) (by
    rw [(rep_isN rx).1] at hz; cases hz; exact .bl _)) (tstB_ok (e1_isN dIsN fun x z h => by cases x <;> cases h <;> exact ⟨_, rfl⟩) q)
theorem xt_notN {j pos'} (ha : PE X a (tE c b1 f)) : PT X (.Compare a [.IsNot] [.Constant .none j pos'] pos) (tT c b1 (bTst (e1 dNotN f))) :=
  PT_imp (pt_cmp (pc_notN ha)) fun σ H Q q => op1 (c := c) (op := dNotN) (r := fun x H Q => Q (.bl (!decide (x = .non))) H) (fun H G x dx dz Q e rx hz q => q _ _ _ (Grow.refl e) (by
    rw [(rep_isN rx).2] at hz; cases hz; exact .bl _)) (tstB_ok (e1_isN dNotN fun x z h => by cases x <;> cases h <;> exact ⟨_, rfl⟩) q)
theorem xt_not (ha : PT X a (tT c b1 t)) : PT X (.UnaryOp .Not a pos) (tT c b1 (bNot t)) := PT_imp (pt_not ha) fun σ H Q ⟨G, s, fp, d, s', k, sl, hf, q⟩ => by
  unfold bNot at hf
  cases h1 : t s with
  | none => rw [h1] at hf; exact nomatch hf
  | some p =>
    obtain ⟨x, s1⟩ := p
    simp only [h1, Option.map_some, Option.some.injEq, Prod.mk.injEq] at hf
    obtain ⟨rfl, rfl⟩ := hf
    exact ⟨G, s, fp, x, s1, k, sl, h1, q⟩
theorem and_ok {σ : L2.St} {Q : Bool → Hp → Prop} (q : tT c (b1 && b2) (bAnd t u) σ H Q) : tAnd (tT c b1 t) (tT c b2 u) σ H Q := by
  obtain ⟨G, s, fp, d, s', k, sl, hf, q⟩ := q
  unfold bAnd at hf
  cases h1 : t s with
  | none => rw [h1] at hf; exact nomatch hf
  | some p =>
    obtain ⟨x, s1⟩ := p
    simp only [h1, Option.bind_some] at hf
    cases x with
    | true =>
      rw [if_pos rfl] at hf
      refine ⟨G, s, fp, _, _, k, sl, h1, fun H1 G1 fp1 E1 S1 p1 => ?_⟩
      show if true = true then _ else _
      rw [if_pos rfl]
      exact ⟨G1, s1, fp1, d, s', E1.ok, S1, hf, fun H2 G2 fp2 E2 S2 p2 => q H2 G2 fp2 (E1.trans E2) S2 (p1.and p2)⟩
    | false =>
      rw [if_neg Bool.false_ne_true] at hf
      cases hf
      refine ⟨G, s, fp, _, _, k, sl, h1, fun H1 G1 fp1 E1 S1 p1 => ?_⟩
      show if false = true then _ else _
      rw [if_neg Bool.false_ne_true]
      exact q H1 G1 fp1 E1 S1 fun hb => p1 (Bool.and_eq_true_iff.mp hb).1
theorem or_ok {σ : L2.St} {Q : Bool → Hp → Prop} (q : tT c (b1 && b2) (bOr t u) σ H Q) : tOr (tT c b1 t) (tT c b2 u) σ H Q := by
  obtain ⟨G, s, fp, d, s', k, sl, hf, q⟩ := q
  unfold bOr at hf
  cases h1 : t s with
  | none => rw [h1] at hf; exact nomatch hf
  | some p =>
    obtain ⟨x, s1⟩ := p
    simp only [h1, Option.bind_some] at hf
    cases x with
    | false =>
      rw [if_neg Bool.false_ne_true] at hf
      refine ⟨G, s, fp, _, _, k, sl, h1, fun H1 G1 fp1 E1 S1 p1 => ?_⟩
      show if false = true then _ else _
      rw [if_neg Bool.false_ne_true]
      exact ⟨G1, s1, fp1, d, s', E1.ok, S1, hf, fun H2 G2 fp2 E2 S2 p2 => q H2 G2 fp2 (E1.trans E2) S2 (p1.and p2)⟩
    | true =>
      rw [if_pos rfl] at hf
      cases hf
      refine ⟨G, s, fp, _, _, k, sl, h1, fun H1 G1 fp1 E1 S1 p1 => ?_⟩
      show if true = true then _ else _
      rw [if_pos rfl]
      exact q H1 G1 fp1 E1 S1 fun hb => p1 (Bool.and_eq_true_iff.mp hb).1
theorem xw_and1 (ha : PT X a (tT c b1 t)) : PW X (.BoolOp .And [a] pos) (tT c b1 t) := pw_and1 ha
theorem xw_or1 (ha : PT X a (tT c b1 t)) : PW X (.BoolOp .Or [a] pos) (tT c b1 t) := pw_or1 ha
theorem xw_and (ha : PT X a (tT c b1 t)) (hb : PW X (.BoolOp .And (b :: rest) pos) (tT c b2 u)) : PW X (.BoolOp .And (a :: b :: rest) pos) (tT c (b1 && b2) (bAnd t u)) := PW_imp (pw_and ha hb) fun _ _ _ q => and_ok q
theorem xw_or (ha : PT X a (tT c b1 t)) (hb : PW X (.BoolOp .Or (b :: rest) pos) (tT c b2 u)) : PW X (.BoolOp .Or (a :: b :: rest) pos) (tT c (b1 && b2) (bOr t u)) := PW_imp (pw_or ha hb) fun _ _ _ q => or_ok q

/-! ### and, or, not, if as values -/
theorem ex_one {op} (h : PE X a (tE c b1 f)) : PE X (.BoolOp op [a] pos) (tE c b1 f) := pe_one h
theorem ex_and (ha : PE X a (tE c b1 f)) (hb : PE X (.BoolOp .And (b :: rest) pos) (tE c b2 g)) (hK : X.K = c.K := by rfl) : PE X (.BoolOp .And (a :: b :: rest) pos) (tE c (b1 && b2) (eAnd f g)) :=
  PE_imp (pe_andT ha hb) fun σ H Q ⟨G, s, fp, d, s', k, sl, hf, q⟩ => by
    rw [hK]
    unfold eAnd at hf
    cases h1 : f s with
    | none => rw [h1] at hf; exact nomatch hf
    | some p =>
      obtain ⟨x, s1⟩ := p
      simp only [h1, Option.bind_some] at hf
      cases h2 : truth x with
      | none => simp [h2] at hf
      | some z =>
        simp only [h2, Option.bind_some] at hf
        refine ⟨G, s, fp, x, s1, k, sl, h1, fun v H1 G1 fp1 E1 S1 r1 p1 => ⟨z, truth_ok E1.sub r1 h2, ?_⟩⟩
        cases z with
        | true =>
          rw [if_pos rfl] at hf ⊢
          exact ⟨G1, s1, fp1, d, s', E1.ok, S1, hf, fun u H2 G2 fp2 E2 S2 r2 p2 => q u H2 G2 fp2 (E1.trans E2) S2 r2 (p1.and p2)⟩
        | false =>
          rw [if_neg Bool.false_ne_true] at hf ⊢
          cases hf
          exact q v H1 G1 fp1 E1 S1 r1 fun hb => p1 (Bool.and_eq_true_iff.mp hb).1
theorem ex_or (ha : PE X a (tE c b1 f)) (hb : PE X (.BoolOp .Or (b :: rest) pos) (tE c b2 g)) (hK : X.K = c.K := by rfl) : PE X (.BoolOp .Or (a :: b :: rest) pos) (tE c (b1 && b2) (eOr f g)) :=
  PE_imp (pe_orT ha hb) fun σ H Q ⟨G, s, fp, d, s', k, sl, hf, q⟩ => by
    rw [hK]
    unfold eOr at hf
    cases h1 : f s with
    | none => rw [h1] at hf; exact nomatch hf
    | some p =>
      obtain ⟨x, s1⟩ := p
      simp only [h1, Option.bind_some] at hf
      cases h2 : truth x with
      | none => simp [h2] at hf
      | some z =>
        simp only [h2, Option.bind_some] at hf
        refine ⟨G, s, fp, x, s1, k, sl, h1, fun v H1 G1 fp1 E1 S1 r1 p1 => ⟨z, truth_ok E1.sub r1 h2, ?_⟩⟩
        cases z with
        | false =>
          rw [if_neg Bool.false_ne_true] at hf ⊢
          exact ⟨G1, s1, fp1, d, s', E1.ok, S1, hf, fun u H2 G2 fp2 E2 S2 r2 p2 => q u H2 G2 fp2 (E1.trans E2) S2 r2 (p1.and p2)⟩
        | true =>
          rw [if_pos rfl] at hf ⊢
          cases hf
          exact q v H1 G1 fp1 E1 S1 r1 fun hb => p1 (Bool.and_eq_true_iff.mp hb).1
theorem ex_not (ha : PE X a (tE c b1 f)) (hK : X.K = c.K := by rfl) : PE X (.UnaryOp .Not a pos) (tE c b1 (eNot f)) := PE_imp (pe_notT ha) fun σ H Q ⟨G, s, fp, d, s', k, sl, hf, q⟩ => by
  rw [hK]
  unfold eNot at hf
  cases h1 : f s with
  | none => rw [h1] at hf; exact nomatch hf
  | some p =>
    obtain ⟨x, s1⟩ := p
    simp only [h1, Option.bind_some] at hf
    cases h2 : truth x with
    | none => simp [h2] at hf
    | some z =>
      simp only [h2, Option.map_some, Option.some.injEq, Prod.mk.injEq] at hf
      obtain ⟨rfl, rfl⟩ := hf
      exact ⟨G, s, fp, x, s1, k, sl, h1, fun v H1 G1 fp1 E1 S1 r1 p1 => ⟨z, truth_ok E1.sub r1 h2, q _ H1 G1 fp1 E1 S1 (.bl _) p1⟩⟩
theorem ex_if {cd : Expr} (hc : PT X cd (tT c b1 t)) (ha : PE X a (tE c b2 f)) (hb : PE X b (tE c b3 g)) : PE X (.IfExp cd a b pos) (tE c (b1 && (b2 && b3)) (eIf t f g)) := PE_imp (pe_ifExp hc ha hb) fun σ H Q ⟨G, s, fp, d, s', k, sl, hf, q⟩ => by
  unfold eIf at hf
  cases h1 : t s with
  | none => rw [h1] at hf; exact nomatch hf
  | some p =>
    obtain ⟨x, s1⟩ := p
    simp only [h1, Option.bind_some] at hf
    refine ⟨G, s, fp, _, s1, k, sl, h1, fun H1 G1 fp1 E1 S1 p1 => ?_⟩
    cases x with
    | true =>
      rw [if_pos rfl] at hf ⊢
      refine ⟨G1, s1, fp1, d, s', E1.ok, S1, hf, fun u H2 G2 fp2 E2 S2 r2 p2 => q u H2 G2 fp2 (E1.trans E2) S2 r2 fun hb => (p1.and p2) ?_⟩
      simp only [Bool.and_eq_true] at hb ⊢
      exact ⟨hb.1, hb.2.1⟩
    | false =>
      rw [if_neg Bool.false_ne_true] at hf ⊢
      refine ⟨G1, s1, fp1, d, s', E1.ok, S1, hf, fun u H2 G2 fp2 E2 S2 r2 p2 => q u H2 G2 fp2 (E1.trans E2) S2 r2 fun hb => (p1.and p2) ?_⟩
      simp only [Bool.and_eq_true] at hb ⊢
      exact ⟨hb.1, hb.2.2⟩

/-! ### chains of two comparisons -/
theorem chain_ok {r r' : R2} {op op' : D → D → Option D} (hr : OpS c r op) (hr' : OpS c r' op') (hb : BoolOp2 op) {σ : L2.St} {Q : VK} (q : tE c (b1 && (b2 && b3)) (eChain op op' f g h) σ H Q) : tChain r r' (tE c b1 f) (tE c b2 g) (tE c b3 h) σ H Q := by
  obtain ⟨G, s, fp, d, s', k, sl, hf, q⟩ := q
  unfold eChain at hf
  cases h1 : f s with
  | none => rw [h1] at hf; exact nomatch hf
  | some p =>
    obtain ⟨x, s1⟩ := p
    simp only [h1, Option.bind_some] at hf
    cases h2 : g s1 with
    | none => simp [h2] at hf
    | some p2 =>
      obtain ⟨y, s2⟩ := p2
      simp only [h2, Option.bind_some] at hf
      cases h3 : op x y with
      | none => simp [h3] at hf
      | some z =>
        simp only [h3, Option.bind_some] at hf
        obtain ⟨kk, rfl⟩ := hb _ _ _ h3
        refine ⟨G, s, fp, x, s1, k, sl, h1, fun v H1 G1 fp1 E1 S1 r1 p1 => ⟨G1, s1, fp1, y, s2, E1.ok, S1, h2, fun u H2 G2 fp2 E2 S2 r2 p2 =>
          hr _ E2.sub (r1.mono E2.gs) r2 h3 fun v' H3 G3 gr rr => ?_⟩⟩
        cases rr
        refine ⟨kk, rfl, ?_⟩
        have E3 := (E1.trans E2).grow S2 gr
        have S3 := S2.step gr
        have p3 := (p1.and p2).grow gr
        cases kk with
        | false =>
          rw [if_neg Bool.false_ne_true]
          cases hf
          exact q _ H3 G3 fp2 E3 S3 (.bl _) fun hb => p3 (by
            simp only [Bool.and_eq_true] at hb ⊢
            exact ⟨hb.1, hb.2.1⟩)
        | true =>
          rw [if_pos rfl]
          simp only at hf
          cases h4 : h s2 with
          | none => simp [h4] at hf
          | some p4 =>
            obtain ⟨w, s3⟩ := p4
            simp only [h4, Option.bind_some] at hf
            cases h5 : op' y w with
            | none => simp [h5] at hf
            | some z' =>
              simp only [h5, Option.map_some, Option.some.injEq, Prod.mk.injEq] at hf
              obtain ⟨rfl, rfl⟩ := hf
              refine ⟨G3, s2, fp2, w, s3, E3.ok, S3, h4, fun w' H4 G4 fp4 E4 S4 r4 p4 => hr' Q E4.sub ((r2.mono gr.gs).mono E4.gs) r4 h5 fun v5 H5 G5 gr5 r5 => ?_⟩
              exact q v5 H5 G5 fp4 ((E3.trans E4).grow S4 gr5) (S4.step gr5) r5 (((p3.and p4).grow gr5) ∘ fun hb => by
                simp only [Bool.and_eq_true] at hb ⊢
                exact ⟨⟨hb.1, hb.2.1⟩, hb.2.2⟩)
theorem eChain_bool {op op' : D → D → Option D} (hb : BoolOp2 op) (hb' : BoolOp2 op') : ∀ s x s', eChain op op' f g h s = some (x, s') → ∃ k, x = .bl k := fun s x s' e => by
  unfold eChain at e
  cases h1 : f s with
  | none => rw [h1] at e; exact nomatch e
  | some p =>
    simp only [h1, Option.bind_some] at e
    cases h2 : g p.2 with
    | none => rw [h2] at e; exact nomatch e
    | some q =>
      simp only [h2, Option.bind_some] at e
      cases h3 : op p.1 q.1 with
      | none => rw [h3] at e; exact nomatch e
      | some z =>
        simp only [h3, Option.bind_some] at e
        obtain ⟨kk, rfl⟩ := hb _ _ _ h3
        cases kk with
        | false => cases e; exact ⟨_, rfl⟩
        | true =>
          simp only at e
          cases h4 : h q.2 with
          | none => rw [h4] at e; exact nomatch e
          | some r =>
            simp only [h4, Option.bind_some] at e
            cases h5 : op' q.1 r.1 with
            | none => rw [h5] at e; exact nomatch e
            | some z' =>
              simp only [h5, Option.map_some, Option.some.injEq, Prod.mk.injEq] at e
              obtain ⟨rfl, _⟩ := e
              exact hb' _ _ _ h5
theorem ex_chain {cc : Expr} {o o' : CmpOp} {r r' : R2} {op op' : D → D → Option D} (ho : OpR X (compareOp o) r) (ho' : OpR X (compareOp o') r') (hr : OpS c r op) (hr' : OpS c r' op') (hb2 : BoolOp2 op) (ha : PE X a (tE c b1 f)) (hb : PE X b (tE c b2 g)) (hc : PE X cc (tE c b3 h))
    (hm : lastMarks [o, o'] [b, cc] = false := by with_unfolding_all rfl) : PE X (.Compare a [o, o'] [b, cc] pos) (tE c (b1 && (b2 && b3)) (eChain op op' f g h)) := PE_imp (pe_chain ho ho' ha hb hc hm) fun _ _ _ q => chain_ok hr hr' hb2 q
theorem xt_chain {cc : Expr} {o o' : CmpOp} {r r' : R2} {op op' : D → D → Option D} (ho : OpR X (compareOp o) r) (ho' : OpR X (compareOp o') r') (hr : OpS c r op) (hr' : OpS c r' op') (hb2 : BoolOp2 op) (hb2' : BoolOp2 op') (ha : PE X a (tE c b1 f)) (hb : PE X b (tE c b2 g)) (hc : PE X cc (tE c b3 h))
    (hm : lastMarks [o, o'] [b, cc] = false := by with_unfolding_all rfl) : PT X (.Compare a [o, o'] [b, cc] pos) (tT c (b1 && (b2 && b3)) (bTst (eChain op op' f g h))) := PT_imp (pt_chain ho ho' ha hb hc hm) fun σ H Q q => by
  obtain ⟨G, s, fp, d, s', k, sl, hf, q⟩ := tstB_ok (eChain_bool hb2 hb2') q
  exact chain_ok hr hr' hb2 ⟨G, s, fp, d, s', k, sl, hf, q⟩

/-! ### slices -/
theorem xo_no : PO X none (tOp' c true oNo) := PO_imp po_none fun σ H Q ⟨G, s, fp, d, s', k, sl, hf, q⟩ => by
  cases hf
  exact q H G fp (Ev.refl k) sl (Pure.here k.sub)
theorem xo_some (ha : PE X a (tE c b1 f)) : PO X (some a) (tOp' c b1 (oSome f)) := PO_imp (po_some ha) fun σ H Q ⟨G, s, fp, d, s', k, sl, hf, q⟩ => by
  unfold oSome at hf
  cases h1 : f s with
  | none => rw [h1] at hf; exact nomatch hf
  | some p =>
    obtain ⟨x, s1⟩ := p
    simp only [h1, Option.bind_some] at hf
    cases x with
    | int i =>
      cases hf
      exact ⟨G, s, fp, _, _, k, sl, h1, fun v H1 G1 fp1 E1 S1 r1 p1 => ⟨i, r1.ints, q H1 G1 fp1 E1 S1 p1⟩⟩
    | _ => exact nomatch hf
theorem Reps.cut {K : PySem.W.Frag} {G : Hp} {vs : List V} {xs : List D} (r : Reps K G vs xs) (lo hi : Option Int) : Reps K G (cutV vs lo hi) (cutD xs lo hi) := by
  unfold cutV cutD
  rw [r.length]
  exact (r.drop _).take _
def rCut (K : PySem.W.Frag) : V → Option Int → Option Int → Hp → VK → Prop := fun x lo hi H Q => rSlA K x lo hi H Q ∨ rSlL K x lo hi H Q ∨ rSlS x lo hi H Q
theorem sl_cut : SlR X (rCut X.K) := sl_tupA.or (sl_list.or sl_str)
theorem cut_ok {v : V} {d z : D} {lo hi : Option Int} {Q : VK} (e : Same G H) (r : Rep c.K G v d) (hz : dCut d lo hi = some z) (q : ∀ v' H' G', Grow H G H' G' → Rep c.K G' v' z → Q v' H') : rCut c.K v lo hi H Q := by
  cases r with
  | str x =>
    simp only [dCut] at hz
    split at hz
    · cases hz
      exact .inr (.inr ⟨_, rfl, Nat.le_trans (by assumption) cap_line, q _ _ _ (Grow.refl e) (.str _)⟩)
    · exact nomatch hz
  | @tup a vs xs t1 r1 =>
    cases hz
    refine .inl ⟨_, _, rfl, Same.sqT e t1, fun hw => ?_, fun hw p hp => ?_⟩
    · refine q _ _ _ (Grow.refl e) ?_
      have l := r1.length
      rw [l] at hw
      have e2 : cutD xs lo hi = xs := by
        unfold cutD
        rw [hw.1, hw.2, List.drop_zero, Nat.sub_zero]
        exact List.take_length
      rw [e2]
      exact .tup t1 r1
    · exact q _ _ _ (Grow.alloc e hp) (.tup (SqT.of upd_same) ((r1.cut lo hi).mono (same_upd (e.free hp))))
  | lst t1 r1 =>
    cases hz
    exact .inr (.inl ⟨_, _, rfl, Same.sqL e t1, fun p hp => q _ _ _ (Grow.alloc e hp) (.lst (SqL.of upd_same) ((r1.cut lo hi).mono (same_upd (e.free hp))))⟩)
  | _ => exact nomatch hz
theorem ex_cut {lo hi : Option Expr} {p2 : Pos} {fl fh : S → Option (Option Int × S)} (he : PE X a (tE c b1 f)) (hl : PO X lo (tOp' c b2 fl)) (hu : PO X hi (tOp' c b3 fh)) (hK : X.K = c.K := by rfl) : PE X (.Subscript a (.Slice lo hi none p2) pos) (tE c (b1 && (b2 && b3)) (eCut f fl fh)) :=
  PE_imp (pe_slice sl_cut he hl hu) fun σ H Q ⟨G, s, fp, d, s', k, sl, hf, q⟩ => by
    rw [hK]
    unfold eCut at hf
    cases h1 : f s with
    | none => rw [h1] at hf; exact nomatch hf
    | some p =>
      obtain ⟨x, s1⟩ := p
      simp only [h1, Option.bind_some] at hf
      cases h2 : fl s1 with
      | none => simp [h2] at hf
      | some p2 =>
        obtain ⟨y, s2⟩ := p2
        simp only [h2, Option.bind_some] at hf
        cases h3 : fh s2 with
        | none => simp [h3] at hf
        | some p3 =>
          obtain ⟨w, s3⟩ := p3
          simp only [h3, Option.bind_some] at hf
          cases h4 : dCut x y w with
          | none => simp [h4] at hf
          | some z =>
            simp only [h4, Option.map_some, Option.some.injEq, Prod.mk.injEq] at hf
            obtain ⟨rfl, rfl⟩ := hf
            refine ⟨G, s, fp, x, s1, k, sl, h1, fun v H1 G1 fp1 E1 S1 r1 p1 => ⟨G1, s1, fp1, y, s2, E1.ok, S1, h2, fun H2 G2 fp2 E2 S2 p2 => ⟨G2, s2, fp2, w, s3, E2.ok, S2, h3, fun H3 G3 fp3 E3 S3 p3 =>
              cut_ok E3.sub ((r1.mono E2.gs).mono E3.gs) h4 fun v' H' G' gr r' => q v' H' G' fp3 (((E1.trans E2).trans E3).grow S3 gr) (S3.step gr) r' (((p1.and (p2.and p3)).grow gr))⟩⟩⟩
end
end DL
/-! DL 4: statements, targets, loops, defs. -/
namespace DL
open PySem PySem.Spec PyProof.Rows L2

/-- what a def hands back: plain data, a new list that is nobody else's -/
inductive Rt where
  | d (x : D) | n (xs : List D) | k (xs : List (Key × D))
inductive Fl where
  | next (s : S) | ret (r : Rt) (s : S) | brk (s : S) | cont (s : S)
abbrev SF := S → Option Fl
abbrev GF := D → S → Option S
def PinEq (pins : List Nat) (σ σ' : L2.St) : Prop := σ'.length = σ.length ∧ ∀ i ∈ pins, σ'[i]? = σ[i]?
section
variable (c : Cc) (pins : List Nat)
def PostS (D : Ends) (H G : Hp) (fp : List Addr) (σ : L2.St) : Fl → Prop
  | .next s' => ∀ σ' H' G' fp', Ev H G fp H' G' fp' → Slots c H' G' σ' s' fp' → PinEq pins σ σ' → D.nx σ' H'
  | .ret (.d d) s' => ∀ v σ' H' G' fp', Ev H G fp H' G' fp' → Slots c H' G' σ' s' fp' → PinEq pins σ σ' → Rep c.K G' v d → D.rt v H'
  | .ret (.n xs) s' => ∀ p vs σ' H' G' fp', Ev H G fp H' G' (p :: fp') → Slots c H' G' σ' s' fp' → PinEq pins σ σ' → H' p = some (.lst vs) → Reps c.K G' vs xs → D.rt (.ref p) H'
  | .ret (.k xs) s' => ∀ p kvs σ' H' G' fp', Ev H G fp H' G' (p :: fp') → Slots c H' G' σ' s' fp' → PinEq pins σ σ' → H' p = some (.dK kvs) → RepK c.K G' kvs xs → D.rt (.ref p) H'
  | .brk s' => ∀ σ' H' G' fp', Ev H G fp H' G' fp' → Slots c H' G' σ' s' fp' → PinEq pins σ σ' → D.bk σ' H'
  | .cont s' => ∀ σ' H' G' fp', Ev H G fp H' G' fp' → Slots c H' G' σ' s' fp' → PinEq pins σ σ' → D.ct σ' H'
def tS (f : SF) : TS := fun D σ H => ∃ G s fp fl, Ok H G fp ∧ Slots c H G σ s fp ∧ f s = some fl ∧ PostS c pins D H G fp σ fl
def tG (bg : Bool) (g : GF) : TG := fun v σ H Q => ∃ G s fp d s', Ok H G fp ∧ Slots c H G σ s fp ∧ Rep c.K G v d ∧ g d s = some s' ∧
  ∀ σ' H' G' fp', Ev H G fp H' G' fp' → Slots c H' G' σ' s' fp' → PinEq pins σ σ' → (bg = true → Grow H G H' G') → Q σ' H'
def tGs (bg : Bool) (g : List D → S → Option S) : TGs := fun vs σ H Q => ∃ G s fp ds s', Ok H G fp ∧ Slots c H G σ s fp ∧ Reps c.K G vs ds ∧ g ds s = some s' ∧
  ∀ σ' H' G' fp', Ev H G fp H' G' fp' → Slots c H' G' σ' s' fp' → PinEq pins σ σ' → (bg = true → Grow H G H' G') → Q σ' H'
/-- a new list, nobody else's -/
def tN (f : AF) : TE := fun σ H Q => ∃ G s fp xs s', Ok H G fp ∧ Slots c H G σ s fp ∧ f s = some (xs, s') ∧
  ∀ p vs H' G' fp', Ev H G fp H' G' (p :: fp') → Slots c H' G' σ s' fp' → H' p = some (.lst vs) → Reps c.K G' vs xs → Q (.ref p) H'
end
theorem PS_imp {X : Cx} {e : Stmt} {t t' : TS} (h : PS X e t) (k : ∀ D σ H, t' D σ H → t D σ H) : PS X e t' := ⟨fun pins s σ H Q I q => h.run pins s σ H Q I (k Q σ H q)⟩
theorem PSs_imp {X : Cx} {e : List Stmt} {t t' : TS} (h : PSs X e t) (k : ∀ D σ H, t' D σ H → t D σ H) : PSs X e t' := ⟨fun pins s σ H Q I q => h.run pins s σ H Q I (k Q σ H q)⟩
theorem PG_imp {X : Cx} {e : Expr} {t t' : TG} (h : PG X e t) (k : ∀ v σ H Q, t' v σ H Q → t v σ H Q) : PG X e t' := ⟨fun pins s σ H v u Q I r q => h.run pins s σ H v u Q I r (k v σ H Q q)⟩
theorem PGs_imp {X : Cx} {e : List Expr} {t t' : TGs} (h : PGs X e t) (k : ∀ v σ H Q, t' v σ H Q → t v σ H Q) : PGs X e t' := ⟨fun pins s σ H v u Q I r q => h.run pins s σ H v u Q I r (k v σ H Q q)⟩

/-! ### the functions -/
def sNext : SF := fun s => some (.next s)
def sSeq (f g : SF) : SF := fun s => (f s).bind fun fl => match fl with
  | .next s' => g s'
  | fl => some fl
def sIf (t : BF) (f g : SF) : SF := fun s => (t s).bind fun p => if p.1 = true then f p.2 else g p.2
def sRet (f : EF) : SF := fun s => (f s).map fun p => .ret (.d p.1) p.2
def sRetN : SF := fun s => some (.ret (.d .non) s)
def sRetNew (f : AF) : SF := fun s => (f s).map fun p => .ret (.n p.1) p.2
def sBrk : SF := fun s => some (.brk s)
def sCont : SF := fun s => some (.cont s)
def sNever : SF := fun _ => none
def sDrop (f : EF) : SF := fun s => (f s).map fun p => .next p.2
def sAsg (f : EF) (g : GF) : SF := fun s => (f s).bind fun p => (g p.1 p.2).map .next
def gN (i : Nat) : GF := fun d s => if i < s.length then some (s.set i (.val d)) else none
def gTup (g : List D → S → Option S) : GF := fun d s => match d with
  | .tup xs => g xs s
  | _ => none
def gsNil : List D → S → Option S := fun ds s => match ds with
  | [] => some s
  | _ => none
def gsCons (g : GF) (r : List D → S → Option S) : List D → S → Option S := fun ds s => match ds with
  | d :: ds => (g d s).bind (r ds)
  | [] => none
/-- a[i] = d, a a list of one's own in slot k -/
def gIx (k : Nat) (fi : EF) : GF := fun d s => match s[k]? with
  | some (.lst _) => (fi s).bind fun p => match p.1, p.2[k]? with
    | .int i, some (.lst xs) => (ixN xs.length i).map fun j => p.2.set k (.lst (xs.set j d))
    | _, _ => none
  | _ => none
def sPar (i j : Nat) (fa : AF) : SF := fun s => (fa s).bind fun p => match p.1 with
  | [v, w] => if i < p.2.length ∧ j < p.2.length then some (.next ((p.2.set i (.val v)).set j (.val w))) else none
  | _ => none
/-- x = a new list of one's own -/
def sNew (i : Nat) (f : AF) : SF := fun s => (f s).bind fun p => if i < p.2.length then some (.next (p.2.set i (.lst p.1))) else none
def nLst (fa : AF) : AF := fun s => (fa s).bind fun p => if p.1.length ≤ cap then some p else none
def sApp (i : Nat) (f : EF) : SF := fun s => match s[i]? with
  | some (.lst _) => (f s).bind fun p => match p.2[i]? with
    | some (.lst xs) => if xs.length < cap then some (.next (p.2.set i (.lst (xs ++ [p.1])))) else none
    | _ => none
  | _ => none
def forD (g : GF) (fb : SF) : List D → SF
  | [], s => some (.next s)
  | x :: xs, s => (g x s).bind fun s1 => (fb s1).bind fun fl => match fl with
    | .next s2 => forD g fb xs s2
    | .cont s2 => forD g fb xs s2
    | .brk s2 => some (.next s2)
    | .ret d s2 => some (.ret d s2)
def sFor (fi : AF) (g : GF) (fb : SF) : SF := fun s => (fi s).bind fun p => forD g fb p.1 p.2
def whileF (t : BF) (fb : SF) : Nat → SF
  | 0, _ => none
  | n + 1, s => (t s).bind fun p => if p.1 = true then (fb p.2).bind fun fl => match fl with
      | .next s2 => whileF t fb n s2
      | .cont s2 => whileF t fb n s2
      | .brk s2 => some (.next s2)
      | .ret d s2 => some (.ret d s2)
    else some (.next p.2)
open Classical in
noncomputable def sWhile (t : BF) (fb : SF) : SF := fun s => if h : ∃ fl n, whileF t fb n s = some fl then some (Classical.choose h) else none
theorem whileF_up (t : BF) (fb : SF) : ∀ (n : Nat) (s : S) (fl : Fl) (m : Nat), n ≤ m → whileF t fb n s = some fl → whileF t fb m s = some fl
  | 0, s, fl, m, _, h => nomatch h
  | n + 1, s, fl, 0, hm, _ => nomatch hm
  | n + 1, s, fl, m + 1, hm, h => by
    have ih := fun s fl => whileF_up t fb n s fl m (Nat.le_of_succ_le_succ hm)
    unfold whileF at h ⊢
    cases h1 : t s with
    | none => rw [h1] at h; exact nomatch h
    | some p =>
      simp only [h1, Option.bind_some] at h ⊢
      by_cases hp : p.1 = true
      · rw [if_pos hp] at h ⊢
        cases h2 : fb p.2 with
        | none => simp [h2] at h
        | some f2 =>
          simp only [h2, Option.bind_some] at h ⊢
          cases f2 with
          | next s2 => exact ih s2 fl h
          | cont s2 => exact ih s2 fl h
          | brk s2 => exact h
          | ret d s2 => exact h
      · rw [if_neg hp] at h ⊢
        exact h
theorem sWhile_of {t : BF} {fb : SF} {n : Nat} {s : S} {fl : Fl} (h : whileF t fb n s = some fl) : sWhile t fb s = some fl := by
  have hx : ∃ fl n, whileF t fb n s = some fl := ⟨fl, n, h⟩
  unfold sWhile
  rw [dif_pos hx]
  obtain ⟨m, hm⟩ := Classical.choose_spec hx
  have h1 := whileF_up t fb n s fl (max n m) (Nat.le_max_left _ _) h
  have h2 := whileF_up t fb m s _ (max n m) (Nat.le_max_right _ _) hm
  rw [h1] at h2
  exact h2.symm
theorem sWhile_has {t : BF} {fb : SF} {s : S} {fl : Fl} (h : sWhile t fb s = some fl) : ∃ n, whileF t fb n s = some fl := by
  unfold sWhile at h
  split at h
  · rename_i hx
    obtain ⟨m, hm⟩ := Classical.choose_spec hx
    cases h
    exact ⟨m, hm⟩
  · exact nomatch h
/-- one turn -/
theorem sWhile_eq (t : BF) (fb : SF) (s : S) : sWhile t fb s = (t s).bind fun p => if p.1 = true then (fb p.2).bind fun fl => match fl with
      | .next s2 => sWhile t fb s2
      | .cont s2 => sWhile t fb s2
      | .brk s2 => some (.next s2)
      | .ret d s2 => some (.ret d s2)
    else some (.next p.2) := by
  cases e : (t s).bind fun p => if p.1 = true then (fb p.2).bind fun fl => match fl with
      | .next s2 => sWhile t fb s2
      | .cont s2 => sWhile t fb s2
      | .brk s2 => some (.next s2)
      | .ret d s2 => some (.ret d s2)
    else some (.next p.2) with
  | none =>
    cases h : sWhile t fb s with
    | none => rfl
    | some fl =>
      obtain ⟨n, hn⟩ := sWhile_has h
      exfalso
      cases n with
      | zero => exact nomatch hn
      | succ n =>
        unfold whileF at hn
        cases h1 : t s with
        | none => rw [h1] at hn; exact nomatch hn
        | some p =>
          simp only [h1, Option.bind_some] at hn e
          by_cases hp : p.1 = true
          · rw [if_pos hp] at hn e
            cases h2 : fb p.2 with
            | none => simp [h2] at hn
            | some f2 =>
              simp only [h2, Option.bind_some] at hn e
              cases f2 with
              | next s2 => simp only [sWhile_of hn] at e; exact nomatch e
              | cont s2 => simp only [sWhile_of hn] at e; exact nomatch e
              | brk s2 => exact nomatch e
              | ret d s2 => exact nomatch e
          · rw [if_neg hp] at e
            exact nomatch e
  | some fl =>
    cases h1 : t s with
    | none => rw [h1] at e; exact nomatch e
    | some p =>
      simp only [h1, Option.bind_some] at e
      by_cases hp : p.1 = true
      · rw [if_pos hp] at e
        cases h2 : fb p.2 with
        | none => simp [h2] at e
        | some f2 =>
          simp only [h2, Option.bind_some] at e
          have one : ∀ {s2 : S} {n : Nat}, (f2 = .next s2 ∨ f2 = .cont s2) → whileF t fb n s2 = some fl → sWhile t fb s = some fl := fun {s2 n} hf hn => by
            refine sWhile_of (n := n + 1) ?_
            unfold whileF
            simp only [h1, Option.bind_some]
            rw [if_pos hp, h2]
            rcases hf with rfl | rfl <;> exact hn
          cases f2 with
          | next s2 => obtain ⟨n, hn⟩ := sWhile_has e; exact one (.inl rfl) hn
          | cont s2 => obtain ⟨n, hn⟩ := sWhile_has e; exact one (.inr rfl) hn
          | brk s2 =>
            refine sWhile_of (n := 1) ?_
            unfold whileF
            simp only [h1, Option.bind_some]
            rw [if_pos hp, h2]
            exact e
          | ret d s2 =>
            refine sWhile_of (n := 1) ?_
            unfold whileF
            simp only [h1, Option.bind_some]
            rw [if_pos hp, h2]
            exact e
      · rw [if_neg hp] at e
        refine sWhile_of (n := 1) ?_
        unfold whileF
        simp only [h1, Option.bind_some]
        rw [if_neg hp]
        exact e

section
variable {c : Cc} {X : Cx} {pins : List Nat} {b1 b2 b3 : Bool} {f g h : EF} {t : BF} {fa : AF} {u v w : SF} {pos : Pos} {e : Expr} {st : Stmt} {rest : List Stmt}
variable {H H1 H2 G G1 G2 : Hp} {s s1 s2 : S} {fp fp1 fp2 : List Addr} {σ σ1 σ2 : L2.St} {Z : Ends}
theorem PinEq.refl : PinEq pins σ σ := ⟨rfl, fun _ _ => rfl⟩
theorem PinEq.trans (a : PinEq pins σ σ1) (b : PinEq pins σ1 σ2) : PinEq pins σ σ2 := ⟨b.1.trans a.1, fun i hi => (b.2 i hi).trans (a.2 i hi)⟩
/-- what was done ahead is put ahead -/
theorem PostS.ahead {fl : Fl} (q : PostS c pins Z H G fp σ fl) (E1 : Ev H G fp H1 G1 fp1) (p1 : PinEq pins σ σ1) : PostS c pins Z H1 G1 fp1 σ1 fl := by
  cases fl with
  | next s' => exact fun σ' H' G' fp' E2 S2 p2 => q σ' H' G' fp' (E1.trans E2) S2 (p1.trans p2)
  | ret r s' =>
    cases r with
    | d d => exact fun v σ' H' G' fp' E2 S2 p2 => q v σ' H' G' fp' (E1.trans E2) S2 (p1.trans p2)
    | n xs => exact fun p vs σ' H' G' fp' E2 S2 p2 => q p vs σ' H' G' fp' (E1.trans E2) S2 (p1.trans p2)
    | k xs => exact fun p vs σ' H' G' fp' E2 S2 p2 => q p vs σ' H' G' fp' (E1.trans E2) S2 (p1.trans p2)
  | brk s' => exact fun σ' H' G' fp' E2 S2 p2 => q σ' H' G' fp' (E1.trans E2) S2 (p1.trans p2)
  | cont s' => exact fun σ' H' G' fp' E2 S2 p2 => q σ' H' G' fp' (E1.trans E2) S2 (p1.trans p2)

theorem ss_nil : PSs X [] (tS c pins sNext) := PSs_imp pss_nil fun D σ H ⟨G, s, fp, fl, k, sl, hf, q⟩ => by
  cases hf
  exact q σ H G fp (Ev.refl k) sl PinEq.refl
theorem ss_one (h1 : PS X st (tS c pins u)) : PSs X [st] (tS c pins u) := pss_one h1
theorem ss_cons (h1 : PS X st (tS c pins u)) (h2 : PSs X rest (tS c pins v)) : PSs X (st :: rest) (tS c pins (sSeq u v)) := PSs_imp (pss_cons h1 h2) fun D σ H ⟨G, s, fp, fl, k, sl, hf, q⟩ => by
  unfold sSeq at hf
  cases h1 : u s with
  | none => rw [h1] at hf; exact nomatch hf
  | some f1 =>
    simp only [h1, Option.bind_some] at hf
    refine ⟨G, s, fp, f1, k, sl, h1, ?_⟩
    cases f1 with
    | next s1 => exact fun σ1 H1 G1 fp1 E1 S1 p1 => ⟨G1, s1, fp1, fl, E1.ok, S1, hf, q.ahead E1 p1⟩
    | ret d s1 => cases hf; cases d <;> exact q
    | brk s1 => cases hf; exact q
    | cont s1 => cases hf; exact q
theorem sx_pass : PS X (.Pass pos) (tS c pins sNext) := PS_imp ps_pass fun D σ H ⟨G, s, fp, fl, k, sl, hf, q⟩ => by
  cases hf
  exact q σ H G fp (Ev.refl k) sl PinEq.refl
theorem sx_brk : PS X (.Break pos) (tS c pins sBrk) := PS_imp ps_break fun D σ H ⟨G, s, fp, fl, k, sl, hf, q⟩ => by
  cases hf
  exact q σ H G fp (Ev.refl k) sl PinEq.refl
theorem sx_cont : PS X (.Continue pos) (tS c pins sCont) := PS_imp ps_continue fun D σ H ⟨G, s, fp, fl, k, sl, hf, q⟩ => by
  cases hf
  exact q σ H G fp (Ev.refl k) sl PinEq.refl
theorem sx_never : PS X st (tS c pins sNever) := PS_imp ps_never fun D σ H ⟨G, s, fp, fl, k, sl, hf, q⟩ => nomatch hf
theorem sx_ret (he : PE X e (tE c b1 f)) : PS X (.Return (some e) pos) (tS c pins (sRet f)) := PS_imp (ps_ret he) fun D σ H ⟨G, s, fp, fl, k, sl, hf, q⟩ => by
  unfold sRet at hf
  cases h1 : f s with
  | none => rw [h1] at hf; exact nomatch hf
  | some p =>
    obtain ⟨d, s1⟩ := p
    simp only [h1, Option.map_some, Option.some.injEq] at hf
    subst hf
    exact ⟨G, s, fp, d, s1, k, sl, h1, fun v H1 G1 fp1 E1 S1 r1 _ => q v σ H1 G1 fp1 E1 S1 PinEq.refl r1⟩
theorem sx_retNew (he : PE X e (tN c fa)) : PS X (.Return (some e) pos) (tS c pins (sRetNew fa)) := PS_imp (ps_ret he) fun D σ H ⟨G, s, fp, fl, k, sl, hf, q⟩ => by
  unfold sRetNew at hf
  cases h1 : fa s with
  | none => rw [h1] at hf; exact nomatch hf
  | some p =>
    obtain ⟨d, s1⟩ := p
    simp only [h1, Option.map_some, Option.some.injEq] at hf
    subst hf
    exact ⟨G, s, fp, d, s1, k, sl, h1, fun p vs H1 G1 fp1 E1 S1 hv r1 => q p vs σ H1 G1 fp1 E1 S1 PinEq.refl hv r1⟩
theorem sx_retN : PS X (.Return none pos) (tS c pins sRetN) := PS_imp ps_retN fun D σ H ⟨G, s, fp, fl, k, sl, hf, q⟩ => by
  cases hf
  exact q .non σ H G fp (Ev.refl k) sl PinEq.refl .non
theorem sx_drop (he : PE X e (tE c b1 f)) (hs : swapsWith e none pos.line X.env = pure false := by rfl) : PS X (.Expr e pos) (tS c pins (sDrop f)) := PS_imp (ps_expr he hs) fun D σ H ⟨G, s, fp, fl, k, sl, hf, q⟩ => by
  unfold sDrop at hf
  cases h1 : f s with
  | none => rw [h1] at hf; exact nomatch hf
  | some p =>
    obtain ⟨d, s1⟩ := p
    simp only [h1, Option.map_some, Option.some.injEq] at hf
    subst hf
    exact ⟨G, s, fp, d, s1, k, sl, h1, fun v H1 G1 fp1 E1 S1 r1 _ => q σ H1 G1 fp1 E1 S1 PinEq.refl⟩
theorem sx_if {cd : Expr} {sa sb : List Stmt} (hc : PT X cd (tT c b1 t)) (ha : PSs X sa (tS c pins u)) (hb : PSs X sb (tS c pins v)) : PS X (.If cd sa sb pos) (tS c pins (sIf t u v)) := PS_imp (ps_if hc ha hb) fun D σ H ⟨G, s, fp, fl, k, sl, hf, q⟩ => by
  unfold sIf at hf
  cases h1 : t s with
  | none => rw [h1] at hf; exact nomatch hf
  | some p =>
    obtain ⟨x, s1⟩ := p
    simp only [h1, Option.bind_some] at hf
    refine ⟨G, s, fp, x, s1, k, sl, h1, fun H1 G1 fp1 E1 S1 _ => ?_⟩
    show if x = true then tS c pins u D σ H1 else tS c pins v D σ H1
    cases x with
    | true =>
      rw [if_pos rfl] at hf ⊢
      exact ⟨G1, s1, fp1, fl, E1.ok, S1, hf, q.ahead E1 PinEq.refl⟩
    | false =>
      rw [if_neg Bool.false_ne_true] at hf ⊢
      exact ⟨G1, s1, fp1, fl, E1.ok, S1, hf, q.ahead E1 PinEq.refl⟩

/-! ### targets -/
theorem pin_set {i : Nat} {x : Option V} (hi : i ∉ pins) : PinEq pins σ (σ.set i x) := ⟨List.length_set, fun j hj => List.getElem?_set_ne (fun z => hi (by rw [z]; exact hj))⟩
theorem put_val (k : Ok H G fp) (sl : Slots c H G σ s fp) {i : Nat} {v : V} {d : D} (hi : i < s.length) (r : Rep c.K G v d) : ∃ fp', Ev H G fp H G fp' ∧ Slots c H G (σ.set i (some v)) (s.set i (.val d)) fp' := by
  obtain ⟨f1, f2, p, kk⟩ := sl.put hi
  obtain ⟨fp', p', sl'⟩ := kk H G v (.val d) [] (.val r) (fun _ _ => rfl) (Same.refl _)
  exact ⟨fp', ((Ev.refl k).less p).perm (by simpa using p'), sl'⟩
theorem gx_name (i : Nat) {x : Str} (hN : X.N.Nodup) (hp : i ∉ pins := by decide) (hi : X.N[i]? = some x := by rfl) (hx : Loc X.env.scope x := by first | exact Or.inl rfl | exact Or.inr rfl)
    (hf : X.fn x = true ∨ X.env.scope.names.lookup x = some .local := by first | exact .inl rfl | exact .inr rfl) : PG X (.Name x pos) (tG c pins true (gN i)) :=
  PG_imp (pg_name hN hi hx hf) fun v σ H Q ⟨G, s, fp, d, s', k, sl, r, hg, q⟩ => by
    unfold gN at hg
    split at hg
    · rename_i hl
      cases hg
      obtain ⟨fp', E, sl'⟩ := put_val k sl hl r
      exact q _ H G fp' E sl' (pin_set hp) (fun _ => Grow.refl k.sub)
    · exact nomatch hg
theorem gsx_nil : PGs X [] (tGs c pins true gsNil) := PGs_imp pgs_nil fun v σ H Q ⟨G, s, fp, ds, s', k, sl, r, hg, q⟩ => by
  cases r with
  | nil => cases hg; exact ⟨rfl, q σ H G fp (Ev.refl k) sl PinEq.refl fun _ => Grow.refl k.sub⟩
  | cons _ _ => exact nomatch hg
theorem gsx_cons {e : Expr} {es : List Expr} {g1 : GF} {g2 : List D → S → Option S} (h1 : PG X e (tG c pins b1 g1)) (h2 : PGs X es (tGs c pins b2 g2))
    (hs : (assignEach (e :: es) X.env).map (·.2) = assign e X.env :: (assignEach es X.env).map (·.2) := by rfl) : PGs X (e :: es) (tGs c pins (b1 && b2) (gsCons g1 g2)) :=
  PGs_imp (pgs_cons h1 h2 hs) fun v σ H Q ⟨G, s, fp, ds, s', k, sl, r, hg, q⟩ => by
    cases r with
    | nil => exact nomatch hg
    | cons r1 r2 =>
      unfold gsCons at hg
      rename_i v1 vs1 d1 ds1 q0
      cases h1 : g1 d1 s with
      | none => simp [h1] at hg
      | some s1 =>
        simp only [h1, Option.bind_some] at hg
        exact ⟨_, _, rfl, G, s, fp, _, s1, k, sl, r1, h1, fun σ1 H1 G1 fp1 E1 S1 p1 g1 => ⟨G1, s1, fp1, _, s', E1.ok, S1, r2.mono E1.gs, hg, fun σ2 H2 G2 fp2 E2 S2 p2 g2 => q σ2 H2 G2 fp2 (E1.trans E2) S2 (p1.trans p2) fun hb => (g1 (Bool.and_eq_true_iff.mp hb).1).trans (g2 (Bool.and_eq_true_iff.mp hb).2)⟩⟩
theorem gx_tup {es : List Expr} {kk : Nat} {n : Nat} {gs : List D → S → Option S} (hc : X.calm = true) (h : PGs X es (tGs c pins b1 gs)) (hn : (assignEach es X.env).length = n := by rfl) (hlen : ∀ ds s s', gs ds s = some s' → ds.length = n)
    (hK : X.K = c.K := by rfl) (hst : (assignEach es X.env).findIdx? (·.1) = none := by rfl) : PG X (.Tuple es kk pos) (tG c pins b1 (gTup gs)) := PG_imp (pg_tup hc h hn hst) fun v σ H Q ⟨G, s, fp, d, s', k, sl, r, hg, q⟩ => by
  cases r with
  | tup t1 r1 => exact ⟨_, _, rfl, by rw [hK]; exact Same.sqT k.sub t1, by rw [r1.length]; exact hlen _ _ _ hg, G, s, fp, _, s', k, sl, r1, hg, q⟩
  | _ => exact nomatch hg
theorem gs_len0 : ∀ ds (s s' : S), gsNil ds s = some s' → ds.length = 0 := fun ds s s' h => by
  match ds with
  | [] => rfl
  | a :: r => exact nomatch h
theorem gs_lenS {n : Nat} {g1 : GF} {g2 : List D → S → Option S} (ih : ∀ ds s s', g2 ds s = some s' → ds.length = n) : ∀ ds s s', gsCons g1 g2 ds s = some s' → ds.length = n + 1 := fun ds s s' h => by
  match ds with
  | [] => exact nomatch h
  | a :: r =>
    simp only [gsCons] at h
    cases e : g1 a s with
    | none => simp [e] at h
    | some s1 =>
      simp only [e, Option.bind_some] at h
      rw [List.length_cons, ih r s1 s' h]
/-- x = e -/
theorem asg_ok {gf : GF} {tg : TG} (hg : ∀ v σ H Q, tG c pins b2 gf v σ H Q → tg v σ H Q) (q : tS c pins (sAsg f gf) Z σ H) : tAsg (tE c b1 f) tg Z σ H := by
  obtain ⟨G, s, fp, fl, k, sl, hf, q⟩ := q
  unfold sAsg at hf
  cases h1 : f s with
  | none => rw [h1] at hf; exact nomatch hf
  | some p =>
    obtain ⟨d, s1⟩ := p
    simp only [h1, Option.bind_some] at hf
    cases h2 : gf d s1 with
    | none => simp [h2] at hf
    | some s2 =>
      simp only [h2, Option.map_some, Option.some.injEq] at hf
      subst hf
      exact ⟨G, s, fp, d, s1, k, sl, h1, fun v H1 G1 fp1 E1 S1 r1 _ => hg _ _ _ _ ⟨G1, s1, fp1, d, s2, E1.ok, S1, r1, h2, fun σ2 H2 G2 fp2 E2 S2 p2 _ => q σ2 H2 G2 fp2 (E1.trans E2) S2 p2⟩⟩
theorem gName_ok {i : Nat} (hp : i ∉ pins) : ∀ v σ H Q, tG c pins true (gN i) v σ H Q → gName i v σ H Q := fun v σ H Q ⟨G, s, fp, d, s', k, sl, r, hg, q⟩ => by
  unfold gN at hg
  split at hg
  · rename_i hl
    cases hg
    obtain ⟨fp', E, sl'⟩ := put_val k sl hl r
    exact q _ H G fp' E sl' (pin_set hp) (fun _ => Grow.refl k.sub)
  · exact nomatch hg
theorem sx_set (i : Nat) {x : Str} {pos' : Pos} (hN : X.N.Nodup) (he : PE X e (tE c b1 f)) (hp : i ∉ pins := by decide) (hi : X.N[i]? = some x := by rfl) (hx : Loc X.env.scope x := by first | exact Or.inl rfl | exact Or.inr rfl)
    (hs : swapsWith e (some (.Name x pos')) pos.line X.env = pure false := by rfl) (hf : X.fn x = true ∨ X.env.scope.names.lookup x = some .local := by first | exact .inl rfl | exact .inr rfl) :
    PS X (.Assign [.Name x pos'] e pos) (tS c pins (sAsg f (gN i))) := PS_imp (ps_set hN hi hx he hs hf) fun D σ H q => asg_ok (gName_ok hp) q
theorem sx_asg {tg : Expr} {gf : GF} (he : PE X e (tE c b1 f)) (hg : PG X tg (tG c pins b2 gf)) (hs : swapsWithSole [tg] e pos.line X.env = pure false := by rfl) (hw : swappedStores [tg] e X.env = pure none := by rfl)
    (h1 : (assignEach [tg] X.env).map (·.2) = [assign tg X.env] := by rfl) : PS X (.Assign [tg] e pos) (tS c pins (sAsg f gf)) := PS_imp (ps_asg he hg hs hw h1) fun D σ H q => asg_ok (fun _ _ _ _ z => z) q
theorem sx_par (i j : Nat) {x y : Str} {ea eb : Expr} {px py pt : Pos} {kt k2 pt2} (hc : X.calm = true) (hN : X.N.Nodup) (ha : PA X [ea, eb] (tA c b1 fa)) (hpi : i ∉ pins := by decide) (hpj : j ∉ pins := by decide) (hij : i ≠ j := by decide) (hi : X.N[i]? = some x := by rfl) (hj : X.N[j]? = some y := by rfl)
    (hx : X.env.scope.names.lookup x = some .local := by rfl) (hy : X.env.scope.names.lookup y = some .local := by rfl)
    (hw : swappedStores [.Tuple [.Name x px, .Name y py] kt pt] (.Tuple [ea, eb] k2 pt2) X.env = pure (some [x, y]) := by rfl)
    (hs : swapsWithSole [.Tuple [.Name x px, .Name y py] kt pt] (.Tuple [ea, eb] k2 pt2) pos.line X.env = pure false := by rfl) :
    PS X (.Assign [.Tuple [.Name x px, .Name y py] kt pt] (.Tuple [ea, eb] k2 pt2) pos) (tS c pins (sPar i j fa)) := PS_imp (ps_par hc hN hi hj hij hx hy ha hw hs) fun D σ H ⟨G, s, fp, fl, k, sl, hf, q⟩ => by
  unfold sPar at hf
  cases h1 : fa s with
  | none => rw [h1] at hf; exact nomatch hf
  | some p =>
    obtain ⟨ds, s1⟩ := p
    simp only [h1, Option.bind_some] at hf
    match ds, h1, hf with
    | [], _, hf => exact nomatch hf
    | [_], _, hf => exact nomatch hf
    | _ :: _ :: _ :: _, _, hf => exact nomatch hf
    | [d1, d2], h1, hf =>
      simp only at hf
      split at hf
      · rename_i hl
        cases hf
        refine ⟨G, s, fp, _, s1, k, sl, h1, fun vs H1 G1 fp1 E1 S1 r1 _ => ?_⟩
        cases r1 with
        | cons r1 r2 =>
          cases r2 with
          | cons r2 r3 =>
            cases r3
            obtain ⟨fp2, E2, S2⟩ := put_val E1.ok S1 hl.1 r1
            obtain ⟨fp3, E3, S3⟩ := put_val E2.ok S2 (by rw [List.length_set]; exact hl.2) r2
            exact ⟨_, _, rfl, q _ _ _ _ ((E1.trans E2).trans E3) S3 ((pin_set hpi).trans (pin_set hpj))⟩
      · exact nomatch hf

/-! ### lists of one's own -/
theorem own_lst (k : Ok H G fp) (sl : Slots c H G σ s fp) {i : Nat} {xs : List D} (h : s[i]? = some (.lst xs)) :
    ∃ p vs f2, σ[i]? = some (some (.ref p)) ∧ H p = some (.lst vs) ∧ Reps c.K G vs xs ∧ fp.Perm (p :: f2) ∧
      ∀ vs' xs', Reps c.K G vs' xs' → ∃ fp', Ev H G fp (upd H p (.lst vs')) G fp' ∧ Slots c (upd H p (.lst vs')) G σ (s.set i (.lst xs')) fp' := by
  obtain ⟨v, f1, f2, h1, h2, hp, hk⟩ := sl.split h (by simp)
  cases h2 with
  | @lst p vs _ hv r =>
    have gp : G p = none := k.own p (hp.mem_iff.mpr (by simp))
    have nd := List.nodup_append.mp (hp.nodup_iff.mp k.nd)
    refine ⟨p, vs, f2, h1, hv, r, hp, fun vs' xs' r' => ?_⟩
    obtain ⟨fp', p', sl'⟩ := hk (upd H p (.lst vs')) G (.lst xs') [p] (.lst upd_same r') (fun a ha => upd_ne fun z => nd.2.2 p (by simp) a ha z.symm) (Same.refl _)
    have pp : fp'.Perm fp := p'.trans hp.symm
    refine ⟨fp', ⟨Same.refl _, fun b o hb => ?_, fun x h3 h4 => absurd h3 h4, fun a o ha hn => ?_, fun a ha => ?_, fun a ha => ⟨k.own a (pp.mem_iff.mp ha), .inl (pp.mem_iff.mp ha)⟩, pp.nodup_iff.mpr k.nd⟩, sl'⟩
    · rw [upd_ne (fun z => by rw [z, gp] at hb; cases hb)]; exact k.sub b o hb
    · rw [upd_ne (fun z => hn (by rw [z]; exact hp.mem_iff.mpr (by simp)))]; exact ha
    · by_cases z : a = p
      · subst z; rw [upd_same]; simp
      · rw [upd_ne z]; exact ha
/-- a slot is given a new list -/
theorem put_new {p : Addr} (k : Ok H G (p :: fp)) (sl : Slots c H G σ s fp) {i : Nat} {vs : List V} {xs : List D} (hi : i < s.length) (hv : H p = some (.lst vs)) (r : Reps c.K G vs xs) :
    ∃ fp', Ev H G (p :: fp) H G fp' ∧ Slots c H G (σ.set i (some (.ref p))) (s.set i (.lst xs)) fp' := by
  obtain ⟨f1, f2, hp, kk⟩ := sl.put hi
  obtain ⟨fp', p', sl'⟩ := kk H G (.ref p) (.lst xs) [p] (.lst hv r) (fun _ _ => rfl) (Same.refl _)
  refine ⟨fp', ?_, sl'⟩
  have q1 : (p :: fp).Perm (f1 ++ (p :: f2)) := (List.Perm.cons p hp).trans (List.perm_middle.symm)
  exact ((Ev.refl k).less q1).perm p'
theorem new_ok {i : Nat} (hp : i ∉ pins) (q : tS c pins (sNew i fa) Z σ H) : tAsg (tN c fa) (gName i) Z σ H := by
  obtain ⟨G, s, fp, fl, k, sl, hf, q⟩ := q
  unfold sNew at hf
  cases h1 : fa s with
  | none => rw [h1] at hf; exact nomatch hf
  | some p =>
    obtain ⟨xs, s1⟩ := p
    simp only [h1, Option.bind_some] at hf
    split at hf
    · rename_i hl
      cases hf
      refine ⟨G, s, fp, xs, s1, k, sl, h1, fun p vs H1 G1 fp1 E1 S1 hv r => ?_⟩
      obtain ⟨fp', E2, S2⟩ := put_new E1.ok S1 hl hv r
      exact q _ _ _ _ (E1.trans E2) S2 (pin_set hp)
    · exact nomatch hf
theorem sx_new (i : Nat) {x : Str} {pos' : Pos} (hN : X.N.Nodup) (he : PE X e (tN c fa)) (hp : i ∉ pins := by decide) (hi : X.N[i]? = some x := by rfl) (hx : Loc X.env.scope x := by first | exact Or.inl rfl | exact Or.inr rfl)
    (hs : swapsWith e (some (.Name x pos')) pos.line X.env = pure false := by rfl) (hf : X.fn x = true ∨ X.env.scope.names.lookup x = some .local := by first | exact .inl rfl | exact .inr rfl) :
    PS X (.Assign [.Name x pos'] e pos) (tS c pins (sNew i fa)) := PS_imp (ps_set hN hi hx he hs hf) fun D σ H q => new_ok hp q
/-- what is laid behind an evaluation, and is nobody else's -/
theorem Ev.newOwn (E : Ev H G fp H1 G1 fp1) (sl : Slots c H1 G1 σ s fp1) {p : Addr} {o : HO} (hp : H1 p = none) : Ev H G fp (upd H1 p o) G1 (p :: fp1) ∧ Slots c (upd H1 p o) G1 σ s fp1 := by
  have gr : Grow H1 G1 (upd H1 p o) G1 := Grow.hid E.sub hp
  have E2 := E.grow sl gr
  refine ⟨{ E2 with own := fun a ha => ?_, nd := ?_ }, sl.step gr⟩
  · rcases List.mem_cons.mp ha with rfl | ha
    · refine ⟨E.sub.free hp, .inr ?_⟩
      cases q : H a with
      | none => rfl
      | some u => exact absurd hp (E.live a (by rw [q]; simp))
    · exact E2.own a ha
  · exact List.nodup_cons.mpr ⟨fun z => sl.there p z hp, E2.nd⟩
theorem xn_lst {es : List Expr} (h : PA X es (tA c b1 fa)) : PE X (.List es pos) (tN c (nLst fa)) := PE_imp (pe_lst h) fun σ H Q ⟨G, s, fp, xs, s', k, sl, hf, q⟩ => by
  unfold nLst at hf
  cases h1 : fa s with
  | none => rw [h1] at hf; exact nomatch hf
  | some p =>
    obtain ⟨x, s1⟩ := p
    simp only [h1, Option.bind_some] at hf
    split at hf
    · rename_i hc
      cases hf
      refine ⟨G, s, fp, _, _, k, sl, h1, fun vs H1 G1 fp1 E1 S1 r1 p1 => ⟨by rw [r1.length]; exact Nat.le_trans hc cap_line, fun p hp => ?_⟩⟩
      obtain ⟨E2, S2⟩ := E1.newOwn (o := .lst vs) S1 hp
      exact q p vs _ _ _ E2 S2 upd_same r1
    · exact nomatch hf
theorem sx_app (i : Nat) {x : Str} {p1 apos cpos : Pos} {line : Pos} (he : PE X e (tE c b1 f)) (hN : X.N[i]? = some x := by rfl) (hv : Vis X.env.scope x := by first | exact Or.inl rfl | exact Or.inr (Or.inl rfl)) (hK : X.K = c.K := by rfl)
    (hd : (x == ("__debug__" : Str)) = false := by decide) (hcd : (x == ("__classdict__" : Str)) = false := by decide)
    (hbase : attributeBase (.Name x p1) "append" X.env (eval (.Name x p1) X.env) = eval (.Name x p1) X.env := by rfl)
    (hfew : ((backTo cpos (starEach [e] X.env)).all (fun x => !x.1) && (backToKw cpos (keywordEach [] X.env)).all (fun x => x.1.isSome)
      && decide ([e].length + ([] : List Keyword).length + (if ([] : List Keyword).isEmpty then 0 else 1) < 30)) = true := by rfl)
    (hline : (apos.endLine == cpos.line) = true := by rfl) (hs : starEach [e] X.env = (false, eval e X.env) :: starEach [] X.env := by rfl) (hplain : (backTo cpos (starEach [] X.env)).any (·.1) = false := by rfl)
    (hsw : swapsWith (.Call (.Attribute (.Name x p1) "append" apos) [e] [] cpos) none line.line X.env = pure false := by rfl) :
    PS X (.Expr (.Call (.Attribute (.Name x p1) "append" apos) [e] [] cpos) line) (tS c pins (sApp i f)) :=
  PS_imp (ps_expr (pe_bm PySem.F.plainAttrs_list PySem.F.slot_list_append PySem.F.type_list_append mt_append (pe_var hN hv hd hcd) (pa_cons he pa_nil hs) hbase hfew hline hs hplain) hsw) fun Z σ H ⟨G, s, fp, fl, k, sl, hf, q⟩ => by
    unfold sApp at hf
    split at hf
    · rename_i ys hy
      cases h1 : f s with
      | none => rw [h1] at hf; exact nomatch hf
      | some pp =>
        obtain ⟨d, s1⟩ := pp
        simp only [h1, Option.bind_some] at hf
        split at hf
        · rename_i xs hx
          split at hf
          · rename_i hl
            cases hf
            obtain ⟨p, vs, _, hσ, hv, _, _, _⟩ := own_lst k sl hy
            refine ⟨_, hσ, .inl ⟨rfl, _, SqL.of hv⟩, G, s, fp, d, s1, k, sl, h1, fun v H1 G1 fp1 E1 S1 r1 _ => ?_⟩
            obtain ⟨p', vs', f2, hσ', hv', r', _, kk⟩ := own_lst E1.ok S1 hx
            rw [hσ] at hσ'
            cases hσ'
            obtain ⟨fp', E2, S2⟩ := kk (vs' ++ [v]) (xs ++ [d]) (r'.append (Reps.one r1))
            exact ⟨_, _, _, rfl, rfl, hv', by rw [r'.length]; exact Nat.lt_trans hl cap_lt, q σ _ G1 fp' (E1.trans E2) S2 PinEq.refl⟩
          · exact nomatch hf
        · exact nomatch hf
    · exact nomatch hf
end
end DL
/-! DL 5: what is walked; for, while, comprehensions; calls of defs. -/
namespace DL
open PySem PySem.Spec PyProof.Rows L2 RZ

/-- the iterator yields these things, in order -/
def Yields (c : Cc) (J : It) (xs : List D) (G0 : Hp) : Prop := ∀ (i : Nat) (H G : Hp), Same G0 G → Same G H →
  (∀ d, xs[i]? = some d → J.go i H ∧ ∀ x H', J.yld i H x H' → ∃ G', Grow H G H' G' ∧ Rep c.K G' x d) ∧ (xs.length ≤ i → J.stop i H)
def tI (c : Cc) (b : Bool) (fi : AF) : TI := fun σ H R => ∃ G s fp xs s', Ok H G fp ∧ Slots c H G σ s fp ∧ fi s = some (xs, s') ∧
  ∀ J H' G' fp', Ev H G fp H' G' fp' → Slots c H' G' σ s' fp' → Yields c J xs G' → Pure b H G s fp H' G' s' fp' → R J H'
theorem PI_imp {X : Cx} {tg e : Expr} {t t' : TI} (h : PI X tg e t) (k : ∀ σ H Q, t' σ H Q → t σ H Q) : PI X tg e t' := ⟨fun pins s σ H Q I q => h.run pins s σ H Q I (k σ H Q q)⟩

def items : D → Option (List D)
  | .tup xs => some xs
  | .lst xs => some xs
  | .str x => some (x.cps.toList.map fun k => .str ⟨#[k]⟩)
  | _ => none
def iSeq (f : EF) : AF := fun s => (f s).bind fun p => (items p.1).map fun xs => (xs, p.2)
def rangeD (lo : Int) (n : Nat) : List D := (List.range n).map fun (i : Nat) => .int (lo + (i : Int))
def bigI : Int := 1000000000
def iRng1 (fa : AF) : AF := fun s => (fa s).bind fun p => match p.1 with
  | [.int n] => if -bigI ≤ n ∧ n ≤ bigI then some (rangeD 0 n.toNat, p.2) else none
  | _ => none
def iRng2 (fa : AF) : AF := fun s => (fa s).bind fun p => match p.1 with
  | [.int m, .int n] => if -bigI ≤ m ∧ m ≤ bigI ∧ -bigI ≤ n ∧ n ≤ bigI then some (rangeD m (n - m).toNat, p.2) else none
  | _ => none
def zipD : List D → List D → List D
  | x :: xs, y :: ys => .tup [x, y] :: zipD xs ys
  | _, _ => []
def iZip (fa : AF) : AF := fun s => (fa s).bind fun p => match p.1 with
  | [.lst xs, .lst ys] => some (zipD xs ys, p.2)
  | [.tup xs, .tup ys] => some (zipD xs ys, p.2)
  | _ => none

section
variable {c : Cc} {X : Cx} {pins : List Nat} {b1 b2 b3 : Bool} {f g h : EF} {t : BF} {fa fi : AF} {u v w : SF} {pos : Pos} {e tg : Expr} {st : Stmt} {rest : List Stmt}
variable {H H1 H2 G G1 G2 : Hp} {s s1 s2 : S} {fp fp1 fp2 : List Addr} {σ σ1 σ2 : L2.St} {Z : Ends}
theorem yl_list {a : Addr} {vs : List V} {xs : List D} (hq : SqL c.K G a vs) (r : Reps c.K G vs xs) : Yields c (Itl c.K a) xs G := fun i H G' e1 e2 => by
  have q : SqL c.K H a vs := Same.sqL e2 (Same.sqL e1 hq)
  refine ⟨fun d hd => ?_, fun hl => ⟨vs, q, by rw [r.length]; exact hl⟩⟩
  obtain ⟨v, hv, rv⟩ := r.get hd
  refine ⟨⟨vs, v, q, hv⟩, fun x H' y => ?_⟩
  obtain ⟨e, y⟩ := y
  subst e
  have e3 := y vs q
  rw [hv] at e3
  cases e3
  exact ⟨G', Grow.refl e2, rv.mono e1⟩
theorem yl_tup {a : Addr} {vs : List V} {xs : List D} (hq : SqT c.K G a vs) (r : Reps c.K G vs xs) : Yields c (Itt c.K a) xs G := fun i H G' e1 e2 => by
  have q : SqT c.K H a vs := Same.sqT e2 (Same.sqT e1 hq)
  refine ⟨fun d hd => ?_, fun hl => ⟨vs, q, by rw [r.length]; exact hl⟩⟩
  obtain ⟨v, hv, rv⟩ := r.get hd
  refine ⟨⟨vs, v, q, hv⟩, fun x H' y => ?_⟩
  obtain ⟨e, y⟩ := y
  subst e
  have e3 := y vs q
  rw [hv] at e3
  cases e3
  exact ⟨G', Grow.refl e2, rv.mono e1⟩
theorem yl_range {lo : Int} {n : Nat} : Yields c (Itr lo n) (rangeD lo n) G := fun i H G' e1 e2 => by
  refine ⟨fun d hd => ?_, fun hl => ?_⟩
  · unfold rangeD at hd
    rw [List.getElem?_map] at hd
    by_cases hi : i < n
    · rw [List.getElem?_range hi] at hd
      cases hd
      refine ⟨hi, fun x H' y => ?_⟩
      obtain ⟨e, y⟩ := y
      subst e y
      exact ⟨G', Grow.refl e2, .int _⟩
    · rw [List.getElem?_eq_none (by simpa using hi)] at hd
      exact nomatch hd
  · unfold rangeD at hl
    exact (by simpa using hl : n ≤ i)
theorem yl_str {x : Str} : Yields c (Its x) (x.cps.toList.map fun k => .str ⟨#[k]⟩) G := fun i H G' e1 e2 => by
  refine ⟨fun d hd => ?_, fun hl => (by simpa using hl : x.cps.size ≤ i)⟩
  rw [List.getElem?_map] at hd
  cases q : x.cps.toList[i]? with
  | none => rw [q] at hd; exact nomatch hd
  | some k =>
    rw [q] at hd
    cases hd
    have q2 : x.cps[i]? = some k := by simpa using q
    refine ⟨(Array.getElem?_eq_some_iff.mp q2).1, fun v H' y => ?_⟩
    obtain ⟨e, k', hk, hv⟩ := y
    subst e hv
    rw [q2] at hk
    cases hk
    exact ⟨G', Grow.refl e2, .str _⟩
theorem zipD_get : ∀ (xs ys : List D) (i : Nat) (d : D), (zipD xs ys)[i]? = some d → ∃ x y, xs[i]? = some x ∧ ys[i]? = some y ∧ d = .tup [x, y]
  | [], ys, i, d, h => by cases ys <;> simp [zipD] at h
  | x :: xs, [], i, d, h => by simp [zipD] at h
  | x :: xs, y :: ys, 0, d, h => by simp [zipD] at h; exact ⟨x, y, rfl, rfl, h.symm⟩
  | x :: xs, y :: ys, i + 1, d, h => by
    have h' : (zipD xs ys)[i]? = some d := by simpa [zipD] using h
    obtain ⟨a, b, e1, e2, e3⟩ := zipD_get xs ys i d h'
    exact ⟨a, b, by simpa using e1, by simpa using e2, e3⟩
theorem zipD_len : ∀ (xs ys : List D), (zipD xs ys).length = min xs.length ys.length
  | [], ys => by cases ys <;> simp [zipD]
  | x :: xs, [] => by simp [zipD]
  | x :: xs, y :: ys => by
    simp only [zipD, List.length_cons, zipD_len xs ys]
    omega
theorem yl_zipL {a b : Addr} {vs ws : List V} {xs ys : List D} (hq : SqL c.K G a vs) (r : Reps c.K G vs xs) (hq2 : SqL c.K G b ws) (r2 : Reps c.K G ws ys) : Yields c (Itz c.K a b) (zipD xs ys) G := fun i H G' e1 e2 => by
  have q : SqL c.K H a vs := Same.sqL e2 (Same.sqL e1 hq)
  have q2 : SqL c.K H b ws := Same.sqL e2 (Same.sqL e1 hq2)
  refine ⟨fun d hd => ?_, fun hl => ⟨vs, ws, q, q2, ?_⟩⟩
  · obtain ⟨x, y, h1, h2, rfl⟩ := zipD_get xs ys i d hd
    obtain ⟨v, hv, rv⟩ := r.get h1
    obtain ⟨w, hw, rw'⟩ := r2.get h2
    refine ⟨⟨vs, ws, v, w, q, q2, hv, hw⟩, fun x0 H' y0 => ?_⟩
    obtain ⟨T, x1, y1, rfl, hT, rfl, k1, k2⟩ := y0
    have e3 := k1 vs q
    have e4 := k2 ws q2
    rw [hv] at e3
    rw [hw] at e4
    cases e3
    cases e4
    have gr := Grow.alloc (o := .tup [v, w]) e2 hT
    exact ⟨_, gr, .tup (SqT.of upd_same) (.cons ((rv.mono e1).mono gr.gs) (.cons ((rw'.mono e1).mono gr.gs) .nil))⟩
  · rw [zipD_len] at hl
    rw [r.length, r2.length]
    omega
theorem yl_zipT {a b : Addr} {vs ws : List V} {xs ys : List D} (hq : SqT c.K G a vs) (r : Reps c.K G vs xs) (hq2 : SqT c.K G b ws) (r2 : Reps c.K G ws ys) : Yields c (ItzT c.K a b) (zipD xs ys) G := fun i H G' e1 e2 => by
  have q : SqT c.K H a vs := Same.sqT e2 (Same.sqT e1 hq)
  have q2 : SqT c.K H b ws := Same.sqT e2 (Same.sqT e1 hq2)
  refine ⟨fun d hd => ?_, fun hl => ⟨vs, ws, q, q2, ?_⟩⟩
  · obtain ⟨x, y, h1, h2, rfl⟩ := zipD_get xs ys i d hd
    obtain ⟨v, hv, rv⟩ := r.get h1
    obtain ⟨w, hw, rw'⟩ := r2.get h2
    refine ⟨⟨vs, ws, v, w, q, q2, hv, hw⟩, fun x0 H' y0 => ?_⟩
    obtain ⟨T, x1, y1, rfl, hT, rfl, k1, k2⟩ := y0
    have e3 := k1 vs q
    have e4 := k2 ws q2
    rw [hv] at e3
    rw [hw] at e4
    cases e3
    cases e4
    have gr := Grow.alloc (o := .tup [v, w]) e2 hT
    exact ⟨_, gr, .tup (SqT.of upd_same) (.cons ((rv.mono e1).mono gr.gs) (.cons ((rw'.mono e1).mono gr.gs) .nil))⟩
  · rw [zipD_len] at hl
    rw [r.length, r2.length]
    omega

theorem ix_seq' (he : PE X e (tE c b1 f)) (hK : X.K = c.K := by rfl) : PI X tg e (tI c b1 (iSeq f)) := by
  refine ⟨fun pins s σ H R I ⟨G, S, fp, xs, s', k, sl, hf, q⟩ => ?_⟩
  unfold iSeq at hf
  cases h1 : f S with
  | none => rw [h1] at hf; exact nomatch hf
  | some p =>
    obtain ⟨d, s1⟩ := p
    simp only [h1, Option.bind_some] at hf
    cases d with
    | tup ds =>
      cases hf
      refine (pi_tup he).run pins s σ H R I ⟨G, S, fp, _, _, k, sl, h1, fun v H1 G1 fp1 E1 S1 r1 p1 => ?_⟩
      cases r1 with
      | tup t1 r1 =>
        rw [hK]
        exact ⟨_, rfl, ⟨_, Same.sqT E1.sub t1⟩, q _ H1 G1 fp1 E1 S1 (yl_tup t1 r1) p1⟩
    | lst ds =>
      cases hf
      refine (pi_list he).run pins s σ H R I ⟨G, S, fp, _, _, k, sl, h1, fun v H1 G1 fp1 E1 S1 r1 p1 => ?_⟩
      cases r1 with
      | lst t1 r1 =>
        rw [hK]
        exact ⟨_, rfl, ⟨_, Same.sqL E1.sub t1⟩, q _ H1 G1 fp1 E1 S1 (yl_list t1 r1) p1⟩
    | str x =>
      cases hf
      refine (pi_str he).run pins s σ H R I ⟨G, S, fp, _, _, k, sl, h1, fun v H1 G1 fp1 E1 S1 r1 p1 => ?_⟩
      cases r1 with
      | str x => exact ⟨_, rfl, q _ H1 G1 fp1 E1 S1 yl_str p1⟩
    | _ => exact nomatch hf
theorem bigI_ok {n : Int} (h1 : -bigI ≤ n) (h2 : n ≤ bigI) : -(2 ^ 62) ≤ n ∧ n < 2 ^ 62 := by
  unfold bigI at h1 h2
  omega
theorem ix_range1 {a : Expr} {p pos : Pos} (ha : PA X [a] (tA c b1 fa)) (hm : X.mg "range" = none) (hg : Gl X "range" := by rfl) (hs : starEach [a] X.env = [(false, eval a X.env)] := by rfl) : PI X tg (.Call (.Name "range" p) [a] [] pos) (tI c b1 (iRng1 fa)) :=
  PI_imp (pi_range1 hg hm ha hs) fun σ H R ⟨G, S, fp, xs, s', k, sl, hf, q⟩ => by
    unfold iRng1 at hf
    cases h1 : fa S with
    | none => rw [h1] at hf; exact nomatch hf
    | some p =>
      obtain ⟨ds, s1⟩ := p
      simp only [h1, Option.bind_some] at hf
      split at hf
      · rename_i n
        split at hf
        · rename_i hn
          cases hf
          refine ⟨G, S, fp, _, _, k, sl, h1, fun vs H1 G1 fp1 E1 S1 r1 p1 => ?_⟩
          cases r1 with
          | cons r1 r2 =>
            cases r2
            obtain ⟨h3, h4⟩ := bigI_ok hn.1 hn.2
            exact ⟨n, by rw [r1.ints], h3, h4, q _ H1 G1 fp1 E1 S1 yl_range p1⟩
        · exact nomatch hf
      · exact nomatch hf
theorem ix_range2 {a b : Expr} {p pos : Pos} (ha : PA X [a, b] (tA c b1 fa)) (hm : X.mg "range" = none) (hg : Gl X "range" := by rfl) (hs : starEach [a, b] X.env = [(false, eval a X.env), (false, eval b X.env)] := by rfl) (hs2 : starEach [b] X.env = [(false, eval b X.env)] := by rfl) :
    PI X tg (.Call (.Name "range" p) [a, b] [] pos) (tI c b1 (iRng2 fa)) :=
  PI_imp (pi_range2 hg hm ha hs hs2) fun σ H R ⟨G, S, fp, xs, s', k, sl, hf, q⟩ => by
    unfold iRng2 at hf
    cases h1 : fa S with
    | none => rw [h1] at hf; exact nomatch hf
    | some p =>
      obtain ⟨ds, s1⟩ := p
      simp only [h1, Option.bind_some] at hf
      split at hf
      · rename_i m n
        split at hf
        · rename_i hn
          cases hf
          refine ⟨G, S, fp, _, _, k, sl, h1, fun vs H1 G1 fp1 E1 S1 r1 p1 => ?_⟩
          cases r1 with
          | cons r1 r2 =>
            cases r2 with
            | cons r2 r3 =>
              cases r3
              obtain ⟨h3, h4⟩ := bigI_ok hn.1 hn.2.1
              obtain ⟨h5, h6⟩ := bigI_ok hn.2.2.1 hn.2.2.2
              exact ⟨m, n, by rw [r1.ints, r2.ints], ⟨h3, h4, h5, h6⟩, q _ H1 G1 fp1 E1 S1 yl_range p1⟩
        · exact nomatch hf
      · exact nomatch hf
theorem ix_zip {a b : Expr} {p pos tpos : Pos} {elts : List Expr} {kk : Nat} (ha : PA X [a, b] (tA c b1 fa)) (hm : X.mg "zip" = none) (hK : X.K = c.K := by rfl) (hg : Gl X "zip" := by rfl) (hs : starEach [a, b] X.env = [(false, eval a X.env), (false, eval b X.env)] := by rfl) (hs2 : starEach [b] X.env = [(false, eval b X.env)] := by rfl) :
    PI X (.Tuple elts kk tpos) (.Call (.Name "zip" p) [a, b] [] pos) (tI c b1 (iZip fa)) :=
  PI_imp (pi_zipA hg hm ha (by rw [hs, hs2]) (by rw [hs2]; rfl)) fun σ H R ⟨G, S, fp, xs, s', k, sl, hf, q⟩ => by
    rw [hK]
    unfold iZip at hf
    cases h1 : fa S with
    | none => rw [h1] at hf; exact nomatch hf
    | some p =>
      obtain ⟨ds, s1⟩ := p
      simp only [h1, Option.bind_some] at hf
      split at hf
      · cases hf
        refine ⟨G, S, fp, _, _, k, sl, h1, fun vs H1 G1 fp1 E1 S1 r1 p1 => ?_⟩
        cases r1 with
        | cons r1 r2 =>
          cases r2 with
          | cons r2 r3 =>
            cases r3
            cases r1 with
            | lst t1 r1 =>
              cases r2 with
              | lst t2 r2 => exact ⟨_, _, _, _, rfl, .inl ⟨Same.sqL E1.sub t1, Same.sqL E1.sub t2, q _ H1 G1 fp1 E1 S1 (yl_zipL t1 r1 t2 r2) p1⟩⟩
      · cases hf
        refine ⟨G, S, fp, _, _, k, sl, h1, fun vs H1 G1 fp1 E1 S1 r1 p1 => ?_⟩
        cases r1 with
        | cons r1 r2 =>
          cases r2 with
          | cons r2 r3 =>
            cases r3
            cases r1 with
            | tup t1 r1 =>
              cases r2 with
              | tup t2 r2 => exact ⟨_, _, _, _, rfl, .inr ⟨Same.sqT E1.sub t1, Same.sqT E1.sub t2, q _ H1 G1 fp1 E1 S1 (yl_zipT t1 r1 t2 r2) p1⟩⟩
      · exact nomatch hf

/-! ### for -/
theorem sx_for {iter : Expr} {body : List Stmt} {gf : GF} (hi : PI X tg iter (tI c b1 fi)) (hg : PG X tg (tG c pins b2 gf)) (hb : PSs X body (tS c pins u)) (hp : PassesOwn (model X.prog X.w) X.A X.env X.xe := by exact PassesOwn.never) (hc : X.calm = true := by rfl)
    (hs : ∀ x, foldedSetIterable iter X.env x = pure x := by exact fun _ => rfl) : PS X (.For tg iter body [] pos) (tS c pins (sFor fi gf u)) := PS_imp (ps_for hp hc hi hg hb hs) fun Z σ H ⟨G, s, fp, fl, k, sl, hf, q⟩ => by
  unfold sFor at hf
  cases h1 : fi s with
  | none => rw [h1] at hf; exact nomatch hf
  | some p =>
    obtain ⟨xs, s1⟩ := p
    simp only [h1, Option.bind_some] at hf
    refine ⟨G, s, fp, xs, s1, k, sl, h1, fun J H1 G1 fp1 E1 S1 Y _ => ?_⟩
    refine ⟨fun i m σ' H' => m = xs.length - i ∧ i ≤ xs.length ∧ ∃ G' s' fp', Ev H1 G1 fp1 H' G' fp' ∧ Slots c H' G' σ' s' fp' ∧ PinEq pins σ σ' ∧ forD gf u (xs.drop i) s' = some fl,
      ⟨xs.length, by simp, Nat.zero_le _, G1, s1, fp1, Ev.refl E1.ok, S1, PinEq.refl, by simpa using hf⟩, ?_⟩
    rintro i m σ' H' ⟨rfl, hi, G', s', fp', E', S', p', hfor⟩
    obtain ⟨y1, y2⟩ := Y i H' G' E'.gs E'.sub
    by_cases hlt : i < xs.length
    · obtain ⟨go, yy⟩ := y1 xs[i] (List.getElem?_eq_getElem hlt)
      refine .inr ⟨go, fun σ'' H'' => ∃ G'' s'' fp'', Ev H1 G1 fp1 H'' G'' fp'' ∧ Slots c H'' G'' σ'' s'' fp'' ∧ PinEq pins σ σ'' ∧ forD gf u (xs.drop (i + 1)) s'' = some fl,
        fun σ'' H'' n => ⟨xs.length - (i + 1), by omega, rfl, hlt, n⟩, fun x H2 hy => ?_⟩
      obtain ⟨G2, gr, rx⟩ := yy x H2 hy
      rw [List.drop_eq_getElem_cons hlt] at hfor
      unfold forD at hfor
      cases h2 : gf xs[i] s' with
      | none => simp [h2] at hfor
      | some s3 =>
        simp only [h2, Option.bind_some] at hfor
        have E2 := E'.grow S' gr
        refine ⟨G2, s', fp', _, s3, E2.ok, S'.step gr, rx, h2, fun σ3 H3 G3 fp3 E3 S3 p3 _ => ?_⟩
        cases h4 : u s3 with
        | none => simp [h4] at hfor
        | some f4 =>
          simp only [h4, Option.bind_some] at hfor
          refine ⟨G3, s3, fp3, f4, E3.ok, S3, h4, ?_⟩
          have E23 := E2.trans E3
          cases f4 with
          | next s4 => exact fun σ4 H4 G4 fp4 E4 S4 p4 => ⟨G4, s4, fp4, E23.trans E4, S4, (p'.trans p3).trans p4, hfor⟩
          | cont s4 => exact fun σ4 H4 G4 fp4 E4 S4 p4 => ⟨G4, s4, fp4, E23.trans E4, S4, (p'.trans p3).trans p4, hfor⟩
          | brk s4 =>
            cases hfor
            exact fun σ4 H4 G4 fp4 E4 S4 p4 => q σ4 H4 G4 fp4 (E1.trans (E23.trans E4)) S4 ((p'.trans p3).trans p4)
          | ret d s4 =>
            cases hfor
            have q2 := PostS.ahead q (E1.trans E23) (p'.trans p3)
            cases d <;> exact q2
    · have e : i = xs.length := by omega
      subst e
      rw [List.drop_length] at hfor
      cases hfor
      exact .inl ⟨y2 (Nat.le_refl _), q σ' H' G' fp' (E1.trans E') S' p'⟩

/-! ### while -/
theorem sx_while {cd : Expr} {body : List Stmt} (hc : PT X cd (tT c b1 t)) (hb : PSs X body (tS c pins u)) (hp : PassesOwn (model X.prog X.w) X.A X.env X.xe := by exact PassesOwn.never) : PS X (.While cd body [] pos) (tS c pins (sWhile t u)) :=
  PS_imp (ps_while hp hc hb) fun Z σ H ⟨G, s, fp, fl, k, sl, hf, q⟩ => by
    obtain ⟨n, hn⟩ := sWhile_has hf
    refine ⟨fun m σ' H' => ∃ G' s' fp', Ev H G fp H' G' fp' ∧ Slots c H' G' σ' s' fp' ∧ PinEq pins σ σ' ∧ whileF t u m s' = some fl, ⟨n, G, s, fp, Ev.refl k, sl, PinEq.refl, hn⟩, ?_⟩
    rintro m σ' H' ⟨G', s', fp', E', S', p', hw⟩
    cases m with
    | zero => exact nomatch hw
    | succ m =>
      unfold whileF at hw
      cases h1 : t s' with
      | none => rw [h1] at hw; exact nomatch hw
      | some p =>
        obtain ⟨x, s1⟩ := p
        simp only [h1, Option.bind_some] at hw
        refine ⟨G', s', fp', x, s1, E'.ok, S', h1, fun H1 G1 fp1 E1 S1 _ => ?_⟩
        have E2 := E'.trans E1
        cases x with
        | false =>
          show if false = true then _ else _
          rw [if_neg Bool.false_ne_true]
          rw [if_neg Bool.false_ne_true] at hw
          cases hw
          exact q σ' H1 G1 fp1 E2 S1 p'
        | true =>
          show if true = true then _ else _
          rw [if_pos rfl]
          rw [if_pos rfl] at hw
          refine ⟨fun σ'' H'' => ∃ G'' s'' fp'', Ev H G fp H'' G'' fp'' ∧ Slots c H'' G'' σ'' s'' fp'' ∧ PinEq pins σ σ'' ∧ whileF t u m s'' = some fl, fun σ'' H'' n => ⟨m, Nat.lt_succ_self _, n⟩, ?_⟩
          cases h4 : u s1 with
          | none => simp [h4] at hw
          | some f4 =>
            simp only [h4, Option.bind_some] at hw
            refine ⟨G1, s1, fp1, f4, E1.ok, S1, h4, ?_⟩
            cases f4 with
            | next s4 => exact fun σ4 H4 G4 fp4 E4 S4 p4 => ⟨G4, s4, fp4, E2.trans E4, S4, p'.trans p4, hw⟩
            | cont s4 => exact fun σ4 H4 G4 fp4 E4 S4 p4 => ⟨G4, s4, fp4, E2.trans E4, S4, p'.trans p4, hw⟩
            | brk s4 =>
              cases hw
              exact fun σ4 H4 G4 fp4 E4 S4 p4 => q σ4 H4 G4 fp4 (E2.trans E4) S4 (p'.trans p4)
            | ret d s4 =>
              cases hw
              have q2 := PostS.ahead q E2 p'
              cases d <;> exact q2

/-! ### calls of defs on plain data -/
def spP (c : Cc) (m : List D → Option D) : Sp := fun vs H Q _ => ∃ G ds r, Same G H ∧ Reps c.K G vs ds ∧ m ds = some r ∧ ∀ v H' G', Grow H G H' G' → Rep c.K G' v r → Q v H'
theorem call_ok {m : List D → Option D} {E : XK} {Q : VK} (q : tE c b1 (eCall m fa) σ H Q) : tCall (spP c m) [] E (tA c b1 fa) σ H Q := by
  obtain ⟨G, s, fp, d, s', k, sl, hf, q⟩ := q
  unfold eCall at hf
  cases h1 : fa s with
  | none => rw [h1] at hf; exact nomatch hf
  | some p =>
    obtain ⟨ds, s1⟩ := p
    simp only [h1, Option.bind_some] at hf
    cases h2 : m ds with
    | none => simp [h2] at hf
    | some z =>
      simp only [h2, Option.map_some, Option.some.injEq, Prod.mk.injEq] at hf
      obtain ⟨rfl, rfl⟩ := hf
      refine ⟨G, s, fp, ds, s1, k, sl, h1, fun vs H1 G1 fp1 E1 S1 r1 p1 => ⟨G1, ds, z, E1.sub, by rw [List.append_nil]; exact r1, h2, fun v H' G' gr r => q v H' G' fp1 (E1.grow S1 gr) (S1.step gr) r (p1.grow gr)⟩⟩
section
variable {kl : Nat} {fA : Addr} {fd : FuncData} {ps : List Str} {x : Str} {p : Pos} {es : List Expr} {m : List D → Option D}
theorem ex_call (F : FnOk X.prog X.w X.K X.mg X.base CX0 kl fA fd ps (spP c m)) (hr : Room kl X.A) (hm : X.mg x = some (.ref fA)) (hk : PySem.W.keepIn X.K (.ref fA) = true) (hb : Binds X.K fd ps []) (ha : PA X (e :: es) (tA c b1 fa)) (hg : Gl X x := by rfl)
    (hdb : (x == ("__debug__" : Str)) = false := by decide) (he : starEach (e :: es) X.env = (false, eval e X.env) :: starEach es X.env := by rfl) (hpl : (backTo pos (starEach es X.env)).any (·.1) = false := by rfl) :
    PE X (.Call (.Name x p) (e :: es) [] pos) (tE c b1 (eCall m fa)) := PE_imp (pe_call (E := E0) F hr hg hm hk hb .nil pass0 ha hdb he hpl) fun _ _ _ q => call_ok q
theorem ex_call0 (F : FnOk X.prog X.w X.K X.mg X.base CX0 kl fA fd ps (spP c m)) (hr : Room kl X.A) (hm : X.mg x = some (.ref fA)) (hk : PySem.W.keepIn X.K (.ref fA) = true) (hb : Binds X.K fd ps []) (hg : Gl X x := by rfl)
    (hdb : (x == ("__debug__" : Str)) = false := by decide) : PE X (.Call (.Name x p) [] [] pos) (tE c true (eCall m aNil)) := PE_imp (pe_call0 (E := E0) F hr hg hm hk hb .nil pass0 hdb) fun σ H Q q => by
  obtain ⟨G, s, fp, d, s', k, sl, hf, q⟩ := q
  unfold eCall aNil at hf
  simp only [Option.bind_some] at hf
  cases h2 : m [] with
  | none => simp [h2] at hf
  | some z =>
    simp only [h2, Option.map_some, Option.some.injEq, Prod.mk.injEq] at hf
    obtain ⟨rfl, rfl⟩ := hf
    exact ⟨G, [], z, k.sub, .nil, h2, fun v H' G' gr r => q v H' G' fp ((Ev.refl k).grow sl gr) (sl.step gr) r (Pure.grow (Pure.here k.sub) gr)⟩
end

/-! ### a def -/
/-- a def's function, from its body's -/
def runP (np n : Nat) (fb : SF) (ds : List D) : Option D := if ds.length = np then (fb (ds.map O.val ++ List.replicate (n - np) O.un)).bind fun fl => match fl with
    | .ret (.d d) _ => some d
    | .next _ => some .non
    | _ => none
  else none
theorem slots_start {vs : List V} {ds : List D} (r : Reps c.K G vs ds) (n : Nat) : Slots c H G (vs.map some ++ List.replicate n none) (ds.map O.val ++ List.replicate n O.un) [] := by
  have un : ∀ n, Slots c H G (List.replicate n none) (List.replicate n O.un) [] := fun n => by
    induction n with
    | zero => exact .nil
    | succ n ih => exact .un ih
  induction ds generalizing vs with
  | nil => cases r; exact un n
  | cons d ds ih =>
    cases r with
    | cons r1 r2 => simpa using Slots.cons (.val r1) (ih r2)
variable {P : Program} {wd : World} {K : PySem.W.Frag} {mg : Str → Option Value} {base : Heap}
theorem fn_pure {x qual : Str} {sd : Stmt} {fA : Addr} {fd : FuncData} {N ps : List Str} {kl : Nat} (np n : Nat) (m : List D → Option D) (fb : SF) (hm : m = runP np n fb) (F : Fun K x qual sd fA fd) (Sc : FnScope N ps (defScope sd)) (hK : K = c.K) (e1 : ps.length = np) (e2 : N.length = n)
    (body : ∀ (cdv : Value) (A : Around) (outer : List Env) (s : Shared) (H : Hp) (E : XK), Room kl (A.deeper (envOfC qual (defScope sd) s.heap.objs.size fA cdv)) →
      PSs (cxOf CX0 P wd K mg base N qual (defScope sd) fA cdv A outer s H E).nox (defBody sd) (tS c [] fb)) : FnOk P wd K mg base CX0 (kl + 1) fA fd ps (spP c m) := by
  subst hm e1 e2
  refine F.ok Sc (fun vs H Q E h => ?_) fun cdv A outer s H vs Q E hr h => ⟨_, body cdv A outer s H E hr, ?_⟩
  · obtain ⟨G, ds, r, _, hr, hm, _⟩ := h
    rw [hr.length]
    unfold runP at hm
    split at hm
    · assumption
    · exact nomatch hm
  · obtain ⟨G, ds, r, e, hr, hm, q⟩ := h
    unfold runP at hm
    split at hm
    · rename_i hl
      cases h1 : fb (ds.map O.val ++ List.replicate (N.length - ps.length) O.un) with
      | none => rw [h1] at hm; exact nomatch hm
      | some fl =>
        simp only [h1, Option.bind_some] at hm
        refine ⟨G, _, [], fl, ⟨e, fun a ha => by simp at ha, List.nodup_nil⟩, ?_, h1, ?_⟩
        · unfold L2.start
          rw [hr.length, hl]
          exact slots_start hr _
        · cases fl with
          | ret d s' =>
            cases d with
            | d d =>
              cases hm
              exact fun v σ' H' G' fp' E1 S1 p1 r1 => q v H' G' E1.pure r1
            | n xs => exact nomatch hm
            | k xs => exact nomatch hm
          | next s' =>
            cases hm
            exact fun σ' H' G' fp' E1 S1 p1 => q .non H' G' E1.pure .non
          | _ => exact nomatch hm
    · exact nomatch hm
/-- a def that hands back a new list -/
def runN (np n : Nat) (fb : SF) (ds : List D) : Option (List D) := if ds.length = np then (fb (ds.map O.val ++ List.replicate (n - np) O.un)).bind fun fl => match fl with
    | .ret (.n xs) _ => some xs
    | _ => none
  else none
def spN (c : Cc) (m : List D → Option (List D)) : Sp := fun vs H Q _ => ∃ G ds r, Same G H ∧ Reps c.K G vs ds ∧ m ds = some r ∧ ∀ p us H' G', Ev H G [] H' G' [p] → H' p = some (.lst us) → Reps c.K G' us r → Q (.ref p) H'
theorem fn_new {x qual : Str} {sd : Stmt} {fA : Addr} {fd : FuncData} {N ps : List Str} {kl : Nat} (np n : Nat) (m : List D → Option (List D)) (fb : SF) (hm : m = runN np n fb) (F : Fun K x qual sd fA fd) (Sc : FnScope N ps (defScope sd)) (hK : K = c.K) (e1 : ps.length = np) (e2 : N.length = n)
    (body : ∀ (cdv : Value) (A : Around) (outer : List Env) (s : Shared) (H : Hp) (E : XK), Room kl (A.deeper (envOfC qual (defScope sd) s.heap.objs.size fA cdv)) →
      PSs (cxOf CX0 P wd K mg base N qual (defScope sd) fA cdv A outer s H E).nox (defBody sd) (tS c [] fb)) : FnOk P wd K mg base CX0 (kl + 1) fA fd ps (spN c m) := by
  subst hm e1 e2
  refine F.ok Sc (fun vs H Q E h => ?_) fun cdv A outer s H vs Q E hr h => ⟨_, body cdv A outer s H E hr, ?_⟩
  · obtain ⟨G, ds, r, _, hr, hm, _⟩ := h
    rw [hr.length]
    unfold runN at hm
    split at hm
    · assumption
    · exact nomatch hm
  · obtain ⟨G, ds, r, e, hr, hm, q⟩ := h
    unfold runN at hm
    split at hm
    · rename_i hl
      cases h1 : fb (ds.map O.val ++ List.replicate (N.length - ps.length) O.un) with
      | none => rw [h1] at hm; exact nomatch hm
      | some fl =>
        simp only [h1, Option.bind_some] at hm
        refine ⟨G, _, [], fl, ⟨e, fun a ha => by simp at ha, List.nodup_nil⟩, ?_, h1, ?_⟩
        · unfold L2.start
          rw [hr.length, hl]
          exact slots_start hr _
        · cases fl with
          | ret d s' =>
            cases d with
            | d d => exact nomatch hm
            | k xs => exact nomatch hm
            | n xs =>
              cases hm
              exact fun p vs σ' H' G' fp' E1 S1 p1 hv r1 => q p vs H' G' (E1.less (f1 := fp') (f2 := [p]) ((List.perm_append_comm (l₁ := [p]) (l₂ := fp')))) hv r1
          | _ => exact nomatch hm
    · exact nomatch hm
def nCall (m : List D → Option (List D)) (fa : AF) : AF := fun s => (fa s).bind fun p => (m p.1).map fun z => (z, p.2)
theorem callN_ok {m : List D → Option (List D)} {E : XK} {Q : VK} (q : tN c (nCall m fa) σ H Q) : tCall (spN c m) [] E (tA c b1 fa) σ H Q := by
  obtain ⟨G, s, fp, d, s', k, sl, hf, q⟩ := q
  unfold nCall at hf
  cases h1 : fa s with
  | none => rw [h1] at hf; exact nomatch hf
  | some p =>
    obtain ⟨ds, s1⟩ := p
    simp only [h1, Option.bind_some] at hf
    cases h2 : m ds with
    | none => simp [h2] at hf
    | some z =>
      simp only [h2, Option.map_some, Option.some.injEq, Prod.mk.injEq] at hf
      obtain ⟨rfl, rfl⟩ := hf
      refine ⟨G, s, fp, ds, s1, k, sl, h1, fun vs H1 G1 fp1 E1 S1 r1 p1 => ⟨G1, ds, z, E1.sub, by rw [List.append_nil]; exact r1, h2, fun p us H' G' E' hv r => ?_⟩⟩
      have E2 := Ev.beside (f1 := []) (f2 := fp1) E1.ok (List.Perm.refl _) S1.there E'
      exact q p us H' G' fp1 (E1.trans E2) (S1.stay E'.gs fun a ha => by
        cases z : H1 a with
        | none => exact absurd z (S1.there a ha)
        | some o => exact E'.frame a o z (by simp)) hv r
section
variable {kl : Nat} {fA : Addr} {fd : FuncData} {ps : List Str} {x : Str} {p : Pos} {es : List Expr} {m : List D → Option (List D)}
theorem xn_call (F : FnOk X.prog X.w X.K X.mg X.base CX0 kl fA fd ps (spN c m)) (hr : Room kl X.A) (hm : X.mg x = some (.ref fA)) (hk : PySem.W.keepIn X.K (.ref fA) = true) (hb : Binds X.K fd ps []) (ha : PA X (e :: es) (tA c b1 fa)) (hg : Gl X x := by rfl)
    (hdb : (x == ("__debug__" : Str)) = false := by decide) (he : starEach (e :: es) X.env = (false, eval e X.env) :: starEach es X.env := by rfl) (hpl : (backTo pos (starEach es X.env)).any (·.1) = false := by rfl) :
    PE X (.Call (.Name x p) (e :: es) [] pos) (tN c (nCall m fa)) := PE_imp (pe_call (E := E0) F hr hg hm hk hb .nil pass0 ha hdb he hpl) fun _ _ _ q => callN_ok q
end
/-- a new list as plain data -/
def eOfN (fa : AF) : EF := fun s => (fa s).map fun p => (.lst p.1, p.2)
theorem ex_ofN (he : PE X e (tN c fa)) : PE X e (tE c false (eOfN fa)) := PE_imp he fun σ H Q ⟨G, s, fp, d, s', k, sl, hf, q⟩ => by
  unfold eOfN at hf
  cases h1 : fa s with
  | none => rw [h1] at hf; exact nomatch hf
  | some p =>
    obtain ⟨xs, s1⟩ := p
    simp only [h1, Option.map_some, Option.some.injEq, Prod.mk.injEq] at hf
    obtain ⟨rfl, rfl⟩ := hf
    refine ⟨G, s, fp, xs, s1, k, sl, h1, fun p vs H' G' fp' E' S' hv rr => ?_⟩
    have gp : G' p = none := (E'.own p List.mem_cons_self).1
    have hp := (E'.own p List.mem_cons_self).2
    have nd := List.nodup_cons.mp E'.nd
    have sg : Same G' (upd G' p (.lst vs)) := same_upd gp
    refine q (.ref p) H' (upd G' p (.lst vs)) fp' ⟨E'.gs.trans sg, fun b o hb => ?_, fun a h3 h4 => ?_, E'.frame, E'.live, fun a ha => ?_, nd.2⟩ (S'.stay sg fun _ _ => rfl) (.lst (SqL.of upd_same) (rr.mono sg)) fun z => nomatch z
    · by_cases z : b = p
      · subst z; rw [upd_same] at hb; rw [← hb]; exact hv
      · rw [upd_ne z] at hb; exact E'.sub b o hb
    · by_cases z : a = p
      · subst z; exact hp.symm
      · rw [upd_ne z] at h4; exact E'.fresh a h3 h4
    · obtain ⟨x1, x2⟩ := E'.own a (List.mem_cons_of_mem _ ha)
      exact ⟨by rw [upd_ne fun z => nd.1 (by rw [← z]; exact ha)]; exact x1, x2⟩
end
end DL
/-! DL 6: list comprehensions. -/
namespace DL
open PySem PySem.Spec PyProof.Rows L2

def wipeS (s : S) : List Nat → S
  | [] => s
  | v :: vs => (wipeS s vs).set v .un
def plainO : O → Bool
  | .un => true
  | .val _ => true
  | _ => false
def plainS (s : S) (own : List Nat) : Bool := own.all fun i => match s[i]? with
  | some o => plainO o
  | none => true
def restS (s0 sq : S) : List Nat → S
  | [] => sq
  | v :: vs => match s0[v]? with
    | some (.val d) => (restS s0 sq vs).set v (.val d)
    | _ => restS s0 sq vs
def lcD (g : GF) (ft : BF) (fe : EF) (own : List Nat) : List D → S → List D → Option (List D × S)
  | [], s, acc => some (acc, s)
  | x :: xs, s, acc => (g x s).bind fun s1 => (ft s1).bind fun p => if p.1 = true then (fe p.2).bind fun q => if acc.length < cap then lcD g ft fe own xs (wipeS q.2 own) (acc ++ [q.1]) else none
    else lcD g ft fe own xs (wipeS p.2 own) acc
def aLc (own : List Nat) (fi : AF) (g : GF) (ft : BF) (fe : EF) : AF := fun s => (fi s).bind fun p => if plainS p.2 own = true then (lcD g ft fe own p.1 (wipeS p.2 own) []).map fun q => (q.1, restS p.2 q.2 own) else none
def eLc (own : List Nat) (fi : AF) (g : GF) (ft : BF) (fe : EF) : EF := fun s => (aLc own fi g ft fe s).map fun p => (.lst p.1, p.2)
def bYes : BF := fun s => some (true, s)

section
variable {c : Cc} {H H' H1 H2 G G' G1 G2 : Hp} {s s0 s1 s2 : S} {fp fp' fp1 fp2 : List Addr} {σ τ : L2.St}
theorem wipeS_len (s : S) : ∀ vs : List Nat, (wipeS s vs).length = s.length
  | [] => rfl
  | v :: vs => by unfold wipeS; rw [List.length_set, wipeS_len s vs]
theorem wipeS_get (s : S) : ∀ (vs : List Nat) (j : Nat), (wipeS s vs)[j]? = if j ∈ vs ∧ j < s.length then some .un else s[j]?
  | [], j => by simp [wipeS]
  | v :: vs, j => by
    have ih := wipeS_get s vs j
    unfold wipeS
    by_cases hv : v = j
    · subst hv
      by_cases hl : v < s.length
      · rw [List.getElem?_set_self (by rw [wipeS_len]; exact hl)]
        simp [hl]
      · rw [List.getElem?_eq_none (by rw [List.length_set, wipeS_len]; omega)]
        simp [hl]
    · rw [List.getElem?_set_ne hv, ih]
      simp only [List.mem_cons]
      have : (j = v ∨ j ∈ vs) ↔ j ∈ vs := ⟨fun h => h.resolve_left fun e => hv e.symm, .inr⟩
      simp only [this]
theorem wipe_get (σ : L2.St) : ∀ (vs : List Nat) (j : Nat), (wipe σ vs)[j]? = if j ∈ vs ∧ j < σ.length then some none else σ[j]?
  | [], j => by simp [wipe]
  | v :: vs, j => by
    have ih := wipe_get σ vs j
    unfold wipe
    by_cases hv : v = j
    · subst hv
      by_cases hl : v < σ.length
      · rw [List.getElem?_set_self (by rw [wipe_length]; exact hl)]
        simp [hl]
      · rw [List.getElem?_eq_none (by rw [List.length_set, wipe_length]; omega)]
        simp [hl]
    · rw [List.getElem?_set_ne hv, ih]
      simp only [List.mem_cons]
      have : (j = v ∨ j ∈ vs) ↔ j ∈ vs := ⟨fun h => h.resolve_left fun e => hv e.symm, .inr⟩
      simp only [this]
theorem wipeS_idem (s : S) (vs : List Nat) : wipeS (wipeS s vs) vs = wipeS s vs := by
  apply List.ext_getElem?
  intro j
  rw [wipeS_get, wipeS_get, wipeS_len]
  split <;> rfl
theorem restS_get (s0 sq : S) : ∀ (vs : List Nat) (j : Nat), sq.length = s0.length → (restS s0 sq vs).length = s0.length ∧ (restS s0 sq vs)[j]? = if j ∈ vs then (match s0[j]? with | some (.val d) => some (.val d) | _ => sq[j]?) else sq[j]?
  | [], j, h => by simp [restS, h]
  | v :: vs, j, h => by
    obtain ⟨l, ih⟩ := restS_get s0 sq vs j h
    unfold restS
    by_cases hv : j = v
    · subst hv
      split
      · rename_i d e
        have hl : j < s0.length := (List.getElem?_eq_some_iff.mp e).1
        refine ⟨by rw [List.length_set, l], ?_⟩
        rw [List.getElem?_set_self (by rw [l]; exact hl)]
        simp [e]
      · rename_i e
        refine ⟨l, ?_⟩
        rw [ih]
        simp only [List.mem_cons, true_or, if_true]
        split <;> rfl
    · have hm : (j ∈ v :: vs) ↔ j ∈ vs := by simp [hv]
      split
      · rename_i d e
        refine ⟨by rw [List.length_set, l], ?_⟩
        rw [List.getElem?_set_ne (fun z => hv z.symm), ih]
        simp only [hm]
      · refine ⟨l, ?_⟩
        rw [ih]
        simp only [hm]
theorem rest_wipe {own : List Nat} (h : plainS s own = true) : restS s (wipeS s own) own = s := by
  apply List.ext_getElem?
  intro j
  rw [(restS_get s (wipeS s own) own j (wipeS_len s own)).2]
  split
  · rename_i hj
    split
    · rename_i d e; exact e.symm
    · rename_i e
      rw [wipeS_get]
      split
      · rename_i h2
        have h3 := List.all_eq_true.mp h j hj
        rw [List.getElem?_eq_getElem h2.2] at h3 e ⊢
        simp only at h3
        cases q : s[j] with
        | un => rfl
        | val d => exact absurd (by rw [q]) (e d)
        | lst xs => rw [q] at h3; exact nomatch h3
        | obj k fs => rw [q] at h3; exact nomatch h3
        | dct xs => rw [q] at h3; exact nomatch h3
      · rfl
  · rename_i hj
    rw [wipeS_get, if_neg fun z => hj z.1]
theorem Slots.wipe1 : ∀ {σ : L2.St} {s : S} {fp : List Addr} {i : Nat} {x : Option V}, Slots c H G σ s fp → (∀ o, s[i]? = some o → plainO o = true) → Slots c H G (σ.set i x) (s.set i .un) fp
  | _, _, _, _, _, .nil, _ => .nil
  | _, _, _, 0, _, .un t, _ => .un t
  | _, _, _, i + 1, _, .un t, h => .un (Slots.wipe1 t fun o e => h o (by simpa using e))
  | _, _, _, 0, _, .cons (o := o) r t, h => by
    cases r with
    | val r => exact .un t
    | lst _ _ => exact nomatch h _ rfl
    | obj _ _ _ => exact nomatch h _ rfl
    | dct _ _ => exact nomatch h _ rfl
  | _, _, _, i + 1, _, .cons r t, h => .cons r (Slots.wipe1 t fun o e => h o (by simpa using e))
theorem Slots.wipes (sl : Slots c H G σ s fp) : ∀ {own : List Nat}, plainS s own = true → Slots c H G (wipe σ own) (wipeS s own) fp
  | [], _ => sl
  | v :: vs, h => by
    have h1 : plainS s vs = true := List.all_eq_true.mpr fun x hx => List.all_eq_true.mp h x (List.mem_cons_of_mem _ hx)
    refine Slots.wipe1 (Slots.wipes sl h1) fun o e => ?_
    rw [wipeS_get] at e
    split at e
    · cases e; rfl
    · have h3 := List.all_eq_true.mp h v List.mem_cons_self
      rw [e] at h3
      exact h3
/-- other values in the slots of which nothing is known -/
theorem Slots.other : ∀ {τ : L2.St} {s : S} {fp : List Addr} {σ : L2.St}, Slots c H G τ s fp → σ.length = τ.length → (∀ j : Nat, s[j]? = some O.un ∨ σ[j]? = τ[j]?) → Slots c H G σ s fp
  | _, _, _, [], .nil, _, _ => .nil
  | _, _, _, _ :: _, .nil, hl, _ => nomatch hl
  | _, _, _, [], .un _, hl, _ => nomatch hl
  | _, _, _, [], .cons _ _, hl, _ => nomatch hl
  | _, _, _, x :: σ, .un t, hl, h => .un (Slots.other t (by simpa using hl) fun j => by simpa using h (j + 1))
  | _, _, _, x :: σ, .cons (v := v) (o := o) r t, hl, h => by
    have e : x = some v := by
      rcases h 0 with z | z
      · simp at z
        subst z
        cases r
      · simpa using z
    subst e
    exact .cons r (Slots.other t (by simpa using hl) fun j => by simpa using h (j + 1))
theorem Slots.rest {sq : S} (s0l : Slots c H G σ s0 fp) (e : Same G G') (hsq : sq.length = s0.length) : ∀ {own : List Nat} {fq : List Addr}, own.Nodup → (∀ j ∈ own, j < s0.length → sq[j]? = some .un) → Slots c H' G' σ sq fq → ∃ fq', fq'.Perm fq ∧ Slots c H' G' σ (restS s0 sq own) fq'
  | [], fq, _, _, sl => ⟨fq, List.Perm.refl _, sl⟩
  | v :: vs, fq, nd, hu, sl => by
    obtain ⟨nv, nd'⟩ := List.nodup_cons.mp nd
    obtain ⟨fq', p', sl'⟩ := Slots.rest (own := vs) (fq := fq) s0l e hsq nd' (fun j hj => hu j (List.mem_cons_of_mem _ hj)) sl
    unfold restS
    split
    · rename_i d ed
      obtain ⟨u, f1, f2, h1, h2, _⟩ := s0l.split ed (by simp)
      cases h2 with
      | val r =>
        have hl : v < s0.length := (List.getElem?_eq_some_iff.mp ed).1
        have hun : (restS s0 sq vs)[v]? = some .un := by
          rw [(restS_get s0 sq vs v hsq).2, if_neg nv]
          exact hu v List.mem_cons_self hl
        obtain ⟨fp3, p3, sl3⟩ := Slots.back (.val (r.mono e)) sl' hun h1
        exact ⟨fp3, (by simpa using p3 : fp3.Perm fq').trans p', sl3⟩
    · exact ⟨fq', p', sl'⟩
theorem Ev.side {Dl : Addr} {o : HO} (E : Ev H G fp H' G' fp') (h : H Dl = some o) (hf : Dl ∉ fp) (hg : G Dl = none) : H' Dl = some o ∧ Dl ∉ fp' ∧ G' Dl = none := by
  refine ⟨E.frame _ _ h hf, fun z => ?_, ?_⟩
  · rcases (E.own _ z).2 with y | y
    · exact hf y
    · rw [h] at y; cases y
  · cases q : G' Dl with
    | none => rfl
    | some o' =>
      rcases E.fresh _ hg (by rw [q]; simp) with y | y
      · rw [h] at y; cases y
      · exact absurd y hf
theorem Ev.updSide {Dl : Addr} {o : HO} (E : Ev H G fp H' G' fp') (h : H Dl = none) (hg : G' Dl = none) : Ev H G fp (upd H' Dl o) G' fp' :=
  { E with
    sub := fun b u hb => by
      rw [upd_ne fun z => by rw [z, hg] at hb; cases hb]
      exact E.sub b u hb
    frame := fun a u ha hn => by
      rw [upd_ne fun z => by rw [z, h] at ha; cases ha]
      exact E.frame a u ha hn
    live := fun a ha => by
      by_cases z : a = Dl
      · rw [z, upd_same]; simp
      · rw [upd_ne z]; exact E.live a ha }
theorem Grow.updSide {Dl : Addr} {o : HO} (E : Grow H G H' G') (h : H Dl = none) (hg : G' Dl = none) : Grow H G (upd H' Dl o) G' :=
  { E with
    hs := fun a u ha => by
      rw [upd_ne fun z => by rw [z, h] at ha; cases ha]
      exact E.hs a u ha
    sub := fun b u hb => by
      rw [upd_ne fun z => by rw [z, hg] at hb; cases hb]
      exact E.sub b u hb }
end

theorem PTs_imp {X : Cx} {ifs : List Expr} {t t' : TT} (h : PTs X ifs t) (k : ∀ σ H Q, t' σ H Q → t σ H Q) : PTs X ifs t' := ⟨fun pins s σ H Q I q => h.run pins s σ H Q I (k σ H Q q)⟩
section
variable {c : Cc} {X : Cx} {b1 b2 b3 : Bool} {fe : EF} {ft : BF} {fi : AF} {gf : GF} {pos : Pos} {elt tg iter : Expr} {ifs : List Expr} {scope : Scope} {own : List (Str × Nat)} {pins' : List Nat}
variable {H H1 G G1 : Hp} {s s1 : S} {fp fp1 : List Addr} {σ : L2.St}
theorem xts_nil : PTs X [] (tT c true bYes) := PTs_imp pts_nil fun σ H Q ⟨G, s, fp, d, s', k, sl, hf, q⟩ => by
  cases hf
  exact q H G fp (Ev.refl k) sl (Pure.here k.sub)
theorem xts_one {cd : Expr} (h : PT X cd (tT c b1 ft)) : PTs X [cd] (tT c b1 ft) := pts_one h
def GOwn (gf : GF) (own : List Nat) : Prop := ∀ d s s', gf d s = some s' → wipeS s' own = wipeS s own
theorem gown_set {own : List Nat} {i : Nat} (hi : i ∈ own) (s : S) (o : O) : wipeS (s.set i o) own = wipeS s own := by
  apply List.ext_getElem?
  intro j
  rw [wipeS_get, wipeS_get, List.length_set]
  split
  · rfl
  · rename_i hj
    by_cases hji : i = j
    · subst hji
      have hl : ¬ i < s.length := fun z => hj ⟨hi, z⟩
      rw [List.getElem?_eq_none (by rw [List.length_set]; omega), List.getElem?_eq_none (by omega)]
    · rw [List.getElem?_set_ne hji]
theorem gown_name {own : List Nat} {i : Nat} (hi : i ∈ own := by decide) : GOwn (gN i) own := fun d s s' h => by
  unfold gN at h
  split at h
  · cases h; exact gown_set hi s _
  · exact nomatch h
def GsOwn (gs : List D → S → Option S) (own : List Nat) : Prop := ∀ d s s', gs d s = some s' → wipeS s' own = wipeS s own
theorem gown_nil {own : List Nat} : GsOwn gsNil own := fun d s s' h => by
  cases d with
  | nil => cases h; rfl
  | cons _ _ => exact nomatch h
theorem gown_cons {own : List Nat} {g : GF} {gs : List D → S → Option S} (h1 : GOwn g own) (h2 : GsOwn gs own) : GsOwn (gsCons g gs) own := fun d s s' h => by
  cases d with
  | nil => exact nomatch h
  | cons x xs =>
    simp only [gsCons] at h
    cases e : g x s with
    | none => simp [e] at h
    | some s1 =>
      simp only [e, Option.bind_some] at h
      rw [h2 _ _ _ h, h1 _ _ _ e]
theorem gown_tup {own : List Nat} {gs : List D → S → Option S} (h : GsOwn gs own) : GOwn (gTup gs) own := fun d s s' e => by
  cases d with
  | tup xs => exact h xs s s' e
  | _ => exact nomatch e
theorem wipe_of_pins {own : List Nat} {n : Nat} {σ σ' : L2.St} (hl : σ.length = n) (hp : ∀ i < n, i ∉ own → i ∈ pins') (p : PinEq pins' (wipe σ own) σ') : wipe σ' own = wipe σ own := by
  have l : σ'.length = σ.length := p.1.trans (wipe_length σ own)
  apply List.ext_getElem?
  intro j
  rw [wipe_get, wipe_get, l]
  split
  · rfl
  · rename_i hj
    by_cases hjl : j < n
    · have hjo : j ∉ own := fun z => hj ⟨z, by omega⟩
      rw [p.2 j (hp j hjl hjo), wipe_get, if_neg fun z => hjo z.1]
    · rw [List.getElem?_eq_none (by omega), List.getElem?_eq_none (by omega)]

/-- the heart: the new list, hidden, and what is to be done with it at the end -/
theorem lc_ok (n : Nat) (hn : σ.length = n) (hp : ∀ i < n, i ∉ own.map (·.2) → i ∈ pins') (ho : GOwn gf (own.map (·.2))) (hnd : (own.map (·.2)).Nodup) {Q : VK} (b : Bool) (hb : b = (b1 && (b2 && b3)))
    (q : ∃ G s fp xs s', Ok H G fp ∧ Slots c H G σ s fp ∧ aLc (own.map (·.2)) fi gf ft fe s = some (xs, s') ∧ ∀ Dl vs H' G' fp', H Dl = none → G' Dl = none → Dl ∉ fp' → Ev H G fp H' G' fp' → Slots c H' G' σ s' fp' → H' Dl = some (.lst vs) → Reps c.K G' vs xs → Pure b H G s fp H' G' s' fp' → Q (.ref Dl) H') :
    tLc (tI c b1 fi) (tG c pins' true gf) (tT c b2 ft) (tE c b3 fe) (own.map (·.2)) σ H Q := by
  obtain ⟨G, s, fp, xs, s', k, sl, hf, q⟩ := q
  unfold aLc at hf
  cases h1 : fi s with
  | none => rw [h1] at hf; exact nomatch hf
  | some p =>
    obtain ⟨ys, s1⟩ := p
    simp only [h1, Option.bind_some] at hf
    split at hf
    · rename_i hpl
      cases h2 : lcD gf ft fe (own.map (·.2)) ys (wipeS s1 (own.map (·.2))) [] with
      | none => rw [h2] at hf; exact nomatch hf
      | some pq =>
        obtain ⟨accF, sF⟩ := pq
        simp only [h2, Option.map_some, Option.some.injEq, Prod.mk.injEq] at hf
        obtain ⟨rfl, rfl⟩ := hf
        refine ⟨G, s, fp, ys, s1, k, sl, h1, fun J H1 G1 fp1 E1 S1 Y pu1 Dl hDl => ?_⟩
        have gD1 : G1 Dl = none := E1.sub.free hDl
        have hDH : H Dl = none := by
          cases z : H Dl with
          | none => rfl
          | some o => exact absurd hDl (E1.live Dl (by rw [z]; simp))
        have gr0 : Grow H1 G1 (upd H1 Dl (.lst [])) G1 := Grow.hid E1.sub hDl
        have W1 : Slots c H1 G1 (wipe σ (own.map (·.2))) (wipeS s1 (own.map (·.2))) fp1 := S1.wipes hpl
        have ls1 : σ.length = s1.length := S1.length
        refine ⟨fun i m H' => m = ys.length - i ∧ i ≤ ys.length ∧ ∃ G' s' fp' vs acc, Ev H1 G1 fp1 H' G' fp' ∧ Slots c H' G' (wipe σ (own.map (·.2))) s' fp' ∧ wipeS s' (own.map (·.2)) = s' ∧ H' Dl = some (.lst vs) ∧ Dl ∉ fp' ∧ G' Dl = none ∧ Reps c.K G' vs acc ∧
          lcD gf ft fe (own.map (·.2)) (ys.drop i) s' acc = some (accF, sF) ∧ ((b2 && b3) = true → Grow H1 G1 H' G' ∧ s' = wipeS s1 (own.map (·.2))),
          ⟨ys.length, by simp, Nat.zero_le _, G1, _, fp1, [], [], gr0.ev E1.ok S1, W1.step gr0, wipeS_idem _ _, upd_same, fun z => absurd hDl (S1.there _ z), gD1, .nil, by simpa using h2, fun _ => ⟨gr0, rfl⟩⟩, ?_⟩
        rintro i m H' ⟨rfl, hi, G', s', fp', vs, acc, E', S', hw, hD, hDf, hDg, rr, hlc, pu⟩
        obtain ⟨y1, y2⟩ := Y i H' G' E'.gs E'.sub
        by_cases hlt : i < ys.length
        · obtain ⟨go, yy⟩ := y1 ys[i] (List.getElem?_eq_getElem hlt)
          refine .inr ⟨go, fun H'' => ∃ G'' s'' fp'' vs acc, Ev H1 G1 fp1 H'' G'' fp'' ∧ Slots c H'' G'' (wipe σ (own.map (·.2))) s'' fp'' ∧ wipeS s'' (own.map (·.2)) = s'' ∧ H'' Dl = some (.lst vs) ∧ Dl ∉ fp'' ∧ G'' Dl = none ∧ Reps c.K G'' vs acc ∧
            lcD gf ft fe (own.map (·.2)) (ys.drop (i + 1)) s'' acc = some (accF, sF) ∧ ((b2 && b3) = true → Grow H1 G1 H'' G'' ∧ s'' = wipeS s1 (own.map (·.2))), fun H'' nx => ⟨ys.length - (i + 1), by omega, rfl, hlt, nx⟩, fun x H2 hy => ?_⟩
          obtain ⟨G2, gr, rx⟩ := yy x H2 hy
          rw [List.drop_eq_getElem_cons hlt] at hlc
          unfold lcD at hlc
          cases h3 : gf ys[i] s' with
          | none => simp [h3] at hlc
          | some s3 =>
            simp only [h3, Option.bind_some] at hlc
            have E2 := E'.grow S' gr
            have S2 := S'.step gr
            have hD2 : H2 Dl = some (.lst vs) := gr.hs _ _ hD
            have hDg2 : G2 Dl = none := (gr.nw Dl (by rw [hD]; simp)).trans hDg
            refine ⟨G2, s', fp', _, s3, E2.ok, S2, rx, h3, fun σ3 H3 G3 fp3 E3 S3 p3 g3 => ⟨wipe_of_pins hn hp p3, ?_⟩⟩
            obtain ⟨hD3, hDf3, hDg3⟩ := E3.side hD2 hDf hDg2
            have hw3 : wipeS s3 (own.map (·.2)) = s' := (ho _ _ _ h3).trans hw
            have hwσ := wipe_of_pins hn hp p3
            cases h4 : ft s3 with
            | none => simp [h4] at hlc
            | some p4 =>
              obtain ⟨bb, s4⟩ := p4
              simp only [h4, Option.bind_some] at hlc
              refine ⟨G3, s3, fp3, bb, s4, E3.ok, S3, h4, fun H4 G4 fp4 E4 S4 pu4 => ?_⟩
              obtain ⟨hD4, hDf4, hDg4⟩ := E4.side hD3 hDf3 hDg3
              show if bb = true then _ else _
              -- the slots behind a turn
              have back : ∀ {H5 G5 : Hp} {s5 : S} {fp5 : List Addr}, Slots c H5 G5 σ3 s5 fp5 → ∃ f1 f2, fp5.Perm (f1 ++ f2) ∧ Slots c H5 G5 (wipe σ (own.map (·.2))) (wipeS s5 (own.map (·.2))) f2 := fun {H5 G5 s5 fp5} S5 => by
                have go : ∀ (vs : List Nat) {σ5 : L2.St} {s5 : S} {fp5 : List Addr}, Slots c H5 G5 σ5 s5 fp5 → ∃ f1 f2, fp5.Perm (f1 ++ f2) ∧ Slots c H5 G5 (wipe σ5 vs) (wipeS s5 vs) f2 := by
                  intro vs
                  induction vs with
                  | nil => intro σ5 s5 fp5 S5; exact ⟨[], fp5, List.Perm.refl _, S5⟩
                  | cons v vs ih =>
                    intro σ5 s5 fp5 S5
                    obtain ⟨f1, f2, p1, S6⟩ := ih S5
                    obtain ⟨g1, g2, p2, S7⟩ := S6.forget v none
                    refine ⟨f1 ++ g1, g2, ?_, S7⟩
                    rw [List.append_assoc]
                    exact p1.trans (List.Perm.append_left f1 p2)
                obtain ⟨f1, f2, p1, S6⟩ := go (own.map (·.2)) S5
                rw [hwσ] at S6
                exact ⟨f1, f2, p1, S6⟩
              have E14 : Ev H1 G1 fp1 H4 G4 fp4 := (E2.trans E3).trans E4
              cases bb with
              | true =>
                rw [if_pos rfl] at hlc ⊢
                cases h5 : fe s4 with
                | none => simp [h5] at hlc
                | some p5 =>
                  obtain ⟨dd, s5⟩ := p5
                  simp only [h5, Option.bind_some] at hlc
                  split at hlc
                  · rename_i hcap
                    refine ⟨G4, s4, fp4, dd, s5, E4.ok, S4, h5, fun yv H5 G5 fp5 E5 S5 r5 pu5 => ?_⟩
                    obtain ⟨hD5, hDf5, hDg5⟩ := E5.side hD4 hDf4 hDg4
                    obtain ⟨f1, f2, pf, S6⟩ := back S5
                    have E15 := (E14.trans E5).less pf
                    have hDf6 : Dl ∉ f2 := fun z => hDf5 (pf.mem_iff.mpr (List.mem_append_right _ z))
                    have rr5 : Reps c.K G5 vs acc := (((rr.mono gr.gs).mono E3.gs).mono E4.gs).mono E5.gs
                    refine ⟨vs, hD5, by rw [rr5.length]; exact Nat.lt_trans hcap cap_lt, G5, _, f2, vs ++ [yv], acc ++ [dd], E15.updSide hDl hDg5, ?_, wipeS_idem _ _, upd_same, hDf6, hDg5, rr5.append (Reps.one r5), hlc, fun hb23 => ?_⟩
                    · exact S6.stay (Same.refl _) fun a ha => upd_ne fun z => hDf6 (by rw [← z]; exact ha)
                    · obtain ⟨pg, ps⟩ := pu hb23
                      obtain ⟨hb2, hb3⟩ := Bool.and_eq_true_iff.mp hb23
                      obtain ⟨g4, e4⟩ := pu4 hb2
                      obtain ⟨g5, e5⟩ := pu5 hb3
                      refine ⟨((((pg.trans gr).trans (g3 rfl)).trans g4).trans g5).updSide hDl hDg5, ?_⟩
                      rw [e5, e4, hw3, ps]
                  · exact nomatch hlc
              | false =>
                rw [if_neg Bool.false_ne_true] at hlc ⊢
                obtain ⟨f1, f2, pf, S6⟩ := back S4
                refine ⟨G4, _, f2, vs, acc, E14.less pf, S6, wipeS_idem _ _, hD4, fun z => hDf4 (pf.mem_iff.mpr (List.mem_append_right _ z)), hDg4, ((rr.mono gr.gs).mono E3.gs).mono E4.gs, hlc, fun hb23 => ?_⟩
                obtain ⟨pg, ps⟩ := pu hb23
                obtain ⟨hb2, hb3⟩ := Bool.and_eq_true_iff.mp hb23
                obtain ⟨g4, e4⟩ := pu4 hb2
                refine ⟨((pg.trans gr).trans (g3 rfl)).trans g4, ?_⟩
                rw [e4, hw3, ps]
        · have e : i = ys.length := by omega
          subst e
          rw [List.drop_length] at hlc
          simp only [lcD, Option.some.injEq, Prod.mk.injEq] at hlc
          obtain ⟨rfl, rfl⟩ := hlc
          have lsF : s'.length = s1.length := by rw [← S'.length, wipe_length]; exact ls1
          have S8 : Slots c H' G' σ s' fp' := S'.other (wipe_length _ _).symm fun j => by
            rw [wipe_get]
            by_cases hj : j ∈ own.map (·.2) ∧ j < σ.length
            · left
              rw [← hw, wipeS_get, if_pos ⟨hj.1, by rw [lsF, ← ls1]; exact hj.2⟩]
            · right
              rw [if_neg hj]
          obtain ⟨fq, pq, S9⟩ := Slots.rest (own := own.map (·.2)) S1 E'.gs lsF hnd (fun j hj hl => by rw [← hw, wipeS_get, if_pos ⟨hj, by rw [lsF]; exact hl⟩]) S8
          refine .inl ⟨y2 (Nat.le_refl _), q Dl vs H' G' fq hDH hDg (fun z => hDf (pq.mem_iff.mp z)) ((E1.trans E').perm pq) S9 hD rr fun hbt => ?_⟩
          rw [hb] at hbt
          obtain ⟨hb1, hb23⟩ := Bool.and_eq_true_iff.mp hbt
          obtain ⟨g1, e1⟩ := pu1 hb1
          obtain ⟨g2, e2⟩ := pu hb23
          refine ⟨g1.trans g2, ?_⟩
          rw [e2, rest_wipe hpl, e1]
    · exact nomatch hf

theorem inv_len {X : Cx} {pins : List (Addr × Obj)} {σ : L2.St} {H : Hp} {s : Shared} (I : Inv X pins σ H s) : σ.length = X.N.length := I.len
theorem ex_lc (hN : X.N.Nodup) (hi : PI X tg iter (tI c b1 fi)) (ok : BlkOk X.N X.env.scope scope own) (hp : ∀ i < X.N.length, i ∉ own.map (·.2) → i ∈ pins') (ho : GOwn gf (own.map (·.2)))
    (hg : ∀ (s : Shared) (H : Hp) (C : Addr) (cl : List (Str × Addr)) (fp : List Addr), PG (X.blk s H scope (compEnvC scope cl C X.env) fp) tg (tG c pins' true gf)) (ht : ∀ (s : Shared) (H : Hp) (C : Addr) (cl : List (Str × Addr)) (fp : List Addr), PTs (X.blk s H scope (compEnvC scope cl C X.env) fp) ifs (tT c b2 ft))
    (he : ∀ (s : Shared) (H : Hp) (C : Addr) (cl : List (Str × Addr)) (fp : List Addr), PE (X.blk s H scope (compEnvC scope cl C X.env) fp) elt (tE c b3 fe)) (hnd : (own.map (·.2)).Nodup := by decide) (hc : X.calm = true := by rfl) (hs : ∀ x, foldedSetIterable iter X.env x = pure x := by exact fun _ => rfl) :
    PE X (.ListComp elt [⟨tg, iter, ifs, 0⟩] scope pos) (tE c (b1 && (b2 && b3)) (eLc (own.map (·.2)) fi gf ft fe)) := by
  refine ⟨fun pins s σ H Q I ⟨G, S, fp, d, s', k, sl, hf, q⟩ => (pe_lc hc hN hi ok hg ht he hs).run pins s σ H Q I (lc_ok X.N.length I.len hp ho hnd _ rfl ?_)⟩
  unfold eLc at hf
  cases h1 : aLc (own.map (·.2)) fi gf ft fe S with
  | none => rw [h1] at hf; exact nomatch hf
  | some p =>
    obtain ⟨xs, s1⟩ := p
    simp only [h1, Option.map_some, Option.some.injEq, Prod.mk.injEq] at hf
    obtain ⟨rfl, rfl⟩ := hf
    refine ⟨G, S, fp, xs, s1, k, sl, h1, fun Dl vs H' G' fp' hD hDg hDf E' S' hv rr pu => ?_⟩
    have sg : Same G' (upd G' Dl (.lst vs)) := same_upd hDg
    have sb : Same (upd G' Dl (.lst vs)) H' := fun b o hb => by
      by_cases z : b = Dl
      · subst z; rw [upd_same] at hb; cases hb; exact hv
      · rw [upd_ne z] at hb; exact E'.sub b o hb
    refine q (.ref Dl) H' (upd G' Dl (.lst vs)) fp' { E' with gs := E'.gs.trans sg, sub := sb, fresh := fun a h3 h4 => ?_, own := fun a ha => ?_ } (S'.stay sg fun _ _ => rfl) (.lst (SqL.of upd_same) (rr.mono sg)) fun hb => ?_
    · by_cases z : a = Dl
      · subst z; exact .inl hD
      · rw [upd_ne z] at h4; exact E'.fresh a h3 h4
    · obtain ⟨x1, x2⟩ := E'.own a ha
      exact ⟨by rw [upd_ne fun z => hDf (by rw [← z]; exact ha)]; exact x1, x2⟩
    · obtain ⟨g1, e1⟩ := pu hb
      exact ⟨⟨g1.hs, g1.gs.trans sg, sb, fun a ha => by rw [upd_ne fun z => ha (by rw [z]; exact hD)]; exact g1.nw a ha⟩, e1⟩
/-- y = [..] on one line, the list frozen -/
theorem sx_setLc (pins : List Nat) (i : Nat) {y : Str} {py spos : Pos} (hN : X.N.Nodup) (hi : PI X tg iter (tI c b1 fi)) (ok : BlkOk X.N X.env.scope scope own) (hp : ∀ i < X.N.length, i ∉ own.map (·.2) → i ∈ pins') (ho : GOwn gf (own.map (·.2)))
    (hg : ∀ (s : Shared) (H : Hp) (C : Addr) (cl : List (Str × Addr)) (fp : List Addr), PG (X.blk s H scope (compEnvC scope cl C X.env) fp) tg (tG c pins' true gf)) (ht : ∀ (s : Shared) (H : Hp) (C : Addr) (cl : List (Str × Addr)) (fp : List Addr), PTs (X.blk s H scope (compEnvC scope cl C X.env) fp) ifs (tT c b2 ft))
    (he : ∀ (s : Shared) (H : Hp) (C : Addr) (cl : List (Str × Addr)) (fp : List Addr), PE (X.blk s H scope (compEnvC scope cl C X.env) fp) elt (tE c b3 fe))
    (hsw : swapsWith (.ListComp elt [⟨tg, iter, ifs, 0⟩] scope pos) (some (.Name y py)) spos.line X.env = pure true) (hpi : i ∉ pins := by decide) (hy : X.N[i]? = some y := by rfl) (hyl : X.env.scope.names.lookup y = some .local := by rfl)
    (hnd : (own.map (·.2)).Nodup := by decide) (hc : X.calm = true := by rfl) (hs : ∀ x, foldedSetIterable iter X.env x = pure x := by exact fun _ => rfl) :
    PS X (.Assign [.Name y py] (.ListComp elt [⟨tg, iter, ifs, 0⟩] scope pos) spos) (tS c pins (sAsg (eLc (own.map (·.2)) fi gf ft fe) (gN i))) := by
  refine ⟨fun pins0 s σ H Z I q => (ps_setLc hc hN hy hyl hsw hi ok hg ht he hs).run pins0 s σ H Z I ?_⟩
  have q2 : tAsg (tE c (b1 && (b2 && b3)) (eLc (own.map (·.2)) fi gf ft fe)) (gName i) Z σ H := asg_ok (gName_ok hpi) q
  obtain ⟨G, S, fp, d, s', k, sl, hf, q⟩ := q2
  refine lc_ok X.N.length I.len hp ho hnd _ rfl ?_
  unfold eLc at hf
  cases h1 : aLc (own.map (·.2)) fi gf ft fe S with
  | none => rw [h1] at hf; exact nomatch hf
  | some p =>
    obtain ⟨xs, s1⟩ := p
    simp only [h1, Option.map_some, Option.some.injEq, Prod.mk.injEq] at hf
    obtain ⟨rfl, rfl⟩ := hf
    refine ⟨G, S, fp, xs, s1, k, sl, h1, fun Dl vs H' G' fp' hD hDg hDf E' S' hv rr pu => ?_⟩
    have sg : Same G' (upd G' Dl (.lst vs)) := same_upd hDg
    have sb : Same (upd G' Dl (.lst vs)) H' := fun b o hb => by
      by_cases z : b = Dl
      · subst z; rw [upd_same] at hb; cases hb; exact hv
      · rw [upd_ne z] at hb; exact E'.sub b o hb
    refine q (.ref Dl) H' (upd G' Dl (.lst vs)) fp' { E' with gs := E'.gs.trans sg, sub := sb, fresh := fun a h3 h4 => ?_, own := fun a ha => ?_ } (S'.stay sg fun _ _ => rfl) (.lst (SqL.of upd_same) (rr.mono sg)) fun hb => ?_
    · by_cases z : a = Dl
      · subst z; exact .inl hD
      · rw [upd_ne z] at h4; exact E'.fresh a h3 h4
    · obtain ⟨x1, x2⟩ := E'.own a ha
      exact ⟨by rw [upd_ne fun z => hDf (by rw [← z]; exact ha)]; exact x1, x2⟩
    · obtain ⟨g1, e1⟩ := pu hb
      exact ⟨⟨g1.hs, g1.gs.trans sg, sb, fun a ha => by rw [upd_ne fun z => ha (by rw [z]; exact hD)]; exact g1.nw a ha⟩, e1⟩
/-- y = [..] on one line, the list one's own -/
theorem sx_newLc (pins : List Nat) (i : Nat) {y : Str} {py spos : Pos} (hN : X.N.Nodup) (hi : PI X tg iter (tI c b1 fi)) (ok : BlkOk X.N X.env.scope scope own) (hp : ∀ i < X.N.length, i ∉ own.map (·.2) → i ∈ pins') (ho : GOwn gf (own.map (·.2)))
    (hg : ∀ (s : Shared) (H : Hp) (C : Addr) (cl : List (Str × Addr)) (fp : List Addr), PG (X.blk s H scope (compEnvC scope cl C X.env) fp) tg (tG c pins' true gf)) (ht : ∀ (s : Shared) (H : Hp) (C : Addr) (cl : List (Str × Addr)) (fp : List Addr), PTs (X.blk s H scope (compEnvC scope cl C X.env) fp) ifs (tT c b2 ft))
    (he : ∀ (s : Shared) (H : Hp) (C : Addr) (cl : List (Str × Addr)) (fp : List Addr), PE (X.blk s H scope (compEnvC scope cl C X.env) fp) elt (tE c b3 fe))
    (hsw : swapsWith (.ListComp elt [⟨tg, iter, ifs, 0⟩] scope pos) (some (.Name y py)) spos.line X.env = pure true) (hpi : i ∉ pins := by decide) (hy : X.N[i]? = some y := by rfl) (hyl : X.env.scope.names.lookup y = some .local := by rfl)
    (hnd : (own.map (·.2)).Nodup := by decide) (hc : X.calm = true := by rfl) (hs : ∀ x, foldedSetIterable iter X.env x = pure x := by exact fun _ => rfl) :
    PS X (.Assign [.Name y py] (.ListComp elt [⟨tg, iter, ifs, 0⟩] scope pos) spos) (tS c pins (sNew i (aLc (own.map (·.2)) fi gf ft fe))) := by
  refine ⟨fun pins0 s σ H Z I q => (ps_setLc hc hN hy hyl hsw hi ok hg ht he hs).run pins0 s σ H Z I ?_⟩
  have q2 : tAsg (tN c (aLc (own.map (·.2)) fi gf ft fe)) (gName i) Z σ H := new_ok hpi q
  obtain ⟨G, S, fp, xs, s', k, sl, hf, q⟩ := q2
  refine lc_ok X.N.length I.len hp ho hnd _ rfl ⟨G, S, fp, xs, s', k, sl, hf, fun Dl vs H' G' fp' hD hDg hDf E' S' hv rr pu => ?_⟩
  refine q Dl vs H' G' fp' { E' with own := fun a ha => ?_, nd := List.nodup_cons.mpr ⟨hDf, E'.nd⟩ } S' hv rr
  rcases List.mem_cons.mp ha with rfl | ha
  · exact ⟨hDg, .inr hD⟩
  · exact E'.own a ha
end
end DL
/-! DL 7: built-in functions, methods of texts and lists, borrowing, lent arguments. -/
namespace DL
open PySem PySem.Spec PyProof.Rows L2

def CallS (c : Cc) (r : List V → Hp → VK → Prop) (op : List D → Option D) : Prop :=
  ∀ ⦃H G : Hp⦄ ⦃vs : List V⦄ ⦃ds : List D⦄ ⦃z : D⦄ (Q : VK), Same G H → Reps c.K G vs ds → op ds = some z → (∀ v H' G', Grow H G H' G' → Rep c.K G' v z → Q v H') → r vs H Q
def MtS (c : Cc) (r : V → List V → Hp → VK → Prop) (op : D → D → Option D) : Prop :=
  ∀ ⦃H G : Hp⦄ ⦃x y : V⦄ ⦃dx dy z : D⦄ (Q : VK), Same G H → Rep c.K G x dx → Rep c.K G y dy → op dx dy = some z → (∀ v H' G', Grow H G H' G' → Rep c.K G' v z → Q v H') → r x [y] H Q

def bAbs : List D → Option D
  | [.int i] => some (.int (if i < 0 then -i else i))
  | _ => none
def bLen : List D → Option D
  | [.str x] => if x.length ≤ cap then some (.int x.length) else none
  | [.tup xs] => some (.int xs.length)
  | [.lst xs] => some (.int xs.length)
  | _ => none
def bDivmod : List D → Option D
  | [.int i, .int j] => if 0 < j ∧ j.natAbs.log2 < 9000 then some (.tup [.int (i / j), .int (i % j)]) else none
  | _ => none
def bStr : List D → Option D
  | [.int i] => if i.natAbs.log2 < 1920 then some (.str (toString i)) else none
  | _ => none
def bInt : List D → Option D
  | [.str a] => if a.length ≤ 640 then (PySem.intText? a).map .int else none
  | [.int i] => some (.int i)
  | [.bl k] => some (.int (if k then 1 else 0))
  | _ => none
def boolsD : List D → Option (List Bool)
  | [] => some []
  | .bl b :: r => (boolsD r).map (b :: ·)
  | _ => none
def intsD : List D → Option (List Int)
  | [] => some []
  | .int b :: r => (intsD r).map (b :: ·)
  | _ => none
def strsD : List D → Option (List Str)
  | [] => some []
  | .str b :: r => (strsD r).map (b :: ·)
  | _ => none
def bAll : List D → Option D
  | [.lst xs] => (boolsD xs).map fun bs => .bl (bs.all id)
  | _ => none
def bAny : List D → Option D
  | [.lst xs] => (boolsD xs).map fun bs => .bl (bs.any id)
  | _ => none
def bSum : List D → Option D
  | [.lst xs] => (intsD xs).map fun bs => .int bs.sum
  | _ => none
def bTuple : List D → Option D
  | [.lst xs] => some (.tup xs)
  | [.tup xs] => some (.tup xs)
  | _ => none
def bList : List D → Option D
  | [.lst xs] => some (.lst xs)
  | [.tup xs] => some (.lst xs)
  | _ => none
def bMax : List D → Option D
  | [.int i, .int j] => some (.int (if j > i then j else i))
  | _ => none
def bMin : List D → Option D
  | [.int i, .int j] => some (.int (if j < i then j else i))
  | _ => none
def dPart : D → D → Option D
  | .str a, .str b => if (b.length == 0) = false ∧ a.length ≤ cap then some (.tup [.str (Txt.partition a b).1, .str (Txt.partition a b).2.1, .str (Txt.partition a b).2.2]) else none
  | _, _ => none
def dJoin : D → D → Option D
  | .str a, .lst xs => (strsD xs).bind fun ys => if (ys.map (·.length)).sum + ys.length * a.length ≤ cap then some (.str (Txt.join a ys)) else none
  | _, _ => none
def dSplit : D → D → Option D
  | .str a, .str b => if (b.length == 0) = false ∧ a.length + 2 ≤ cap then some (.lst ((Txt.split a b).map .str)) else none
  | _, _ => none
def dCountB : D → D → Option D
  | .lst xs, .bl k => (boolsD xs).map fun bs => .int (bs.count k : Nat)
  | _, _ => none
def dInS : D → D → Option D
  | .str x, .str z => match x.cps.toList with
    | [k] => some (.bl (decide (k ∈ z.cps.toList)))
    | _ => none
  | _, _ => none
/-- xs + ys of two lists -/
def dCat : D → D → Option D
  | .lst xs, .lst ys => if xs.length + ys.length ≤ cap then some (.lst (xs ++ ys)) else none
  | _, _ => none
def isTy (T : String) : D → Option D
  | .non => some (.bl (T == "NoneType"))
  | .bl _ => some (.bl (T == "bool" || T == "int"))
  | .int _ => some (.bl (T == "int"))
  | .str _ => some (.bl (T == "str"))
  | .tup _ => some (.bl (T == "tuple"))
  | .lst _ => some (.bl (T == "list"))
  | .ref _ => none

section
variable {c : Cc} {X : Cx} {pins : List Nat} {b1 b2 b3 : Bool} {f g h : EF} {t : BF} {fa fi : AF} {pos : Pos} {e o : Expr} {es : List Expr}
variable {H H1 H2 G G1 G2 : Hp} {s s1 s2 : S} {fp fp1 fp2 : List Addr} {σ σ1 σ2 : L2.St} {Z : Ends}
theorem callS_ok {r : List V → Hp → VK → Prop} {op : List D → Option D} {Q : VK} (hr : CallS c r op) (q : tE c b1 (eCall op fa) σ H Q) : tCB r (tA c b1 fa) σ H Q := by
  obtain ⟨G, s, fp, d, s', k, sl, hf, q⟩ := q
  unfold eCall at hf
  cases h1 : fa s with
  | none => rw [h1] at hf; exact nomatch hf
  | some p =>
    obtain ⟨ds, s1⟩ := p
    simp only [h1, Option.bind_some] at hf
    cases h2 : op ds with
    | none => simp [h2] at hf
    | some z =>
      simp only [h2, Option.map_some, Option.some.injEq, Prod.mk.injEq] at hf
      obtain ⟨rfl, rfl⟩ := hf
      exact ⟨G, s, fp, ds, s1, k, sl, h1, fun vs H1 G1 fp1 E1 S1 r1 p1 => hr Q E1.sub r1 h2 fun v H' G' gr r => q v H' G' fp1 (E1.grow S1 gr) (S1.step gr) r (p1.grow gr)⟩
theorem ex_callB {id : String} {x : Str} {p : Pos} {r : List V → Hp → VK → Prop} {op : List D → Option D} (hc : CallR X (.builtin id) r) (hr : CallS c r op) (hm : X.mg x = none) (ha : PA X (e :: es) (tA c b1 fa)) (hv : bootBuiltins x = some (.builtin id) := by decide +kernel) (hg : Gl X x := by rfl) (hn : x ≠ "__name__" := by decide) (hdb : (x == ("__debug__" : Str)) = false := by decide)
    (he : starEach (e :: es) X.env = (false, eval e X.env) :: starEach es X.env := by rfl) (hpl : (backTo pos (starEach es X.env)).any (·.1) = false := by rfl) : PE X (.Call (.Name x p) (e :: es) [] pos) (tE c b1 (eCall op fa)) :=
  PE_imp (pe_callB hc hg hm hv ha hn hdb he hpl) fun _ _ _ q => callS_ok hr q
theorem ex_callTy {T : String} {x : Str} {p : Pos} {r : List V → Hp → VK → Prop} {op : List D → Option D} (hc : CallR X (.type T) r) (hr : CallS c r op) (hm : X.mg x = none) (ha : PA X (e :: es) (tA c b1 fa)) (hv : bootBuiltins x = some (.type T) := by decide +kernel) (hg : Gl X x := by rfl) (hn : x ≠ "__name__" := by decide) (hdb : (x == ("__debug__" : Str)) = false := by decide)
    (he : starEach (e :: es) X.env = (false, eval e X.env) :: starEach es X.env := by rfl) (hpl : (backTo pos (starEach es X.env)).any (·.1) = false := by rfl) : PE X (.Call (.Name x p) (e :: es) [] pos) (tE c b1 (eCall op fa)) :=
  PE_imp (pe_callTy hc hg hm hv ha hn hdb he hpl) fun _ _ _ q => callS_ok hr q

theorem reps1 {K : PySem.W.Frag} {G : Hp} {vs : List V} {d : D} (r : Reps K G vs [d]) : ∃ v, vs = [v] ∧ Rep K G v d := by
  cases r with
  | cons r1 r2 => cases r2; exact ⟨_, rfl, r1⟩
theorem reps2 {K : PySem.W.Frag} {G : Hp} {vs : List V} {d d' : D} (r : Reps K G vs [d, d']) : ∃ v v', vs = [v, v'] ∧ Rep K G v d ∧ Rep K G v' d' := by
  cases r with
  | cons r1 r2 =>
    cases r2 with
    | cons r2 r3 => cases r3; exact ⟨_, _, rfl, r1, r2⟩
theorem cs_abs : CallS c (fun xs H Q => ∃ i, xs = [.int i] ∧ Q (.int (if i < 0 then -i else i)) H) bAbs := fun H G vs ds z Q e r hz q => by
  unfold bAbs at hz
  split at hz
  · cases hz
    obtain ⟨v, rfl, r1⟩ := reps1 r
    exact ⟨_, by rw [r1.ints], q _ _ _ (Grow.refl e) (.int _)⟩
  · exact nomatch hz
theorem cs_len : CallS c (fun xs H Q => ∃ x n, xs = [x] ∧ LenV c.K x H n ∧ Q (.int n) H) bLen := fun H G vs ds z Q e r hz q => by
  unfold bLen at hz
  split at hz
  · split at hz
    · rename_i hl
      cases hz
      obtain ⟨v, rfl, r1⟩ := reps1 r
      cases r1
      exact ⟨_, _, rfl, ⟨Nat.le_trans hl cap_line, rfl⟩, q _ _ _ (Grow.refl e) (.int _)⟩
    · exact nomatch hz
  · cases hz
    obtain ⟨v, rfl, r1⟩ := reps1 r
    cases r1 with
    | tup t1 r1 => exact ⟨_, _, rfl, .inr ⟨_, Same.sqT e t1, rfl⟩, q _ _ _ (Grow.refl e) (by rw [r1.length]; exact .int _)⟩
  · cases hz
    obtain ⟨v, rfl, r1⟩ := reps1 r
    cases r1 with
    | lst t1 r1 => exact ⟨_, _, rfl, .inl ⟨_, Same.sqL e t1, rfl⟩, q _ _ _ (Grow.refl e) (by rw [r1.length]; exact .int _)⟩
  · exact nomatch hz
theorem call_divmodB {X : Cx} : CallR X (.builtin "divmod") (fun xs H Q => ∃ i j, xs = [.int i, .int j] ∧ (0 < j ∧ j.natAbs.log2 < 9000) ∧ ∀ p, H p = none → Q (.ref p) (upd H p (.tup [.int (i / j), .int (i % j)]))) := by
  intro pins s σ H xs us Q I r h
  obtain ⟨i, j, rfl, ⟨h1, h2⟩, q⟩ := h
  obtain ⟨u, w', rfl, ⟨t, rfl⟩, ⟨t', rfl⟩⟩ := vals2 r
  refine divmod_int (by omega) ?_ (.inl (PyProof.noPylong_of_log2 h2))
  rw [Int.fdiv_eq_ediv_of_nonneg i (by omega), Int.fmod_eq_emod_of_nonneg i (by omega)]
  have hn : H s.heap.objs.size = none := I.hok.fresh (Nat.le_refl _)
  refine ⟨.ref s.heap.objs.size, _, ?_, rfl, q _ hn⟩
  refine I.laid (fun b o e => Heap.get?_push_of_some _ e) (Nat.le_refl _) ⟨by simp only [List.length_cons, List.length_nil]; rw [sizeLine_eq]; decide, [.int (i / j) s.toks, .int (i % j) (s.toks + 1)], .cons ⟨_, rfl⟩ (.cons ⟨_, rfl⟩ .nil), ?_⟩
  exact ⟨_, Heap.get?_push_size s.heap rfl, rfl, 0, rfl⟩
theorem cs_divmod : CallS c (fun xs H Q => ∃ i j, xs = [.int i, .int j] ∧ (0 < j ∧ j.natAbs.log2 < 9000) ∧ ∀ p, H p = none → Q (.ref p) (upd H p (.tup [.int (i / j), .int (i % j)]))) bDivmod := fun H G vs ds z Q e r hz q => by
  unfold bDivmod at hz
  split at hz
  · split at hz
    · rename_i hc
      cases hz
      obtain ⟨v, v', rfl, r1, r2⟩ := reps2 r
      exact ⟨_, _, by rw [r1.ints, r2.ints], hc, fun p hp => q _ _ _ (Grow.alloc e hp) (.tup (SqT.of upd_same) (.cons (.int _) (.cons (.int _) .nil)))⟩
    · exact nomatch hz
  · exact nomatch hz
theorem cs_str : CallS c (fun xs H Q => ∃ i, xs = [.int i] ∧ i.natAbs.log2 < 1920 ∧ Q (.str (toString i)) H) bStr := fun H G vs ds z Q e r hz q => by
  unfold bStr at hz
  split at hz
  · split at hz
    · rename_i hc
      cases hz
      obtain ⟨v, rfl, r1⟩ := reps1 r
      exact ⟨_, by rw [r1.ints], hc, q _ _ _ (Grow.refl e) (.str _)⟩
    · exact nomatch hz
  · exact nomatch hz
def rIntA : List V → Hp → VK → Prop := fun xs H Q => (∃ a n, xs = [.str a] ∧ PySem.intText? a = some n ∧ a.length ≤ 640 ∧ Q (.int n) H) ∨ ((∃ i, xs = [.int i] ∧ Q (.int i) H) ∨ ∃ k, xs = [.bl k] ∧ Q (.int (if k then 1 else 0)) H)
theorem CallR.or {f : Value} {r r' : List V → Hp → VK → Prop} (h : CallR X f r) (h' : CallR X f r') : CallR X f (fun xs H Q => r xs H Q ∨ r' xs H Q) := by
  intro pins s σ H xs us Q I rx q
  rcases q with q | q
  · exact h pins s σ H xs us Q I rx q
  · exact h' pins s σ H xs us Q I rx q
theorem call_intA : CallR X (.type "int") rIntA := CallR.or call_int_str call_int1
theorem cs_int : CallS c rIntA bInt := fun H G vs ds z Q e r hz q => by
  unfold bInt at hz
  split at hz
  · split at hz
    · rename_i a hc
      obtain ⟨v, rfl, r1⟩ := reps1 r
      cases r1
      cases hn : PySem.intText? a with
      | none => rw [hn] at hz; exact nomatch hz
      | some n =>
        rw [hn] at hz
        cases hz
        exact .inl ⟨_, _, rfl, hn, hc, q _ _ _ (Grow.refl e) (.int _)⟩
    · exact nomatch hz
  · cases hz
    obtain ⟨v, rfl, r1⟩ := reps1 r
    exact .inr (.inl ⟨_, by rw [r1.ints], q _ _ _ (Grow.refl e) (.int _)⟩)
  · cases hz
    obtain ⟨v, rfl, r1⟩ := reps1 r
    cases r1
    exact .inr (.inr ⟨_, rfl, q _ _ _ (Grow.refl e) (.int _)⟩)
  · exact nomatch hz
theorem bools_rep {K : PySem.W.Frag} {G : Hp} : ∀ {vs : List V} {xs : List D} {bs : List Bool}, Reps K G vs xs → boolsD xs = some bs → vs = bs.map V.bl
  | _, _, _, .nil, h => by cases h; rfl
  | _, _, bs, .cons (d := d) (ds := ds) r t, h => by
    cases d <;> simp only [boolsD] at h <;> try contradiction
    cases e : boolsD ds with
    | none => rw [e] at h; exact nomatch h
    | some b2 =>
      rw [e] at h
      cases h
      cases r
      rw [bools_rep t e]
      rfl
theorem ints_rep {K : PySem.W.Frag} {G : Hp} : ∀ {vs : List V} {xs : List D} {bs : List Int}, Reps K G vs xs → intsD xs = some bs → vs = bs.map V.int
  | _, _, _, .nil, h => by cases h; rfl
  | _, _, bs, .cons (d := d) (ds := ds) r t, h => by
    cases d <;> simp only [intsD] at h <;> try contradiction
    cases e : intsD ds with
    | none => rw [e] at h; exact nomatch h
    | some b2 =>
      rw [e] at h
      cases h
      cases r
      rw [ints_rep t e]
      rfl
theorem strs_rep {K : PySem.W.Frag} {G : Hp} : ∀ {vs : List V} {xs : List D} {bs : List Str}, Reps K G vs xs → strsD xs = some bs → vs = bs.map V.str
  | _, _, _, .nil, h => by cases h; rfl
  | _, _, bs, .cons (d := d) (ds := ds) r t, h => by
    cases d <;> simp only [strsD] at h <;> try contradiction
    cases e : strsD ds with
    | none => rw [e] at h; exact nomatch h
    | some b2 =>
      rw [e] at h
      cases h
      cases r
      rw [strs_rep t e]
      rfl
theorem cs_all : CallS c (rAll c.K) bAll := fun H G vs ds z Q e r hz q => by
  unfold bAll at hz
  split at hz
  · rename_i xs
    cases hb : boolsD xs with
    | none => rw [hb] at hz; exact nomatch hz
    | some bs =>
      rw [hb] at hz
      cases hz
      obtain ⟨v, rfl, r1⟩ := reps1 r
      cases r1 with
      | lst t1 r1 => exact ⟨_, bs, rfl, by rw [← bools_rep r1 hb]; exact Same.sqL e t1, q _ _ _ (Grow.refl e) (.bl _)⟩
  · exact nomatch hz
theorem cs_any : CallS c (rAny c.K) bAny := fun H G vs ds z Q e r hz q => by
  unfold bAny at hz
  split at hz
  · rename_i xs
    cases hb : boolsD xs with
    | none => rw [hb] at hz; exact nomatch hz
    | some bs =>
      rw [hb] at hz
      cases hz
      obtain ⟨v, rfl, r1⟩ := reps1 r
      cases r1 with
      | lst t1 r1 => exact ⟨_, bs, rfl, by rw [← bools_rep r1 hb]; exact Same.sqL e t1, q _ _ _ (Grow.refl e) (.bl _)⟩
  · exact nomatch hz
theorem cs_sum : CallS c (rSum c.K) bSum := fun H G vs ds z Q e r hz q => by
  unfold bSum at hz
  split at hz
  · rename_i xs
    cases hb : intsD xs with
    | none => rw [hb] at hz; exact nomatch hz
    | some bs =>
      rw [hb] at hz
      cases hz
      obtain ⟨v, rfl, r1⟩ := reps1 r
      cases r1 with
      | lst t1 r1 => exact ⟨_, bs, rfl, by rw [← ints_rep r1 hb]; exact Same.sqL e t1, q _ _ _ (Grow.refl e) (.int _)⟩
  · exact nomatch hz
theorem cs_tuple : CallS c (fun xs H Q => ∃ p ys, xs = [.ref p] ∧ ((SqL c.K H p ys ∧ ∀ l, H l = none → Q (.ref l) (upd H l (.tup ys))) ∨ (SqT c.K H p ys ∧ Q (.ref p) H))) bTuple := fun H G vs ds z Q e r hz q => by
  unfold bTuple at hz
  split at hz
  · cases hz
    obtain ⟨v, rfl, r1⟩ := reps1 r
    cases r1 with
    | lst t1 r1 => exact ⟨_, _, rfl, .inl ⟨Same.sqL e t1, fun l hl => q _ _ _ (Grow.alloc e hl) (.tup (SqT.of upd_same) (r1.mono (same_upd (e.free hl))))⟩⟩
  · cases hz
    obtain ⟨v, rfl, r1⟩ := reps1 r
    cases r1 with
    | tup t1 r1 => exact ⟨_, _, rfl, .inr ⟨Same.sqT e t1, q _ _ _ (Grow.refl e) (.tup t1 r1)⟩⟩
  · exact nomatch hz
def rListOf (K : PySem.W.Frag) : List V → Hp → VK → Prop := fun xs H Q => ∃ p ys, xs = [.ref p] ∧ (SqL K H p ys ∨ SqT K H p ys) ∧ ∀ l, H l = none → Q (.ref l) (upd H l (.lst ys))
theorem cs_list : CallS c (rListOf c.K) bList := fun H G vs ds z Q e r hz q => by
  unfold bList at hz
  split at hz
  · cases hz
    obtain ⟨v, rfl, r1⟩ := reps1 r
    cases r1 with
    | lst t1 r1 => exact ⟨_, _, rfl, .inl (Same.sqL e t1), fun l hl => q _ _ _ (Grow.alloc e hl) (.lst (SqL.of upd_same) (r1.mono (same_upd (e.free hl))))⟩
  · cases hz
    obtain ⟨v, rfl, r1⟩ := reps1 r
    cases r1 with
    | tup t1 r1 => exact ⟨_, _, rfl, .inr (Same.sqT e t1), fun l hl => q _ _ _ (Grow.alloc e hl) (.lst (SqL.of upd_same) (r1.mono (same_upd (e.free hl))))⟩
  · exact nomatch hz
theorem cs_max : CallS c (fun xs H Q => ∃ i j, xs = [.int i, .int j] ∧ Q (.int (if j > i then j else i)) H) bMax := fun H G vs ds z Q e r hz q => by
  unfold bMax at hz
  split at hz
  · cases hz
    obtain ⟨v, v', rfl, r1, r2⟩ := reps2 r
    exact ⟨_, _, by rw [r1.ints, r2.ints], q _ _ _ (Grow.refl e) (.int _)⟩
  · exact nomatch hz
theorem cs_min : CallS c (fun xs H Q => ∃ i j, xs = [.int i, .int j] ∧ Q (.int (if j < i then j else i)) H) bMin := fun H G vs ds z Q e r hz q => by
  unfold bMin at hz
  split at hz
  · cases hz
    obtain ⟨v, v', rfl, r1, r2⟩ := reps2 r
    exact ⟨_, _, by rw [r1.ints, r2.ints], q _ _ _ (Grow.refl e) (.int _)⟩
  · exact nomatch hz
theorem Rep.ty {K : PySem.W.Frag} {G H : Hp} {v : V} {d z : D} {T : String} (e : Same G H) (r : Rep K G v d) (hT : T = "tuple" ∨ T = "list" ∨ T = "int" ∨ T = "bool" ∨ T = "str") (h : isTy T d = some z) : ∃ t b, TyX K H v t ∧ PySem.W.kitOne K t (.type T) = some b ∧ z = .bl b := by
  cases r with
  | non => cases h; rcases hT with rfl | rfl | rfl | rfl | rfl <;> exact ⟨_, _, .base .non, kit_ty (b := _) (r := false) (by decide +kernel), rfl⟩
  | bl b => cases h; rcases hT with rfl | rfl | rfl | rfl | rfl <;> first | exact ⟨_, _, .base (.bl b), kit_ty (r := false) (by decide +kernel), rfl⟩ | exact ⟨_, _, .base (.bl b), kit_ty (r := true) (by decide +kernel), rfl⟩
  | int i => cases h; rcases hT with rfl | rfl | rfl | rfl | rfl <;> first | exact ⟨_, _, .base (.int i), kit_ty (r := false) (by decide +kernel), rfl⟩ | exact ⟨_, _, .base (.int i), kit_ty (r := true) (by decide +kernel), rfl⟩
  | str x => cases h; rcases hT with rfl | rfl | rfl | rfl | rfl <;> first | exact ⟨_, _, .base (.str x), kit_ty (r := false) (by decide +kernel), rfl⟩ | exact ⟨_, _, .base (.str x), kit_ty (r := true) (by decide +kernel), rfl⟩
  | ref a => exact nomatch h
  | @tup a vs xs t1 r1 =>
    cases h
    have ht : TyX K H (.ref a) (.type "tuple") := by
      rcases Same.sqT e t1 with (h | ⟨o, h⟩) | ⟨o, its, n, hk, hc, _⟩
      · exact .base (.tup h)
      · exact .fTuple h
      · exact .kTuple hk hc
    rcases hT with rfl | rfl | rfl | rfl | rfl <;> first | exact ⟨_, _, ht, kit_ty (r := false) (by decide +kernel), rfl⟩ | exact ⟨_, _, ht, kit_ty (r := true) (by decide +kernel), rfl⟩
  | @lst a vs xs t1 r1 =>
    cases h
    have ht : TyX K H (.ref a) (.type "list") := by
      rcases Same.sqL e t1 with (h | ⟨o, h⟩) | ⟨o, its, n, hk, hc, _⟩
      · exact .base (.lst h)
      · exact .base (.frz h)
      · exact .kList hk hc
    rcases hT with rfl | rfl | rfl | rfl | rfl <;> first | exact ⟨_, _, ht, kit_ty (r := false) (by decide +kernel), rfl⟩ | exact ⟨_, _, ht, kit_ty (r := true) (by decide +kernel), rfl⟩
/-- isinstance(e, T), T a built-in class by its name -/
theorem ex_isi {T : String} {x2 : Str} {p p2 : Pos} (he : PE X e (tE c b1 f)) (hT : T = "tuple" ∨ T = "list" ∨ T = "int" ∨ T = "bool" ∨ T = "str") (hm : X.mg "isinstance" = none) (hm2 : X.mg x2 = none) (hv2 : bootBuiltins x2 = some (.type T)) (hK : X.K = c.K := by rfl) (hg : Gl X "isinstance" := by rfl) (hg2 : Gl X x2 := by rfl) (hn2 : x2 ≠ "__name__" := by decide) (hd2 : (x2 == ("__debug__" : Str)) = false := by decide)
    (hs : starEach [e, .Name x2 p2] X.env = (false, eval e X.env) :: starEach [.Name x2 p2] X.env := by rfl) (hs2 : starEach [.Name x2 p2] X.env = (false, eval (.Name x2 p2) X.env) :: starEach [] X.env := by rfl) (hpl : (backTo pos (starEach [.Name x2 p2] X.env)).any (·.1) = false := by rfl) :
    PE X (.Call (.Name "isinstance" p) [e, .Name x2 p2] [] pos) (tE c b1 (e1 (isTy T) f)) :=
  PE_imp (pe_callB call_isi hg hm (by decide +kernel) (pa_cons he (pa_cons (pe_bltn (v := .ty T) hg2 hm2 hv2 rfl hn2 hd2) pa_nil hs2) hs) (by decide) (by decide) hs hpl) fun σ H Q q => by
    rw [hK]
    have q2 := op1 (r := fun x H Q => ∃ t b, TyX c.K H x t ∧ PySem.W.kitOne c.K t (.type T) = some b ∧ Q (.bl b) H) (fun H G x dx dz Q e rx hz q => by
      obtain ⟨t, b, h1, h2, rfl⟩ := rx.ty e hT hz
      exact ⟨t, b, h1, h2, q _ _ _ (Grow.refl e) (.bl _)⟩) q
    obtain ⟨G, s, fp, d, s', k, sl, hf, q3⟩ := q2
    exact ⟨G, s, fp, d, s', k, sl, hf, fun v H1 G1 fp1 E1 S1 r1 p1 => by
      obtain ⟨t, b, h1, h2, h3⟩ := q3 v H1 G1 fp1 E1 S1 r1 p1
      exact ⟨v, .ty T, t, .type T, b, rfl, .ty T, h1, h2, h3⟩⟩
/-! ### methods -/
theorem ex_m1 {id : String} {name : Str} {apos : Pos} {r : V → List V → Hp → VK → Prop} {op : D → D → Option D} (slot : Slot "str" name id) (ty : typeOf (.builtin id) = pure (.type "method_descriptor")) (rule : MtR X id r) (hr : MtS c r op) (hst : ∀ dx dy z, op dx dy = some z → ∃ a, dx = .str a) (ho : PE X o (tE c b1 f)) (he : PE X e (tE c b2 g))
    (hs : starEach [e] X.env = [(false, eval e X.env)] := by rfl) (hbase : attributeBase o name X.env (eval o X.env) = eval o X.env := by rfl) (hline : (apos.endLine == pos.line) = true := by rfl) :
    PE X (.Call (.Attribute o name apos) [e] [] pos) (tE c (b1 && b2) (e2 op f g)) := PE_imp (pe_m1 slot ty rule ho he hs hbase hline) fun σ H Q ⟨G, s, fp, d, s', k, sl, hf, q⟩ => by
  unfold e2 at hf
  cases h1 : f s with
  | none => rw [h1] at hf; exact nomatch hf
  | some p =>
    obtain ⟨x, s1⟩ := p
    simp only [h1, Option.bind_some] at hf
    cases h2 : g s1 with
    | none => simp [h2] at hf
    | some p2 =>
      obtain ⟨y, s2⟩ := p2
      simp only [h2, Option.bind_some] at hf
      cases h3 : op x y with
      | none => simp [h3] at hf
      | some z =>
        simp only [h3, Option.map_some, Option.some.injEq, Prod.mk.injEq] at hf
        obtain ⟨rfl, rfl⟩ := hf
        obtain ⟨a, rfl⟩ := hst _ _ _ h3
        exact ⟨G, s, fp, _, s1, k, sl, h1, fun v H1 G1 fp1 E1 S1 r1 p1 => ⟨by cases r1; exact ⟨_, rfl⟩, G1, s1, fp1, y, s2, E1.ok, S1, h2, fun u H2 G2 fp2 E2 S2 r2 p2 =>
          hr Q E2.sub (r1.mono E2.gs) r2 h3 fun v' H' G' gr r' => q v' H' G' fp2 ((E1.trans E2).grow S2 gr) (S2.step gr) r' ((p1.and p2).grow gr)⟩⟩
theorem ms_part : MtS c (fun x xs H Q => ∃ a b, x = .str a ∧ xs = [.str b] ∧ (b.length == 0) = false ∧ a.length ≤ sizeLine ∧
    ∀ p, H p = none → Q (.ref p) (upd H p (.tup [.str (Txt.partition a b).1, .str (Txt.partition a b).2.1, .str (Txt.partition a b).2.2]))) dPart := fun H G x y dx dy z Q e rx ry hz q => by
  cases dx <;> cases dy <;> simp only [dPart] at hz <;> try contradiction
  split at hz
  · rename_i hc
    cases hz
    cases rx
    cases ry
    exact ⟨_, _, rfl, rfl, hc.1, Nat.le_trans hc.2 cap_line, fun p hp => q _ _ _ (Grow.alloc e hp) (.tup (SqT.of upd_same) (.cons (.str _) (.cons (.str _) (.cons (.str _) .nil))))⟩
  · exact nomatch hz
theorem ex_partition {apos : Pos} (ho : PE X o (tE c b1 f)) (he : PE X e (tE c b2 g)) (hs : starEach [e] X.env = [(false, eval e X.env)] := by rfl) (hbase : attributeBase o "partition" X.env (eval o X.env) = eval o X.env := by rfl) (hline : (apos.endLine == pos.line) = true := by rfl) :
    PE X (.Call (.Attribute o "partition" apos) [e] [] pos) (tE c (b1 && b2) (e2 dPart f g)) := ex_m1 F.slot_str_partition F.type_str_partition mt_partition ms_part (fun dx dy z h => by cases dx <;> first | exact ⟨_, rfl⟩ | (cases dy <;> contradiction)) ho he hs hbase hline
def rJoin (K : PySem.W.Frag) : V → List V → Hp → VK → Prop := fun x xs H Q => ∃ a p, ∃ ys : List Str, x = .str a ∧ xs = [.ref p] ∧ (SqL K H p (ys.map V.str) ∨ SqT K H p (ys.map V.str)) ∧ (ys.map (·.length)).sum + ys.length * a.length ≤ 16777216 ∧ Q (.str (Txt.join a ys)) H
theorem ms_join : MtS c (rJoin c.K) dJoin := fun H G x y dx dy z Q e rx ry hz q => by
  cases dx <;> cases dy <;> simp only [dJoin] at hz <;> try contradiction
  rename_i a xs
  cases hb : strsD xs with
  | none => rw [hb] at hz; exact nomatch hz
  | some ys =>
    simp only [hb, Option.bind_some] at hz
    split at hz
    · rename_i hc
      cases hz
      cases rx
      cases ry with
      | lst t1 r1 => exact ⟨_, _, ys, rfl, rfl, .inl (by rw [← strs_rep r1 hb]; exact Same.sqL e t1), Nat.le_trans hc (by decide), q _ _ _ (Grow.refl e) (.str _)⟩
    · exact nomatch hz
theorem ex_join {apos : Pos} (ho : PE X o (tE c b1 f)) (he : PE X e (tE c b2 g)) (hK : X.K = c.K := by rfl) (hs : starEach [e] X.env = [(false, eval e X.env)] := by rfl) (hbase : attributeBase o "join" X.env (eval o X.env) = eval o X.env := by rfl) (hline : (apos.endLine == pos.line) = true := by rfl) :
    PE X (.Call (.Attribute o "join" apos) [e] [] pos) (tE c (b1 && b2) (e2 dJoin f g)) := ex_m1 (r := rJoin X.K) F.slot_str_join F.type_str_join mt_join (by rw [hK]; exact ms_join) (fun dx dy z h => by cases dx <;> first | exact ⟨_, rfl⟩ | (cases dy <;> contradiction)) ho he hs hbase hline
theorem reps_strs {K : PySem.W.Frag} {G : Hp} : ∀ ys : List Str, Reps K G (ys.map V.str) (ys.map .str)
  | [] => .nil
  | y :: ys => .cons (.str y) (reps_strs ys)
theorem ms_split : MtS c (fun x xs H Q => ∃ a b, x = .str a ∧ xs = [.str b] ∧ (b.length == 0) = false ∧ a.length + 2 ≤ sizeLine ∧ rNewStrs (Txt.split a b) H Q) dSplit := fun H G x y dx dy z Q e rx ry hz q => by
  cases dx <;> cases dy <;> simp only [dSplit] at hz <;> try contradiction
  split at hz
  · rename_i hc
    cases hz
    cases rx
    cases ry
    exact ⟨_, _, rfl, rfl, hc.1, Nat.le_trans hc.2 cap_line, fun p hp => q _ _ _ (Grow.alloc e hp) (.lst (SqL.of upd_same) (reps_strs _))⟩
  · exact nomatch hz
theorem ex_split {apos : Pos} (ho : PE X o (tE c b1 f)) (he : PE X e (tE c b2 g)) (hs : starEach [e] X.env = [(false, eval e X.env)] := by rfl) (hbase : attributeBase o "split" X.env (eval o X.env) = eval o X.env := by rfl) (hline : (apos.endLine == pos.line) = true := by rfl) :
    PE X (.Call (.Attribute o "split" apos) [e] [] pos) (tE c (b1 && b2) (e2 dSplit f g)) := ex_m1 F.slot_str_split F.type_str_split mt_split ms_split (fun dx dy z h => by cases dx <;> first | exact ⟨_, rfl⟩ | (cases dy <;> contradiction)) ho he hs hbase hline
/-! ### one sign in a text; lists put together -/
def rInS1 : R2 := fun x y H Q => ∃ (k : Nat) (z : Str), x = .str ⟨#[k]⟩ ∧ y = .str z ∧ Q (.bl (decide (k ∈ z.cps.toList))) H
theorem op_inS1 : OpR X (compareOp .In) rInS1 := op_in_sign
theorem os_inS : OpS c rInS1 dInS := fun H G x y dx dy dz Q e rx ry hz q => by
  cases dx <;> cases dy <;> simp only [dInS] at hz <;> try contradiction
  rename_i a z
  split at hz
  · rename_i k hk
    cases hz
    cases rx
    cases ry
    have ea : a = ⟨#[k]⟩ := by
      cases a with
      | mk cps =>
        have : cps = #[k] := by
          apply Array.toList_inj.mp
          exact hk
        rw [this]
    exact ⟨k, z, by rw [ea], rfl, q _ _ _ (Grow.refl e) (.bl _)⟩
  · exact nomatch hz
theorem bo_inS : BoolOp2 dInS := fun x y z h => by
  cases x <;> cases y <;> simp only [dInS] at h <;> try contradiction
  split at h
  · cases h; exact ⟨_, rfl⟩
  · exact nomatch h
end
end DL
/-! DL 8: lists of one's own changed, borrowed; arguments lent to a def. -/
namespace DL
open PySem PySem.Spec PyProof.Rows L2

/-! ### xs + ys of lists that may be read -/
def rCatS (K : PySem.W.Frag) : R2 := fun x y H Q => ∃ l b xs zs, x = .ref l ∧ y = .ref b ∧ SqL K H l xs ∧ SqL K H b zs ∧ xs.length + zs.length ≤ sizeLine ∧ ∀ p, H p = none → Q (.ref p) (upd H p (.lst (xs ++ zs)))
theorem op_catS {X : Cx} : OpR X (binaryOp .Add) (rCatS X.K) := by
  intro pins s σ H x y v u Q I rx ry h
  obtain ⟨l, b, xs, zs, rfl, rfl, hH, hB, hz, q⟩ := h
  cases rx
  cases ry
  obtain ⟨its, r, hl, _⟩ := I.list hH
  obtain ⟨its2, r2, hl2, _⟩ := I.list hB
  have e1 := r.length
  have e2 := r2.length
  obtain ⟨⟨cls, dd, data, sl⟩, ho, hc, n, hd⟩ := hl.isList
  obtain ⟨⟨cls2, dd2, data2, sl2⟩, ho2, hc2, n2, hd2⟩ := hl2.isList
  simp only at hc hd hc2 hd2
  subst hc hd hc2 hd2
  have e : its.toArray ++ its2.toArray = (its ++ its2).toArray := by simp
  refine concat_meets ⟨_, ho, rfl⟩ ⟨_, ho2, rfl⟩ noFill_list_add seq_list_add PySem.F.slot_list_add PySem.F.entry_list_add (PySem.F.args_list_add_2 _ _) (list_addW l b its.toArray its2.toArray n n2 dd dd2 sl sl2 (by simpa [← e1, ← e2] using hz)) ⟨ho, ho2, ?_⟩
  rw [e]
  exact ⟨.ref _, _, I.lnew (t' := s.toks) (r.append r2) (by rw [List.length_append]; omega), rfl, q _ I.fresh⟩
def rAddL (K : PySem.W.Frag) : R2 := fun x y H Q => rAddA K x y H Q ∨ rCatS K x y H Q
theorem op_addL {X : Cx} : OpR X (binaryOp .Add) (rAddL X.K) := op_addA.or op_catS
def dAddL : D → D → Option D
  | .lst xs, .lst ys => if xs.length + ys.length ≤ cap then some (.lst (xs ++ ys)) else none
  | x, y => dAdd x y
theorem os_addL {c : Cc} : OpS c (rAddL c.K) dAddL := fun H G x y dx dy dz Q e rx ry hz q => by
  cases dx <;> first
    | (refine .inl (os_add Q e rx ry ?_ q); cases dy <;> first | exact hz | contradiction; done)
    | (cases dy <;> try contradiction
       simp only [dAddL] at hz
       split at hz
       · rename_i hc
         cases hz
         cases rx with
         | lst t1 r1 =>
         cases ry with
         | lst t2 r2 =>
         refine .inr ⟨_, _, _, _, rfl, rfl, Same.sqL e t1, Same.sqL e t2, by rw [r1.length, r2.length]; exact Nat.le_trans hc cap_line, fun p hp => ?_⟩
         exact q _ _ _ (Grow.alloc e hp) (.lst (SqL.of upd_same) ((r1.append r2).mono (same_upd (e.free hp))))
       · contradiction)

/-! ### data without lists -/
mutual
def noL : D → Bool
  | .lst _ => false
  | .tup xs => noLs xs
  | _ => true
def noLs : List D → Bool
  | [] => true
  | x :: xs => noL x && noLs xs
end
def eBor (i : Nat) (f : EF) : EF := fun s => match s[i]? with
  | some (.lst xs) => (f (s.set i (.val (.lst xs)))).bind fun p => if noL p.1 = true then some (p.1, s) else none
  | _ => f s
def dropA (G : Hp) (p : Addr) : Hp := fun a => if a = p then none else G a
theorem sqT_drop {K : PySem.W.Frag} {G : Hp} {p a : Addr} {vs us : List V} (hp : G p = some (.lst us)) (h : SqT K G a vs) : SqT K (dropA G p) a vs := by
  rcases h with (h | ⟨o, h⟩) | h
  · exact .inl (.inl (by unfold dropA; rw [if_neg fun z => by rw [z, hp] at h; cases h]; exact h))
  · exact .inl (.inr ⟨o, by unfold dropA; rw [if_neg fun z => by rw [z, hp] at h; cases h]; exact h⟩)
  · exact .inr h
mutual
theorem Rep.noL {K : PySem.W.Frag} {G : Hp} {p : Addr} {us : List V} (hp : G p = some (.lst us)) : ∀ {v : V} {d : D}, DL.noL d = true → Rep K G v d → Rep K (dropA G p) v d
  | _, _, _, .non => .non
  | _, _, _, .bl b => .bl b
  | _, _, _, .int i => .int i
  | _, _, _, .str x => .str x
  | _, _, _, .ref a => .ref a
  | _, _, h, .tup t r => .tup (sqT_drop hp t) (Reps.noL hp (by simpa [DL.noL] using h) r)
  | _, _, h, .lst _ _ => by simp [DL.noL] at h
theorem Reps.noL {K : PySem.W.Frag} {G : Hp} {p : Addr} {us : List V} (hp : G p = some (.lst us)) : ∀ {vs : List V} {ds : List D}, noLs ds = true → Reps K G vs ds → Reps K (dropA G p) vs ds
  | _, _, _, .nil => .nil
  | _, _, h, .cons r t => by
    obtain ⟨h1, h2⟩ := Bool.and_eq_true_iff.mp (by simpa [noLs] using h)
    exact .cons (Rep.noL hp h1 r) (Reps.noL hp h2 t)
end
section
variable {c : Cc} {X : Cx} {pins : List Nat} {b1 b2 b3 : Bool} {f g h : EF} {t : BF} {fa fi : AF} {pos : Pos} {e o : Expr} {es : List Expr}
variable {H H1 H2 G G1 G2 : Hp} {s s1 s2 : S} {fp fp1 fp2 : List Addr} {σ σ1 σ2 : L2.St} {Z : Ends}
theorem ex_bor (i : Nat) (he : PE X e (tE c true f)) : PE X e (tE c true (eBor i f)) := PE_imp he fun σ H Q ⟨G, s, fp, d, s', k, sl, hf, q⟩ => by
  unfold eBor at hf
  split at hf
  · rename_i xs hx
    obtain ⟨v0, f1, f2, h1, h2, hp, hk⟩ := sl.split hx (by simp)
    cases h2 with
    | @lst p vs _ hv r =>
      have gp : G p = none := k.own p (hp.mem_iff.mpr (by simp))
      have sg : Same G (upd G p (.lst vs)) := same_upd gp
      have rr : Rep c.K (upd G p (.lst vs)) (.ref p) (.lst xs) := .lst (SqL.of upd_same) (r.mono sg)
      obtain ⟨fp', p', sl'⟩ := hk H (upd G p (.lst vs)) (.val (.lst xs)) [] (.val rr) (fun _ _ => rfl) sg
      have nd := List.nodup_append.mp (hp.nodup_iff.mp k.nd)
      have k' : Ok H (upd G p (.lst vs)) fp' := ⟨fun b o hb => by
          by_cases hbp : b = p
          · subst hbp; rw [upd_same] at hb; rw [← hb]; exact hv
          · rw [upd_ne hbp] at hb; exact k.sub b o hb, fun x hx => by
          have hx2 : x ∈ f2 := by simpa using p'.mem_iff.mp hx
          rw [upd_ne fun z => nd.2.2 p (by simp) x hx2 z.symm]
          exact k.own x (hp.mem_iff.mpr (List.mem_append_right _ hx2)), p'.nodup_iff.mpr (by simpa using nd.2.1)⟩
      cases h3 : f (s.set i (.val (.lst xs))) with
      | none => rw [h3] at hf; exact nomatch hf
      | some pp =>
        obtain ⟨d1, s1⟩ := pp
        simp only [h3, Option.bind_some] at hf
        split at hf
        · rename_i hn
          cases hf
          refine ⟨_, _, fp', _, s1, k', sl', h3, fun v H1 G1 fp1 E1 S1 r1 pu => ?_⟩
          obtain ⟨gr, _⟩ := pu rfl
          have gp1 : G1 p = some (.lst vs) := gr.gs p _ upd_same
          have gr2 : Grow H G H1 (dropA G1 p) := ⟨gr.hs, fun a o ha => by
              have hne : a ≠ p := fun z => by rw [z, gp] at ha; cases ha
              unfold dropA
              rw [if_neg hne]
              exact gr.gs a o (by rw [upd_ne hne]; exact ha), fun a o ha => by
              unfold dropA at ha
              split at ha
              · cases ha
              · exact gr.sub a o ha, fun a ha => by
              unfold dropA
              by_cases hne : a = p
              · rw [if_pos hne, hne, gp]
              · rw [if_neg hne, gr.nw a ha, upd_ne hne]⟩
          exact q v H1 (dropA G1 p) fp (gr2.ev k sl) (sl.step gr2) (r1.noL gp1 hn) fun _ => ⟨gr2, rfl⟩
        · exact nomatch hf
  · exact ⟨G, s, fp, d, s', k, sl, hf, q⟩
/-! ### a[i] = d -/
theorem gx_ix (kk : Nat) {x : Str} {p1 : Pos} {i : Expr} (hi : PE X i (tE c b1 f)) (hN : X.N[kk]? = some x := by rfl) (hv : Vis X.env.scope x := by first | exact Or.inl rfl | exact Or.inr (Or.inl rfl)) (hd : (x == ("__debug__" : Str)) = false := by decide) (hcd : (x == ("__classdict__" : Str)) = false := by decide)
    (ha : ∀ v, assign (.Subscript (.Name x p1) i pos) X.env v = (do
      let ov ← holding [v] (eval (.Name x p1) X.env)
      let iv ← holding [v, ov] (eval i X.env)
      standAt pos
      holding [v, ov, iv] (setItem ov iv v)
      release [v, ov, iv] []) := by exact fun _ => rfl) : PG X (.Subscript (.Name x p1) i pos) (tG c pins false (gIx kk f)) :=
  PG_imp (pg_sub (pe_var hN hv hd hcd) hi set_list ha) fun v σ H Q ⟨G, s, fp, d, s', k, sl, r, hg, q⟩ => by
    unfold gIx at hg
    split at hg
    · rename_i xs0 hx0
      obtain ⟨p0, vs0, _, hσ, _⟩ := own_lst k sl hx0
      cases h1 : f s with
      | none => rw [h1] at hg; exact nomatch hg
      | some pp =>
        obtain ⟨di, s1⟩ := pp
        simp only [h1, Option.bind_some] at hg
        split at hg
        · rename_i o1 o2 i xs e2
          cases hj : ixN xs.length i with
          | none => rw [hj] at hg; exact nomatch hg
          | some j =>
            rw [hj] at hg
            cases hg
            refine ⟨_, hσ, G, s, fp, _, s1, k, sl, h1, fun iv H1 G1 fp1 E1 S1 r1 _ => ?_⟩
            obtain ⟨p, vs, f2, hσ2, hv2, rr, _, kk2⟩ := own_lst E1.ok S1 e2
            rw [hσ] at hσ2
            cases hσ2
            obtain ⟨fp', E2, S2⟩ := kk2 (vs.set j v) (xs.set j d) (rr.set (r.mono E1.gs) j)
            refine ⟨_, vs, i, j, rfl, r1.ints, hv2, by rw [rr.length]; exact hj, q σ _ G1 fp' (E1.trans E2) S2 PinEq.refl fun z => nomatch z⟩
        · exact nomatch hg
    · exact nomatch hg
end

/-! ### lent arguments -/
inductive Arg where
  | own (i : Nat) | val (d : D) | new (xs : List D)
abbrev AOF := S → Option (List Arg × S)
inductive ArgsV (c : Cc) (H G : Hp) (σ : L2.St) : List Arg → List V → List Addr → Prop
  | nil : ArgsV c H G σ [] [] []
  | own {i : Nat} {v : V} {as : List Arg} {vs : List V} {fx : List Addr} : σ[i]? = some (some v) → ArgsV c H G σ as vs fx → ArgsV c H G σ (.own i :: as) (v :: vs) fx
  | val {d : D} {v : V} {as : List Arg} {vs : List V} {fx : List Addr} : Rep c.K G v d → ArgsV c H G σ as vs fx → ArgsV c H G σ (.val d :: as) (v :: vs) fx
  | new {xs : List D} {p : Addr} {ws : List V} {as : List Arg} {vs : List V} {fx : List Addr} : H p = some (.lst ws) → Reps c.K G ws xs → ArgsV c H G σ as vs fx → ArgsV c H G σ (.new xs :: as) (.ref p :: vs) (p :: fx)
def tAO (c : Cc) (f : AOF) : TA := fun σ H Q => ∃ G s fp d s', Ok H G fp ∧ Slots c H G σ s fp ∧ f s = some (d, s') ∧
  ∀ vs fx H' G' fp', Ev H G fp H' G' (fx ++ fp') → Slots c H' G' σ s' fp' → ArgsV c H' G' σ d vs fx → Q vs H'
def isUn : O → Bool
  | .un => true
  | _ => false
def aoNil : AOF := fun s => some ([], s)
def aoOwn (i : Nat) (r : AOF) : AOF := fun s => match s[i]? with
  | some o => if isUn o = true then none else (r s).map fun p => (.own i :: p.1, p.2)
  | none => none
def aoVal (f : EF) (r : AOF) : AOF := fun s => (f s).bind fun p => (r p.2).map fun q => (.val p.1 :: q.1, q.2)
def aoNew (f : AF) (r : AOF) : AOF := fun s => (f s).bind fun p => (r p.2).map fun q => (.new p.1 :: q.1, q.2)
def takeO : S → List Arg → Option (List O × S)
  | s, [] => some ([], s)
  | s, .val d :: r => (takeO s r).map fun p => (.val d :: p.1, p.2)
  | s, .new xs :: r => (takeO s r).map fun p => (.lst xs :: p.1, p.2)
  | s, .own i :: r => match s[i]? with
    | some o => if isUn o = true then none else (takeO (s.set i .un) r).map fun p => (o :: p.1, p.2)
    | none => none
def putO : S → List Arg → List O → Option S
  | s, [], [] => some s
  | s, .val _ :: r, o :: os => if isUn o = true then putO s r os else none
  | s, .new _ :: r, _ :: os => putO s r os
  | s, .own i :: r, o :: os => if isUn o = true then putO s r os else match s[i]? with
    | some .un => putO (s.set i o) r os
    | _ => none
  | _, _, _ => none
def eCallO (m : List O → Option (D × List O)) (fa : AOF) : EF := fun s => (fa s).bind fun p => (takeO p.2 p.1).bind fun q => (m q.1).bind fun r => (putO q.2 p.1 r.2).map fun s3 => (r.1, s3)
def spO (c : Cc) (m : List O → Option (D × List O)) : Sp := fun vs H Q _ => ∃ G fp as r as', Ok H G fp ∧ Slots c H G (vs.map some) as fp ∧ m as = some (r, as') ∧
  ∀ v H' G' fp', Ev H G fp H' G' fp' → Slots c H' G' (vs.map some) as' fp' → Rep c.K G' v r → Q v H'
section
variable {c : Cc} {X : Cx} {pins : List Nat} {b1 b2 b3 : Bool} {f g h : EF} {fao : AOF} {pos : Pos} {e o : Expr} {es : List Expr}
variable {H H' H1 H2 G G' G1 G2 : Hp} {s s1 s2 : S} {fp fp' fp1 fp2 : List Addr} {σ σ1 σ2 : L2.St} {Z : Ends}
theorem xao_nil : PA X [] (tAO c aoNil) := PA_imp pa_nil fun σ H Q ⟨G, s, fp, d, s', k, sl, hf, q⟩ => by
  cases hf
  exact q [] [] H G fp (Ev.refl k) sl .nil
theorem xao_own (i : Nat) {x : Str} {p : Pos} (hr : PA X es (tAO c fao)) (hN : X.N[i]? = some x := by rfl) (hv : Vis X.env.scope x := by first | exact Or.inl rfl | exact Or.inr (Or.inl rfl) | exact Or.inr (Or.inr rfl)) (hd : (x == ("__debug__" : Str)) = false := by decide) (hcd : (x == ("__classdict__" : Str)) = false := by decide)
    (hs : starEach (.Name x p :: es) X.env = (false, eval (.Name x p) X.env) :: starEach es X.env := by rfl) : PA X (.Name x p :: es) (tAO c (aoOwn i fao)) := PA_imp (pa_cons (pe_var hN hv hd hcd) hr hs) fun σ H Q ⟨G, s, fp, d, s', k, sl, hf, q⟩ => by
  unfold aoOwn at hf
  split at hf
  · rename_i o ho
    split at hf
    · exact nomatch hf
    · rename_i hu
      obtain ⟨v, f1, f2, h1, _⟩ := sl.split ho (fun z => hu (by rw [z]; rfl))
      cases h2 : fao s with
      | none => rw [h2] at hf; exact nomatch hf
      | some pp =>
        obtain ⟨as, s1⟩ := pp
        simp only [h2, Option.map_some, Option.some.injEq, Prod.mk.injEq] at hf
        obtain ⟨rfl, rfl⟩ := hf
        exact ⟨v, h1, G, s, fp, as, s1, k, sl, h2, fun vs fx H1 G1 fp1 E1 S1 a1 => q (v :: vs) fx H1 G1 fp1 E1 S1 (.own h1 a1)⟩
  · exact nomatch hf
theorem xao_val (he : PE X e (tE c b1 f)) (hr : PA X es (tAO c fao)) (hs : starEach (e :: es) X.env = (false, eval e X.env) :: starEach es X.env := by rfl) : PA X (e :: es) (tAO c (aoVal f fao)) := PA_imp (pa_cons he hr hs) fun σ H Q ⟨G, s, fp, d, s', k, sl, hf, q⟩ => by
  unfold aoVal at hf
  cases h1 : f s with
  | none => rw [h1] at hf; exact nomatch hf
  | some p =>
    obtain ⟨x, s1⟩ := p
    simp only [h1, Option.bind_some] at hf
    cases h2 : fao s1 with
    | none => simp [h2] at hf
    | some p2 =>
      obtain ⟨ys, s2⟩ := p2
      simp only [h2, Option.map_some, Option.some.injEq, Prod.mk.injEq] at hf
      obtain ⟨rfl, rfl⟩ := hf
      exact ⟨G, s, fp, x, s1, k, sl, h1, fun v H1 G1 fp1 E1 S1 r1 p1 => ⟨G1, s1, fp1, ys, s2, E1.ok, S1, h2, fun us fx H2 G2 fp2 E2 S2 r2 =>
        q (v :: us) fx H2 G2 fp2 (E1.trans E2) S2 (.val (r1.mono E2.gs) r2)⟩⟩
theorem xao_new (he : PE X e (tN c fa)) (hr : PA X es (tAO c fao)) (hs : starEach (e :: es) X.env = (false, eval e X.env) :: starEach es X.env := by rfl) : PA X (e :: es) (tAO c (aoNew fa fao)) := PA_imp (pa_cons he hr hs) fun σ H Q ⟨G, s, fp, d, s', k, sl, hf, q⟩ => by
  unfold aoNew at hf
  cases h1 : fa s with
  | none => rw [h1] at hf; exact nomatch hf
  | some p =>
    obtain ⟨x, s1⟩ := p
    simp only [h1, Option.bind_some] at hf
    cases h2 : fao s1 with
    | none => simp [h2] at hf
    | some p2 =>
      obtain ⟨ys, s2⟩ := p2
      simp only [h2, Option.map_some, Option.some.injEq, Prod.mk.injEq] at hf
      obtain ⟨rfl, rfl⟩ := hf
      refine ⟨G, s, fp, x, s1, k, sl, h1, fun p ws H1 G1 fp1 E1 S1 hv r1 => ?_⟩
      have pm : (p :: fp1).Perm (fp1 ++ [p]) := List.perm_append_comm (l₁ := [p]) (l₂ := fp1)
      have np : p ∉ fp1 := (List.nodup_cons.mp E1.nd).1
      refine ⟨G1, s1, fp1, ys, s2, E1.ok.left pm, S1, h2, fun us fx H2 G2 fp2 E2 S2 r2 => ?_⟩
      have E3 := Ev.beside E1.ok pm (fun a ha => by
        have e : a = p := by simpa using ha
        rw [e, hv]; simp) E2
      refine q (.ref p :: us) (p :: fx) H2 G2 fp2 (E1.trans (E3.perm ?_)) S2 (.new (E2.frame p _ hv np) (r1.mono E2.gs) r2)
      exact List.perm_append_comm (l₁ := [p]) (l₂ := fx ++ fp2)
theorem takeAll : ∀ {as : List Arg} {vs : List V} {fx : List Addr} {s s2 : S} {fp : List Addr} {os : List O}, Slots c H G σ s fp → ArgsV c H G σ as vs fx → takeO s as = some (os, s2) → ∃ f1 f2, (fx ++ fp).Perm (f1 ++ f2) ∧ Slots c H G (vs.map some) os f1 ∧ Slots c H G σ s2 f2
  | _, _, _, s, s2, fp, os, sl, .nil, ht => by
    cases ht
    exact ⟨[], fp, List.Perm.refl _, .nil, sl⟩
  | _, _, _, s, s2, fp, os, sl, .val (as := as) hr ha, ht => by
    simp only [takeO] at ht
    cases h1 : takeO s as with
    | none => rw [h1] at ht; exact nomatch ht
    | some p =>
      obtain ⟨o2, s3⟩ := p
      simp only [h1, Option.map_some, Option.some.injEq, Prod.mk.injEq] at ht
      obtain ⟨rfl, rfl⟩ := ht
      obtain ⟨f1, f2, hp, S1, S2⟩ := takeAll sl ha h1
      exact ⟨f1, f2, hp, by simpa using Slots.cons (.val hr) S1, S2⟩
  | _, _, _, s, s2, fp, os, sl, .new (as := as) (p := p) (fx := fx) hv hr ha, ht => by
    simp only [takeO] at ht
    cases h1 : takeO s as with
    | none => rw [h1] at ht; exact nomatch ht
    | some pp =>
      obtain ⟨o2, s3⟩ := pp
      simp only [h1, Option.map_some, Option.some.injEq, Prod.mk.injEq] at ht
      obtain ⟨rfl, rfl⟩ := ht
      obtain ⟨f1, f2, hp, S1, S2⟩ := takeAll sl ha h1
      exact ⟨p :: f1, f2, List.Perm.cons p hp, Slots.cons (.lst hv hr) S1, S2⟩
  | _, _, _, s, s2, fp, os, sl, .own (as := as) (i := i) (fx := fx) hi ha, ht => by
    simp only [takeO] at ht
    split at ht
    · rename_i o ho
      split at ht
      · exact nomatch ht
      · rename_i hu
        cases h1 : takeO (s.set i .un) as with
        | none => rw [h1] at ht; exact nomatch ht
        | some p =>
          obtain ⟨o2, s3⟩ := p
          simp only [h1, Option.map_some, Option.some.injEq, Prod.mk.injEq] at ht
          obtain ⟨rfl, rfl⟩ := ht
          obtain ⟨v', g1, g2, hσ, ho', hp, S0⟩ := sl.take ho (fun z => hu (by rw [z]; rfl))
          rw [hi] at hσ
          cases hσ
          obtain ⟨f1, f2, hp2, S1, S2⟩ := takeAll S0 ha h1
          refine ⟨g1 ++ f1, f2, ?_, .cons ho' S1, S2⟩
          rw [List.append_assoc]
          refine (List.Perm.append_left fx hp).trans (List.Perm.trans ?_ (List.Perm.append_left g1 hp2))
          rw [← List.append_assoc, ← List.append_assoc]
          exact List.Perm.append_right g2 List.perm_append_comm
    · exact nomatch ht
theorem putAll : ∀ {as : List Arg} {vs : List V} {fx : List Addr} {s s2 : S} {f1 f2 : List Addr} {os : List O} {G0 H0 : Hp}, Slots c H G σ s f2 → Slots c H G (vs.map some) os f1 → ArgsV c H0 G0 σ as vs fx → putO s as os = some s2 → ∃ fr fq, (f1 ++ f2).Perm (fr ++ fq) ∧ Slots c H G σ s2 fq
  | _, _, _, s, s2, f1, f2, os, _, _, sl, S1, .nil, ht => by
    cases S1
    cases ht
    exact ⟨[], f2, List.Perm.refl _, sl⟩
  | _, _, _, s, s2, f1, f2, os, _, _, sl, S1, .val hr ha, ht => by
    cases S1 with
    | un t => exact putAll sl t ha (by simpa [putO, isUn] using ht)
    | cons w t => cases w <;> simp [putO, isUn] at ht
  | _, _, _, s, s2, f1, f2, os, _, _, sl, S1, .new hv hr ha, ht => by
    cases S1 with
    | un t => exact putAll sl t ha (by simpa [putO] using ht)
    | @cons _ o _ r g1 g2 w t =>
      obtain ⟨fr, fq, pq, S3⟩ := putAll sl t ha (by simpa [putO] using ht)
      refine ⟨g1 ++ fr, fq, ?_, S3⟩
      rw [List.append_assoc, List.append_assoc]
      exact List.Perm.append_left g1 pq
  | _, _, _, s, s2, f1, f2, os, _, _, sl, S1, .own hi ha, ht => by
    cases S1 with
    | un t => exact putAll sl t ha (by simpa [putO, isUn] using ht)
    | @cons _ o _ r g1 g2 w t =>
      have hu : isUn o = false := by cases w <;> rfl
      simp only [putO, hu] at ht
      rw [if_neg Bool.false_ne_true] at ht
      split at ht
      · rename_i e
        obtain ⟨fq, pq, S3⟩ := Slots.back w sl e hi
        obtain ⟨fr, fs, pr, S4⟩ := putAll S3 t ha ht
        refine ⟨fr, fs, List.Perm.trans ?_ pr, S4⟩
        refine List.Perm.trans ?_ (List.Perm.append_left g2 pq.symm)
        rw [← List.append_assoc]
        exact List.Perm.append_right f2 List.perm_append_comm
      · exact nomatch ht
theorem callO_ok {m : List O → Option (D × List O)} {E : XK} {Q : VK} (q : tE c false (eCallO m fao) σ H Q) : tCall (spO c m) [] E (tAO c fao) σ H Q := by
  obtain ⟨G, s, fp, d, s', k, sl, hf, q⟩ := q
  unfold eCallO at hf
  cases h1 : fao s with
  | none => rw [h1] at hf; exact nomatch hf
  | some p =>
    obtain ⟨as, s1⟩ := p
    simp only [h1, Option.bind_some] at hf
    cases h2 : takeO s1 as with
    | none => simp [h2] at hf
    | some p2 =>
      obtain ⟨os, s2⟩ := p2
      simp only [h2, Option.bind_some] at hf
      cases h3 : m os with
      | none => simp [h3] at hf
      | some p3 =>
        obtain ⟨r, os'⟩ := p3
        simp only [h3, Option.bind_some] at hf
        cases h4 : putO s2 as os' with
        | none => simp [h4] at hf
        | some s3 =>
          simp only [h4, Option.map_some, Option.some.injEq, Prod.mk.injEq] at hf
          obtain ⟨rfl, rfl⟩ := hf
          refine ⟨G, s, fp, as, s1, k, sl, h1, fun vs fx H1 G1 fp1 E1 S1 a1 => ?_⟩
          obtain ⟨f1, f2, hp, T1, T2⟩ := takeAll S1 a1 h2
          refine ⟨G1, f1, os, r, os', E1.ok.left hp, by rw [List.append_nil]; exact T1, h3, fun v H' G' fp' E' S' r' => ?_⟩
          rw [List.append_nil] at S'
          have nd := List.nodup_append.mp (hp.nodup_iff.mp E1.nd)
          have E2 := Ev.beside E1.ok hp (T2.there) E'
          have T3 : Slots c H' G' σ s2 f2 := T2.stay E'.gs fun a ha => by
            cases z : H1 a with
            | none => exact absurd z (T2.there a ha)
            | some o => exact E'.frame a o z fun y => nd.2.2 a y a ha rfl
          obtain ⟨fr, fq, pq, T4⟩ := putAll T3 S' a1 h4
          exact q v H' G' fq (E1.trans (E2.less pq)) T4 r' fun z => nomatch z
section
variable {kl : Nat} {fA : Addr} {fd : FuncData} {ps : List Str} {x : Str} {p : Pos} {m : List O → Option (D × List O)}
theorem ex_callO (F : FnOk X.prog X.w X.K X.mg X.base CX0 kl fA fd ps (spO c m)) (hr : Room kl X.A) (hm : X.mg x = some (.ref fA)) (hk : PySem.W.keepIn X.K (.ref fA) = true) (hb : Binds X.K fd ps []) (ha : PA X (e :: es) (tAO c fao)) (hg : Gl X x := by rfl)
    (hdb : (x == ("__debug__" : Str)) = false := by decide) (he : starEach (e :: es) X.env = (false, eval e X.env) :: starEach es X.env := by rfl) (hpl : (backTo pos (starEach es X.env)).any (·.1) = false := by rfl) :
    PE X (.Call (.Name x p) (e :: es) [] pos) (tE c false (eCallO m fao)) := PE_imp (pe_call (E := E0) F hr hg hm hk hb .nil pass0 ha hdb he hpl) fun _ _ _ q => callO_ok q
end
/-! ### a def with lent parameters -/
def keepO : List Bool → S → List O
  | true :: bs, o :: s => o :: keepO bs s
  | false :: bs, _ :: s => .un :: keepO bs s
  | _, _ => []
def runO (mask : List Bool) (n : Nat) (fb : SF) (as : List O) : Option (D × List O) := if as.length = mask.length then (fb (as ++ List.replicate (n - mask.length) O.un)).bind fun fl => match fl with
    | .ret (.d d) s => some (d, keepO mask s)
    | .next s => some (.non, keepO mask s)
    | _ => none
  else none
theorem Slots.tail_un : ∀ {σ : L2.St} {s : S} {fp : List Addr} (n : Nat), Slots c H G σ s fp → Slots c H G (σ ++ List.replicate n none) (s ++ List.replicate n O.un) fp
  | _, _, _, n, .nil => by
    show Slots c H G (List.replicate n none) (List.replicate n O.un) []
    induction n with
    | zero => exact .nil
    | succ n ih => exact .un ih
  | _, _, _, n, .un t => .un (Slots.tail_un n t)
  | _, _, _, n, .cons w t => .cons w (Slots.tail_un n t)
theorem Slots.keep : ∀ {mask : List Bool} {vs : List V} {σ : L2.St} {s : S} {fp : List Addr}, Slots c H G σ s fp → vs.length = mask.length → mask.length ≤ s.length → (∀ i : Nat, mask[i]? = some true → σ[i]? = (vs.map some)[i]?) → ∃ f1 f2, fp.Perm (f1 ++ f2) ∧ Slots c H G (vs.map some) (keepO mask s) f2
  | [], [], σ, s, fp, sl, _, _, _ => ⟨fp, [], by simp, by cases s <;> exact .nil⟩
  | [], _ :: _, _, _, _, _, h, _, _ => nomatch h
  | _ :: _, [], _, _, _, _, h, _, _ => nomatch h
  | b :: bs, v :: vs, _, _, _, .nil, _, h, _ => by simp at h
  | b :: bs, v :: vs, _, _, _, .un t, h1, h2, h3 => by
    obtain ⟨f1, f2, p, k⟩ := Slots.keep (mask := bs) (vs := vs) t (by simpa using h1) (by simpa using h2) (fun i hi => by simpa using h3 (i + 1) (by simpa using hi))
    refine ⟨f1, f2, p, ?_⟩
    cases b <;> exact .un k
  | true :: bs, v :: vs, _, _, _, .cons (f1 := g1) (f2 := g2) w t, h1, h2, h3 => by
    obtain ⟨f1, f2, p, k⟩ := Slots.keep (mask := bs) (vs := vs) t (by simpa using h1) (by simpa using h2) (fun i hi => by simpa using h3 (i + 1) (by simpa using hi))
    have e := h3 0 rfl
    simp at e
    subst e
    refine ⟨f1, g1 ++ f2, ?_, .cons w k⟩
    refine (List.Perm.append_left g1 p).trans ?_
    rw [← List.append_assoc, ← List.append_assoc]
    exact List.Perm.append_right f2 List.perm_append_comm
  | false :: bs, v :: vs, _, _, _, .cons (f1 := g1) (f2 := g2) w t, h1, h2, h3 => by
    obtain ⟨f1, f2, p, k⟩ := Slots.keep (mask := bs) (vs := vs) t (by simpa using h1) (by simpa using h2) (fun i hi => by simpa using h3 (i + 1) (by simpa using hi))
    refine ⟨g1 ++ f1, f2, ?_, .un k⟩
    rw [List.append_assoc]
    exact List.Perm.append_left g1 p
variable {P : Program} {wd : World} {K : PySem.W.Frag} {mg : Str → Option Value} {base : Heap}
theorem fn_own {x qual : Str} {sd : Stmt} {fA : Addr} {fd : FuncData} {N ps : List Str} {kl : Nat} (mask : List Bool) (pins : List Nat) (n : Nat) (m : List O → Option (D × List O)) (fb : SF) (hm : m = runO mask n fb) (F : Fun K x qual sd fA fd) (Sc : FnScope N ps (defScope sd)) (hK : K = c.K) (e2 : N.length = n) (hps : mask.length = ps.length) (hN : ps.length ≤ N.length)
    (hpin : ∀ i : Nat, mask[i]? = some true → i ∈ pins)
    (body : ∀ (cdv : Value) (A : Around) (outer : List Env) (s : Shared) (H : Hp) (E : XK), Room kl (A.deeper (envOfC qual (defScope sd) s.heap.objs.size fA cdv)) →
      PSs (cxOf CX0 P wd K mg base N qual (defScope sd) fA cdv A outer s H E).nox (defBody sd) (tS c pins fb)) : FnOk P wd K mg base CX0 (kl + 1) fA fd ps (spO c m) := by
  subst hm e2
  refine F.ok Sc (fun vs H Q E h => ?_) fun cdv A outer s H vs Q E hr h => ⟨_, body cdv A outer s H E hr, ?_⟩
  · obtain ⟨G, fp, as, r, as', _, sl, hm, _⟩ := h
    unfold runO at hm
    split at hm
    · rename_i hl
      have := sl.length
      rw [List.length_map] at this
      omega
    · exact nomatch hm
  · obtain ⟨G, fp, as, r, as', k, sl, hm, q⟩ := h
    unfold runO at hm
    split at hm
    · rename_i hl
      have hvl : vs.length = as.length := by simpa using sl.length
      cases h1 : fb (as ++ List.replicate (N.length - mask.length) O.un) with
      | none => rw [h1] at hm; exact nomatch hm
      | some fl =>
        simp only [h1, Option.bind_some] at hm
        have sl0 : Slots c H G (L2.start N vs) (as ++ List.replicate (N.length - mask.length) O.un) fp := by
          unfold L2.start
          rw [hvl, hl]
          exact sl.tail_un _
        have len0 : (L2.start N vs).length = N.length := by
          unfold L2.start
          rw [List.length_append, List.length_map, List.length_replicate]
          omega
        have pinv : ∀ σ' : L2.St, PinEq pins (L2.start N vs) σ' → ∀ i : Nat, mask[i]? = some true → σ'[i]? = (vs.map some)[i]? := fun σ' p i hi => by
          rw [p.2 i (hpin i hi)]
          unfold L2.start
          have : i < mask.length := (List.getElem?_eq_some_iff.mp hi).1
          rw [List.getElem?_append_left (by rw [List.length_map]; omega)]
        refine ⟨G, _, fp, fl, k, sl0, h1, ?_⟩
        cases fl with
        | ret rr s' =>
          cases rr with
          | n xs => exact nomatch hm
          | k xs => exact nomatch hm
          | d d =>
          simp only [Option.some.injEq, Prod.mk.injEq] at hm
          obtain ⟨rfl, rfl⟩ := hm
          intro v σ' H' G' fp' E1 S1 p1 r1
          obtain ⟨f1, f2, pp, S2⟩ := S1.keep (mask := mask) (vs := vs) (by omega) (by rw [← S1.length, p1.1, len0]; omega) (pinv σ' p1)
          exact q v H' G' f2 (E1.less pp) S2 r1
        | next s' =>
          simp only [Option.some.injEq, Prod.mk.injEq] at hm
          obtain ⟨rfl, rfl⟩ := hm
          intro σ' H' G' fp' E1 S1 p1
          obtain ⟨f1, f2, pp, S2⟩ := S1.keep (mask := mask) (vs := vs) (by omega) (by rw [← S1.length, p1.1, len0]; omega) (pinv σ' p1)
          exact q .non H' G' f2 (E1.less pp) S2 .non
        | _ => exact nomatch hm
    · exact nomatch hm
end
end DL
/-! DL 9: more of what is walked and called; what the top has left of a def, of a constant. -/
namespace DL
open PySem PySem.Spec PyProof.Rows L2 RZ

/-! ### range with a step above 0 -/
def rangeC (i c : Int) (n : Nat) : List D := (List.range n).map fun (k : Nat) => .int (i + (k : Int) * c)
def iRng3 (fa : AF) : AF := fun s => (fa s).bind fun p => match p.1 with
  | [.int i, .int j, .int k] => if -bigI ≤ i ∧ i ≤ bigI ∧ -bigI ≤ j ∧ j ≤ bigI ∧ 0 < k ∧ k ≤ 1000 then some (rangeC i k (if i < j then ((j - i - 1) / k + 1).toNat else 0), p.2) else none
  | _ => none
theorem pins_ok {own : List Nat} {pins' : List Nat} {N : List Str} {n : Nat} (h : ∀ i < n, i ∉ own → i ∈ pins') (e : N.length = n) : ∀ i < N.length, i ∉ own → i ∈ pins' := by rw [e]; exact h
theorem mask_ok {mask : List Bool} {pins : List Nat} (h : ∀ i < mask.length, mask[i]? = some true → i ∈ pins) : ∀ i : Nat, mask[i]? = some true → i ∈ pins := fun i hi => h i (List.getElem?_eq_some_iff.mp hi).1 hi
section
variable {c : Cc} {X : Cx} {pins : List Nat} {b1 b2 b3 : Bool} {f g h : EF} {t : BF} {fa fi : AF} {u v w : SF} {pos : Pos} {e o tg : Expr} {st : Stmt} {rest es : List Stmt}
variable {H H1 H2 G G1 G2 : Hp} {s s1 s2 : S} {fp fp1 fp2 : List Addr} {σ σ1 σ2 : L2.St} {Z : Ends}
theorem yl_rangeC {lo k : Int} {n : Nat} : Yields c (Itc lo k n) (rangeC lo k n) G := fun i H G' e1 e2 => by
  refine ⟨fun d hd => ?_, fun hl => ?_⟩
  · unfold rangeC at hd
    rw [List.getElem?_map] at hd
    by_cases hi : i < n
    · rw [List.getElem?_range hi] at hd
      cases hd
      refine ⟨hi, fun x H' y => ?_⟩
      obtain ⟨e, y⟩ := y
      subst e y
      exact ⟨G', Grow.refl e2, .int _⟩
    · rw [List.getElem?_eq_none (by simpa using hi)] at hd
      exact nomatch hd
  · unfold rangeC at hl
    exact (by simpa using hl : n ≤ i)
theorem rgc_up {i j k : Int} (h1 : -bigI ≤ i) (h2 : i ≤ bigI) (h3 : -bigI ≤ j) (h4 : j ≤ bigI) (h5 : 0 < k) (h6 : k ≤ 1000) : RgC i j k (if i < j then ((j - i - 1) / k + 1).toNat else 0) := by
  unfold bigI at h1 h2 h3 h4
  refine ⟨by omega, by omega, ?_, ?_⟩
  · unfold Builtin.Range.small
    have hd : 0 ≤ (j - i - 1) / k ∨ (j - i - 1) < 0 := by
      by_cases h : 0 ≤ j - i - 1
      · exact .inl (Int.ediv_nonneg h (by omega))
      · exact .inr (by omega)
    have hd2 : 0 ≤ j - i - 1 → (j - i - 1) / k ≤ j - i - 1 := fun h => Int.ediv_le_self _ h
    unfold Builtin.Range.rangeSize
    simp only [show k > 0 from h5, if_true]
    simp only [Builtin.Range.rangeFitsLong, Bool.and_eq_true, Bool.or_eq_true, decide_eq_true_eq, beq_iff_eq]
    split <;> omega
  · unfold Builtin.Range.rangeSize
    rw [if_pos (by omega)]
    split
    · have : 0 ≤ (j - i - 1) / k := Int.ediv_nonneg (by omega) (by omega)
      omega
    · rfl
theorem ix_range3 {a b d : Expr} {p pos : Pos} (ha : PA X [a, b, d] (tA c b1 fa)) (hm : X.mg "range" = none) (hg : Gl X "range" := by rfl) (hs : starEach [a, b, d] X.env = (false, eval a X.env) :: starEach [b, d] X.env := by rfl) (hpl : (backTo pos (starEach [b, d] X.env)).any (·.1) = false := by rfl) :
    PI X tg (.Call (.Name "range" p) [a, b, d] [] pos) (tI c b1 (iRng3 fa)) :=
  PI_imp (pi_range3 hg hm ha hs hpl) fun σ H R ⟨G, S, fp, xs, s', k, sl, hf, q⟩ => by
    unfold iRng3 at hf
    cases h1 : fa S with
    | none => rw [h1] at hf; exact nomatch hf
    | some p =>
      obtain ⟨ds, s1⟩ := p
      simp only [h1, Option.bind_some] at hf
      split at hf
      · rename_i i j kk
        split at hf
        · rename_i hn
          cases hf
          refine ⟨G, S, fp, _, _, k, sl, h1, fun vs H1 G1 fp1 E1 S1 r1 p1 => ?_⟩
          cases r1 with
          | cons r1 r2 =>
            cases r2 with
            | cons r2 r3 =>
              cases r3 with
              | cons r3 r4 =>
                cases r4
                obtain ⟨h3, h4, h5, h6, h7, h8⟩ := hn
                exact ⟨i, j, kk, _, by rw [r1.ints, r2.ints, r3.ints], rgc_up h3 h4 h5 h6 h7 h8, q _ H1 G1 fp1 E1 S1 yl_rangeC p1⟩
        · exact nomatch hf
      · exact nomatch hf

/-! ### xs.count(True) of a list of truths -/
def rCntB (K : PySem.W.Frag) : V → List V → Hp → VK → Prop := fun x xs H Q => ∃ (p : Addr) (bs : List Bool) (k : Bool), x = .ref p ∧ xs = [.bl k] ∧ SqL K H p (bs.map V.bl) ∧ Q (.int (bs.count k : Nat)) H
theorem vals_bools : ∀ {bs : List Bool} {us : List Value}, Vals (bs.map V.bl) us → us = bs.map Value.bool
  | [], us, h => by cases h; rfl
  | b :: bs, us, h => by
    rw [List.map_cons] at h
    cases h with
    | cons r t =>
      cases r
      rw [vals_bools t]
      rfl
theorem readsBools (h : Heap) : ∀ bs : List Bool, ReadsAll h (bs.map Value.bool) (bs.map PyData.bool) []
  | [] => .nil
  | b :: bs => .cons (as := []) (bs := []) (.bool b) (readsBools h bs)
theorem countIn_bools (k : Bool) : ∀ bs : List Bool, PySem.Spec.countIn (.bool k) (bs.map PyData.bool) = ((bs.count k : Nat) : Int)
  | [] => rfl
  | b :: bs => by
    have ih := countIn_bools k bs
    rw [List.map_cons, List.count_cons]
    show (if PySem.Spec.same (.bool b) (.bool k) then 1 else 0) + PySem.Spec.countIn (.bool k) (bs.map PyData.bool) = _
    rw [ih]
    cases b <;> cases k <;> simp [PySem.Spec.same] <;> omega
theorem mt_countB : MtR X "list.count" (rCntB X.K) := by
  intro pins s σ H x xs v us Q I rx rxs h
  obtain ⟨p, bs, k, rfl, rfl, hs, q⟩ := h
  cases rx
  obtain ⟨u, rfl, ru⟩ := rxs.one
  cases ru
  obtain ⟨its, rv, hl, hlen⟩ := I.list hs
  have e := vals_bools rv
  subst e
  refine PyProof.Rows.count_list_bools hl.isList (readsBools s.heap bs) ?_ ⟨.int _, H, I.tok _, ⟨_, rfl⟩, ?_⟩
  · rw [List.all_map]
    exact List.all_eq_true.mpr fun b _ => rfl
  · rw [countIn_bools]
    exact q
theorem ex_count {apos : Pos} (ho : PE X o (tE c b1 f)) (he : PE X e (tE c b2 g)) (hK : X.K = c.K := by rfl)
    (hbase : attributeBase o "count" X.env (eval o X.env) = eval o X.env := by rfl)
    (hfew : ((backTo pos (starEach (e :: []) X.env)).all (fun x => !x.1) && (backToKw pos (keywordEach [] X.env)).all (fun x => x.1.isSome)
      && decide ((e :: []).length + ([] : List Keyword).length + (if ([] : List Keyword).isEmpty then 0 else 1) < 30)) = true := by rfl)
    (hline : (apos.endLine == pos.line) = true := by rfl) (hs : starEach (e :: []) X.env = (false, eval e X.env) :: starEach [] X.env := by rfl) (hplain : (backTo pos (starEach [] X.env)).any (·.1) = false := by rfl) :
    PE X (.Call (.Attribute o "count" apos) [e] [] pos) (tE c (b1 && b2) (e2 dCountB f g)) :=
  PE_imp (pe_bm PySem.F.plainAttrs_list PySem.F.slot_list_count PySem.F.type_list_count mt_countB ho (pa_cons he pa_nil hs) hbase hfew hline hs hplain) fun σ H Q ⟨G, s, fp, d, s', k, sl, hf, q⟩ => by
    rw [hK]
    unfold e2 at hf
    cases h1 : f s with
    | none => rw [h1] at hf; exact nomatch hf
    | some p =>
      obtain ⟨x, s1⟩ := p
      simp only [h1, Option.bind_some] at hf
      cases h2 : g s1 with
      | none => simp [h2] at hf
      | some p2 =>
        obtain ⟨y, s2⟩ := p2
        simp only [h2, Option.bind_some] at hf
        cases h3 : dCountB x y with
        | none => simp [h3] at hf
        | some z =>
          simp only [h3, Option.map_some, Option.some.injEq, Prod.mk.injEq] at hf
          obtain ⟨rfl, rfl⟩ := hf
          cases x <;> cases y <;> simp only [dCountB] at h3 <;> try contradiction
          rename_i xs kk
          cases hb : boolsD xs with
          | none => rw [hb] at h3; exact nomatch h3
          | some bs =>
            rw [hb] at h3
            cases h3
            refine ⟨G, s, fp, _, s1, k, sl, h1, fun v H1 G1 fp1 E1 S1 r1 p1 => ?_⟩
            cases r1 with
            | @lst a vs _ t1 r1 =>
              refine ⟨.inl ⟨rfl, _, Same.sqL E1.sub t1⟩, G1, s1, fp1, _, s2, E1.ok, S1, h2, fun u H2 G2 fp2 E2 S2 r2 p2 => ?_⟩
              cases r2
              refine ⟨a, bs, kk, rfl, rfl, ?_, q _ H2 G2 fp2 (E1.trans E2) S2 (.int _) (p1.and p2)⟩
              rw [← bools_rep r1 hb]
              exact Same.sqL E2.sub (Same.sqL E2.gs t1)

/-! ### a new list of what another one holds -/
def nList (fa : AF) : AF := fun s => (fa s).bind fun p => match p.1 with
  | [.lst xs] => some (xs, p.2)
  | [.tup xs] => some (xs, p.2)
  | _ => none
theorem xn_list {ea : Expr} {p : Pos} {x : Str} (hm : X.mg x = none) (ha : PA X [ea] (tA c b1 fa)) (hK : X.K = c.K := by rfl) (hv : bootBuiltins x = some (.type "list") := by decide +kernel) (hg : Gl X x := by rfl) (hn : x ≠ "__name__" := by decide) (hdb : (x == ("__debug__" : Str)) = false := by decide)
    (he : starEach [ea] X.env = (false, eval ea X.env) :: starEach [] X.env := by rfl) (hpl : (backTo pos (starEach [] X.env)).any (·.1) = false := by rfl) : PE X (.Call (.Name x p) [ea] [] pos) (tN c (nList fa)) :=
  PE_imp (pe_callTy call_list_of hg hm hv ha hn hdb he hpl) fun σ H Q ⟨G, s, fp, d, s', k, sl, hf, q⟩ => by
    rw [hK]
    unfold nList at hf
    cases h1 : fa s with
    | none => rw [h1] at hf; exact nomatch hf
    | some p =>
      obtain ⟨ds, s1⟩ := p
      simp only [h1, Option.bind_some] at hf
      split at hf
      · cases hf
        refine ⟨G, s, fp, _, _, k, sl, h1, fun vs H1 G1 fp1 E1 S1 r1 p1 => ?_⟩
        obtain ⟨v, rfl, r2⟩ := reps1 r1
        cases r2 with
        | lst t1 r1 => exact ⟨_, _, rfl, .inl (Same.sqL E1.sub t1), fun l hl => by
            obtain ⟨E2, S2⟩ := E1.newOwn (o := .lst _) S1 hl
            exact q l _ _ _ _ E2 S2 upd_same r1⟩
      · cases hf
        refine ⟨G, s, fp, _, _, k, sl, h1, fun vs H1 G1 fp1 E1 S1 r1 p1 => ?_⟩
        obtain ⟨v, rfl, r2⟩ := reps1 r1
        cases r2 with
        | tup t1 r1 => exact ⟨_, _, rfl, .inr (Same.sqT E1.sub t1), fun l hl => by
            obtain ⟨E2, S2⟩ := E1.newOwn (o := .lst _) S1 hl
            exact q l _ _ _ _ E2 S2 upd_same r1⟩
      · exact nomatch hf
/-- a list of one's own handed back as a new one -/
def sRetOwn (i : Nat) : SF := fun s => match s[i]? with
  | some (.lst xs) => some (.ret (.n xs) (s.set i .un))
  | _ => none
theorem sx_retOwn (i : Nat) {x : Str} {p : Pos} (hpi : i ∉ pins := by decide) (hN : X.N[i]? = some x := by rfl) (hv : Vis X.env.scope x := by first | exact Or.inl rfl | exact Or.inr (Or.inl rfl)) (hd : (x == ("__debug__" : Str)) = false := by decide) (hcd : (x == ("__classdict__" : Str)) = false := by decide) :
    PS X (.Return (some (.Name x p)) pos) (tS c pins (sRetOwn i)) := PS_imp (ps_ret (pe_var hN hv hd hcd)) fun Z σ H ⟨G, s, fp, fl, k, sl, hf, q⟩ => by
  unfold sRetOwn at hf
  split at hf
  · rename_i xs hx
    cases hf
    obtain ⟨v, f1, f2, h1, h2, hp, S2⟩ := sl.take hx (by simp)
    cases h2 with
    | @lst p vs _ hv r => exact ⟨_, h1, q p vs σ H G f2 ((Ev.refl k).perm hp.symm) S2 PinEq.refl hv r⟩
  · exact nomatch hf

/-! ### a test over a borrow -/
def bBor (i : Nat) (t : BF) : BF := fun s => match s[i]? with
  | some (.lst xs) => (t (s.set i (.val (.lst xs)))).map fun p => (p.1, s)
  | _ => t s
theorem xt_bor (i : Nat) (he : PT X e (tT c true t)) : PT X e (tT c true (bBor i t)) := PT_imp he fun σ H Q ⟨G, s, fp, d, s', k, sl, hf, q⟩ => by
  unfold bBor at hf
  split at hf
  · rename_i xs hx
    obtain ⟨v0, f1, f2, h1, h2, hp, hk⟩ := sl.split hx (by simp)
    cases h2 with
    | @lst p vs _ hv r =>
      have gp : G p = none := k.own p (hp.mem_iff.mpr (by simp))
      have sg : Same G (upd G p (.lst vs)) := same_upd gp
      have rr : Rep c.K (upd G p (.lst vs)) (.ref p) (.lst xs) := .lst (SqL.of upd_same) (r.mono sg)
      obtain ⟨fp', p', sl'⟩ := hk H (upd G p (.lst vs)) (.val (.lst xs)) [] (.val rr) (fun _ _ => rfl) sg
      have nd := List.nodup_append.mp (hp.nodup_iff.mp k.nd)
      have k' : Ok H (upd G p (.lst vs)) fp' := ⟨fun b o hb => by
          by_cases hbp : b = p
          · subst hbp; rw [upd_same] at hb; rw [← hb]; exact hv
          · rw [upd_ne hbp] at hb; exact k.sub b o hb, fun x hx => by
          have hx2 : x ∈ f2 := by simpa using p'.mem_iff.mp hx
          rw [upd_ne fun z => nd.2.2 p (by simp) x hx2 z.symm]
          exact k.own x (hp.mem_iff.mpr (List.mem_append_right _ hx2)), p'.nodup_iff.mpr (by simpa using nd.2.1)⟩
      cases h3 : t (s.set i (.val (.lst xs))) with
      | none => rw [h3] at hf; exact nomatch hf
      | some pp =>
        obtain ⟨d1, s1⟩ := pp
        simp only [h3, Option.map_some, Option.some.injEq, Prod.mk.injEq] at hf
        obtain ⟨rfl, rfl⟩ := hf
        refine ⟨_, _, fp', _, s1, k', sl', h3, fun H1 G1 fp1 E1 S1 pu => ?_⟩
        obtain ⟨gr, _⟩ := pu rfl
        have gr2 : Grow H G H1 (dropA G1 p) := ⟨gr.hs, fun a o ha => by
            have hne : a ≠ p := fun z => by rw [z, gp] at ha; cases ha
            unfold dropA
            rw [if_neg hne]
            exact gr.gs a o (by rw [upd_ne hne]; exact ha), fun a o ha => by
            unfold dropA at ha
            split at ha
            · cases ha
            · exact gr.sub a o ha, fun a ha => by
            unfold dropA
            by_cases hne : a = p
            · rw [if_pos hne, hne, gp]
            · rw [if_neg hne, gr.nw a ha, upd_ne hne]⟩
        exact q H1 (dropA G1 p) fp (gr2.ev k sl) (sl.step gr2) fun _ => ⟨gr2, rfl⟩
  · exact ⟨G, s, fp, d, s', k, sl, hf, q⟩
end

/-! ### what the top has left -/
structure DefAt (K : PySem.W.Frag) (mg : Str → Option Value) (gn nm : Str) (st : Stmt) (ps : List Str) where
  a : Addr
  d : FuncData
  F : Fun K nm nm st a d
  b : Binds K d ps []
  g : mg gn = some (.ref a)
def DefAt.mk' {K : PySem.W.Frag} {mg : Str → Option Value} {gn nm : Str} {st : Stmt} {ps : List Str} {h : Heap} (X : K.In h) (G : h.Ns mainGlobals mg) {f : Addr} {od an : Option Addr} {sl : Array (Option Value)} {oc kV dc pm cd ct : Value}
    (a : PySem.W.nsIn K mainGlobals gn = some (some (.ref f))) (l : K.lookup f = some ⟨oc, od, .func (PySem.W.fnOf nm nm (defArgs st) (defBody st) (defScope st) .none kV dc pm an cd ct), sl⟩) (c : PySem.W.codeIn K cd nm = true) (k : PySem.W.keepIn K (.ref f) = true)
    (hb : ∀ (kV doc pm : Value) (an : Option Addr) (cdv ct : Value) (us : List Value), us.length = ps.length → bindArgs (PySem.W.fnOf nm nm (defArgs st) (defBody st) (defScope st) .none kV doc pm an cdv ct) ⟨us, []⟩ = pure (ps.zip us)) : DefAt K mg gn nm st ps :=
  ⟨f, _, fun_mk l c k, (fun_mk l c k).binds hb, PySem.W.mg_of X G a⟩
/-- a module's constant -/
structure ConstAt (K : PySem.W.Frag) (mg : Str → Option Value) (nm : Str) (d : D) where
  u : Value
  v : V
  g : mg nm = some u
  r : RelV v u
  p : ∀ G, Rep K G v d
def ConstAt.str {K : PySem.W.Frag} {mg : Str → Option Value} {nm x : Str} {t : Tok} (g : mg nm = some (.str x t)) : ConstAt K mg nm (.str x) := ⟨_, .str x, g, ⟨t, rfl⟩, fun _ => .str x⟩
def ConstAt.int {K : PySem.W.Frag} {mg : Str → Option Value} {nm : Str} {x : Int} {t : Tok} (g : mg nm = some (.int x t)) : ConstAt K mg nm (.int x) := ⟨_, .int x, g, ⟨t, rfl⟩, fun _ => .int x⟩
theorem reps_ints {K : PySem.W.Frag} {G : Hp} : ∀ ns : List Int, Reps K G (ns.map V.int) (ns.map D.int)
  | [] => .nil
  | y :: ys => .cons (.int y) (reps_ints ys)
def ConstAt.tupI {K : PySem.W.Frag} {mg : Str → Option Value} {nm : Str} {p : Addr} {e : Option Addr} {its : Array Value} {n : Nat} {sl : Array (Option Value)} (g : mg nm = some (.ref p)) (l : K.lookup p = some ⟨.type "tuple", e, .seq its n, sl⟩) (ns : List Int) (hv : Vals (ns.map V.int) its.toList) (hz : ns.length ≤ 1000 := by decide) : ConstAt K mg nm (.tup (ns.map D.int)) :=
  ⟨_, .ref p, g, rfl, fun _ => .tup (.inr ⟨_, its, n, l, rfl, rfl, by
    have := hv.length
    rw [List.length_map, Array.length_toList] at this
    rw [line_eq]; exact Nat.le_trans (Nat.le_of_eq this.symm) (Nat.le_trans hz (by decide)), hv⟩) (reps_ints ns)⟩
def ConstAt.tupS {K : PySem.W.Frag} {mg : Str → Option Value} {nm : Str} {p : Addr} {e : Option Addr} {its : Array Value} {n : Nat} {sl : Array (Option Value)} (g : mg nm = some (.ref p)) (l : K.lookup p = some ⟨.type "tuple", e, .seq its n, sl⟩) (ns : List Str) (hv : Vals (ns.map V.str) its.toList) (hz : ns.length ≤ 1000 := by decide) : ConstAt K mg nm (.tup (ns.map D.str)) :=
  ⟨_, .ref p, g, rfl, fun _ => .tup (.inr ⟨_, its, n, l, rfl, rfl, by
    have := hv.length
    rw [List.length_map, Array.length_toList] at this
    rw [line_eq]; exact Nat.le_trans (Nat.le_of_eq this.symm) (Nat.le_trans hz (by decide)), hv⟩) (reps_strs ns)⟩
/-- the law's own promise, met -/
theorem spP_law {c : Cc} {m : List D → Option D} {a : Addr} {ns : List Int} {H : Hp} {Q : VK} {E : XK} (h : m [.lst (ns.map D.int)] = some (.bl true)) (hs : SqL c.K H a (ns.map V.int)) (q : ∀ H', Q (.bl true) H') : spP c m [.ref a] H Q E :=
  ⟨H, [.lst (ns.map D.int)], _, Same.refl _, .cons (.lst hs (reps_ints ns)) .nil, h, fun v H' G' g r => by cases r; exact q H'⟩
end DL
/-! DL 10: more rules. -/
namespace DL
open PySem PySem.Spec PyProof.Rows L2
section
variable {c : Cc} {X : Cx} {pins : List Nat} {b1 b2 b3 : Bool} {f g h : EF} {t : BF} {fa fi : AF} {pos : Pos} {e o : Expr} {es : List Expr}
variable {H H1 H2 G G1 G2 : Hp} {s s1 s2 : S} {fp fp1 fp2 : List Addr} {σ σ1 σ2 : L2.St} {Z : Ends}
/-! ### a list of one's own + a list -/
def eCat (i : Nat) (g : EF) : EF := fun s => match s[i]? with
  | some (.lst xs) => (g s).bind fun p => match p.1 with
    | .lst ys => if xs.length + ys.length ≤ cap then some (.lst (xs ++ ys), p.2) else none
    | _ => none
  | _ => none
theorem ex_cat (i : Nat) {x : Str} {p : Pos} (hb : PE X e (tE c true g)) (hN : X.N[i]? = some x := by rfl) (hv : Vis X.env.scope x := by first | exact Or.inl rfl | exact Or.inr (Or.inl rfl)) (hd : (x == ("__debug__" : Str)) = false := by decide) (hcd : (x == ("__classdict__" : Str)) = false := by decide)
    (hK : X.K = c.K := by rfl) : PE X (.BinOp (.Name x p) .Add e pos) (tE c true (eCat i g)) := PE_imp (pe_op op_catS (pe_var hN hv hd hcd) hb) fun σ H Q ⟨G, s, fp, d, s', k, sl, hf, q⟩ => by
  unfold eCat at hf
  split at hf
  · rename_i xs hx
    obtain ⟨v, f1, f2, h1, h2, hp, hk⟩ := sl.split hx (by simp)
    cases h2 with
    | @lst p vs _ hv r =>
      cases h3 : g s with
      | none => rw [h3] at hf; exact nomatch hf
      | some pp =>
        obtain ⟨d2, s2⟩ := pp
        simp only [h3, Option.bind_some] at hf
        split at hf
        · rename_i ys
          split at hf
          · rename_i hc
            cases hf
            refine ⟨_, h1, ⟨G, s, fp, _, _, k, sl, h3, fun w H1 G1 fp1 E1 S1 r1 pu => ?_⟩⟩
            obtain ⟨gr, rfl⟩ := pu rfl
            cases r1 with
            | @lst p2 vs2 _ t2 r2 =>
              refine ⟨_, _, vs, _, rfl, rfl, SqL.of (gr.hs _ _ hv), hK ▸ Same.sqL E1.sub t2, by rw [r.length, r2.length]; exact Nat.le_trans hc cap_line, fun p' hp' => ?_⟩
              have g2 := gr.trans (Grow.alloc (o := .lst (vs ++ vs2)) E1.sub hp')
              exact q _ _ _ _ (g2.ev k sl) (sl.step g2) (.lst (SqL.of upd_same) (((r.mono gr.gs).append r2).mono (same_upd (E1.sub.free hp')))) fun _ => ⟨g2, rfl⟩
          · exact nomatch hf
        · exact nomatch hf
  · exact nomatch hf
end
end DL
/-! DL 11: instances of one's own. -/
namespace DL
open PySem PySem.Spec PyProof.Rows L2
def putFO (f : Str) (o : O) : List (Str × O) → List (Str × O)
  | [] => [(f, o)]
  | (k, x) :: r => if k = f then (k, o) :: r else (k, x) :: putFO f o r
section
variable {c : Cc} {H H' H1 G G' G1 : Hp}
theorem OwnF.get : ∀ {vs : List (Str × V)} {fs : List (Str × O)} {fp : List Addr} {n : Str} {o : O}, OwnF c H G vs fs fp → fs.lookup n = some o → ∃ v f1, vs.lookup n = some v ∧ Own c H G v o f1
  | _, _, _, _, _, .nil, h => nomatch h
  | _, _, _, n, o, .cons (n := k) (v := v) (vs := vs) w t, h => by
    rw [List.lookup_cons] at h ⊢
    split at h
    · cases h; exact ⟨v, _, rfl, w⟩
    · exact OwnF.get t h
theorem OwnF.none : ∀ {vs : List (Str × V)} {fs : List (Str × O)} {fp : List Addr} {n : Str}, OwnF c H G vs fs fp → fs.lookup n = none → vs.lookup n = Option.none
  | _, _, _, _, .nil, _ => rfl
  | _, _, _, n, .cons (n := k) w t, h => by
    rw [List.lookup_cons] at h ⊢
    split at h
    · exact nomatch h
    · exact OwnF.none t h
theorem OwnF.length : ∀ {vs : List (Str × V)} {fs : List (Str × O)} {fp : List Addr}, OwnF c H G vs fs fp → vs.length = fs.length
  | _, _, _, .nil => rfl
  | _, _, _, .cons _ t => by rw [List.length_cons, List.length_cons, OwnF.length t]
theorem OwnF.put {n : Str} : ∀ {vs : List (Str × V)} {fs : List (Str × O)} {fp : List Addr}, OwnF c H G vs fs fp → ∃ f1 f2, fp.Perm (f1 ++ f2) ∧
    ∀ (H' G' : Hp) (v' : V) (o' : O) (f1' : List Addr), Own c H' G' v' o' f1' → (∀ a ∈ f2, H' a = H a) → Same G G' → ∃ fp', fp'.Perm (f1' ++ f2) ∧ OwnF c H' G' (putF n v' vs) (putFO n o' fs) fp'
  | _, _, _, .nil => ⟨[], [], List.Perm.refl _, fun H' G' v' o' f1' w _ _ => ⟨f1' ++ [], List.Perm.refl _, .cons w .nil⟩⟩
  | _, _, _, .cons (n := k) (v := v) (o := o) (vs := vs) (fs := fs) (f1 := g1) (f2 := g2) w t => by
    by_cases hk : k = n
    · refine ⟨g1, g2, List.Perm.refl _, fun H' G' v' o' f1' w' hh hg => ⟨f1' ++ g2, List.Perm.refl _, ?_⟩⟩
      show OwnF c H' G' (if k = n then (k, v') :: vs else _) (if k = n then (k, o') :: fs else _) _
      rw [if_pos hk, if_pos hk]
      exact .cons w' (t.stay hg hh)
    · obtain ⟨f1, f2, hp, kk⟩ := OwnF.put (n := n) t
      refine ⟨f1, g1 ++ f2, ?_, fun H' G' v' o' f1' w' hh hg => ?_⟩
      · refine (List.Perm.append_left g1 hp).trans ?_
        rw [← List.append_assoc, ← List.append_assoc]
        exact List.Perm.append_right f2 List.perm_append_comm
      · obtain ⟨fp', pp, k2⟩ := kk H' G' v' o' f1' w' (fun a ha => hh a (List.mem_append_right _ ha)) hg
        refine ⟨g1 ++ fp', ?_, ?_⟩
        · refine (List.Perm.append_left g1 pp).trans ?_
          rw [← List.append_assoc, ← List.append_assoc]
          exact List.Perm.append_right f2 List.perm_append_comm
        · show OwnF c H' G' (if k = n then _ else (k, v) :: putF n v' vs) (if k = n then _ else (k, o) :: putFO n o' fs) _
          rw [if_neg hk, if_neg hk]
          exact .cons (w.stay hg fun a ha => hh a (List.mem_append_left _ ha)) k2
theorem putFO_length (n : Str) (o : O) : ∀ fs : List (Str × O), fs.length ≤ (putFO n o fs).length
  | [] => Nat.zero_le _
  | (k, x) :: r => by
    show _ ≤ (if k = n then (k, o) :: r else (k, x) :: putFO n o r).length
    split
    · exact Nat.le_refl _
    · exact Nat.succ_le_succ (putFO_length n o r)
variable {fp : List Addr} {s : S} {σ : L2.St}
/-- an instance of one's own in a slot -/
theorem own_obj (sl : Slots c H G σ s fp) {i kk : Nat} {fs : List (Str × O)} (h : s[i]? = some (.obj kk fs)) :
    ∃ p dx vs ff f2, σ[i]? = some (some (.ref p)) ∧ H p = some (.ins (c.cm kk) dx vs) ∧ H dx = some (.own p) ∧ OwnF c H G vs fs ff ∧ fp.Perm ((p :: dx :: ff) ++ f2) ∧
      ∀ (n : Str) (y : V) (o : O) (fx : List Addr), Ok H G (fx ++ fp) → Own c H G y o fx → ∃ fp', Ev H G (fx ++ fp) (upd H p (.ins (c.cm kk) dx (putF n y vs))) G fp' ∧ Slots c (upd H p (.ins (c.cm kk) dx (putF n y vs))) G σ (s.set i (.obj kk (putFO n o fs))) fp' := by
  obtain ⟨v, f1, f2, h1, h2, hp, hk⟩ := sl.split h (by simp)
  cases h2 with
  | @obj p dx _ vs _ ff e1 e2 w =>
    refine ⟨p, dx, vs, ff, f2, h1, e1, e2, w, hp, fun n y o fx k wo => ?_⟩
    have kp : (fx ++ fp).Perm ((p :: dx :: ff) ++ (fx ++ f2)) := by
      refine (List.Perm.append_left fx hp).trans ?_
      rw [← List.append_assoc, ← List.append_assoc]
      exact List.Perm.append_right f2 List.perm_append_comm
    have nd := kp.nodup_iff.mp k.nd
    have ndp : p ∉ dx :: ff ++ (fx ++ f2) := (List.nodup_cons.mp nd).1
    have ndd := (List.nodup_cons.mp (List.nodup_cons.mp nd).2).1
    have pdx : dx ≠ p := fun z => ndp (by rw [z]; simp)
    have pff : ∀ a ∈ ff, a ≠ p := fun a ha z => ndp (by rw [← z]; simp [ha])
    have pfx : ∀ a ∈ fx, a ≠ p := fun a ha z => ndp (by rw [← z]; simp [ha])
    have pf2 : ∀ a ∈ f2, a ≠ p := fun a ha z => ndp (by rw [← z]; simp [ha])
    obtain ⟨g1, g2, gp, gk⟩ := w.put (n := n)
    obtain ⟨fr, rp, wr⟩ := gk (upd H p (.ins (c.cm kk) dx (putF n y vs))) G y o fx (wo.stay (Same.refl _) fun a ha => upd_ne (pfx a ha)) (fun a ha => upd_ne (pff a (gp.mem_iff.mpr (List.mem_append_right _ ha)))) (Same.refl _)
    obtain ⟨fp', pp, sl'⟩ := hk (upd H p (.ins (c.cm kk) dx (putF n y vs))) G (.obj kk (putFO n o fs)) (p :: dx :: fr) (.obj upd_same ((upd_ne pdx).trans e2) wr) (fun a ha => upd_ne (pf2 a ha)) (Same.refl _)
    have gp0 : G p = Option.none := k.own p (kp.mem_iff.mpr (by simp))
    have big : (fx ++ fp).Perm (g1 ++ fp') := by
      refine kp.trans ?_
      have a1 : (p :: dx :: ff ++ (fx ++ f2)).Perm (p :: dx :: (g1 ++ g2) ++ (fx ++ f2)) := List.Perm.append_right _ (List.Perm.cons _ (List.Perm.cons _ gp))
      have a2 : fp'.Perm (p :: dx :: (fx ++ g2) ++ f2) := pp.trans (List.Perm.append_right _ (List.Perm.cons _ (List.Perm.cons _ rp)))
      refine a1.trans ((List.Perm.append_left g1 a2).trans ?_).symm
      refine List.perm_iff_count.mpr fun a => ?_
      simp only [List.count_append, List.count_cons]
      omega
    refine ⟨fp', Ev.less (f1 := g1) ⟨Same.refl _, fun b ob hb => ?_, fun x h3 h4 => absurd h3 h4, fun a ob ha hn => ?_, fun a ha => ?_, fun a ha => ⟨k.own a ha, .inl ha⟩, k.nd⟩ big, sl'⟩
    · rw [upd_ne (fun z => by rw [z, gp0] at hb; cases hb)]; exact k.sub b ob hb
    · rw [upd_ne (fun z => hn (by rw [z]; exact kp.mem_iff.mpr (by simp)))]; exact ha
    · by_cases z : a = p
      · subst z; rw [upd_same]; simp
      · rw [upd_ne z]; exact ha
end
/-! ### functions -/
def eFld (k i : Nat) (n : Str) : EF := fun s => match s[i]? with
  | some (.obj k' fs) => if k' = k then match fs.lookup n with
    | some (.val d) => some (d, s)
    | _ => none
    else none
  | _ => none
def sFld (k i : Nat) (n : Str) (f : EF) : SF := fun s => (f s).bind fun p => match p.2[i]? with
  | some (.obj k' fs) => if k' = k ∧ fs.length < 1000 then some (.next (p.2.set i (.obj k (putFO n (.val p.1) fs)))) else none
  | _ => none
/-- a new list into an instance's field -/
def sFldN (k i : Nat) (n : Str) (f : AF) : SF := fun s => (f s).bind fun p => match p.2[i]? with
  | some (.obj k' fs) => if k' = k ∧ fs.length < 1000 then some (.next (p.2.set i (.obj k (putFO n (.lst p.1) fs)))) else none
  | _ => none
def eMeth (k i : Nat) (n : Str) (m : List O → Option (D × List O)) (fa : AOF) : EF := fun s => match s[i]? with
  | some (.obj k' fs) => if k' = k ∧ (fs.lookup n).isNone = true then eCallO m (aoOwn i fa) s else none
  | _ => none
/-- x = C(..) -/
def sMake (k i : Nat) (m : List O → Option (D × List O)) (fa : AF) : SF := fun s => (fa s).bind fun p => (m (.obj k [] :: p.1.map .val)).bind fun r => match r with
  | (.non, .obj k' fs :: _) => if k' = k ∧ i < p.2.length then some (.next (p.2.set i (.obj k fs))) else none
  | _ => none
section
variable {c : Cc} {X : Cx} {pins : List Nat} {b1 b2 b3 : Bool} {f g h : EF} {t : BF} {fa fi : AF} {fao : AOF} {pos : Pos} {e o : Expr} {es : List Expr}
variable {H H1 H2 G G1 G2 : Hp} {s s1 s2 : S} {fp fp1 fp2 : List Addr} {σ σ1 σ2 : L2.St} {Z : Ends}
theorem ex_fld (k i : Nat) {x : Str} {n : Str} {p : Pos} (cl : Cls X.K (c.cm k)) (na : NoAttr X.K (c.cm k) n) (hN : X.N[i]? = some x := by rfl) (hv : Vis X.env.scope x := by first | exact Or.inl rfl | exact Or.inr (Or.inl rfl) | exact Or.inr (Or.inr rfl)) (hd : (x == ("__debug__" : Str)) = false := by decide) (hcd : (x == ("__classdict__" : Str)) = false := by decide)
    (hb : attributeBase (.Name x p) n X.env (eval (.Name x p) X.env) = eval (.Name x p) X.env := by rfl) : PE X (.Attribute (.Name x p) n pos) (tE c true (eFld k i n)) := PE_imp (pe_fld (pe_var hN hv hd hcd) hb) fun σ H Q ⟨G, s, fp, d, s', ok, sl, hf, q⟩ => by
  unfold eFld at hf
  split at hf
  · rename_i k' fs hx
    split at hf
    · rename_i hk
      subst hk
      split at hf
      · rename_i d' hl
        cases hf
        obtain ⟨p, dx, vs, ff, f2, h1, h2, h3, w, hp, _⟩ := own_obj sl hx
        obtain ⟨v, f1, hv, wv⟩ := w.get hl
        cases wv with
        | val r => exact ⟨_, h1, p, _, dx, vs, v, rfl, h2, cl, na, hv, q v H G fp (Ev.refl ok) sl r (Pure.here ok.sub)⟩
      · exact nomatch hf
    · exact nomatch hf
  · exact nomatch hf
theorem sx_fld (k i : Nat) {x : Str} {n : Str} {p p' : Pos} (cl : Cls X.K (c.cm k)) (na : NoAttr X.K (c.cm k) n) (he : PE X e (tE c b1 f)) (hN : X.N[i]? = some x := by rfl) (hv : Vis X.env.scope x := by first | exact Or.inl rfl | exact Or.inr (Or.inl rfl) | exact Or.inr (Or.inr rfl)) (hd : (x == ("__debug__" : Str)) = false := by decide) (hcd : (x == ("__classdict__" : Str)) = false := by decide)
    (hs : swapsWith e (some (.Attribute (.Name x p) n p')) pos.line X.env = pure false := by rfl) : PS X (.Assign [.Attribute (.Name x p) n p'] e pos) (tS c pins (sFld k i n f)) := PS_imp (ps_fld (pe_var hN hv hd hcd) he hs) fun Z σ H ⟨G, s, fp, fl, ok, sl, hf, q⟩ => by
  unfold DL.sFld at hf
  cases h1 : f s with
  | none => rw [h1] at hf; exact nomatch hf
  | some pp =>
    obtain ⟨d, s1⟩ := pp
    simp only [h1, Option.bind_some] at hf
    split at hf
    · rename_i k' fs hx
      split at hf
      · rename_i hk
        obtain ⟨rfl, hl⟩ := hk
        cases hf
        refine ⟨G, s, fp, d, s1, ok, sl, h1, fun v H1 G1 fp1 E1 S1 r1 _ => ?_⟩
        obtain ⟨p, dx, vs, ff, f2, g1, g2, g3, w, hp, kk⟩ := own_obj S1 hx
        obtain ⟨fp', E2, S2⟩ := kk n v (.val d) [] E1.ok (.val r1)
        exact ⟨_, g1, p, _, dx, vs, rfl, g2, cl, na, by rw [w.length]; exact hl, q σ _ G1 fp' (E1.trans E2) S2 PinEq.refl⟩
      · exact nomatch hf
    · exact nomatch hf
theorem sx_fldN (k i : Nat) {x : Str} {n : Str} {p p' : Pos} (cl : Cls X.K (c.cm k)) (na : NoAttr X.K (c.cm k) n) (he : PE X e (tN c fa)) (hN : X.N[i]? = some x := by rfl) (hv : Vis X.env.scope x := by first | exact Or.inl rfl | exact Or.inr (Or.inl rfl) | exact Or.inr (Or.inr rfl)) (hd : (x == ("__debug__" : Str)) = false := by decide) (hcd : (x == ("__classdict__" : Str)) = false := by decide)
    (hs : swapsWith e (some (.Attribute (.Name x p) n p')) pos.line X.env = pure false := by rfl) : PS X (.Assign [.Attribute (.Name x p) n p'] e pos) (tS c pins (sFldN k i n fa)) := PS_imp (ps_fld (pe_var hN hv hd hcd) he hs) fun Z σ H ⟨G, s, fp, fl, ok, sl, hf, q⟩ => by
  unfold sFldN at hf
  cases h1 : fa s with
  | none => rw [h1] at hf; exact nomatch hf
  | some pp =>
    obtain ⟨xs, s1⟩ := pp
    simp only [h1, Option.bind_some] at hf
    split at hf
    · rename_i k' fs hx
      split at hf
      · rename_i hk
        obtain ⟨rfl, hl⟩ := hk
        cases hf
        refine ⟨G, s, fp, xs, s1, ok, sl, h1, fun pl us H1 G1 fp1 E1 S1 hv r1 => ?_⟩
        obtain ⟨p, dx, vs, ff, f2, g1, g2, g3, w, hp, kk⟩ := own_obj S1 hx
        obtain ⟨fp', E2, S2⟩ := kk n (.ref pl) (.lst xs) [pl] E1.ok (.lst hv r1)
        exact ⟨_, g1, p, _, dx, vs, rfl, g2, cl, na, by rw [w.length]; exact hl, q σ _ G1 fp' (E1.trans E2) S2 PinEq.refl⟩
      · exact nomatch hf
    · exact nomatch hf
end
end DL
/-! DL 12: methods, new instances. -/
namespace DL
open PySem PySem.Spec PyProof.Rows L2
section
variable {c : Cc} {X : Cx} {pins : List Nat} {b1 b2 b3 : Bool} {f g h : EF} {t : BF} {fa fi : AF} {fao : AOF} {pos pos2 apos : Pos} {e o : Expr} {es : List Expr}
variable {H H' H1 H2 G G' G1 G2 : Hp} {s s1 s2 : S} {fp fp1 fp2 : List Addr} {σ σ1 σ2 : L2.St} {Z : Ends}
theorem aoOwn_split {i : Nat} {Q : List V → Hp → Prop} (h : tAO c (aoOwn i fao) σ H Q) : ∃ v, σ[i]? = some (some v) ∧ tAO c fao σ H fun vs H1 => Q (v :: vs) H1 := by
  obtain ⟨G, s, fp, d, s', k, sl, hf, q⟩ := h
  unfold aoOwn at hf
  split at hf
  · rename_i o ho
    split at hf
    · exact nomatch hf
    · rename_i hu
      obtain ⟨v, f1, f2, h1, _⟩ := sl.split ho (fun z => hu (by rw [z]; rfl))
      cases h2 : fao s with
      | none => rw [h2] at hf; exact nomatch hf
      | some pp =>
        obtain ⟨as, s1⟩ := pp
        simp only [h2, Option.map_some, Option.some.injEq, Prod.mk.injEq] at hf
        obtain ⟨rfl, rfl⟩ := hf
        exact ⟨v, h1, G, s, fp, as, s1, k, sl, h2, fun vs fx H1 G1 fp1 E1 S1 a1 => q (v :: vs) fx H1 G1 fp1 E1 S1 (.own h1 a1)⟩
  · exact nomatch hf
section
variable {kl : Nat} {fA : Addr} {fd : FuncData} {ps : List Str} {x n : Str} {p : Pos} {m : List O → Option (D × List O)}
theorem meth_split {k i : Nat} {Q : VK} (q : tE c false (eMeth k i n m fao) σ H Q) :
    ∃ p dx vs, σ[i]? = some (some (.ref p)) ∧ H p = some (.ins (c.cm k) dx vs) ∧ vs.lookup n = none ∧ tAO c fao σ H fun us H2 => spO c m (.ref p :: (us ++ [])) H2 Q E0 := by
  obtain ⟨G, s, fp, d, s', ok, sl, hf, q⟩ := q
  unfold eMeth at hf
  split at hf
  · rename_i k' fs hx
    split at hf
    · rename_i hk
      obtain ⟨rfl, hl⟩ := hk
      obtain ⟨p, dx, vs, ff, f2, g1, g2, g3, w, hp, kk⟩ := own_obj sl hx
      obtain ⟨v, hv, q2⟩ := aoOwn_split (callO_ok (E := E0) ⟨G, s, fp, d, s', ok, sl, hf, q⟩)
      rw [g1] at hv
      cases hv
      exact ⟨p, dx, vs, g1, g2, w.none (Option.isNone_iff_eq_none.mp hl), q2⟩
    · exact nomatch hf
  · exact nomatch hf
theorem ex_meth {pl : Sem Bool} (k i : Nat) (cl : Cls X.K (c.cm k)) (M : Meth X.K (c.cm k) n fA) (F : FnOk X.prog X.w X.K X.mg X.base CX0 kl fA fd ps (spO c m)) (hr : Room kl X.A) (hb : Binds X.K fd ps []) (ha : PA X (e :: es) (tAO c fao))
    (hN : X.N[i]? = some x := by rfl) (hv : Vis X.env.scope x := by first | exact Or.inl rfl | exact Or.inr (Or.inl rfl) | exact Or.inr (Or.inr rfl)) (hd : (x == ("__debug__" : Str)) = false := by decide) (hcd : (x == ("__classdict__" : Str)) = false := by decide)
    (hst : starEach (e :: es) X.env = (false, eval e X.env) :: starEach es X.env := by rfl) (hpl : (backTo pos (starEach es X.env)).any (·.1) = false := by rfl)
    (ht : eval (.Call (.Attribute (.Name x p) n apos) (e :: es) [] pos) X.env = (do
      let ov ← eval (.Name x p) X.env
      standAt apos.atName
      let (f, first) ← holding [ov] (getMethod ov n pl)
      callWith pos f first (backTo pos (starEach (e :: es) X.env)) (backToKw pos (keywordEach [] X.env))) := by rfl) :
    PE X (.Call (.Attribute (.Name x p) n apos) (e :: es) [] pos) (tE c false (eMeth k i n m fao)) :=
  PE_imp (pe_meth (E := E0) (pe_var hN hv hd hcd) cl M F hr hb .nil pass0 ha hst hpl ht) fun σ H Q q => by
    obtain ⟨p, dx, vs, g1, g2, g3, q2⟩ := meth_split q
    exact ⟨_, g1, p, dx, vs, rfl, g2, g3, q2⟩
theorem ex_meth0 {pl : Sem Bool} (k i : Nat) (cl : Cls X.K (c.cm k)) (M : Meth X.K (c.cm k) n fA) (F : FnOk X.prog X.w X.K X.mg X.base CX0 kl fA fd ps (spO c m)) (hr : Room kl X.A) (hb : Binds X.K fd ps [])
    (hN : X.N[i]? = some x := by rfl) (hv : Vis X.env.scope x := by first | exact Or.inl rfl | exact Or.inr (Or.inl rfl) | exact Or.inr (Or.inr rfl)) (hd : (x == ("__debug__" : Str)) = false := by decide) (hcd : (x == ("__classdict__" : Str)) = false := by decide)
    (ht : eval (.Call (.Attribute (.Name x p) n apos) [] [] pos) X.env = (do
      let ov ← eval (.Name x p) X.env
      standAt apos.atName
      let (f, first) ← holding [ov] (getMethod ov n pl)
      callWith pos f first (backTo pos (starEach [] X.env)) (backToKw pos (keywordEach [] X.env))) := by rfl) :
    PE X (.Call (.Attribute (.Name x p) n apos) [] [] pos) (tE c false (eMeth k i n m aoNil)) :=
  PE_imp (pe_meth0 (E := E0) (pe_var hN hv hd hcd) cl M F hr hb .nil pass0 ht) fun σ H Q q => by
    obtain ⟨p, dx, vs, g1, g2, g3, G, s, fp, d, s', ok, sl, hf, q2⟩ := meth_split q
    cases hf
    exact ⟨_, g1, p, dx, vs, rfl, g2, g3, q2 [] [] H G fp (Ev.refl ok) sl .nil⟩
end
/-! ### a new instance -/
theorem Ev.hid (E : Ev H G fp H1 G1 fp1) (th : ∀ a ∈ fp1, H1 a ≠ none) {p : Addr} {o : HO} (hp : H1 p = none) : Ev H G fp (upd H1 p o) G1 (p :: fp1) where
  gs := E.gs
  sub := E.sub.trans (same_upd hp)
  fresh := E.fresh
  frame := fun a ob h n => same_upd hp _ _ (E.frame a ob h n)
  live := fun a h => same_ne (same_upd hp) (E.live a h)
  own := fun a ha => by
    rcases List.mem_cons.mp ha with rfl | ha
    · refine ⟨E.sub.free hp, .inr ?_⟩
      cases q : H a with
      | none => rfl
      | some u => exact absurd hp (E.live a (by rw [q]; simp))
    · exact E.own a ha
  nd := List.nodup_cons.mpr ⟨fun z => th p z hp, E.nd⟩
theorem put_own {fx : List Addr} {v : V} {o : O} (k : Ok H G (fx ++ fp)) (sl : Slots c H G σ s fp) {i : Nat} (hi : i < s.length) (w : Own c H G v o fx) :
    ∃ fp', Ev H G (fx ++ fp) H G fp' ∧ Slots c H G (σ.set i (some v)) (s.set i o) fp' := by
  obtain ⟨f1, f2, hp, kk⟩ := sl.put hi
  obtain ⟨fp', p', sl'⟩ := kk H G v o fx w (fun _ _ => rfl) (Same.refl _)
  refine ⟨fp', ?_, sl'⟩
  have q1 : (fx ++ fp).Perm (f1 ++ (fx ++ f2)) := (List.Perm.append_left fx hp).trans (by
    rw [← List.append_assoc, ← List.append_assoc]
    exact List.Perm.append_right f2 List.perm_append_comm)
  exact ((Ev.refl k).less q1).perm p'
theorem slots_vals {vs : List V} {ds : List D} (r : Reps c.K G vs ds) : Slots c H G (vs.map some) (ds.map O.val) [] := by
  have := slots_start (c := c) (H := H) r 0
  simpa using this
section
variable {kl : Nat} {fA : Addr} {fd : FuncData} {ps : List Str} {x C : Str} {p p' : Pos} {m : List O → Option (D × List O)}
theorem make_ok {k i : Nat} {E : XK} (hp : i ∉ pins) (q : tS c pins (sMake k i m fa) Z σ H) : tAsg (tMake (c.cm k) (spO c m) [] E (tA c b1 fa)) (gName i) Z σ H := by
  obtain ⟨G, s, fp, fl, ok, sl, hf, q⟩ := q
  unfold sMake at hf
  cases h1 : fa s with
  | none => rw [h1] at hf; exact nomatch hf
  | some pp =>
    obtain ⟨ds, s1⟩ := pp
    simp only [h1, Option.bind_some] at hf
    cases h2 : m (.obj k [] :: ds.map .val) with
    | none => simp [h2] at hf
    | some rr =>
      obtain ⟨r, as'⟩ := rr
      simp only [h2, Option.bind_some] at hf
      split at hf
      · rename_i k' fs rest he
        cases he
        split at hf
        · rename_i hk
          obtain ⟨rfl, hi⟩ := hk
          cases hf
          refine ⟨G, s, fp, ds, s1, ok, sl, h1, fun vs H1 G1 fp1 E1 S1 r1 _ x dx hx hdx hne => ?_⟩
          have hx' : upd H1 dx (.own x) x = none := by rw [upd_ne hne.symm]; exact hx
          have E2 := E1.hid (S1.there) (o := .own x) hdx
          have E3 := E2.hid (fun a ha => by
            rcases List.mem_cons.mp ha with rfl | ha
            · rw [upd_same]; simp
            · exact same_ne (same_upd hdx) (S1.there a ha)) (o := .ins (c.cm k') dx []) hx'
          have sm : Same H1 (upd (upd H1 dx (.own x)) x (.ins (c.cm k') dx [])) := (same_upd hdx).trans (same_upd hx')
          refine ⟨G1, [x, dx], _, _, _, ⟨E3.sub, fun a ha => (E3.own a (by simp at ha ⊢; rcases ha with h | h <;> simp [h])).1, by simp; exact hne.symm⟩, ?_, h2, fun v H2 G2 fp2 E4 S4 rv => ?_⟩
          · rw [List.append_nil]
            exact Slots.cons (f1 := [x, dx]) (f2 := []) (.obj upd_same ((upd_ne hne).trans upd_same) .nil) (slots_vals r1)
          · rw [List.append_nil] at S4
            cases rv
            refine ⟨rfl, ?_⟩
            cases S4 with
            | @cons _ _ _ _ f1 f2 w t =>
              have E5 := E3.trans (Ev.beside (f1 := [x, dx]) (f2 := fp1) E3.ok (List.Perm.refl _) (fun a ha => same_ne sm (S1.there a ha)) E4)
              have nd := E3.nd
              have nd : x ∉ fp1 ∧ dx ∉ fp1 := by
                have q1 := List.nodup_cons.mp E3.nd
                have q2 := List.nodup_cons.mp q1.2
                exact ⟨fun z => q1.1 (List.mem_cons_of_mem _ z), q2.1⟩
              have S4' : Slots c (upd (upd H1 dx (.own x)) x (.ins (c.cm k') dx [])) G1 σ s1 fp1 := S1.stay (Same.refl _) fun a ha => by
                cases z : H1 a with
                | none => exact absurd z (S1.there a ha)
                | some ob => exact sm _ _ z
              have S5 : Slots c H2 G2 σ s1 fp1 := S4'.stay E4.gs fun a ha => by
                cases z : upd (upd H1 dx (.own x)) x (.ins (c.cm k') dx []) a with
                | none => exact absurd z (same_ne sm (S1.there a ha))
                | some ob =>
                  refine E4.frame a ob z fun y => ?_
                  rcases List.mem_cons.mp y with rfl | y
                  · exact nd.1 ha
                  · rw [List.mem_singleton.mp y] at ha
                    exact nd.2 ha
              have E6 : Ev H G fp H2 G2 (f1 ++ fp1) := E5.less (f1 := f2) (by
                refine List.perm_iff_count.mpr fun a => ?_
                simp only [List.count_append]
                omega)
              obtain ⟨fp', E7, S7⟩ := put_own E6.ok S5 hi w
              exact q _ _ _ _ (E6.trans E7) S7 (pin_set hp)
        · exact nomatch hf
      · exact nomatch hf
theorem sx_make (k i : Nat) (hN : X.N.Nodup) (M : Mk X.K (c.cm k) fA) (F : FnOk X.prog X.w X.K X.mg X.base CX0 kl fA fd ps (spO c m)) (hr : Room (kl + 1) X.A) (hm : X.mg C = some (.ref (c.cm k))) (hb : Binds X.K fd ps []) (ha : PA X (e :: es) (tA c b1 fa))
    (hp : i ∉ pins := by decide) (hg : Gl X C := by rfl) (hi : X.N[i]? = some x := by rfl) (hx : Loc X.env.scope x := by first | exact Or.inl rfl | exact Or.inr rfl)
    (hdb : (C == ("__debug__" : Str)) = false := by decide) (he : starEach (e :: es) X.env = (false, eval e X.env) :: starEach es X.env := by rfl) (hpl : (backTo pos (starEach es X.env)).any (·.1) = false := by rfl)
    (hs : swapsWith (.Call (.Name C p) (e :: es) [] pos) (some (.Name x p')) pos2.line X.env = pure false := by rfl) (hf : X.fn x = true ∨ X.env.scope.names.lookup x = some .local := by first | exact .inl rfl | exact .inr rfl) :
    PS X (.Assign [.Name x p'] (.Call (.Name C p) (e :: es) [] pos) pos2) (tS c pins (sMake k i m fa)) :=
  PS_imp (ps_set hN hi hx (pe_make (E := E0) M F hr hg hm hb .nil pass0 ha hdb he hpl) hs hf) fun D σ H q => make_ok hp q
theorem sx_make0 (k i : Nat) (hN : X.N.Nodup) (M : Mk X.K (c.cm k) fA) (F : FnOk X.prog X.w X.K X.mg X.base CX0 kl fA fd ps (spO c m)) (hr : Room (kl + 1) X.A) (hm : X.mg C = some (.ref (c.cm k))) (hb : Binds X.K fd ps [])
    (hp : i ∉ pins := by decide) (hg : Gl X C := by rfl) (hi : X.N[i]? = some x := by rfl) (hx : Loc X.env.scope x := by first | exact Or.inl rfl | exact Or.inr rfl)
    (hdb : (C == ("__debug__" : Str)) = false := by decide)
    (hs : swapsWith (.Call (.Name C p) [] [] pos) (some (.Name x p')) pos2.line X.env = pure false := by rfl) (hf : X.fn x = true ∨ X.env.scope.names.lookup x = some .local := by first | exact .inl rfl | exact .inr rfl) :
    PS X (.Assign [.Name x p'] (.Call (.Name C p) [] [] pos) pos2) (tS c pins (sMake k i m aNil)) :=
  PS_imp (ps_set hN hi hx (pe_make0 (E := E0) M F hr hg hm hb .nil pass0 hdb) hs hf) fun D σ H q => by
    obtain ⟨G, s, fp, ds, s', ok, sl, hf, q2⟩ := make_ok (b1 := true) (E := E0) hp q
    cases hf
    exact q2 [] H G fp (Ev.refl ok) sl .nil (Pure.here ok.sub)
end
/-! ### what the top has left of a class -/
end
structure ClsAt (K : PySem.W.Frag) (mg : Str → Option Value) (nm : Str) where
  C : Addr
  cl : Cls K C
  g : mg nm = some (.ref C)
structure MethAt (K : PySem.W.Frag) (C : Addr) (nm qual : Str) (st : Stmt) (ps : List Str) where
  a : Addr
  d : FuncData
  F : Fun K nm qual st a d
  b : Binds K d ps []
  m : Meth K C nm a
def MethAt.mk' {K : PySem.W.Frag} {C : Addr} {nm qual : Str} {st : Stmt} {ps : List Str} {f : Addr} {od an : Option Addr} {sl : Array (Option Value)} {oc kV dc pm cd ct : Value}
    (a : PySem.W.findIn K (.ref C) nm = some (some (.ref f))) (i : PySem.W.isFn K (.ref f) = true) (l : K.lookup f = some ⟨oc, od, .func (PySem.W.fnOf nm qual (defArgs st) (defBody st) (defScope st) .none kV dc pm an cd ct), sl⟩) (c : PySem.W.codeIn K cd qual = true) (k : PySem.W.keepIn K (.ref f) = true)
    (hb : ∀ (kV doc pm : Value) (an : Option Addr) (cdv ct : Value) (us : List Value), us.length = ps.length → bindArgs (PySem.W.fnOf nm qual (defArgs st) (defBody st) (defScope st) .none kV doc pm an cdv ct) ⟨us, []⟩ = pure (ps.zip us)) : MethAt K C nm qual st ps :=
  ⟨f, _, fun_mk l c k, (fun_mk l c k).binds hb, ⟨a, i, k⟩⟩
end DL
/-! DL 13: x[::-1], sorted. -/
namespace DL
open PySem PySem.Spec PyProof.Rows L2 HT
section
variable {prog : Program} {w : World} {A : Around} {E : Value → Shared → Prop} {s : Shared}
theorem sliceApplied_rev {sl : Addr} {t : Tok} {n : Nat} {Q : Int × Int × Nat → Shared → Prop} (hs : s.heap.IsSliceOf sl .none .none (.int (-1) t))
    (h : Q ((n : Int) - 1, -1, n) s) : wpAny (model prog w) A (Builtin.Slice.sliceApplied (.ref sl) (pure (n : Int))) Q E s := by
  obtain ⟨os, hos, hcs, hds⟩ := id hs
  unfold Builtin.Slice.sliceApplied Builtin.Slice.sliceFields
  refine wpAny_bind (wpAny_bind (wpAny_field hos hds (x := .none) rfl (wpAny_bind (wpAny_field hos hds (x := .none) rfl (wpAny_bind (wpAny_field hos hds (x := .int (-1) t) rfl (wpAny_pure ?_)))))))
  refine wpAny_bind (slicePart_int ?_)
  show wpAny _ _ (if ((-1 : Int) == 0) = true then _ else _) _ _ s
  rw [if_neg (by decide)]
  refine wpAny_bind (slicePart_none (wpAny_bind (slicePart_none (wpAny_bind (wpAny_pure ?_)))))
  show wpAny _ _ (pure ((n : Int) - 1, (-1 : Int), Builtin.Slice.slicePlaces ((n : Int) - 1) (-1) (-1))) _ _ s
  have e : Builtin.Slice.slicePlaces ((n : Int) - 1) (-1) (-1) = n := by
    unfold Builtin.Slice.slicePlaces
    rw [if_neg (by decide)]
    split
    · rw [show -(-1 : Int) = 1 by decide, Int.ediv_one]; omega
    · omega
  rw [e]
  exact wpAny_pure h
theorem pick_take {α : Type} (l : List α) : ∀ n, n ≤ l.length → (List.range n).filterMap (fun m => l[m]?) = l.take n
  | 0, _ => by simp
  | n + 1, h => by
    rw [List.range_succ, List.filterMap_append, pick_take l n (by omega), List.take_succ]
    simp [List.getElem?_eq_getElem (show n < l.length by omega)]
theorem fm_congr {α β : Type} {f g : α → Option β} : ∀ {l : List α}, (∀ a ∈ l, f a = g a) → l.filterMap f = l.filterMap g
  | [], _ => rfl
  | a :: l, h => by rw [List.filterMap_cons, List.filterMap_cons, h a (by simp), fm_congr fun b hb => h b (by simp [hb])]
theorem pick_rev (xs : Array Value) : ((List.range xs.size).filterMap fun (m : Nat) => xs[((xs.size : Int) - 1 + (m : Int) * (-1)).toNat]?).toArray = xs.toList.reverse.toArray := by
  congr 1
  have e : (List.range xs.size).filterMap (fun (m : Nat) => xs[((xs.size : Int) - 1 + (m : Int) * (-1)).toNat]?) = (List.range xs.size).filterMap (fun m => (xs.toList.reverse)[m]?) := by
    refine fm_congr fun m hm => ?_
    have hm := List.mem_range.mp hm
    rw [List.getElem?_reverse (by simpa using hm), Array.getElem?_toList]
    congr 1
    simp only [Array.length_toList]
    omega
  rw [e, pick_take _ _ (by simp), List.take_of_length_le (by simp)]
theorem getItem_tuple_rev {t sl : Addr} {items : Array Value} {u : Tok} {Q : Value → Shared → Prop} (ht : IsTup s.heap t items) (hs : s.heap.IsSliceOf sl .none .none (.int (-1) u))
    (h : Q (.ref s.heap.objs.size) { s with heap := s.heap.push { cls := .type "tuple", data := .seq items.toList.reverse.toArray } })
    (hsz : items.size ≤ sizeLine) : wpAny (model prog w) A (getItem (.ref t) (.ref sl)) Q E s := by
  have htake : sizeOk (.seq items.toList.reverse.toArray) := by
    show items.toList.reverse.toArray.size ≤ sizeLine
    simpa using hsz
  obtain ⟨os, hos, hcs, hds⟩ := id hs
  have hTs : s.TypeIs (.ref sl) "slice" := ⟨os, hos, hcs⟩
  unfold getItem
  try with_reducible refine wpAny_holding ?_
  first | refine wpAny_bind (wpAny_pure ?_) | skip
  refine wpAny_bind (wpAny_sequenceKey ht.typeIs (by decide) ?_)
  refine wpAny_bind (wpAny_callSpecial?_slot (name := Str.ofString "__getitem__") ht.typeIs PyProof.Rows.slot_tuple_getitem
    (wpAny_call_entry PyProof.Rows.slot_tuple_getitem ht.typeIs entry_tuple_getitem ?_ (args_tuple_getitem _ _)))
  show wpAny _ _ (Builtin.Tuple.tupleItemsOf (.ref t) >>= _) _ _ s
  refine wpAny_bind (tupleItemsOf_ ht ?_)
  refine wpAny_bind (wpAny_typeOf hTs ?_)
  rw [if_pos (by decide)]
  refine wpAny_bind (sliceApplied_rev hs ?_)
  have hno : ¬ ((((items.size : Int) - 1) == 0 && (-1 : Int) == 1 && items.size == items.size) = true) := by
    intro q
    rw [Bool.and_eq_true, Bool.and_eq_true] at q
    exact absurd q.1.2 (by decide)
  show wpAny _ _ (if (((items.size : Int) - 1) == 0 && (-1 : Int) == 1 && items.size == items.size) = true then _ else _) _ _ s
  rw [if_neg hno, pick_rev]
  first
    | exact wpAny_bind (m := Builtin.Tuple.tupleExact _) (wpAny_newObj_type (wpAny_pure ⟨_, rfl, wpAny_pure h⟩) htake)
    | exact wpAny_bind (m := Builtin.Tuple.tupleExact _) (wpAny_newObj_type (wpAny_bind (wpAny_pure (wpAny_pure ⟨_, rfl, wpAny_pure h⟩))) htake)
    | exact wpAny_bind (wpAny_bind (m := Builtin.Tuple.tupleExact _) (wpAny_newObj_type (wpAny_pure (wpAny_pure ⟨_, rfl, wpAny_pure h⟩)) htake))
    | exact wpAny_bind (wpAny_bind (m := Builtin.Tuple.tupleExact _) (wpAny_newObj_type (wpAny_pure ⟨_, rfl, wpAny_pure h⟩) htake))
end
section
variable {X : Cx}
def tRevA (K : PySem.W.Frag) (te : TE) : TE := fun σ H Q => te σ H fun x H1 => ∃ a xs, x = .ref a ∧ SqT K H1 a xs ∧ ∀ p, H1 p = none → Q (.ref p) (upd H1 p (.tup xs.reverse))
theorem pe_revT {e : Expr} {te : TE} {k : Nat} {p1 p2 p3 pos : Pos} (he : PE X e te) : PE X (.Subscript e (.Slice none none (some (.UnaryOp .USub (.Constant (.int 1) k p1) p2)) p3) pos) (tRevA X.K te) := by
  refine ⟨fun pins s σ H Q I h => ?_⟩
  refine Subscript_ (thn (he.run pins s σ H _ I h) fun v s1 ⟨x, H1, I1, r1, q1⟩ => ?_)
  obtain ⟨a, xs, ex, hx, q⟩ := q1
  subst ex
  cases r1
  have hst : PO X (some (.UnaryOp .USub (.Constant (.int 1) k p1) p2)) (tPart (tUn (rU fun i => .int (-i)) (tC (.int 1)))) := po_some (pe_un un_neg pe_int)
  refine wpAny_Slice (thn (po_none.run pins s1 σ H1 (fun o H2 => o = none ∧ H2 = H1) I1 ⟨rfl, rfl⟩) fun vl s2 ⟨l, H2, I2, pl, el, e2⟩ => ?_)
  subst el e2
  refine thn (po_none.run pins s2 σ H2 (fun o H3 => o = none ∧ H3 = H2) I2 ⟨rfl, rfl⟩) fun vu s3 ⟨u, H3, I3, pu, eu, e3⟩ => ?_
  subst eu e3
  refine thn (hst.run pins s3 σ H3 (fun o H4 => o = some (-1) ∧ H4 = H3) I3 ⟨1, rfl, -1, rfl, rfl, rfl⟩) fun vs s4 ⟨o, H4, I4, ps, eo, e4⟩ => ?_
  subst eo e4
  cases pl
  cases pu
  cases ps with
  | int _ t =>
  have I5 : Inv X pins σ H4 { s4 with heap := s4.heap.push { cls := .type "slice", data := .fields #[.none, .none, .int (-1) t] } } := I4.kept (t' := s4.toks) fun b ob q => Heap.get?_push_of_some _ q
  obtain ⟨its, r, ht, hz⟩ := I5.tuple hx
  have hlen := r.length
  show wpAny (model X.prog X.w) X.A (subscriptTail e (.Slice none none (some (.UnaryOp .USub (.Constant (.int 1) k p1) p2)) p3) (.ref a) (.ref s4.heap.objs.size)) (EP X pins σ Q) X.xe { s4 with heap := s4.heap.push { cls := .type "slice", data := .fields #[.none, .none, .int (-1) t] } }
  refine tail_any (ops := [.ref a, .ref s4.heap.objs.size]) ht.typeIs (PyProof.Rows.slot_tuple_getitem.lookup) ?_ (by with_unfolding_all rfl)
  refine getItem_tuple_rev ht (Heap.IsSliceOf.new _ .none .none (.int (-1) t)) ?_ (by rw [List.size_toArray]; omega)
  refine ⟨.ref _, _, I5.laid (t' := s4.toks) (o := .tup xs.reverse) (fun b ob q => Heap.get?_push_of_some _ q) (Nat.le_refl _) ?_, rfl, q _ (I5.hok.fresh (Nat.le_refl _))⟩
  exact ⟨by rw [List.length_reverse]; exact hz, _, r.reverse, ⟨_, Heap.get?_push_size _ rfl, rfl, _, rfl⟩⟩
end
end DL
/-! DL 14: t * 1, reversed slices, sorted, changed lists. -/
namespace DL
open PySem PySem.Spec PyProof.Rows L2
theorem tuple_mul1 (l : Addr) (items : Array Value) (n : Nat) (dd : Option Addr) (sl : Array (Option Value)) (u : Tok) :
    Meets (Builtin.«tuple.__mul__» ⟨[.ref l, .int 1 u], []⟩) (fun _ R s => s.heap.get? l = some { cls := .type "tuple", dict := dd, data := .seq items n, slots := sl } ∧ R (.ok (.ret (Value.ref l))) s) :=
  .of_wp fun prog w A R s h => by
    obtain ⟨hp, g, d, tk, os⟩ := s
    obtain ⟨hl, h⟩ := h
    have f1 := AutoSeq1.idx_int
    have c1 : (items.isEmpty || (1 : Int) == 1) = true := by simp
    wp_walk using wpAny_loadPart' hl
    repeat (first
      | (refine wpAny_ite_true (decide_eq_true c1) ?_; wp_walk using wpAny_loadPart' hl)
      | (refine wpAny_ite_false (decide_eq_false (by decide)) ?_; wp_walk using wpAny_loadPart' hl))
    exact ⟨_, rfl, h⟩
def rRep1 (K : PySem.W.Frag) : R2 := fun x y H Q => ∃ l xs, x = .ref l ∧ y = .int 1 ∧ SqT K H l xs ∧ Q (.ref l) H
section
variable {X : Cx}
theorem op_rep1 : OpR X (binaryOp .Mult) (rRep1 X.K) := by
  intro pins s σ H x y v u Q I rx ry h
  obtain ⟨l, xs, rfl, rfl, hT, q⟩ := h
  cases rx
  obtain ⟨t, rfl⟩ := ry
  obtain ⟨its, r, ⟨⟨cls, dd, data, sl⟩, ho, hc, n, hd⟩, hs⟩ := I.tuple hT
  simp only at hc hd
  subst hc hd
  refine wpAny_binaryOp_repeat_ref (T := "tuple") (U := "int") (by decide) ⟨_, ho, rfl⟩ (fun s' => typeIs_int s' 1 t) noFill_tuple_mul F.fills_int_mul F.slot_int_rmul repeat_tuple F.slot_int_index.lookup
    (call_meets F.slot_int_rmul (typeIs_int s 1 t) F.entry_int_rmul (F.args_int_rmul_2 _ _) (int_rmul_tuple 1 t l its.toArray n dd sl)
      ⟨ho, rfl, ⟨_, ho, rfl⟩, call_meets F.slot_tuple_mul ⟨_, ho, rfl⟩ F.entry_tuple_mul (F.args_tuple_mul_2 _ _) (tuple_mul1 l its.toArray n dd sl t) ⟨ho, ?_⟩⟩)
  exact ⟨.ref l, H, I, rfl, q⟩
theorem tuple_mul0 (l : Addr) (items : Array Value) (n : Nat) (dd : Option Addr) (sl : Array (Option Value)) (u : Tok) (hi : items.isEmpty = false) :
    Meets (Builtin.«tuple.__mul__» ⟨[.ref l, .int 0 u], []⟩) (fun _ R s => s.heap.get? l = some { cls := .type "tuple", dict := dd, data := .seq items n, slots := sl } ∧
      R (.ok (.ret (Value.ref s.heap.objs.size))) { s with heap := s.heap.push { cls := Value.type "tuple", data := Data.seq #[] }, toks := s.toks }) :=
  .of_wp fun prog w A R s h => by
    obtain ⟨hp, g, d, tk, os⟩ := s
    obtain ⟨hl, h⟩ := h
    have f1 := AutoSeq1.idx_int
    have c1 : (items.isEmpty || (0 : Int) == 1) = false := by rw [hi]; rfl
    have c2 : (decide ((0 : Int) ≤ 0) || items.isEmpty) = true := by rw [hi]; rfl
    wp_walk using wpAny_loadPart' hl
    repeat (first
      | (refine wpAny_ite_true (decide_eq_true c2) ?_; wp_walk using wpAny_loadPart' hl)
      | (refine wpAny_ite_false (decide_eq_false (by rw [c1]; exact Bool.false_ne_true)) ?_; wp_walk using wpAny_loadPart' hl)
      | (refine wpAny_ite_false (decide_eq_false (by decide)) ?_; wp_walk using wpAny_loadPart' hl))
    exact ⟨_, rfl, h⟩
def rRep0 (K : PySem.W.Frag) : R2 := fun x y H Q => ∃ l xs, x = .ref l ∧ y = .int 0 ∧ SqT K H l xs ∧ xs ≠ [] ∧ ∀ p, H p = none → Q (.ref p) (upd H p (.tup []))
theorem op_rep0 : OpR X (binaryOp .Mult) (rRep0 X.K) := by
  intro pins s σ H x y v u Q I rx ry h
  obtain ⟨l, xs, rfl, rfl, hT, hne, q⟩ := h
  cases rx
  obtain ⟨t, rfl⟩ := ry
  obtain ⟨its, r, ⟨⟨cls, dd, data, sl⟩, ho, hc, n, hd⟩, hs⟩ := I.tuple hT
  simp only at hc hd
  subst hc hd
  have hi : its.toArray.isEmpty = false := by
    cases its with
    | nil =>
      have := r.length
      exact absurd (List.eq_nil_of_length_eq_zero this) hne
    | cons a b => rfl
  refine wpAny_binaryOp_repeat_ref (T := "tuple") (U := "int") (by decide) ⟨_, ho, rfl⟩ (fun s' => typeIs_int s' 0 t) noFill_tuple_mul F.fills_int_mul F.slot_int_rmul repeat_tuple F.slot_int_index.lookup
    (call_meets F.slot_int_rmul (typeIs_int s 0 t) F.entry_int_rmul (F.args_int_rmul_2 _ _) (int_rmul_tuple 0 t l its.toArray n dd sl)
      ⟨ho, rfl, ⟨_, ho, rfl⟩, call_meets F.slot_tuple_mul ⟨_, ho, rfl⟩ F.entry_tuple_mul (F.args_tuple_mul_2 _ _) (tuple_mul0 l its.toArray n dd sl t hi) ⟨ho, ?_⟩⟩)
  have hf : H s.heap.objs.size = none := I.hok.fresh (Nat.le_refl _)
  refine ⟨.ref s.heap.objs.size, upd H s.heap.objs.size (.tup []), I.laid (t' := s.toks) (fun b u e => Heap.get?_push_of_some _ e) (Nat.le_refl _) ?_, rfl, q _ hf⟩
  exact ⟨Nat.zero_le _, [], .nil, ⟨_, Heap.get?_push_size _ rfl, rfl, _, rfl⟩⟩
def rMulT (K : PySem.W.Frag) : R2 := fun x y H Q => (rMulA K x y H Q ∨ rRep1 K x y H Q) ∨ rRep0 K x y H Q
theorem op_mulT : OpR X (binaryOp .Mult) (rMulT X.K) := (op_mulA.or op_rep1).or op_rep0
end
def dMulT : D → D → Option D
  | .tup xs, .int k => if k = 1 then some (.tup xs) else if k = 0 ∧ xs ≠ [] then some (.tup []) else dMul (.tup xs) (.int k)
  | x, y => dMul x y
theorem os_mulT {c : Cc} : OpS c (rMulT c.K) dMulT := fun H G x y dx dy dz Q e rx ry hz q => by
  unfold dMulT at hz
  split at hz
  · split at hz
    · rename_i h
      subst h
      cases hz
      cases rx with
      | tup t1 r1 => exact .inl (.inr ⟨_, _, rfl, ry.ints, Same.sqT e t1, q _ _ _ (Grow.refl e) (.tup t1 r1)⟩)
    · split at hz
      · rename_i h
        obtain ⟨h, hne⟩ := h
        subst h
        cases hz
        cases rx with
        | tup t1 r1 =>
          refine .inr ⟨_, _, rfl, ry.ints, Same.sqT e t1, fun z => ?_, fun p hp => q _ _ _ (Grow.alloc e hp) (.tup (.inl (.inl upd_same)) .nil)⟩
          subst z
          cases r1
          exact hne rfl
      · exact .inl (.inl (os_mul Q e rx ry hz q))
  · exact .inl (.inl (os_mul Q e rx ry hz q))
/-! ### x[::-1] -/
theorem PE_or {X : Cx} {e : Expr} {t1 t2 : TE} (h1 : PE X e t1) (h2 : PE X e t2) : PE X e (fun σ H Q => t1 σ H Q ∨ t2 σ H Q) := ⟨fun pins s σ H Q I h => by
  rcases h with h | h
  · exact h1.run pins s σ H Q I h
  · exact h2.run pins s σ H Q I h⟩
def dRev : D → Option D
  | .lst xs => some (.lst xs.reverse)
  | .tup xs => some (.tup xs.reverse)
  | _ => none
section
variable {c : Cc} {X : Cx} {pins : List Nat} {b1 b2 b3 : Bool} {f g h : EF} {t : BF} {fa fi : AF} {pos : Pos} {e o a : Expr} {es : List Expr}
variable {H H1 H2 G G1 G2 : Hp} {s s1 s2 : S} {fp fp1 fp2 : List Addr} {σ σ1 σ2 : L2.St} {Z : Ends}
theorem ex_rev {k : Nat} {p1 p2 p3 : Pos} (he : PE X e (tE c b1 f)) (hK : X.K = c.K := by rfl) : PE X (.Subscript e (.Slice none none (some (.UnaryOp .USub (.Constant (.int 1) k p1) p2)) p3) pos) (tE c b1 (e1 dRev f)) :=
  PE_imp (PE_or (pe_revL he) (pe_revT he)) fun σ H Q ⟨G, s, fp, d, s', ok, sl, hf, q⟩ => by
    rw [hK]
    unfold e1 at hf
    cases h1 : f s with
    | none => rw [h1] at hf; exact nomatch hf
    | some pp =>
      obtain ⟨x, s1⟩ := pp
      simp only [h1, Option.bind_some] at hf
      cases x with
      | lst xs =>
        simp only [dRev, Option.map_some, Option.some.injEq, Prod.mk.injEq] at hf
        obtain ⟨rfl, rfl⟩ := hf
        refine .inl ⟨G, s, fp, _, _, ok, sl, h1, fun v H1 G1 fp1 E1 S1 r1 p1 => ?_⟩
        cases r1 with
        | lst t1 r1 =>
          exact ⟨_, _, rfl, Same.sqL E1.sub t1, fun p hp => q _ _ _ fp1 (E1.grow S1 (Grow.alloc E1.sub hp)) (S1.step (Grow.alloc E1.sub hp)) (.lst (SqL.of upd_same) (r1.reverse.mono (same_upd (E1.sub.free hp)))) (p1.grow (Grow.alloc E1.sub hp))⟩
      | tup xs =>
        simp only [dRev, Option.map_some, Option.some.injEq, Prod.mk.injEq] at hf
        obtain ⟨rfl, rfl⟩ := hf
        refine .inr ⟨G, s, fp, _, _, ok, sl, h1, fun v H1 G1 fp1 E1 S1 r1 p1 => ?_⟩
        cases r1 with
        | tup t1 r1 =>
          exact ⟨_, _, rfl, Same.sqT E1.sub t1, fun p hp => q _ _ _ fp1 (E1.grow S1 (Grow.alloc E1.sub hp)) (S1.step (Grow.alloc E1.sub hp)) (.tup (SqT.of upd_same) (r1.reverse.mono (same_upd (E1.sub.free hp)))) (p1.grow (Grow.alloc E1.sub hp))⟩
      | _ => simp [dRev] at hf
/-! ### sorted -/
def sortI (ns : List Int) : List Int := ns.mergeSort fun a b => decide (a ≤ b)
theorem sortI_uniq {ns ms : List Int} (p : ms.Perm ns) (h : ms.Pairwise (· ≤ ·)) : ms = sortI ns := by
  have p2 : (sortI ns).Perm ns := List.mergeSort_perm _ _
  have s2 : (sortI ns).Pairwise (· ≤ ·) := by
    have := List.pairwise_mergeSort (le := fun a b : Int => decide (a ≤ b)) (fun a b c h1 h2 => by simp at *; omega) (fun a b => by simp; omega) ns
    exact this.imp fun h => by simpa using h
  exact List.Perm.eq_of_pairwise (fun a b _ _ h1 h2 => Int.le_antisymm h1 h2) h s2 (p.trans p2.symm)
def bSorted : List D → Option D
  | [.lst xs] => (intsD xs).map fun ns => .lst ((sortI ns).map .int)
  | _ => none
theorem cs_sorted : CallS c (rSortedI c.K) bSorted := fun H G vs ds z Q e r hz q => by
  unfold bSorted at hz
  split at hz
  · rename_i xs
    cases hb : intsD xs with
    | none => rw [hb] at hz; exact nomatch hz
    | some ns =>
      rw [hb] at hz
      cases hz
      obtain ⟨v, rfl, r1⟩ := reps1 r
      cases r1 with
      | lst t1 r1 =>
        refine ⟨_, ns, rfl, by rw [← ints_rep r1 hb]; exact Same.sqL e t1, fun ns' p hp hs hf => ?_⟩
        rw [sortI_uniq hp hs]
        exact q _ _ _ (Grow.alloc e hf) (.lst (SqL.of upd_same) (reps_ints _))
  · exact nomatch hz
/-! ### a comprehension as a new list; extend -/
theorem xn_lc {fe : EF} {ft : BF} {gf : GF} {elt tg iter : Expr} {ifs : List Expr} {scope : Scope} {own : List (Str × Nat)} {pins' : List Nat} (hN : X.N.Nodup) (hi : PI X tg iter (tI c b1 fi)) (ok : BlkOk X.N X.env.scope scope own) (hp : ∀ i < X.N.length, i ∉ own.map (·.2) → i ∈ pins') (ho : GOwn gf (own.map (·.2)))
    (hg : ∀ (s : Shared) (H : Hp) (C : Addr) (cl : List (Str × Addr)) (fp : List Addr), PG (X.blk s H scope (compEnvC scope cl C X.env) fp) tg (tG c pins' true gf)) (ht : ∀ (s : Shared) (H : Hp) (C : Addr) (cl : List (Str × Addr)) (fp : List Addr), PTs (X.blk s H scope (compEnvC scope cl C X.env) fp) ifs (tT c b2 ft))
    (he : ∀ (s : Shared) (H : Hp) (C : Addr) (cl : List (Str × Addr)) (fp : List Addr), PE (X.blk s H scope (compEnvC scope cl C X.env) fp) elt (tE c b3 fe)) (hnd : (own.map (·.2)).Nodup := by decide) (hc : X.calm = true := by rfl) (hs : ∀ x, foldedSetIterable iter X.env x = pure x := by exact fun _ => rfl) :
    PE X (.ListComp elt [⟨tg, iter, ifs, 0⟩] scope pos) (tN c (aLc (own.map (·.2)) fi gf ft fe)) := by
  refine ⟨fun pins s σ H Q I ⟨G, S, fp, d, s', k, sl, hf, q⟩ => (pe_lc hc hN hi ok hg ht he hs).run pins s σ H Q I (lc_ok X.N.length I.len hp ho hnd _ rfl ?_)⟩
  refine ⟨G, S, fp, d, s', k, sl, hf, fun Dl vs H' G' fp' hD hDg hDf E' S' hv rr pu => ?_⟩
  refine q Dl vs H' G' fp' { E' with own := fun a ha => ?_, nd := List.nodup_cons.mpr ⟨hDf, E'.nd⟩ } S' hv rr
  rcases List.mem_cons.mp ha with rfl | ha
  · exact ⟨hDg, .inr hD⟩
  · exact E'.own a ha
def sExt (i : Nat) (f : AF) : SF := fun s => match s[i]? with
  | some (.lst _) => (f s).bind fun p => match p.2[i]? with
    | some (.lst xs) => if xs.length + p.1.length ≤ cap then some (.next (p.2.set i (.lst (xs ++ p.1)))) else none
    | _ => none
  | _ => none
theorem sx_ext (i : Nat) {x : Str} {p1 apos cpos : Pos} {line : Pos} (he : PE X e (tN c fa)) (hN : X.N[i]? = some x := by rfl) (hv : Vis X.env.scope x := by first | exact Or.inl rfl | exact Or.inr (Or.inl rfl)) (hK : X.K = c.K := by rfl)
    (hd : (x == ("__debug__" : Str)) = false := by decide) (hcd : (x == ("__classdict__" : Str)) = false := by decide)
    (hbase : attributeBase (.Name x p1) "extend" X.env (eval (.Name x p1) X.env) = eval (.Name x p1) X.env := by rfl)
    (hfew : ((backTo cpos (starEach [e] X.env)).all (fun x => !x.1) && (backToKw cpos (keywordEach [] X.env)).all (fun x => x.1.isSome)
      && decide ([e].length + ([] : List Keyword).length + (if ([] : List Keyword).isEmpty then 0 else 1) < 30)) = true := by rfl)
    (hline : (apos.endLine == cpos.line) = true := by rfl) (hs : starEach [e] X.env = (false, eval e X.env) :: starEach [] X.env := by rfl) (hplain : (backTo cpos (starEach [] X.env)).any (·.1) = false := by rfl)
    (hsw : swapsWith (.Call (.Attribute (.Name x p1) "extend" apos) [e] [] cpos) none line.line X.env = pure false := by rfl) :
    PS X (.Expr (.Call (.Attribute (.Name x p1) "extend" apos) [e] [] cpos) line) (tS c pins (sExt i fa)) :=
  PS_imp (ps_expr (pe_bm PySem.F.plainAttrs_list PySem.F.slot_list_extend PySem.F.type_list_extend mt_extend (pe_var hN hv hd hcd) (pa_cons he pa_nil hs) hbase hfew hline hs hplain) hsw) fun Z σ H ⟨G, s, fp, fl, k, sl, hf, q⟩ => by
    unfold sExt at hf
    split at hf
    · rename_i ys hy
      cases h1 : fa s with
      | none => rw [h1] at hf; exact nomatch hf
      | some pp =>
        obtain ⟨zs, s1⟩ := pp
        simp only [h1, Option.bind_some] at hf
        split at hf
        · rename_i xs hx
          split at hf
          · rename_i hl
            cases hf
            obtain ⟨p, vs, _, hσ, hv, _, _, _⟩ := own_lst k sl hy
            refine ⟨_, hσ, .inl ⟨rfl, _, SqL.of hv⟩, G, s, fp, zs, s1, k, sl, h1, fun pl us H1 G1 fp1 E1 S1 hpl r1 => ?_⟩
            have E1' : Ev H G fp H1 G1 fp1 := E1.less (f1 := [pl]) (List.Perm.refl _)
            obtain ⟨p', vs', f2, hσ', hv', r', _, kk⟩ := own_lst E1'.ok S1 hx
            rw [hσ] at hσ'
            cases hσ'
            obtain ⟨fp', E2, S2⟩ := kk (vs' ++ us) (xs ++ zs) (r'.append r1)
            exact ⟨_, _, _, _, rfl, rfl, hv', hpl, by rw [r'.length, r1.length]; exact Nat.le_trans hl cap_line, q σ _ G1 fp' (E1'.trans E2) S2 PinEq.refl⟩
          · exact nomatch hf
        · exact nomatch hf
    · exact nomatch hf
/-! ### a slice of a list of one's own -/
def eCutO (i : Nat) (lo hi : S → Option (Option Int × S)) : EF := fun s => match s[i]? with
  | some (.lst xs) => (lo s).bind fun q => (hi q.2).bind fun r => some (.lst (DL.cutD xs q.1 r.1), r.2)
  | _ => none
theorem ex_cutO (i : Nat) {x : Str} {p p2 : Pos} {lo hi : Option Expr} {fl fh : S → Option (Option Int × S)} (hl : PO X lo (tOp' c true fl)) (hu : PO X hi (tOp' c true fh)) (hN : X.N[i]? = some x := by rfl) (hv : Vis X.env.scope x := by first | exact Or.inl rfl | exact Or.inr (Or.inl rfl)) (hd : (x == ("__debug__" : Str)) = false := by decide) (hcd : (x == ("__classdict__" : Str)) = false := by decide)
    (hK : X.K = c.K := by rfl) : PE X (.Subscript (.Name x p) (.Slice lo hi none p2) pos) (tE c true (eCutO i fl fh)) := PE_imp (pe_slice sl_list (pe_var hN hv hd hcd) hl hu) fun σ H Q ⟨G, s, fp, d, s', k, sl, hf, q⟩ => by
  rw [hK]
  unfold eCutO at hf
  split at hf
  · rename_i xs hx
    obtain ⟨v, f1, f2, h1, h2, hp, hk⟩ := sl.split hx (by simp)
    cases h2 with
    | @lst p vs _ hv r =>
      cases h3 : fl s with
      | none => rw [h3] at hf; exact nomatch hf
      | some p3 =>
        obtain ⟨y, s2⟩ := p3
        simp only [h3, Option.bind_some] at hf
        cases h4 : fh s2 with
        | none => simp [h4] at hf
        | some p4 =>
          obtain ⟨w, s3⟩ := p4
          simp only [h4, Option.bind_some, Option.some.injEq, Prod.mk.injEq] at hf
          obtain ⟨rfl, rfl⟩ := hf
          refine ⟨_, h1, ⟨G, s, fp, _, _, k, sl, h3, fun H1 G1 fp1 E1 S1 p1 => ⟨G1, _, fp1, _, _, E1.ok, S1, h4, fun H2 G2 fp2 E2 S2 p2 => ?_⟩⟩⟩
          obtain ⟨g1, e1⟩ := p1 rfl
          obtain ⟨g2, e2⟩ := p2 rfl
          subst e1
          subst e2
          have g3 := g1.trans g2
          refine ⟨_, _, rfl, SqL.of (g3.hs _ _ hv), fun p' hp' => ?_⟩
          have g4 := g3.trans (Grow.alloc (o := .lst (cutV vs y w)) g3.sub hp')
          exact q _ _ _ _ (g4.ev k sl) (sl.step g4) (.lst (SqL.of upd_same) (((r.cut _ _).mono g3.gs).mono (same_upd (g3.sub.free hp')))) fun _ => ⟨g4, rfl⟩
  · exact nomatch hf
end
end DL
/-! DL 15: in and not in of flat things; new lists put together. -/
namespace DL
open PySem PySem.Spec PyProof.Rows L2
/-! ### x in (a, b) -/
def flatD : D → Option V
  | .non => some .non
  | .bl b => some (.bl b)
  | .int i => some (.int i)
  | .str x => some (.str x)
  | _ => none
def flatsD : List D → Option (List V)
  | [] => some []
  | x :: xs => (flatD x).bind fun v => (flatsD xs).map fun vs => v :: vs
def seqD : D → Option (List D)
  | .tup xs => some xs
  | .lst xs => some xs
  | _ => none
def dInF (neg : Bool) (x y : D) : Option D := (flatD x).bind fun v => (seqD y).bind fun xs => (flatsD xs).map fun vs => .bl (if neg = true then !inV v vs else inV v vs)
theorem flatD_rep {K : PySem.W.Frag} {G : Hp} {v : V} {d : D} {u : V} (r : Rep K G v d) (h : flatD d = some u) : v = u ∧ flatV v = true := by
  cases r <;> simp only [flatD] at h <;> first | (cases h; exact ⟨rfl, rfl⟩) | exact nomatch h
theorem flatsD_rep {K : PySem.W.Frag} {G : Hp} : ∀ {vs : List V} {ds : List D} {us : List V}, Reps K G vs ds → flatsD ds = some us → vs = us ∧ vs.all flatV = true
  | _, _, us, .nil, h => by cases h; exact ⟨rfl, rfl⟩
  | _, _, us, .cons (d := d) (ds := ds) r t, h => by
    cases h1 : flatD d with
    | none => simp [flatsD, h1] at h
    | some v =>
      cases h2 : flatsD ds with
      | none => simp [flatsD, h1, h2] at h
      | some vs =>
        simp only [flatsD, h1, h2, Option.bind_some, Option.map_some] at h
        cases h
        obtain ⟨a, b⟩ := flatD_rep r h1
        obtain ⟨a2, b2⟩ := flatsD_rep t h2
        subst a a2
        exact ⟨rfl, by simp [b, b2]⟩
theorem os_inF {c : Cc} (neg : Bool) : OpS c (rIn c.K neg) (dInF neg) := fun H G x y dx dy dz Q e rx ry hz q => by
  unfold dInF at hz
  cases h1 : flatD dx with
  | none => rw [h1] at hz; exact nomatch hz
  | some v =>
    obtain ⟨rfl, fx⟩ := flatD_rep rx h1
    rw [h1, Option.bind_some] at hz
    cases ry with
    | tup t r =>
      simp only [seqD, Option.bind_some] at hz
      cases h2 : flatsD _ with
      | none => rw [h2] at hz; exact nomatch hz
      | some us =>
        rw [h2] at hz
        obtain ⟨a, b⟩ := flatsD_rep r h2
        subst a
        cases hz
        exact ⟨_, _, rfl, .inr (Same.sqT e t), fx, b, q _ _ _ (Grow.refl e) (.bl _)⟩
    | lst t r =>
      simp only [seqD, Option.bind_some] at hz
      cases h2 : flatsD _ with
      | none => rw [h2] at hz; exact nomatch hz
      | some us =>
        rw [h2] at hz
        obtain ⟨a, b⟩ := flatsD_rep r h2
        subst a
        cases hz
        exact ⟨_, _, rfl, .inl (Same.sqL e t), fx, b, q _ _ _ (Grow.refl e) (.bl _)⟩
    | _ => simp [seqD] at hz
theorem bo_inF (neg : Bool) : BoolOp2 (dInF neg) := fun x y z h => by
  unfold dInF at h
  cases h1 : flatD x with
  | none => rw [h1] at h; exact nomatch h
  | some v =>
    rw [h1, Option.bind_some] at h
    cases h2 : seqD y with
    | none => rw [h2] at h; exact nomatch h
    | some xs =>
      rw [h2, Option.bind_some] at h
      cases h3 : flatsD xs with
      | none => rw [h3] at h; exact nomatch h
      | some vs => rw [h3] at h; cases h; exact ⟨_, rfl⟩
section
variable {c : Cc} {X : Cx} {pins : List Nat} {b1 b2 b3 : Bool} {f g h : EF} {t : BF} {fa fi : AF} {pos : Pos} {e o : Expr} {es : List Expr}
variable {H H1 H2 G G1 G2 : Hp} {s s1 s2 : S} {fp fp1 fp2 : List Addr} {σ σ1 σ2 : L2.St} {Z : Ends}
/-! ### a new list: one + another -/
def nCat (f g : EF) : AF := fun s => (f s).bind fun p => (g p.2).bind fun q => match p.1, q.1 with
  | .lst xs, .lst ys => if xs.length + ys.length ≤ cap then some (xs ++ ys, q.2) else none
  | _, _ => none
theorem xn_cat {a b : Expr} (ha : PE X a (tE c b1 f)) (hb : PE X b (tE c b2 g)) (hK : X.K = c.K := by rfl) : PE X (.BinOp a .Add b pos) (tN c (nCat f g)) := PE_imp (pe_op op_catS ha hb) fun σ H Q ⟨G, s, fp, d, s', k, sl, hf, q⟩ => by
  unfold nCat at hf
  cases h1 : f s with
  | none => rw [h1] at hf; exact nomatch hf
  | some p =>
    obtain ⟨d1, s1⟩ := p
    rw [h1, Option.bind_some] at hf
    cases h2 : g s1 with
    | none => simp only [h2, Option.bind_none] at hf; exact nomatch hf
    | some p2 =>
      obtain ⟨d2, s2⟩ := p2
      simp only [h2, Option.bind_some] at hf
      split at hf
      · split at hf
        · rename_i xs ys hc
          cases hf
          refine ⟨G, s, fp, _, _, k, sl, h1, fun v H1 G1 fp1 E1 S1 r1 p1 => ⟨G1, s1, fp1, _, _, E1.ok, S1, h2, fun w H2 G2 fp2 E2 S2 r2 p2 => ?_⟩⟩
          cases r1 with
          | lst t1 r1 =>
          cases r2 with
          | lst t2 r2 =>
          refine ⟨_, _, _, _, rfl, rfl, hK ▸ Same.sqL E2.sub (Same.sqL E2.gs t1), hK ▸ Same.sqL E2.sub t2, by rw [r1.length, r2.length]; exact Nat.le_trans hc cap_line, fun l hl => ?_⟩
          obtain ⟨E3, S3⟩ := (E1.trans E2).newOwn (o := .lst _) S2 hl
          exact q l _ _ _ _ E3 S3 upd_same ((r1.mono E2.gs).append r2)
        · exact nomatch hf
      · exact nomatch hf
end
end DL
/-! DL 16: dicts of one's own. -/
namespace DL
open PySem PySem.Spec PyProof.Rows L2
theorem room65 {k : Nat} {A : Around} (r : Room k A) : A.units + 65 < cLine := by have := r.un; omega
/-! ### tables -/
def lookK (xs : List (Key × D)) (k : Key) : Option D := (xs.find? fun kv => decide (kv.1 = k)).map (·.2)
def storeK (xs : List (Key × D)) (k : Key) (d : D) : List (Key × D) := if (xs.any fun kv => decide (kv.1 = k)) = true then xs.map (fun kv => if kv.1 = k then (kv.1, d) else kv) else xs ++ [(k, d)]
theorem lookK_cons (j : Key) (d : D) (r : List (Key × D)) (k : Key) : lookK ((j, d) :: r) k = if j = k then some d else lookK r k := by
  unfold lookK
  rw [List.find?_cons]
  by_cases h : j = k
  · simp [h]
  · simp [h]
section
variable {K : PySem.W.Frag} {G : Hp}
theorem RepK.length : ∀ {kvs : List (Key × V)} {xs : List (Key × D)}, RepK K G kvs xs → kvs.length = xs.length
  | _, _, .nil => rfl
  | _, _, .cons _ t => by rw [List.length_cons, List.length_cons, RepK.length t]
theorem RepK.keys : ∀ {kvs : List (Key × V)} {xs : List (Key × D)}, RepK K G kvs xs → kvs.map (·.1) = xs.map (·.1)
  | _, _, .nil => rfl
  | _, _, .cons _ t => by rw [List.map_cons, List.map_cons, RepK.keys t]
theorem RepK.look (k : Key) : ∀ {kvs : List (Key × V)} {xs : List (Key × D)}, RepK K G kvs xs → (lookK xs k = none ∧ valV kvs k = none) ∨ ∃ v d, lookK xs k = some d ∧ valV kvs k = some v ∧ Rep K G v d
  | _, _, .nil => .inl ⟨rfl, rfl⟩
  | _, _, .cons (k := j) (v := v) (d := d) (kvs := kvs) (xs := xs) r t => by
    rw [lookK_cons]
    by_cases h : j = k
    · rw [if_pos h]
      exact .inr ⟨v, d, rfl, valV_pos (p := (j, v)) h, r⟩
    · rw [if_neg h, valV_neg (p := (j, v)) h]
      exact RepK.look k t
theorem RepK.any (k : Key) : ∀ {kvs : List (Key × V)} {xs : List (Key × D)}, RepK K G kvs xs → (kvs.any fun kv => decide (kv.1 = k)) = (xs.any fun kv => decide (kv.1 = k))
  | _, _, .nil => rfl
  | _, _, .cons _ t => by rw [List.any_cons, List.any_cons, RepK.any k t]
theorem RepK.repl {v : V} {d : D} (k : Key) (r : Rep K G v d) : ∀ {kvs : List (Key × V)} {xs : List (Key × D)}, RepK K G kvs xs → RepK K G (kvs.map fun kv => if kv.1 = k then (kv.1, v) else kv) (xs.map fun kv => if kv.1 = k then (kv.1, d) else kv)
  | _, _, .nil => .nil
  | _, _, .cons (k := j) q t => by
    rw [List.map_cons, List.map_cons]
    by_cases h : j = k
    · rw [if_pos h, if_pos h]; exact .cons r (RepK.repl k r t)
    · rw [if_neg h, if_neg h]; exact .cons q (RepK.repl k r t)
theorem RepK.snoc {v : V} {d : D} (k : Key) (r : Rep K G v d) : ∀ {kvs : List (Key × V)} {xs : List (Key × D)}, RepK K G kvs xs → RepK K G (kvs ++ [(k, v)]) (xs ++ [(k, d)])
  | _, _, .nil => .cons r .nil
  | _, _, .cons q t => .cons q (RepK.snoc k r t)
theorem RepK.put {v : V} {d : D} (k : Key) (r : Rep K G v d) {kvs : List (Key × V)} {xs : List (Key × D)} (t : RepK K G kvs xs) : RepK K G (putK kvs k v) (storeK xs k d) := by
  unfold putK storeK
  rw [t.any k]
  split
  · exact t.repl k r
  · exact t.snoc k r
end
def keyD : D → Option Key
  | .int i => some (.inl i)
  | .str x => some (.inr x)
  | _ => none
theorem keyD_rep {K : PySem.W.Frag} {G : Hp} {v : V} {d : D} {k : Key} (r : Rep K G v d) (h : keyD d = some k) : v = kV k := by
  cases r <;> simp only [keyD] at h <;> first | (cases h; rfl) | exact nomatch h
section
variable {c : Cc} {X : Cx} {pins : List Nat} {b1 b2 b3 : Bool} {f g h : EF} {t : BF} {fa fi : AF} {pos : Pos} {e o : Expr} {es : List Expr}
variable {H H1 H2 G G1 G2 : Hp} {s s1 s2 : S} {fp fp1 fp2 : List Addr} {σ σ1 σ2 : L2.St} {Z : Ends}
theorem own_dct (k : Ok H G fp) (sl : Slots c H G σ s fp) {i : Nat} {xs : List (Key × D)} (h : s[i]? = some (.dct xs)) :
    ∃ p kvs f2, σ[i]? = some (some (.ref p)) ∧ H p = some (.dK kvs) ∧ RepK c.K G kvs xs ∧ fp.Perm (p :: f2) ∧
      ∀ kvs' xs', RepK c.K G kvs' xs' → ∃ fp', Ev H G fp (upd H p (.dK kvs')) G fp' ∧ Slots c (upd H p (.dK kvs')) G σ (s.set i (.dct xs')) fp' := by
  obtain ⟨v, f1, f2, h1, h2, hp, hk⟩ := sl.split h (by simp)
  cases h2 with
  | @dct p kvs _ hv r =>
    have gp : G p = none := k.own p (hp.mem_iff.mpr (by simp))
    have nd := List.nodup_append.mp (hp.nodup_iff.mp k.nd)
    refine ⟨p, kvs, f2, h1, hv, r, hp, fun kvs' xs' r' => ?_⟩
    obtain ⟨fp', p', sl'⟩ := hk (upd H p (.dK kvs')) G (.dct xs') [p] (.dct upd_same r') (fun a ha => upd_ne fun z => nd.2.2 p (by simp) a ha z.symm) (Same.refl _)
    have pp : fp'.Perm fp := p'.trans hp.symm
    refine ⟨fp', ⟨Same.refl _, fun b o hb => ?_, fun x h3 h4 => absurd h3 h4, fun a o ha hn => ?_, fun a ha => ?_, fun a ha => ⟨k.own a (pp.mem_iff.mp ha), .inl (pp.mem_iff.mp ha)⟩, pp.nodup_iff.mpr k.nd⟩, sl'⟩
    · rw [upd_ne (fun z => by rw [z, gp] at hb; cases hb)]; exact k.sub b o hb
    · rw [upd_ne (fun z => hn (by rw [z]; exact hp.mem_iff.mpr (by simp)))]; exact ha
    · by_cases z : a = p
      · subst z; rw [upd_same]; simp
      · rw [upd_ne z]; exact ha
theorem put_newD {p : Addr} (k : Ok H G (p :: fp)) (sl : Slots c H G σ s fp) {i : Nat} {kvs : List (Key × V)} {xs : List (Key × D)} (hi : i < s.length) (hv : H p = some (.dK kvs)) (r : RepK c.K G kvs xs) :
    ∃ fp', Ev H G (p :: fp) H G fp' ∧ Slots c H G (σ.set i (some (.ref p))) (s.set i (.dct xs)) fp' := by
  obtain ⟨f1, f2, hp, kk⟩ := sl.put hi
  obtain ⟨fp', p', sl'⟩ := kk H G (.ref p) (.dct xs) [p] (.dct hv r) (fun _ _ => rfl) (Same.refl _)
  refine ⟨fp', ?_, sl'⟩
  have q1 : (p :: fp).Perm (f1 ++ (p :: f2)) := (List.Perm.cons p hp).trans (List.perm_middle.symm)
  exact ((Ev.refl k).less q1).perm p'
/-! ### x = {} -/
def sNewD (i : Nat) : SF := fun s => if i < s.length then some (.next (s.set i (.dct []))) else none
theorem sx_newD (i : Nat) {x : Str} {pos' dp : Pos} (hN : X.N.Nodup) (hp : i ∉ pins := by decide) (hi : X.N[i]? = some x := by rfl) (hx : Loc X.env.scope x := by first | exact Or.inl rfl | exact Or.inr rfl)
    (hs : swapsWith (.Dict [] [] dp) (some (.Name x pos')) pos.line X.env = pure false := by rfl) (hf : X.fn x = true ∨ X.env.scope.names.lookup x = some .local := by first | exact .inl rfl | exact .inr rfl) :
    PS X (.Assign [.Name x pos'] (.Dict [] [] dp) pos) (tS c pins (sNewD i)) := PS_imp (ps_set hN hi hx pe_dnewK hs hf) fun Z σ H ⟨G, s, fp, fl, k, sl, hf, q⟩ => by
  unfold sNewD at hf
  split at hf
  · rename_i hl
    cases hf
    intro p hpn
    obtain ⟨E1, S1⟩ := (Ev.refl k).newOwn (o := .dK []) sl hpn
    obtain ⟨fp', E2, S2⟩ := put_newD E1.ok S1 hl upd_same .nil
    exact q _ _ _ _ (E1.trans E2) S2 (pin_set hp)
  · exact nomatch hf
/-! ### x[k] = v -/
def sPutD (i : Nat) (fk fv : EF) : SF := fun s => (fv s).bind fun p => match p.2[i]? with
  | some (.dct _) => (fk p.2).bind fun q => match keyD q.1, q.2[i]? with
    | some k, some (.dct xs) => if xs.length < cap then some (.next (q.2.set i (.dct (storeK xs k p.1)))) else none
    | _, _ => none
  | _ => none
theorem sx_putD (i : Nat) {x : Str} {p pos' : Pos} {ie : Expr} (hu : X.A.units + 65 < cLine) (he : PE X e (tE c b1 f)) (hk : PE X ie (tE c b2 g)) (hN : X.N[i]? = some x := by rfl) (hv : Vis X.env.scope x := by first | exact Or.inl rfl | exact Or.inr (Or.inl rfl)) (hd : (x == ("__debug__" : Str)) = false := by decide) (hcd : (x == ("__classdict__" : Str)) = false := by decide)
    (hs : swapsWith e (some (.Subscript (.Name x p) ie pos')) pos.line X.env = pure false := by rfl) :
    PS X (.Assign [.Subscript (.Name x p) ie pos'] e pos) (tS c pins (sPutD i g f)) := PS_imp (ps_dput (by omega) (pe_var hN hv hd hcd) hk he hs) fun Z σ H ⟨G, s, fp, fl, k, sl, hf, q⟩ => by
  unfold sPutD at hf
  cases h1 : f s with
  | none => rw [h1] at hf; exact nomatch hf
  | some pp =>
    obtain ⟨d, s1⟩ := pp
    simp only [h1, Option.bind_some] at hf
    split at hf
    · rename_i ys hy
      cases h2 : g s1 with
      | none => rw [h2] at hf; exact nomatch hf
      | some p2 =>
        obtain ⟨dk, s2⟩ := p2
        simp only [h2, Option.bind_some] at hf
        split at hf
        · rename_i kk xs hkk hx
          split at hf
          · rename_i hl
            cases hf
            refine ⟨G, s, fp, d, s1, k, sl, h1, fun v H1 G1 fp1 E1 S1 r1 p1 => ?_⟩
            obtain ⟨p, kvs, f2, hσ, _, _, _, _⟩ := own_dct E1.ok S1 hy
            refine ⟨_, hσ, G1, s1, fp1, dk, s2, E1.ok, S1, h2, fun w H2 G2 fp2 E2 S2 r2 p2 => ?_⟩
            obtain ⟨p', kvs', f2', hσ', hv', r', _, fin⟩ := own_dct E2.ok S2 hx
            rw [hσ] at hσ'
            cases hσ'
            obtain ⟨fp', E3, S3⟩ := fin (putK kvs' kk v) (storeK xs kk d) (r'.put kk (r1.mono E2.gs))
            refine ⟨p, _, rfl, ?_, q σ _ G2 fp' ((E1.trans E2).trans E3) S3 PinEq.refl⟩
            rw [keyD_rep r2 hkk]
            exact DPut.k hv' (by rw [r'.length]; exact Nat.lt_trans hl cap_lt)
          · exact nomatch hf
        · exact nomatch hf
    · exact nomatch hf
/-! ### handed back -/
def sRetD (i : Nat) : SF := fun s => match s[i]? with
  | some (.dct xs) => some (.ret (.k xs) (s.set i .un))
  | _ => none
theorem sx_retD (i : Nat) {x : Str} {p : Pos} (hpi : i ∉ pins := by decide) (hN : X.N[i]? = some x := by rfl) (hv : Vis X.env.scope x := by first | exact Or.inl rfl | exact Or.inr (Or.inl rfl)) (hd : (x == ("__debug__" : Str)) = false := by decide) (hcd : (x == ("__classdict__" : Str)) = false := by decide) :
    PS X (.Return (some (.Name x p)) pos) (tS c pins (sRetD i)) := PS_imp (ps_ret (pe_var hN hv hd hcd)) fun Z σ H ⟨G, s, fp, fl, k, sl, hf, q⟩ => by
  unfold sRetD at hf
  split at hf
  · rename_i xs hx
    cases hf
    obtain ⟨v, f1, f2, h1, h2, hp, S2⟩ := sl.take hx (by simp)
    cases h2 with
    | @dct p kvs _ hv r => exact ⟨_, h1, q p kvs σ H G f2 ((Ev.refl k).perm hp.symm) S2 PinEq.refl hv r⟩
  · exact nomatch hf
/-- a def that hands back a new dict -/
def runD (np n : Nat) (fb : SF) (ds : List D) : Option (List (Key × D)) := if ds.length = np then (fb (ds.map O.val ++ List.replicate (n - np) O.un)).bind fun fl => match fl with
    | .ret (.k xs) _ => some xs
    | _ => none
  else none
def spD (c : Cc) (m : List D → Option (List (Key × D))) : Sp := fun vs H Q _ => ∃ G ds r, Same G H ∧ Reps c.K G vs ds ∧ m ds = some r ∧ ∀ p kvs H' G', Ev H G [] H' G' [p] → H' p = some (.dK kvs) → RepK c.K G' kvs r → Q (.ref p) H'
theorem fn_newD {P : Program} {wd : World} {K : PySem.W.Frag} {mg : Str → Option Value} {base : Heap} {x qual : Str} {sd : Stmt} {fA : Addr} {fd : FuncData} {N ps : List Str} {kl : Nat} (np n : Nat) (m : List D → Option (List (Key × D))) (fb : SF) (hm : m = runD np n fb) (F : Fun K x qual sd fA fd) (Sc : FnScope N ps (defScope sd)) (hK : K = c.K) (e1 : ps.length = np) (e2 : N.length = n)
    (body : ∀ (cdv : Value) (A : Around) (outer : List Env) (s : Shared) (H : Hp) (E : XK), Room kl (A.deeper (envOfC qual (defScope sd) s.heap.objs.size fA cdv)) →
      PSs (cxOf CX0 P wd K mg base N qual (defScope sd) fA cdv A outer s H E).nox (defBody sd) (tS c [] fb)) : FnOk P wd K mg base CX0 (kl + 1) fA fd ps (spD c m) := by
  subst hm e1 e2
  refine F.ok Sc (fun vs H Q E h => ?_) fun cdv A outer s H vs Q E hr h => ⟨_, body cdv A outer s H E hr, ?_⟩
  · obtain ⟨G, ds, r, _, hr, hm, _⟩ := h
    rw [hr.length]
    unfold runD at hm
    split at hm
    · assumption
    · exact nomatch hm
  · obtain ⟨G, ds, r, e, hr, hm, q⟩ := h
    unfold runD at hm
    split at hm
    · rename_i hl
      cases h1 : fb (ds.map O.val ++ List.replicate (N.length - ps.length) O.un) with
      | none => rw [h1] at hm; exact nomatch hm
      | some fl =>
        simp only [h1, Option.bind_some] at hm
        refine ⟨G, _, [], fl, ⟨e, fun a ha => by simp at ha, List.nodup_nil⟩, ?_, h1, ?_⟩
        · unfold L2.start
          rw [hr.length, hl]
          exact slots_start hr _
        · cases fl with
          | ret d s' =>
            cases d with
            | k xs =>
              cases hm
              exact fun p vs σ' H' G' fp' E1 S1 p1 hv r1 => q p vs H' G' (E1.less (f1 := fp') (f2 := [p]) ((List.perm_append_comm (l₁ := [p]) (l₂ := fp')))) hv r1
            | _ => exact nomatch hm
          | _ => exact nomatch hm
    · exact nomatch hm
abbrev DF := S → Option (List (Key × D) × S)
def tDN (c : Cc) (f : DF) : TE := fun σ H Q => ∃ G s fp xs s', Ok H G fp ∧ Slots c H G σ s fp ∧ f s = some (xs, s') ∧
  ∀ p kvs H' G' fp', Ev H G fp H' G' (p :: fp') → Slots c H' G' σ s' fp' → H' p = some (.dK kvs) → RepK c.K G' kvs xs → Q (.ref p) H'
def dCall (m : List D → Option (List (Key × D))) (fa : AF) : DF := fun s => (fa s).bind fun p => (m p.1).map fun z => (z, p.2)
theorem callD_ok {m : List D → Option (List (Key × D))} {E : XK} {Q : VK} (q : tDN c (dCall m fa) σ H Q) : tCall (spD c m) [] E (tA c b1 fa) σ H Q := by
  obtain ⟨G, s, fp, d, s', k, sl, hf, q⟩ := q
  unfold dCall at hf
  cases h1 : fa s with
  | none => rw [h1] at hf; exact nomatch hf
  | some p =>
    obtain ⟨ds, s1⟩ := p
    simp only [h1, Option.bind_some] at hf
    cases h2 : m ds with
    | none => simp [h2] at hf
    | some z =>
      simp only [h2, Option.map_some, Option.some.injEq, Prod.mk.injEq] at hf
      obtain ⟨rfl, rfl⟩ := hf
      refine ⟨G, s, fp, ds, s1, k, sl, h1, fun vs H1 G1 fp1 E1 S1 r1 p1 => ⟨G1, ds, z, E1.sub, by rw [List.append_nil]; exact r1, h2, fun p us H' G' E' hv r => ?_⟩⟩
      have E2 := Ev.beside (f1 := []) (f2 := fp1) E1.ok (List.Perm.refl _) S1.there E'
      exact q p us H' G' fp1 (E1.trans E2) (S1.stay E'.gs fun a ha => by
        cases z : H1 a with
        | none => exact absurd z (S1.there a ha)
        | some o => exact E'.frame a o z (by simp)) hv r
section
variable {kl : Nat} {fA : Addr} {fd : FuncData} {ps : List Str} {x : Str} {p : Pos} {es : List Expr} {m : List D → Option (List (Key × D))}
theorem xd_call (F : FnOk X.prog X.w X.K X.mg X.base CX0 kl fA fd ps (spD c m)) (hr : Room kl X.A) (hm : X.mg x = some (.ref fA)) (hk : PySem.W.keepIn X.K (.ref fA) = true) (hb : Binds X.K fd ps []) (ha : PA X (e :: es) (tA c b1 fa)) (hg : Gl X x := by rfl)
    (hdb : (x == ("__debug__" : Str)) = false := by decide) (he : starEach (e :: es) X.env = (false, eval e X.env) :: starEach es X.env := by rfl) (hpl : (backTo pos (starEach es X.env)).any (·.1) = false := by rfl) :
    PE X (.Call (.Name x p) (e :: es) [] pos) (tDN c (dCall m fa)) := PE_imp (pe_call (E := E0) F hr hg hm hk hb .nil pass0 ha hdb he hpl) fun _ _ _ q => callD_ok q
end
def sSetD (i : Nat) (f : DF) : SF := fun s => (f s).bind fun p => if i < p.2.length then some (.next (p.2.set i (.dct p.1))) else none
theorem sx_setD (i : Nat) {x : Str} {pos' : Pos} {fd : DF} (hN : X.N.Nodup) (he : PE X e (tDN c fd)) (hp : i ∉ pins := by decide) (hi : X.N[i]? = some x := by rfl) (hx : Loc X.env.scope x := by first | exact Or.inl rfl | exact Or.inr rfl)
    (hs : swapsWith e (some (.Name x pos')) pos.line X.env = pure false := by rfl) (hf : X.fn x = true ∨ X.env.scope.names.lookup x = some .local := by first | exact .inl rfl | exact .inr rfl) :
    PS X (.Assign [.Name x pos'] e pos) (tS c pins (sSetD i fd)) := PS_imp (ps_set hN hi hx he hs hf) fun Z σ H ⟨G, s, fp, fl, k, sl, hf, q⟩ => by
  unfold sSetD at hf
  cases h1 : fd s with
  | none => rw [h1] at hf; exact nomatch hf
  | some p =>
    obtain ⟨xs, s1⟩ := p
    simp only [h1, Option.bind_some] at hf
    split at hf
    · rename_i hl
      cases hf
      refine ⟨G, s, fp, xs, s1, k, sl, h1, fun p vs H1 G1 fp1 E1 S1 hv r => ?_⟩
      obtain ⟨fp', E2, S2⟩ := put_newD E1.ok S1 hl hv r
      exact q _ _ _ _ (E1.trans E2) S2 (pin_set hp)
    · exact nomatch hf
/-! ### x.get(k, d) -/
def eGetD (i : Nat) (fk fd : EF) : EF := fun s => match s[i]? with
  | some (.dct _) => (fk s).bind fun p => (fd p.2).bind fun q => match keyD p.1, q.2[i]? with
    | some k, some (.dct xs) => some ((lookK xs k).getD q.1, q.2)
    | _, _ => none
  | _ => none
theorem ex_getD (i : Nat) {x : Str} {p apos cpos : Pos} {e2' : Expr} (hu : X.A.units + 65 < cLine) (hk : PE X e (tE c b1 f)) (hdf : PE X e2' (tE c b2 g)) (m : M2 X (.Name x p) "get" apos e e2' cpos := by exact ⟨rfl, rfl, rfl, rfl⟩) (hN : X.N[i]? = some x := by rfl) (hv : Vis X.env.scope x := by first | exact Or.inl rfl | exact Or.inr (Or.inl rfl) | exact Or.inr (Or.inr rfl)) (hd : (x == ("__debug__" : Str)) = false := by decide) (hcd : (x == ("__classdict__" : Str)) = false := by decide) :
    PE X (.Call (.Attribute (.Name x p) "get" apos) [e, e2'] [] cpos) (tE c (b1 && b2) (eGetD i f g)) := PE_imp (pe_dget2 (by omega) (pe_var hN hv hd hcd) hk hdf m) fun σ H Q ⟨G, s, fp, d, s', k, sl, hf, q⟩ => by
  unfold eGetD at hf
  split at hf
  · rename_i ys hy
    obtain ⟨p, kvs, f2, hσ, hv0, _, _, _⟩ := own_dct k sl hy
    cases h1 : f s with
    | none => rw [h1] at hf; exact nomatch hf
    | some pp =>
      obtain ⟨dk, s1⟩ := pp
      simp only [h1, Option.bind_some] at hf
      cases h2 : g s1 with
      | none => simp [h2] at hf
      | some p2 =>
        obtain ⟨dd, s2⟩ := p2
        simp only [h2, Option.bind_some] at hf
        split at hf
        · rename_i kk xs hkk hx
          cases hf
          refine ⟨_, hσ, p, rfl, .inl ⟨kvs, .inl hv0⟩, G, s, fp, dk, s1, k, sl, h1, fun v H1 G1 fp1 E1 S1 r1 p1 => ⟨G1, s1, fp1, dd, s', E1.ok, S1, h2, fun w H2 G2 fp2 E2 S2 r2 p2 => ?_⟩⟩
          obtain ⟨p', kvs', f2', hσ', hv', r', _, _⟩ := own_dct E2.ok S2 hx
          rw [hσ] at hσ'
          cases hσ'
          have hkv := keyD_rep r1 hkk
          subst hkv
          refine ⟨_, DGet.k hv', ?_⟩
          rcases r'.look kk with ⟨l1, l2⟩ | ⟨v0, d0, l1, l2, r0⟩
          · rw [l2]
            rw [l1] at q
            exact q w H2 G2 fp2 (E1.trans E2) S2 r2 (p1.and p2)
          · rw [l2]
            rw [l1] at q
            exact q v0 H2 G2 fp2 (E1.trans E2) S2 r0 (p1.and p2)
        · exact nomatch hf
  · exact nomatch hf
end
end DL
/-! DL 17: the least and greatest key; enumerate; l.index(x). -/
namespace DL
open PySem PySem.Spec PyProof.Rows L2
/-! ### max(d) -/
theorem best_gt (num : Nat → Int) : ∀ k, argBest (fun i j => decide (num i > num j)) k ≤ k ∧ ∀ j, j ≤ k → num j ≤ num (argBest (fun i j => decide (num i > num j)) k)
  | 0 => ⟨Nat.le_refl _, fun j hj => by
    have : j = 0 := by omega
    subst this
    exact Int.le_refl _⟩
  | k + 1 => by
    obtain ⟨h1, h2⟩ := best_gt num k
    simp only [argBest]
    by_cases hc : num (k + 1) > num (argBest (fun i j => decide (num i > num j)) k)
    · rw [if_pos (by simpa using hc)]
      refine ⟨Nat.le_refl _, fun j hj => ?_⟩
      by_cases hj2 : j = k + 1
      · subst hj2; exact Int.le_refl _
      · have := h2 j (by omega)
        omega
    · rw [if_neg (by simpa using hc)]
      refine ⟨by omega, fun j hj => ?_⟩
      by_cases hj2 : j = k + 1
      · subst hj2; omega
      · exact h2 j (by omega)
def rMaxK : List V → Hp → VK → Prop := fun vs H Q => ∃ (a : Addr) (kvs : List (Key × V)) (is : List Int), vs = [V.ref a] ∧ H a = some (.dK kvs) ∧ kvs.map (·.1) = is.map Sum.inl ∧ is ≠ [] ∧ ∀ m, m ∈ is → (∀ j ∈ is, j ≤ m) → Q (.int m) H
theorem cr_maxK {X : Cx} (hc : X.calm = true) : CallR X (.builtin "max") rMaxK := by
  intro pins s σ H vs us Q I r h
  obtain ⟨a, kvs, is, rfl, ha, hv, hne, q⟩ := h
  rw [Vals.ref1 r]
  obtain ⟨_, hsys, vs, rel, dof⟩ := dk_of I.hok ha
  obtain ⟨ep, dat⟩ := dof.dictAt
  obtain ⟨ob, es, ho, _⟩ := id dat
  have hlt : a < s.heap.objs.size := Heap.lt_size ho
  have hkeys : vs.map (·.1) = is.map Sum.inl := (KV.keys rel).symm.trans hv
  have hlv : vs.length = is.length := by simpa using congrArg List.length hkeys
  have hlen : 0 < vs.length := by
    rw [hlv]
    exact List.length_pos_iff.mpr hne
  have hval : ∀ (i : Nat) (v : Value), (∃ k x, vs[i]? = some (k, x) ∧ (mixKind X.prog X.w).is k v = true) → ∃ t, v = Value.int (is.getD i 0) t := fun i v ⟨k, x, hk, hkey⟩ => by
    have e1 : (vs.map (·.1))[i]? = some k := by simp [hk]
    rw [hkeys, List.getElem?_map] at e1
    obtain ⟨j, hj, e2⟩ := Option.map_eq_some_iff.mp e1
    subst e2
    obtain ⟨t, e3⟩ := Value.isInt_shape (k := j) (v := v) hkey
    exact ⟨t, by rw [e3]; simp [hj]⟩
  refine call_max_walk (wpAny_pyIter_dict (knd := mixKind X.prog X.w) hsys dat ?_)
  refine ⟨_, _, _, _, _, _, _, rfl, Walks.dictKeys (knd := mixKind X.prog X.w) (A := X.A.in1) (I.ok.hd hc) s.heap.objs.size a (Nat.ne_of_lt hlt) vs ep,
    ⟨⟨_, Heap.get?_push_size _ rfl, rfl, rfl⟩, dat.keep fun b u e => Heap.get?_push_of_some _ e⟩, fun b hb => ?_, hlen, CmpOf.ints_gt (fun i => is.getD i 0) hval, fun v h' tk hP hk => ?_⟩
  · show b < (s.heap.push _).objs.size
    rw [Heap.size_push]
    rcases List.mem_cons.mp hb with e | hb
    · rw [e]; exact Nat.lt_succ_self _
    · rw [List.mem_singleton.mp hb]; exact Nat.lt_succ_of_lt hlt
  · obtain ⟨t, rfl⟩ := hval _ v hP
    obtain ⟨b1, b2⟩ := best_gt (fun i => is.getD i 0) (vs.length - 1)
    refine ⟨.int _, H, I.kept (t' := tk) fun b u e => hk b u (fun hmem => ?_) (Heap.get?_push_of_some _ e), ⟨t, rfl⟩, q _ ?_ fun j hj => ?_⟩
    · have e2 := Heap.lt_size e
      rw [List.mem_singleton.mp hmem] at e2
      exact absurd e2 (Nat.lt_irrefl _)
    · have hb : argBest (fun i j => decide (is.getD i 0 > is.getD j 0)) (vs.length - 1) < is.length := by omega
      rw [List.getD_eq_getElem?_getD, List.getElem?_eq_getElem hb]
      exact List.getElem_mem hb
    · obtain ⟨i, hi, e⟩ := List.mem_iff_getElem.mp hj
      have e2 : is.getD i 0 = j := by simp [hi, e]
      rw [← e2]
      exact b2 i (by omega)
def intKeys : List (Key × D) → Option (List Int)
  | [] => some []
  | (.inl i, _) :: r => (intKeys r).map (i :: ·)
  | _ => none
theorem intKeys_map : ∀ {xs : List (Key × D)} {is : List Int}, intKeys xs = some is → xs.map (·.1) = is.map Sum.inl
  | [], is, h => by cases h; rfl
  | (.inl i, d) :: r, is, h => by
    cases h1 : intKeys r with
    | none => simp [intKeys, h1] at h
    | some js =>
      simp only [intKeys, h1, Option.map_some, Option.some.injEq] at h
      subst h
      simp [intKeys_map h1]
  | (.inr x, d) :: r, is, h => nomatch h
def leastI : List Int → Option Int
  | [] => none
  | i :: r => some (r.foldl min i)
def greatI : List Int → Option Int
  | [] => none
  | i :: r => some (r.foldl max i)
theorem foldl_min : ∀ (r : List Int) (i : Int), r.foldl min i ∈ i :: r ∧ ∀ j ∈ i :: r, r.foldl min i ≤ j
  | [], i => ⟨by simp, fun j hj => by simp at hj; subst hj; exact Int.le_refl _⟩
  | k :: r, i => by
    obtain ⟨a, b⟩ := foldl_min r (min i k)
    rw [List.foldl_cons]
    have m1 := b (min i k) List.mem_cons_self
    refine ⟨?_, fun j hj => ?_⟩
    · rcases List.mem_cons.mp a with a | a
      · rw [a]
        by_cases h : i ≤ k
        · rw [Int.min_eq_left h]; simp
        · rw [Int.min_eq_right (by omega)]; simp
      · simp [a]
    · rcases List.mem_cons.mp hj with rfl | hj
      · omega
      · rcases List.mem_cons.mp hj with rfl | hj
        · omega
        · exact b j (List.mem_cons_of_mem _ hj)
theorem foldl_max : ∀ (r : List Int) (i : Int), r.foldl max i ∈ i :: r ∧ ∀ j ∈ i :: r, j ≤ r.foldl max i
  | [], i => ⟨by simp, fun j hj => by simp at hj; subst hj; exact Int.le_refl _⟩
  | k :: r, i => by
    obtain ⟨a, b⟩ := foldl_max r (max i k)
    rw [List.foldl_cons]
    have m1 := b (max i k) List.mem_cons_self
    refine ⟨?_, fun j hj => ?_⟩
    · rcases List.mem_cons.mp a with a | a
      · rw [a]
        by_cases h : k ≤ i
        · rw [Int.max_eq_left h]; simp
        · rw [Int.max_eq_right (by omega)]; simp
      · simp [a]
    · rcases List.mem_cons.mp hj with rfl | hj
      · omega
      · rcases List.mem_cons.mp hj with rfl | hj
        · omega
        · exact b j (List.mem_cons_of_mem _ hj)
theorem leastI_is {is : List Int} {m m' : Int} (h : leastI is = some m) (h1 : m' ∈ is) (h2 : ∀ j ∈ is, m' ≤ j) : m' = m ∧ is ≠ [] := by
  cases is with
  | nil => exact nomatch h
  | cons i r =>
    cases h
    obtain ⟨a, b⟩ := foldl_min r i
    have := h2 _ a
    have := b _ h1
    exact ⟨by omega, by simp⟩
theorem greatI_is {is : List Int} {m m' : Int} (h : greatI is = some m) (h1 : m' ∈ is) (h2 : ∀ j ∈ is, j ≤ m') : m' = m ∧ is ≠ [] := by
  cases is with
  | nil => exact nomatch h
  | cons i r =>
    cases h
    obtain ⟨a, b⟩ := foldl_max r i
    have := h2 _ a
    have := b _ h1
    exact ⟨by omega, by simp⟩
def eMinD (i : Nat) : EF := fun s => match s[i]? with
  | some (.dct xs) => (intKeys xs).bind fun is => (leastI is).map fun m => (.int m, s)
  | _ => none
def eMaxD (i : Nat) : EF := fun s => match s[i]? with
  | some (.dct xs) => (intKeys xs).bind fun is => (greatI is).map fun m => (.int m, s)
  | _ => none
section
variable {c : Cc} {X : Cx} {pins : List Nat} {b1 b2 b3 : Bool} {f g h : EF} {t : BF} {fa fi : AF} {pos : Pos} {e o : Expr} {es : List Expr}
variable {H H1 H2 G G1 G2 : Hp} {s s1 s2 : S} {fp fp1 fp2 : List Addr} {σ σ1 σ2 : L2.St} {Z : Ends}
theorem ex_minD (i : Nat) {x : Str} {p p' : Pos} (hm : X.mg "min" = none) (hc : X.calm = true := by rfl) (hN : X.N[i]? = some x := by rfl) (hv : Vis X.env.scope x := by first | exact Or.inl rfl | exact Or.inr (Or.inl rfl)) (hd : (x == ("__debug__" : Str)) = false := by decide) (hcd : (x == ("__classdict__" : Str)) = false := by decide)
    (hb : bootBuiltins "min" = some (.builtin "min") := by decide +kernel) (hg : Gl X "min" := by rfl)
    (he : starEach [.Name x p'] X.env = (false, eval (.Name x p') X.env) :: starEach [] X.env := by rfl) (hpl : (backTo pos (starEach [] X.env)).any (·.1) = false := by rfl) :
    PE X (.Call (.Name "min" p) [.Name x p'] [] pos) (tE c true (eMinD i)) := PE_imp (pe_callB (cr_minK hc) hg hm hb (pa_cons (pe_var hN hv hd hcd) pa_nil he) (by decide) (by decide) he hpl) fun σ H Q ⟨G, s, fp, d, s', k, sl, hf, q⟩ => by
  unfold eMinD at hf
  split at hf
  · rename_i xs hx
    cases h1 : intKeys xs with
    | none => rw [h1] at hf; exact nomatch hf
    | some is =>
      simp only [h1, Option.bind_some] at hf
      cases h2 : leastI is with
      | none => rw [h2] at hf; exact nomatch hf
      | some m =>
        simp only [h2, Option.map_some, Option.some.injEq, Prod.mk.injEq] at hf
        obtain ⟨rfl, rfl⟩ := hf
        obtain ⟨p, kvs, f2, hσ, hv, r, _, _⟩ := own_dct k sl hx
        refine ⟨_, hσ, p, kvs, is, rfl, hv, by rw [r.keys]; exact intKeys_map h1, (fun z => by rw [z] at h2; exact (nomatch h2)), fun m' a b => ?_⟩
        rw [(leastI_is h2 a b).1]
        exact q _ H G fp (Ev.refl k) sl (.int _) (Pure.here k.sub)
  · exact nomatch hf
theorem ex_maxD (i : Nat) {x : Str} {p p' : Pos} (hm : X.mg "max" = none) (hc : X.calm = true := by rfl) (hN : X.N[i]? = some x := by rfl) (hv : Vis X.env.scope x := by first | exact Or.inl rfl | exact Or.inr (Or.inl rfl)) (hd : (x == ("__debug__" : Str)) = false := by decide) (hcd : (x == ("__classdict__" : Str)) = false := by decide)
    (hb : bootBuiltins "max" = some (.builtin "max") := by decide +kernel) (hg : Gl X "max" := by rfl)
    (he : starEach [.Name x p'] X.env = (false, eval (.Name x p') X.env) :: starEach [] X.env := by rfl) (hpl : (backTo pos (starEach [] X.env)).any (·.1) = false := by rfl) :
    PE X (.Call (.Name "max" p) [.Name x p'] [] pos) (tE c true (eMaxD i)) := PE_imp (pe_callB (cr_maxK hc) hg hm hb (pa_cons (pe_var hN hv hd hcd) pa_nil he) (by decide) (by decide) he hpl) fun σ H Q ⟨G, s, fp, d, s', k, sl, hf, q⟩ => by
  unfold eMaxD at hf
  split at hf
  · rename_i xs hx
    cases h1 : intKeys xs with
    | none => rw [h1] at hf; exact nomatch hf
    | some is =>
      simp only [h1, Option.bind_some] at hf
      cases h2 : greatI is with
      | none => rw [h2] at hf; exact nomatch hf
      | some m =>
        simp only [h2, Option.map_some, Option.some.injEq, Prod.mk.injEq] at hf
        obtain ⟨rfl, rfl⟩ := hf
        obtain ⟨p, kvs, f2, hσ, hv, r, _, _⟩ := own_dct k sl hx
        refine ⟨_, hσ, p, kvs, is, rfl, hv, by rw [r.keys]; exact intKeys_map h1, (fun z => by rw [z] at h2; exact (nomatch h2)), fun m' a b => ?_⟩
        rw [(greatI_is h2 a b).1]
        exact q _ H G fp (Ev.refl k) sl (.int _) (Pure.here k.sub)
  · exact nomatch hf
end
/-! ### enumerate of a tuple -/
set_option maxHeartbeats 1000000 in
theorem meets_enum1 {v : Value} {o : Obj} {H : Heap → Prop} (B : Begins v o H) :
    Meets (Builtin.«enumerate.__new__» ⟨[.type "enumerate", v], []⟩) (fun _ R s => H s.heap ∧
      R (.ok (.ret (.ref (s.heap.push o).objs.size))) { s with heap := (s.heap.push o).push { cls := .type "enumerate", data := .fields #[.none, .bool false, .ref s.heap.objs.size, rawInt 0, .none, .none] } }) :=
  .of_wp fun prog w A R s h => by
    obtain ⟨hp, g, d, tk, os⟩ := s; obtain ⟨h1, h⟩ := h
    have hsub := sub_enumerate
    have q1 : ∀ {A' : Around} {E : Value → Shared → Prop} {Q : Value → Shared → Prop}, Q (.ref hp.objs.size) ⟨hp.push o, g, d, tk, os⟩ → wpAny (model prog w) A' (pyIter v) Q E ⟨hp, g, d, tk, os⟩ :=
      fun q => B.iter prog w _ _ ⟨hp, g, d, tk, os⟩ _ h1 q
    wp_walk using q1
    refine wpAny_stack_any fun st => wpAny_pure ?_
    split
    · rename_i c _ _ _ _ _
      cases (c == Value.type "enumerate")
      · wp_walk using q1
        exact ⟨_, rfl, h⟩
      · wp_walk using q1
        exact ⟨_, rfl, h⟩
    · wp_walk using q1
      exact ⟨_, rfl, h⟩
theorem call_enum_tuple {prog : Program} {w : World} {A : Around} {E : Value → Shared → Prop} {s : Shared} {l : Addr} {items : Array Value} {Q : Value → Shared → Prop} (hL : s.heap.IsTuple l items)
    (h : ∀ h', IsEnum h' (s.heap.objs.size + 1) s.heap.objs.size 0 .none → h'.IsTupleIter s.heap.objs.size l 0 → h'.objs.size = s.heap.objs.size + 2 →
      (∀ b o, s.heap.get? b = some o → h'.get? b = some o) → Q (.ref (s.heap.objs.size + 1)) { s with heap := h' }) :
    wpAny (model prog w) A (call (.type "enumerate") [.ref l]) Q E s := by
  refine callType_new F.called_enumerate (by decide) (F.typeCall_enumerate_1 _) (F.newCall_enumerate_1 _) (fun obj => F.args_object_init_2 obj _) F.entry_enumerate_new
    (meets_enum1 (begins_tuple l items)) ⟨hL, ?_⟩
  have hz : (s.heap.push { cls := .type "tuple_iterator", data := .fields #[.ref l, .int 0 0] }).objs.size = s.heap.objs.size + 1 := Heap.size_push ..
  show _ ∧ _
  rw [hz]
  have he : IsEnum ((s.heap.push { cls := .type "tuple_iterator", data := .fields #[.ref l, .int 0 0] }).push
      { cls := .type "enumerate", data := .fields #[.none, .bool false, .ref s.heap.objs.size, rawInt 0, .none, .none] }) (s.heap.objs.size + 1) s.heap.objs.size 0 .none := by
    have := Heap.get?_push_size (s.heap.push { cls := .type "tuple_iterator", data := .fields #[.ref l, .int 0 0] })
      (o := { cls := .type "enumerate", data := .fields #[.none, .bool false, .ref s.heap.objs.size, rawInt 0, .none, .none] }) rfl
    rw [hz] at this; exact this
  refine ⟨⟨_, he, rfl⟩, h _ he ⟨_, Heap.get?_push_of_some _ (Heap.get?_push_size _ rfl), rfl, rfl⟩ (by rw [Heap.size_push, hz]) fun b o x => Heap.get?_push_of_some _ (Heap.get?_push_of_some _ x)⟩
theorem next_enum_endT {prog : Program} {w : World} {A : Around} {E : Value → Shared → Prop} {s : Shared} {e it l : Addr} {i : Nat} {items : Array Value} {old : Value} {Q : Option Value → Shared → Prop} (hh : A.handled = none)
    (he : IsEnum s.heap e it i old) (hit : s.heap.IsTupleIter it l i) (hl : s.heap.IsTuple l items) (hx : items[i]? = none)
    (hQ : ∀ h', Heap.ExtBut it s.heap h' → Q none { s with heap := h' }) : wpAny (model prog w) A (pyNext (.ref e)) Q E s := by
  have hT : s.TypeIs (.ref e) "enumerate" := ⟨_, he, rfl⟩
  unfold pyNext
  refine wpAny_bind (wpAny_attempt (wpAny_callSpecial?_slot (name := Str.ofString "__next__") hT F.slot_enumerate_next
    (wpAny_call_entry F.slot_enumerate_next hT F.entry_enumerate_next ?_ (F.args_enumerate_next_1 _))))
  show wpAny _ _ (field (.ref e) 2 >>= _) _ _ _
  refine wpAny_bind (wpAny_field he rfl (x := .ref it) rfl ?_)
  refine wpAny_bind (wpAny_nextOf_tuple_end hh hit hl hx fun h' x he' hx' => ?_)
  obtain ⟨o, ho, hc⟩ := hx'
  refine wpAny_bind (wpAny_isInstance (T := "StopIteration") (b := true) ⟨o, ho, hc⟩ isSubtype_stop ?_)
  exact wpAny_pure (hQ _ he')
/-- the tuple at a as it stands at each turn, each thing in a new pair -/
def IteT (K : PySem.W.Frag) (a : Addr) : It :=
  ⟨fun i H => ∃ (xs : List V) (x : V), SqT K H a xs ∧ xs[i]? = some x, fun i H v H' => ∃ T x, v = .ref T ∧ H T = none ∧ H' = upd H T (.tup [.int (i : Nat), x]) ∧ ∀ xs, SqT K H a xs → xs[i]? = some x, fun i H => ∃ xs : List V, SqT K H a xs ∧ xs.length ≤ i⟩
theorem turn_enumT {P : Program} {w : World} {K : PySem.W.Frag} {elts : List Expr} {kk : Nat} {tpos : Pos} (a e it : Addr) :
    Turn P w K (.Tuple elts kk tpos) (IteT K a) [e, it] e (fun i h => (∃ old, IsEnum h e it ((i : Nat) : Int) old) ∧ h.IsTupleIter it a i ∧ e ≠ it ∧ e ≠ a ∧ a ≠ it) where
  mem := by simp
  obj := fun i h st b hb => by
    obtain ⟨⟨old, he⟩, ⟨o, ho, hc, hd⟩, _⟩ := st
    have e' : b = e ∨ b = it := by simpa using hb
    rcases e' with z | z
    · rw [z]; exact ⟨_, he, fun v q => nomatch q⟩
    · rw [z]; exact ⟨o, ho, fun v q => by rw [hd] at q; cases q⟩
  keep := fun i h h' st k => let ⟨⟨old, he⟩, hi, hne⟩ := st; ⟨⟨old, k e (by simp) _ he⟩, hi.at fun o q => k it (by simp) o q, hne⟩
  item := by
    intro X hP hw hK hc i pins s σ H E I hf st hg
    subst hP hw hK
    obtain ⟨⟨old, he⟩, hit, hne, hea, hai⟩ := st
    obtain ⟨xs, x, hq, hx⟩ := hg
    obtain ⟨its, rv, p, hz⟩ := I.tuple hq
    obtain ⟨u, hu, ru⟩ := rv.get hx
    have hel : e < s.heap.objs.size := Heap.lt_size he
    have hil : it < s.heap.objs.size := by obtain ⟨_, q, _⟩ := hit; exact Heap.lt_size q
    have hlt : i < its.toArray.size := by
      have := (List.getElem?_eq_some_iff.mp hu).1
      simpa using this
    refine wpAny_pyNext_enum_itemD (Draws.tuple (A := X.A.in1) (I.ok.hd hc) it a hai its.toArray) he ⟨hit, p⟩ hlt hne (by simp [hne, hea]) fun x' h' tk hP ho hst hT hsz hk => ?_
    obtain rfl : x' = u := by
      have hP' : its.toArray[i]? = some x' := hP
      have : its[i]? = some x' := by simpa using hP'
      rw [hu] at this
      cases this
      rfl
    refine ⟨_, rfl, wpAny_letOwnedTupleGo_enum (s := { s with heap := h', toks := tk + 1 }) ho fun h'' he' sb => ?_⟩
    have hT2 : h''.get? s.heap.objs.size = some { cls := .type "tuple", data := .seq #[.int i tk, x'] } := (sb.2 _ (Nat.ne_of_gt hel)).trans hT
    have new : ObjOk X.prog X.w (upd H s.heap.objs.size (.tup [.int (i : Nat), x])) h'' s.heap.objs.size (.tup [.int (i : Nat), x]) :=
      ⟨by show 2 ≤ sizeLine; decide, [.int i tk, x'], .cons ⟨_, rfl⟩ (.cons ru .nil), ⟨_, hT2, rfl, _, rfl⟩⟩
    have I1 : Inv X pins σ (upd H s.heap.objs.size (.tup [.int (i : Nat), x])) { s with heap := h'', toks := tk + 1 } :=
      I.turnedNew (ch := [e, it]) (fun b ob hb q => (sb.2 b (fun z => hb (by simp [z]))).trans (hk b ob (fun z => hb (by simp [z])) (fun z => hb (by simp [z])) q)) hf (Nat.le_refl _) new
    refine ⟨.ref s.heap.objs.size, _, I1, rfl, ⟨_, x, rfl, I.hok.fresh (Nat.le_refl _), rfl, fun ys hy => by rw [I.tuple_inj hy hq]; exact hx⟩, ⟨⟨x', ?_⟩, hst.1.at fun o q => (sb.2 it (Ne.symm hne)).trans q, hne, hea, hai⟩, fun b hb => ?_⟩
    · have e1 : ((i + 1 : Nat) : Int) = (i : Int) + 1 := by omega
      rw [e1]; exact he'
    · have hb' : b < s.heap.objs.size := by
        have e' : b = e ∨ b = it := by simpa using hb
        rcases e' with z | z
        · rw [z]; exact hel
        · rw [z]; exact hil
      rw [upd_ne (Nat.ne_of_lt hb')]
      exact (hf b hb).1
  done := by
    intro X hP hw hK hc i pins s σ H E I hf st hg
    subst hP hw hK
    obtain ⟨⟨old, he⟩, hit, hne, hea, hai⟩ := st
    obtain ⟨xs, hq, hx⟩ := hg
    obtain ⟨its, rv, p, hz⟩ := I.tuple hq
    obtain ⟨f0, f1, f2, f3, f4, f5⟩ := hf it (by simp)
    have hl := rv.length
    exact next_enum_endT (I.ok.hd hc) he hit p (by simp; omega) fun h' eb => ⟨rfl, I.turned (t' := s.toks) (fun b o hb q => eb b o hb q) f0 f1 f3 f4 f5⟩
  self := fun A i s Q E st h => let ⟨⟨_, he⟩, _⟩ := st; wpAny_pyIter_enum he h
def iEnumA (K : PySem.W.Frag) (ta : TA) : TI := fun σ H R => ta σ H fun vs H1 => ∃ a xs, vs = [.ref a] ∧ ((SqL K H1 a xs ∧ R (Ite K a) H1) ∨ (SqT K H1 a xs ∧ R (IteT K a) H1))
theorem pi_enumA {X : Cx} {e : Expr} {ta : TA} {p pos tpos : Pos} {elts : List Expr} {kk : Nat} (hg : Gl X "enumerate") (hm : X.mg "enumerate" = none) (ha : PA X [e] ta) (hs : starEach [e] X.env = [(false, eval e X.env)] := by rfl) :
    PI X (.Tuple elts kk tpos) (.Call (.Name "enumerate" p) [e] [] pos) (iEnumA X.K ta) := by
  refine ⟨fun pins s σ H R I h => ?_⟩
  refine Call_ (ld_blt I hg hm boot_enumerate (PyProof.Rows.callWith_type1 (thn (ha.run pos pins s σ H _ I h) fun us s1 ⟨vs, H1, I1, r1, q1⟩ => ?_) hs rfl))
  obtain ⟨a, xs, ex, q1⟩ := q1
  subst ex
  cases r1 with
  | cons r rr =>
    cases rr
    cases r
    rcases q1 with ⟨hq, q⟩ | ⟨hq, q⟩
    · obtain ⟨its, rv, p', hz⟩ := I1.list hq
      refine call_enumerate_list p'.isList fun h' he hit hsz hk => wpAny_pyIter_enum he ?_
      have I2 : Inv X pins σ H1 { s1 with heap := h' } := I1.kept (t' := s1.toks) hk
      refine ⟨s1.heap.objs.size + 1, [s1.heap.objs.size + 1, s1.heap.objs.size], _, _, H1, rfl, I2, turn_enum a (s1.heap.objs.size + 1) s1.heap.objs.size, ⟨⟨.none, he⟩, hit, Nat.succ_ne_self _⟩, fun b hb => ?_, q⟩
      have hle : s1.heap.objs.size ≤ b := by
        rcases (by simpa using hb : b = s1.heap.objs.size + 1 ∨ b = s1.heap.objs.size) with z | z
        · rw [z]; exact Nat.le_add_right _ _
        · rw [z]; exact Nat.le_refl _
      exact I1.fpOk hle (I1.hok.fresh hle)
    · obtain ⟨its, rv, p', hz⟩ := I1.tuple hq
      have hal : a < s1.heap.objs.size := by obtain ⟨_, q', _⟩ := id p'; exact Heap.lt_size q'
      refine call_enum_tuple p' fun h' he hit hsz hk => wpAny_pyIter_enum he ?_
      have I2 : Inv X pins σ H1 { s1 with heap := h' } := I1.kept (t' := s1.toks) hk
      refine ⟨s1.heap.objs.size + 1, [s1.heap.objs.size + 1, s1.heap.objs.size], _, _, H1, rfl, I2, turn_enumT a (s1.heap.objs.size + 1) s1.heap.objs.size, ⟨⟨.none, he⟩, hit, Nat.succ_ne_self _, Ne.symm (Nat.ne_of_lt (Nat.lt_succ_of_lt hal)), Nat.ne_of_lt hal⟩, fun b hb => ?_, q⟩
      have hle : s1.heap.objs.size ≤ b := by
        rcases (by simpa using hb : b = s1.heap.objs.size + 1 ∨ b = s1.heap.objs.size) with z | z
        · rw [z]; exact Nat.le_add_right _ _
        · rw [z]; exact Nat.le_refl _
      exact I1.fpOk hle (I1.hok.fresh hle)
/-! ### for i, x in enumerate(xs) -/
def enumD (xs : List D) : List D := (List.range xs.length).map fun (i : Nat) => .tup [.int (i : Int), xs.getD i .non]
def iEnumD (fa : AF) : AF := fun s => (fa s).bind fun p => match p.1 with
  | [.lst xs] => some (enumD xs, p.2)
  | [.tup xs] => some (enumD xs, p.2)
  | _ => none
theorem enumD_get {xs : List D} {i : Nat} {d : D} (h : (enumD xs)[i]? = some d) : ∃ x, xs[i]? = some x ∧ d = .tup [.int (i : Int), x] := by
  unfold enumD at h
  rw [List.getElem?_map] at h
  by_cases hi : i < xs.length
  · rw [List.getElem?_range hi] at h
    cases h
    exact ⟨xs[i], List.getElem?_eq_getElem hi, by simp [hi]⟩
  · rw [List.getElem?_eq_none (by simpa using hi)] at h
    exact nomatch h
section
variable {c : Cc} {X : Cx} {pins : List Nat} {b1 b2 b3 : Bool} {f g h : EF} {t : BF} {fa fi : AF} {pos : Pos} {e o : Expr} {es : List Expr}
variable {H H1 H2 G G1 G2 : Hp} {s s1 s2 : S} {fp fp1 fp2 : List Addr} {σ σ1 σ2 : L2.St} {Z : Ends}
theorem yl_enumL {a : Addr} {vs : List V} {xs : List D} (hq : SqL c.K G a vs) (r : Reps c.K G vs xs) : Yields c (Ite c.K a) (enumD xs) G := fun i H G' e1 e2 => by
  have q : SqL c.K H a vs := Same.sqL e2 (Same.sqL e1 hq)
  refine ⟨fun d hd => ?_, fun hl => ⟨vs, q, ?_⟩⟩
  · obtain ⟨x, h1, rfl⟩ := enumD_get hd
    obtain ⟨v, hv, rv⟩ := r.get h1
    refine ⟨⟨vs, v, q, hv⟩, fun x0 H' y0 => ?_⟩
    obtain ⟨T, x1, rfl, hT, rfl, k1⟩ := y0
    have e3 := k1 vs q
    rw [hv] at e3
    cases e3
    have gr := Grow.alloc (o := .tup [.int (i : Nat), v]) e2 hT
    exact ⟨_, gr, .tup (SqT.of upd_same) (.cons (.int _) (.cons ((rv.mono e1).mono gr.gs) .nil))⟩
  · rw [r.length]
    simpa [enumD] using hl
theorem yl_enumT {a : Addr} {vs : List V} {xs : List D} (hq : SqT c.K G a vs) (r : Reps c.K G vs xs) : Yields c (IteT c.K a) (enumD xs) G := fun i H G' e1 e2 => by
  have q : SqT c.K H a vs := Same.sqT e2 (Same.sqT e1 hq)
  refine ⟨fun d hd => ?_, fun hl => ⟨vs, q, ?_⟩⟩
  · obtain ⟨x, h1, rfl⟩ := enumD_get hd
    obtain ⟨v, hv, rv⟩ := r.get h1
    refine ⟨⟨vs, v, q, hv⟩, fun x0 H' y0 => ?_⟩
    obtain ⟨T, x1, rfl, hT, rfl, k1⟩ := y0
    have e3 := k1 vs q
    rw [hv] at e3
    cases e3
    have gr := Grow.alloc (o := .tup [.int (i : Nat), v]) e2 hT
    exact ⟨_, gr, .tup (SqT.of upd_same) (.cons (.int _) (.cons ((rv.mono e1).mono gr.gs) .nil))⟩
  · rw [r.length]
    simpa [enumD] using hl
theorem ix_enum {a : Expr} {p pos tpos : Pos} {elts : List Expr} {kk : Nat} (ha : PA X [a] (tA c b1 fa)) (hm : X.mg "enumerate" = none) (hK : X.K = c.K := by rfl) (hg : Gl X "enumerate" := by rfl) (hs : starEach [a] X.env = [(false, eval a X.env)] := by rfl) :
    PI X (.Tuple elts kk tpos) (.Call (.Name "enumerate" p) [a] [] pos) (tI c b1 (iEnumD fa)) :=
  PI_imp (pi_enumA hg hm ha hs) fun σ H R ⟨G, S, fp, xs, s', k, sl, hf, q⟩ => by
    rw [hK]
    unfold iEnumD at hf
    cases h1 : fa S with
    | none => rw [h1] at hf; exact nomatch hf
    | some p =>
      obtain ⟨ds, s1⟩ := p
      simp only [h1, Option.bind_some] at hf
      split at hf
      · cases hf
        refine ⟨G, S, fp, _, _, k, sl, h1, fun vs H1 G1 fp1 E1 S1 r1 p1 => ?_⟩
        obtain ⟨v, rfl, r2⟩ := reps1 r1
        cases r2 with
        | lst t1 r1 => exact ⟨_, _, rfl, .inl ⟨Same.sqL E1.sub t1, q _ H1 G1 fp1 E1 S1 (yl_enumL t1 r1) p1⟩⟩
      · cases hf
        refine ⟨G, S, fp, _, _, k, sl, h1, fun vs H1 G1 fp1 E1 S1 r1 p1 => ?_⟩
        obtain ⟨v, rfl, r2⟩ := reps1 r1
        cases r2 with
        | tup t1 r1 => exact ⟨_, _, rfl, .inr ⟨Same.sqT E1.sub t1, q _ H1 G1 fp1 E1 S1 (yl_enumT t1 r1) p1⟩⟩
      · exact nomatch hf
/-! ### xs.index(x) -/
def firstD (d : D) : List D → Nat → Option Nat
  | [], _ => none
  | x :: r, j => if eqD x d = true then some j else firstD d r (j + 1)
def dIndex (x y : D) : Option D := match x with
  | .lst xs => if okD 60 (.lst xs) = true ∧ okD 60 y = true then (firstD y xs 0).map fun j => .int (j : Int) else none
  | _ => none
theorem firstD_is {d : D} : ∀ {xs : List D} {k j : Nat}, firstD d xs k = some j → k ≤ j ∧ (∃ z, xs[j - k]? = some z ∧ eqD z d = true) ∧ ∀ m z, m < j - k → xs[m]? = some z → eqD z d = false
  | [], k, j, h => nomatch h
  | x :: r, k, j, h => by
    unfold firstD at h
    by_cases hx : eqD x d = true
    · rw [if_pos hx] at h
      cases h
      refine ⟨Nat.le_refl _, ⟨x, by simp, hx⟩, fun m z hm => by omega⟩
    · rw [if_neg hx] at h
      obtain ⟨a, ⟨z, b1, b2⟩, cc⟩ := firstD_is h
      have e : j - k = (j - (k + 1)) + 1 := by omega
      refine ⟨by omega, ⟨z, by rw [e]; simpa using b1, b2⟩, fun m z hm hz => ?_⟩
      cases m with
      | zero => simp at hz; subst hz; simpa using hx
      | succ m => exact cc m z (by omega) (by simpa using hz)
theorem toPyL_get : ∀ {xs : List D} {i : Nat}, (toPyL xs)[i]? = (xs[i]?).map toPy
  | [], i => by simp [toPyL]
  | x :: r, 0 => by simp [toPyL]
  | x :: r, i + 1 => by simpa [toPyL] using toPyL_get (xs := r) (i := i)
theorem ex_index {apos : Pos} (hu : X.A.units + 65 < cLine) (ho : PE X o (tE c b1 f)) (he : PE X e (tE c b2 g)) (hK : X.K = c.K := by rfl)
    (hbase : attributeBase o "index" X.env (eval o X.env) = eval o X.env := by rfl)
    (hfew : ((backTo pos (starEach (e :: []) X.env)).all (fun x => !x.1) && (backToKw pos (keywordEach [] X.env)).all (fun x => x.1.isSome)
      && decide ((e :: []).length + ([] : List Keyword).length + (if ([] : List Keyword).isEmpty then 0 else 1) < 30)) = true := by rfl)
    (hline : (apos.endLine == pos.line) = true := by rfl) (hs : starEach (e :: []) X.env = (false, eval e X.env) :: starEach [] X.env := by rfl) (hplain : (backTo pos (starEach [] X.env)).any (·.1) = false := by rfl) :
    PE X (.Call (.Attribute o "index" apos) [e] [] pos) (tE c (b1 && b2) (e2 dIndex f g)) :=
  PE_imp (pe_bm PySem.F.plainAttrs_list PySem.F.slot_list_index PySem.F.type_list_index (mt_indexD hu) ho (pa_cons he pa_nil hs) hbase hfew hline hs hplain) fun σ H Q ⟨G, s, fp, d, s', k, sl, hf, q⟩ => by
    rw [hK]
    unfold e2 at hf
    cases h1 : f s with
    | none => rw [h1] at hf; exact nomatch hf
    | some p =>
      obtain ⟨x, s1⟩ := p
      simp only [h1, Option.bind_some] at hf
      cases h2 : g s1 with
      | none => simp [h2] at hf
      | some p2 =>
        obtain ⟨y, s2⟩ := p2
        simp only [h2, Option.bind_some] at hf
        cases h3 : dIndex x y with
        | none => simp [h3] at hf
        | some z =>
          simp only [h3, Option.map_some, Option.some.injEq, Prod.mk.injEq] at hf
          obtain ⟨rfl, rfl⟩ := hf
          cases x <;> simp only [dIndex] at h3 <;> try contradiction
          rename_i xs
          split at h3
          · rename_i hc
            cases h4 : firstD y xs 0 with
            | none => rw [h4] at h3; exact nomatch h3
            | some j =>
              rw [h4] at h3
              cases h3
              obtain ⟨_, ⟨z, e1, e2⟩, e3⟩ := firstD_is h4
              refine ⟨G, s, fp, _, s1, k, sl, h1, fun v H1 G1 fp1 E1 S1 r1 p1 => ?_⟩
              cases id r1 with
              | @lst a vs _ t1 r1' =>
                refine ⟨.inl ⟨rfl, _, Same.sqL E1.sub t1⟩, G1, s1, fp1, _, s2, E1.ok, S1, h2, fun u H2 G2 fp2 E2 S2 r2 p2 => ?_⟩
                refine ⟨a, u, toPy y, toPyL xs, j, toPy z, rfl, rfl, Rep.dp hc.1 ((r1.mono E2.gs).mono E2.sub), Rep.dp hc.2 (r2.mono E2.sub), okD_shaped hc.1, okD_shaped hc.2, ?_, e2, fun m z' hm hz' => ?_, q _ H2 G2 fp2 (E1.trans E2) S2 (.int _) (p1.and p2)⟩
                · rw [toPyL_get]
                  rw [Nat.sub_zero] at e1
                  rw [e1] <;> rfl
                · rw [toPyL_get] at hz'
                  obtain ⟨w, hw, rfl⟩ := Option.map_eq_some_iff.mp hz'
                  exact e3 m w (by omega) hw
          · exact nomatch h3
end
end DL
/-! DL 18: is True, is not True. -/
namespace DL
open PySem PySem.Spec PyProof.Rows L2
def dIsB : D → D → Option D
  | .bl a, .bl b => some (.bl (decide (a = b)))
  | _, _ => none
def dIsNotB : D → D → Option D
  | .bl a, .bl b => some (.bl (!decide (a = b)))
  | _, _ => none
def rIsB2 : V → V → Hp → VK → Prop := fun x y H Q => ∃ a b, x = .bl a ∧ y = .bl b ∧ Q (.bl (decide (a = b))) H
def rIsNotB2 : V → V → Hp → VK → Prop := fun x y H Q => ∃ a b, x = .bl a ∧ y = .bl b ∧ Q (.bl (!decide (a = b))) H
theorem os_isB {c : Cc} : OpS c rIsB2 dIsB := fun H G x y dx dy dz Q e rx ry hz q => by
  cases dx <;> cases dy <;> simp only [dIsB] at hz <;> try contradiction
  cases hz
  cases rx
  cases ry
  exact ⟨_, _, rfl, rfl, q _ _ _ (Grow.refl e) (.bl _)⟩
theorem os_isNotB {c : Cc} : OpS c rIsNotB2 dIsNotB := fun H G x y dx dy dz Q e rx ry hz q => by
  cases dx <;> cases dy <;> simp only [dIsNotB] at hz <;> try contradiction
  cases hz
  cases rx
  cases ry
  exact ⟨_, _, rfl, rfl, q _ _ _ (Grow.refl e) (.bl _)⟩
theorem bo_isB : BoolOp2 dIsB := fun x y z h => by
  cases x <;> cases y <;> simp only [dIsB] at h <;> first | (cases h; exact ⟨_, rfl⟩) | (exact (nomatch h))
theorem bo_isNotB : BoolOp2 dIsNotB := fun x y z h => by
  cases x <;> cases y <;> simp only [dIsNotB] at h <;> first | (cases h; exact ⟨_, rfl⟩) | (exact (nomatch h))
end DL
/-! DL 19: two names at once, each given plain data or a new list of one's own. -/
namespace DL
open PySem PySem.Spec PyProof.Rows L2
def argO : Arg → Option O
  | .val d => some (.val d)
  | .new xs => some (.lst xs)
  | .own _ => none
def par2 (i j : Nat) (s : S) : List Arg → Option Fl
  | [a, b] => (argO a).bind fun x => (argO b).bind fun y => if i < s.length ∧ j < s.length then some (.next ((s.set i x).set j y)) else none
  | _ => none
def sParA (i j : Nat) (fa : AOF) : SF := fun s => (fa s).bind fun p => par2 i j p.2 p.1
section
variable {c : Cc} {X : Cx} {pins : List Nat} {b1 b2 b3 : Bool} {fao : AOF} {pos : Pos} {e o : Expr} {es : List Expr}
variable {H H' H1 H2 G G' G1 G2 : Hp} {s s1 s2 : S} {fp fp' fp1 fp2 : List Addr} {σ σ1 σ2 : L2.St} {Z : Ends}
theorem put_own2 {o : O} {v : V} {fo fr : List Addr} {i : Nat} (E : Ev H G fp H1 G1 (fo ++ (fr ++ fp1))) (sl : Slots c H1 G1 σ s fp1) (w : Own c H1 G1 v o fo) (hi : i < s.length) :
    ∃ fp', Ev H G fp H1 G1 (fr ++ fp') ∧ Slots c H1 G1 (σ.set i (some v)) (s.set i o) fp' := by
  obtain ⟨f1, f2, hp, kk⟩ := sl.put hi
  obtain ⟨fp', p', sl'⟩ := kk H1 G1 v o fo w (fun _ _ => rfl) (Same.refl _)
  refine ⟨fp', ?_, sl'⟩
  have q1 : (fo ++ (fr ++ fp1)).Perm (f1 ++ (fr ++ (fo ++ f2))) := by
    have a : (fo ++ (fr ++ fp1)).Perm (fo ++ (fr ++ (f1 ++ f2))) := List.Perm.append_left _ (List.Perm.append_left _ hp)
    refine a.trans ?_
    have b : (fr ++ (f1 ++ f2)).Perm (f1 ++ (fr ++ f2)) := by
      rw [← List.append_assoc, ← List.append_assoc]
      exact List.Perm.append_right f2 List.perm_append_comm
    refine (List.Perm.append_left fo b).trans ?_
    have d : (fo ++ (f1 ++ (fr ++ f2))).Perm (f1 ++ (fo ++ (fr ++ f2))) := by
      rw [← List.append_assoc, ← List.append_assoc f1 fo]
      exact List.Perm.append_right _ List.perm_append_comm
    refine d.trans (List.Perm.append_left f1 ?_)
    rw [← List.append_assoc, ← List.append_assoc]
    exact List.Perm.append_right f2 List.perm_append_comm
  exact (E.less q1).perm (List.Perm.append_left fr p')
theorem arg_own {a : Arg} {as : List Arg} {vs : List V} {fx : List Addr} {x : O} (h : ArgsV c H G σ (a :: as) vs fx) (e : argO a = some x) : ∃ v us fa fb, vs = v :: us ∧ fx = fa ++ fb ∧ Own c H G v x fa ∧ ArgsV c H G σ as us fb := by
  cases h with
  | own _ _ => exact nomatch e
  | val r t => cases e; exact ⟨_, _, [], _, rfl, rfl, .val r, t⟩
  | new hv r t => cases e; exact ⟨_, _, [_], _, rfl, rfl, .lst hv r, t⟩
theorem sx_parA (i j : Nat) {x y : Str} {ea eb : Expr} {px py pt : Pos} {kt k2 pt2} (hc : X.calm = true) (hN : X.N.Nodup) (ha : PA X [ea, eb] (tAO c fao)) (hpi : i ∉ pins := by decide) (hpj : j ∉ pins := by decide) (hij : i ≠ j := by decide) (hi : X.N[i]? = some x := by rfl) (hj : X.N[j]? = some y := by rfl)
    (hx : X.env.scope.names.lookup x = some .local := by rfl) (hy : X.env.scope.names.lookup y = some .local := by rfl)
    (hw : swappedStores [.Tuple [.Name x px, .Name y py] kt pt] (.Tuple [ea, eb] k2 pt2) X.env = pure (some [x, y]) := by rfl)
    (hs : swapsWithSole [.Tuple [.Name x px, .Name y py] kt pt] (.Tuple [ea, eb] k2 pt2) pos.line X.env = pure false := by rfl) :
    PS X (.Assign [.Tuple [.Name x px, .Name y py] kt pt] (.Tuple [ea, eb] k2 pt2) pos) (tS c pins (sParA i j fao)) := PS_imp (ps_par hc hN hi hj hij hx hy ha hw hs) fun D σ H ⟨G, s, fp, fl, k, sl, hf, q⟩ => by
  unfold sParA at hf
  cases h1 : fao s with
  | none => rw [h1] at hf; exact nomatch hf
  | some p =>
    obtain ⟨as, s1⟩ := p
    simp only [h1, Option.bind_some] at hf
    match as, h1, hf with
    | [], _, hf => exact nomatch hf
    | [_], _, hf => exact nomatch hf
    | _ :: _ :: _ :: _, _, hf => exact nomatch hf
    | [a, b], h1, hf =>
      simp only [par2] at hf
      cases ea : argO a with
      | none => rw [ea] at hf; exact nomatch hf
      | some x =>
        cases eb : argO b with
        | none => rw [ea, eb] at hf; exact nomatch hf
        | some y =>
          simp only [ea, eb, Option.bind_some] at hf
          split at hf
          · rename_i hl
            cases hf
            refine ⟨G, s, fp, _, s1, k, sl, h1, fun vs fx H1 G1 fp1 E1 S1 r1 => ?_⟩
            obtain ⟨v, us, f1, f2, rfl, rfl, w1, r2⟩ := arg_own r1 ea
            obtain ⟨w, ws, f3, f4, rfl, rfl, w2, r3⟩ := arg_own r2 eb
            cases r3
            rw [List.append_assoc] at E1
            obtain ⟨fp2, E2, S2⟩ := put_own2 E1 S1 w1 hl.1
            rw [List.append_assoc] at E2
            obtain ⟨fp3, E3, S3⟩ := put_own2 E2 S2 w2 (by rw [List.length_set]; exact hl.2)
            exact ⟨_, _, rfl, q _ _ _ _ E3 S3 ((pin_set hpi).trans (pin_set hpj))⟩
          · exact nomatch hf
end
end DL
/-! DL 20: names given the things of a list. -/
namespace DL
open PySem PySem.Spec PyProof.Rows L2
def gTupL (g : List D → S → Option S) : GF := fun d s => match d with
  | .lst xs => g xs s
  | _ => none
section
variable {c : Cc} {X : Cx} {pins : List Nat} {b1 : Bool} {pos : Pos}
theorem gx_lst {es : List Expr} {kk : Nat} {n : Nat} {gs : List D → S → Option S} (hc : X.calm = true) (h : PGs X es (tGs c pins b1 gs)) (hn : (assignEach es X.env).length = n := by rfl) (hlen : ∀ ds s s', gs ds s = some s' → ds.length = n)
    (hK : X.K = c.K := by rfl) (hst : (assignEach es X.env).findIdx? (·.1) = none := by rfl) : PG X (.Tuple es kk pos) (tG c pins b1 (gTupL gs)) := PG_imp (pg_lst hc h hn hst) fun v σ H Q ⟨G, s, fp, d, s', k, sl, r, hg, q⟩ => by
  cases r with
  | lst t1 r1 => exact ⟨_, _, rfl, by rw [hK]; exact Same.sqL k.sub t1, by rw [r1.length]; exact hlen _ _ _ hg, G, s, fp, _, s', k, sl, r1, hg, q⟩
  | _ => exact nomatch hg
end
end DL
/-! DL 21: defs handed on: a local name that holds one of some defs is called; constants that hold defs. -/
namespace DL
open PySem PySem.Spec PyProof.Rows L2
abbrev Tab := List (Addr × (List D → Option D))
def tabGet : Tab → Addr → Option (List D → Option D)
  | [], _ => none
  | (b, m) :: r, a => if a = b then some m else tabGet r a
def eCallV (i : Nat) (tab : Tab) (fa : AF) : EF := fun s => match s[i]? with
  | some (.val (.ref a)) => (tabGet tab a).bind fun m => eCall m fa s
  | _ => none
inductive TabOk (X : Cx) (c : Cc) (kl : Nat) : Tab → Prop
  | nil : TabOk X c kl []
  | cons {a : Addr} {m : List D → Option D} {r : Tab} : Held X.prog X.w X.K X.mg X.base kl a (spP c m) → TabOk X c kl r → TabOk X c kl ((a, m) :: r)
theorem TabOk.get {X : Cx} {c : Cc} {kl : Nat} : ∀ {tab : Tab}, TabOk X c kl tab → ∀ {a : Addr} {m : List D → Option D}, tabGet tab a = some m → Held X.prog X.w X.K X.mg X.base kl a (spP c m)
  | _, .nil, a, m, h => nomatch h
  | _, .cons (a := b) (m := m') h r, a, m, e => by
    simp only [tabGet] at e
    split at e
    · rename_i z
      cases e
      rw [z]
      exact h
    · exact TabOk.get r e
theorem held_of {P : Program} {w : World} {K : PySem.W.Frag} {mg : Str → Option Value} {base : Heap} {kl : Nat} {fA : Addr} {fd : FuncData} {ps : List Str} {sp : Sp} {k2 : Nat} (F : FnOk P w K mg base CX0 k2 fA fd ps sp) (hk : PySem.W.keepIn K (.ref fA) = true) (hb : Binds K fd ps []) (h : k2 ≤ kl := by decide) : Held P w K mg base kl fA sp := ⟨fd, ps, F.mono h, hk, hb⟩
section
variable {c : Cc} {X : Cx} {b1 : Bool} {fa : AF} {pos p : Pos} {e : Expr} {es : List Expr} {x : Str} {tab : Tab}
theorem ex_callV (i : Nat) {kl : Nat} (A : TabOk X c kl tab) (hr : Room kl X.A) (ha : PA X (e :: es) (tA c b1 fa)) (hN : X.N[i]? = some x := by rfl) (hv : Vis X.env.scope x := by first | exact Or.inl rfl | exact Or.inr (Or.inl rfl) | exact Or.inr (Or.inr rfl))
    (hdb : (x == ("__debug__" : Str)) = false := by decide) (hcd : (x == ("__classdict__" : Str)) = false := by decide)
    (he : starEach (e :: es) X.env = (false, eval e X.env) :: starEach es X.env := by rfl) (hpl : (backTo pos (starEach es X.env)).any (·.1) = false := by rfl) : PE X (.Call (.Name x p) (e :: es) [] pos) (tE c b1 (eCallV i tab fa)) := by
  refine PE_imp (pe_callA (i := i) (S := fun a => (tabGet tab a).map (spP c)) (fun f sp hS => ?_) hr hN hv ha hdb hcd he hpl) fun σ H Q ⟨G, s, fp, d, s', k, sl, hf, q⟩ => ?_
  · cases h : tabGet tab f with
    | none => rw [h] at hS; exact nomatch hS
    | some m =>
      rw [h] at hS
      cases hS
      exact A.get h
  · unfold eCallV at hf
    split at hf
    · rename_i a ho
      obtain ⟨v, f1, f2, h1, w, _⟩ := sl.split ho (by simp)
      cases w with
      | val r =>
        cases r
        cases hm : tabGet tab a with
        | none => rw [hm] at hf; exact nomatch hf
        | some m =>
          rw [hm, Option.bind_some] at hf
          have t := call_ok (E := fun _ _ _ => False) (Q := Q) (b1 := b1) ⟨G, s, fp, d, s', k, sl, hf, q⟩
          refine ⟨a, spP c m, h1, by simp only [hm]; rfl, ?_⟩
          have e0 : (fun (vs : List V) (H1 : Hp) => spP c m (vs ++ []) H1 Q (fun _ _ _ => False)) = fun vs H1 => spP c m vs H1 Q (fun _ _ _ => False) := by
            funext vs H1
            rw [List.append_nil]
          rw [← e0]
          exact t
    · exact nomatch hf
end
theorem DefAt.ne {K : PySem.W.Frag} {mg : Str → Option Value} {gn nm gn' nm' : Str} {st st' : Stmt} {ps ps' : List Str} (T : DefAt K mg gn nm st ps) (U : DefAt K mg gn' nm' st' ps') (h : nm ≠ nm') : T.a ≠ U.a := fun e => by
  obtain ⟨oc, od, kV, doc, pm, an, cdv, ct, osl, e1, l1, _⟩ := T.F.ex
  obtain ⟨oc', od', kV', doc', pm', an', cdv', ct', osl', e2, l2, _⟩ := U.F.ex
  rw [e, l2] at l1
  have d : T.d = U.d := by
    injection l1 with l1
    injection l1 with _ _ l1 _
    injection l1 with l1
    exact l1.symm
  have : T.d.name = U.d.name := by rw [d]
  rw [e1, e2] at this
  exact h this
theorem rep_lit {K : PySem.W.Frag} {p : Addr} {e : Option Addr} {its : Array Value} {n : Nat} {sl : Array (Option Value)} (l : K.lookup p = some ⟨.type "tuple", e, .seq its n, sl⟩) {vs : List V} {ds : List D} (hv : Vals vs its.toList) (r : ∀ G, Reps K G vs ds) (hz : vs.length ≤ 1000 := by simp) (G : Hp) : Rep K G (.ref p) (.tup ds) :=
  .tup (.inr ⟨_, its, n, l, rfl, rfl, by
    have := hv.length
    rw [Array.length_toList] at this
    rw [line_eq]; exact Nat.le_trans (Nat.le_of_eq this.symm) (Nat.le_trans hz (by decide)), hv⟩) (r G)
def ConstAt.lit {K : PySem.W.Frag} {mg : Str → Option Value} {nm : Str} {p : Addr} {d : D} (g : mg nm = some (.ref p)) (r : ∀ G, Rep K G (.ref p) d) : ConstAt K mg nm d := ⟨_, .ref p, g, rfl, r⟩
end DL

/-! DL 22: chains of three comparisons. -/
namespace DL
open PySem PySem.Spec PyProof.Rows L2
/-- a op1 b op2 c op3 d -/
def tChain3 (r r' r2 : R2) (ta tb tc td : TE) : TE := fun σ H Q => ta σ H fun x H1 => tb σ H1 fun y H2 => r x y H2 fun z H3 => ∃ k, z = .bl k ∧
  (if k = true then tc σ H3 fun w' H4 => r' y w' H4 fun z2 H5 => ∃ k2, z2 = .bl k2 ∧
    (if k2 = true then td σ H5 fun w2 H6 => r2 w' w2 H6 Q else Q (.bl false) H5) else Q (.bl false) H3)
def eChain3 (op op' op2 : D → D → Option D) (f g h k : EF) : EF := fun s => (f s).bind fun p => (g p.2).bind fun q => (op p.1 q.1).bind fun z => match z with
  | .bl true => (h q.2).bind fun r => (op' q.1 r.1).bind fun z2 => match z2 with
    | .bl true => (k r.2).bind fun t => (op2 r.1 t.1).map fun z' => (z', t.2)
    | .bl false => some (.bl false, r.2)
    | _ => none
  | .bl false => some (.bl false, q.2)
  | _ => none
section
variable {c : Cc} {X : Cx} {a b d : Expr} {ta tb tc td : TE} {f g h k : EF} {b1 b2 b3 b4 : Bool} {H : Hp} {pos : Pos}
theorem pe_chain3 {cc : Expr} {op op' op2 : CmpOp} {r r' r2 : R2} (ho : OpR X (compareOp op) r) (ho' : OpR X (compareOp op') r') (ho2 : OpR X (compareOp op2) r2) (ha : PE X a ta) (hb : PE X b tb) (hc : PE X cc tc) (hd : PE X d td)
    (hm : lastMarks [op, op', op2] [b, cc, d] = false := by with_unfolding_all rfl) : PE X (.Compare a [op, op', op2] [b, cc, d] pos) (tChain3 r r' r2 ta tb tc td) := by
  refine ⟨fun pins s σ H Q I h => ?_⟩
  refine Compare_chain (thn (ha.run pins s σ H _ I h) fun v s1 ⟨x, H1, I1, r1, q1⟩ => chain_link (thn (hb.run pins s1 σ H1 _ I1 q1) fun u s2 ⟨y, H2, I2, r2, q2⟩ =>
    thn (ho pins s2 σ H2 x y v u _ I2 r1 r2 q2) fun d s3 ⟨z, H3, I3, r3, k, e, q3⟩ => ?_)) hm
  subst e
  cases r3
  refine wpAny_truthy_bool ?_
  cases k with
  | false => exact ite_ff ⟨.bl false, H3, I3, rfl, q3⟩
  | true =>
    refine ite_tt (chain_link (thn (hc.run pins s3 σ H3 _ I3 q3) fun w' s4 ⟨z', H4, I4, r4, q4⟩ =>
      thn (ho' pins s4 σ H4 y z' u w' _ I4 r2 r4 q4) fun d s5 ⟨z5, H5, I5, r5, k5, e5, q5⟩ => ?_))
    subst e5
    cases r5
    refine wpAny_truthy_bool ?_
    cases k5 with
    | false => exact ite_ff ⟨.bl false, H5, I5, rfl, q5⟩
    | true => exact ite_tt (chain_last (thn (hd.run pins s5 σ H5 _ I5 q5) fun w2 s6 ⟨z6, H6, I6, r6, q6⟩ => ho2 pins s6 σ H6 z' z6 w' w2 Q I6 r4 r6 q6))
theorem chain3_ok {r r' r2 : R2} {op op' op2 : D → D → Option D} (hr : OpS c r op) (hr' : OpS c r' op') (hr2 : OpS c r2 op2) (hb : BoolOp2 op) (hb' : BoolOp2 op') {σ : L2.St} {Q : VK} (q : tE c (b1 && (b2 && (b3 && b4))) (eChain3 op op' op2 f g h k) σ H Q) : tChain3 r r' r2 (tE c b1 f) (tE c b2 g) (tE c b3 h) (tE c b4 k) σ H Q := by
  obtain ⟨G, s, fp, d, s', kk0, sl, hf, q⟩ := q
  unfold eChain3 at hf
  cases h1 : f s with
  | none => rw [h1] at hf; exact nomatch hf
  | some p =>
    obtain ⟨x, s1⟩ := p
    simp only [h1, Option.bind_some] at hf
    cases h2 : g s1 with
    | none => simp [h2] at hf
    | some p2 =>
      obtain ⟨y, s2⟩ := p2
      simp only [h2, Option.bind_some] at hf
      cases h3 : op x y with
      | none => simp [h3] at hf
      | some z =>
        simp only [h3, Option.bind_some] at hf
        obtain ⟨kk, rfl⟩ := hb _ _ _ h3
        refine ⟨G, s, fp, x, s1, kk0, sl, h1, fun v H1 G1 fp1 E1 S1 r1 p1 => ⟨G1, s1, fp1, y, s2, E1.ok, S1, h2, fun u H2 G2 fp2 E2 S2 r2 p2 =>
          hr _ E2.sub (r1.mono E2.gs) r2 h3 fun v' H3 G3 gr rr => ?_⟩⟩
        cases rr
        refine ⟨kk, rfl, ?_⟩
        have E3 := (E1.trans E2).grow S2 gr
        have S3 := S2.step gr
        have p3 := (p1.and p2).grow gr
        cases kk with
        | false =>
          rw [if_neg Bool.false_ne_true]
          cases hf
          exact q _ H3 G3 fp2 E3 S3 (.bl _) fun hb => p3 (by
            simp only [Bool.and_eq_true] at hb ⊢
            exact ⟨hb.1, hb.2.1⟩)
        | true =>
          rw [if_pos rfl]
          simp only at hf
          cases h4 : h s2 with
          | none => simp [h4] at hf
          | some p4 =>
            obtain ⟨w, s3⟩ := p4
            simp only [h4, Option.bind_some] at hf
            cases h5 : op' y w with
            | none => simp [h5] at hf
            | some z2 =>
              simp only [h5, Option.bind_some] at hf
              obtain ⟨k2, rfl⟩ := hb' _ _ _ h5
              refine ⟨G3, s2, fp2, w, s3, E3.ok, S3, h4, fun w' H4 G4 fp4 E4 S4 r4 p4 => hr' _ E4.sub ((r2.mono gr.gs).mono E4.gs) r4 h5 fun v5 H5 G5 gr5 r5 => ?_⟩
              cases r5
              refine ⟨k2, rfl, ?_⟩
              have E5 := (E3.trans E4).grow S4 gr5
              have S5 := S4.step gr5
              have p5 := (p3.and p4).grow gr5
              cases k2 with
              | false =>
                rw [if_neg Bool.false_ne_true]
                cases hf
                exact q _ H5 G5 fp4 E5 S5 (.bl _) fun hb => p5 (by
                  simp only [Bool.and_eq_true] at hb ⊢
                  exact ⟨⟨hb.1, hb.2.1⟩, hb.2.2.1⟩)
              | true =>
                rw [if_pos rfl]
                simp only at hf
                cases h6 : k s3 with
                | none => simp [h6] at hf
                | some p6 =>
                  obtain ⟨w6, s6⟩ := p6
                  simp only [h6, Option.bind_some] at hf
                  cases h7 : op2 w w6 with
                  | none => simp [h7] at hf
                  | some z' =>
                    simp only [h7, Option.map_some, Option.some.injEq, Prod.mk.injEq] at hf
                    obtain ⟨rfl, rfl⟩ := hf
                    refine ⟨G5, s3, fp4, w6, s6, E5.ok, S5, h6, fun w2 H6 G6 fp6 E6 S6 r6 p6 => hr2 Q E6.sub ((r4.mono gr5.gs).mono E6.gs) r6 h7 fun v7 H7 G7 gr7 r7 => ?_⟩
                    exact q v7 H7 G7 fp6 ((E5.trans E6).grow S6 gr7) (S6.step gr7) r7 (((p5.and p6).grow gr7) ∘ fun hb => by
                      simp only [Bool.and_eq_true] at hb ⊢
                      exact ⟨⟨⟨hb.1, hb.2.1⟩, hb.2.2.1⟩, hb.2.2.2⟩)
theorem ex_chain3 {cc : Expr} {o o' o2 : CmpOp} {r r' r2 : R2} {op op' op2 : D → D → Option D} (ho : OpR X (compareOp o) r) (ho' : OpR X (compareOp o') r') (ho2 : OpR X (compareOp o2) r2) (hr : OpS c r op) (hr' : OpS c r' op') (hr2 : OpS c r2 op2) (hb2 : BoolOp2 op) (hb3 : BoolOp2 op')
    (ha : PE X a (tE c b1 f)) (hb : PE X b (tE c b2 g)) (hc : PE X cc (tE c b3 h)) (hd : PE X d (tE c b4 k))
    (hm : lastMarks [o, o', o2] [b, cc, d] = false := by with_unfolding_all rfl) : PE X (.Compare a [o, o', o2] [b, cc, d] pos) (tE c (b1 && (b2 && (b3 && b4))) (eChain3 op op' op2 f g h k)) := PE_imp (pe_chain3 ho ho' ho2 ha hb hc hd hm) fun _ _ _ q => chain3_ok hr hr' hr2 hb2 hb3 q
end
end DL
namespace DL
open PySem PySem.Spec PyProof.Rows L2
/-! ### a new list: one so many times -/
def nRep (fa : AF) (g : EF) : AF := fun s => (fa s).bind fun p => (g p.2).bind fun q => match q.1 with
  | .int k => if -1000000 ≤ k ∧ k ≤ 1000000 ∧ p.1.length * k.toNat ≤ cap then some ((List.replicate k.toNat p.1).flatten, q.2) else none
  | _ => none
section
variable {c : Cc} {X : Cx} {fa : AF} {g : EF} {b1 : Bool} {pos : Pos}
theorem xn_rep {a b : Expr} (ha : PE X a (tN c fa)) (hb : PE X b (tE c b1 g)) : PE X (.BinOp a .Mult b pos) (tN c (nRep fa g)) := PE_imp (pe_op op_rep ha hb) fun σ H Q ⟨G, s, fp, d, s', k, sl, hf, q⟩ => by
  unfold nRep at hf
  cases h1 : fa s with
  | none => rw [h1] at hf; exact nomatch hf
  | some p =>
    obtain ⟨xs, s1⟩ := p
    rw [h1, Option.bind_some] at hf
    cases h2 : g s1 with
    | none => simp only [h2, Option.bind_none] at hf; exact nomatch hf
    | some p2 =>
      obtain ⟨d2, s2⟩ := p2
      simp only [h2, Option.bind_some] at hf
      split at hf
      · split at hf
        · rename_i kk hc
          cases hf
          refine ⟨G, s, fp, _, _, k, sl, h1, fun p vs H1 G1 fp1 E1 S1 hp r1 => ?_⟩
          have E1' : Ev H G fp H1 G1 fp1 := E1.less (f1 := [p]) (List.Perm.refl _)
          refine ⟨G1, s1, fp1, _, _, E1'.ok, S1, h2, fun w H2 G2 fp2 E2 S2 r2 p2 => ?_⟩
          cases r2
          have hp2 : H2 p = some (.lst vs) := E2.frame p _ hp (List.nodup_cons.mp E1.nd).1
          have b63 : (1000000 : Int) < 2 ^ 63 := by decide
          refine ⟨p, kk, vs, rfl, rfl, hp2, by omega, by omega, by rw [r1.length]; exact Nat.le_trans hc.2.2 cap_line, fun l hl => ?_⟩
          obtain ⟨E3, S3⟩ := (E1'.trans E2).newOwn (o := .lst (List.replicate kk.toNat vs).flatten) S2 hl
          exact q l _ _ _ _ E3 S3 upd_same ((r1.mono E2.gs).rep _)
        · exact nomatch hf
      · exact nomatch hf
end
end DL
/-! DL 23: what the top has left, read by one run of it: a Hook for defs, classes and constants. -/
namespace DL
open PySem PySem.Spec PyProof.Rows L2
theorem bb {a b : Bool} (h : (a && b) = true) : a = true ∧ b = true := Bool.and_eq_true_iff.mp h
mutual
theorem repB_ok {K : PySem.W.Frag} : ∀ {d : D} {u : Value}, repB K d u = true → ∃ v, RelV v u ∧ ∀ G, Rep K G v d
  | .non, u, h => by
    cases u with
    | none => exact ⟨.non, rfl, fun _ => .non⟩
    | _ => simp [repB] at h
  | .bl b, u, h => by
    cases u with
    | bool c =>
      have e : b = c := by simpa [repB] using h
      subst e
      exact ⟨.bl b, rfl, fun _ => .bl b⟩
    | _ => simp [repB] at h
  | .int i, u, h => by
    cases u with
    | int j t =>
      have e : i = j := by simpa [repB] using h
      subst e
      exact ⟨.int i, ⟨t, rfl⟩, fun _ => .int i⟩
    | _ => simp [repB] at h
  | .str x, u, h => by
    cases u with
    | str y t =>
      have e : x = y := by simpa [repB] using h
      subst e
      exact ⟨.str x, ⟨t, rfl⟩, fun _ => .str x⟩
    | _ => simp [repB] at h
  | .ref a, u, h => by
    cases u with
    | ref b =>
      have e : a = b := by simpa [repB] using h
      subst e
      exact ⟨.ref a, rfl, fun _ => .ref a⟩
    | _ => simp [repB] at h
  | .lst ds, u, h => by cases u <;> simp [repB] at h
  | .tup ds, u, h => by
    cases u with
    | ref p =>
      unfold repB at h
      cases q : K.lookup p with
      | none => rw [q] at h; cases h
      | some o =>
        obtain ⟨oc, od, dt, osl⟩ := o
        rw [q] at h
        cases oc with
        | type c =>
          cases dt with
          | seq its n =>
            obtain ⟨h1, h2⟩ := bb h
            obtain ⟨h3, h4⟩ := bb h2
            have ec : c = "tuple" := of_decide_eq_true h1
            subst ec
            obtain ⟨vs, hv, r⟩ := repsB_ok h4
            refine ⟨.ref p, rfl, fun G => rep_lit q hv r ?_ G⟩
            have e := hv.length
            have h5 : its.size ≤ 1000 := of_decide_eq_true h3
            rw [← Array.length_toList] at h5
            rw [← e] at h5
            exact h5
          | _ => cases h
        | _ => cases dt <;> cases h
    | _ => simp [repB] at h
theorem repsB_ok {K : PySem.W.Frag} : ∀ {ds : List D} {us : List Value}, repsB K ds us = true → ∃ vs, Vals vs us ∧ ∀ G, Reps K G vs ds
  | [], [], h => ⟨[], .nil, fun _ => .nil⟩
  | [], _ :: _, h => by simp [repsB] at h
  | _ :: _, [], h => by simp [repsB] at h
  | d :: ds, u :: us, h => by
    unfold repsB at h
    obtain ⟨h1, h2⟩ := bb h
    obtain ⟨v, r1, p1⟩ := repB_ok h1
    obtain ⟨vs, r2, p2⟩ := repsB_ok h2
    exact ⟨v :: vs, .cons r1 r2, fun G => .cons (p1 G) (p2 G)⟩
end
theorem cstB_ok {K : PySem.W.Frag} {h : Heap} {mg : Str → Option Value} (X : K.In h) (G : h.Ns mainGlobals mg) {x : Str} {d : D} (e : cstB K x d = true) : Nonempty (ConstAt K mg x d) := by
  unfold cstB at e
  cases q : PySem.W.nsIn K mainGlobals x with
  | none => rw [q] at e; cases e
  | some o =>
    rw [q] at e
    cases o with
    | none => cases e
    | some u =>
      obtain ⟨v, r, p⟩ := repB_ok e
      exact ⟨⟨u, v, PySem.W.mg_of X G q, r, p⟩⟩
section
variable {fa : List He.Fa} {fn : List He.DefD} {cs : Csts} {K : PySem.W.Frag}
theorem SaysX.all (c : SaysX fa fn cs K) : (((fa.all fun f => f.ok K) && fn.all fun d => d.ok K) && cs.all fun q => cstB K q.1 (q.2 K)) = true := congrArg (fun z : He.AlD => z.1) c
theorem SaysX.fact (c : SaysX fa fn cs K) (i : Nat) {f : He.Fa} (h : fa[i]? = some f := by rfl) : f.ok K = true :=
  List.all_eq_true.mp (bb (bb c.all).1).1 f (List.mem_of_getElem? h)
theorem SaysX.cst (c : SaysX fa fn cs K) (i : Nat) {q : Str × (PySem.W.Frag → D)} (h : cs[i]? = some q := by rfl) : cstB K q.1 (q.2 K) = true :=
  List.all_eq_true.mp (bb c.all).2 q (List.mem_of_getElem? h)
theorem SaysX.def_ (c : SaysX fa fn cs K) (i : Nat) {d : He.DefD} (h : fn[i]? = some d := by rfl) : ∃ fd, FunD K d.name d.qual d.params d.body d.scope (d.dvs K) (d.kws K) (He.fAd K d.at_) fd := by
  have c2 := (bb (bb c.all).1).2
  have e : fn.map (fun d => He.fnW K d.at_) = fn.map He.DefD.val := congrArg (fun z : He.AlD => z.2) c
  have e2 : (fn.map fun d => He.fnW K d.at_)[i]? = (fn.map He.DefD.val)[i]? := by rw [e]
  rw [List.getElem?_map, List.getElem?_map, h] at e2
  exact He.DefD.funD (Option.some.inj e2) (List.all_eq_true.mp c2 d (List.mem_of_getElem? h))
end
/-! ### what stands where -/
theorem funD_fun {K : PySem.W.Frag} {x qual : Str} {st : Stmt} {f : Addr} {fd : FuncData} (F : FunD K x qual (defArgs st) (defBody st) (defScope st) [] [] f fd) : Fun K x qual st f fd := by
  obtain ⟨oc, od, dV, kV, doc, pm, an, cdv, ct, osl, e, l, hc, hd, _⟩ := F.ex
  have : dV = .none := by
    rcases hd with h | h
    · exact h.2
    · exact absurd rfl h.1
  subst this
  exact ⟨⟨oc, od, kV, doc, pm, an, cdv, ct, osl, e, l, hc⟩, F.kp⟩
noncomputable section
def DefAt.hk {K : PySem.W.Frag} {mg : Str → Option Value} {gn nm : Str} {st : Stmt} {ps : List Str} (e : ∃ fd, FunD K (He.dfd (gn, none) nm nm st).name (He.dfd (gn, none) nm nm st).qual (He.dfd (gn, none) nm nm st).params (He.dfd (gn, none) nm nm st).body (He.dfd (gn, none) nm nm st).scope ((He.dfd (gn, none) nm nm st).dvs K) ((He.dfd (gn, none) nm nm st).kws K) (He.fAd K (He.dfd (gn, none) nm nm st).at_) fd) (g : mg gn = some (.ref (He.ga K gn)))
    (hb : ∀ (kV doc pm : Value) (an : Option Addr) (cdv ct : Value) (us : List Value), us.length = ps.length → bindArgs (PySem.W.fnOf nm nm (defArgs st) (defBody st) (defScope st) .none kV doc pm an cdv ct) ⟨us, []⟩ = pure (ps.zip us)) : DefAt K mg gn nm st ps :=
  ⟨He.ga K gn, e.choose, funD_fun e.choose_spec, (funD_fun e.choose_spec).binds hb, g⟩
def MethAt.hk {K : PySem.W.Frag} {cn nm qual : Str} {st : Stmt} {ps : List Str} (e : ∃ fd, FunD K (He.dfd (cn, some nm) nm qual st).name (He.dfd (cn, some nm) nm qual st).qual (He.dfd (cn, some nm) nm qual st).params (He.dfd (cn, some nm) nm qual st).body (He.dfd (cn, some nm) nm qual st).scope ((He.dfd (cn, some nm) nm qual st).dvs K) ((He.dfd (cn, some nm) nm qual st).kws K) (He.fAd K (He.dfd (cn, some nm) nm qual st).at_) fd) (m : Meth K (He.ga K cn) nm (He.ma K (He.ga K cn) nm))
    (hb : ∀ (kV doc pm : Value) (an : Option Addr) (cdv ct : Value) (us : List Value), us.length = ps.length → bindArgs (PySem.W.fnOf nm qual (defArgs st) (defBody st) (defScope st) .none kV doc pm an cdv ct) ⟨us, []⟩ = pure (ps.zip us)) : MethAt K (He.ga K cn) nm qual st ps :=
  ⟨He.ma K (He.ga K cn) nm, e.choose, funD_fun e.choose_spec, (funD_fun e.choose_spec).binds hb, m⟩
end
/-- a law's end, with the script's bits -/
theorem walk_ofX {l : PySem.W.OpenLaw} {n k : Nat} {q : Program} {loose : List Str} {XP : (Str → Option Value) → Heap → Prop} {YP : World → Heap → Prop} {d : DefRec} {CX : CXT} {x : Str}
    (hn : l.most = some n) (hn2 : n ≤ sizeLine) (hdf : d.params.defaults = []) (hr : Room k callerA)
    (F : ∀ (w : World) (mg : Str → Option Value) (fa : Addr) (h : Heap), YP w h → h.Ns mainGlobals mg → mg d.name = some (.ref fa) →
      ∃ (K : PySem.W.Frag) (fd : FuncData) (sp : Sp), K.In h ∧ (∀ (s : Shared) (u : Value), BindsTo s fd ⟨[u], []⟩ [(x, u)]) ∧
        (∀ (H : Hp) (a : Addr) (ns : List Int), ns.length ≤ n → (∀ z ∈ ns, Builtin.Int.intBits z ≤ 1048576) → Only H → SqL K H a (ns.map V.int) → sp [.ref a] H (fun v _ => v = .bl true) fun _ _ _ => False) ∧
        ∀ base : Heap, K.In base → base.Ns mainGlobals mg → FnOk l.prog w K mg base CX k fa fd [x] sp)
    (hCX : ∀ (H : Hp) (s : Shared) (e : Value) (s' : Shared), CX [] H s (fun _ _ _ => False) e s' → False) :
    PySem.W.WalkO q loose XP YP l.row.toRowW d [] (fun f vs => PySem.call f vs) := by
  refine Att.attach_callB hn hdf fun w s₀ s₁ mg mb fa o pm cd doc a vs ns G Y ho hd hcd hmg hobj hints hlen hbits hg => ?_
  obtain ⟨K, fd, sp, KX, hb, hsp, hF⟩ := F w mg fa _ Y G.T.g hmg
  exact law_call KX G.T.g G.T.b G.T.builtins G.T.nolimit hg hobj hints (Nat.le_trans hlen hn2) hr hF hb (fun H hO hS => hsp H a ns hlen hbits hO hS) fun H e s' => hCX H s₁ e s'
end DL
set_option exponentiation.threshold 10000
/-! ### reckoning with the functions -/
namespace DL
open PySem PySem.Spec PyProof.Rows L2
section
variable {s : S} {f g h : EF} {fa : AF} {t u : BF} {x y : D} {i j : Int}
@[simp] theorem v_eVar {n : Nat} : eVar n s = match s[n]? with
  | some (.val d) => some (d, s)
  | _ => none := (rfl)
@[simp] theorem v_eC : eC x s = some (x, s) := (rfl)
theorem v_e1 {op : D → Option D} : e1 op f s = (f s).bind fun p => (op p.1).map fun z => (z, p.2) := rfl
theorem v_e2 {op : D → D → Option D} : e2 op f g s = (f s).bind fun p => (g p.2).bind fun q => (op p.1 q.1).map fun z => (z, q.2) := rfl
@[simp] theorem v_aNil : aNil s = some ([], s) := (rfl)
theorem v_aCons : aCons f fa s = (f s).bind fun p => (fa p.2).map fun q => (p.1 :: q.1, q.2) := rfl
theorem v_eTup : eTup fa s = (fa s).bind fun p => if p.1.length ≤ cap then some (.tup p.1, p.2) else none := rfl
theorem v_eLst : eLst fa s = (fa s).bind fun p => if p.1.length ≤ cap then some (.lst p.1, p.2) else none := rfl
theorem v_eCat {n : Nat} : eCat n f s = match s[n]? with
  | some (.lst xs) => (f s).bind fun p => match p.1 with
    | .lst ys => if xs.length + ys.length ≤ cap then some (.lst (xs ++ ys), p.2) else none
    | _ => none
  | _ => none := (rfl)
theorem v_nLst : nLst fa s = (fa s).bind fun p => if p.1.length ≤ cap then some p else none := rfl
theorem v_bTst : bTst f s = (f s).bind fun p => (truth p.1).map fun z => (z, p.2) := rfl
theorem v_bAnd : bAnd t u s = (t s).bind fun p => if p.1 = true then u p.2 else some (false, p.2) := rfl
theorem v_bOr : bOr t u s = (t s).bind fun p => if p.1 = true then some (true, p.2) else u p.2 := rfl
theorem v_bNot : bNot t s = (t s).map fun p => (!p.1, p.2) := rfl
@[simp] theorem v_bYes : bYes s = some (true, s) := (rfl)
theorem v_eAnd : eAnd f g s = (f s).bind fun p => (truth p.1).bind fun k => if k = true then g p.2 else some p := rfl
theorem v_eOr : eOr f g s = (f s).bind fun p => (truth p.1).bind fun k => if k = true then some p else g p.2 := rfl
theorem v_eNot : eNot f s = (f s).bind fun p => (truth p.1).map fun k => (.bl (!k), p.2) := rfl
theorem v_eIf : eIf t f g s = (t s).bind fun p => if p.1 = true then f p.2 else g p.2 := rfl
theorem v_eChain {op op' : D → D → Option D} : eChain op op' f g h s = (f s).bind fun p => (g p.2).bind fun q => (op p.1 q.1).bind fun z => match z with
  | .bl true => (h q.2).bind fun r => (op' q.1 r.1).map fun z' => (z', r.2)
  | .bl false => some (.bl false, q.2)
  | _ => none := (rfl)
@[simp] theorem v_oNo : oNo s = some (none, s) := (rfl)
theorem v_oSome : oSome f s = (f s).bind fun p => match p.1 with
  | .int i => some (some i, p.2)
  | _ => none := (rfl)
theorem v_eCut {lo hi : S → Option (Option Int × S)} : eCut f lo hi s = (f s).bind fun p => (lo p.2).bind fun q => (hi q.2).bind fun r => (dCut p.1 q.1 r.1).map fun z => (z, r.2) := rfl
theorem v_eCall {m : List D → Option D} : eCall m fa s = (fa s).bind fun p => (m p.1).map fun z => (z, p.2) := rfl
theorem v_nCall {m : List D → Option (List D)} : nCall m fa s = (fa s).bind fun p => (m p.1).map fun z => (z, p.2) := rfl
theorem v_eOfN : eOfN fa s = (fa s).map fun p => (.lst p.1, p.2) := rfl
@[simp] theorem v_sNext : sNext s = some (.next s) := (rfl)
theorem v_sSeq {f g : SF} : sSeq f g s = (f s).bind fun fl => match fl with
  | .next s' => g s'
  | fl => some fl := (rfl)
theorem v_sIf {f g : SF} : sIf t f g s = (t s).bind fun p => if p.1 = true then f p.2 else g p.2 := rfl
theorem v_sRet : sRet f s = (f s).map fun p => .ret (.d p.1) p.2 := rfl
@[simp] theorem v_sRetN : sRetN s = some (.ret (.d .non) s) := (rfl)
theorem v_sRetNew : sRetNew fa s = (fa s).map fun p => .ret (.n p.1) p.2 := rfl
@[simp] theorem v_sBrk : sBrk s = some (.brk s) := (rfl)
@[simp] theorem v_sCont : sCont s = some (.cont s) := (rfl)
theorem v_sDrop : sDrop f s = (f s).map fun p => .next p.2 := rfl
theorem v_sAsg {g : GF} : sAsg f g s = (f s).bind fun p => (g p.1 p.2).map .next := rfl
@[simp] theorem v_gN {n : Nat} : gN n x s = if n < s.length then some (s.set n (.val x)) else none := (rfl)
@[simp] theorem v_gTup {g : List D → S → Option S} {xs : List D} : gTup g (.tup xs) s = g xs s := (rfl)
@[simp] theorem v_gsNil : gsNil [] s = some s := (rfl)
theorem v_gsCons {g : GF} {r : List D → S → Option S} {ds : List D} : gsCons g r (x :: ds) s = (g x s).bind (r ds) := rfl
theorem v_gIx {k : Nat} : gIx k f x s = match s[k]? with
  | some (.lst _) => (f s).bind fun p => match p.1, p.2[k]? with
    | .int i, some (.lst xs) => (ixN xs.length i).map fun j => p.2.set k (.lst (xs.set j x))
    | _, _ => none
  | _ => none := (rfl)
theorem v_sPar {n m : Nat} : sPar n m fa s = (fa s).bind fun p => match p.1 with
  | [v, w] => if n < p.2.length ∧ m < p.2.length then some (.next ((p.2.set n (.val v)).set m (.val w))) else none
  | _ => none := (rfl)
theorem v_sNew {n : Nat} : sNew n fa s = (fa s).bind fun p => if n < p.2.length then some (.next (p.2.set n (.lst p.1))) else none := rfl
theorem v_sApp {n : Nat} : sApp n f s = match s[n]? with
  | some (.lst _) => (f s).bind fun p => match p.2[n]? with
    | some (.lst xs) => if xs.length < cap then some (.next (p.2.set n (.lst (xs ++ [p.1])))) else none
    | _ => none
  | _ => none := (rfl)
@[simp] theorem v_forD_nil {g : GF} {fb : SF} : forD g fb [] s = some (.next s) := (rfl)
theorem v_forD_cons {g : GF} {fb : SF} {xs : List D} : forD g fb (x :: xs) s = (g x s).bind fun s1 => (fb s1).bind fun fl => match fl with
    | .next s2 => forD g fb xs s2
    | .cont s2 => forD g fb xs s2
    | .brk s2 => some (.next s2)
    | .ret d s2 => some (.ret d s2) := (rfl)
/-! the same without a thing to be done under a binder: what is to be done next waits by its name -/
def kr (s : S) : Option D → Option (D × S)
  | some d => some (d, s)
  | none => none
def k1 (op : D → Option D) : Option (D × S) → Option (D × S)
  | some (d, s) => kr s (op d)
  | none => none
def k2b (op : D → D → Option D) (d : D) : Option (D × S) → Option (D × S)
  | some (d', s) => kr s (op d d')
  | none => none
def k2 (op : D → D → Option D) (g : EF) : Option (D × S) → Option (D × S)
  | some (d, s) => k2b op d (g s)
  | none => none
def kc2 (d : D) : Option (List D × S) → Option (List D × S)
  | some (ds, s) => some (d :: ds, s)
  | none => none
def kc (fa : AF) : Option (D × S) → Option (List D × S)
  | some (d, s) => kc2 d (fa s)
  | none => none
def kT : Option (List D × S) → Option (D × S)
  | some (ds, s) => if ds.length ≤ cap then some (.tup ds, s) else none
  | none => none
def kL : Option (List D × S) → Option (D × S)
  | some (ds, s) => if ds.length ≤ cap then some (.lst ds, s) else none
  | none => none
def kLn : Option (List D × S) → Option (List D × S)
  | some (ds, s) => if ds.length ≤ cap then some (ds, s) else none
  | none => none
def kLd : Option (List D × S) → Option (D × S)
  | some (ds, s) => some (.lst ds, s)
  | none => none
def kCat (xs : List D) : Option (D × S) → Option (D × S)
  | some (.lst ys, s) => if xs.length + ys.length ≤ cap then some (.lst (xs ++ ys), s) else none
  | _ => none
def kb (s : S) : Option Bool → Option (Bool × S)
  | some b => some (b, s)
  | none => none
def kB : Option (D × S) → Option (Bool × S)
  | some (d, s) => kb s (truth d)
  | none => none
def kAnd (u : BF) : Option (Bool × S) → Option (Bool × S)
  | some (b, s) => if b = true then u s else some (false, s)
  | none => none
def kOr (u : BF) : Option (Bool × S) → Option (Bool × S)
  | some (b, s) => if b = true then some (true, s) else u s
  | none => none
def kNot : Option (Bool × S) → Option (Bool × S)
  | some (b, s) => some (!b, s)
  | none => none
def kEand2 (g : EF) (d : D) (s : S) : Option Bool → Option (D × S)
  | some b => if b = true then g s else some (d, s)
  | none => none
def kEand (g : EF) : Option (D × S) → Option (D × S)
  | some (d, s) => kEand2 g d s (truth d)
  | none => none
def kEor2 (g : EF) (d : D) (s : S) : Option Bool → Option (D × S)
  | some b => if b = true then some (d, s) else g s
  | none => none
def kEor (g : EF) : Option (D × S) → Option (D × S)
  | some (d, s) => kEor2 g d s (truth d)
  | none => none
def kEnot2 (s : S) : Option Bool → Option (D × S)
  | some b => some (.bl (!b), s)
  | none => none
def kEnot : Option (D × S) → Option (D × S)
  | some (d, s) => kEnot2 s (truth d)
  | none => none
def kEif (f g : EF) : Option (Bool × S) → Option (D × S)
  | some (b, s) => if b = true then f s else g s
  | none => none
def kC3 (op' : D → D → Option D) (h : EF) (d' : D) (s : S) : Option D → Option (D × S)
  | some (.bl true) => k2b op' d' (h s)
  | some (.bl false) => some (.bl false, s)
  | _ => none
def kC2 (op op' : D → D → Option D) (h : EF) (d : D) : Option (D × S) → Option (D × S)
  | some (d', s) => kC3 op' h d' s (op d d')
  | none => none
def kC1 (op op' : D → D → Option D) (g h : EF) : Option (D × S) → Option (D × S)
  | some (d, s) => kC2 op op' h d (g s)
  | none => none
def kO : Option (D × S) → Option (Option Int × S)
  | some (.int i, s) => some (some i, s)
  | _ => none
def kCut3 (d : D) (i : Option Int) : Option (Option Int × S) → Option (D × S)
  | some (j, s) => kr s (dCut d i j)
  | none => none
def kCut2 (hi : S → Option (Option Int × S)) (d : D) : Option (Option Int × S) → Option (D × S)
  | some (i, s) => kCut3 d i (hi s)
  | none => none
def kCut (lo hi : S → Option (Option Int × S)) : Option (D × S) → Option (D × S)
  | some (d, s) => kCut2 hi d (lo s)
  | none => none
def kM (m : List D → Option D) : Option (List D × S) → Option (D × S)
  | some (ds, s) => kr s (m ds)
  | none => none
def kMn2 (s : S) : Option (List D) → Option (List D × S)
  | some ds => some (ds, s)
  | none => none
def kMn (m : List D → Option (List D)) : Option (List D × S) → Option (List D × S)
  | some (ds, s) => kMn2 s (m ds)
  | none => none
def kS (g : SF) : Option Fl → Option Fl
  | some (.next s) => g s
  | some (.ret r s) => some (.ret r s)
  | some (.brk s) => some (.brk s)
  | some (.cont s) => some (.cont s)
  | none => none
def kIf (f g : SF) : Option (Bool × S) → Option Fl
  | some (b, s) => if b = true then f s else g s
  | none => none
def kRet : Option (D × S) → Option Fl
  | some (d, s) => some (.ret (.d d) s)
  | none => none
def kRetN : Option (List D × S) → Option Fl
  | some (d, s) => some (.ret (.n d) s)
  | none => none
def kDrop : Option (D × S) → Option Fl
  | some (_, s) => some (.next s)
  | none => none
def kN : Option S → Option Fl
  | some s => some (.next s)
  | none => none
def kAs (g : GF) : Option (D × S) → Option Fl
  | some (d, s) => kN (g d s)
  | none => none
def kgs (r : List D → S → Option S) (ds : List D) : Option S → Option S
  | some s => r ds s
  | none => none
def kgIx (k : Nat) (x : D) : Option (D × S) → Option S
  | some (.int i, s) => match s[k]? with
    | some (.lst xs) => (ixN xs.length i).map fun j => s.set k (.lst (xs.set j x))
    | _ => none
  | _ => none
def kPar (n m : Nat) : Option (List D × S) → Option Fl
  | some ([v, w], s) => if n < s.length ∧ m < s.length then some (.next ((s.set n (.val v)).set m (.val w))) else none
  | _ => none
def kNew (n : Nat) : Option (List D × S) → Option Fl
  | some (ds, s) => if n < s.length then some (.next (s.set n (.lst ds))) else none
  | none => none
def kApp (n : Nat) : Option (D × S) → Option Fl
  | some (d, s) => match s[n]? with
    | some (.lst xs) => if xs.length < cap then some (.next (s.set n (.lst (xs ++ [d])))) else none
    | _ => none
  | none => none
def kFor (g : GF) (fb : SF) : Option (List D × S) → Option Fl
  | some (ds, s) => forD g fb ds s
  | none => none
def kItems (s : S) : Option (List D) → Option (List D × S)
  | some ds => some (ds, s)
  | none => none
def kSq : Option (D × S) → Option (List D × S)
  | some (d, s) => kItems s (items d)
  | none => none
def kLr (s : S) (own : List Nat) : Option (List D × S) → Option (List D × S)
  | some (ds, s') => some (ds, restS s s' own)
  | none => none
def kLc (own : List Nat) (g : GF) (ft : BF) (f : EF) : Option (List D × S) → Option (List D × S)
  | some (ds, s) => if plainS s own = true then kLr s own (lcD g ft f own ds (wipeS s own) []) else none
  | none => none
section
variable {op : D → Option D} {op2 op3 : D → D → Option D} {fs gs : SF} {s' : S} {d d' : D} {ds : List D} {lo hi : S → Option (Option Int × S)} {b : Bool} {ga : GF}
@[simp] theorem w_kr0 : kr s none = none := (rfl)
@[simp] theorem w_kr : kr s (some d) = some (d, s) := (rfl)
@[simp] theorem w_k1 : k1 op (some (d, s)) = kr s (op d) := (rfl)
@[simp] theorem w_k2b : k2b op2 d (some (d', s)) = kr s (op2 d d') := (rfl)
@[simp] theorem w_k2 : k2 op2 g (some (d, s)) = k2b op2 d (g s) := (rfl)
@[simp] theorem w_kc2 : kc2 d (some (ds, s)) = some (d :: ds, s) := (rfl)
@[simp] theorem w_kc : kc fa (some (d, s)) = kc2 d (fa s) := (rfl)
@[simp] theorem w_kT : kT (some (ds, s)) = if ds.length ≤ cap then some (.tup ds, s) else none := (rfl)
@[simp] theorem w_kL : kL (some (ds, s)) = if ds.length ≤ cap then some (.lst ds, s) else none := (rfl)
@[simp] theorem w_kLn : kLn (some (ds, s)) = if ds.length ≤ cap then some (ds, s) else none := (rfl)
@[simp] theorem w_kLd : kLd (some (ds, s)) = some (.lst ds, s) := (rfl)
@[simp] theorem w_kCat {xs ys : List D} : kCat xs (some (.lst ys, s)) = if xs.length + ys.length ≤ cap then some (.lst (xs ++ ys), s) else none := (rfl)
@[simp] theorem w_kb : kb s (some b) = some (b, s) := (rfl)
@[simp] theorem w_kB : kB (some (d, s)) = kb s (truth d) := (rfl)
@[simp] theorem w_kAnd : kAnd u (some (b, s)) = if b = true then u s else some (false, s) := (rfl)
@[simp] theorem w_kOr : kOr u (some (b, s)) = if b = true then some (true, s) else u s := (rfl)
@[simp] theorem w_kNot : kNot (some (b, s)) = some (!b, s) := (rfl)
@[simp] theorem w_kEand2 : kEand2 g d s (some b) = if b = true then g s else some (d, s) := (rfl)
@[simp] theorem w_kEand : kEand g (some (d, s)) = kEand2 g d s (truth d) := (rfl)
@[simp] theorem w_kEor2 : kEor2 g d s (some b) = if b = true then some (d, s) else g s := (rfl)
@[simp] theorem w_kEor : kEor g (some (d, s)) = kEor2 g d s (truth d) := (rfl)
@[simp] theorem w_kEnot2 : kEnot2 s (some b) = some (.bl (!b), s) := (rfl)
@[simp] theorem w_kEnot : kEnot (some (d, s)) = kEnot2 s (truth d) := (rfl)
@[simp] theorem w_kEif : kEif f g (some (b, s)) = if b = true then f s else g s := (rfl)
@[simp] theorem w_kC3t : kC3 op3 h d' s (some (.bl true)) = k2b op3 d' (h s) := (rfl)
@[simp] theorem w_kC3f : kC3 op3 h d' s (some (.bl false)) = some (.bl false, s) := (rfl)
@[simp] theorem w_kC2 : kC2 op2 op3 h d (some (d', s)) = kC3 op3 h d' s (op2 d d') := (rfl)
@[simp] theorem w_kC1 : kC1 op2 op3 g h (some (d, s)) = kC2 op2 op3 h d (g s) := (rfl)
@[simp] theorem w_kO : kO (some (.int i, s)) = some (some i, s) := (rfl)
@[simp] theorem w_kCut3 {i j : Option Int} : kCut3 d i (some (j, s)) = kr s (dCut d i j) := (rfl)
@[simp] theorem w_kCut2 {i : Option Int} : kCut2 hi d (some (i, s)) = kCut3 d i (hi s) := (rfl)
@[simp] theorem w_kCut : kCut lo hi (some (d, s)) = kCut2 hi d (lo s) := (rfl)
@[simp] theorem w_kM {m : List D → Option D} : kM m (some (ds, s)) = kr s (m ds) := (rfl)
@[simp] theorem w_kMn2 : kMn2 s (some ds) = some (ds, s) := (rfl)
@[simp] theorem w_kMn {m : List D → Option (List D)} : kMn m (some (ds, s)) = kMn2 s (m ds) := (rfl)
@[simp] theorem w_kSn : kS gs (some (.next s)) = gs s := (rfl)
@[simp] theorem w_kSr {r : Rt} : kS gs (some (.ret r s)) = some (.ret r s) := (rfl)
@[simp] theorem w_kSb : kS gs (some (.brk s)) = some (.brk s) := (rfl)
@[simp] theorem w_kSc : kS gs (some (.cont s)) = some (.cont s) := (rfl)
@[simp] theorem w_kIf : kIf fs gs (some (b, s)) = if b = true then fs s else gs s := (rfl)
@[simp] theorem w_kRet : kRet (some (d, s)) = some (.ret (.d d) s) := (rfl)
@[simp] theorem w_kRetN : kRetN (some (ds, s)) = some (.ret (.n ds) s) := (rfl)
@[simp] theorem w_kDrop : kDrop (some (d, s)) = some (.next s) := (rfl)
@[simp] theorem w_kN : kN (some s) = some (.next s) := (rfl)
@[simp] theorem w_kAs : kAs ga (some (d, s)) = kN (ga d s) := (rfl)
@[simp] theorem w_kgs {r : List D → S → Option S} : kgs r ds (some s) = r ds s := (rfl)
@[simp] theorem w_kgIx {k : Nat} : kgIx k x (some (.int i, s)) = match s[k]? with
    | some (.lst xs) => (ixN xs.length i).map fun j => s.set k (.lst (xs.set j x))
    | _ => none := (rfl)
@[simp] theorem w_kPar {n m : Nat} {v w : D} : kPar n m (some ([v, w], s)) = if n < s.length ∧ m < s.length then some (.next ((s.set n (.val v)).set m (.val w))) else none := (rfl)
@[simp] theorem w_kNew {n : Nat} : kNew n (some (ds, s)) = if n < s.length then some (.next (s.set n (.lst ds))) else none := (rfl)
@[simp] theorem w_kApp {n : Nat} : kApp n (some (d, s)) = match s[n]? with
    | some (.lst xs) => if xs.length < cap then some (.next (s.set n (.lst (xs ++ [d])))) else none
    | _ => none := (rfl)
@[simp] theorem w_kFor : kFor ga fs (some (ds, s)) = forD ga fs ds s := (rfl)
@[simp] theorem w_kItems : kItems s (some ds) = some (ds, s) := (rfl)
@[simp] theorem w_kSq : kSq (some (d, s)) = kItems s (items d) := (rfl)
@[simp] theorem w_kLr {own : List Nat} : kLr s own (some (ds, s')) = some (ds, restS s s' own) := (rfl)
@[simp] theorem w_kLc {own : List Nat} {ft : BF} : kLc own ga ft f (some (ds, s)) = if plainS s own = true then kLr s own (lcD ga ft f own ds (wipeS s own) []) else none := (rfl)
@[simp] theorem w_e1 : e1 op f s = k1 op (f s) := by rw [v_e1]; cases f s with
  | none => rfl
  | some p => cases h : op p.1 <;> simp [k1, h]
@[simp] theorem w_e2 : e2 op2 f g s = k2 op2 g (f s) := by rw [v_e2]; cases f s with
  | none => rfl
  | some p => cases h : g p.2 with
    | none => simp [k2, h, k2b]
    | some q =>
      obtain ⟨d', s2⟩ := q
      cases h2 : op2 p.1 d' <;> simp [k2, h, h2]
@[simp] theorem w_aCons : aCons f fa s = kc fa (f s) := by rw [v_aCons]; cases f s with
  | none => rfl
  | some p => cases h : fa p.2 <;> simp [kc, h, kc2]
@[simp] theorem w_eTup : eTup fa s = kT (fa s) := by rw [v_eTup]; cases fa s <;> rfl
@[simp] theorem w_eLst : eLst fa s = kL (fa s) := by rw [v_eLst]; cases fa s <;> rfl
@[simp] theorem w_nLst : nLst fa s = kLn (fa s) := by rw [v_nLst]; cases fa s <;> rfl
@[simp] theorem w_eCat {n : Nat} : eCat n f s = match s[n]? with
  | some (.lst xs) => kCat xs (f s)
  | _ => none := by
  rw [v_eCat]
  split
  · cases f s with
    | none => rfl
    | some p => obtain ⟨d, s'⟩ := p; cases d <;> rfl
  · rfl
@[simp] theorem w_bTst : bTst f s = kB (f s) := by rw [v_bTst]; cases f s with
  | none => rfl
  | some p => cases h : truth p.1 <;> simp [kB, h, kb]
@[simp] theorem w_bAnd : bAnd t u s = kAnd u (t s) := by rw [v_bAnd]; cases t s <;> rfl
@[simp] theorem w_bOr : bOr t u s = kOr u (t s) := by rw [v_bOr]; cases t s <;> rfl
@[simp] theorem w_bNot : bNot t s = kNot (t s) := by rw [v_bNot]; cases t s <;> rfl
@[simp] theorem w_eAnd : eAnd f g s = kEand g (f s) := by rw [v_eAnd]; cases f s with
  | none => rfl
  | some p => cases h : truth p.1 <;> simp [kEand, h, kEand2]
@[simp] theorem w_eOr : eOr f g s = kEor g (f s) := by rw [v_eOr]; cases f s with
  | none => rfl
  | some p => cases h : truth p.1 <;> simp [kEor, h, kEor2]
@[simp] theorem w_eNot : eNot f s = kEnot (f s) := by rw [v_eNot]; cases f s with
  | none => rfl
  | some p => cases h : truth p.1 <;> simp [kEnot, h, kEnot2]
@[simp] theorem w_eIf : eIf t f g s = kEif f g (t s) := by rw [v_eIf]; cases t s <;> rfl
@[simp] theorem w_eChain : eChain op2 op3 f g h s = kC1 op2 op3 g h (f s) := by
  rw [v_eChain]
  cases f s with
  | none => rfl
  | some p =>
    obtain ⟨d, s1⟩ := p
    cases h1 : g s1 with
    | none => simp [h1, kC2]
    | some q =>
      obtain ⟨d', s2⟩ := q
      cases h2 : op2 d d' with
      | none => simp [h1, h2, kC3]
      | some z =>
        cases z with
        | bl b =>
          cases b with
          | false => simp [h1, h2]
          | true => cases h3 : h s2 with
            | none => simp [h1, h2, h3, k2b]
            | some r => cases h4 : op3 d' r.1 <;> simp [h1, h2, h3, h4, k2b]
        | _ => simp [h1, h2, kC3]
@[simp] theorem w_oSome : oSome f s = kO (f s) := by rw [v_oSome]; cases f s with
  | none => rfl
  | some p => obtain ⟨d, s'⟩ := p; cases d <;> rfl
@[simp] theorem w_eCut : eCut f lo hi s = kCut lo hi (f s) := by rw [v_eCut]; cases f s with
  | none => rfl
  | some p =>
    cases h1 : lo p.2 with
    | none => simp [kCut, h1, kCut2]
    | some q =>
      obtain ⟨i, s2⟩ := q
      cases h2 : hi s2 with
      | none => simp [kCut, h1, h2, kCut3]
      | some r =>
        obtain ⟨j, s3⟩ := r
        cases h3 : dCut p.1 i j <;> simp [kCut, h1, h2, h3]
@[simp] theorem w_eCall {m : List D → Option D} : eCall m fa s = kM m (fa s) := by rw [v_eCall]; cases fa s with
  | none => rfl
  | some p => cases h : m p.1 <;> simp [kM, h]
@[simp] theorem w_nCall {m : List D → Option (List D)} : nCall m fa s = kMn m (fa s) := by rw [v_nCall]; cases fa s with
  | none => rfl
  | some p => cases h : m p.1 <;> simp [kMn, h, kMn2]
@[simp] theorem w_eOfN : eOfN fa s = kLd (fa s) := by rw [v_eOfN]; cases fa s <;> rfl
@[simp] theorem w_sSeq : sSeq fs gs s = kS gs (fs s) := by rw [v_sSeq]; cases fs s with
  | none => rfl
  | some p => cases p <;> rfl
@[simp] theorem w_sIf : sIf t fs gs s = kIf fs gs (t s) := by rw [v_sIf]; cases t s <;> rfl
@[simp] theorem w_sRet : sRet f s = kRet (f s) := by rw [v_sRet]; cases f s <;> rfl
@[simp] theorem w_sRetNew : sRetNew fa s = kRetN (fa s) := by rw [v_sRetNew]; cases fa s <;> rfl
@[simp] theorem w_sDrop : sDrop f s = kDrop (f s) := by rw [v_sDrop]; cases f s <;> rfl
@[simp] theorem w_sAsg : sAsg f ga s = kAs ga (f s) := by rw [v_sAsg]; cases f s with
  | none => rfl
  | some p => cases h : ga p.1 p.2 <;> simp [kAs, h, kN]
@[simp] theorem w_gsCons {r : List D → S → Option S} : gsCons ga r (x :: ds) s = kgs r ds (ga x s) := by rw [v_gsCons]; cases ga x s <;> rfl
@[simp] theorem w_gIx {k : Nat} : gIx k f x s = match s[k]? with
  | some (.lst _) => kgIx k x (f s)
  | _ => none := by
  rw [v_gIx]
  split
  · cases f s with
    | none => rfl
    | some p =>
      obtain ⟨d, s'⟩ := p
      simp only [Option.bind_some]
      cases d <;> first
        | rfl
        | (simp only [kgIx]
           cases s'[k]? with
           | none => rfl
           | some o => cases o <;> rfl)
  · rfl
@[simp] theorem w_sPar {n m : Nat} : sPar n m fa s = kPar n m (fa s) := by rw [v_sPar]; cases fa s with
  | none => rfl
  | some p => obtain ⟨ds, s'⟩ := p; rcases ds with _ | ⟨a, _ | ⟨b, _ | ⟨c, r⟩⟩⟩ <;> rfl
@[simp] theorem w_sNew {n : Nat} : sNew n fa s = kNew n (fa s) := by rw [v_sNew]; cases fa s <;> rfl
@[simp] theorem w_sApp {n : Nat} : sApp n f s = match s[n]? with
  | some (.lst _) => kApp n (f s)
  | _ => none := by
  rw [v_sApp]
  split
  · cases f s <;> rfl
  · rfl
@[simp] theorem w_sFor : sFor fa ga fs s = kFor ga fs (fa s) := by unfold sFor; cases fa s <;> rfl
@[simp] theorem w_iSeq : iSeq f s = kSq (f s) := by unfold iSeq; cases f s with
  | none => rfl
  | some p => cases h : items p.1 <;> simp [kSq, h, kItems]
@[simp] theorem w_aLc {own : List Nat} {ft : BF} : aLc own fa ga ft f s = kLc own ga ft f (fa s) := by unfold aLc; cases fa s with
  | none => rfl
  | some p =>
    simp only [Option.bind_some, kLc]
    split
    · cases lcD ga ft f own p.1 (wipeS p.2 own) [] <;> rfl
    · rfl
@[simp] theorem w_eLc {own : List Nat} {ft : BF} : eLc own fa ga ft f s = kLd (aLc own fa ga ft f s) := by unfold eLc; cases aLc own fa ga ft f s <;> rfl
end
theorem forD_inv {g : GF} {fb : SF} (I : S → Prop) : ∀ (xs : List D) (s : S), (∀ x ∈ xs, ∀ s, I s → ∃ s1 s2, g x s = some s1 ∧ fb s1 = some (.next s2) ∧ I s2) → I s → ∃ s', forD g fb xs s = some (.next s') ∧ I s'
  | [], s, _, i => ⟨s, rfl, i⟩
  | x :: xs, s, h, i => by
    obtain ⟨s1, s2, h1, h2, h3⟩ := h x (by simp) s i
    obtain ⟨s', h4, h5⟩ := forD_inv I xs s2 (fun y hy => h y (by simp [hy])) h3
    exact ⟨s', by rw [v_forD_cons, h1, Option.bind_some, h2]; exact h4, h5⟩
theorem v_sFor {g : GF} {fb : SF} : sFor fa g fb s = (fa s).bind fun p => forD g fb p.1 p.2 := rfl
theorem v_iSeq : iSeq f s = (f s).bind fun p => (items p.1).map fun xs => (xs, p.2) := rfl
theorem lcD_fm {α : Type} {g : GF} {ft : BF} {fe : EF} {own : List Nat} {s : S} (f : α → D) (e : α → Option D) : ∀ (l : List α) (acc : List D),
    (∀ a ∈ l, ∃ s1 k s2, g (f a) s = some s1 ∧ ft s1 = some (k, s2) ∧ if k = true then ∃ d s3, fe s2 = some (d, s3) ∧ e a = some d ∧ wipeS s3 own = s else e a = none ∧ wipeS s2 own = s) → acc.length + l.length ≤ cap →
    lcD g ft fe own (l.map f) s acc = some (acc ++ l.filterMap e, s)
  | [], acc, _, _ => by simp [lcD]
  | a :: l, acc, h, hl => by
    obtain ⟨s1, k, s2, h1, h2, h3⟩ := h a (by simp)
    have hl2 : acc.length + (l.length + 1) ≤ cap := hl
    cases k with
    | true =>
      simp only [if_true] at h3
      obtain ⟨d, s3, h4, h5, h6⟩ := h3
      have := lcD_fm (g := g) (ft := ft) (fe := fe) (own := own) (s := s) f e l (acc ++ [d]) (fun b hb => h b (by simp [hb])) (by simp; omega)
      simp only [List.map_cons, lcD, h1, Option.bind_some, h2, if_true, h4, h6, this]
      rw [if_pos (by omega)]
      simp [h5]
    | false =>
      simp only [Bool.false_eq_true, if_false] at h3
      have := lcD_fm (g := g) (ft := ft) (fe := fe) (own := own) (s := s) f e l acc (fun b hb => h b (by simp [hb])) (by omega)
      simp only [List.map_cons, lcD, h1, Option.bind_some, h2, Bool.false_eq_true, if_false, h3.2, this]
      simp [h3.1]
theorem lcD_map {α : Type} {g : GF} {fe : EF} {own : List Nat} {s : S} (f : α → D) (e : α → D) (l : List α)
    (h : ∀ a ∈ l, ∃ s1 s3, g (f a) s = some s1 ∧ fe s1 = some (e a, s3) ∧ wipeS s3 own = s) (hl : l.length ≤ cap) :
    lcD g bYes fe own (l.map f) s [] = some (l.map e, s) := by
  rw [lcD_fm f (fun a => some (e a)) l [] (fun a ha => ?_) (by simpa using hl)]
  · simp
  · obtain ⟨s1, s3, h1, h2, h3⟩ := h a ha
    exact ⟨s1, true, s1, h1, rfl, by simp only [if_true]; exact ⟨_, s3, h2, rfl, h3⟩⟩
theorem v_aLc {own : List Nat} {g : GF} {ft : BF} : aLc own fa g ft f s = (fa s).bind fun p => if plainS p.2 own = true then (lcD g ft f own p.1 (wipeS p.2 own) []).map fun q => (q.1, restS p.2 q.2 own) else none := rfl
theorem v_eLc {own : List Nat} {g : GF} {ft : BF} : eLc own fa g ft f s = (aLc own fa g ft f s).map fun p => (.lst p.1, p.2) := rfl
@[simp] theorem v_wipe0 : wipeS s [] = s := (rfl)
@[simp] theorem v_wipe1 {v : Nat} {vs : List Nat} : wipeS s (v :: vs) = (wipeS s vs).set v .un := (rfl)
@[simp] theorem v_rest0 {s0 : S} : restS s0 s [] = s := (rfl)
@[simp] theorem v_rest1 {s0 : S} {v : Nat} {vs : List Nat} : restS s0 s (v :: vs) = match s0[v]? with
    | some (.val d) => (restS s0 s vs).set v (.val d)
    | _ => restS s0 s vs := (rfl)
@[simp] theorem v_plain0 : plainS s [] = true := (rfl)
@[simp] theorem v_plain1 {v : Nat} {vs : List Nat} : plainS s (v :: vs) = ((match s[v]? with
  | some o => plainO o
  | none => true) && plainS s vs) := (rfl)
@[simp] theorem v_plUn : plainO .un = true := (rfl)
@[simp] theorem v_plVal {d : D} : plainO (.val d) = true := (rfl)
@[simp] theorem v_itT {xs : List D} : items (.tup xs) = some xs := (rfl)
@[simp] theorem v_itL {xs : List D} : items (.lst xs) = some xs := (rfl)
theorem boolsD_map {α : Type} (e : α → Bool) : ∀ l : List α, boolsD (l.map fun a => .bl (e a)) = some (l.map e)
  | [] => rfl
  | a :: l => by simp [boolsD, boolsD_map e l]
theorem intsD_map {α : Type} (e : α → Int) : ∀ l : List α, intsD (l.map fun a => .int (e a)) = some (l.map e)
  | [] => rfl
  | a :: l => by simp [intsD, intsD_map e l]
theorem strsD_map {α : Type} (e : α → Str) : ∀ l : List α, strsD (l.map fun a => .str (e a)) = some (l.map e)
  | [] => rfl
  | a :: l => by simp [strsD, strsD_map e l]
theorem v_atN {xs : List D} {n : Nat} : atI xs (n : Int) = xs[n]? := by
  unfold atI ixN
  rw [if_pos (by omega)]
  by_cases h : (n : Int) < (xs.length : Nat)
  · rw [if_pos h]; simp
  · rw [if_neg h]
    have : xs[n]? = none := List.getElem?_eq_none (by omega)
    simp [this]
theorem v_dIxT {xs : List D} {n : Nat} : dIx (.tup xs) (.int (n : Int)) = xs[n]? := v_atN
theorem v_dIxL {xs : List D} {n : Nat} : dIx (.lst xs) (.int (n : Int)) = xs[n]? := v_atN
@[simp] theorem v_ixt {xs : List D} {z : D} : dIx (.tup (z :: xs)) (.int 0) = some z := v_dIxT (n := 0)
@[simp] theorem v_ixt1 {xs : List D} {z z' : D} : dIx (.tup (z' :: z :: xs)) (.int 1) = some z := v_dIxT (n := 1)
@[simp] theorem v_ixt2 {xs : List D} {z z' z'' : D} : dIx (.tup (z'' :: z' :: z :: xs)) (.int 2) = some z := v_dIxT (n := 2)
@[simp] theorem v_ixl {xs : List D} {z : D} : dIx (.lst (z :: xs)) (.int 0) = some z := v_dIxL (n := 0)
@[simp] theorem v_ixl1 {xs : List D} {z z' : D} : dIx (.lst (z' :: z :: xs)) (.int 1) = some z := v_dIxL (n := 1)
@[simp] theorem v_ixl2 {xs : List D} {z z' z'' : D} : dIx (.lst (z'' :: z' :: z :: xs)) (.int 2) = some z := v_dIxL (n := 2)
@[simp] theorem v_addI : dAdd (.int i) (.int j) = some (.int (i + j)) := (rfl)
@[simp] theorem v_addL : dAddL (.int i) (.int j) = some (.int (i + j)) := (rfl)
@[simp] theorem v_subI : dSub (.int i) (.int j) = some (.int (i - j)) := (rfl)
@[simp] theorem v_ltI : dLt (.int i) (.int j) = some (.bl (decide (i < j))) := (rfl)
@[simp] theorem v_leI : dLe (.int i) (.int j) = some (.bl (decide (i ≤ j))) := (rfl)
@[simp] theorem v_gtI : dGt (.int i) (.int j) = some (.bl (decide (j < i))) := (rfl)
@[simp] theorem v_geI : dGe (.int i) (.int j) = some (.bl (decide (j ≤ i))) := (rfl)
@[simp] theorem v_negI : dNeg (.int i) = some (.int (-i)) := (rfl)
@[simp] theorem v_tN : truth .non = some false := (rfl)
@[simp] theorem v_tB {b : Bool} : truth (.bl b) = some b := (rfl)
@[simp] theorem v_tI : truth (.int i) = some (i != 0) := (rfl)
@[simp] theorem v_tT {xs : List D} : truth (.tup xs) = some (!xs.isEmpty) := (rfl)
@[simp] theorem v_tL {xs : List D} : truth (.lst xs) = some (!xs.isEmpty) := (rfl)
@[simp] theorem v_okN {n : Nat} : okD n .non = true := by cases n <;> rfl
@[simp] theorem v_okB {n : Nat} {b : Bool} : okD n (.bl b) = true := by cases n <;> rfl
@[simp] theorem v_okI {n : Nat} : okD n (.int i) = true := by cases n <;> rfl
@[simp] theorem v_eqI : dEq (.int i) (.int j) = some (.bl (decide (i = j))) := by simp [dEq, eqD, toPy]; rfl
@[simp] theorem v_neI : dNe (.int i) (.int j) = some (.bl (decide (i ≠ j))) := by simp [dNe, eqD, toPy]; rfl
theorem bnd {k : Nat} (h : k ≤ 1000) : -bigI ≤ (k : Int) ∧ (k : Int) ≤ bigI := by
  have : bigI = 1000000000 := rfl
  omega
theorem rng2_ok (i j : Nat) (hi : i ≤ 1000) (hj : j ≤ 1000) {fa : AF} {s s' : S} (h : fa s = some ([.int (i : Int), .int (j : Int)], s')) : DL.iRng2 fa s = some (rangeD (i : Int) (j - i), s') := by
  have b1 := bnd hi
  have b2 := bnd hj
  have e : ((j : Int) - (i : Int)).toNat = j - i := by omega
  simp only [DL.iRng2, h, Option.bind_some]
  rw [if_pos ⟨b1.1, b1.2, b2.1, b2.2⟩, e]
theorem rng1_ok (j : Nat) (hj : j ≤ 1000) {fa : AF} {s s' : S} (h : fa s = some ([.int (j : Int)], s')) : DL.iRng1 fa s = some (rangeD 0 j, s') := by
  have b2 := bnd hj
  have e : (j : Int).toNat = j := by omega
  simp only [DL.iRng1, h, Option.bind_some]
  rw [if_pos ⟨b2.1, b2.2⟩, e]
theorem rangeD_succ (p m : Nat) : rangeD (p : Int) (m + 1) = .int (p : Int) :: rangeD ((p + 1 : Nat) : Int) m := by
  unfold rangeD
  rw [List.range_succ_eq_map, List.map_cons, List.map_map]
  refine congr (congrArg List.cons ?_) (List.map_congr_left fun i _ => ?_)
  · simp
  · simp only [Function.comp]
    congr 1
    omega
theorem rangeD_zero (p : Int) : rangeD p 0 = [] := rfl
end
end DL
set_option exponentiation.threshold 10000
/-! ### numbers: the program's pairs are the rational numbers -/
namespace DL
open PySem PySem.Spec PyProof.Rows L2
def numD (q : Rat) : D := .tup [.int q.num, .int q.den]
theorem numD_inj {p q : Rat} : numD p = numD q ↔ p = q := ⟨fun h => by
  simp only [numD, D.tup.injEq, List.cons.injEq, D.int.injEq, and_true] at h
  exact Rat.ext h.1 (by omega), fun h => h ▸ rfl⟩
@[simp] theorem ok_numD {q : Rat} {n : Nat} : okD (n + 1) (numD q) = true := by simp [numD, okD, okL]
theorem eqD_numD {p q : Rat} : eqD (numD p) (numD q) = decide (p = q) := by
  simp only [eqD, numD, toPy, toPyL, PyData.eqv, PyData.eqvAll]
  rw [Bool.eq_iff_iff]
  simp only [Bool.and_true, Bool.and_eq_true, beq_iff_eq, decide_eq_true_eq]
  exact ⟨fun h => Rat.ext h.1 (by omega), fun h => h ▸ ⟨rfl, rfl⟩⟩
@[simp] theorem dEq_numD {p q : Rat} : dEq (numD p) (numD q) = some (.bl (decide (p = q))) := by simp [dEq, eqD_numD]
@[simp] theorem dNe_numD {p q : Rat} : dNe (numD p) (numD q) = some (.bl (decide (p ≠ q))) := by simp [dNe, eqD_numD]
/-- small tops and bottoms -/
def Sz (n : Nat) (q : Rat) : Prop := q.num.natAbs < 2 ^ n ∧ q.den < 2 ^ n
theorem Sz.mono {n m : Nat} {q : Rat} (h : Sz n q) (l : n ≤ m) : Sz m q := ⟨Nat.lt_of_lt_of_le h.1 (Nat.pow_le_pow_right (by decide) l), Nat.lt_of_lt_of_le h.2 (Nat.pow_le_pow_right (by decide) l)⟩
theorem Sz.divInt {t b : Int} {n : Nat} (h : t.natAbs < 2 ^ n) (h1 : b.natAbs < 2 ^ n) (n0 : 0 < n) : Sz n (Rat.divInt t b) := by
  constructor
  · rw [Rat.num_divInt]
    refine Nat.lt_of_le_of_lt ?_ h
    rw [Int.natAbs_ediv_of_dvd (Int.dvd_trans (Int.gcd_dvd_right ..) (Int.dvd_mul_left ..)), Int.natAbs_mul]
    refine Nat.le_trans (Nat.div_le_self _ _) ?_
    have : b.sign.natAbs ≤ 1 := by rw [Int.natAbs_sign]; split <;> omega
    exact Nat.le_trans (Nat.mul_le_mul_right _ this) (by omega)
  · rw [Rat.den_divInt]
    split
    · exact Nat.one_lt_two_pow (by omega)
    · exact Nat.lt_of_le_of_lt (Nat.div_le_self _ _) h1
theorem lt2_mul {a b n m : Nat} (h : a < 2 ^ n) (h1 : b < 2 ^ m) : a * b < 2 ^ (n + m) := by
  rw [Nat.pow_add]
  exact Nat.mul_lt_mul'' h h1
theorem Rat.add_divInt' (p q : Rat) : p + q = Rat.divInt (p.num * q.den + q.num * p.den) (p.den * q.den) := by
  have h := Rat.divInt_add_divInt p.num q.num (d₁ := p.den) (d₂ := q.den) (by have := p.den_nz; omega) (by have := q.den_nz; omega)
  rwa [Rat.num_divInt_den, Rat.num_divInt_den] at h
theorem Rat.mul_divInt' (p q : Rat) : p * q = Rat.divInt (p.num * q.num) (p.den * q.den) := by
  have h := Rat.divInt_mul_divInt p.num q.num (d₁ := p.den) (d₂ := q.den)
  rwa [Rat.num_divInt_den, Rat.num_divInt_den] at h
theorem Rat.sub_divInt' (p q : Rat) : p - q = Rat.divInt (p.num * q.den - q.num * p.den) (p.den * q.den) := by
  rw [Rat.sub_eq_add_neg, Rat.add_divInt', show (-q).num = -q.num from rfl, show (-q).den = q.den from rfl]
  congr 1
  rw [Int.neg_mul]; rfl
theorem Sz.addn {n m k : Nat} {p q : Rat} (h : Sz n p) (h1 : Sz m q) (l : n + m + 1 ≤ k) : Sz k (p + q) := by
  refine Sz.mono (n := n + m + 1) ?_ l
  rw [Rat.add_divInt']
  have a := lt2_mul h.1 h1.2
  have b := lt2_mul h1.1 h.2
  have d := lt2_mul h.2 h1.2
  rw [Nat.add_comm m n] at b
  refine .divInt ?_ ?_ (by omega)
  · rw [Nat.pow_succ]
    have := Int.natAbs_add_le (p.num * q.den) (q.num * p.den)
    simp only [Int.natAbs_mul, Int.natAbs_natCast] at this
    omega
  · rw [Nat.pow_succ]
    simp only [Int.natAbs_mul, Int.natAbs_natCast]
    omega
theorem Sz.neg {n : Nat} {p : Rat} (h : Sz n p) : Sz n (-p) := ⟨by rw [show (-p).num = -p.num from rfl, Int.natAbs_neg]; exact h.1, h.2⟩
theorem Sz.subn {n m k : Nat} {p q : Rat} (h : Sz n p) (h1 : Sz m q) (l : n + m + 1 ≤ k) : Sz k (p - q) := by
  rw [Rat.sub_eq_add_neg]
  exact h.addn h1.neg l
theorem Sz.muln {n m k : Nat} {p q : Rat} (h : Sz n p) (h1 : Sz m q) (l : n + m + 1 ≤ k) : Sz k (p * q) := by
  refine Sz.mono (n := n + m + 1) ?_ l
  rw [Rat.mul_divInt']
  have a := lt2_mul h.1 h1.1
  have d := lt2_mul h.2 h1.2
  refine .divInt ?_ ?_ (by omega)
  · rw [Nat.pow_succ, Int.natAbs_mul]
    omega
  · rw [Nat.pow_succ]
    simp only [Int.natAbs_mul, Int.natAbs_natCast]
    omega
theorem Rat.div_divInt' (p q : Rat) (h : q ≠ 0) : p / q = Rat.divInt (p.num * q.den) (p.den * q.num) := by
  have hq : q = Rat.divInt q.num q.den := (Rat.num_divInt_den q).symm
  have hp : p = Rat.divInt p.num p.den := (Rat.num_divInt_den p).symm
  have n1 : (q.num : Rat) ≠ 0 := by
    intro z
    have : q.num = 0 := by exact_mod_cast z
    exact h (Rat.num_eq_zero.mp this)
  have n2 : ((q.den : Int) : Rat) ≠ 0 := by
    intro z
    have : (q.den : Int) = 0 := by exact_mod_cast z
    have := q.den_nz
    omega
  have n3 : ((p.den : Int) : Rat) ≠ 0 := by
    intro z
    have : (p.den : Int) = 0 := by exact_mod_cast z
    have := p.den_nz
    omega
  rw [Rat.divInt_eq_div] at hq hp ⊢
  rw [Rat.intCast_mul, Rat.intCast_mul]
  generalize (q.num : Rat) = qn at *
  generalize ((q.den : Int) : Rat) = qd at *
  generalize (p.num : Rat) = pn at *
  generalize ((p.den : Int) : Rat) = pd at *
  rw [hp, hq]
  grind
theorem Sz.divn {n m k : Nat} {p q : Rat} (h : Sz n p) (h1 : Sz m q) (z : q ≠ 0) (l : n + m + 1 ≤ k) : Sz k (p / q) := by
  refine Sz.mono (n := n + m + 1) ?_ l
  rw [Rat.div_divInt' _ _ z]
  have a := lt2_mul h.1 h1.2
  have d := lt2_mul h.2 h1.1
  refine .divInt ?_ ?_ (by omega)
  · rw [Nat.pow_succ]
    simp only [Int.natAbs_mul, Int.natAbs_natCast]
    omega
  · rw [Nat.pow_succ]
    simp only [Int.natAbs_mul, Int.natAbs_natCast]
    omega
theorem log2_of {a n : Nat} (h : a < 2 ^ n) (n0 : 0 < n) : a.log2 < n := by
  by_cases z : a = 0
  · subst z; simpa using n0
  · exact (Nat.log2_lt z).mpr h
end DL
set_option exponentiation.threshold 10000
/-! ### more of reckoning with the functions: lent things, loops by invariants -/
namespace DL
open PySem PySem.Spec PyProof.Rows L2
def kao (i : Nat) : Option (List Arg × S) → Option (List Arg × S)
  | some (as, s) => some (.own i :: as, s)
  | none => none
def kav2 (d : D) : Option (List Arg × S) → Option (List Arg × S)
  | some (as, s) => some (.val d :: as, s)
  | none => none
def kav (fo : AOF) : Option (D × S) → Option (List Arg × S)
  | some (d, s) => kav2 d (fo s)
  | none => none
def kan2 (ds : List D) : Option (List Arg × S) → Option (List Arg × S)
  | some (as, s) => some (.new ds :: as, s)
  | none => none
def kan (fo : AOF) : Option (List D × S) → Option (List Arg × S)
  | some (d, s) => kan2 d (fo s)
  | none => none
def kCo4 (d : D) : Option S → Option (D × S)
  | some s => some (d, s)
  | none => none
def kCo3 (as : List Arg) (s : S) : Option (D × List O) → Option (D × S)
  | some (d, os) => kCo4 d (putO s as os)
  | none => none
def kCo2 (m : List O → Option (D × List O)) (as : List Arg) : Option (List O × S) → Option (D × S)
  | some (os, s) => kCo3 as s (m os)
  | none => none
def kCo (m : List O → Option (D × List O)) : Option (List Arg × S) → Option (D × S)
  | some (as, s) => kCo2 m as (takeO s as)
  | none => none
def kBor (s : S) : Option (D × S) → Option (D × S)
  | some (d, _) => if noL d = true then some (d, s) else none
  | none => none
def kbB (s : S) : Option (Bool × S) → Option (Bool × S)
  | some (b, _) => some (b, s)
  | none => none
def kList : Option (List D × S) → Option (List D × S)
  | some ([.lst xs], s) => some (xs, s)
  | some ([.tup xs], s) => some (xs, s)
  | _ => none
def kExt (n : Nat) : Option (List D × S) → Option Fl
  | some (ds, s) => match s[n]? with
    | some (.lst xs) => if xs.length + ds.length ≤ cap then some (.next (s.set n (.lst (xs ++ ds)))) else none
    | _ => none
  | none => none
def kZip : Option (List D × S) → Option (List D × S)
  | some ([.lst xs, .lst ys], s) => some (zipD xs ys, s)
  | some ([.tup xs, .tup ys], s) => some (zipD xs ys, s)
  | _ => none
def kCO2 (xs : List D) (i : Option Int) : Option (Option Int × S) → Option (D × S)
  | some (j, s) => some (.lst (DL.cutD xs i j), s)
  | none => none
def kCO (xs : List D) (hi : S → Option (Option Int × S)) : Option (Option Int × S) → Option (D × S)
  | some (i, s) => kCO2 xs i (hi s)
  | none => none
def kFld (k i : Nat) (n : Str) : Option (D × S) → Option Fl
  | some (d, s) => match s[i]? with
    | some (.obj k' fs) => if k' = k ∧ fs.length < 1000 then some (.next (s.set i (.obj k (putFO n (.val d) fs)))) else none
    | _ => none
  | none => none
def kMk2 (k i : Nat) (s : S) : Option (D × List O) → Option Fl
  | some (.non, .obj k' fs :: _) => if k' = k ∧ i < s.length then some (.next (s.set i (.obj k fs))) else none
  | _ => none
def kMk (k i : Nat) (m : List O → Option (D × List O)) : Option (List D × S) → Option Fl
  | some (ds, s) => kMk2 k i s (m (.obj k [] :: ds.map .val))
  | none => none
def kNc2 (xs : List D) : Option (D × S) → Option (List D × S)
  | some (.lst ys, s) => if xs.length + ys.length ≤ cap then some (xs ++ ys, s) else none
  | _ => none
def kNc (g : EF) : Option (D × S) → Option (List D × S)
  | some (.lst xs, s) => kNc2 xs (g s)
  | _ => none
section
variable {s : S} {f g h : EF} {fa : AF} {fo : AOF} {t u : BF} {x y d : D} {i j : Int} {as : List Arg} {ds : List D}
@[simp] theorem w_kNc2 {xs ys : List D} : kNc2 xs (some (.lst ys, s)) = if xs.length + ys.length ≤ cap then some (xs ++ ys, s) else none := (rfl)
@[simp] theorem w_kNc {xs : List D} : kNc g (some (.lst xs, s)) = kNc2 xs (g s) := (rfl)
@[simp] theorem w_nCat : nCat f g s = kNc g (f s) := by
  unfold nCat
  cases f s with
  | none => rfl
  | some p =>
    obtain ⟨d, s1⟩ := p
    simp only [Option.bind_some]
    cases d <;> simp only [kNc] <;> cases g s1 with
    | none => rfl
    | some q => obtain ⟨d2, s2⟩ := q; cases d2 <;> rfl
@[simp] theorem w_kao {i : Nat} : kao i (some (as, s)) = some (.own i :: as, s) := (rfl)
@[simp] theorem w_kav2 : kav2 d (some (as, s)) = some (.val d :: as, s) := (rfl)
@[simp] theorem w_kav : kav fo (some (d, s)) = kav2 d (fo s) := (rfl)
@[simp] theorem w_kan2 : kan2 ds (some (as, s)) = some (.new ds :: as, s) := (rfl)
@[simp] theorem w_kan : kan fo (some (ds, s)) = kan2 ds (fo s) := (rfl)
@[simp] theorem w_kCo4 : kCo4 d (some s) = some (d, s) := (rfl)
@[simp] theorem w_kCo3 {os : List O} : kCo3 as s (some (d, os)) = kCo4 d (putO s as os) := (rfl)
@[simp] theorem w_kCo2 {m : List O → Option (D × List O)} {os : List O} : kCo2 m as (some (os, s)) = kCo3 as s (m os) := (rfl)
@[simp] theorem w_kCo {m : List O → Option (D × List O)} : kCo m (some (as, s)) = kCo2 m as (takeO s as) := (rfl)
@[simp] theorem w_kBor {s2 : S} : kBor s (some (d, s2)) = if noL d = true then some (d, s) else none := (rfl)
@[simp] theorem w_kbB {b : Bool} {s2 : S} : kbB s (some (b, s2)) = some (b, s) := (rfl)
@[simp] theorem w_kListL {xs : List D} : kList (some ([.lst xs], s)) = some (xs, s) := (rfl)
@[simp] theorem w_kListT {xs : List D} : kList (some ([.tup xs], s)) = some (xs, s) := (rfl)
@[simp] theorem w_kExt {n : Nat} : kExt n (some (ds, s)) = match s[n]? with
    | some (.lst xs) => if xs.length + ds.length ≤ cap then some (.next (s.set n (.lst (xs ++ ds)))) else none
    | _ => none := (rfl)
@[simp] theorem w_kZipL {xs ys : List D} : kZip (some ([.lst xs, .lst ys], s)) = some (zipD xs ys, s) := (rfl)
@[simp] theorem w_kZipT {xs ys : List D} : kZip (some ([.tup xs, .tup ys], s)) = some (zipD xs ys, s) := (rfl)
@[simp] theorem w_kCO2 {xs : List D} {i j : Option Int} : kCO2 xs i (some (j, s)) = some (.lst (DL.cutD xs i j), s) := (rfl)
@[simp] theorem w_kCO {xs : List D} {i : Option Int} {hi : S → Option (Option Int × S)} : kCO xs hi (some (i, s)) = kCO2 xs i (hi s) := (rfl)
@[simp] theorem w_kFld {k i : Nat} {n : Str} : kFld k i n (some (d, s)) = match s[i]? with
    | some (.obj k' fs) => if k' = k ∧ fs.length < 1000 then some (.next (s.set i (.obj k (putFO n (.val d) fs)))) else none
    | _ => none := (rfl)
@[simp] theorem w_kMk2 {k i k' : Nat} {fs : List (Str × O)} {r : List O} : kMk2 k i s (some (.non, .obj k' fs :: r)) = if k' = k ∧ i < s.length then some (.next (s.set i (.obj k fs))) else none := (rfl)
@[simp] theorem w_kMk {k i : Nat} {m : List O → Option (D × List O)} : kMk k i m (some (ds, s)) = kMk2 k i s (m (.obj k [] :: ds.map .val)) := (rfl)
@[simp] theorem v_aoNil : aoNil s = some ([], s) := (rfl)
@[simp] theorem w_aoOwn {i : Nat} : aoOwn i fo s = match s[i]? with
  | some o => if isUn o = true then none else kao i (fo s)
  | none => none := by
  unfold aoOwn
  cases s[i]? with
  | none => rfl
  | some o => cases isUn o <;> cases fo s <;> rfl
@[simp] theorem w_aoVal : aoVal f fo s = kav fo (f s) := by unfold aoVal; cases f s with
  | none => rfl
  | some p => cases h : fo p.2 <;> simp [kav, h, kav2]
@[simp] theorem w_aoNew : aoNew fa fo s = kan fo (fa s) := by unfold aoNew; cases fa s with
  | none => rfl
  | some p => cases h : fo p.2 <;> simp [kan, h, kan2]
@[simp] theorem v_takeNil : takeO s [] = some ([], s) := by unfold takeO; rfl
@[simp] theorem v_takeVal {d : D} {r : List Arg} : takeO s (.val d :: r) = (takeO s r).map fun p => (.val d :: p.1, p.2) := by rw [takeO]
@[simp] theorem v_takeNew {xs : List D} {r : List Arg} : takeO s (.new xs :: r) = (takeO s r).map fun p => (.lst xs :: p.1, p.2) := by rw [takeO]
@[simp] theorem v_takeOwn {i : Nat} {r : List Arg} : takeO s (.own i :: r) = match s[i]? with
    | some o => if isUn o = true then none else (takeO (s.set i .un) r).map fun p => (o :: p.1, p.2)
    | none => none := by first | (rw [takeO]; done) | (rw [takeO]; rfl)
@[simp] theorem v_putNil : putO s [] [] = some s := by unfold putO; rfl
@[simp] theorem v_putVal {d : D} {r : List Arg} {o : O} {os : List O} : putO s (.val d :: r) (o :: os) = if isUn o = true then putO s r os else none := by rw [putO]
@[simp] theorem v_putNew {xs : List D} {r : List Arg} {o : O} {os : List O} : putO s (.new xs :: r) (o :: os) = putO s r os := by rw [putO]
@[simp] theorem v_putOwn {i : Nat} {r : List Arg} {o : O} {os : List O} : putO s (.own i :: r) (o :: os) = if isUn o = true then putO s r os else match s[i]? with
    | some .un => putO (s.set i o) r os
    | _ => none := by first | (rw [putO]; done) | (rw [putO]; rfl)
@[simp] theorem v_isUn0 : isUn .un = true := (rfl)
@[simp] theorem v_isUn1 {d : D} : isUn (.val d) = false := (rfl)
@[simp] theorem v_isUn2 {xs : List D} : isUn (.lst xs) = false := (rfl)
@[simp] theorem v_isUn3 {c : Nat} {fs : List (Str × O)} : isUn (.obj c fs) = false := (rfl)
@[simp] theorem w_eCallO {m : List O → Option (D × List O)} : eCallO m fo s = kCo m (fo s) := by
  unfold eCallO
  cases fo s with
  | none => rfl
  | some p =>
    obtain ⟨as, s1⟩ := p
    simp only [Option.bind_some, kCo]
    cases takeO s1 as with
    | none => rfl
    | some q =>
      obtain ⟨os, s2⟩ := q
      simp only [Option.bind_some, kCo2]
      cases m os with
      | none => rfl
      | some r =>
        obtain ⟨d, os2⟩ := r
        simp only [Option.bind_some, kCo3]
        cases putO s2 as os2 <;> rfl
@[simp] theorem v_eFrz {n : Nat} : eFrz n s = match s[n]? with
  | some (.lst xs) => some (.lst xs, s.set n (.val (.lst xs)))
  | some (.val d) => some (d, s)
  | _ => none := (rfl)
@[simp] theorem w_eBor {n : Nat} : eBor n f s = match s[n]? with
  | some (.lst xs) => kBor s (f (s.set n (.val (.lst xs))))
  | _ => f s := by
  unfold eBor
  cases s[n]? with
  | none => rfl
  | some o => cases o with
    | lst xs => simp only []; cases f (s.set n (.val (.lst xs))) <;> rfl
    | _ => rfl
@[simp] theorem w_bBor {n : Nat} : bBor n t s = match s[n]? with
  | some (.lst xs) => kbB s (t (s.set n (.val (.lst xs))))
  | _ => t s := by
  unfold bBor
  cases s[n]? with
  | none => rfl
  | some o => cases o with
    | lst xs => simp only []; cases t (s.set n (.val (.lst xs))) <;> rfl
    | _ => rfl
@[simp] theorem v_sRetOwn {n : Nat} : sRetOwn n s = match s[n]? with
  | some (.lst xs) => some (.ret (.n xs) (s.set n .un))
  | _ => none := (rfl)
theorem v_nList : nList fa s = (fa s).bind fun p => match p.1 with
  | [.lst xs] => some (xs, p.2)
  | [.tup xs] => some (xs, p.2)
  | _ => none := (rfl)
@[simp] theorem w_nList : nList fa s = kList (fa s) := by
  unfold nList
  cases fa s with
  | none => rfl
  | some p =>
    obtain ⟨ds, s1⟩ := p
    rcases ds with _ | ⟨a, _ | ⟨b, r⟩⟩
    · rfl
    · cases a <;> rfl
    · cases a <;> rfl
@[simp] theorem w_sExt {n : Nat} : sExt n fa s = match s[n]? with
  | some (.lst _) => kExt n (fa s)
  | _ => none := by
  unfold sExt
  cases s[n]? with
  | none => rfl
  | some o => cases o with
    | lst xs => simp only []; cases fa s <;> rfl
    | _ => rfl
@[simp] theorem w_iZip : iZip fa s = kZip (fa s) := by
  unfold iZip
  cases fa s with
  | none => rfl
  | some p =>
    obtain ⟨ds, s1⟩ := p
    rcases ds with _ | ⟨a, _ | ⟨b, _ | ⟨c, r⟩⟩⟩
    · rfl
    · cases a <;> rfl
    · cases a <;> cases b <;> rfl
    · cases a <;> cases b <;> rfl
@[simp] theorem v_addLL {xs ys : List D} : dAddL (.lst xs) (.lst ys) = if xs.length + ys.length ≤ cap then some (.lst (xs ++ ys)) else none := (rfl)
@[simp] theorem v_addTT {xs ys : List D} : dAddL (.tup xs) (.tup ys) = if xs.length + ys.length ≤ cap then some (.tup (xs ++ ys)) else none := (rfl)
@[simp] theorem w_eCutO {n : Nat} {lo hi : S → Option (Option Int × S)} : eCutO n lo hi s = match s[n]? with
  | some (.lst xs) => kCO xs hi (lo s)
  | _ => none := by
  unfold eCutO
  cases s[n]? with
  | none => rfl
  | some o => cases o with
    | lst xs =>
      simp only []
      cases h : lo s with
      | none => rfl
      | some q =>
        obtain ⟨i, s1⟩ := q
        simp only [Option.bind_some, kCO]
        cases hi s1 <;> rfl
    | _ => rfl
@[simp] theorem w_sFld {k i : Nat} {n : Str} : DL.sFld k i n f s = kFld k i n (f s) := by unfold DL.sFld; cases f s <;> rfl
@[simp] theorem w_sMake {k i : Nat} {m : List O → Option (D × List O)} : sMake k i m fa s = kMk k i m (fa s) := by
  unfold sMake
  cases fa s with
  | none => rfl
  | some p =>
    obtain ⟨ds, s1⟩ := p
    simp only [Option.bind_some, kMk]
    cases m (.obj k [] :: ds.map .val) with
    | none => rfl
    | some r =>
      obtain ⟨d, os⟩ := r
      cases d <;> first
        | rfl
        | (rcases os with _ | ⟨o, r⟩
           · rfl
           · cases o <;> rfl)
@[simp] theorem v_dCutL {xs : List D} {i j : Option Int} : dCut (.lst xs) i j = some (.lst (DL.cutD xs i j)) := (rfl)
@[simp] theorem v_dCutT {xs : List D} {i j : Option Int} : dCut (.tup xs) i j = some (.tup (DL.cutD xs i j)) := (rfl)
@[simp] theorem v_bTup1 {xs : List D} : bTuple [.lst xs] = some (.tup xs) := (rfl)
@[simp] theorem v_noLN {q : Rat} : noL (numD q) = true := (rfl)
@[simp] theorem v_noLI {i : Int} : noL (.int i) = true := (rfl)
@[simp] theorem v_noLB {b : Bool} : noL (.bl b) = true := (rfl)
@[simp] theorem v_lenT {xs : List D} : bLen [.tup xs] = some (.int xs.length) := (rfl)
@[simp] theorem v_lenL {xs : List D} : bLen [.lst xs] = some (.int xs.length) := (rfl)
@[simp] theorem v_dIsN0 : dIsN .non = some (.bl true) := (rfl)
@[simp] theorem v_dNotN0 : dNotN .non = some (.bl false) := (rfl)
@[simp] theorem v_dIsN1 {xs : List D} : dIsN (.tup xs) = some (.bl false) := (rfl)
@[simp] theorem v_dNotN1 {xs : List D} : dNotN (.tup xs) = some (.bl true) := (rfl)
@[simp] theorem v_dRevL {xs : List D} : dRev (.lst xs) = some (.lst xs.reverse) := (rfl)
@[simp] theorem v_dRevT {xs : List D} : dRev (.tup xs) = some (.tup xs.reverse) := (rfl)
@[simp] theorem dNe_bl (a b : Bool) : dNe (.bl a) (.bl b) = some (.bl (decide (a ≠ b))) := by
  cases a <;> cases b <;> rfl
@[simp] theorem dEq_bl (a b : Bool) : dEq (.bl a) (.bl b) = some (.bl (decide (a = b))) := by
  cases a <;> cases b <;> rfl
end
/-- a walk over plain things, by an invariant on their number -/
theorem forD_ix {g : GF} {fb : SF} (I : Nat → S → Prop) : ∀ (xs : List D) (k : Nat) (s : S), I k s →
    (∀ i (hi : i < xs.length) s, I (k + i) s → ∃ s1 s2, g xs[i] s = some s1 ∧ (fb s1 = some (.next s2) ∨ fb s1 = some (.cont s2)) ∧ I (k + i + 1) s2) →
    ∃ s', forD g fb xs s = some (.next s') ∧ I (k + xs.length) s'
  | [], k, s, i, _ => ⟨s, rfl, i⟩
  | x :: xs, k, s, i, h => by
    obtain ⟨s1, s2, h1, h2, h3⟩ := h 0 (by simp) s i
    obtain ⟨s', h4, h5⟩ := forD_ix I xs (k + 1) s2 h3 (fun j hj s hs => by
      have := h (j + 1) (by simpa using hj) s (by rwa [show k + (j + 1) = k + 1 + j by omega])
      rwa [show k + (j + 1) + 1 = k + 1 + j + 1 by omega] at this)
    refine ⟨s', ?_, by rwa [show k + (x :: xs).length = k + 1 + xs.length by simp; omega]⟩
    simp only [List.getElem_cons_zero] at h1
    rw [v_forD_cons, h1, Option.bind_some]
    rcases h2 with h2 | h2 <;> rw [h2] <;> exact h4
theorem forD_list {g : GF} {fb : SF} {xs : List D} {s : S} (I : Nat → S → Prop) (h0 : I 0 s)
    (h : ∀ i (hi : i < xs.length) s, I i s → ∃ s1 s2, g xs[i] s = some s1 ∧ (fb s1 = some (.next s2) ∨ fb s1 = some (.cont s2)) ∧ I (i + 1) s2) :
    ∃ s', forD g fb xs s = some (.next s') ∧ I xs.length s' := by
  have := forD_ix I xs 0 s h0 (fun i hi s hs => by simpa using h i hi s (by simpa using hs))
  simpa using this
/-- over plain things that stand for things -/
theorem forD_map {α : Type} {g : GF} {fb : SF} {s : S} (f : α → D) (l : List α) (I : Nat → S → Prop) (h0 : I 0 s)
    (h : ∀ i (hi : i < l.length) s, I i s → ∃ s1 s2, g (f l[i]) s = some s1 ∧ (fb s1 = some (.next s2) ∨ fb s1 = some (.cont s2)) ∧ I (i + 1) s2) :
    ∃ s', forD g fb (l.map f) s = some (.next s') ∧ I l.length s' := by
  have := forD_list (xs := l.map f) I h0 (fun i hi s hs => by
    rw [List.getElem_map]
    exact h i (by simpa using hi) s hs)
  simpa using this
theorem lcD_pure {α : Type} {g : GF} {fe : EF} {own : List Nat} {s : S} (f : α → D) (e : α → D) (l : List α)
    (h : ∀ a ∈ l, ∃ s1, g (f a) s = some s1 ∧ fe s1 = some (e a, s1) ∧ wipeS s1 own = s) (hl : l.length ≤ cap) :
    lcD g bYes fe own (l.map f) s [] = some (l.map e, s) := lcD_map f e l (fun a ha => by
      obtain ⟨s1, h1, h2, h3⟩ := h a ha
      exact ⟨s1, s1, h1, h2, h3⟩) hl
/-- a comprehension that changes things on its way -/
theorem lcD_inv {α : Type} {g : GF} {fe : EF} {own : List Nat} (f : α → D) (I : Nat → List D → S → Prop) : ∀ (l : List α) (k : Nat) (s : S) (acc : List D), I k acc s →
    (∀ i (hi : i < l.length) acc s, I (k + i) acc s → ∃ s1 d s3, g (f l[i]) s = some s1 ∧ fe s1 = some (d, s3) ∧ I (k + i + 1) (acc ++ [d]) (wipeS s3 own)) → acc.length + l.length ≤ cap →
    ∃ ds s', lcD g bYes fe own (l.map f) s acc = some (ds, s') ∧ I (k + l.length) ds s'
  | [], k, s, acc, i, _, _ => ⟨acc, s, rfl, i⟩
  | a :: l, k, s, acc, i, h, hl => by
    have hl2 : acc.length + (l.length + 1) ≤ cap := hl
    obtain ⟨s1, d, s3, h1, h2, h3⟩ := h 0 (by simp) acc s i
    simp only [List.getElem_cons_zero] at h1
    obtain ⟨ds, s', h4, h5⟩ := lcD_inv f I l (k + 1) (wipeS s3 own) (acc ++ [d]) h3 (fun j hj acc s hs => by
      have := h (j + 1) (by simpa using hj) acc s (by rwa [show k + (j + 1) = k + 1 + j by omega])
      rwa [show k + (j + 1) + 1 = k + 1 + j + 1 by omega] at this) (by simp; omega)
    refine ⟨ds, s', ?_, by rwa [show k + (a :: l).length = k + 1 + l.length by simp; omega]⟩
    simp only [List.map_cons, lcD, h1, Option.bind_some, v_bYes, if_true, h2]
    rw [if_pos (by omega)]
    exact h4
theorem rangeD_get {p : Int} {m i : Nat} (h : i < (rangeD p m).length) : (rangeD p m)[i] = .int (p + i) := by
  simp [rangeD]
theorem rangeD_len {p : Int} {m : Nat} : (rangeD p m).length = m := by simp [rangeD]
/-- over a range -/
theorem forD_rng {g : GF} {fb : SF} {s : S} (p m : Nat) (I : Nat → S → Prop) (h0 : I p s)
    (h : ∀ i s, p ≤ i → i < p + m → I i s → ∃ s1 s2, g (.int (i : Int)) s = some s1 ∧ (fb s1 = some (.next s2) ∨ fb s1 = some (.cont s2)) ∧ I (i + 1) s2) :
    ∃ s', forD g fb (rangeD (p : Int) m) s = some (.next s') ∧ I (p + m) s' := by
  obtain ⟨s', h1, h2⟩ := forD_ix I (rangeD (p : Int) m) p s h0 (fun i hi s hs => by
    rw [rangeD_get hi]
    have := h (p + i) s (by omega) (by rw [rangeD_len] at hi; omega) hs
    simpa using this)
  rw [rangeD_len] at h2
  exact ⟨s', h1, h2⟩
theorem forD_rng0 {g : GF} {fb : SF} {s : S} (m : Nat) (I : Nat → S → Prop) (h0 : I 0 s)
    (h : ∀ i s, i < m → I i s → ∃ s1 s2, g (.int (i : Int)) s = some s1 ∧ (fb s1 = some (.next s2) ∨ fb s1 = some (.cont s2)) ∧ I (i + 1) s2) :
    ∃ s', forD g fb (rangeD 0 m) s = some (.next s') ∧ I m s' := by
  have := forD_rng (g := g) (fb := fb) (s := s) 0 m I h0 (fun i s _ hi hs => h i s (by omega) hs)
  simpa using this
/-- a walk that may return -/
theorem forD_ixR {g : GF} {fb : SF} (I : Nat → S → Prop) (R : Rt → S → Prop) : ∀ (xs : List D) (k : Nat) (s : S), I k s →
    (∀ i (hi : i < xs.length) s, I (k + i) s → ∃ s1, g xs[i] s = some s1 ∧ ((∃ s2, (fb s1 = some (.next s2) ∨ fb s1 = some (.cont s2)) ∧ I (k + i + 1) s2) ∨ ∃ d s2, fb s1 = some (.ret d s2) ∧ R d s2)) →
    (∃ s', forD g fb xs s = some (.next s') ∧ I (k + xs.length) s') ∨ ∃ d s', forD g fb xs s = some (.ret d s') ∧ R d s'
  | [], k, s, i, _ => .inl ⟨s, rfl, i⟩
  | x :: xs, k, s, i, h => by
    obtain ⟨s1, h1, h2⟩ := h 0 (by simp) s i
    simp only [List.getElem_cons_zero] at h1
    rcases h2 with ⟨s2, h2, h3⟩ | ⟨d, s2, h2, h3⟩
    · have := forD_ixR I R xs (k + 1) s2 h3 (fun j hj s hs => by
        have := h (j + 1) (by simpa using hj) s (by rwa [show k + (j + 1) = k + 1 + j by omega])
        rwa [show k + (j + 1) + 1 = k + 1 + j + 1 by omega] at this)
      have e : forD g fb (x :: xs) s = forD g fb xs s2 := by
        rw [v_forD_cons, h1, Option.bind_some]
        rcases h2 with h2 | h2 <;> rw [h2] <;> rfl
      rw [e, show k + (x :: xs).length = k + 1 + xs.length by simp; omega]
      exact this
    · refine .inr ⟨d, s2, ?_, h3⟩
      rw [v_forD_cons, h1, Option.bind_some, h2]
      rfl
theorem forD_mapR {α : Type} {g : GF} {fb : SF} {s : S} (f : α → D) (l : List α) (I : Nat → S → Prop) (R : Rt → S → Prop) (h0 : I 0 s)
    (h : ∀ i (hi : i < l.length) s, I i s → ∃ s1, g (f l[i]) s = some s1 ∧ ((∃ s2, (fb s1 = some (.next s2) ∨ fb s1 = some (.cont s2)) ∧ I (i + 1) s2) ∨ ∃ d s2, fb s1 = some (.ret d s2) ∧ R d s2)) :
    (∃ s', forD g fb (l.map f) s = some (.next s') ∧ I l.length s') ∨ ∃ d s', forD g fb (l.map f) s = some (.ret d s') ∧ R d s' := by
  have := forD_ixR I R (l.map f) 0 s h0 (fun i hi s hs => by
    rw [List.getElem_map]
    simpa using h i (by simpa using hi) s (by simpa using hs))
  simpa using this
theorem forD_rngR {g : GF} {fb : SF} {s : S} (p m : Nat) (I : Nat → S → Prop) (R : Rt → S → Prop) (h0 : I p s)
    (h : ∀ i s, p ≤ i → i < p + m → I i s → ∃ s1, g (.int (i : Int)) s = some s1 ∧ ((∃ s2, (fb s1 = some (.next s2) ∨ fb s1 = some (.cont s2)) ∧ I (i + 1) s2) ∨ ∃ d s2, fb s1 = some (.ret d s2) ∧ R d s2)) :
    (∃ s', forD g fb (rangeD (p : Int) m) s = some (.next s') ∧ I (p + m) s') ∨ ∃ d s', forD g fb (rangeD (p : Int) m) s = some (.ret d s') ∧ R d s' := by
  have := forD_ixR I R (rangeD (p : Int) m) p s h0 (fun i hi s hs => by
    rw [rangeD_get hi]
    have := h (p + i) s (by omega) (by rw [rangeD_len] at hi; omega) hs
    simpa using this)
  rwa [rangeD_len] at this
theorem forD_rng0R {g : GF} {fb : SF} {s : S} (m : Nat) (I : Nat → S → Prop) (R : Rt → S → Prop) (h0 : I 0 s)
    (h : ∀ i s, i < m → I i s → ∃ s1, g (.int (i : Int)) s = some s1 ∧ ((∃ s2, (fb s1 = some (.next s2) ∨ fb s1 = some (.cont s2)) ∧ I (i + 1) s2) ∨ ∃ d s2, fb s1 = some (.ret d s2) ∧ R d s2)) :
    (∃ s', forD g fb (rangeD 0 m) s = some (.next s') ∧ I m s') ∨ ∃ d s', forD g fb (rangeD 0 m) s = some (.ret d s') ∧ R d s' := by
  have := forD_rngR (g := g) (fb := fb) (s := s) 0 m I R h0 (fun i s _ hi hs => h i s (by omega) hs)
  simpa using this
/-- a while by an invariant and a measure -/
theorem sWhile_inv {t : BF} {fb : SF} (I : S → Prop) (Q : S → Prop) (μ : S → Nat) (h : ∀ s, I s → (∃ s1, t s = some (false, s1) ∧ Q s1) ∨ ∃ s1 s2, t s = some (true, s1) ∧ (fb s1 = some (.next s2) ∨ fb s1 = some (.cont s2)) ∧ I s2 ∧ μ s2 < μ s) :
    ∀ (n : Nat) (s : S), μ s ≤ n → I s → ∃ s', sWhile t fb s = some (.next s') ∧ Q s'
  | n, s, hn, i => by
    rcases h s i with ⟨s1, h1, h2⟩ | ⟨s1, s2, h1, h2, h3, h4⟩
    · refine ⟨s1, ?_, h2⟩
      rw [sWhile_eq, h1, Option.bind_some]
      simp
    · match n with
      | 0 => omega
      | n + 1 =>
        obtain ⟨s', h5, h6⟩ := sWhile_inv I Q μ h n s2 (by omega) h3
        refine ⟨s', ?_, h6⟩
        rw [sWhile_eq, h1, Option.bind_some]
        rcases h2 with h2 | h2 <;> simp [h2, h5]
theorem sWhile_n {t : BF} {fb : SF} {s : S} (I : Nat → S → Prop) (Q : S → Prop) (n : Nat) (h0 : I n s) (h : ∀ n s, I n s → (∃ s1, t s = some (false, s1) ∧ Q s1) ∨ ∃ m s1 s2, m < n ∧ t s = some (true, s1) ∧ (fb s1 = some (.next s2) ∨ fb s1 = some (.cont s2)) ∧ I m s2) :
    ∃ s', sWhile t fb s = some (.next s') ∧ Q s' := by
  induction n using Nat.strongRecOn generalizing s with
  | _ n ih =>
    rcases h n s h0 with ⟨s1, h1, h2⟩ | ⟨m, s1, s2, hm, h1, h2, h3⟩
    · refine ⟨s1, ?_, h2⟩
      rw [sWhile_eq, h1, Option.bind_some]
      simp
    · obtain ⟨s', h5, h6⟩ := ih m hm h3
      refine ⟨s', ?_, h6⟩
      rw [sWhile_eq, h1, Option.bind_some]
      rcases h2 with h2 | h2 <;> simp [h2, h5]
end DL
namespace DL
open PySem PySem.Spec PyProof.Rows L2
theorem ix_mem {xs : List D} {i : Int} (h : 0 ≤ i) (h1 : i < (xs.length : Nat)) : ∃ d ∈ xs, dIx (.lst xs) (.int i) = some d ∧ dIx (.tup xs) (.int i) = some d ∧ xs[i.toNat]? = some d := by
  obtain ⟨n, rfl⟩ : ∃ n : Nat, i = (n : Int) := ⟨i.toNat, by omega⟩
  have hi : n < xs.length := by omega
  refine ⟨xs[n], List.getElem_mem hi, ?_, ?_, by simp [hi]⟩
  · rw [v_dIxL]; simp [hi]
  · rw [v_dIxT]; simp [hi]
end DL
set_option exponentiation.threshold 10000
/-! ### running: dicts, enumerate -/
namespace DL
open PySem PySem.Spec PyProof.Rows L2
section
variable {s : S} {f g : EF} {fa : AF} {ds : List D} {d : D} {n : Nat}
@[simp] theorem w_sNewD : sNewD n s = if n < s.length then some (.next (s.set n (.dct []))) else none := (rfl)
@[simp] theorem w_sRetD : sRetD n s = match s[n]? with
  | some (.dct xs) => some (.ret (.k xs) (s.set n .un))
  | _ => none := (rfl)
def kPutD2 (n : Nat) (d : D) : Option (D × S) → Option Fl
  | some (k, s) => match keyD k, s[n]? with
    | some k, some (.dct xs) => if xs.length < cap then some (.next (s.set n (.dct (storeK xs k d)))) else none
    | _, _ => none
  | none => none
def kPutD (n : Nat) (fk : EF) : Option (D × S) → Option Fl
  | some (d, s) => match s[n]? with
    | some (.dct _) => kPutD2 n d (fk s)
    | _ => none
  | none => none
@[simp] theorem w_sPutD : sPutD n f g s = kPutD n f (g s) := by
  unfold sPutD
  cases g s with
  | none => rfl
  | some p =>
    obtain ⟨d, s1⟩ := p
    simp only [Option.bind_some, kPutD]
    cases s1[n]? with
    | none => rfl
    | some o => cases o <;> first | rfl | (simp only []; cases f s1 <;> rfl)
@[simp] theorem w_kPutD : kPutD n f (some (d, s)) = match s[n]? with
  | some (.dct _) => kPutD2 n d (f s)
  | _ => none := (rfl)
@[simp] theorem w_kPutD2 {i : Int} : kPutD2 n d (some (.int i, s)) = match s[n]? with
  | some (.dct xs) => if xs.length < cap then some (.next (s.set n (.dct (storeK xs (.inl i) d)))) else none
  | _ => none := by
  simp only [kPutD2, keyD]
  cases s[n]? with
  | none => rfl
  | some o => cases o <;> rfl
def kDC2 (s : S) : Option (List (Key × D)) → Option (List (Key × D) × S)
  | some z => some (z, s)
  | none => none
def kDC (m : List D → Option (List (Key × D))) : Option (List D × S) → Option (List (Key × D) × S)
  | some (ds, s) => kDC2 s (m ds)
  | none => none
@[simp] theorem w_dCall {m : List D → Option (List (Key × D))} : dCall m fa s = kDC m (fa s) := by
  unfold dCall
  cases fa s with
  | none => rfl
  | some p => obtain ⟨ds, s1⟩ := p; show (m ds).map _ = kDC2 s1 (m ds); cases m ds <;> rfl
@[simp] theorem w_kDC {m : List D → Option (List (Key × D))} : kDC m (some (ds, s)) = kDC2 s (m ds) := (rfl)
@[simp] theorem w_kDC2 {z : List (Key × D)} : kDC2 s (some z) = some (z, s) := (rfl)
def kSetD (n : Nat) : Option (List (Key × D) × S) → Option Fl
  | some (z, s) => if n < s.length then some (.next (s.set n (.dct z))) else none
  | none => none
@[simp] theorem w_sSetD {fd : DF} : sSetD n fd s = kSetD n (fd s) := by
  unfold sSetD
  cases fd s <;> rfl
@[simp] theorem w_kSetD {z : List (Key × D)} : kSetD n (some (z, s)) = if n < s.length then some (.next (s.set n (.dct z))) else none := (rfl)
def kGetD2 (n : Nat) (k : D) : Option (D × S) → Option (D × S)
  | some (d, s) => match keyD k, s[n]? with
    | some k, some (.dct xs) => some ((lookK xs k).getD d, s)
    | _, _ => none
  | none => none
def kGetD (n : Nat) (fd : EF) : Option (D × S) → Option (D × S)
  | some (k, s) => kGetD2 n k (fd s)
  | none => none
@[simp] theorem w_eGetD : eGetD n f g s = match s[n]? with
  | some (.dct _) => kGetD n g (f s)
  | _ => none := by
  unfold eGetD
  cases s[n]? with
  | none => rfl
  | some o => cases o <;> first | rfl | (simp only []; cases f s with
    | none => rfl
    | some p => obtain ⟨k, s1⟩ := p; show (g s1).bind _ = kGetD2 n k (g s1); cases g s1 <;> rfl)
@[simp] theorem w_kGetD {k : D} : kGetD n g (some (k, s)) = kGetD2 n k (g s) := (rfl)
@[simp] theorem w_kGetD2 {i : Int} : kGetD2 n (.int i) (some (d, s)) = match s[n]? with
  | some (.dct xs) => some ((lookK xs (.inl i)).getD d, s)
  | _ => none := by
  simp only [kGetD2, keyD]
  cases s[n]? with
  | none => rfl
  | some o => cases o <;> rfl
def kMnD (s : S) : Option Int → Option (D × S)
  | some m => some (.int m, s)
  | none => none
@[simp] theorem w_kMnD {m : Int} : kMnD s (some m) = some (.int m, s) := (rfl)
@[simp] theorem w_eMinD : eMinD n s = match s[n]? with
  | some (.dct xs) => kMnD s ((intKeys xs).bind leastI)
  | _ => none := by
  unfold eMinD
  cases s[n]? with
  | none => rfl
  | some o => cases o <;> first | rfl | (rename_i xs; simp only []; cases intKeys xs with
    | none => rfl
    | some is => simp only [Option.bind_some]; cases leastI is <;> rfl)
@[simp] theorem w_eMaxD : eMaxD n s = match s[n]? with
  | some (.dct xs) => kMnD s ((intKeys xs).bind greatI)
  | _ => none := by
  unfold eMaxD
  cases s[n]? with
  | none => rfl
  | some o => cases o <;> first | rfl | (rename_i xs; simp only []; cases intKeys xs with
    | none => rfl
    | some is => simp only [Option.bind_some]; cases greatI is <;> rfl)
def kEn : Option (List D × S) → Option (List D × S)
  | some ([.lst xs], s) => some (enumD xs, s)
  | some ([.tup xs], s) => some (enumD xs, s)
  | _ => none
@[simp] theorem w_iEnumD : iEnumD fa s = kEn (fa s) := by
  unfold iEnumD
  cases fa s with
  | none => rfl
  | some p =>
    obtain ⟨ds, s1⟩ := p
    rcases ds with _ | ⟨a, _ | ⟨b, r⟩⟩
    · rfl
    · cases a <;> rfl
    · cases a <;> rfl
@[simp] theorem w_kEnL {xs : List D} : kEn (some ([.lst xs], s)) = some (enumD xs, s) := (rfl)
@[simp] theorem w_kEnT {xs : List D} : kEn (some ([.tup xs], s)) = some (enumD xs, s) := (rfl)
end
end DL
set_option exponentiation.threshold 10000
/-! ### running: two names at once, what a comprehension leaves out -/
namespace DL
open PySem PySem.Spec PyProof.Rows L2
section
variable {s : S} {fao : AOF} {i j : Nat} {a b : Arg} {x : D} {xs : List D}
def kParA (i j : Nat) : Option (List Arg × S) → Option Fl
  | some (as, s) => par2 i j s as
  | none => none
@[simp] theorem w_sParA : sParA i j fao s = kParA i j (fao s) := by
  unfold sParA
  cases fao s <;> rfl
@[simp] theorem w_kParA {as : List Arg} : kParA i j (some (as, s)) = par2 i j s as := (rfl)
@[simp] theorem w_par2 : par2 i j s [a, b] = (argO a).bind fun x => (argO b).bind fun y => if i < s.length ∧ j < s.length then some (.next ((s.set i x).set j y)) else none := (rfl)
@[simp] theorem w_argV : argO (.val x) = some (.val x) := (rfl)
@[simp] theorem w_argN : argO (.new xs) = some (.lst xs) := (rfl)
end
theorem lcD_filtA {α : Type} {g : GF} {ft : BF} {fe : EF} {own : List Nat} {s : S} (f : α → D) (c : α → Bool) (e : α → D) : ∀ (l : List α) (acc : List D),
    (∀ a ∈ l, ∃ s1, g (f a) s = some s1 ∧ ft s1 = some (c a, s1) ∧ (c a = true → fe s1 = some (e a, s1)) ∧ wipeS s1 own = s) → acc.length + l.length ≤ cap →
    lcD g ft fe own (l.map f) s acc = some (acc ++ (l.filter c).map e, s)
  | [], acc, _, _ => by simp [lcD]
  | a :: l, acc, h, hl => by
    obtain ⟨s1, h1, h2, h3, h4⟩ := h a (by simp)
    have hl2 : acc.length + (l.length + 1) ≤ cap := hl
    cases hc : c a
    · rw [hc] at h2
      simp only [List.map_cons, lcD, h1, Option.bind_some, h2, Bool.false_eq_true, if_false, h4]
      rw [lcD_filtA f c e l acc (fun b hb => h b (by simp [hb])) (by omega), List.filter_cons_of_neg (by simp [hc])]
    · rw [hc] at h2
      simp only [List.map_cons, lcD, h1, Option.bind_some, h2, if_true, h3 hc, h4]
      rw [if_pos (by omega), lcD_filtA f c e l (acc ++ [e a]) (fun b hb => h b (by simp [hb])) (by simp; omega), List.filter_cons_of_pos hc]
      simp
theorem lcD_filt {α : Type} {g : GF} {ft : BF} {fe : EF} {own : List Nat} {s : S} (f : α → D) (c : α → Bool) (e : α → D) (l : List α)
    (h : ∀ a ∈ l, ∃ s1, g (f a) s = some s1 ∧ ft s1 = some (c a, s1) ∧ (c a = true → fe s1 = some (e a, s1)) ∧ wipeS s1 own = s) (hl : l.length ≤ cap) :
    lcD g ft fe own (l.map f) s [] = some ((l.filter c).map e, s) := by
  have := lcD_filtA f c e l [] h (by simpa using hl)
  simpa using this
end DL
namespace DL
open PySem PySem.Spec PyProof.Rows L2
@[simp] theorem v_gTupL {g : List D → S → Option S} {xs : List D} {s : S} : gTupL g (.lst xs) s = g xs s := (rfl)
end DL
namespace DL
open PySem PySem.Spec PyProof.Rows L2
section
variable {s : S} {fa : AF} {i : Nat} {a b : Addr} {tab : Tab} {m : List D → Option D}
def kTab (fa : AF) (s : S) : Option (List D → Option D) → Option (D × S)
  | some m => eCall m fa s
  | none => none
@[simp] theorem w_eCallV : eCallV i tab fa s = match s[i]? with
  | some (.val (.ref a)) => kTab fa s (tabGet tab a)
  | _ => none := by
  unfold eCallV
  cases s[i]? with
  | none => rfl
  | some o => cases o with
    | val d => cases d with
      | ref a => show (tabGet tab a).bind _ = kTab fa s (tabGet tab a); cases tabGet tab a <;> rfl
      | _ => rfl
    | _ => rfl
@[simp] theorem w_kTab : kTab fa s (some m) = eCall m fa s := (rfl)
@[simp] theorem tabGet_cons : tabGet ((b, m) :: tab) a = if a = b then some m else tabGet tab a := (rfl)
end
end DL
set_option exponentiation.threshold 10000
/-! ### running: chains of three comparisons, a list so many times -/
namespace DL
open PySem PySem.Spec PyProof.Rows L2
section
variable {s : S} {f g h k : EF} {op op' op2 : D → D → Option D} {d d' : D} {xs : List D} {fa : AF}
def kD3 (op' op2 : D → D → Option D) (h k : EF) (d' : D) (s : S) : Option D → Option (D × S)
  | some (.bl true) => kC2 op' op2 k d' (h s)
  | some (.bl false) => some (.bl false, s)
  | _ => none
def kD2 (op op' op2 : D → D → Option D) (h k : EF) (d : D) : Option (D × S) → Option (D × S)
  | some (d', s) => kD3 op' op2 h k d' s (op d d')
  | none => none
def kD1 (op op' op2 : D → D → Option D) (g h k : EF) : Option (D × S) → Option (D × S)
  | some (d, s) => kD2 op op' op2 h k d (g s)
  | none => none
@[simp] theorem w_kD3t : kD3 op' op2 h k d' s (some (.bl true)) = kC2 op' op2 k d' (h s) := (rfl)
@[simp] theorem w_kD3f : kD3 op' op2 h k d' s (some (.bl false)) = some (.bl false, s) := (rfl)
@[simp] theorem w_kD2 : kD2 op op' op2 h k d (some (d', s)) = kD3 op' op2 h k d' s (op d d') := (rfl)
@[simp] theorem w_kD1 : kD1 op op' op2 g h k (some (d, s)) = kD2 op op' op2 h k d (g s) := (rfl)
@[simp] theorem w_eChain3 : eChain3 op op' op2 f g h k s = kD1 op op' op2 g h k (f s) := by
  unfold eChain3
  cases f s with
  | none => rfl
  | some p =>
    obtain ⟨d, s1⟩ := p
    cases h1 : g s1 with
    | none => simp [h1, kD2]
    | some q =>
      obtain ⟨d', s2⟩ := q
      cases h2 : op d d' with
      | none => simp [h1, h2, kD3]
      | some z =>
        cases z with
        | bl b =>
          cases b with
          | false => simp [h1, h2]
          | true =>
            cases h3 : h s2 with
            | none => simp [h1, h2, h3, kC2]
            | some r =>
              obtain ⟨e, s3⟩ := r
              cases h4 : op' d' e with
              | none => simp [h1, h2, h3, h4, kC3]
              | some z2 =>
                cases z2 with
                | bl b2 =>
                  cases b2 with
                  | false => simp [h1, h2, h3, h4]
                  | true => cases h5 : k s3 with
                    | none => simp [h1, h2, h3, h4, h5, k2b]
                    | some t => cases h6 : op2 e t.1 <;> simp [h1, h2, h3, h4, h5, h6, k2b]
                | _ => simp [h1, h2, h3, h4, kC3]
        | _ => simp [h1, h2, kD3]
def kRep2 (xs : List D) : Option (D × S) → Option (List D × S)
  | some (.int k, s) => if -1000000 ≤ k ∧ k ≤ 1000000 ∧ xs.length * k.toNat ≤ cap then some ((List.replicate k.toNat xs).flatten, s) else none
  | _ => none
def kRep (g : EF) : Option (List D × S) → Option (List D × S)
  | some (xs, s) => kRep2 xs (g s)
  | none => none
@[simp] theorem w_kRep2 {k : Int} : kRep2 xs (some (.int k, s)) = if -1000000 ≤ k ∧ k ≤ 1000000 ∧ xs.length * k.toNat ≤ cap then some ((List.replicate k.toNat xs).flatten, s) else none := (rfl)
@[simp] theorem w_kRep : kRep g (some (xs, s)) = kRep2 xs (g s) := (rfl)
@[simp] theorem w_nRep : nRep fa g s = kRep g (fa s) := by
  unfold nRep
  cases fa s with
  | none => rfl
  | some p =>
    obtain ⟨xs, s1⟩ := p
    cases h1 : g s1 with
    | none => simp [h1, kRep2]
    | some q =>
      obtain ⟨d, s2⟩ := q
      cases d <;> simp [h1, kRep2]
end
end DL
set_option exponentiation.threshold 10000
/-! ### a law's own outer loop -/
namespace DL
open PySem PySem.Spec PyProof.Rows L2
theorem rng_law {L K c : Int} {f : EF} {s : S} (h : f s = some (.int (if K < L then K else L), s)) (hL : 0 ≤ L) (hK : 1 ≤ K) (hK2 : K ≤ 64) (hc : 1 ≤ c) (hc2 : c ≤ 10) :
    ∃ n : Nat, (∀ i : Nat, i < n → (i : Int) * c < K) ∧ DL.iRng3 (aCons (eC (.int 0)) (aCons (eCall bMax (aCons (eC (.int 1)) (aCons f (aNil)))) (aCons (eC (.int c)) (aNil)))) s = some (rangeC 0 c n, s) := by
  have lK : (if K < L then K else L) ≤ K := by split <;> omega
  generalize (if K < L then K else L) = m at lK h
  have b : bMax [.int 1, .int m] = some (.int (if m > 1 then m else 1)) := rfl
  have r1 : 1 ≤ (if m > 1 then m else 1) ∧ (if m > 1 then m else 1) ≤ K := by split <;> omega
  generalize (if m > 1 then m else 1) = r at r1 b
  refine ⟨((r - 0 - 1) / c + 1).toNat, fun i hi => ?_, ?_⟩
  · have h0 : 0 ≤ (r - 0 - 1) / c := Int.ediv_nonneg (by omega) (by omega)
    have h1 : (i : Int) ≤ (r - 0 - 1) / c := by omega
    have h2 := Int.mul_le_mul_of_nonneg_right h1 (by omega : 0 ≤ c)
    have h3 := Int.ediv_mul_le (r - 0 - 1) (by omega : c ≠ 0)
    omega
  · simp only [DL.iRng3, v_aCons, v_aNil, v_eC, v_eCall, h, Option.bind_some, Option.map_some, b]
    rw [if_pos ⟨by decide, by decide, by simp only [bigI]; omega, by simp only [bigI]; omega, by omega, by omega⟩, if_pos (by omega)]
theorem forD_rngC {g : GF} {fb : SF} {s : S} {c : Int} (n : Nat) (I : S → Prop) (h0 : I s)
    (h : ∀ i s, i < n → I s → ∃ s1 s2, g (.int ((i : Int) * c)) s = some s1 ∧ fb s1 = some (.next s2) ∧ I s2) :
    ∃ s', forD g fb (rangeC 0 c n) s = some (.next s') ∧ I s' := by
  obtain ⟨s', h1, h2⟩ := forD_map (g := g) (fb := fb) (s := s) (fun (k : Nat) => D.int (0 + (k : Int) * c)) (List.range n) (fun _ s => I s) h0 (fun i hi s hs => by
    rw [List.getElem_range, Int.zero_add]
    obtain ⟨s1, s2, a, b, d⟩ := h i s (by simpa using hi) hs
    exact ⟨s1, s2, a, .inl b, d⟩)
  exact ⟨s', h1, h2⟩
end DL
set_option exponentiation.threshold 10000
/-! ### taut rows: the funnel, plain -/
namespace Tt
/-- the line from (a, h) of slope s -/
def ln (a : Nat) (h s : Rat) (k : Nat) : Rat := h + s * ((k : Rat) - a)
theorem ln_here (a : Nat) (h s : Rat) : ln a h s a = h := by unfold ln; grind
theorem sub_pos' {a k : Nat} (h : a < k) : (0 : Rat) < (k : Rat) - a := by
  have : (a : Rat) < (k : Rat) := by exact_mod_cast h
  grind
theorem sub_nn {a k : Nat} (h : a ≤ k) : (0 : Rat) ≤ (k : Rat) - a := by
  have : (a : Rat) ≤ (k : Rat) := by exact_mod_cast h
  grind
theorem mul_lt_iff {x y z : Rat} (h : 0 < z) : x * z < y * z ↔ x < y := ⟨fun q => Rat.lt_of_mul_lt_mul_right q (Rat.le_of_lt h), fun q => Rat.mul_lt_mul_of_pos_right q h⟩
theorem ln_lt {a k : Nat} {h s t : Rat} (hk : a < k) : ln a h s k < ln a h t k ↔ s < t := by
  have := mul_lt_iff (x := s) (y := t) (sub_pos' hk)
  unfold ln
  generalize s * ((k : Rat) - a) = u at *
  generalize t * ((k : Rat) - a) = v at *
  grind
theorem ln_le {a k : Nat} {h s t : Rat} (hk : a < k) : ln a h s k ≤ ln a h t k ↔ s ≤ t := by
  have := ln_lt (a := a) (k := k) (h := h) (s := t) (t := s) hk
  grind
theorem ln_sl {a k : Nat} {h y : Rat} (hk : a < k) : ln a h ((y - h) / ((k : Rat) - a)) k = y := by
  have := sub_pos' hk
  unfold ln
  generalize (k : Rat) - a = d at *
  have : (y - h) / d * d = y - h := by grind
  grind
theorem ln_from {a q : Nat} {h s : Rat} (k : Nat) : ln q (ln a h s q) s k = ln a h s k := by unfold ln; grind
/-- what is known of a funnel from (a, h), places ahead of p looked at -/
structure Fun (lo hi : Nat → Rat) (a : Nat) (h : Rat) (p : Nat) (sM : Rat) (pM : Nat) (sL : Rat) (pL : Nat) : Prop where
  m1 : a < pM
  m2 : pM < p
  l1 : a < pL
  l2 : pL < p
  mh : hi pM = ln a h sM pM
  lh : lo pL = ln a h sL pL
  lm : sL ≤ sM
  low : ∀ k, a < k → k < p → lo k ≤ ln a h sL k
  high : ∀ k, a < k → k < p → ln a h sM k ≤ hi k
  mb : ∀ k, pM < k → k < p → ln a h sM k < hi k
  lb : ∀ k, pL < k → k < p → lo k < ln a h sL k
/-- where the taut row leaves its straight way -/
structure Tch (lo hi : Nat → Rat) (n a : Nat) (h s : Rat) (q : Nat) (hq : Rat) : Prop where
  q1 : a < q
  q2 : q < n
  at_ : hq = ln a h s q
  free : ∀ k, a < k → k ≤ q → lo k ≤ ln a h s k ∧ ln a h s k ≤ hi k
  kind : (hq = hi q ∧ ∃ c, q < c ∧ c < n ∧ ln a h s c < lo c ∧ ∀ k, q < k → k < c → ln a h s k < hi k) ∨
    (hq = lo q ∧ ∃ c, q < c ∧ c < n ∧ hi c < ln a h s c ∧ ∀ k, q < k → k < c → lo k < ln a h s k) ∨ (q + 1 = n ∧ hq = hi q)
section
variable {lo hi : Nat → Rat} {n a p q : Nat} {h s hq sM sL : Rat} {pM pL : Nat}
theorem Fun.mid (F : Fun lo hi a h p sM pM sL pL) (k : Nat) (h1 : a < k) (h2 : k < p) : lo k ≤ ln a h sM k ∧ ln a h sL k ≤ hi k := by
  have := (ln_le (h := h) (s := sL) (t := sM) h1).mpr F.lm
  have := F.low k h1 h2
  have := F.high k h1 h2
  grind
theorem Fun.up (F : Fun lo hi a h p sM pM sL pL) (hp : a < p) (hn : p < n) (c : sM < (lo p - h) / ((p : Rat) - a)) : Tch lo hi n a h sM pM (hi pM) where
  q1 := F.m1
  q2 := Nat.lt_trans F.m2 hn
  at_ := F.mh
  free := fun k h1 h2 => ⟨(F.mid k h1 (Nat.lt_of_le_of_lt h2 F.m2)).1, F.high k h1 (Nat.lt_of_le_of_lt h2 F.m2)⟩
  kind := .inl ⟨rfl, p, F.m2, hn, by
    have := (ln_lt (h := h) hp).mpr c
    rwa [ln_sl hp] at this, F.mb⟩
theorem Fun.down (F : Fun lo hi a h p sM pM sL pL) (hp : a < p) (hn : p < n) (c : (hi p - h) / ((p : Rat) - a) < sL) : Tch lo hi n a h sL pL (lo pL) where
  q1 := F.l1
  q2 := Nat.lt_trans F.l2 hn
  at_ := F.lh
  free := fun k h1 h2 => ⟨F.low k h1 (Nat.lt_of_le_of_lt h2 F.l2), (F.mid k h1 (Nat.lt_of_le_of_lt h2 F.l2)).2⟩
  kind := .inr (.inl ⟨rfl, p, F.l2, hn, by
    have := (ln_lt (h := h) hp).mpr c
    rwa [ln_sl hp] at this, F.lb⟩)
theorem Fun.end_ (F : Fun lo hi a h n sM pM sL pL) (ha : a + 1 < n) (tied : lo (n - 1) = hi (n - 1)) : Tch lo hi n a h sM pM (hi pM) := by
  have e : pM + 1 = n := by
    by_cases z : pM + 1 = n
    · exact z
    · have h1 := F.m2
      have h2 := F.mb (n - 1) (by omega) (by omega)
      have h3 := (F.mid (n - 1) (by omega) (by omega)).1
      grind
  exact ⟨F.m1, F.m2, F.mh, fun k h1 h2 => ⟨(F.mid k h1 (Nat.lt_of_le_of_lt h2 F.m2)).1, F.high k h1 (Nat.lt_of_le_of_lt h2 F.m2)⟩, .inr (.inr ⟨e, rfl⟩)⟩
theorem Fun.first (hn : lo (a + 1) ≤ hi (a + 1)) : Fun lo hi a h (a + 2) ((hi (a + 1) - h) / (((a + 1 : Nat) : Rat) - a)) (a + 1) ((lo (a + 1) - h) / (((a + 1 : Nat) : Rat) - a)) (a + 1) := by
  have l : a < a + 1 := Nat.lt_succ_self a
  refine ⟨l, Nat.lt_succ_self _, l, Nat.lt_succ_self _, (ln_sl l).symm, (ln_sl l).symm, ?_, fun k h1 h2 => ?_, fun k h1 h2 => ?_, fun k h1 h2 => by omega, fun k h1 h2 => by omega⟩
  · rw [← ln_le (h := h) l, ln_sl l, ln_sl l]; exact hn
  · obtain rfl : k = a + 1 := by omega
    rw [ln_sl l]; exact Rat.le_refl
  · obtain rfl : k = a + 1 := by omega
    rw [ln_sl l]; exact Rat.le_refl
theorem Fun.next (F : Fun lo hi a h p sM pM sL pL) (hp : a < p) (hn : lo p ≤ hi p) {x y : Rat} (ex : x = (lo p - h) / ((p : Rat) - a)) (ey : y = (hi p - h) / ((p : Rat) - a)) (c1 : ¬ sM < x) (c2 : ¬ y < sL) :
    Fun lo hi a h (p + 1) (if sM < y then sM else y) (if sM < y then pM else p) (if x < sL then sL else x) (if x < sL then pL else p) := by
  have hx : ln a h x p = lo p := by rw [ex, ln_sl hp]
  have hy : ln a h y p = hi p := by rw [ey, ln_sl hp]
  have xy : x ≤ y := by rw [← ln_le (h := h) hp, hx, hy]; exact hn
  have A := F.m1
  have B := F.m2
  have C := F.l1
  have D := F.l2
  refine ⟨by split <;> omega, by split <;> omega, by split <;> omega, by split <;> omega, ?_, ?_, ?_, ?_, ?_, ?_, ?_⟩
  · split
    · exact F.mh
    · exact hy.symm
  · split
    · exact F.lh
    · exact hx.symm
  · have := F.lm
    split <;> split <;> grind
  · intro k h1 h2
    by_cases hk : k = p
    · subst hk
      split
      · rename_i z
        have := (ln_lt (h := h) hp).mpr z
        grind
      · rw [hx]; exact Rat.le_refl
    · have l := F.low k h1 (by omega)
      split
      · exact l
      · rename_i z
        have := (ln_le (h := h) (s := sL) (t := x) h1).mpr (by grind)
        grind
  · intro k h1 h2
    by_cases hk : k = p
    · subst hk
      split
      · rename_i z
        have := (ln_lt (h := h) hp).mpr z
        grind
      · rw [hy]; exact Rat.le_refl
    · have l := F.high k h1 (by omega)
      split
      · exact l
      · rename_i z
        have := (ln_le (h := h) (s := y) (t := sM) h1).mpr (by grind)
        grind
  · intro k h1 h2
    split at h1
    · rename_i z
      rw [if_pos z]
      by_cases hk : k = p
      · subst hk
        have := (ln_lt (h := h) hp).mpr z
        grind
      · exact F.mb k h1 (by omega)
    · omega
  · intro k h1 h2
    split at h1
    · rename_i z
      rw [if_pos z]
      by_cases hk : k = p
      · subst hk
        have := (ln_lt (h := h) hp).mpr z
        grind
      · exact F.lb k h1 (by omega)
    · omega
/-- behind a touch at a high the way goes steeper up, at a low steeper down -/
theorem Tch.bend (ok : ∀ k, k < n → lo k ≤ hi k) (T : Tch lo hi n a h s q hq) {s' : Rat} {q' : Nat} {hq' : Rat} (T' : Tch lo hi n q hq s' q' hq') : (s < s' ∧ hq = hi q) ∨ (s' < s ∧ hq = lo q) := by
  have e := T.at_
  have ln1 : ∀ k, ln a h s k = ln q hq s k := fun k => by rw [e, ln_from]
  rcases T.kind with ⟨k1, c, c1, c2, c3, c4⟩ | ⟨k1, c, c1, c2, c3, c4⟩ | ⟨k1, _⟩
  · refine .inl ⟨?_, k1⟩
    by_cases z : s < s'
    · exact z
    have le : ∀ k, q < k → ln q hq s' k ≤ ln a h s k := fun k hk => by rw [ln1, ln_le hk]; grind
    exfalso
    rcases Nat.lt_or_ge q' c with hc | hc
    · rcases T'.kind with ⟨d1, _⟩ | ⟨d1, d, e1, e2, e3, e4⟩ | ⟨d1, _⟩
      · have h1 := c4 q' T'.q1 hc
        have h2 := le q' T'.q1
        have h3 := T'.at_
        grind
      · have l1 := T'.q1
        rcases Nat.lt_trichotomy d c with hd | hd | hd
        · have h1 := c4 d (by omega) hd
          have h2 := le d (by omega)
          grind
        · subst hd
          have h2 := le d (by omega)
          have h3 := ok d (by omega)
          grind
        · have h1 := e4 c hc hd
          have h2 := le c (by omega)
          grind
      · omega
    · have h1 := (T'.free c c1 hc).1
      have h2 := le c c1
      grind
  · refine .inr ⟨?_, k1⟩
    by_cases z : s' < s
    · exact z
    have le : ∀ k, q < k → ln a h s k ≤ ln q hq s' k := fun k hk => by rw [ln1, ln_le hk]; grind
    exfalso
    rcases Nat.lt_or_ge q' c with hc | hc
    · rcases T'.kind with ⟨d1, d, e1, e2, e3, e4⟩ | ⟨d1, _⟩ | ⟨d1, _⟩
      · have l1 := T'.q1
        rcases Nat.lt_trichotomy d c with hd | hd | hd
        · have h1 := c4 d (by omega) hd
          have h2 := le d (by omega)
          grind
        · subst hd
          have h2 := le d (by omega)
          have h3 := ok d (by omega)
          grind
        · have h1 := e4 c hc hd
          have h2 := le c (by omega)
          grind
      · have h1 := c4 q' T'.q1 hc
        have h2 := le q' T'.q1
        have h3 := T'.at_
        grind
      · omega
    · have h1 := (T'.free c c1 hc).2
      have h2 := le c c1
      grind
  · exact absurd T'.q1 (by have := T'.q2; omega)
end
/-- places told from the last touch on -/
def seg (h s : Rat) (j : Nat) : List Rat := (List.range j).map fun (i : Nat) => h + s * ((i : Rat) + 1)
theorem seg_len {h s : Rat} {j : Nat} : (seg h s j).length = j := by simp [seg]
abbrev at0 (R : List Rat) (k : Nat) : Rat := R.getD k 0
theorem at0_left {R l : List Rat} {k : Nat} (h : k < R.length) : at0 (R ++ l) k = at0 R k := by
  simp [at0, List.getD_eq_getElem?_getD, List.getElem?_append_left h]
theorem at0_seg {R : List Rat} {s : Rat} {j k : Nat} (h0 : 0 < R.length) (h1 : R.length - 1 ≤ k) (h2 : k < R.length + j) : at0 (R ++ seg (at0 R (R.length - 1)) s j) k = ln (R.length - 1) (at0 R (R.length - 1)) s k := by
  by_cases h : k < R.length
  · rw [at0_left h]
    have : k = R.length - 1 := by omega
    rw [this, ln_here]
  · have hk : (seg (at0 R (R.length - 1)) s j)[k - R.length]? = some (at0 R (R.length - 1) + s * (((k - R.length : Nat) : Rat) + 1)) := by
      simp [seg, List.getElem?_map, List.getElem?_range (show k - R.length < j by omega)]
    rw [at0, List.getD_eq_getElem?_getD, List.getElem?_append_right (by omega), hk]
    simp only [Option.getD_some, ln]
    have e : ((k - R.length : Nat) : Rat) + 1 = (k : Rat) - ((R.length - 1 : Nat) : Rat) := by
      have e1 : (k : Rat) = ((k - R.length : Nat) : Rat) + (R.length : Rat) := by
        rw [← Rat.natCast_add]; congr 1; omega
      have e2 : (R.length : Rat) = ((R.length - 1 : Nat) : Rat) + 1 := by
        rw [show (1 : Rat) = ((1 : Nat) : Rat) from rfl, ← Rat.natCast_add]; congr 1; omega
      grind
    rw [e]
structure Pre (lo hi : Nat → Rat) (n : Nat) (R : List Rat) : Prop where
  ne : 0 < R.length
  len : R.length ≤ n
  within : ∀ k, k < R.length → lo k ≤ at0 R k ∧ at0 R k ≤ hi k
  bends : ∀ k, 0 < k → k + 1 < R.length → (at0 R k - at0 R (k - 1) < at0 R (k + 1) - at0 R k → at0 R k = hi k) ∧ (at0 R (k + 1) - at0 R k < at0 R k - at0 R (k - 1) → at0 R k = lo k)
  last : R.length = 1 ∨ ∃ a h s, Tch lo hi n a h s (R.length - 1) (at0 R (R.length - 1)) ∧ 1 < R.length ∧ at0 R (R.length - 1) - at0 R (R.length - 2) = s
theorem ln_succ (a : Nat) (h s : Rat) (k : Nat) : ln a h s (k + 1) = ln a h s k + s := by
  unfold ln
  rw [Rat.natCast_add]
  have : ((1 : Nat) : Rat) = 1 := rfl
  grind
theorem Pre.step {lo hi : Nat → Rat} {n : Nat} {R : List Rat} (ok : ∀ k, k < n → lo k ≤ hi k) (P : Pre lo hi n R) {s hq : Rat} {q : Nat} (T : Tch lo hi n (R.length - 1) (at0 R (R.length - 1)) s q hq) :
    Pre lo hi n (R ++ seg (at0 R (R.length - 1)) s (q - (R.length - 1))) := by
  have h0 := P.ne
  have q1 := T.q1
  have q2 := T.q2
  have len : (R ++ seg (at0 R (R.length - 1)) s (q - (R.length - 1))).length = q + 1 := by
    rw [List.length_append, seg_len]; omega
  have sg : ∀ k, R.length - 1 ≤ k → k ≤ q → at0 (R ++ seg (at0 R (R.length - 1)) s (q - (R.length - 1))) k = ln (R.length - 1) (at0 R (R.length - 1)) s k := fun k h1 h2 => at0_seg h0 h1 (by omega)
  have lf : ∀ k, k < R.length → at0 (R ++ seg (at0 R (R.length - 1)) s (q - (R.length - 1))) k = at0 R k := fun k h => at0_left h
  generalize hR : R ++ seg (at0 R (R.length - 1)) s (q - (R.length - 1)) = R' at *
  refine ⟨by omega, by omega, fun k hk => ?_, fun k h1 h2 => ?_, .inr ⟨R.length - 1, at0 R (R.length - 1), s, ?_⟩⟩
  · by_cases h : k < R.length
    · rw [lf k h]; exact P.within k h
    · rw [sg k (by omega) (by omega)]; exact T.free k (by omega) (by omega)
  · rw [len] at h2
    by_cases h : k + 1 < R.length
    · rw [lf k (by omega), lf (k + 1) h, lf (k - 1) (by omega)]
      exact P.bends k h1 h
    · by_cases h' : k = R.length - 1
      · have e1 : at0 R' (k + 1) - at0 R' k = s := by
          rw [sg (k + 1) (by omega) (by omega), sg k (by omega) (by omega), ln_succ]; grind
        have e2 : at0 R' (k - 1) = at0 R (R.length - 2) := by rw [lf (k - 1) (by omega)]; congr 1; omega
        have e3 : at0 R' k = at0 R (R.length - 1) := by rw [lf k (by omega), h']
        rw [e1, e2, e3]
        rcases P.last with z | ⟨a, h3, s3, T3, _, e4⟩
        · omega
        · rw [e4]
          have := T3.bend ok T
          rw [h']
          grind
      · have e1 : at0 R' (k + 1) - at0 R' k = s := by
          rw [sg (k + 1) (by omega) (by omega), sg k (by omega) (by omega), ln_succ]; grind
        have e2 : at0 R' k - at0 R' (k - 1) = s := by
          have := ln_succ (R.length - 1) (at0 R (R.length - 1)) s (k - 1)
          rw [show k - 1 + 1 = k by omega] at this
          rw [sg k (by omega) (by omega), sg (k - 1) (by omega) (by omega), this]; grind
        rw [e1, e2]
        grind
  · rw [len]
    have e0 : at0 R' (q + 1 - 1) = hq := by rw [Nat.add_sub_cancel, sg q (by omega) (by omega), ← T.at_]
    refine ⟨by rw [e0]; exact T, by omega, ?_⟩
    have := ln_succ (R.length - 1) (at0 R (R.length - 1)) s (q - 1)
    rw [show q - 1 + 1 = q by omega] at this
    rw [Nat.add_sub_cancel, show q + 1 - 2 = q - 1 by omega, sg q (by omega) (by omega), sg (q - 1) (by omega) (by omega), this]
    grind
/-- a row that is within the bounds and bends rightly -/
structure Taut (lo hi r : Nat → Rat) (n : Nat) : Prop where
  within : ∀ k, k < n → lo k ≤ r k ∧ r k ≤ hi k
  up : ∀ k, 0 < k → k + 1 < n → r k - r (k - 1) < r (k + 1) - r k → r k = hi k
  down : ∀ k, 0 < k → k + 1 < n → r (k + 1) - r k < r k - r (k - 1) → r k = lo k
theorem Pre.taut {lo hi : Nat → Rat} {n : Nat} {R : List Rat} (P : Pre lo hi n R) (h : R.length = n) : Taut lo hi (at0 R) n :=
  ⟨fun k hk => P.within k (by omega), fun k h1 h2 => (P.bends k h1 (by omega)).1, fun k h1 h2 => (P.bends k h1 (by omega)).2⟩
/-- greater bounds, no lower row -/
theorem Taut.le {lo hi lo' hi' r r' : Nat → Rat} {n : Nat} (T : Taut lo hi r n) (T' : Taut lo' hi' r' n) (hl : ∀ k, k < n → lo k ≤ lo' k) (hh : ∀ k, k < n → hi k ≤ hi' k) (h0 : r 0 ≤ r' 0) (h1 : r (n - 1) ≤ r' (n - 1)) : ∀ k, k < n → r k ≤ r' k := by
  have conv : ∀ k, 0 < k → k + 1 < n → r' k < r k → r k - r (k - 1) - (r' k - r' (k - 1)) ≤ r (k + 1) - r k - (r' (k + 1) - r' k) := fun k k1 k2 z => by
    have a1 := T.down k k1 k2
    have a2 := T'.up k k1 k2
    have a3 := T.within k (by omega)
    have a4 := T'.within k (by omega)
    have a5 := hl k (by omega)
    have a6 := hh k (by omega)
    grind
  have grow : ∀ j k, 0 < k → k + j < n → r' k < r k → 0 < r k - r (k - 1) - (r' k - r' (k - 1)) → r' (k + j) < r (k + j) ∧ 0 < r (k + j) - r (k + j - 1) - (r' (k + j) - r' (k + j - 1)) := fun j => by
    induction j with
    | zero => intro k k1 k2 z w; exact ⟨z, w⟩
    | succ j ih =>
      intro k k1 k2 z w
      obtain ⟨i1, i2⟩ := ih k k1 (by omega) z w
      have c := conv (k + j) (by omega) (by omega) i1
      have e : k + (j + 1) - 1 = k + j := by omega
      rw [e]
      have e2 : k + (j + 1) = k + j + 1 := by omega
      rw [e2]
      grind
  intro k
  induction k with
  | zero => intro _; exact h0
  | succ k ih =>
    intro hk
    have i := ih (by omega)
    by_cases z : r (k + 1) ≤ r' (k + 1)
    · exact z
    · exfalso
      have := grow (n - 1 - (k + 1)) (k + 1) (by omega) (by omega) (by grind) (by rw [Nat.add_sub_cancel]; grind)
      rw [show k + 1 + (n - 1 - (k + 1)) = n - 1 by omega] at this
      grind
theorem Taut.uniq {lo hi r r' : Nat → Rat} {n : Nat} (T : Taut lo hi r n) (T' : Taut lo hi r' n) (h0 : r 0 = r' 0) (h1 : r (n - 1) = r' (n - 1)) : ∀ k, k < n → r k = r' k := fun k hk => by
  have a := T.le T' (fun _ _ => Rat.le_refl) (fun _ _ => Rat.le_refl) (by grind) (by grind) k hk
  have b := T'.le T (fun _ _ => Rat.le_refl) (fun _ _ => Rat.le_refl) (by grind) (by grind) k hk
  grind
/-! ### what is least -/
def sumN (f : Nat → Rat) : Nat → Rat
  | 0 => 0
  | m + 1 => sumN f m + f m
theorem sumN_le {f g : Nat → Rat} : ∀ {m : Nat}, (∀ k, k < m → f k ≤ g k) → sumN f m ≤ sumN g m
  | 0, _ => Rat.le_refl
  | m + 1, h => by
    have := sumN_le (m := m) fun k hk => h k (by omega)
    have := h m (by omega)
    simp only [sumN]
    grind
theorem sumN_add {f g : Nat → Rat} : ∀ m : Nat, sumN (fun k => f k + g k) m = sumN f m + sumN g m
  | 0 => by simp only [sumN]; grind
  | m + 1 => by simp only [sumN, sumN_add m]; grind
theorem sumN_nn {f : Nat → Rat} : ∀ {m : Nat}, (∀ k, k < m → 0 ≤ f k) → 0 ≤ sumN f m
  | 0, _ => Rat.le_refl
  | m + 1, h => by
    have := sumN_nn (m := m) fun k hk => h k (by omega)
    have := h m (by omega)
    simp only [sumN]
    grind
theorem sumN_pos {f : Nat → Rat} : ∀ {m : Nat}, (∀ k, k < m → 0 ≤ f k) → ∀ j, j < m → 0 < f j → 0 < sumN f m
  | 0, _, _, h, _ => absurd h (Nat.not_lt_zero _)
  | m + 1, h, j, hj, hp => by
    have h1 := sumN_nn (m := m) fun k hk => h k (by omega)
    have h2 := h m (by omega)
    simp only [sumN]
    by_cases z : j = m
    · subst z; grind
    · have := sumN_pos (m := m) (fun k hk => h k (by omega)) j (by omega) hp
      grind
theorem tri (a b : Rat) : a < b ∨ a = b ∨ b < a := by grind
theorem mul_nn {a b : Rat} (ha : 0 ≤ a) (hb : 0 ≤ b) : 0 ≤ a * b := Rat.mul_nonneg ha hb
theorem mul_pp {a b : Rat} (ha : a ≤ 0) (hb : b ≤ 0) : 0 ≤ a * b := by
  have := Rat.mul_nonneg (a := -a) (b := -b) (by grind) (by grind)
  grind
/-- by parts: slopes of a measure along the taut row, times how another row differs -/
theorem Taut.parts {lo hi r x : Nat → Rat} {n : Nat} {g : Rat → Rat} (T : Taut lo hi r n) (hx : ∀ k, k < n → lo k ≤ x k ∧ x k ≤ hi k) (gm : ∀ s t, s ≤ t → g s ≤ g t) (b0 : 1 < n → g (r 1 - r 0) * (x 0 - r 0) ≤ 0) :
    ∀ m, m + 1 < n → g (r (m + 1) - r m) * (x (m + 1) - r (m + 1)) ≤ sumN (fun k => g (r (k + 1) - r k) * ((x (k + 1) - x k) - (r (k + 1) - r k))) (m + 1)
  | 0, h => by
    have := b0 (by omega)
    simp only [sumN, Nat.zero_add]
    generalize g (r 1 - r 0) = G at *
    grind
  | m + 1, h => by
    have ih := Taut.parts T hx gm b0 m (by omega)
    have u := T.up (m + 1) (by omega) h
    have d := T.down (m + 1) (by omega) h
    rw [Nat.add_sub_cancel] at u d
    have w := hx (m + 1) (by omega)
    rw [sumN]
    generalize sumN (fun k => g (r (k + 1) - r k) * ((x (k + 1) - x k) - (r (k + 1) - r k))) (m + 1) = Sm at *
    have e : g (r (m + 1 + 1) - r (m + 1)) * (x (m + 1 + 1) - r (m + 1 + 1)) = g (r (m + 1 + 1) - r (m + 1)) * (x (m + 1 + 1) - x (m + 1) - (r (m + 1 + 1) - r (m + 1))) + g (r (m + 1 + 1) - r (m + 1)) * (x (m + 1) - r (m + 1)) := by grind
    have key : g (r (m + 1 + 1) - r (m + 1)) * (x (m + 1) - r (m + 1)) ≤ g (r (m + 1) - r m) * (x (m + 1) - r (m + 1)) := by
      have e3 : (g (r (m + 1) - r m) - g (r (m + 1 + 1) - r (m + 1))) * (x (m + 1) - r (m + 1)) = g (r (m + 1) - r m) * (x (m + 1) - r (m + 1)) - g (r (m + 1 + 1) - r (m + 1)) * (x (m + 1) - r (m + 1)) := by grind
      have p : 0 ≤ (g (r (m + 1) - r m) - g (r (m + 1 + 1) - r (m + 1))) * (x (m + 1) - r (m + 1)) := by
        rcases tri (r (m + 1) - r m) (r (m + 1 + 1) - r (m + 1)) with z | z | z
        · have := gm _ _ (Rat.le_of_lt z)
          have := u z
          exact mul_pp (by grind) (by grind)
        · rw [z]; grind
        · have := gm _ _ (Rat.le_of_lt z)
          have := d z
          exact mul_nn (by grind) (by grind)
      grind
    grind
theorem Taut.least {lo hi r x : Nat → Rat} {m : Nat} {g : Rat → Rat} (T : Taut lo hi r (m + 2)) (hx : ∀ k, k < m + 2 → lo k ≤ x k ∧ x k ≤ hi k) (gm : ∀ s t, s ≤ t → g s ≤ g t) (b0 : g (r 1 - r 0) * (x 0 - r 0) ≤ 0) (b1 : 0 ≤ g (r (m + 1) - r m) * (x (m + 1) - r (m + 1))) :
    0 ≤ sumN (fun k => g (r (k + 1) - r k) * ((x (k + 1) - x k) - (r (k + 1) - r k))) (m + 1) := by
  have := Taut.parts T hx gm (fun _ => b0) m (by omega)
  grind
/-- no row has less worth by a measure -/
theorem Taut.worth {lo hi r x : Nat → Rat} {m : Nat} {φ g : Rat → Rat} (T : Taut lo hi r (m + 2)) (hx : ∀ k, k < m + 2 → lo k ≤ x k ∧ x k ≤ hi k) (gm : ∀ s t, s ≤ t → g s ≤ g t) (sub : ∀ s t, φ s + g s * (t - s) ≤ φ t) (b0 : g (r 1 - r 0) * (x 0 - r 0) ≤ 0) (b1 : 0 ≤ g (r (m + 1) - r m) * (x (m + 1) - r (m + 1))) :
    sumN (fun k => φ (r (k + 1) - r k)) (m + 1) ≤ sumN (fun k => φ (x (k + 1) - x k)) (m + 1) := by
  have h := Taut.least T hx gm b0 b1
  have h2 : sumN (fun k => φ (r (k + 1) - r k) + g (r (k + 1) - r k) * ((x (k + 1) - x k) - (r (k + 1) - r k))) (m + 1) ≤ sumN (fun k => φ (x (k + 1) - x k)) (m + 1) := sumN_le fun k _ => sub _ _
  rw [sumN_add] at h2
  grind
/-- its squares are less than another row's -/
theorem Taut.squares {lo hi r x : Nat → Rat} {m : Nat} (T : Taut lo hi r (m + 2)) (hx : ∀ k, k < m + 2 → lo k ≤ x k ∧ x k ≤ hi k) (b0 : (r 1 - r 0) * (x 0 - r 0) ≤ 0) (b1 : 0 ≤ (r (m + 1) - r m) * (x (m + 1) - r (m + 1))) :
    sumN (fun k => (r (k + 1) - r k) * (r (k + 1) - r k)) (m + 1) + sumN (fun k => ((x (k + 1) - x k) - (r (k + 1) - r k)) * ((x (k + 1) - x k) - (r (k + 1) - r k))) (m + 1) ≤ sumN (fun k => (x (k + 1) - x k) * (x (k + 1) - x k)) (m + 1) := by
  have h := Taut.least (g := fun s => s) T hx (fun s t z => z) b0 b1
  have e : sumN (fun k => (x (k + 1) - x k) * (x (k + 1) - x k)) (m + 1) = sumN (fun k => (r (k + 1) - r k) * (r (k + 1) - r k)) (m + 1) + sumN (fun k => ((x (k + 1) - x k) - (r (k + 1) - r k)) * ((x (k + 1) - x k) - (r (k + 1) - r k))) (m + 1) + (sumN (fun k => (r (k + 1) - r k) * ((x (k + 1) - x k) - (r (k + 1) - r k))) (m + 1) + sumN (fun k => (r (k + 1) - r k) * ((x (k + 1) - x k) - (r (k + 1) - r k))) (m + 1)) := by
    rw [← sumN_add, ← sumN_add, ← sumN_add]
    congr 1
    funext k
    grind
  grind
end Tt
set_option exponentiation.threshold 10000
/-! ### == of things that stand for things -/
namespace DL
open PySem PySem.Spec PyProof.Rows L2
mutual
theorem okD_mono : ∀ {n m : Nat} {d : D}, n ≤ m → okD n d = true → okD m d = true
  | n, m, .non, _, _ => by cases m <;> rfl
  | n, m, .bl _, _, _ => by cases m <;> rfl
  | n, m, .int _, _, _ => by cases m <;> rfl
  | n, m, .str _, _, h => by cases n <;> cases m <;> exact h
  | 0, m, .tup _, _, h => nomatch h
  | 0, m, .lst _, _, h => nomatch h
  | n + 1, 0, .tup _, l, _ => absurd l (by omega)
  | n + 1, 0, .lst _, l, _ => absurd l (by omega)
  | n + 1, m + 1, .tup xs, l, h => okL_mono (Nat.le_of_succ_le_succ l) h
  | n + 1, m + 1, .lst xs, l, h => okL_mono (Nat.le_of_succ_le_succ l) h
  | n, m, .ref _, _, h => by cases n <;> exact nomatch h
theorem okL_mono : ∀ {n m : Nat} {ds : List D}, n ≤ m → okL n ds = true → okL m ds = true
  | _, _, [], _, _ => by simp [okL]
  | n, m, x :: xs, l, h => by
    rw [okL, Bool.and_eq_true_iff] at h ⊢
    exact ⟨okD_mono l h.1, okL_mono l h.2⟩
end
mutual
theorem eqD_self : ∀ (n : Nat) (d : D), okD n d = true → PyData.eqv (toPy d) (toPy d) = true
  | _, .non, _ => rfl
  | _, .bl b, _ => by simp [toPy, PyData.eqv]
  | _, .int i, _ => by simp [toPy, PyData.eqv]
  | n, .str x, h => by simp [toPy, PyData.eqv]
  | 0, .tup xs, h => nomatch h
  | 0, .lst xs, h => nomatch h
  | n + 1, .tup xs, h => by simpa [toPy, PyData.eqv] using eqL_self n xs h
  | n + 1, .lst xs, h => by simpa [toPy, PyData.eqv] using eqL_self n xs h
  | n, .ref a, h => by cases n <;> exact nomatch h
theorem eqL_self : ∀ (n : Nat) (ds : List D), okL n ds = true → PyData.eqvAll (toPyL ds) (toPyL ds) = true
  | _, [], _ => rfl
  | n, x :: xs, h => by
    obtain ⟨h1, h2⟩ := Bool.and_eq_true_iff.mp h
    simp [toPyL, PyData.eqvAll, eqD_self n x h1, eqL_self n xs h2]
end
theorem eqD_refl {n : Nat} {d : D} (h : okD n d = true) : eqD d d = true := eqD_self n d h
theorem dEq_self {d : D} (h : okD 60 d = true) : dEq d d = some (.bl true) := by simp [dEq, h, eqD_refl h]
theorem dNe_self {d : D} (h : okD 60 d = true) : dNe d d = some (.bl false) := by simp [dNe, h, eqD_refl h]
structure Eqn {α : Type} [DecidableEq α] (n : Nat) (e : α → D) : Prop where
  ok : ∀ a, okD n (e a) = true
  eq : ∀ a b, eqD (e a) (e b) = decide (a = b)
section
variable {α β γ : Type} [DecidableEq α] [DecidableEq β] [DecidableEq γ] {n m : Nat} {e : α → D} {f : β → D} {g : γ → D}
theorem Eqn.mono (h : Eqn n e) (l : n ≤ m) : Eqn m e := ⟨fun a => okD_mono l (h.ok a), h.eq⟩
theorem Eqn.dEq (h : Eqn n e) (l : n ≤ 60) (a b : α) : DL.dEq (e a) (e b) = some (.bl (decide (a = b))) := by
  have h := h.mono l
  simp only [DL.dEq, h.ok, and_self, if_true, h.eq]
theorem Eqn.dNe (h : Eqn n e) (l : n ≤ 60) (a b : α) : DL.dNe (e a) (e b) = some (.bl (decide (a ≠ b))) := by
  have h := h.mono l
  simp only [DL.dNe, h.ok, and_self, if_true, h.eq, ne_eq, decide_not]
theorem Eqn.int : Eqn 0 D.int := ⟨fun _ => rfl, fun a b => by simp [eqD, toPy]; rfl⟩
theorem Eqn.num : Eqn 1 numD := ⟨fun _ => ok_numD, fun _ _ => eqD_numD⟩
theorem Eqn.nat : Eqn 0 (fun k : Nat => D.int (k : Int)) := ⟨fun _ => rfl, fun a b => by
  rw [Eqn.int.eq, decide_eq_decide]
  omega⟩
theorem Eqn.pair (h : Eqn n e) (h' : Eqn n f) : Eqn (n + 1) (fun p : α × β => D.tup [e p.1, f p.2]) := by
  refine ⟨fun a => by simp [okD, okL, h.ok, h'.ok], fun a b => ?_⟩
  have h1 := h.eq a.1 b.1
  have h2 := h'.eq a.2 b.2
  unfold eqD at h1 h2 ⊢
  simp only [toPy, toPyL, PyData.eqv, PyData.eqvAll, h1, h2, Bool.and_true]
  rw [Bool.eq_iff_iff]
  simp [Prod.ext_iff]
theorem Eqn.three (h : Eqn n e) (h' : Eqn n f) (h'' : Eqn n g) : Eqn (n + 1) (fun p : α × β × γ => D.tup [e p.1, f p.2.1, g p.2.2]) := by
  refine ⟨fun a => by simp [okD, okL, h.ok, h'.ok, h''.ok], fun a b => ?_⟩
  have h1 := h.eq a.1 b.1
  have h2 := h'.eq a.2.1 b.2.1
  have h3 := h''.eq a.2.2 b.2.2
  unfold eqD at h1 h2 h3 ⊢
  simp only [toPy, toPyL, PyData.eqv, PyData.eqvAll, h1, h2, h3, Bool.and_true]
  rw [Bool.eq_iff_iff]
  simp [Prod.ext_iff]
theorem Eqn.all (h : Eqn n e) : ∀ a b : List α, PyData.eqvAll (toPyL (a.map e)) (toPyL (b.map e)) = decide (a = b)
  | [], [] => rfl
  | [], _ :: _ => rfl
  | _ :: _, [] => rfl
  | x :: a, y :: b => by
    have h1 := h.eq x y
    unfold eqD at h1
    simp only [List.map_cons, toPyL, PyData.eqvAll, h1, Eqn.all h a b]
    rw [Bool.eq_iff_iff]
    simp
theorem Eqn.okL (h : Eqn n e) : ∀ a : List α, DL.okL n (a.map e) = true
  | [] => by simp [DL.okL]
  | x :: a => by simp [DL.okL, h.ok, Eqn.okL h a]
theorem Eqn.tup (h : Eqn n e) : Eqn (n + 1) (fun l : List α => D.tup (l.map e)) :=
  ⟨fun a => by simp only [okD, h.okL], fun a b => by simp only [eqD, toPy, PyData.eqv, h.all]⟩
theorem Eqn.lst (h : Eqn n e) : Eqn (n + 1) (fun l : List α => D.lst (l.map e)) :=
  ⟨fun a => by simp only [okD, h.okL], fun a b => by simp only [eqD, toPy, PyData.eqv, h.all]⟩
end
theorem Eqn.row : Eqn 2 (fun R : List Rat => D.tup (R.map numD)) := Eqn.num.tup
end DL
set_option exponentiation.threshold 10000
/-! ### numbers over one bottom, not too great -/
namespace DL
open PySem PySem.Spec PyProof.Rows L2
/-- so many times it is a whole number; at most M either way -/
def Gr (N M : Nat) (q : Rat) : Prop := (∃ z : Int, q * (N : Rat) = (z : Rat)) ∧ -(M : Rat) ≤ q ∧ q ≤ (M : Rat)
theorem natR_pos {N : Nat} (h : 0 < N) : (0 : Rat) < (N : Rat) := by exact_mod_cast h
theorem natR_nn (N : Nat) : (0 : Rat) ≤ (N : Rat) := by
  have : 0 ≤ N := Nat.zero_le N
  exact_mod_cast this
theorem natR_add (a b : Nat) : ((a + b : Nat) : Rat) = (a : Rat) + (b : Rat) := Rat.natCast_add a b
theorem natR_mul (a b : Nat) : ((a * b : Nat) : Rat) = (a : Rat) * (b : Rat) := Rat.natCast_mul a b
theorem natR_le {a b : Nat} (h : a ≤ b) : (a : Rat) ≤ (b : Rat) := by exact_mod_cast h
theorem q_den (q : Rat) : q * (q.den : Rat) = (q.num : Rat) := by
  have h1 : q = Rat.divInt q.num q.den := (Rat.num_divInt_den q).symm
  rw [Rat.divInt_eq_div] at h1
  have h2 : (((q.den : Nat) : Int) : Rat) = (q.den : Rat) := rfl
  have h3 : (q.den : Rat) ≠ 0 := by
    have := natR_pos q.den_pos
    grind
  rw [h2] at h1
  generalize (q.num : Rat) = n at *
  generalize (q.den : Rat) = d at *
  subst h1
  grind
theorem Gr.den {N M : Nat} {q : Rat} (h : Gr N M q) : q.den ∣ N := by
  obtain ⟨z, hz⟩ := h.1
  have e := q_den q
  have : ((q.num * (N : Int) : Int) : Rat) = ((z * (q.den : Int) : Int) : Rat) := by
    rw [Rat.intCast_mul, Rat.intCast_mul, ← e, ← hz]
    have h1 : (((N : Nat) : Int) : Rat) = (N : Rat) := rfl
    have h2 : (((q.den : Nat) : Int) : Rat) = (q.den : Rat) := rfl
    rw [h1, h2]
    grind
  have h3 : q.num * (N : Int) = z * (q.den : Int) := by exact_mod_cast this
  have h4 : (q.den : Int) ∣ q.num * (N : Int) := ⟨z, by rw [h3, Int.mul_comm]⟩
  have h5 : q.den ∣ q.num.natAbs * N := by
    have := Int.natAbs_dvd_natAbs.mpr h4
    rwa [Int.natAbs_mul, Int.natAbs_natCast, Int.natAbs_natCast] at this
  exact Nat.Coprime.dvd_of_dvd_mul_left (Nat.Coprime.symm q.reduced) h5
theorem Gr.num {N M : Nat} {q : Rat} (h : Gr N M q) (h0 : 0 < N) : q.num.natAbs ≤ M * N := by
  have d := Nat.le_of_dvd h0 h.den
  have e := q_den q
  have dp := natR_pos q.den_pos
  have b1 : (q.num : Rat) ≤ ((M * q.den : Nat) : Rat) := by
    rw [← e, natR_mul]
    exact Rat.mul_le_mul_of_nonneg_right h.2.2 (Rat.le_of_lt dp)
  have b2 : -((M * q.den : Nat) : Rat) ≤ (q.num : Rat) := by
    rw [← e, natR_mul]
    have := Rat.mul_le_mul_of_nonneg_right h.2.1 (Rat.le_of_lt dp)
    grind
  have c1 : q.num ≤ ((M * q.den : Nat) : Int) := by
    have : (q.num : Rat) ≤ (((M * q.den : Nat) : Int) : Rat) := b1
    exact_mod_cast this
  have c2 : -((M * q.den : Nat) : Int) ≤ q.num := by
    have : ((-((M * q.den : Nat) : Int) : Int) : Rat) ≤ (q.num : Rat) := by
      rw [Rat.intCast_neg]; exact b2
    exact_mod_cast this
  have : M * q.den ≤ M * N := Nat.mul_le_mul_left M d
  omega
theorem Gr.sz {N M n : Nat} {q : Rat} (h : Gr N M q) (h0 : 0 < N) (h1 : (M + 1) * N < 2 ^ n) : Sz n q := by
  have a := h.num h0
  have d := Nat.le_of_dvd h0 h.den
  have e : (M + 1) * N = M * N + N := Nat.succ_mul M N
  exact ⟨by omega, by omega⟩
section
variable {N M N' M' : Nat} {p q : Rat}
theorem Gr.mono (h : Gr N M q) (h1 : N ∣ N') (h2 : M ≤ M') : Gr N' M' q := by
  obtain ⟨⟨z, hz⟩, b1, b2⟩ := h
  obtain ⟨c, rfl⟩ := h1
  have := natR_le h2
  refine ⟨⟨z * (c : Int), ?_⟩, by grind, by grind⟩
  rw [natR_mul, Rat.intCast_mul, ← hz]
  have h1 : (((c : Nat) : Int) : Rat) = (c : Rat) := rfl
  rw [h1]
  grind
theorem Gr.most (h : Gr N M q) (h2 : M ≤ M') : Gr N M' q := h.mono (Nat.dvd_refl N) h2
theorem Gr.within (h : Gr N M q) (h1 : -(M' : Rat) ≤ q) (h2 : q ≤ (M' : Rat)) : Gr N M' q := ⟨h.1, h1, h2⟩
theorem Gr.add (h : Gr N M p) (h1 : Gr N M' q) : Gr N (M + M') (p + q) := by
  obtain ⟨⟨z, hz⟩, b1, b2⟩ := h
  obtain ⟨⟨w, hw⟩, c1, c2⟩ := h1
  have := natR_add M M'
  refine ⟨⟨z + w, ?_⟩, by grind, by grind⟩
  rw [Rat.intCast_add, ← hz, ← hw]; grind
theorem Gr.neg (h : Gr N M p) : Gr N M (-p) := by
  obtain ⟨⟨z, hz⟩, b1, b2⟩ := h
  refine ⟨⟨-z, ?_⟩, by grind, by grind⟩
  rw [Rat.intCast_neg, ← hz]; grind
theorem Gr.sub (h : Gr N M p) (h1 : Gr N M' q) : Gr N (M + M') (p - q) := by
  have := h.add h1.neg
  rwa [← Rat.sub_eq_add_neg] at this
theorem absmul {a b x y : Rat} (h1 : -a ≤ x) (h2 : x ≤ a) (h3 : -b ≤ y) (h4 : y ≤ b) : -(a * b) ≤ x * y ∧ x * y ≤ a * b := by
  have p1 := Rat.mul_nonneg (a := a - x) (b := b + y) (by grind) (by grind)
  have p2 := Rat.mul_nonneg (a := a + x) (b := b - y) (by grind) (by grind)
  have p3 := Rat.mul_nonneg (a := a - x) (b := b - y) (by grind) (by grind)
  have p4 := Rat.mul_nonneg (a := a + x) (b := b + y) (by grind) (by grind)
  constructor <;> grind
theorem Gr.mul (h : Gr N M p) (h1 : Gr N' M' q) : Gr (N * N') (M * M') (p * q) := by
  obtain ⟨⟨z, hz⟩, b1, b2⟩ := h
  obtain ⟨⟨w, hw⟩, c1, c2⟩ := h1
  have b := absmul b1 b2 c1 c2
  rw [← natR_mul] at b
  refine ⟨⟨z * w, ?_⟩, b.1, b.2⟩
  rw [Rat.intCast_mul, ← hz, ← hw, natR_mul]; grind
theorem Gr.nat {m : Nat} (h : m ≤ M) : Gr 1 M (m : Rat) := by
  have := natR_le h
  have := natR_nn m
  refine ⟨⟨(m : Int), ?_⟩, by grind, by grind⟩
  have h1 : (((m : Nat) : Int) : Rat) = (m : Rat) := rfl
  have h2 : ((1 : Nat) : Rat) = 1 := rfl
  rw [h1, h2]; grind
theorem Gr.int {t : Int} (h : t.natAbs ≤ M) : Gr 1 M (t : Rat) := by
  have a : t ≤ (M : Int) := by omega
  have b : -(M : Int) ≤ t := by omega
  refine ⟨⟨t, ?_⟩, ?_, ?_⟩
  · have h2 : ((1 : Nat) : Rat) = 1 := rfl
    rw [h2]; grind
  · have : ((-(M : Int) : Int) : Rat) ≤ (t : Rat) := by exact_mod_cast b
    rw [Rat.intCast_neg] at this
    exact this
  · have : (t : Rat) ≤ (((M : Nat) : Int) : Rat) := by exact_mod_cast a
    exact this
theorem Gr.intN {t : Int} (h : t.natAbs ≤ M) : Gr N M (t : Rat) := (Gr.int h).mono ⟨N, by omega⟩ (Nat.le_refl _)
theorem Gr.zero : Gr N M 0 := by
  have := natR_nn M
  exact ⟨⟨0, by grind⟩, by grind, by grind⟩
theorem Gr.div {m : Nat} (h : Gr N M q) (h0 : 0 < m) : Gr (N * m) M (q / (m : Rat)) := by
  obtain ⟨⟨z, hz⟩, b1, b2⟩ := h
  have mp := natR_pos h0
  have m1 : (1 : Rat) ≤ (m : Rat) := natR_le h0
  have e : q / (m : Rat) * (m : Rat) = q := by grind
  generalize q / (m : Rat) = x at *
  have hM := natR_nn M
  refine ⟨⟨z, by rw [natR_mul, ← hz]; grind⟩, ?_, ?_⟩
  · rcases Tt.tri x 0 with a | a | a
    · have := Rat.mul_nonneg (a := -x) (b := (m : Rat) - 1) (by grind) (by grind)
      grind
    · grind
    · grind
  · rcases Tt.tri x 0 with a | a | a
    · grind
    · grind
    · have := Rat.mul_nonneg (a := x) (b := (m : Rat) - 1) (by grind) (by grind)
      grind
theorem Gr.divInt {t b : Int} (ht : t.natAbs ≤ M) (hb : 0 < b) : Gr b.toNat M (Rat.divInt t b) := by
  have h := (Gr.int (M := M) ht).div (m := b.toNat) (by omega)
  rw [Nat.one_mul] at h
  rw [Rat.divInt_eq_div]
  have : ((b.toNat : Nat) : Rat) = (b : Rat) := by
    have e : ((b.toNat : Nat) : Int) = b := by omega
    have : (((b.toNat : Nat) : Int) : Rat) = (b : Rat) := by rw [e]
    exact this
  rwa [this] at h
end
/-- a number that all bottoms of slopes of at most 25 places divide -/
abbrev L25 : Nat := 26771144400
theorem dvd_L25 : ∀ d : Nat, 0 < d → d < 26 → d ∣ L25 := by
  intro d h1 h2
  have : ∀ d : Fin 26, 0 < d.val → d.val ∣ L25 := by decide
  exact this ⟨d, h2⟩ h1
end DL
set_option exponentiation.threshold 10000
/-! ### sums of numbers, greatest ones together -/
namespace Tt
def sumQ : List Rat → Rat
  | [] => 0
  | x :: l => x + sumQ l
theorem sumQ_app : ∀ {a b : List Rat}, sumQ (a ++ b) = sumQ a + sumQ b
  | [], b => by simp only [List.nil_append, sumQ]; grind
  | x :: a, b => by simp only [List.cons_append, sumQ, sumQ_app (a := a)]; grind
theorem sumQ_perm {a b : List Rat} (h : a.Perm b) : sumQ a = sumQ b := by
  induction h with
  | nil => rfl
  | cons x _ ih => simp only [sumQ, ih]
  | swap x y l => simp only [sumQ]; grind
  | trans _ _ h1 h2 => exact h1.trans h2
theorem sumQ_nn : ∀ {a : List Rat}, (∀ x ∈ a, 0 ≤ x) → 0 ≤ sumQ a
  | [], _ => Rat.le_refl
  | x :: a, h => by
    have := sumQ_nn (a := a) fun y hy => h y (by simp [hy])
    have := h x (by simp)
    simp only [sumQ]
    grind
theorem sumQ_zero : ∀ {a : List Rat}, (∀ x ∈ a, x = 0) → sumQ a = 0
  | [], _ => rfl
  | x :: a, h => by
    have := sumQ_zero (a := a) fun y hy => h y (by simp [hy])
    have := h x (by simp)
    simp only [sumQ]
    grind
theorem sumN_eq (f : Nat → Rat) : ∀ m, sumN f m = sumQ ((List.range m).map f)
  | 0 => rfl
  | m + 1 => by
    rw [sumN, List.range_succ, List.map_append, sumQ_app, sumN_eq f m]
    simp only [List.map_cons, List.map_nil, sumQ]
    grind
theorem sumN_mul (c : Rat) (f : Nat → Rat) : ∀ m, c * sumN f m = sumN (fun k => c * f k) m
  | 0 => by simp only [sumN]; grind
  | m + 1 => by rw [sumN, sumN, ← sumN_mul c f m]; grind
theorem sumI_cast : ∀ l : List Int, ((l.sum : Int) : Rat) = sumQ (l.map fun (x : Int) => (x : Rat))
  | [] => rfl
  | x :: l => by
    rw [List.sum_cons, Rat.intCast_add, sumI_cast l]
    rfl
/-- what is above c -/
def pl (c x : Rat) : Rat := if x ≤ c then 0 else x - c
theorem pl_nn (c x : Rat) : 0 ≤ pl c x := by unfold pl; split <;> grind
theorem pl_ge (c x : Rat) : x ≤ pl c x + c := by unfold pl; split <;> grind
theorem sum_pl (c : Rat) : ∀ a : List Rat, sumQ a ≤ sumQ (a.map (pl c)) + (a.length : Rat) * c
  | [] => by
    simp only [List.map_nil, sumQ, List.length_nil]
    have : ((0 : Nat) : Rat) = 0 := rfl
    grind
  | x :: a => by
    have := sum_pl c a
    have := pl_ge c x
    simp only [List.map_cons, sumQ, List.length_cons]
    have e : ((a.length + 1 : Nat) : Rat) = (a.length : Rat) + 1 := by rw [Rat.natCast_add]; rfl
    rw [e]
    grind
theorem sum_pl_eq (c : Rat) : ∀ a : List Rat, (∀ x ∈ a, c ≤ x) → sumQ a = sumQ (a.map (pl c)) + (a.length : Rat) * c
  | [], _ => by
    simp only [List.map_nil, sumQ, List.length_nil]
    have : ((0 : Nat) : Rat) = 0 := rfl
    grind
  | x :: a, h => by
    have := sum_pl_eq c a fun y hy => h y (by simp [hy])
    have hx := h x (by simp)
    have : pl c x = x - c := by unfold pl; split <;> grind
    simp only [List.map_cons, sumQ, List.length_cons]
    have e : ((a.length + 1 : Nat) : Rat) = (a.length : Rat) + 1 := by rw [Rat.natCast_add]; rfl
    rw [e]
    grind
/-- greatest ones together: what is less by each pl is less -/
theorem top_le {a b : List Rat} (hl : a.length = b.length) (hb : b.Pairwise (fun x y => y ≤ x)) (h : ∀ c, sumQ (a.map (pl c)) ≤ sumQ (b.map (pl c))) (k : Nat) (hk : k ≤ b.length) : sumQ (a.take k) ≤ sumQ (b.take k) := by
  by_cases k0 : k = 0
  · subst k0; exact Rat.le_refl
  obtain ⟨j, rfl⟩ : ∃ j, k = j + 1 := ⟨k - 1, by omega⟩
  have hj : j < b.length := by omega
  have s1 := sum_pl b[j] (a.take (j + 1))
  have s2 : sumQ ((a.take (j + 1)).map (pl b[j])) ≤ sumQ (a.map (pl b[j])) := by
    have e : a.map (pl b[j]) = (a.take (j + 1)).map (pl b[j]) ++ (a.drop (j + 1)).map (pl b[j]) := by
      rw [← List.map_append, List.take_append_drop]
    rw [e, sumQ_app]
    have := sumQ_nn (a := (a.drop (j + 1)).map (pl b[j])) fun x hx => by
      obtain ⟨y, _, rfl⟩ := List.mem_map.mp hx
      exact pl_nn _ _
    grind
  have s3 := h b[j]
  have e : b.map (pl b[j]) = (b.take (j + 1)).map (pl b[j]) ++ (b.drop (j + 1)).map (pl b[j]) := by
    rw [← List.map_append, List.take_append_drop]
  have pw := List.pairwise_iff_getElem.mp hb
  have z : sumQ ((b.drop (j + 1)).map (pl b[j])) = 0 := sumQ_zero fun x hx => by
    obtain ⟨y, hy, rfl⟩ := List.mem_map.mp hx
    obtain ⟨i, hi, rfl⟩ := List.getElem_of_mem hy
    rw [List.length_drop] at hi
    have := pw j (j + 1 + i) hj (by omega) (by omega)
    rw [List.getElem_drop]
    unfold pl
    rw [if_pos this]
  have s4 := sum_pl_eq b[j] (b.take (j + 1)) fun x hx => by
    obtain ⟨i, hi, rfl⟩ := List.getElem_of_mem hx
    rw [List.length_take] at hi
    rw [List.getElem_take]
    by_cases hij : i = j
    · subst hij; exact Rat.le_refl
    · exact pw i j (by omega) hj (by omega)
  rw [e, sumQ_app, z] at s3
  have l1 : (a.take (j + 1)).length = j + 1 := by rw [List.length_take]; omega
  have l2 : (b.take (j + 1)).length = j + 1 := by rw [List.length_take]; omega
  rw [l1] at s1
  rw [l2] at s4
  grind
/-- the slope of pl -/
def plg (c x : Rat) : Rat := if x ≤ c then 0 else 1
theorem plg_mono (c : Rat) : ∀ s t, s ≤ t → plg c s ≤ plg c t := fun s t h => by unfold plg; split <;> split <;> grind
theorem pl_sub (c : Rat) : ∀ s t, pl c s + plg c s * (t - s) ≤ pl c t := fun s t => by unfold pl plg; split <;> split <;> grind
/-- of a tied tube: by each pl the taut row has no more -/
theorem Taut.pl_le {lo hi r x : Nat → Rat} {m : Nat} (T : Taut lo hi r (m + 2)) (hx : ∀ k, k < m + 2 → lo k ≤ x k ∧ x k ≤ hi k) (f : x 0 = r 0) (l : x (m + 1) = r (m + 1)) (c : Rat) :
    sumN (fun k => pl c (r (k + 1) - r k)) (m + 1) ≤ sumN (fun k => pl c (x (k + 1) - x k)) (m + 1) :=
  T.worth (g := plg c) hx (plg_mono c) (pl_sub c) (by rw [f]; grind) (by rw [l]; grind)
theorem Taut.congr' {lo hi r r' : Nat → Rat} {n : Nat} (T : Taut lo hi r n) (h : ∀ k, k < n → r k = r' k) : Taut lo hi r' n := by
  refine ⟨fun k hk => ?_, fun k k0 hk => ?_, fun k k0 hk => ?_⟩
  · rw [← h k hk]; exact T.within k hk
  · rw [← h k (by omega), ← h (k + 1) hk, ← h (k - 1) (by omega)]; exact T.up k k0 hk
  · rw [← h k (by omega), ← h (k + 1) hk, ← h (k - 1) (by omega)]; exact T.down k k0 hk
end Tt
set_option exponentiation.threshold 10000
/-! ### data smoothed: what it is, that it is one alone, that it costs least; stairs -/
namespace Tt
/-- x is y smoothed at the price p -/
structure Sm (n : Nat) (y : Nat → Rat) (p : Rat) (x : Nat → Rat) : Prop where
  tot : sumN x n = sumN y n
  band : ∀ k, 0 < k → k < n → -p ≤ sumN x k - sumN y k ∧ sumN x k - sumN y k ≤ p
  up : ∀ k, 0 < k → k < n → x (k - 1) < x k → sumN x k - sumN y k = p
  down : ∀ k, 0 < k → k < n → x k < x (k - 1) → sumN x k - sumN y k = -p
def sLo (n : Nat) (y : Nat → Rat) (p : Rat) (k : Nat) : Rat := if k = 0 ∨ k = n then sumN y k else sumN y k - p
def sHi (n : Nat) (y : Nat → Rat) (p : Rat) (k : Nat) : Rat := if k = 0 ∨ k = n then sumN y k else sumN y k + p
theorem sumN_steps (R : Nat → Rat) : ∀ k, sumN (fun j => R (j + 1) - R j) k = R k - R 0
  | 0 => by simp only [sumN]; grind
  | k + 1 => by rw [sumN, sumN_steps R k]; grind
theorem sumN_le_congr {f g : Nat → Rat} {n : Nat} (h : ∀ k, k < n → f k = g k) : ∀ m, m ≤ n → sumN f m = sumN g m
  | 0, _ => rfl
  | m + 1, hm => by rw [sumN, sumN, sumN_le_congr h m (by omega), h m (by omega)]
theorem Sm.congr {n : Nat} {y x x' : Nat → Rat} {p : Rat} (S : Sm n y p x) (h : ∀ k, k < n → x k = x' k) : Sm n y p x' := by
  have e := sumN_le_congr h
  refine ⟨by rw [← e n (Nat.le_refl _)]; exact S.tot, fun k h1 h2 => ?_, fun k h1 h2 => ?_, fun k h1 h2 => ?_⟩
  · rw [← e k (by omega)]; exact S.band k h1 h2
  · rw [← e k (by omega), ← h k h2, ← h (k - 1) (by omega)]; exact S.up k h1 h2
  · rw [← e k (by omega), ← h k h2, ← h (k - 1) (by omega)]; exact S.down k h1 h2
theorem Sm.congrY {n : Nat} {y y' x : Nat → Rat} {p : Rat} (S : Sm n y p x) (h : ∀ k, k < n → y k = y' k) : Sm n y' p x := by
  have e := sumN_le_congr h
  refine ⟨by rw [← e n (Nat.le_refl _)]; exact S.tot, fun k h1 h2 => ?_, fun k h1 h2 => ?_, fun k h1 h2 => ?_⟩
  · rw [← e k (by omega)]; exact S.band k h1 h2
  · rw [← e k (by omega)]; exact S.up k h1 h2
  · rw [← e k (by omega)]; exact S.down k h1 h2
theorem Sm.of_taut {n : Nat} {y R : Nat → Rat} {p : Rat} (n0 : 0 < n) (T : Taut (sLo n y p) (sHi n y p) R (n + 1)) : Sm n y p (fun k => R (k + 1) - R k) := by
  have r0 : R 0 = 0 := by
    have := T.within 0 (by omega)
    simp only [sLo, sHi, true_or, if_true, sumN] at this
    grind
  have rn : R n = sumN y n := by
    have := T.within n (by omega)
    simp only [sLo, sHi, or_true, if_true] at this
    grind
  have l : ∀ k, 0 < k → k < n → sLo n y p k = sumN y k - p ∧ sHi n y p k = sumN y k + p := fun k h1 h2 => by
    have : ¬ (k = 0 ∨ k = n) := by omega
    exact ⟨if_neg this, if_neg this⟩
  refine ⟨?_, fun k h1 h2 => ?_, fun k h1 h2 h => ?_, fun k h1 h2 h => ?_⟩
  · rw [sumN_steps]; grind
  · have := T.within k (by omega)
    have := l k h1 h2
    rw [sumN_steps]; grind
  · have := l k h1 h2
    have e := T.up k h1 (by omega) (by rwa [show k - 1 + 1 = k by omega] at h)
    rw [sumN_steps]; grind
  · have := l k h1 h2
    have e := T.down k h1 (by omega) (by rwa [show k - 1 + 1 = k by omega] at h)
    rw [sumN_steps]; grind
theorem sumN_step (x : Nat → Rat) (k : Nat) : sumN x (k + 1) - sumN x k = x k := by rw [sumN]; grind
theorem Sm.taut {n : Nat} {y x : Nat → Rat} {p : Rat} (S : Sm n y p x) : Taut (sLo n y p) (sHi n y p) (sumN x) (n + 1) := by
  have l : ∀ k, 0 < k → k < n → sLo n y p k = sumN y k - p ∧ sHi n y p k = sumN y k + p := fun k h1 h2 => by
    have : ¬ (k = 0 ∨ k = n) := by omega
    exact ⟨if_neg this, if_neg this⟩
  refine ⟨fun k hk => ?_, fun k h1 h2 h => ?_, fun k h1 h2 h => ?_⟩
  · by_cases k0 : k = 0
    · subst k0
      simp only [sLo, sHi, true_or, if_true, sumN]
      exact ⟨Rat.le_refl, Rat.le_refl⟩
    · by_cases kn : k = n
      · subst kn
        simp only [sLo, sHi, or_true, if_true, S.tot]
        exact ⟨Rat.le_refl, Rat.le_refl⟩
      · have := S.band k (by omega) (by omega)
        have := l k (by omega) (by omega)
        grind
  · have := l k h1 (by omega)
    have a := sumN_step x k
    have b := sumN_step x (k - 1)
    rw [show k - 1 + 1 = k by omega] at b
    have := S.up k h1 (by omega) (by grind)
    grind
  · have := l k h1 (by omega)
    have a := sumN_step x k
    have b := sumN_step x (k - 1)
    rw [show k - 1 + 1 = k by omega] at b
    have := S.down k h1 (by omega) (by grind)
    grind
theorem Sm.uniq {n : Nat} {y x x' : Nat → Rat} {p : Rat} (S : Sm n y p x) (S' : Sm n y p x') : ∀ k, k < n → x k = x' k := fun k hk => by
  have h := S.taut.uniq S'.taut rfl (by rw [Nat.add_sub_cancel, S.tot, S'.tot])
  have a := sumN_step x k
  have b := sumN_step x' k
  rw [← a, ← b, h k (by omega), h (k + 1) (by omega)]
/-! how it lies beside the data -/
section
variable {n : Nat} {y x : Nat → Rat} {p : Rat}
theorem Sm.sum_le (S : Sm n y p x) (p0 : 0 ≤ p) (k : Nat) (hk : k ≤ n) : -p ≤ sumN x k - sumN y k ∧ sumN x k - sumN y k ≤ p := by
  by_cases k0 : k = 0
  · subst k0; simp only [sumN]; grind
  · by_cases kn : k = n
    · subst kn; rw [S.tot]; grind
    · exact S.band k (by omega) (by omega)
theorem Sm.up_in (S : Sm n y p x) (p0 : 0 ≤ p) (k : Nat) (h0 : 0 < k) (hk : k < n) (h : x (k - 1) < x k) : y (k - 1) ≤ x (k - 1) ∧ x k ≤ y k := by
  have e := S.up k h0 hk h
  have a := S.sum_le p0 (k - 1) (by omega)
  have b := S.sum_le p0 (k + 1) (by omega)
  have c1 := sumN_step x k
  have c2 := sumN_step y k
  have c3 := sumN_step x (k - 1)
  have c4 := sumN_step y (k - 1)
  rw [show k - 1 + 1 = k by omega] at c3 c4
  grind
theorem Sm.down_in (S : Sm n y p x) (p0 : 0 ≤ p) (k : Nat) (h0 : 0 < k) (hk : k < n) (h : x k < x (k - 1)) : x (k - 1) ≤ y (k - 1) ∧ y k ≤ x k := by
  have e := S.down k h0 hk h
  have a := S.sum_le p0 (k - 1) (by omega)
  have b := S.sum_le p0 (k + 1) (by omega)
  have c1 := sumN_step x k
  have c2 := sumN_step y k
  have c3 := sumN_step x (k - 1)
  have c4 := sumN_step y (k - 1)
  rw [show k - 1 + 1 = k by omega] at c3 c4
  grind
theorem Sm.le_most (S : Sm n y p x) (p0 : 0 ≤ p) {M : Rat} (h : ∀ k, k < n → y k ≤ M) : ∀ k, k < n → x k ≤ M := by
  have pos : ∀ k, k < n → M < x k → 0 < sumN x (k + 1) - sumN y (k + 1) := fun k => by
    induction k with
    | zero =>
      intro hk hM
      have := h 0 hk
      simp only [sumN]
      grind
    | succ k ih =>
      intro hk hM
      have a := h (k + 1) hk
      have c1 := sumN_step x (k + 1)
      have c2 := sumN_step y (k + 1)
      by_cases z : M < x k
      · have := ih (by omega) z
        grind
      · have := S.up (k + 1) (by omega) hk (by rw [Nat.add_sub_cancel]; grind)
        grind
  have no : ∀ j k, k + j + 1 = n → ¬ M < x k := fun j => by
    induction j with
    | zero =>
      intro k hk z
      have := pos k (by omega) z
      rw [show k + 1 = n by omega, S.tot] at this
      grind
    | succ j ih =>
      intro k hk z
      have a := pos k (by omega) z
      have b := ih (k + 1) (by omega)
      have := S.down (k + 1) (by omega) (by omega) (by rw [Nat.add_sub_cancel]; grind)
      grind
  intro k hk
  have := no (n - 1 - k) k (by omega)
  grind
theorem sumN_neg (f : Nat → Rat) : ∀ m, sumN (fun k => -f k) m = -sumN f m
  | 0 => by simp only [sumN]; grind
  | m + 1 => by rw [sumN, sumN, sumN_neg f m]; grind
theorem Sm.neg (S : Sm n y p x) : Sm n (fun k => -y k) p (fun k => -x k) := by
  refine ⟨by rw [sumN_neg, sumN_neg, S.tot], fun k h1 h2 => ?_, fun k h1 h2 h => ?_, fun k h1 h2 h => ?_⟩
  · have := S.band k h1 h2
    rw [sumN_neg, sumN_neg]; grind
  · have := S.down k h1 h2 (by grind)
    rw [sumN_neg, sumN_neg]; grind
  · have := S.up k h1 h2 (by grind)
    rw [sumN_neg, sumN_neg]; grind
theorem Sm.ge_least (S : Sm n y p x) (p0 : 0 ≤ p) {M : Rat} (h : ∀ k, k < n → M ≤ y k) : ∀ k, k < n → M ≤ x k := fun k hk => by
  have := S.neg.le_most p0 (M := -M) (fun k hk => by have := h k hk; grind) k hk
  grind
/-- smoothed twice -/
theorem Sm.then {z : Nat → Rat} {q : Rat} (S : Sm n y p x) (S' : Sm n x q z) (q0 : 0 ≤ q) : Sm n y (p + q) z := by
  refine ⟨by rw [S'.tot, S.tot], fun k h1 h2 => ?_, fun k h1 h2 h => ?_, fun k h1 h2 h => ?_⟩
  · have := S.band k h1 h2
    have := S'.band k h1 h2
    grind
  · have := S'.up_in q0 k h1 h2 h
    have := S'.up k h1 h2 h
    have := S.up k h1 h2 (by grind)
    grind
  · have := S'.down_in q0 k h1 h2 h
    have := S'.down k h1 h2 h
    have := S.down k h1 h2 (by grind)
    grind
theorem Sm.self (y : Nat → Rat) : Sm n y 0 y := ⟨rfl, fun k _ _ => by grind, fun k _ _ _ => by grind, fun k _ _ _ => by grind⟩
end
/-! what it costs -/
def absQ (q : Rat) : Rat := if q < 0 then -q else q
theorem absQ_nn (q : Rat) : 0 ≤ absQ q := by unfold absQ; split <;> grind
theorem absQ_ge (q : Rat) : q ≤ absQ q ∧ -q ≤ absQ q := by unfold absQ; split <;> grind
def costQ (n : Nat) (y : Nat → Rat) (p : Rat) (x : Nat → Rat) : Rat := sumN (fun k => (y k - x k) * (y k - x k)) n + 2 * p * sumN (fun k => absQ (x (k + 1) - x k)) (n - 1)
section
variable {n : Nat} {y x : Nat → Rat} {p : Rat}
/-- by parts -/
theorem by_parts (u D : Nat → Rat) : ∀ m, sumN (fun k => u k * (D (k + 1) - D k)) (m + 1) = u m * D (m + 1) - u 0 * D 0 - sumN (fun k => D (k + 1) * (u (k + 1) - u k)) m
  | 0 => by simp only [sumN]; grind
  | m + 1 => by rw [sumN, by_parts u D m, sumN]; grind
theorem sumN_sub (f g : Nat → Rat) (m : Nat) : sumN (fun k => f k - g k) m = sumN f m - sumN g m := by
  have := sumN_add (f := f) (g := fun k => -g k) m
  rw [sumN_neg] at this
  have e : (fun k => f k - g k) = fun k => f k + -g k := by funext k; grind
  rw [e, this]; grind
theorem Sm.least (S : Sm n y p x) (p0 : 0 ≤ p) (z : Nat → Rat) : costQ n y p x + sumN (fun k => (z k - x k) * (z k - x k)) n ≤ costQ n y p z := by
  match n, S with
  | 0, _ =>
    have e : ∀ f : Nat → Rat, sumN f 0 = 0 := fun _ => rfl
    simp only [costQ, Nat.zero_sub, e]; grind
  | m + 1, S =>
    have bp := by_parts (fun k => z k - x k) (fun k => sumN x k - sumN y k) m
    have e0 : ∀ k, (sumN x (k + 1) - sumN y (k + 1)) - (sumN x k - sumN y k) = x k - y k := fun k => by
      have c1 := sumN_step x k
      have c2 := sumN_step y k
      grind
    have e1 : sumN (fun k => (z k - x k) * ((sumN x (k + 1) - sumN y (k + 1)) - (sumN x k - sumN y k))) (m + 1) = sumN (fun k => (z k - x k) * (x k - y k)) (m + 1) := by
      congr 1; funext k; rw [e0]
    have t0 : sumN x (m + 1) - sumN y (m + 1) = 0 := by rw [S.tot]; grind
    have t1 : sumN x 0 - sumN y 0 = 0 := by simp only [sumN]; grind
    simp only [t0, t1] at bp
    rw [e1] at bp
    have key : sumN (fun k => p * absQ (x (k + 1) - x k) + (sumN x (k + 1) - sumN y (k + 1)) * (z (k + 1) - x (k + 1) - (z k - x k))) m ≤ sumN (fun k => p * absQ (z (k + 1) - z k)) m := sumN_le fun k hk => by
      have b := S.band (k + 1) (by omega) (by omega)
      have u := S.up (k + 1) (by omega) (by omega)
      have d := S.down (k + 1) (by omega) (by omega)
      rw [Nat.add_sub_cancel] at u d
      generalize sumN x (k + 1) - sumN y (k + 1) = D at *
      have ex : p * absQ (x (k + 1) - x k) = D * (x (k + 1) - x k) := by
        rcases tri (x k) (x (k + 1)) with h | h | h
        · rw [u h]
          have : absQ (x (k + 1) - x k) = x (k + 1) - x k := by unfold absQ; rw [if_neg (by grind)]
          rw [this]
        · have : x (k + 1) - x k = 0 := by grind
          rw [this]
          have : absQ 0 = 0 := by unfold absQ; rw [if_neg (by grind)]
          rw [this]; grind
        · rw [d h]
          have : absQ (x (k + 1) - x k) = -(x (k + 1) - x k) := by unfold absQ; rw [if_pos (by grind)]
          rw [this]; grind
      have ez : D * (z (k + 1) - z k) ≤ p * absQ (z (k + 1) - z k) := by
        generalize z (k + 1) - z k = w
        unfold absQ
        split
        · have := mul_pp (a := D - -p + -(D - -p) - (D + p)) (b := w) (by grind) (by grind)
          grind
        · have := mul_nn (a := p - D) (b := w) (by grind) (by grind)
          grind
      grind
    rw [sumN_add] at key
    have s1 : sumN (fun k => p * absQ (x (k + 1) - x k)) m = p * sumN (fun k => absQ (x (k + 1) - x k)) m := (sumN_mul p _ m).symm
    have s2 : sumN (fun k => p * absQ (z (k + 1) - z k)) m = p * sumN (fun k => absQ (z (k + 1) - z k)) m := (sumN_mul p _ m).symm
    rw [s1, s2] at key
    have sq : sumN (fun k => (y k - z k) * (y k - z k)) (m + 1) = sumN (fun k => (y k - x k) * (y k - x k)) (m + 1) + sumN (fun k => (z k - x k) * (z k - x k)) (m + 1) + 2 * sumN (fun k => (z k - x k) * (x k - y k)) (m + 1) := by
      rw [sumN_mul, ← sumN_add, ← sumN_add]
      congr 1; funext k; grind
    unfold costQ
    rw [Nat.add_sub_cancel]
    rw [sq]
    generalize sumN (fun k => absQ (x (k + 1) - x k)) m = A1 at *
    generalize sumN (fun k => absQ (z (k + 1) - z k)) m = A2 at *
    generalize sumN (fun k => (z k - x k) * (x k - y k)) (m + 1) = A3 at *
    generalize sumN (fun k => (sumN x (k + 1) - sumN y (k + 1)) * (z (k + 1) - x (k + 1) - (z k - x k))) m = A4 at *
    grind
theorem sq_nn (q : Rat) : 0 ≤ q * q := by
  rcases tri q 0 with a | a | a
  · exact mul_pp (Rat.le_of_lt a) (Rat.le_of_lt a)
  · rw [a]; grind
  · exact mul_nn (Rat.le_of_lt a) (Rat.le_of_lt a)
theorem sq_pos {q : Rat} (h : q ≠ 0) : 0 < q * q := by
  rcases tri q 0 with a | a | a
  · have := Rat.mul_pos (a := -q) (b := -q) (by grind) (by grind)
    grind
  · exact absurd a h
  · exact Rat.mul_pos a a
theorem Sm.less (S : Sm n y p x) (p0 : 0 ≤ p) {z : Nat → Rat} (h : ¬ ∀ k, k < n → z k = x k) : costQ n y p x < costQ n y p z := by
  have := S.least p0 z
  obtain ⟨k, hk⟩ := Classical.not_forall.mp h
  obtain ⟨h1, h2⟩ := Classical.not_imp.mp hk
  have := sumN_pos (f := fun k => (z k - x k) * (z k - x k)) (m := n) (fun j _ => sq_nn _) k h1 (sq_pos (by grind))
  grind
end
end Tt
set_option exponentiation.threshold 10000
/-! ### stairs: from one price to the next -/
namespace Tt
structure Nx (n : Nat) (y : Nat → Rat) (p : Rat) (x : Nat → Rat) (p' : Rat) (x' : Nat → Rat) : Prop where
  lt : p < p'
  tot : sumN x' n = sumN y n
  band : ∀ k, 0 < k → k < n → -p' ≤ sumN x' k - sumN y k ∧ sumN x' k - sumN y k ≤ p'
  up : ∀ k, 0 < k → k < n → x (k - 1) < x k → x' (k - 1) ≤ x' k ∧ sumN x' k - sumN y k = p'
  down : ∀ k, 0 < k → k < n → x k < x (k - 1) → x' k ≤ x' (k - 1) ∧ sumN x' k - sumN y k = -p'
  alike : ∀ k, 0 < k → k < n → x (k - 1) = x k → x' (k - 1) = x' k
  some : ∃ k, 0 < k ∧ k < n ∧ x (k - 1) ≠ x k ∧ x' (k - 1) = x' k
section
variable {n : Nat} {y x x' : Nat → Rat} {p p' : Rat}
theorem Nx.sm (h : Nx n y p x p' x') : Sm n y p' x' := by
  refine ⟨h.tot, h.band, fun k k0 hk z => ?_, fun k k0 hk z => ?_⟩
  · rcases tri (x (k - 1)) (x k) with a | a | a
    · exact (h.up k k0 hk a).2
    · have := h.alike k k0 hk a; grind
    · have := (h.down k k0 hk a).1; grind
  · rcases tri (x (k - 1)) (x k) with a | a | a
    · have := (h.up k k0 hk a).1; grind
    · have := h.alike k k0 hk a; grind
    · exact (h.down k k0 hk a).2
theorem sumN_mid (f g : Nat → Rat) (s : Rat) : ∀ m, sumN (fun k => f k + s * (g k - f k)) m = sumN f m + s * (sumN g m - sumN f m)
  | 0 => by simp only [sumN]; grind
  | m + 1 => by rw [sumN, sumN, sumN, sumN_mid f g s m]; grind
theorem mid_le {a b c d s : Rat} (h0 : 0 ≤ s) (h1 : s ≤ 1) (h : a ≤ c) (h' : b ≤ d) : a + s * (b - a) ≤ c + s * (d - c) := by
  have p1 := Rat.mul_nonneg (a := s) (b := d - b) h0 (by grind)
  have p2 := Rat.mul_nonneg (a := 1 - s) (b := c - a) (by grind) (by grind)
  grind
/-- between two prices all goes evenly -/
theorem Nx.mid (S : Sm n y p x) (h : Nx n y p x p' x') {s : Rat} (h0 : 0 ≤ s) (h1 : s ≤ 1) : Sm n y (p + s * (p' - p)) (fun k => x k + s * (x' k - x k)) := by
  have e := sumN_mid x x' s
  have d : ∀ k, sumN (fun k => x k + s * (x' k - x k)) k - sumN y k = (sumN x k - sumN y k) + s * ((sumN x' k - sumN y k) - (sumN x k - sumN y k)) := fun k => by rw [e k]; grind
  refine ⟨by rw [e, S.tot, h.tot]; grind, fun k k0 hk => ?_, fun k k0 hk z => ?_, fun k k0 hk z => ?_⟩
  · rw [d]
    have a := S.band k k0 hk
    have b := h.band k k0 hk
    have c1 := mid_le h0 h1 a.1 b.1
    have c2 := mid_le h0 h1 a.2 b.2
    exact ⟨by grind, by grind⟩
  · rw [d]
    rcases tri (x (k - 1)) (x k) with a | a | a
    · rw [S.up k k0 hk a, (h.up k k0 hk a).2]
    · have := h.alike k k0 hk a
      rw [a, this] at z; grind
    · have := (h.down k k0 hk a).1
      have := mid_le h0 h1 (Rat.le_of_lt a) this
      grind
  · rw [d]
    rcases tri (x (k - 1)) (x k) with a | a | a
    · have := (h.up k k0 hk a).1
      have := mid_le h0 h1 (Rat.le_of_lt a) this
      grind
    · have := h.alike k k0 hk a
      rw [a, this] at z; grind
    · rw [S.down k k0 hk a, (h.down k k0 hk a).2]; grind
theorem Nx.jump {s : Rat} (h : Nx n y p x p' x') (h0 : 0 ≤ s) (h1 : s < 1) {k : Nat} (k0 : 0 < k) (hk : k < n) (z : x (k - 1) ≠ x k) : x (k - 1) + s * (x' (k - 1) - x (k - 1)) ≠ x k + s * (x' k - x k) := by
  rcases tri (x (k - 1)) (x k) with a | a | a
  · have := (h.up k k0 hk a).1
    have p1 := Rat.mul_nonneg (a := s) (b := x' k - x' (k - 1)) h0 (by grind)
    have p2 := Rat.mul_pos (a := 1 - s) (b := x k - x (k - 1)) (by grind) (by grind)
    grind
  · exact absurd a z
  · have := (h.down k k0 hk a).1
    have p1 := Rat.mul_nonneg (a := s) (b := x' (k - 1) - x' k) h0 (by grind)
    have p2 := Rat.mul_pos (a := 1 - s) (b := x (k - 1) - x k) (by grind) (by grind)
    grind
theorem Nx.le {x'' : Nat → Rat} {p'' : Rat} (S : Sm n y p x) (h : Nx n y p x p' x') (h' : Nx n y p x p'' x'') : ¬ p' < p'' := fun lt => by
  have a := h.lt
  have dp : p'' - p ≠ 0 := by grind
  have e : (p' - p) / (p'' - p) * (p'' - p) = p' - p := by grind
  generalize (p' - p) / (p'' - p) = s at *
  have s0 : 0 ≤ s := by
    rcases tri s 0 with z | z | z
    · have := Rat.mul_pos (a := -s) (b := p'' - p) (by grind) (by grind)
      grind
    · grind
    · grind
  have s1 : s < 1 := by
    rcases tri s 1 with z | z | z
    · exact z
    · rw [z] at e; grind
    · have := Rat.mul_pos (a := s - 1) (b := p'' - p) (by grind) (by grind)
      grind
  have M := h'.mid S s0 (Rat.le_of_lt s1)
  rw [e, show p + (p' - p) = p' by grind] at M
  obtain ⟨k, k0, hk, z1, z2⟩ := h.some
  have u := M.uniq h.sm
  have j := h'.jump s0 s1 k0 hk z1
  have u1 := u k hk
  have u2 := u (k - 1) (by omega)
  rw [u1, u2] at j
  exact j z2
theorem Nx.uniq {x'' : Nat → Rat} {p'' : Rat} (S : Sm n y p x) (h : Nx n y p x p' x') (h' : Nx n y p x p'' x'') : p' = p'' ∧ ∀ k, k < n → x' k = x'' k := by
  have a := h.le S h'
  have b := h'.le S h
  have e : p' = p'' := by grind
  subst e
  exact ⟨rfl, h.sm.uniq h'.sm⟩
end
/-- from a price and its row on: all further ones, the last row alike throughout -/
def Stair (n : Nat) (y : Nat → Rat) : Rat → List Rat → List (Rat × List Rat) → Prop
  | _, x, [] => ∀ k, 0 < k → k < n → at0 x (k - 1) = at0 x k
  | p, x, q :: L => q.2.length = n ∧ Nx n y p (at0 x) q.1 (at0 q.2) ∧ Stair n y q.1 q.2 L
theorem rows_eq {a b : List Rat} {n : Nat} (ha : a.length = n) (hb : b.length = n) (h : ∀ k, k < n → at0 a k = at0 b k) : a = b := List.ext_getElem (by omega) fun k h1 h2 => by
  have := h k (by omega)
  simpa [at0, h1, h2] using this
theorem Stair.uniq {n : Nat} {y : Nat → Rat} : ∀ {L L' : List (Rat × List Rat)} {p : Rat} {x : List Rat}, Sm n y p (at0 x) → Stair n y p x L → Stair n y p x L' → L = L'
  | [], [], _, _, _, _, _ => rfl
  | [], _ :: _, _, _, _, h, h' => by
    obtain ⟨k, k0, hk, z, _⟩ := h'.2.1.some
    exact absurd (h k k0 hk) z
  | _ :: _, [], _, _, _, h, h' => by
    obtain ⟨k, k0, hk, z, _⟩ := h.2.1.some
    exact absurd (h' k k0 hk) z
  | (p1, x1) :: L, (p2, x2) :: L', p, x, S, h, h' => by
    obtain ⟨l, a, b⟩ := h
    obtain ⟨l', a', b'⟩ := h'
    obtain ⟨e1, e2⟩ := a.uniq S a'
    simp only at e1 e2 l l' b b' a
    subst e1
    have ex := rows_eq l l' e2
    subst ex
    rw [Stair.uniq a.sm b b']
/-! ### carried over -/
section
variable {n : Nat} {y x x' : Nat → Rat} {p p' : Rat}
theorem sumN_aff (f : Nat → Rat) (a c : Rat) : ∀ m, sumN (fun k => f k * a + c) m = sumN f m * a + (m : Rat) * c
  | 0 => by
    simp only [sumN]
    have : ((0 : Nat) : Rat) = 0 := rfl
    grind
  | m + 1 => by
    have e : ((m + 1 : Nat) : Rat) = (m : Rat) + 1 := by rw [Rat.natCast_add]; rfl
    rw [sumN, sumN, sumN_aff f a c m, e]; grind
theorem aff_lt {a c u v : Rat} (h : 0 < a) : u * a + c < v * a + c ↔ u < v := by
  have := mul_lt_iff (x := u) (y := v) h
  grind
theorem aff_eq {a c u v : Rat} (h : 0 < a) : u * a + c = v * a + c ↔ u = v := by
  constructor
  · intro e
    have e2 : (u - v) * a = 0 := by grind
    rcases Rat.mul_eq_zero.mp e2 with z | z <;> grind
  · intro e; rw [e]
theorem aff_le {a c u v : Rat} (h : 0 < a) : u * a + c ≤ v * a + c ↔ u ≤ v := by
  have := aff_lt (c := c) (u := v) (v := u) h
  grind
theorem aff_d (a c : Rat) (k : Nat) : sumN (fun k => x k * a + c) k - sumN (fun k => y k * a + c) k = (sumN x k - sumN y k) * a := by
  rw [sumN_aff, sumN_aff]; grind
theorem Sm.aff (S : Sm n y p x) {a : Rat} (c : Rat) (h : 0 < a) : Sm n (fun k => y k * a + c) (p * a) (fun k => x k * a + c) := by
  refine ⟨by rw [sumN_aff, sumN_aff, S.tot], fun k k0 hk => ?_, fun k k0 hk z => ?_, fun k k0 hk z => ?_⟩
  · rw [aff_d]
    have b := S.band k k0 hk
    have b1 := aff_le (a := a) (c := 0) (u := -p) (v := sumN x k - sumN y k) h
    have b2 := aff_le (a := a) (c := 0) (u := sumN x k - sumN y k) (v := p) h
    grind
  · rw [aff_d, S.up k k0 hk ((aff_lt h).mp z)]
  · rw [aff_d, S.down k k0 hk ((aff_lt h).mp z)]; grind
theorem Nx.aff (S : Nx n y p x p' x') {a : Rat} (c : Rat) (h : 0 < a) : Nx n (fun k => y k * a + c) (p * a) (fun k => x k * a + c) (p' * a) (fun k => x' k * a + c) := by
  have sm := S.sm.aff c h
  refine ⟨?_, sm.tot, sm.band, fun k k0 hk z => ?_, fun k k0 hk z => ?_, fun k k0 hk z => ?_, ?_⟩
  · have := mul_lt_iff (x := p) (y := p') h
    exact this.mpr S.lt
  · obtain ⟨u, v⟩ := S.up k k0 hk ((aff_lt h).mp z)
    exact ⟨(aff_le h).mpr u, by rw [aff_d, v]⟩
  · obtain ⟨u, v⟩ := S.down k k0 hk ((aff_lt h).mp z)
    exact ⟨(aff_le h).mpr u, by rw [aff_d, v]; grind⟩
  · exact (aff_eq h).mpr (S.alike k k0 hk ((aff_eq h).mp z))
  · obtain ⟨k, k0, hk, u, v⟩ := S.some
    exact ⟨k, k0, hk, fun e => u ((aff_eq h).mp e), (aff_eq h).mpr v⟩
theorem Nx.neg (S : Nx n y p x p' x') : Nx n (fun k => -y k) p (fun k => -x k) p' (fun k => -x' k) := by
  have sm := S.sm.neg
  refine ⟨S.lt, sm.tot, sm.band, fun k k0 hk z => ?_, fun k k0 hk z => ?_, fun k k0 hk z => ?_, ?_⟩
  · obtain ⟨u, v⟩ := S.down k k0 hk (by grind)
    exact ⟨by grind, by rw [sumN_neg, sumN_neg]; grind⟩
  · obtain ⟨u, v⟩ := S.up k k0 hk (by grind)
    exact ⟨by grind, by rw [sumN_neg, sumN_neg]; grind⟩
  · have := S.alike k k0 hk (by grind)
    grind
  · obtain ⟨k, k0, hk, u, v⟩ := S.some
    exact ⟨k, k0, hk, by grind, by grind⟩
/-- back to front -/
def rv (n : Nat) (f : Nat → Rat) (k : Nat) : Rat := f (n - 1 - k)
theorem sumN_rv (f : Nat → Rat) (n : Nat) : ∀ k, k ≤ n → sumN (rv n f) k = sumN f n - sumN f (n - k)
  | 0, _ => by simp only [sumN, Nat.sub_zero]; grind
  | k + 1, h => by
    have c := sumN_step f (n - (k + 1))
    rw [show n - (k + 1) + 1 = n - k by omega] at c
    rw [sumN, sumN_rv f n k (by omega), rv, show n - 1 - k = n - (k + 1) by omega]
    grind
theorem Sm.rv (S : Sm n y p x) : Sm n (rv n y) p (rv n x) := by
  have d : ∀ k, k ≤ n → sumN (Tt.rv n x) k - sumN (Tt.rv n y) k = -(sumN x (n - k) - sumN y (n - k)) := fun k hk => by
    rw [sumN_rv x n k hk, sumN_rv y n k hk, S.tot]; grind
  have i : ∀ k, 0 < k → k < n → n - 1 - (k - 1) = n - k ∧ n - 1 - k = n - k - 1 := fun k h1 h2 => by omega
  refine ⟨?_, fun k k0 hk => ?_, fun k k0 hk z => ?_, fun k k0 hk z => ?_⟩
  · rw [sumN_rv x n n (Nat.le_refl _), sumN_rv y n n (Nat.le_refl _), Nat.sub_self, S.tot]
    rfl
  · rw [d k (by omega)]
    have := S.band (n - k) (by omega) (by omega)
    grind
  · rw [d k (by omega)]
    have := S.down (n - k) (by omega) (by omega) (by
      unfold Tt.rv at z
      rwa [(i k k0 hk).1, (i k k0 hk).2] at z)
    grind
  · rw [d k (by omega)]
    have := S.up (n - k) (by omega) (by omega) (by
      unfold Tt.rv at z
      rwa [(i k k0 hk).1, (i k k0 hk).2] at z)
    grind
theorem Nx.rv (S : Nx n y p x p' x') : Nx n (rv n y) p (rv n x) p' (rv n x') := by
  have sm := S.sm.rv
  have d : ∀ k, k ≤ n → sumN (Tt.rv n x') k - sumN (Tt.rv n y) k = -(sumN x' (n - k) - sumN y (n - k)) := fun k hk => by
    rw [sumN_rv x' n k hk, sumN_rv y n k hk, S.tot]; grind
  have i : ∀ k, 0 < k → k < n → n - 1 - (k - 1) = n - k ∧ n - 1 - k = n - k - 1 := fun k h1 h2 => by omega
  refine ⟨S.lt, sm.tot, sm.band, fun k k0 hk z => ?_, fun k k0 hk z => ?_, fun k k0 hk z => ?_, ?_⟩
  · unfold Tt.rv at z ⊢
    rw [(i k k0 hk).1, (i k k0 hk).2] at z ⊢
    obtain ⟨u, v⟩ := S.down (n - k) (by omega) (by omega) z
    exact ⟨u, by have := d k (by omega); unfold Tt.rv at this; grind⟩
  · unfold Tt.rv at z ⊢
    rw [(i k k0 hk).1, (i k k0 hk).2] at z ⊢
    obtain ⟨u, v⟩ := S.up (n - k) (by omega) (by omega) z
    exact ⟨u, by have := d k (by omega); unfold Tt.rv at this; grind⟩
  · unfold Tt.rv at z ⊢
    rw [(i k k0 hk).1, (i k k0 hk).2] at z ⊢
    exact (S.alike (n - k) (by omega) (by omega) z.symm).symm
  · obtain ⟨k, k0, hk, u, v⟩ := S.some
    refine ⟨n - k, by omega, by omega, ?_, ?_⟩
    · unfold Tt.rv
      rw [show n - 1 - (n - k - 1) = k by omega, show n - 1 - (n - k) = k - 1 by omega]
      exact fun e => u e.symm
    · unfold Tt.rv
      rw [show n - 1 - (n - k - 1) = k by omega, show n - 1 - (n - k) = k - 1 by omega]
      exact v.symm
end
theorem Nx.congr {n : Nat} {y y2 x x2 x' x2' : Nat → Rat} {p p' : Rat} (S : Nx n y p x p' x') (hy : ∀ k, k < n → y k = y2 k) (hx : ∀ k, k < n → x k = x2 k) (hx' : ∀ k, k < n → x' k = x2' k) : Nx n y2 p x2 p' x2' := by
  have e := sumN_le_congr hx'
  have e2 := sumN_le_congr hy
  refine ⟨S.lt, by rw [← e n (Nat.le_refl _), ← e2 n (Nat.le_refl _)]; exact S.tot, fun k h1 h2 => ?_, fun k h1 h2 => ?_, fun k h1 h2 => ?_, fun k h1 h2 => ?_, ?_⟩
  · rw [← e k (by omega), ← e2 k (by omega)]; exact S.band k h1 h2
  · rw [← e k (by omega), ← e2 k (by omega), ← hx k h2, ← hx (k - 1) (by omega), ← hx' k h2, ← hx' (k - 1) (by omega)]; exact S.up k h1 h2
  · rw [← e k (by omega), ← e2 k (by omega), ← hx k h2, ← hx (k - 1) (by omega), ← hx' k h2, ← hx' (k - 1) (by omega)]; exact S.down k h1 h2
  · rw [← hx k h2, ← hx (k - 1) (by omega), ← hx' k h2, ← hx' (k - 1) (by omega)]; exact S.alike k h1 h2
  · obtain ⟨k, k0, hk, u, v⟩ := S.some
    exact ⟨k, k0, hk, by rwa [← hx k hk, ← hx (k - 1) (by omega)], by rwa [← hx' k hk, ← hx' (k - 1) (by omega)]⟩
theorem at0_map {f : Rat → Rat} {x : List Rat} {k : Nat} (h : k < x.length) : at0 (x.map f) k = f (at0 x k) := by simp [at0, h]
theorem at0_rev {x : List Rat} {k : Nat} (h : k < x.length) : at0 x.reverse k = rv x.length (at0 x) k := by
  unfold rv
  simp [at0, h, show x.length - 1 - k < x.length by omega]
/-- carries stairs over -/
structure Carry (n : Nat) (F : List Rat → List Rat) (a : Rat) : Prop where
  len : ∀ x : List Rat, x.length = n → (F x).length = n
  nx : ∀ (y x x' : List Rat) (p p' : Rat), y.length = n → x.length = n → x'.length = n → Nx n (at0 y) p (at0 x) p' (at0 x') → Nx n (at0 (F y)) (p * a) (at0 (F x)) (p' * a) (at0 (F x'))
  flat : ∀ x : List Rat, x.length = n → (∀ k, 0 < k → k < n → at0 x (k - 1) = at0 x k) → ∀ k, 0 < k → k < n → at0 (F x) (k - 1) = at0 (F x) k
theorem Carry.stair {n : Nat} {F : List Rat → List Rat} {a : Rat} (C : Carry n F a) {y : List Rat} (hy : y.length = n) : ∀ {L : List (Rat × List Rat)} {p : Rat} {x : List Rat}, x.length = n → Stair n (at0 y) p x L → Stair n (at0 (F y)) (p * a) (F x) (L.map fun q => (q.1 * a, F q.2))
  | [], _, x, hx, h => C.flat x hx h
  | q :: L, p, x, hx, ⟨l, h1, h2⟩ => ⟨C.len _ l, C.nx y x q.2 p q.1 hy hx l h1, C.stair hy l h2⟩
theorem Carry.comp {n : Nat} {F G : List Rat → List Rat} {a b : Rat} (C : Carry n F a) (C' : Carry n G b) : Carry n (fun x => G (F x)) (a * b) :=
  ⟨fun x hx => C'.len _ (C.len _ hx), fun y x x' p p' hy hx hx' h => by
    have := C'.nx _ _ _ _ _ (C.len _ hy) (C.len _ hx) (C.len _ hx') (C.nx y x x' p p' hy hx hx' h)
    rwa [Rat.mul_assoc, Rat.mul_assoc] at this, fun x hx h => C'.flat _ (C.len _ hx) (C.flat x hx h)⟩
theorem Carry.aff {n : Nat} {a : Rat} (c : Rat) (h : 0 < a) : Carry n (fun x => x.map fun v => v * a + c) a := by
  refine ⟨fun x hx => by simp [hx], fun y x x' p p' hy hx hx' S => ?_, fun x hx h k k0 hk => ?_⟩
  · have e : ∀ z : List Rat, z.length = n → ∀ k, k < n → at0 z k * a + c = at0 (z.map fun v => v * a + c) k := fun z hz k hk => by
      rw [at0_map (by omega)]
    exact (S.aff c h).congr (e y hy) (e x hx) (e x' hx')
  · rw [at0_map (by omega), at0_map (by omega)]; rw [h k k0 hk]
theorem Carry.neg {n : Nat} : Carry n (fun x => x.map fun v => 0 - v) 1 := by
  refine ⟨fun x hx => by simp [hx], fun y x x' p p' hy hx hx' S => ?_, fun x hx h k k0 hk => ?_⟩
  · have e : ∀ z : List Rat, z.length = n → ∀ k, k < n → -at0 z k = at0 (z.map fun v => 0 - v) k := fun z hz k hk => by
      rw [at0_map (by omega)]; grind
    rw [Rat.mul_one, Rat.mul_one]
    exact S.neg.congr (e y hy) (e x hx) (e x' hx')
  · rw [at0_map (by omega), at0_map (by omega), h k k0 hk]
theorem Carry.rev {n : Nat} : Carry n List.reverse 1 := by
  refine ⟨fun x hx => by simp [hx], fun y x x' p p' hy hx hx' S => ?_, fun x hx h k k0 hk => ?_⟩
  · have e : ∀ z : List Rat, z.length = n → ∀ k, k < n → rv n (at0 z) k = at0 z.reverse k := fun z hz k hk => by
      rw [at0_rev (by omega), hz]
    rw [Rat.mul_one, Rat.mul_one]
    exact S.rv.congr (e y hy) (e x hx) (e x' hx')
  · rw [at0_rev (by omega), at0_rev (by omega), hx]
    unfold rv
    have := h (n - k) (by omega) (by omega)
    rw [show n - 1 - (k - 1) = n - k by omega, show n - 1 - k = n - k - 1 by omega]
    exact this.symm
theorem Carry.id {n : Nat} : Carry n (fun x => x) 1 := ⟨fun _ h => h, fun y x x' p p' _ _ _ S => by rwa [Rat.mul_one, Rat.mul_one], fun _ _ h => h⟩
end Tt
set_option exponentiation.threshold 10000
/-! ### rows with loose ends, and round a ring -/
namespace Tt
/-- the step that leads to a place; b: round a ring -/
def stp (b : Bool) (r : Nat → Rat) (n k : Nat) : Rat := if k = 0 ∨ n ≤ k then (if b = true then r 0 - r (n - 1) else 0) else r k - r (k - 1)
structure Bent (b : Bool) (lo hi r : Nat → Rat) (n : Nat) : Prop where
  within : ∀ k, k < n → lo k ≤ r k ∧ r k ≤ hi k
  up : ∀ k, k < n → stp b r n k < stp b r n (k + 1) → r k = hi k
  down : ∀ k, k < n → stp b r n (k + 1) < stp b r n k → r k = lo k
theorem stp_in {b : Bool} {r : Nat → Rat} {n k : Nat} (h0 : 0 < k) (h : k < n) : stp b r n k = r k - r (k - 1) := by
  unfold stp
  rw [if_neg (by omega)]
theorem stp_succ {b : Bool} {r : Nat → Rat} {n k : Nat} (h : k + 1 < n) : stp b r n (k + 1) = r (k + 1) - r k := by
  rw [stp_in (by omega) h, Nat.add_sub_cancel]
theorem stp_end {b : Bool} {r : Nat → Rat} {n k : Nat} (h : n ≤ k) : stp b r n k = stp b r n 0 := by
  simp [stp, h]
theorem stp_loose {r : Nat → Rat} {n : Nat} : stp false r n 0 = 0 := by simp [stp]
theorem stp_ring {r : Nat → Rat} {n : Nat} : stp true r n 0 = r 0 - r (n - 1) := by simp [stp]
theorem argmax (f : Nat → Rat) : ∀ {n : Nat}, 0 < n → ∃ k, k < n ∧ ∀ j, j < n → f j ≤ f k
  | 0, h => by omega
  | n + 1, _ => by
    by_cases hn : n = 0
    · subst hn
      exact ⟨0, by omega, fun j hj => by
        have : j = 0 := by omega
        subst this
        exact Rat.le_refl⟩
    · obtain ⟨k, hk, h⟩ := argmax f (n := n) (by omega)
      by_cases c : f k < f n
      · refine ⟨n, by omega, fun j hj => ?_⟩
        by_cases e : j = n
        · subst e; exact Rat.le_refl
        · have := h j (by omega)
          grind
      · refine ⟨k, by omega, fun j hj => ?_⟩
        by_cases e : j = n
        · subst e; grind
        · exact h j (by omega)
theorem stp_flat {b : Bool} {r : Nat → Rat} {n : Nat} (h : ∀ k, k < n → stp b r n (k + 1) = stp b r n k) : ∀ k, k < n → r k = r 0 := by
  have a : ∀ k, k ≤ n → stp b r n k = stp b r n 0 := fun k => by
    induction k with
    | zero => exact fun _ => rfl
    | succ k ih => exact fun hk => (h k (by omega)).trans (ih (by omega))
  have e : ∀ k, k < n → r k = r 0 + (k : Rat) * stp b r n 0 := fun k => by
    induction k with
    | zero =>
      intro _
      have : ((0 : Nat) : Rat) = 0 := rfl
      grind
    | succ k ih =>
      intro hk
      have i := ih (by omega)
      have s := a (k + 1) (by omega)
      rw [stp_succ hk] at s
      have c : ((k + 1 : Nat) : Rat) = (k : Rat) + 1 := by rw [Rat.natCast_add]; rfl
      rw [c]
      grind
  intro k hk
  have z : stp b r n 0 = 0 := by
    cases b
    · exact stp_loose
    · have l := e (n - 1) (by omega)
      have s := stp_ring (r := r) (n := n)
      have c : ((n - 1 : Nat) : Rat) = (n : Rat) - 1 := by
        have : ((n - 1 + 1 : Nat) : Rat) = ((n - 1 : Nat) : Rat) + 1 := by rw [Rat.natCast_add]; rfl
        rw [show n - 1 + 1 = n by omega] at this
        grind
      rw [c] at l
      have np : (0 : Rat) < (n : Rat) := by
        have : 0 < n := by omega
        exact_mod_cast this
      have : (n : Rat) * stp true r n 0 = 0 := by grind
      rcases Rat.mul_eq_zero.mp this with h | h
      · grind
      · exact h
  rw [e k hk, z]
  grind
section
variable {b : Bool} {lo hi lo' hi' r r' : Nat → Rat} {n : Nat}
/-- of two tubes in order: the rows are in order, or the one is level above the other, which is level, too -/
theorem Bent.far (B : Bent b lo hi r n) (B' : Bent b lo' hi' r' n) (hl : ∀ k, k < n → lo k ≤ lo' k) (hh : ∀ k, k < n → hi k ≤ hi' k) :
    (∀ k, k < n → r k ≤ r' k) ∨ ∃ d, 0 < d ∧ (∀ k, k < n → r k = r' k + d) ∧ (∀ k, k < n → lo k < r k) ∧ ∀ k, k < n → r k = r 0 := by
  by_cases all : ∀ k, k < n → r k ≤ r' k
  · exact .inl all
  have n0 : 0 < n := by
    by_cases h : 0 < n
    · exact h
    · exact absurd (fun k hk => by omega) all
  obtain ⟨m, hm, max⟩ := argmax (fun k => r k - r' k) n0
  have D0 : 0 < r m - r' m := by
    have : ∃ k, k < n ∧ r' k < r k := by
      by_cases h : ∃ k, k < n ∧ r' k < r k
      · exact h
      · exact absurd (fun k hk => by
          by_cases c : r' k < r k
          · exact absurd ⟨k, hk, c⟩ h
          · grind) all
    obtain ⟨k, hk, c⟩ := this
    have := max k hk
    grind
  generalize hD : r m - r' m = d at *
  -- at a place where they are furthest apart
  have at_ : ∀ k, k < n → r k - r' k = d → stp b r n k - stp b r' n k ≤ stp b r n (k + 1) - stp b r' n (k + 1) := fun k hk e => by
    have w := B.within k hk
    have w' := B'.within k hk
    have h1 := hl k hk
    have h2 := hh k hk
    have a : stp b r n k ≤ stp b r n (k + 1) := by
      by_cases c : stp b r n (k + 1) < stp b r n k
      · have := B.down k hk c
        grind
      · grind
    have a' : stp b r' n (k + 1) ≤ stp b r' n k := by
      by_cases c : stp b r' n k < stp b r' n (k + 1)
      · have := B'.up k hk c
        grind
      · grind
    grind
  have e0 : ∀ k, k < n → r k - r' k = d → 0 ≤ stp b r n k - stp b r' n k := fun k hk e => by
    by_cases k0 : k = 0
    · subst k0
      cases b
      · rw [stp_loose, stp_loose]; grind
      · rw [stp_ring, stp_ring]
        have := max (n - 1) (by omega)
        grind
    · rw [stp_in (by omega) hk, stp_in (by omega) hk]
      have := max (k - 1) (by omega)
      grind
  have e1 : ∀ k, k < n → r k - r' k = d → stp b r n (k + 1) - stp b r' n (k + 1) ≤ 0 := fun k hk e => by
    by_cases kn : k + 1 < n
    · rw [stp_succ kn, stp_succ kn]
      have := max (k + 1) kn
      grind
    · rw [stp_end (k := k + 1) (by omega), stp_end (k := k + 1) (by omega)]
      cases b
      · rw [stp_loose, stp_loose]; grind
      · rw [stp_ring, stp_ring]
        have := max 0 n0
        have : k = n - 1 := by omega
        subst this
        grind
  have nx : ∀ k, k + 1 < n → r k - r' k = d → r (k + 1) - r' (k + 1) = d := fun k hk e => by
    have a := at_ k (by omega) e
    have c := e0 k (by omega) e
    rw [stp_succ hk, stp_succ hk] at a
    have := max (k + 1) hk
    grind
  have pv : ∀ k, k + 1 < n → r (k + 1) - r' (k + 1) = d → r k - r' k = d := fun k hk e => by
    have a := at_ (k + 1) hk e
    have c := e1 (k + 1) hk e
    rw [stp_succ hk, stp_succ hk] at a
    have := max k (by omega)
    grind
  have down : ∀ i, i ≤ m → r (m - i) - r' (m - i) = d := fun i => by
    induction i with
    | zero => exact fun _ => hD
    | succ i ih =>
      intro hi
      have := ih (by omega)
      have e : m - i = m - (i + 1) + 1 := by omega
      rw [e] at this
      exact pv _ (by omega) this
  have z : r 0 - r' 0 = d := by
    have := down m (Nat.le_refl _)
    rwa [Nat.sub_self] at this
  have every : ∀ k, k < n → r k - r' k = d := fun k => by
    induction k with
    | zero => exact fun _ => z
    | succ k ih => exact fun hk => nx k hk (ih (by omega))
  have same : ∀ k, k ≤ n → stp b r n k = stp b r' n k := fun k hk => by
    by_cases k0 : k = 0 ∨ n ≤ k
    · have e : stp b r n k = stp b r n 0 ∧ stp b r' n k = stp b r' n 0 := by
        rcases k0 with h | h
        · subst h; exact ⟨rfl, rfl⟩
        · exact ⟨stp_end h, stp_end h⟩
      rw [e.1, e.2]
      cases b
      · rw [stp_loose, stp_loose]
      · rw [stp_ring, stp_ring]
        have := every 0 n0
        have := every (n - 1) (by omega)
        grind
    · rw [stp_in (by omega) (by omega), stp_in (by omega) (by omega)]
      have := every k (by omega)
      have := every (k - 1) (by omega)
      grind
  refine .inr ⟨d, D0, fun k hk => by have := every k hk; grind, fun k hk => ?_, stp_flat (b := b) fun k hk => ?_⟩
  · have := every k hk
    have := (B'.within k hk).1
    have := hl k hk
    grind
  · have e := every k hk
    have w := B.within k hk
    have w' := B'.within k hk
    have h1 := hl k hk
    have h2 := hh k hk
    have a : stp b r n k ≤ stp b r n (k + 1) := by
      by_cases c : stp b r n (k + 1) < stp b r n k
      · have := B.down k hk c
        grind
      · grind
    have a' : stp b r' n (k + 1) ≤ stp b r' n k := by
      by_cases c : stp b r' n k < stp b r' n (k + 1)
      · have := B'.up k hk c
        grind
      · grind
    have s1 := same k (by omega)
    have s2 := same (k + 1) (by omega)
    grind
/-- the row that is told: of level ones the least -/
structure Told (b : Bool) (lo hi r : Nat → Rat) (n : Nat) : Prop extends Bent b lo hi r n where
  least : ∀ h, (∀ k, k < n → lo k ≤ h ∧ h ≤ hi k) → ∀ k, k < n → r k ≤ h
theorem stp_const {c : Rat} {k : Nat} : stp b (fun _ => c) n k = 0 := by
  unfold stp
  split
  · split <;> grind
  · grind
theorem Bent.const {c : Rat} (h : ∀ k, k < n → lo k ≤ c ∧ c ≤ hi k) : Bent b lo hi (fun _ => c) n :=
  ⟨h, fun k hk z => by rw [stp_const, stp_const] at z; grind, fun k hk z => by rw [stp_const, stp_const] at z; grind⟩
theorem Told.le (T : Told b lo hi r n) (B' : Bent b lo' hi' r' n) (hl : ∀ k, k < n → lo k ≤ lo' k) (hh : ∀ k, k < n → hi k ≤ hi' k) : ∀ k, k < n → r k ≤ r' k := by
  rcases T.toBent.far B' hl hh with h | ⟨d, d0, e, above, lev⟩
  · exact h
  · intro k hk
    have n0 : 0 < n := by omega
    have h0 : ∀ j, j < n → r' j = r' 0 := fun j hj => by
      have := e j hj
      have := e 0 n0
      have := lev j hj
      grind
    have := T.least (r' 0) (fun j hj => by
      have w := B'.within j hj
      rw [h0 j hj] at w
      have := hl j hj
      have := T.within j hj
      have := e j hj
      have := h0 j hj
      grind) k hk
    have := e k hk
    have := h0 k hk
    grind
theorem Told.uniq (T : Told b lo hi r n) (T' : Told b lo hi r' n) : ∀ k, k < n → r k = r' k := fun k hk => by
  have := T.le T'.toBent (fun _ _ => Rat.le_refl) (fun _ _ => Rat.le_refl) k hk
  have := T'.le T.toBent (fun _ _ => Rat.le_refl) (fun _ _ => Rat.le_refl) k hk
  grind
theorem Told.congr (T : Told b lo hi r n) (h : ∀ k, k < n → lo k = lo' k ∧ hi k = hi' k ∧ r k = r' k) : Told b lo' hi' r' n := by
  have s : ∀ k, k ≤ n → stp b r' n k = stp b r n k := fun k hk => by
    unfold stp
    split
    · split
      · by_cases n0 : 0 < n
        · rw [(h 0 n0).2.2, (h (n - 1) (by omega)).2.2]
        · have : n = 0 := by omega
          subst this
          grind
      · rfl
    · rw [(h k (by omega)).2.2, (h (k - 1) (by omega)).2.2]
  refine ⟨⟨fun k hk => ?_, fun k hk z => ?_, fun k hk z => ?_⟩, fun c hc k hk => ?_⟩
  · have := T.within k hk; have := h k hk; grind
  · rw [s k (by omega), s (k + 1) (by omega)] at z
    have := T.up k hk z; have := h k hk; grind
  · rw [s k (by omega), s (k + 1) (by omega)] at z
    have := T.down k hk z; have := h k hk; grind
  · have := T.least c (fun j hj => by have := hc j hj; have := h j hj; grind) k hk
    have := h k hk; grind
/-- no row goes above what is above all lows -/
theorem Told.most (T : Told b lo hi r n) {c : Rat} (h : ∀ k, k < n → lo k ≤ c) : ∀ k, k < n → r k ≤ c :=
  T.le (lo' := fun _ => c) (hi' := fun k => if hi k ≤ c then c else hi k) (Bent.const fun k hk => by constructor <;> grind) h (fun k hk => by grind)
theorem Told.fewest (T : Told b lo hi r n) {c : Rat} (h : ∀ k, k < n → c ≤ hi k) : (∀ k, k < n → c ≤ r k) ∨ ∃ d, d < c ∧ ∀ k, k < n → r k = d := by
  rcases Bent.far (b := b) (lo := fun k => if lo k ≤ c then lo k else c) (hi := fun _ => c) (r := fun _ => c) (Bent.const fun k hk => by constructor <;> grind) T.toBent (fun k hk => by grind) h with q | ⟨d, d0, e, _, _⟩
  · exact .inl q
  · exact .inr ⟨c - d, by grind, fun k hk => by have := e k hk; grind⟩
/-- a tube made wider, round its told row or as it is -/
theorem Told.wider (T : Told b lo hi r n) {x y : Rat} (x0 : 0 ≤ x) (y0 : 0 ≤ y) {w : Nat → Rat} (W : Told b (fun k => r k - x) (fun k => r k + y) w n) : Told b (fun k => lo k - x) (fun k => hi k + y) w n := by
  have st : ∀ k, k < n → (w k = r k + y → stp b w n (k + 1) ≤ stp b r n (k + 1) ∧ stp b r n k ≤ stp b w n k) ∧ (w k = r k - x → stp b r n (k + 1) ≤ stp b w n (k + 1) ∧ stp b w n k ≤ stp b r n k) := fun k hk => by
    have n0 : 0 < n := by omega
    have w0 := W.within 0 n0
    have wn := W.within (n - 1) (by omega)
    have a1 : stp b w n (k + 1) - stp b r n (k + 1) = (w (if k + 1 < n then k + 1 else if b = true then 0 else k) - r (if k + 1 < n then k + 1 else if b = true then 0 else k)) - (w k - r k) := by
      by_cases c : k + 1 < n
      · rw [if_pos c, stp_succ c, stp_succ c]; grind
      · have e : k = n - 1 := by omega
        rw [if_neg c, stp_end (k := k + 1) (by omega), stp_end (k := k + 1) (by omega)]
        cases b
        · rw [stp_loose, stp_loose]; simp only [Bool.false_eq_true, if_false]; grind
        · rw [stp_ring, stp_ring, e]; simp only [if_true]; grind
    have a2 : stp b w n k - stp b r n k = (w k - r k) - (w (if 0 < k then k - 1 else if b = true then n - 1 else k) - r (if 0 < k then k - 1 else if b = true then n - 1 else k)) := by
      by_cases c : 0 < k
      · rw [if_pos c, stp_in c hk, stp_in c hk]; grind
      · have e : k = 0 := by omega
        subst e
        rw [if_neg c]
        cases b
        · rw [stp_loose, stp_loose]; simp only [Bool.false_eq_true, if_false]; grind
        · rw [stp_ring, stp_ring]; simp only [if_true]; grind
    have l1 : (if k + 1 < n then k + 1 else if b = true then 0 else k) < n := by split; omega; split <;> omega
    have l2 : (if 0 < k then k - 1 else if b = true then n - 1 else k) < n := by split; omega; split <;> omega
    generalize (if k + 1 < n then k + 1 else if b = true then 0 else k) = i1 at *
    generalize (if 0 < k then k - 1 else if b = true then n - 1 else k) = i2 at *
    have g1 := W.within i1 l1
    have g2 := W.within i2 l2
    constructor
    · intro e; constructor <;> grind
    · intro e; constructor <;> grind
  refine ⟨⟨fun k hk => ?_, fun k hk z => ?_, fun k hk z => ?_⟩, fun h hb k hk => ?_⟩
  · have := W.within k hk
    have := T.within k hk
    constructor <;> grind
  · have e := W.up k hk z
    obtain ⟨s1, s2⟩ := (st k hk).1 e
    have := T.up k hk (by grind)
    grind
  · have e := W.down k hk z
    obtain ⟨s1, s2⟩ := (st k hk).2 e
    have := T.down k hk (by grind)
    grind
  · have t := T.most (c := h + x) fun j hj => by have := hb j hj; grind
    rcases T.fewest (c := h - y) (fun j hj => by have := hb j hj; grind) with f | ⟨d, hd, f⟩
    · exact W.least h (fun j hj => by have := t j hj; have := f j hj; constructor <;> grind) k hk
    · have := (W.within k hk).2
      have := f k hk
      grind
end
end Tt
set_option exponentiation.threshold 10000
/-! ### loose and ring rows put together of taut ones -/
namespace Tt
section
variable {b : Bool} {lo hi lo' hi' r r' : Nat → Rat} {n : Nat}
theorem Taut.congr (T : Taut lo hi r n) (h : ∀ k, k < n → lo k = lo' k ∧ hi k = hi' k ∧ r k = r' k) : Taut lo' hi' r' n := by
  refine ⟨fun k hk => ?_, fun k k0 hk => ?_, fun k k0 hk => ?_⟩
  · obtain ⟨a, b, c⟩ := h k hk
    rw [← a, ← b, ← c]
    exact T.within k hk
  · rw [← (h k (by omega)).2.2, ← (h (k + 1) hk).2.2, ← (h (k - 1) (by omega)).2.2, ← (h k (by omega)).2.1]
    exact T.up k k0 hk
  · rw [← (h k (by omega)).2.2, ← (h (k + 1) hk).2.2, ← (h (k - 1) (by omega)).2.2, ← (h k (by omega)).1]
    exact T.down k k0 hk
theorem Taut.turn (T : Taut lo hi r n) : Taut (fun k => lo (n - 1 - k)) (fun k => hi (n - 1 - k)) (fun k => r (n - 1 - k)) n := by
  refine ⟨fun k hk => T.within _ (by omega), fun k k0 hk z => ?_, fun k k0 hk z => ?_⟩
  · have e1 : n - 1 - (k - 1) = n - 1 - k + 1 := by omega
    have e2 : n - 1 - (k + 1) = n - 1 - k - 1 := by omega
    simp only [e1, e2] at z
    exact T.up (n - 1 - k) (by omega) (by omega) (by grind)
  · have e1 : n - 1 - (k - 1) = n - 1 - k + 1 := by omega
    have e2 : n - 1 - (k + 1) = n - 1 - k - 1 := by omega
    simp only [e1, e2] at z
    exact T.down (n - 1 - k) (by omega) (by omega) (by grind)
theorem Taut.upto (T : Taut lo hi r n) {m : Nat} (h : m ≤ n) : Taut lo hi r m :=
  ⟨fun k hk => T.within k (by omega), fun k k0 hk => T.up k k0 (by omega), fun k k0 hk => T.down k k0 (by omega)⟩
theorem Taut.level {c : Rat} (h : ∀ k, k < n → lo k ≤ c ∧ c ≤ hi k) : Taut lo hi (fun _ => c) n :=
  ⟨h, fun k _ _ z => by grind, fun k _ _ z => by grind⟩
theorem Taut.most (T : Taut lo hi r n) {c : Rat} (h : ∀ k, k < n → lo k ≤ c) (h0 : r 0 ≤ c) (h1 : r (n - 1) ≤ c) : ∀ k, k < n → r k ≤ c :=
  T.le (lo' := fun _ => c) (hi' := fun k => if hi k ≤ c then c else hi k) (Taut.level fun k hk => by constructor <;> grind) h (fun k hk => by grind) h0 h1
theorem Taut.fewest (T : Taut lo hi r n) {c : Rat} (h : ∀ k, k < n → c ≤ hi k) (h0 : c ≤ r 0) (h1 : c ≤ r (n - 1)) : ∀ k, k < n → c ≤ r k :=
  Taut.le (lo := fun k => if lo k ≤ c then lo k else c) (hi := fun _ => c) (r := fun _ => c) (Taut.level fun k hk => by constructor <;> grind) T (fun k hk => by grind) h h0 h1
/-- no height in all bounds: between the least high and the greatest low, bent rightly where no such bound is -/
theorem Told.join {top bot : Rat} (lt : bot < top) (w : ∀ k, k < n → lo k ≤ r k ∧ r k ≤ hi k) (wt : ∀ k, k < n → bot ≤ r k ∧ r k ≤ top)
    (eT : ∃ k, k < n ∧ lo k = top) (eB : ∃ k, k < n ∧ hi k = bot)
    (free : ∀ k, k < n → lo k ≠ top → hi k ≠ bot → (stp b r n k < stp b r n (k + 1) → r k = hi k) ∧ (stp b r n (k + 1) < stp b r n k → r k = lo k)) : Told b lo hi r n := by
  have nb : ∀ k, k < n → ∃ x y, (∃ i, i < n ∧ x = r i) ∧ (∃ i, i < n ∧ y = r i) ∧ stp b r n k = r k - x ∧ stp b r n (k + 1) = y - r k := fun k hk => by
    have c1 : ∃ x, (∃ i, i < n ∧ x = r i) ∧ stp b r n k = r k - x := by
      by_cases k0 : 0 < k
      · exact ⟨_, ⟨k - 1, by omega, rfl⟩, stp_in k0 hk⟩
      · have : k = 0 := by omega
        subst this
        cases b
        · exact ⟨_, ⟨0, hk, rfl⟩, by rw [stp_loose]; grind⟩
        · exact ⟨_, ⟨n - 1, by omega, rfl⟩, stp_ring⟩
    have c2 : ∃ y, (∃ i, i < n ∧ y = r i) ∧ stp b r n (k + 1) = y - r k := by
      by_cases kn : k + 1 < n
      · exact ⟨_, ⟨k + 1, kn, rfl⟩, stp_succ kn⟩
      · have : k = n - 1 := by omega
        rw [stp_end (k := k + 1) (by omega)]
        cases b
        · exact ⟨_, ⟨k, hk, rfl⟩, by rw [stp_loose]; grind⟩
        · exact ⟨_, ⟨0, by omega, rfl⟩, by rw [stp_ring, this]⟩
    obtain ⟨x, h1, h2⟩ := c1
    obtain ⟨y, h3, h4⟩ := c2
    exact ⟨x, y, h1, h3, h2, h4⟩
  refine ⟨⟨w, fun k hk z => ?_, fun k hk z => ?_⟩, fun h hb k hk => ?_⟩
  · obtain ⟨x, y, ⟨i, hi', rfl⟩, ⟨j, hj, rfl⟩, s1, s2⟩ := nb k hk
    have a := w k hk
    have c := wt k hk
    have := wt i hi'
    have := wt j hj
    by_cases h1 : lo k = top
    · grind
    · by_cases h2 : hi k = bot
      · grind
      · exact (free k hk h1 h2).1 z
  · obtain ⟨x, y, ⟨i, hi', rfl⟩, ⟨j, hj, rfl⟩, s1, s2⟩ := nb k hk
    have a := w k hk
    have c := wt k hk
    have := wt i hi'
    have := wt j hj
    by_cases h1 : lo k = top
    · grind
    · by_cases h2 : hi k = bot
      · grind
      · exact (free k hk h1 h2).2 z
  · obtain ⟨i, hi', e⟩ := eT
    obtain ⟨j, hj, e2⟩ := eB
    have := hb i hi'
    have := hb j hj
    grind
/-- from both ends to the middle alike -/
theorem Taut.mirror {m : Nat} (T : Taut lo hi r (2 * m + 1)) (h : ∀ k, k ≤ m → lo (2 * m - k) = lo k ∧ hi (2 * m - k) = hi k) (tied : lo 0 = hi 0) : ∀ k, k ≤ 2 * m → r (2 * m - k) = r k := by
  have h2 : ∀ k, k < 2 * m + 1 → lo (2 * m + 1 - 1 - k) = lo k ∧ hi (2 * m + 1 - 1 - k) = hi k := fun k hk => by
    rw [show 2 * m + 1 - 1 - k = 2 * m - k by omega]
    by_cases c : k ≤ m
    · exact h k c
    · have := h (2 * m - k) (by omega)
      rw [show 2 * m - (2 * m - k) = k by omega] at this
      exact ⟨this.1.symm, this.2.symm⟩
  have T2 : Taut lo hi (fun k => r (2 * m + 1 - 1 - k)) (2 * m + 1) := T.turn.congr fun k hk => ⟨(h2 k hk).1, (h2 k hk).2, rfl⟩
  have w0 := T.within 0 (by omega)
  have w1 := T.within (2 * m) (by omega)
  have e0 := h 0 (by omega)
  rw [Nat.sub_zero] at e0
  have z : r (2 * m) = r 0 := by
    have := e0.1
    have := e0.2
    grind
  have u := T2.uniq T (by simpa using z) (by simpa using z.symm)
  intro k hk
  have := u k (by omega)
  simpa using this
end
end Tt
set_option exponentiation.threshold 10000
/-! ### moved, turned, scaled rows -/
namespace Tt
section
variable {b : Bool} {lo hi r : Nat → Rat} {n : Nat}
theorem stp_aff {c d : Rat} {k : Nat} : stp b (fun k => c * r k + d) n k = c * stp b r n k := by
  unfold stp
  split
  · split <;> grind
  · grind
/-- all made so many times as great and moved -/
theorem Told.aff (T : Told b lo hi r n) {c d : Rat} (c0 : 0 < c) : Told b (fun k => c * lo k + d) (fun k => c * hi k + d) (fun k => c * r k + d) n := by
  have mono : ∀ {x y : Rat}, x ≤ y → c * x ≤ c * y := fun h => Rat.mul_le_mul_of_nonneg_left h (Rat.le_of_lt c0)
  have lt : ∀ {x y : Rat}, c * x < c * y → x < y := fun {x y} h => by
    by_cases q : x < y
    · exact q
    · have := mono (x := y) (y := x) (by grind)
      grind
  refine ⟨⟨fun k hk => ?_, fun k hk z => ?_, fun k hk z => ?_⟩, fun h hb k hk => ?_⟩
  · have w := T.within k hk
    have := mono w.1
    have := mono w.2
    grind
  · rw [stp_aff, stp_aff] at z
    have := T.up k hk (lt z)
    simp only [this]
  · rw [stp_aff, stp_aff] at z
    have := T.down k hk (lt z)
    simp only [this]
  · have e : c * ((h - d) / c) = h - d := by grind
    have := T.least ((h - d) / c) (fun j hj => by
      have q := hb j hj
      constructor
      · by_cases z : lo j ≤ (h - d) / c
        · exact z
        · have := Rat.mul_lt_mul_of_pos_left (a := (h - d) / c) (b := lo j) (by grind) c0
          grind
      · by_cases z : (h - d) / c ≤ hi j
        · exact z
        · have := Rat.mul_lt_mul_of_pos_left (a := hi j) (b := (h - d) / c) (by grind) c0
          grind) k hk
    have := mono this
    grind
theorem Taut.shift (T : Taut lo hi r n) {d : Rat} : Taut (fun k => lo k + d) (fun k => hi k + d) (fun k => r k + d) n :=
  ⟨fun k hk => by have := T.within k hk; constructor <;> grind, fun k k0 hk z => by have := T.up k k0 hk (by grind); grind, fun k k0 hk z => by have := T.down k k0 hk (by grind); grind⟩
end
end Tt
set_option exponentiation.threshold 10000
/-! ### jobs: what is due, what has come, plain -/
namespace Tt
structure Job where
  a : Nat
  d : Nat
  w : Rat
def dueF : List Job → Nat → Rat
  | [], _ => 0
  | j :: J, h => (if j.d ≤ h then j.w else 0) + dueF J h
def comeF : List Job → Nat → Rat
  | [], _ => 0
  | j :: J, h => (if j.a < h then j.w else 0) + comeF J h
def worksF : List Job → Rat
  | [] => 0
  | j :: J => j.w + worksF J
theorem dueF_append : ∀ (J K : List Job) (h : Nat), dueF (J ++ K) h = dueF J h + dueF K h
  | [], K, h => by show dueF K h = 0 + dueF K h; grind
  | j :: J, K, h => by
    show (if j.d ≤ h then j.w else 0) + dueF (J ++ K) h = ((if j.d ≤ h then j.w else 0) + dueF J h) + dueF K h
    rw [dueF_append J K h]; grind
theorem comeF_append : ∀ (J K : List Job) (h : Nat), comeF (J ++ K) h = comeF J h + comeF K h
  | [], K, h => by show comeF K h = 0 + comeF K h; grind
  | j :: J, K, h => by
    show (if j.a < h then j.w else 0) + comeF (J ++ K) h = ((if j.a < h then j.w else 0) + comeF J h) + comeF K h
    rw [comeF_append J K h]; grind
theorem worksF_append : ∀ (J K : List Job), worksF (J ++ K) = worksF J + worksF K
  | [], K => by show worksF K = 0 + worksF K; grind
  | j :: J, K => by
    show j.w + worksF (J ++ K) = (j.w + worksF J) + worksF K
    rw [worksF_append J K]; grind
/-- a job's hours and its work -/
def JobsOk (J : List Job) : Prop := ∀ j ∈ J, j.a < j.d ∧ 0 < j.w
theorem JobsOk.tail {j : Job} {J : List Job} (ok : JobsOk (j :: J)) : JobsOk J := fun x hx => ok x (List.mem_cons_of_mem _ hx)
theorem JobsOk.head {j : Job} {J : List Job} (ok : JobsOk (j :: J)) : j.a < j.d ∧ 0 < j.w := ok j (List.mem_cons_self ..)
theorem due_nn : ∀ {J : List Job}, JobsOk J → ∀ h, 0 ≤ dueF J h
  | [], _, h => Rat.le_refl
  | j :: J, ok, h => by
    have := due_nn ok.tail h
    have := ok.head
    show 0 ≤ (if j.d ≤ h then j.w else 0) + dueF J h
    split <;> grind
theorem due_le_come : ∀ {J : List Job}, JobsOk J → ∀ h, dueF J h ≤ comeF J h
  | [], _, h => Rat.le_refl
  | j :: J, ok, h => by
    have := due_le_come ok.tail h
    have := ok.head
    show (if j.d ≤ h then j.w else 0) + dueF J h ≤ (if j.a < h then j.w else 0) + comeF J h
    split
    · rw [if_pos (by omega)]; grind
    · split <;> grind
theorem come_le_works : ∀ {J : List Job}, JobsOk J → ∀ h, comeF J h ≤ worksF J
  | [], _, h => Rat.le_refl
  | j :: J, ok, h => by
    have := come_le_works ok.tail h
    have := ok.head
    show (if j.a < h then j.w else 0) + comeF J h ≤ j.w + worksF J
    split <;> grind
theorem due_mono : ∀ {J : List Job}, JobsOk J → ∀ {h k : Nat}, h ≤ k → dueF J h ≤ dueF J k
  | [], _, h, k, _ => Rat.le_refl
  | j :: J, ok, h, k, hk => by
    have := due_mono ok.tail hk
    have := ok.head
    show (if j.d ≤ h then j.w else 0) + dueF J h ≤ (if j.d ≤ k then j.w else 0) + dueF J k
    split
    · rw [if_pos (by omega)]; grind
    · split <;> grind
theorem come_mono : ∀ {J : List Job}, JobsOk J → ∀ {h k : Nat}, h ≤ k → comeF J h ≤ comeF J k
  | [], _, h, k, _ => Rat.le_refl
  | j :: J, ok, h, k, hk => by
    have := come_mono ok.tail hk
    have := ok.head
    show (if j.a < h then j.w else 0) + comeF J h ≤ (if j.a < k then j.w else 0) + comeF J k
    split
    · rw [if_pos (by omega)]; grind
    · split <;> grind
theorem due_all : ∀ {J : List Job} {h : Nat}, (∀ j ∈ J, j.d ≤ h) → dueF J h = worksF J
  | [], _, _ => rfl
  | j :: J, h, hh => by
    show (if j.d ≤ h then j.w else 0) + dueF J h = j.w + worksF J
    rw [if_pos (hh j (List.mem_cons_self ..)), due_all fun x hx => hh x (List.mem_cons_of_mem _ hx)]
theorem come_all : ∀ {J : List Job} {h : Nat}, (∀ j ∈ J, j.a < h) → comeF J h = worksF J
  | [], _, _ => rfl
  | j :: J, h, hh => by
    show (if j.a < h then j.w else 0) + comeF J h = j.w + worksF J
    rw [if_pos (hh j (List.mem_cons_self ..)), come_all fun x hx => hh x (List.mem_cons_of_mem _ hx)]
theorem come_none : ∀ {J : List Job} {h : Nat}, (∀ j ∈ J, h ≤ j.a) → comeF J h = 0
  | [], _, _ => rfl
  | j :: J, h, hh => by
    show (if j.a < h then j.w else 0) + comeF J h = 0
    rw [if_neg (by have := hh j (List.mem_cons_self ..); omega), come_none fun x hx => hh x (List.mem_cons_of_mem _ hx)]
    grind
theorem due_none : ∀ {J : List Job} {h : Nat}, (∀ j ∈ J, h < j.d) → dueF J h = 0
  | [], _, _ => rfl
  | j :: J, h, hh => by
    show (if j.d ≤ h then j.w else 0) + dueF J h = 0
    rw [if_neg (by have := hh j (List.mem_cons_self ..); omega), due_none fun x hx => hh x (List.mem_cons_of_mem _ hx)]
    grind
/-! works made greater -/
def greatJ (c : Rat) (J : List Job) : List Job := J.map fun j => ⟨j.a, j.d, j.w * c⟩
theorem due_great (c : Rat) : ∀ (J : List Job) (h : Nat), dueF (greatJ c J) h = dueF J h * c
  | [], h => by show (0 : Rat) = 0 * c; grind
  | j :: J, h => by
    show (if j.d ≤ h then j.w * c else 0) + dueF (greatJ c J) h = ((if j.d ≤ h then j.w else 0) + dueF J h) * c
    rw [due_great c J h]; split <;> grind
theorem come_great (c : Rat) : ∀ (J : List Job) (h : Nat), comeF (greatJ c J) h = comeF J h * c
  | [], h => by show (0 : Rat) = 0 * c; grind
  | j :: J, h => by
    show (if j.a < h then j.w * c else 0) + comeF (greatJ c J) h = ((if j.a < h then j.w else 0) + comeF J h) * c
    rw [come_great c J h]; split <;> grind
section
variable {lo hi r : Nat → Rat} {n : Nat}
theorem Taut.great (T : Taut lo hi r n) {c : Rat} (c0 : 0 < c) : Taut (fun k => lo k * c) (fun k => hi k * c) (fun k => r k * c) n := by
  have c' := Rat.le_of_lt c0
  have back : ∀ x y z : Rat, x * c - y * c < y * c - z * c → x - y < y - z := fun x y z h => by
    have h2 : (x - y) * c < (y - z) * c := by grind
    exact (mul_lt_iff c0).mp h2
  refine ⟨fun k hk => ?_, fun k k0 hk z => ?_, fun k k0 hk z => ?_⟩
  · have := T.within k hk
    exact ⟨Rat.mul_le_mul_of_nonneg_right this.1 c', Rat.mul_le_mul_of_nonneg_right this.2 c'⟩
  · have := T.up k k0 hk (by
      have h2 : (r k - r (k - 1)) * c < (r (k + 1) - r k) * c := by grind
      exact (mul_lt_iff c0).mp h2)
    show r k * c = hi k * c
    rw [this]
  · have := T.down k k0 hk (back _ _ _ z)
    show r k * c = lo k * c
    rw [this]
/-- bounds that never go down: no more does the row -/
theorem Taut.rises (T : Taut lo hi r n) (hl : ∀ k, k + 1 < n → lo k ≤ lo (k + 1)) (hh : ∀ k, k + 1 < n → hi k ≤ hi (k + 1)) (t0 : lo 0 = hi 0) (t1 : lo (n - 1) = hi (n - 1)) : ∀ k, k + 1 < n → r k ≤ r (k + 1) := by
  intro k hk
  have T1 : Taut lo hi r (n - 1) := T.upto (by omega)
  have T2 : Taut (fun k => lo (k + 1)) (fun k => hi (k + 1)) (fun k => r (k + 1)) (n - 1) := by
    refine ⟨fun k hk => T.within _ (by omega), fun k k0 hk z => T.up (k + 1) (by omega) (by omega) ?_, fun k k0 hk z => T.down (k + 1) (by omega) (by omega) ?_⟩
    · rw [Nat.add_sub_cancel]
      rw [show k - 1 + 1 = k by omega] at z
      exact z
    · rw [Nat.add_sub_cancel]
      rw [show k - 1 + 1 = k by omega] at z
      exact z
  refine T1.le T2 (fun k hk => hl k (by omega)) (fun k hk => hh k (by omega)) ?_ ?_ k (by omega)
  · have := T.within 0 (by omega)
    have := T.within 1 (by omega)
    have := hl 0 (by omega)
    show r 0 ≤ r 1
    grind
  · have e : n - 1 - 1 + 1 = n - 1 := by omega
    have := T.within (n - 1 - 1) (by omega)
    have := T.within (n - 1) (by omega)
    have := hh (n - 1 - 1) (by omega)
    show r (n - 1 - 1) ≤ r (n - 1 - 1 + 1)
    rw [e] at *
    grind
/-- level places put ahead -/
theorem Taut.behind (T : Taut lo hi r n) (b : Nat) (t0 : lo 0 = hi 0) (r1 : 1 < n → r 0 ≤ r 1) {lo' hi' : Nat → Rat} (h1 : ∀ k, k < b → lo' k ≤ r 0 ∧ r 0 ≤ hi' k) (h2 : ∀ k, k < n → lo' (b + k) = lo k ∧ hi' (b + k) = hi k) :
    Taut lo' hi' (fun k => r (k - b)) (b + n) := by
  refine ⟨fun k hk => ?_, fun k k0 hk z => ?_, fun k k0 hk z => ?_⟩
  · show lo' k ≤ r (k - b) ∧ r (k - b) ≤ hi' k
    by_cases q : k < b
    · rw [show k - b = 0 by omega]
      exact h1 k q
    · obtain ⟨k, rfl⟩ : ∃ m, k = b + m := ⟨k - b, by omega⟩
      rw [(h2 k (by omega)).1, (h2 k (by omega)).2, Nat.add_sub_cancel_left]
      exact T.within k (by omega)
  · show r (k - b) = hi' k
    have z : r (k - b) - r (k - 1 - b) < r (k + 1 - b) - r (k - b) := z
    by_cases q : k < b
    · rw [show k - b = 0 by omega, show k - 1 - b = 0 by omega, show k + 1 - b = 0 by omega] at z
      grind
    · obtain ⟨k, rfl⟩ : ∃ m, k = b + m := ⟨k - b, by omega⟩
      rw [(h2 k (by omega)).2, Nat.add_sub_cancel_left]
      by_cases q0 : k = 0
      · subst q0
        have := T.within 0 (by omega)
        grind
      · rw [show b + k - b = k by omega, show b + k - 1 - b = k - 1 by omega, show b + k + 1 - b = k + 1 by omega] at z
        exact T.up k (by omega) (by omega) z
  · show r (k - b) = lo' k
    have z : r (k + 1 - b) - r (k - b) < r (k - b) - r (k - 1 - b) := z
    by_cases q : k < b
    · rw [show k - b = 0 by omega, show k - 1 - b = 0 by omega, show k + 1 - b = 0 by omega] at z
      grind
    · obtain ⟨k, rfl⟩ : ∃ m, k = b + m := ⟨k - b, by omega⟩
      rw [(h2 k (by omega)).1, Nat.add_sub_cancel_left]
      by_cases q0 : k = 0
      · subst q0
        have := T.within 0 (by omega)
        grind
      · rw [show b + k - b = k by omega, show b + k - 1 - b = k - 1 by omega, show b + k + 1 - b = k + 1 by omega] at z
        exact T.down k (by omega) (by omega) z
/-- a straight piece put behind a tied end -/
theorem Taut.piece {r2 lo2 hi2 : Nat → Rat} {h m : Nat} {v : Rat} (T : Taut lo hi r (h + 1)) (same : ∀ k, k < h → lo2 k = lo k ∧ hi2 k = hi k) (e : ∀ k, k ≤ h → r2 k = r k) (tie : lo2 h = r h ∧ hi2 h = r h)
    (st : ∀ k, h ≤ k → k < h + m → r2 (k + 1) = r2 k + v) (w : ∀ k, h < k → k < h + m + 1 → lo2 k ≤ r2 k ∧ r2 k ≤ hi2 k) : Taut lo2 hi2 r2 (h + m + 1) := by
  refine ⟨fun k hk => ?_, fun k k0 hk z => ?_, fun k k0 hk z => ?_⟩
  · rcases Nat.lt_trichotomy k h with q | q | q
    · rw [(same k q).1, (same k q).2, e k (by omega)]
      exact T.within k (by omega)
    · subst q
      rw [tie.1, tie.2, e k (by omega)]
      exact ⟨Rat.le_refl, Rat.le_refl⟩
    · exact w k q hk
  · rcases Nat.lt_trichotomy k h with q | q | q
    · rw [e k (by omega), e (k + 1) (by omega), e (k - 1) (by omega)] at z
      rw [(same k q).2, e k (by omega)]
      exact T.up k k0 (by omega) z
    · subst q
      rw [tie.2, e k (by omega)]
    · have a := st (k - 1) (by omega) (by omega)
      have b := st k (by omega) (by omega)
      rw [show k - 1 + 1 = k by omega] at a
      grind
  · rcases Nat.lt_trichotomy k h with q | q | q
    · rw [e k (by omega), e (k + 1) (by omega), e (k - 1) (by omega)] at z
      rw [(same k q).1, e k (by omega)]
      exact T.down k k0 (by omega) z
    · subst q
      rw [tie.1, e k (by omega)]
    · have a := st (k - 1) (by omega) (by omega)
      have b := st k (by omega) (by omega)
      rw [show k - 1 + 1 = k by omega] at a
      grind
end
/-! all later -/
def lateJ (b : Nat) (J : List Job) : List Job := J.map fun j => ⟨j.a + b, j.d + b, j.w⟩
theorem due_late (b : Nat) : ∀ (J : List Job) (h : Nat), dueF (lateJ b J) (b + h) = dueF J h
  | [], h => rfl
  | j :: J, h => by
    show (if j.d + b ≤ b + h then j.w else 0) + dueF (lateJ b J) (b + h) = (if j.d ≤ h then j.w else 0) + dueF J h
    rw [due_late b J h]
    by_cases q : j.d ≤ h
    · rw [if_pos q, if_pos (by omega)]
    · rw [if_neg q, if_neg (by omega)]
theorem come_late (b : Nat) : ∀ (J : List Job) (h : Nat), comeF (lateJ b J) (b + h) = comeF J h
  | [], h => rfl
  | j :: J, h => by
    show (if j.a + b < b + h then j.w else 0) + comeF (lateJ b J) (b + h) = (if j.a < h then j.w else 0) + comeF J h
    rw [come_late b J h]
    by_cases q : j.a < h
    · rw [if_pos q, if_pos (by omega)]
    · rw [if_neg q, if_neg (by omega)]
/-! turned about in time -/
def turnJ (l : Nat) (J : List Job) : List Job := J.reverse.map fun j => ⟨l - j.d, l - j.a, j.w⟩
theorem due_turn (l : Nat) : ∀ {J : List Job}, JobsOk J → (∀ j ∈ J, j.d ≤ l) → ∀ h, h ≤ l → dueF (turnJ l J) h = worksF J - comeF J (l - h)
  | [], _, _, h, _ => by show (0 : Rat) = 0 - 0; grind
  | j :: J, ok, hd, h, hl => by
    have ih := due_turn l ok.tail (fun x hx => hd x (List.mem_cons_of_mem _ hx)) h hl
    have := ok.head
    have h1 := hd j (List.mem_cons_self ..)
    have e : turnJ l (j :: J) = turnJ l J ++ [⟨l - j.d, l - j.a, j.w⟩] := by simp [turnJ]
    rw [e, dueF_append, ih]
    show worksF J - comeF J (l - h) + ((if l - j.a ≤ h then j.w else 0) + 0) = j.w + worksF J - ((if j.a < l - h then j.w else 0) + comeF J (l - h))
    by_cases q : j.a < l - h
    · rw [if_pos q, if_neg (by omega)]; grind
    · rw [if_neg q, if_pos (by omega)]; grind
theorem come_turn (l : Nat) : ∀ {J : List Job}, JobsOk J → (∀ j ∈ J, j.d ≤ l) → ∀ h, h ≤ l → comeF (turnJ l J) h = worksF J - dueF J (l - h)
  | [], _, _, h, _ => by show (0 : Rat) = 0 - 0; grind
  | j :: J, ok, hd, h, hl => by
    have ih := come_turn l ok.tail (fun x hx => hd x (List.mem_cons_of_mem _ hx)) h hl
    have := ok.head
    have h1 := hd j (List.mem_cons_self ..)
    have e : turnJ l (j :: J) = turnJ l J ++ [⟨l - j.d, l - j.a, j.w⟩] := by simp [turnJ]
    rw [e, comeF_append, ih]
    show worksF J - dueF J (l - h) + ((if l - j.d < h then j.w else 0) + 0) = j.w + worksF J - ((if j.d ≤ l - h then j.w else 0) + dueF J (l - h))
    by_cases q : j.d ≤ l - h
    · rw [if_pos q, if_neg (by omega)]; grind
    · rw [if_neg q, if_pos (by omega)]; grind
/-- the other way about, taken from a number -/
theorem Taut.away {lo hi r : Nat → Rat} {n : Nat} (T : Taut lo hi r n) (c : Rat) : Taut (fun k => c - hi k) (fun k => c - lo k) (fun k => c - r k) n :=
  ⟨fun k hk => by have := T.within k hk; constructor <;> grind, fun k k0 hk z => by have := T.down k k0 hk (by grind); grind, fun k k0 hk z => by have := T.up k k0 hk (by grind); grind⟩
/-! a job parted in two -/
theorem due_part {A B : List Job} {a d : Nat} {w v : Rat} (h : Nat) : dueF (A ++ [⟨a, d, v⟩, ⟨a, d, w - v⟩] ++ B) h = dueF (A ++ [⟨a, d, w⟩] ++ B) h := by
  rw [dueF_append, dueF_append, dueF_append, dueF_append]
  show dueF A h + ((if d ≤ h then v else 0) + ((if d ≤ h then w - v else 0) + 0)) + dueF B h = dueF A h + ((if d ≤ h then w else 0) + 0) + dueF B h
  split <;> grind
theorem come_part {A B : List Job} {a d : Nat} {w v : Rat} (h : Nat) : comeF (A ++ [⟨a, d, v⟩, ⟨a, d, w - v⟩] ++ B) h = comeF (A ++ [⟨a, d, w⟩] ++ B) h := by
  rw [comeF_append, comeF_append, comeF_append, comeF_append]
  show comeF A h + ((if a < h then v else 0) + ((if a < h then w - v else 0) + 0)) + comeF B h = comeF A h + ((if a < h then w else 0) + 0) + comeF B h
  split <;> grind
end Tt
namespace Gn
open PySem PySem.Spec PyProof.Rows L2 DL
noncomputable def b_is_whole : SF := sRet (eAnd (e1 (isTy "int") (eVar 0)) (eNot (e1 (isTy "bool") (eVar 0))))
noncomputable def m_is_whole : List D → Option D := runP 1 1 b_is_whole
noncomputable def t1_common : BF := bTst (e2 dNe (eVar 1) (eC (.int 0)))
noncomputable def l1_common : SF := sPar 0 1 (aCons (eVar 1) (aCons (e2 dMod (eVar 0) (eVar 1)) (aNil)))
noncomputable def b_common : SF := sSeq (sPar 0 1 (aCons (eCall bAbs (aCons (eVar 0) (aNil))) (aCons (eCall bAbs (aCons (eVar 1) (aNil))) (aNil)))) (sSeq (sWhile t1_common l1_common) (sRet (eVar 0)))
noncomputable def m_common : List D → Option D := runP 2 2 b_common
noncomputable def b_is_number : SF := sSeq (sIf (bOr (bNot (bTst (e1 (isTy "tuple") (eVar 0)))) (bOr (bTst (e2 dNe (eCall bLen (aCons (eVar 0) (aNil))) (eC (.int 2)))) (bNot (bTst (eCall bAll (aCons (eLc [1] (iSeq (eVar 0)) (gN 1) (bYes) (eCall m_is_whole (aCons (eVar 1) (aNil)))) (aNil))))))) (sRet (eC (.bl false))) (sNext)) (sRet (eAnd (e2 dGe (e2 dIx (eVar 0) (eC (.int 1))) (eC (.int 1))) (e2 dEq (eCall m_common (aCons (e2 dIx (eVar 0) (eC (.int 0))) (aCons (e2 dIx (eVar 0) (eC (.int 1))) (aNil)))) (eC (.int 1)))))
noncomputable def m_is_number : List D → Option D := runP 1 2 b_is_number
noncomputable def b_number : SF := sSeq (sIf (bTst (e2 dEq (eVar 1) (eC (.int 0)))) (sNever) (sNext)) (sSeq (sAsg (eCall m_common (aCons (eVar 0) (aCons (eVar 1) (aNil)))) (gN 2)) (sSeq (sIf (bTst (e2 dLt (eVar 1) (eC (.int 0)))) (sAsg (e2 dSub (eC (.int 0)) (eVar 2)) (gN 2)) (sNext)) (sRet (eTup (aCons (e2 dFdiv (eVar 0) (eVar 2)) (aCons (e2 dFdiv (eVar 1) (eVar 2)) (aNil)))))))
noncomputable def m_number : List D → Option D := runP 2 3 b_number
noncomputable def b_whole : SF := sRet (eTup (aCons (eVar 0) (aCons (eC (.int 1)) (aNil))))
noncomputable def m_whole : List D → Option D := runP 1 1 b_whole
noncomputable def b_added : SF := sRet (eCall m_number (aCons (e2 dAddL (e2 dMul (e2 dIx (eVar 0) (eC (.int 0))) (e2 dIx (eVar 1) (eC (.int 1)))) (e2 dMul (e2 dIx (eVar 1) (eC (.int 0))) (e2 dIx (eVar 0) (eC (.int 1))))) (aCons (e2 dMul (e2 dIx (eVar 0) (eC (.int 1))) (e2 dIx (eVar 1) (eC (.int 1)))) (aNil))))
noncomputable def m_added : List D → Option D := runP 2 2 b_added
noncomputable def b_taken : SF := sRet (eCall m_number (aCons (e2 dSub (e2 dMul (e2 dIx (eVar 0) (eC (.int 0))) (e2 dIx (eVar 1) (eC (.int 1)))) (e2 dMul (e2 dIx (eVar 1) (eC (.int 0))) (e2 dIx (eVar 0) (eC (.int 1))))) (aCons (e2 dMul (e2 dIx (eVar 0) (eC (.int 1))) (e2 dIx (eVar 1) (eC (.int 1)))) (aNil))))
noncomputable def m_taken : List D → Option D := runP 2 2 b_taken
noncomputable def b_parted : SF := sRet (eCall m_number (aCons (e2 dMul (e2 dIx (eVar 0) (eC (.int 0))) (e2 dIx (eVar 1) (eC (.int 1)))) (aCons (e2 dMul (e2 dIx (eVar 0) (eC (.int 1))) (e2 dIx (eVar 1) (eC (.int 0)))) (aNil))))
noncomputable def m_parted : List D → Option D := runP 2 2 b_parted
noncomputable def b_is_less : SF := sRet (e2 dLt (e2 dMul (e2 dIx (eVar 0) (eC (.int 0))) (e2 dIx (eVar 1) (eC (.int 1)))) (e2 dMul (e2 dIx (eVar 1) (eC (.int 0))) (e2 dIx (eVar 0) (eC (.int 1)))))
noncomputable def m_is_less : List D → Option D := runP 2 2 b_is_less
noncomputable def b_is_pair : SF := sSeq (sIf (bOr (bNot (bTst (e1 (isTy "tuple") (eVar 0)))) (bOr (bTst (e2 dNe (eCall bLen (aCons (eVar 0) (aNil))) (eC (.int 2)))) (bOr (bNot (bTst (eCall m_is_number (aCons (e2 dIx (eVar 0) (eC (.int 0))) (aNil))))) (bNot (bTst (eCall m_is_number (aCons (e2 dIx (eVar 0) (eC (.int 1))) (aNil)))))))) (sRet (eC (.bl false))) (sNext)) (sRet (eNot (eCall m_is_less (aCons (e2 dIx (eVar 0) (eC (.int 1))) (aCons (e2 dIx (eVar 0) (eC (.int 0))) (aNil))))))
noncomputable def m_is_pair : List D → Option D := runP 1 1 b_is_pair
noncomputable def b_is_tube : SF := sSeq (sIf (bOr (bNot (bTst (e1 (isTy "tuple") (eVar 0)))) (bNot (bTst (eChain dLe dLe (eC (.int 2)) (eCall bLen (aCons (eVar 0) (aNil))) (eC k_MOST_PLACES_tubes))))) (sRet (eC (.bl false))) (sNext)) (sRet (eCall bAll (aCons (eLc [1] (iSeq (eVar 0)) (gN 1) (bYes) (eCall m_is_pair (aCons (eVar 1) (aNil)))) (aNil))))
noncomputable def m_is_tube : List D → Option D := runP 1 2 b_is_tube
noncomputable def b_is_tied : SF := sRet (eAnd (eCall m_is_tube (aCons (eVar 0) (aNil))) (eAnd (e2 dEq (e2 dIx (e2 dIx (eVar 0) (eC (.int 0))) (eC (.int 0))) (e2 dIx (e2 dIx (eVar 0) (eC (.int 0))) (eC (.int 1)))) (e2 dEq (e2 dIx (e2 dIx (eVar 0) (e1 dNeg (eC (.int 1)))) (eC (.int 0))) (e2 dIx (e2 dIx (eVar 0) (e1 dNeg (eC (.int 1)))) (eC (.int 1))))))
noncomputable def m_is_tied : List D → Option D := runP 1 1 b_is_tied
noncomputable def b_check_tied : SF := sIf (bNot (bTst (eCall m_is_tied (aCons (eVar 0) (aNil))))) (sNever) (sNext)
noncomputable def m_check_tied : List D → Option D := runP 1 1 b_check_tied
noncomputable def b_are_numbers_tubes : SF := sRet (eAnd (e1 (isTy "tuple") (eVar 0)) (eAnd (eChain dLe dLe (eVar 1) (eCall bLen (aCons (eVar 0) (aNil))) (eVar 2)) (eCall bAll (aCons (eLc [3] (iSeq (eVar 0)) (gN 3) (bYes) (eCall m_is_number (aCons (eVar 3) (aNil)))) (aNil)))))
noncomputable def m_are_numbers_tubes : List D → Option D := runP 3 4 b_are_numbers_tubes
noncomputable def b_check_plain_row : SF := sIf (bNot (bTst (eCall m_are_numbers_tubes (aCons (eVar 0) (aCons (eC (.int 2)) (aCons (eC k_MOST_PLACES_tubes) (aNil))))))) (sNever) (sNext)
noncomputable def m_check_plain_row : List D → Option D := runP 1 1 b_check_plain_row
noncomputable def b_steps : SF := sSeq (sDrop (eCall m_check_plain_row (aCons (eVar 0) (aNil)))) (sRet (eCall bTuple (aCons (eLc [1] (iRng1 (aCons (e2 dSub (eCall bLen (aCons (eVar 0) (aNil))) (eC (.int 1))) (aNil))) (gN 1) (bYes) (eCall m_taken (aCons (e2 dIx (eVar 0) (e2 dAddL (eVar 1) (eC (.int 1)))) (aCons (e2 dIx (eVar 0) (eVar 1)) (aNil))))) (aNil))))
noncomputable def m_steps : List D → Option D := runP 1 2 b_steps
noncomputable def b_slope_to : SF := sSeq (sAsg (eVar 0) (gTup (gsCons (gN 2) (gsCons (gN 3) (gsNil))))) (sRet (eCall m_parted (aCons (eCall m_taken (aCons (eVar 1) (aCons (eVar 2) (aNil)))) (aCons (eCall m_whole (aCons (eVar 3) (aNil))) (aNil)))))
noncomputable def m_slope_to : List D → Option D := runP 2 4 b_slope_to
noncomputable def b_Reach___init__ : SF := sSeq (DL.sFld 0 0 "begin" (eVar 1)) (sSeq (DL.sFld 0 0 "height" (eVar 2)) (sSeq (DL.sFld 0 0 "most" (eC .non)) (DL.sFld 0 0 "least" (eC .non))))
noncomputable def m_Reach___init__ : List O → Option (D × List O) := runO [true, false, false] 3 b_Reach___init__
noncomputable def b_Reach_crossed : SF := sSeq (sIf (bAnd (bTst (e1 dNotN (eFld 0 0 "most"))) (bTst (eCall m_is_less (aCons (e2 dIx (eFld 0 0 "most") (eC (.int 0))) (aCons (eVar 1) (aNil)))))) (sRet (eFld 0 0 "most")) (sNext)) (sSeq (sIf (bAnd (bTst (e1 dNotN (eFld 0 0 "least"))) (bTst (eCall m_is_less (aCons (eVar 2) (aCons (e2 dIx (eFld 0 0 "least") (eC (.int 0))) (aNil)))))) (sRet (eFld 0 0 "least")) (sNext)) (sRet (eC .non)))
noncomputable def m_Reach_crossed : List O → Option (D × List O) := runO [true, false, false] 3 b_Reach_crossed
noncomputable def b_Reach_take : SF := sSeq (sAsg (eCall m_slope_to (aCons (eTup (aCons (eFld 0 0 "height") (aCons (e2 dSub (eVar 1) (eFld 0 0 "begin")) (aNil)))) (aCons (e2 dIx (eVar 2) (eC (.int 0))) (aNil)))) (gN 3)) (sSeq (sAsg (eCall m_slope_to (aCons (eTup (aCons (eFld 0 0 "height") (aCons (e2 dSub (eVar 1) (eFld 0 0 "begin")) (aNil)))) (aCons (e2 dIx (eVar 2) (eC (.int 1))) (aNil)))) (gN 4)) (sSeq (sAsg (eMeth 0 0 "crossed" m_Reach_crossed (aoVal (eVar 3) (aoVal (eVar 4) (aoNil)))) (gN 5)) (sSeq (sIf (bTst (e1 dIsN (eVar 5))) (sSeq (sIf (bOr (bTst (e1 dIsN (eFld 0 0 "most"))) (bNot (bTst (eCall m_is_less (aCons (e2 dIx (eFld 0 0 "most") (eC (.int 0))) (aCons (eVar 4) (aNil))))))) (DL.sFld 0 0 "most" (eTup (aCons (eVar 4) (aCons (eVar 1) (aCons (e2 dIx (eVar 2) (eC (.int 1))) (aNil)))))) (sNext)) (sIf (bOr (bTst (e1 dIsN (eFld 0 0 "least"))) (bNot (bTst (eCall m_is_less (aCons (eVar 3) (aCons (e2 dIx (eFld 0 0 "least") (eC (.int 0))) (aNil))))))) (DL.sFld 0 0 "least" (eTup (aCons (eVar 3) (aCons (eVar 1) (aCons (e2 dIx (eVar 2) (eC (.int 0))) (aNil)))))) (sNext))) (sNext)) (sRet (eVar 5)))))
noncomputable def m_Reach_take : List O → Option (D × List O) := runO [true, false, false] 6 b_Reach_take
noncomputable def l1_touch_behind : SF := sSeq (sAsg (eMeth 0 3 "take" m_Reach_take (aoVal (eVar 4) (aoVal (e2 dIx (eVar 0) (eVar 4)) (aoNil)))) (gN 5)) (sIf (bTst (e1 dNotN (eVar 5))) (sRet (eVar 5)) (sNext))
noncomputable def b_touch_behind : SF := sSeq (sMake 0 3 m_Reach___init__ (aCons (eVar 1) (aCons (eVar 2) (aNil)))) (sSeq (sFor (iRng2 (aCons (e2 dAddL (eVar 1) (eC (.int 1))) (aCons (eCall bLen (aCons (eVar 0) (aNil))) (aNil)))) (gN 4) l1_touch_behind) (sRet (eFld 0 3 "most")))
noncomputable def m_touch_behind : List D → Option D := runP 3 6 b_touch_behind
noncomputable def l1_drawn_to : SF := sApp 3 (eCall m_added (aCons (eBor 3 (e2 dIx (eVar 3) (e1 dNeg (eC (.int 1))))) (aCons (eVar 1) (aNil))))
noncomputable def b_drawn_to : SF := sSeq (sNew 3 (nList (aCons (eVar 0) (aNil)))) (sSeq (sFor (iRng1 (aCons (eVar 2) (aNil))) (gN 4) l1_drawn_to) (sRet (eFrz 3)))
noncomputable def m_drawn_to : List D → Option D := runP 3 5 b_drawn_to
noncomputable def t1_drawn : BF := bTst (e2 dLt (eCall bLen (aCons (eVar 1) (aNil))) (eCall bLen (aCons (eVar 0) (aNil))))
noncomputable def l1_drawn : SF := sSeq (sAsg (e2 dSub (eCall bLen (aCons (eVar 1) (aNil))) (eC (.int 1))) (gN 2)) (sSeq (sAsg (eCall m_touch_behind (aCons (eVar 0) (aCons (eVar 2) (aCons (e2 dIx (eVar 1) (eVar 2)) (aNil))))) (gTup (gsCons (gN 3) (gsCons (gN 4) (gsCons (gN 5) (gsNil)))))) (sAsg (eCall m_drawn_to (aCons (eVar 1) (aCons (eVar 3) (aCons (e2 dSub (eVar 4) (eVar 2)) (aNil))))) (gN 1)))
noncomputable def b_drawn : SF := sSeq (sAsg (eLst (aCons (e2 dIx (e2 dIx (eVar 0) (eC (.int 0))) (eC (.int 0))) (aNil))) (gN 1)) (sSeq (sWhile t1_drawn l1_drawn) (sRet (eCall bTuple (aCons (eVar 1) (aNil)))))
noncomputable def m_drawn : List D → Option D := runP 1 6 b_drawn
noncomputable def b_cord : SF := sSeq (sDrop (eCall m_check_tied (aCons (eVar 0) (aNil)))) (sRet (eCall m_drawn (aCons (eVar 0) (aNil))))
noncomputable def m_cord : List D → Option D := runP 1 1 b_cord
noncomputable def b_is_job_jobs : SF := sSeq (sIf (bOr (bNot (bTst (e1 (isTy "tuple") (eVar 0)))) (bOr (bTst (e2 dNe (eCall bLen (aCons (eVar 0) (aNil))) (eC (.int 3)))) (bOr (bNot (bTst (eCall m_is_whole (aCons (e2 dIx (eVar 0) (eC (.int 0))) (aNil))))) (bNot (bTst (eCall m_is_whole (aCons (e2 dIx (eVar 0) (eC (.int 1))) (aNil)))))))) (sRet (eC (.bl false))) (sNext)) (sRet (eAnd (eChain3 dLe dLt dLe (eC (.int 0)) (e2 dIx (eVar 0) (eC (.int 0))) (e2 dIx (eVar 0) (eC (.int 1))) (eC k_LAST_HOUR)) (eAnd (eCall m_is_number (aCons (e2 dIx (eVar 0) (eC (.int 2))) (aNil))) (eCall m_is_less (aCons (eC k_NOUGHT) (aCons (e2 dIx (eVar 0) (eC (.int 2))) (aNil)))))))
noncomputable def m_is_job_jobs : List D → Option D := runP 1 1 b_is_job_jobs
noncomputable def l1_is_jobs : SF := sIf (bOr (bTst (e2 dLt (e2 dIx (eVar 2) (eC (.int 0))) (e2 dIx (eVar 1) (eC (.int 0))))) (bTst (e2 dLt (e2 dIx (eVar 2) (eC (.int 1))) (e2 dIx (eVar 1) (eC (.int 1)))))) (sRet (eC (.bl false))) (sNext)
noncomputable def b_is_jobs : SF := sSeq (sIf (bOr (bNot (bTst (e1 (isTy "tuple") (eVar 0)))) (bOr (bNot (bTst (eChain dLe dLe (eC (.int 1)) (eCall bLen (aCons (eVar 0) (aNil))) (eC k_MOST_JOBS_jobs)))) (bNot (bTst (eCall bAll (aCons (eLc [1] (iSeq (eVar 0)) (gN 1) (bYes) (eCall m_is_job_jobs (aCons (eVar 1) (aNil)))) (aNil))))))) (sRet (eC (.bl false))) (sNext)) (sSeq (sFor (iZip (aCons (eVar 0) (aCons (eCut (eVar 0) (oSome (eC (.int 1))) (oNo)) (aNil)))) (gTup (gsCons (gN 1) (gsCons (gN 2) (gsNil)))) l1_is_jobs) (sRet (eC (.bl true))))
noncomputable def m_is_jobs : List D → Option D := runP 1 3 b_is_jobs
noncomputable def b_check_jobs : SF := sIf (bNot (bTst (eCall m_is_jobs (aCons (eVar 0) (aNil))))) (sNever) (sNext)
noncomputable def m_check_jobs : List D → Option D := runP 1 1 b_check_jobs
noncomputable def l2_job_tube : SF := sSeq (sIf (bTst (e2 dLe (eVar 6) (eVar 2))) (sAsg (eCall m_added (aCons (eVar 3) (aCons (eVar 7) (aNil)))) (gN 3)) (sNext)) (sIf (bTst (e2 dLt (eVar 5) (eVar 2))) (sAsg (eCall m_added (aCons (eVar 4) (aCons (eVar 7) (aNil)))) (gN 4)) (sNext))
noncomputable def l1_job_tube : SF := sSeq (sPar 3 4 (aCons (eC k_NOUGHT) (aCons (eC k_NOUGHT) (aNil)))) (sSeq (sFor (iSeq (eVar 0)) (gTup (gsCons (gN 5) (gsCons (gN 6) (gsCons (gN 7) (gsNil))))) l2_job_tube) (sApp 1 (eTup (aCons (eVar 3) (aCons (eVar 4) (aNil))))))
noncomputable def b_job_tube : SF := sSeq (sDrop (eCall m_check_jobs (aCons (eVar 0) (aNil)))) (sSeq (sNew 1 (nLst (aNil))) (sSeq (sFor (iRng1 (aCons (e2 dAddL (e2 dIx (e2 dIx (eVar 0) (e1 dNeg (eC (.int 1)))) (eC (.int 1))) (eC (.int 1))) (aNil))) (gN 2) l1_job_tube) (sRet (eCall bTuple (aCons (eFrz 1) (aNil))))))
noncomputable def m_job_tube : List D → Option D := runP 1 8 b_job_tube
noncomputable def b_speeds : SF := sRet (eCall m_steps (aCons (eCall m_cord (aCons (eCall m_job_tube (aCons (eVar 0) (aNil))) (aNil))) (aNil)))
noncomputable def m_speeds : List D → Option D := runP 1 1 b_speeds
noncomputable def t2_parts : BF := bTst (e2 dNe (eVar 6) (eC k_NOUGHT))
noncomputable def l2_parts : SF := sIf (bTst (e2 dEq (eBor 1 (e2 dIx (eVar 1) (eVar 2))) (eC k_NOUGHT))) (sAsg (e2 dAddL (eVar 2) (eC (.int 1))) (gN 2)) (sSeq (sAsg (eVar 6) (gN 8)) (sSeq (sIf (bTst (eCall m_is_less (aCons (eBor 1 (e2 dIx (eVar 1) (eVar 2))) (aCons (eVar 6) (aNil))))) (sAsg (eBor 1 (e2 dIx (eVar 1) (eVar 2))) (gN 8)) (sNext)) (sSeq (sApp 7 (eTup (aCons (eVar 2) (aCons (eVar 8) (aNil))))) (sSeq (sAsg (eCall m_taken (aCons (eBor 1 (e2 dIx (eVar 1) (eVar 2))) (aCons (eVar 8) (aNil)))) (gIx 1 (eVar 2))) (sAsg (eCall m_taken (aCons (eVar 6) (aCons (eVar 8) (aNil)))) (gN 6))))))
noncomputable def l1_parts : SF := sSeq (sNew 7 (nLst (aNil))) (sSeq (sWhile t2_parts l2_parts) (sApp 3 (eCall bTuple (aCons (eFrz 7) (aNil)))))
noncomputable def b_parts : SF := sSeq (sNew 1 (nList (aCons (eCall m_speeds (aCons (eVar 0) (aNil))) (aNil)))) (sSeq (sAsg (eC (.int 0)) (gN 2)) (sSeq (sNew 3 (nLst (aNil))) (sSeq (sFor (iSeq (eVar 0)) (gTup (gsCons (gN 4) (gsCons (gN 5) (gsCons (gN 6) (gsNil))))) l1_parts) (sRet (eCall bTuple (aCons (eFrz 3) (aNil)))))))
noncomputable def m_parts : List D → Option D := runP 1 9 b_parts
noncomputable def b__law_mixed : SF := sRet (e2 dMod (e2 dMul (eVar 0) (eC (.int 301029995663981195213738894724493026768189881462108541310427))) (e2 dPow (eC (.int 10)) (eC (.int 60))))
noncomputable def m__law_mixed : List D → Option D := runP 1 1 b__law_mixed
noncomputable def l1__law_pack : SF := sAsg (e2 dAddL (e2 dMul (eVar 2) (e2 dPow (eC (.int 10)) (eC (.int 60)))) (eCall m__law_mixed (aCons (e2 dIx (e2 dAddL (eCut (eVar 0) (oSome (eVar 3)) (oSome (e2 dAddL (eVar 3) (eC (.int 1))))) (eLst (aCons (e2 dAddL (e2 dMul (eC (.int 7907)) (eVar 3)) (eC (.int 53))) (aNil)))) (eC (.int 0))) (aNil)))) (gN 2)
noncomputable def b__law_pack : SF := sSeq (sAsg (eC (.int 0)) (gN 2)) (sSeq (sFor (iSeq (eLst (aCons (e2 dAddL (eVar 1) (eC (.int 1))) (aCons (eVar 1) (aNil))))) (gN 3) l1__law_pack) (sRetNew (nLst (aCons (eVar 2) (aNil)))))
noncomputable def m__law_pack : List D → Option (List D) := runN 2 4 b__law_pack
noncomputable def b__law_take : SF := sSeq (sAsg (eCall bDivmod (aCons (eBor 0 (e2 dIx (eVar 0) (eC (.int 0)))) (aCons (eVar 1) (aNil)))) (gTup (gsCons (gIx 0 (eC (.int 0))) (gsCons (gN 2) (gsNil))))) (sRet (eVar 2))
noncomputable def m__law_take : List O → Option (D × List O) := runO [true, false] 3 b__law_take
noncomputable def t1__law_low : BF := bTst (e2 dNe (eVar 3) (eC (.int 0)))
noncomputable def l1__law_low : SF := sPar 2 3 (aCons (eVar 3) (aCons (e2 dMod (eVar 2) (eVar 3)) (aNil)))
noncomputable def b__law_low : SF := sSeq (sPar 2 3 (aCons (eCall bAbs (aCons (eVar 0) (aNil))) (aCons (eCall bAbs (aCons (eVar 1) (aNil))) (aNil)))) (sSeq (sWhile t1__law_low l1__law_low) (sSeq (sIf (bTst (e2 dLt (eVar 1) (eC (.int 0)))) (sAsg (e2 dSub (eC (.int 0)) (eVar 2)) (gN 2)) (sNext)) (sRet (eTup (aCons (e2 dFdiv (eVar 0) (eVar 2)) (aCons (e2 dFdiv (eVar 1) (eVar 2)) (aNil)))))))
noncomputable def m__law_low : List D → Option D := runP 2 4 b__law_low
noncomputable def b__law_less_by : SF := sRet (eCall m__law_low (aCons (e2 dSub (e2 dMul (e2 dIx (eVar 0) (eC (.int 0))) (e2 dIx (eVar 1) (eC (.int 1)))) (e2 dMul (e2 dIx (eVar 1) (eC (.int 0))) (e2 dIx (eVar 0) (eC (.int 1))))) (aCons (e2 dMul (e2 dIx (eVar 0) (eC (.int 1))) (e2 dIx (eVar 1) (eC (.int 1)))) (aNil))))
noncomputable def m__law_less_by : List D → Option D := runP 2 2 b__law_less_by
noncomputable def b__law_by : SF := sRet (eCall m__law_low (aCons (e2 dMul (e2 dIx (eVar 0) (eC (.int 0))) (e2 dIx (eVar 1) (eC (.int 0)))) (aCons (e2 dMul (e2 dIx (eVar 0) (eC (.int 1))) (e2 dIx (eVar 1) (eC (.int 1)))) (aNil))))
noncomputable def m__law_by : List D → Option D := runP 2 2 b__law_by
noncomputable def l1__law_jobs : SF := sSeq (sAsg (eCall bMin (aCons (eC (.int 23)) (aCons (e2 dAddL (eVar 3) (eCallO m__law_take (aoOwn 0 (aoVal (eC (.int 4)) (aoNil))))) (aNil)))) (gN 3)) (sSeq (sAsg (eCall bMin (aCons (eC (.int 24)) (aCons (eCall bMax (aCons (eVar 4) (aCons (e2 dAddL (e2 dAddL (eVar 3) (eC (.int 1))) (eCallO m__law_take (aoOwn 0 (aoVal (eC (.int 6)) (aoNil))))) (aNil)))) (aNil)))) (gN 4)) (sApp 2 (eTup (aCons (eVar 3) (aCons (eVar 4) (aCons (eCall m__law_low (aCons (e2 dAddL (eC (.int 1)) (eCallO m__law_take (aoOwn 0 (aoVal (eC (.int 12)) (aoNil))))) (aCons (e2 dAddL (eC (.int 1)) (eCallO m__law_take (aoOwn 0 (aoVal (eC (.int 3)) (aoNil))))) (aNil)))) (aNil)))))))
noncomputable def b__law_jobs : SF := sSeq (sNew 2 (nLst (aNil))) (sSeq (sAsg (eCallO m__law_take (aoOwn 0 (aoVal (eC (.int 4)) (aoNil)))) (gN 3)) (sSeq (sAsg (eC (.int 0)) (gN 4)) (sSeq (sFor (iRng1 (aCons (e2 dAddL (eC (.int 1)) (eCallO m__law_take (aoOwn 0 (aoVal (eVar 1) (aoNil))))) (aNil))) (gN 5) l1__law_jobs) (sRet (eCall bTuple (aCons (eFrz 2) (aNil)))))))
noncomputable def m__law_jobs : List O → Option (D × List O) := runO [true, false] 6 b__law_jobs
noncomputable def b__law_later : SF := sRet (eCall bTuple (aCons (eLc [2, 3, 4] (iSeq (eVar 0)) (gTup (gsCons (gN 2) (gsCons (gN 3) (gsCons (gN 4) (gsNil))))) (bYes) (eTup (aCons (e2 dAddL (eVar 2) (eVar 1)) (aCons (e2 dAddL (eVar 3) (eVar 1)) (aCons (eVar 4) (aNil)))))) (aNil)))
noncomputable def m__law_later : List D → Option D := runP 2 5 b__law_later
noncomputable def b__law_greater : SF := sRet (eCall bTuple (aCons (eLc [2, 3, 4] (iSeq (eVar 0)) (gTup (gsCons (gN 2) (gsCons (gN 3) (gsCons (gN 4) (gsNil))))) (bYes) (eTup (aCons (eVar 2) (aCons (eVar 3) (aCons (eCall m__law_by (aCons (eVar 4) (aCons (eVar 1) (aNil)))) (aNil)))))) (aNil)))
noncomputable def m__law_greater : List D → Option D := runP 2 5 b__law_greater
noncomputable def b__law_parted : SF := sSeq (sAsg (e2 dIx (eVar 0) (eVar 1)) (gTup (gsCons (gN 3) (gsCons (gN 4) (gsCons (gN 5) (gsNil)))))) (sSeq (sAsg (eCall m__law_by (aCons (eVar 5) (aCons (eVar 2) (aNil)))) (gN 6)) (sSeq (sAsg (eTup (aCons (eTup (aCons (eVar 3) (aCons (eVar 4) (aCons (eVar 6) (aNil))))) (aCons (eTup (aCons (eVar 3) (aCons (eVar 4) (aCons (eCall m__law_less_by (aCons (eVar 5) (aCons (eVar 6) (aNil)))) (aNil))))) (aNil)))) (gN 7)) (sRet (e2 dAddL (e2 dAddL (eCut (eVar 0) (oNo) (oSome (eVar 1))) (eVar 7)) (eCut (eVar 0) (oSome (e2 dAddL (eVar 1) (eC (.int 1)))) (oNo))))))
noncomputable def m__law_parted : List D → Option D := runP 3 8 b__law_parted
noncomputable def b__law_turned : SF := sSeq (sAsg (e2 dIx (e2 dIx (eVar 0) (e1 dNeg (eC (.int 1)))) (eC (.int 1))) (gN 1)) (sRet (eCall bTuple (aCons (eLc [2, 3, 4] (iSeq (e1 dRev (eVar 0))) (gTup (gsCons (gN 2) (gsCons (gN 3) (gsCons (gN 4) (gsNil))))) (bYes) (eTup (aCons (e2 dSub (eVar 1) (eVar 3)) (aCons (e2 dSub (eVar 1) (eVar 2)) (aCons (eVar 4) (aNil)))))) (aNil))))
noncomputable def m__law_turned : List D → Option D := runP 1 5 b__law_turned
noncomputable def l1__law_apart_right : SF := sSeq (sAsg (e2 dAddL (eC (.int 1)) (eCallO m__law_take (aoOwn 0 (aoVal (eC (.int 4)) (aoNil))))) (gN 5)) (sSeq (sAsg (eCall m__law_low (aCons (e2 dAddL (eC (.int 1)) (eCallO m__law_take (aoOwn 0 (aoVal (eC (.int 30)) (aoNil))))) (aCons (e2 dAddL (eC (.int 1)) (eCallO m__law_take (aoOwn 0 (aoVal (eC (.int 4)) (aoNil))))) (aNil)))) (gN 6)) (sSeq (sApp 2 (eTup (aCons (eVar 1) (aCons (e2 dAddL (eVar 1) (eVar 5)) (aCons (eVar 6) (aNil)))))) (sSeq (sExt 3 (nRep (nLst (aCons (eCall m__law_by (aCons (eVar 6) (aCons (eTup (aCons (eC (.int 1)) (aCons (eVar 5) (aNil)))) (aNil)))) (aNil))) (eVar 5))) (sAsg (e2 dAddL (eVar 1) (eVar 5)) (gN 1)))))
noncomputable def b__law_apart_right : SF := sSeq (sAsg (eCallO m__law_take (aoOwn 0 (aoVal (eC (.int 3)) (aoNil)))) (gN 1)) (sSeq (sNew 2 (nLst (aNil))) (sSeq (sNew 3 (nRep (nLst (aCons (eTup (aCons (eC (.int 0)) (aCons (eC (.int 1)) (aNil)))) (aNil))) (eVar 1))) (sSeq (sFor (iRng1 (aCons (e2 dAddL (eC (.int 1)) (eCallO m__law_take (aoOwn 0 (aoVal (eC (.int 4)) (aoNil))))) (aNil))) (gN 4) l1__law_apart_right) (sRet (e2 dEq (eCall m_speeds (aCons (eCall bTuple (aCons (eFrz 2) (aNil))) (aNil))) (eCall bTuple (aCons (eFrz 3) (aNil))))))))
noncomputable def m__law_apart_right : List O → Option (D × List O) := runO [true] 7 b__law_apart_right
noncomputable def l1_law : SF := sSeq (sAsg (eCallO m__law_jobs (aoNew (nCall m__law_pack (aCons (eVar 0) (aCons (eVar 1) (aNil)))) (aoVal (eC (.int 8)) (aoNil)))) (gN 2)) (sSeq (sNew 3 (nCall m__law_pack (aCons (eVar 0) (aCons (e2 dAddL (eVar 1) (eC (.int 8))) (aNil))))) (sSeq (sAsg (eCall m_speeds (aCons (eVar 2) (aNil))) (gN 4)) (sSeq (sAsg (eCall m__law_low (aCons (e2 dAddL (eC (.int 1)) (eCallO m__law_take (aoOwn 3 (aoVal (eC (.int 7)) (aoNil))))) (aCons (e2 dAddL (eC (.int 1)) (eCallO m__law_take (aoOwn 3 (aoVal (eC (.int 6)) (aoNil))))) (aNil)))) (gN 5)) (sSeq (sAsg (eCallO m__law_take (aoOwn 3 (aoVal (e2 dSub (eC (.int 25)) (e2 dIx (e2 dIx (eVar 2) (e1 dNeg (eC (.int 1)))) (eC (.int 1)))) (aoNil)))) (gN 6)) (sSeq (sIf (bTst (e2 dNe (eCall m_speeds (aCons (eCall m__law_greater (aCons (eVar 2) (aCons (eVar 5) (aNil)))) (aNil))) (eCall bTuple (aCons (eLc [10] (iSeq (eVar 4)) (gN 10) (bYes) (eCall m__law_by (aCons (eVar 10) (aCons (eVar 5) (aNil))))) (aNil))))) (sRet (eC (.bl false))) (sNext)) (sSeq (sIf (bTst (e2 dNe (eCall m_speeds (aCons (eCall m__law_later (aCons (eVar 2) (aCons (eVar 6) (aNil)))) (aNil))) (e2 dAddL (e2 dMulT (eTup (aCons (eTup (aCons (eC (.int 0)) (aCons (eC (.int 1)) (aNil)))) (aNil))) (eVar 6)) (eVar 4)))) (sRet (eC (.bl false))) (sNext)) (sSeq (sAsg (eCall m__law_parted (aCons (eVar 2) (aCons (eCallO m__law_take (aoOwn 3 (aoVal (eCall bLen (aCons (eVar 2) (aNil))) (aoNil)))) (aCons (e2 dIx (eLst (aCons (eTup (aCons (eC (.int 1)) (aCons (eC (.int 2)) (aNil)))) (aCons (eTup (aCons (eC (.int 1)) (aCons (eC (.int 3)) (aNil)))) (aCons (eTup (aCons (eC (.int 3)) (aCons (eC (.int 4)) (aNil)))) (aNil))))) (eCallO m__law_take (aoOwn 3 (aoVal (eC (.int 3)) (aoNil))))) (aNil))))) (gN 7)) (sSeq (sIf (bOr (bTst (e2 dNe (eCall bLen (aCons (eCall m_parts (aCons (eVar 2) (aNil))) (aNil))) (eCall bLen (aCons (eVar 2) (aNil))))) (bOr (bTst (e2 dNe (eCall m_speeds (aCons (eVar 7) (aNil))) (eVar 4))) (bTst (e2 dNe (eCall bLen (aCons (eCall m_parts (aCons (eVar 7) (aNil))) (aNil))) (eCall bLen (aCons (eVar 7) (aNil))))))) (sRet (eC (.bl false))) (sNext)) (sSeq (sAsg (e2 dIx (e2 dIx (eVar 2) (eC (.int 0))) (eC (.int 0))) (gN 8)) (sSeq (sAsg (eCall m__law_turned (aCons (eCall m__law_later (aCons (eVar 2) (aCons (e2 dSub (eC (.int 0)) (eVar 8)) (aNil)))) (aNil))) (gN 9)) (sSeq (sIf (bOr (bNot (bTst (eCall m_is_jobs (aCons (eVar 9) (aNil))))) (bTst (e2 dNe (eCall m_speeds (aCons (eVar 9) (aNil))) (e1 dRev (eCut (eVar 4) (oSome (eVar 8)) (oNo)))))) (sRet (eC (.bl false))) (sNext)) (sIf (bNot (bTst (eCallO m__law_apart_right (aoOwn 3 (aoNil))))) (sRet (eC (.bl false))) (sNext)))))))))))))
noncomputable def b_law : SF := sSeq (sFor (iRng3 (aCons (eC (.int 0)) (aCons (eCall bMax (aCons (eC (.int 1)) (aCons (eCall bMin (aCons (eCall bLen (aCons (eVar 0) (aNil))) (aCons (eC (.int 8)) (aNil)))) (aNil)))) (aCons (eC (.int 2)) (aNil))))) (gN 1) l1_law) (sRet (eC (.bl true)))
noncomputable def m_law : List D → Option D := runP 1 11 b_law
end Gn
/-! ### what the defs of levelcord.numbers reckon -/
namespace Gn
open PySem PySem.Spec PyProof.Rows L2 DL
theorem common_loop (a b : Nat) : sWhile t1_common l1_common [.val (.int a), .val (.int b)] = some (.next [.val (.int (Nat.gcd a b)), .val (.int 0)]) := by
  induction b using Nat.strongRecOn generalizing a with
  | _ b ih =>
    rw [sWhile_eq, l1_common, t1_common]
    by_cases hb : b = 0
    · subst hb
      simp
    · have e : (b : Int) ≠ 0 := by omega
      have e2 : (a : Int).fmod b = ((a % b : Nat) : Int) := by rw [Int.fmod_eq_emod_of_nonneg _ (by omega)]; rfl
      have := ih (a % b) (Nat.mod_lt _ (by omega)) b
      simp only [v_bTst, v_e2, v_eVar, v_eC, List.getElem?_cons_succ, List.getElem?_cons_zero, Option.bind_some, v_neI, Option.map_some, v_tB, decide_eq_true_eq, ne_eq, e, not_false_eq_true, if_true, v_sPar, v_aCons, v_aNil, dMod, e2, List.length_cons, List.length_nil, List.set_cons_zero, List.set_cons_succ, decide_true]
      simp only [Nat.reduceAdd, Nat.reduceLT, and_self, if_true, Option.bind_some]
      rw [l1_common, t1_common] at this
      rw [this, Nat.gcd_comm b, ← Nat.gcd_rec, Nat.gcd_comm]
theorem c_common (a b : Int) : m_common [.int a, .int b] = some (.int (Int.gcd a b)) := by
  have ab : ∀ i : Int, (if i < 0 then -i else i) = (i.natAbs : Int) := fun i => by split <;> omega
  have := common_loop a.natAbs b.natAbs
  simp only [m_common, b_common, runP, List.length_cons, List.length_nil, Nat.reduceAdd, if_true, List.map_cons, List.map_nil, Nat.sub_self, List.replicate_zero, List.append_nil, v_sSeq, v_sPar, v_aCons, v_aNil, v_eCall, v_eVar, List.getElem?_cons_succ, List.getElem?_cons_zero, Option.bind_some, Option.map_some, bAbs, Nat.reduceLT, and_self, List.set_cons_zero, List.set_cons_succ, ab, this, v_sRet]
  rfl
theorem c_number {t b : Int} {n : Nat} (hb : b ≠ 0) (hs : b.natAbs < 2 ^ n) (hn : n ≤ 9000) : m_number [.int t, .int b] = some (numD (Rat.divInt t b)) := by
  have g0 : Int.gcd t b ≠ 0 := by rw [Ne, Int.gcd_eq_zero_iff]; exact fun h => hb h.2
  have gl : (Int.gcd t b).log2 < 9000 := by
    refine log2_of (Nat.lt_of_le_of_lt ?_ (Nat.lt_of_lt_of_le hs (Nat.pow_le_pow_right (by decide) hn))) (by decide)
    exact Nat.le_of_dvd (by omega) (Int.gcd_dvd_natAbs_right t b)
  obtain ⟨t', ht⟩ : (Int.gcd t b : Int) ∣ t := Int.gcd_dvd_left ..
  obtain ⟨b', hb'⟩ : (Int.gcd t b : Int) ∣ b := Int.gcd_dvd_right ..
  have q : (Rat.divInt t b).num = b.sign * t' ∧ ((Rat.divInt t b).den : Int) = b'.natAbs := by
    rw [Rat.num_divInt, Rat.den_divInt, if_neg hb, Int.gcd_comm b t]
    generalize Int.gcd t b = g at *
    subst ht
    refine ⟨?_, ?_⟩
    · rw [← Int.mul_assoc, Int.mul_comm _ (g : Int), Int.mul_assoc]
      exact Int.mul_ediv_cancel_left _ (by omega)
    · subst hb'
      rw [Int.natAbs_mul, Int.natAbs_natCast, Nat.mul_div_cancel_left _ (by omega)]
  generalize hg : Int.gcd t b = g at *
  rw [numD, q.1, q.2]
  have gi : (g : Int) ≠ 0 := by omega
  by_cases hl : b < 0
  · have f1 : t.fdiv (-(g : Int)) = b.sign * t' := by
      rw [ht, show (g : Int) * t' = (-g) * (-t') by rw [Int.neg_mul_neg], Int.mul_fdiv_cancel_left _ (by omega), Int.sign_eq_neg_one_of_neg hl]
      omega
    have f2 : b.fdiv (-(g : Int)) = b'.natAbs := by
      have b0 : b' < 0 := by
        rcases Int.lt_or_le b' 0 with h | h
        · exact h
        · exact absurd (hb' ▸ Int.mul_nonneg (by omega) h) (by omega)
      rw [hb', show (g : Int) * b' = (-g) * (-b') by rw [Int.neg_mul_neg], Int.mul_fdiv_cancel_left _ (by omega)]
      omega
    simp [m_number, b_number, runP, c_common, hg, hb, hl, dFdiv, f1, f2, gl, g0, cap]
  · have f1 : t.fdiv (g : Int) = b.sign * t' := by
      rw [ht, Int.mul_fdiv_cancel_left _ gi, Int.sign_eq_one_of_pos (by omega)]
      omega
    have f2 : b.fdiv (g : Int) = b'.natAbs := by
      have b0 : 0 < b' := by
        rcases Int.lt_or_le 0 b' with h | h
        · exact h
        · exact absurd (hb' ▸ Int.mul_nonpos_of_nonneg_of_nonpos (by omega) h) (by omega)
      rw [hb', Int.mul_fdiv_cancel_left _ gi]
      omega
    simp [m_number, b_number, runP, c_common, hg, hb, hl, dFdiv, f1, f2, gl, gi, g0, cap]
theorem szlog {n m : Nat} {a b : Int} (h : a.natAbs < 2 ^ n) (h1 : b.natAbs < 2 ^ m) (hn : n ≤ 4000) (hm : m ≤ 4000) : a.natAbs.log2 + b.natAbs.log2 < 100000000 := by
  have := log2_of (Nat.lt_of_lt_of_le h (Nat.pow_le_pow_right (by decide) hn)) (by decide)
  have := log2_of (Nat.lt_of_lt_of_le h1 (Nat.pow_le_pow_right (by decide) hm)) (by decide)
  omega
theorem mulI {n m : Nat} {a b : Int} (h : a.natAbs < 2 ^ n) (h1 : b.natAbs < 2 ^ m) (hn : n ≤ 4000) (hm : m ≤ 4000) : dMul (.int a) (.int b) = some (.int (a * b)) := if_pos (szlog h h1 hn hm)
theorem szden {n : Nat} {p : Rat} (h : Sz n p) : ((p.den : Int)).natAbs < 2 ^ n := h.2
theorem den0 (p q : Rat) : (p.den : Int) * q.den ≠ 0 := by
  have := p.den_nz
  have := q.den_nz
  exact Int.mul_ne_zero (by omega) (by omega)
theorem dens {n : Nat} {p q : Rat} (hp : Sz n p) (hq : Sz n q) (hn : n ≤ 4000) : ((p.den : Int) * q.den).natAbs < 2 ^ 8000 := by
  rw [Int.natAbs_mul]
  exact Nat.lt_of_lt_of_le (lt2_mul hp.2 hq.2) (Nat.pow_le_pow_right (by decide) (by omega))
section
variable {n : Nat} {p q : Rat} (hp : Sz n p) (hq : Sz n q) (hn : n ≤ 4000)
include hp hq hn
theorem c_added : m_added [numD p, numD q] = some (numD (p + q)) := by
  rw [Rat.add_divInt', ← c_number (den0 p q) (dens hp hq hn) (by decide)]
  simp [m_added, b_added, runP, numD, mulI hp.1 (szden hq) hn hn, mulI hq.1 (szden hp) hn hn, mulI (szden hp) (szden hq) hn hn]
  cases m_number [D.int (p.num * ↑q.den + q.num * ↑p.den), D.int (↑p.den * ↑q.den)] <;> rfl
theorem c_taken : m_taken [numD p, numD q] = some (numD (p - q)) := by
  rw [Rat.sub_divInt', ← c_number (den0 p q) (dens hp hq hn) (by decide)]
  simp [m_taken, b_taken, runP, numD, mulI hp.1 (szden hq) hn hn, mulI hq.1 (szden hp) hn hn, mulI (szden hp) (szden hq) hn hn]
  cases m_number [D.int (p.num * ↑q.den - q.num * ↑p.den), D.int (↑p.den * ↑q.den)] <;> rfl
theorem c_parted (z : q ≠ 0) : m_parted [numD p, numD q] = some (numD (p / q)) := by
  have n0 : (p.den : Int) * q.num ≠ 0 := by
    have := p.den_nz
    exact Int.mul_ne_zero (by omega) (fun h => z (Rat.num_eq_zero.mp h))
  have n1 : ((p.den : Int) * q.num).natAbs < 2 ^ 8000 := by
    rw [Int.natAbs_mul]
    exact Nat.lt_of_lt_of_le (lt2_mul hp.2 hq.1) (Nat.pow_le_pow_right (by decide) (by omega))
  rw [Rat.div_divInt' _ _ z, ← c_number n0 n1 (by decide)]
  simp [m_parted, b_parted, runP, numD, mulI hp.1 (szden hq) hn hn, mulI (szden hp) hq.1 hn hn]
  cases m_number [D.int (p.num * q.den), D.int (↑p.den * ↑q.num)] <;> rfl
theorem c_is_less : m_is_less [numD p, numD q] = some (.bl (decide (p < q))) := by
  simp [m_is_less, b_is_less, runP, numD, mulI hp.1 (szden hq) hn hn, mulI hq.1 (szden hp) hn hn, Rat.lt_iff]
end
theorem c_is_number (q : Rat) : m_is_number [numD q] = some (.bl true) := by
  have w : ∀ i : Int, m_is_whole [.int i] = some (.bl true) := fun i => rfl
  have d : 1 ≤ (q.den : Int) := by have := q.den_pos; omega
  have g : Int.gcd q.num q.den = 1 := q.reduced
  have l := lcD_map (g := gN 1) (fe := eCall m_is_whole (aCons (eVar 1) aNil)) (own := [1]) (s := [.val (.tup [.int q.num, .int q.den]), .un]) D.int (fun _ => .bl true) [q.num, (q.den : Int)] (fun a _ => ⟨_, _, rfl, by simp [w]; rfl, rfl⟩) (Nat.le_trans (m := 2) (Nat.le_refl _) (by decide))
  simp only [List.map_cons, List.map_nil] at l
  simp [m_is_number, b_is_number, runP, numD, isTy, bLen, l, bAll, boolsD, c_common, g, d]
end Gn
/-! ### drawn digits, and the laws' own numbers -/
namespace Gn
open PySem PySem.Spec PyProof.Rows L2 DL
theorem c_take {p z : Int} (h : 0 < z) (h1 : z < 1099511627776) : m__law_take [.lst [.int p], .val (.int z)] = some (.int (p % z), [.lst [.int (p / z)], .un]) := by
  have l : z.natAbs.log2 < 9000 := by
    have e : (2 : Nat) ^ 40 = 1099511627776 := by decide
    exact log2_of (Nat.lt_of_lt_of_le (m := 2 ^ 40) (by omega) (Nat.pow_le_pow_right (by decide) (by decide))) (by decide)
  simp [m__law_take, b__law_take, runO, bDivmod, h, l, ixN, keepO]
theorem md {p z : Int} (h : 0 < z) : 0 ≤ p % z ∧ p % z < z := ⟨Int.emod_nonneg p (by omega), Int.emod_lt_of_pos p h⟩
theorem bits_log {z : Int} (h : Builtin.Int.intBits z ≤ 1048576) : z.natAbs.log2 ≤ 10000000 := by
  unfold Builtin.Int.intBits at h
  split at h
  · rename_i e
    simp only [beq_iff_eq] at e
    subst e
    decide
  · omega
theorem cell_at {xs : List D} {k : Nat} {d : D} (h : k ≤ 100) (hl : xs.length ≤ 1000) :
    (dAddL (.lst (DL.cutD xs (some k) (some ((k : Int) + 1)))) (.lst [d])).bind (fun z => dIx z (.int 0)) = some ((xs[k]?).getD d) := by
  have e : DL.cutD xs (some k) (some ((k : Int) + 1)) = (xs.drop k).take 1 := by
    have h2 : HT.sIx xs.length xs.length (some ((k : Int) + 1)) = min (k + 1) xs.length := HT.sIx_nat _ _ (k + 1)
    rw [DL.cutD, h2, HT.sIx_nat]
    by_cases hk : k < xs.length
    · rw [Nat.min_eq_left (by omega), Nat.min_eq_left (by omega)]
      congr 1; omega
    · rw [List.drop_of_length_le (by omega), List.drop_of_length_le (by omega)]; simp
  have c1 : dAddL (.lst (DL.cutD xs (some k) (some ((k : Int) + 1)))) (.lst [d]) = some (.lst ((xs.drop k).take 1 ++ [d])) := by
    rw [e]
    exact if_pos (by rw [List.length_take]; unfold cap; simp; omega)
  rw [c1, Option.bind_some]
  by_cases hk : k < xs.length
  · rw [List.drop_eq_getElem_cons hk, List.take_succ_cons, List.cons_append, v_ixl, List.getElem?_eq_getElem hk]
    rfl
  · rw [List.drop_of_length_le (by omega)]
    simp [List.getElem?_eq_none (Nat.le_of_not_lt hk)]
/-- slices by places -/
theorem cut_all {xs : List D} : DL.cutD xs none none = xs := by
  rw [DL.cutD]; simp [HT.sIx]
theorem cut_to {xs : List D} {k : Nat} : DL.cutD xs none (some (k : Int)) = xs.take k := by
  rw [DL.cutD, HT.sIx_nat]
  simp only [HT.sIx, List.drop_zero, Nat.sub_zero]
  rw [List.take_eq_take_iff]; omega
theorem cut_from {xs : List D} {k : Nat} : DL.cutD xs (some (k : Int)) none = xs.drop k := by
  rw [DL.cutD, HT.sIx_nat]
  simp only [HT.sIx]
  by_cases h : k ≤ xs.length
  · rw [Nat.min_eq_left h, List.take_of_length_le (by simp)]
  · rw [Nat.min_eq_right (by omega), List.drop_of_length_le (by omega), List.drop_of_length_le (by omega)]; simp
theorem cut_nn {xs : List D} {j k : Nat} : DL.cutD xs (some (j : Int)) (some (k : Int)) = (xs.take k).drop j := by
  rw [DL.cutD, HT.sIx_nat, HT.sIx_nat]
  by_cases h : j ≤ xs.length
  · rw [Nat.min_eq_left h, List.drop_take]
    by_cases h2 : k ≤ xs.length
    · rw [Nat.min_eq_left h2]
    · rw [Nat.min_eq_right (by omega), List.take_of_length_le (by simp), List.take_of_length_le (by simp; omega)]
  · rw [Nat.min_eq_right (a := j) (by omega), List.drop_of_length_le (by omega), List.drop_of_length_le (l := xs.take k) (by rw [List.length_take]; omega)]
    simp
theorem sIx_m1 {n d : Nat} : HT.sIx n d (some (-1)) = n - 1 := by
  unfold HT.sIx
  simp
  omega
/-- [1:-1] -/
theorem cut_in {xs : List D} : DL.cutD xs (some 1) (some (-1)) = (xs.take (xs.length - 1)).drop 1 := by
  have := cut_nn (xs := xs) (j := 1) (k := xs.length - 1)
  rw [← this, DL.cutD, DL.cutD, sIx_m1, HT.sIx_nat xs.length xs.length (xs.length - 1), Nat.min_eq_left (by omega)]
  rfl
theorem cut_but {xs : List D} : DL.cutD xs none (some (-1)) = xs.take (xs.length - 1) := by
  have := cut_to (xs := xs) (k := xs.length - 1)
  rw [← this, DL.cutD, DL.cutD, sIx_m1, HT.sIx_nat xs.length xs.length (xs.length - 1), Nat.min_eq_left (by omega)]
theorem low_loop (t b : D) (x y : Nat) : sWhile t1__law_low l1__law_low [.val t, .val b, .val (.int x), .val (.int y)] = some (.next [.val t, .val b, .val (.int (Nat.gcd x y)), .val (.int 0)]) := by
  induction y using Nat.strongRecOn generalizing x with
  | _ y ih =>
    rw [sWhile_eq, l1__law_low, t1__law_low]
    by_cases hb : y = 0
    · subst hb
      simp
    · have e : (y : Int) ≠ 0 := by omega
      have e2 : (x : Int).fmod y = ((x % y : Nat) : Int) := by rw [Int.fmod_eq_emod_of_nonneg _ (by omega)]; rfl
      have := ih (x % y) (Nat.mod_lt _ (by omega)) y
      simp only [v_bTst, v_e2, v_eVar, v_eC, List.getElem?_cons_succ, List.getElem?_cons_zero, Option.bind_some, v_neI, Option.map_some, v_tB, decide_eq_true_eq, ne_eq, e, not_false_eq_true, if_true, v_sPar, v_aCons, v_aNil, dMod, e2, List.length_cons, List.length_nil, List.set_cons_zero, List.set_cons_succ, decide_true]
      simp only [Nat.reduceAdd, Nat.reduceLT, and_self, if_true, Option.bind_some]
      rw [l1__law_low, t1__law_low] at this
      rw [this, Nat.gcd_comm y, ← Nat.gcd_rec, Nat.gcd_comm]
theorem c_low {t b : Int} {n : Nat} (hb : b ≠ 0) (hs : b.natAbs < 2 ^ n) (hn : n ≤ 9000) : m__law_low [.int t, .int b] = some (numD (Rat.divInt t b)) := by
  rw [← c_number (n := n) (t := t) hb hs hn]
  have ab : ∀ i : Int, (if i < 0 then -i else i) = (i.natAbs : Int) := fun i => by split <;> omega
  have l := low_loop (.int t) (.int b) t.natAbs b.natAbs
  have hc := c_common t b
  simp [m__law_low, b__law_low, runP, m_number, b_number, bAbs, ab, l, hc, hb, Int.gcd]
  by_cases hl : b < 0
  · simp only [hl]
    cases h1 : dFdiv (D.int t) (D.int (-↑(t.natAbs.gcd b.natAbs))) <;> cases h2 : dFdiv (D.int b) (D.int (-↑(t.natAbs.gcd b.natAbs))) <;> simp [h1, h2, cap]
  · simp only [hl]
    cases h1 : dFdiv (D.int t) (D.int (↑(t.natAbs.gcd b.natAbs))) <;> cases h2 : dFdiv (D.int b) (D.int (↑(t.natAbs.gcd b.natAbs))) <;> simp [h1, h2, cap]
section
variable {n : Nat} {p q : Rat} (hp : Sz n p) (hq : Sz n q) (hn : n ≤ 4000)
include hp hq hn
theorem c_less_by : m__law_less_by [numD p, numD q] = some (numD (p - q)) := by
  rw [Rat.sub_divInt', ← c_low (den0 p q) (dens hp hq hn) (by decide)]
  simp [m__law_less_by, b__law_less_by, runP, numD, mulI hp.1 (szden hq) hn hn, mulI hq.1 (szden hp) hn hn, mulI (szden hp) (szden hq) hn hn]
  cases m__law_low [D.int (p.num * ↑q.den - q.num * ↑p.den), D.int (↑p.den * ↑q.den)] <;> rfl
theorem c_by : m__law_by [numD p, numD q] = some (numD (p * q)) := by
  rw [Rat.mul_divInt', ← c_low (den0 p q) (dens hp hq hn) (by decide)]
  simp [m__law_by, b__law_by, runP, numD, mulI hp.1 hq.1 hn hn, mulI (szden hp) (szden hq) hn hn]
  cases m__law_low [D.int (p.num * q.num), D.int (↑p.den * ↑q.den)] <;> rfl
end
end Gn
/-! ### what the defs of levelcord.cords draw -/
namespace Gn
open PySem PySem.Spec PyProof.Rows L2 DL Tt
def pairD (p : Rat × Rat) : D := .tup [numD p.1, numD p.2]
def SeqD (X : D) (xs : List D) : Prop := X = .tup xs ∨ X = .lst xs
theorem SeqD.len {X : D} {xs : List D} (h : SeqD X xs) : bLen [X] = some (.int xs.length) := by rcases h with rfl | rfl <;> rfl
theorem SeqD.ix {X : D} {xs : List D} (h : SeqD X xs) (k : Nat) : dIx X (.int k) = xs[k]? := by rcases h with rfl | rfl <;> exact v_atN
theorem SeqD.items {X : D} {xs : List D} (h : SeqD X xs) : items X = some xs := by rcases h with rfl | rfl <;> rfl
def loT (T : List (Rat × Rat)) (k : Nat) : Rat := (T.getD k (0, 0)).1
def hiT (T : List (Rat × Rat)) (k : Nat) : Rat := (T.getD k (0, 0)).2
theorem tube_at {T : List (Rat × Rat)} {k : Nat} (h : k < T.length) : (T.map pairD)[k]? = some (.tup [numD (loT T k), numD (hiT T k)]) := by
  simp [loT, hiT, pairD, h]
/-- tops and bottoms of all bounds are small -/
def TSz (b : Nat) (T : List (Rat × Rat)) : Prop := ∀ k, k < T.length → Sz b (loT T k) ∧ Sz b (hiT T k)
theorem sz_int {n : Nat} {t : Int} (h : t.natAbs < 2 ^ n) (h0 : 0 < n) : Sz n (t : Rat) := ⟨h, Nat.one_lt_two_pow (by omega)⟩
theorem numD_int (t : Int) : numD (t : Rat) = .tup [.int t, .int 1] := rfl
theorem c_whole (t : Int) : m_whole [.int t] = some (numD (t : Rat)) := by
  simp [m_whole, b_whole, runP, cap, numD_int]
/-- the slope from (a, h) to (k, y) -/
def slp (a : Nat) (h : Rat) (k : Nat) (y : Rat) : Rat := (y - h) / ((k : Rat) - a)
theorem cast_sub' {a k : Nat} (h : a < k) : (((k : Int) - (a : Int) : Int) : Rat) = (k : Rat) - a := by
  rw [Rat.intCast_sub]; rfl
theorem sz_slp {a k b : Nat} {h y : Rat} (hk : a < k) (k32 : k < 64) (hh : Sz b h) (hy : Sz b y) : Sz (2 * b + 9) (slp a h k y) := by
  have z : (k : Rat) - a ≠ 0 := by have := sub_pos' hk; grind
  have s1 : Sz 6 ((k : Rat) - a) := by
    rw [← cast_sub' hk]
    refine sz_int ?_ (by decide)
    have : (2 : Nat) ^ 6 = 64 := by decide
    omega
  exact Sz.divn (hy.subn hh (k := 2 * b + 1) (by omega)) s1 z (by omega)
theorem c_slope {a k b : Nat} {h y : Rat} (hk : a < k) (k32 : k < 64) (hh : Sz b h) (hy : Sz b y) (hb : b ≤ 1000) : m_slope_to [.tup [numD h, .int ((k : Int) - (a : Int))], numD y] = some (numD (slp a h k y)) := by
  have z : (k : Rat) - a ≠ 0 := by have := sub_pos' hk; grind
  have s1 : Sz 6 ((k : Rat) - a) := by
    rw [← cast_sub' hk]
    refine sz_int ?_ (by decide)
    have : (2 : Nat) ^ 6 = 64 := by decide
    omega
  have e1 := c_taken hy hh (by omega)
  have e2 := c_parted (n := 4000) ((hy.subn hh (k := 2 * b + 1) (by omega)).mono (by omega)) (s1.mono (by omega)) (by omega) z
  have e3 := c_whole ((k : Int) - (a : Int))
  rw [cast_sub' hk] at e3
  simp [m_slope_to, b_slope_to, runP, e1, e2, e3, slp]
/-! the funnel -/
abbrev Tc := Option (Rat × Nat × Rat)
def tD (m : Rat × Nat × Rat) : D := .tup [numD m.1, .int m.2.1, numD m.2.2]
def optD : Tc → D
  | none => .non
  | some m => tD m
def reachO (a : Nat) (h : Rat) (M L : Tc) : O := .obj 0 [("begin", .val (.int a)), ("height", .val (numD h)), ("most", .val (optD M)), ("least", .val (optD L))]
section
variable {o1 o2 o3 o4 o : O}
@[simp] theorem look_b : List.lookup ("begin" : Str) [(("begin" : Str), o1), ("height", o2), ("most", o3), ("least", o4)] = some o1 := rfl
@[simp] theorem look_h : List.lookup ("height" : Str) [(("begin" : Str), o1), ("height", o2), ("most", o3), ("least", o4)] = some o2 := rfl
@[simp] theorem look_m : List.lookup ("most" : Str) [(("begin" : Str), o1), ("height", o2), ("most", o3), ("least", o4)] = some o3 := rfl
@[simp] theorem look_l : List.lookup ("least" : Str) [(("begin" : Str), o1), ("height", o2), ("most", o3), ("least", o4)] = some o4 := rfl
@[simp] theorem look_c : List.lookup ("crossed" : Str) [(("begin" : Str), o1), ("height", o2), ("most", o3), ("least", o4)] = none := rfl
@[simp] theorem look_t : List.lookup ("take" : Str) [(("begin" : Str), o1), ("height", o2), ("most", o3), ("least", o4)] = none := rfl
@[simp] theorem put_m : putFO ("most" : Str) o [(("begin" : Str), o1), ("height", o2), ("most", o3), ("least", o4)] = [(("begin" : Str), o1), ("height", o2), ("most", o), ("least", o4)] := rfl
@[simp] theorem put_l : putFO ("least" : Str) o [(("begin" : Str), o1), ("height", o2), ("most", o3), ("least", o4)] = [(("begin" : Str), o1), ("height", o2), ("most", o3), ("least", o)] := rfl
@[simp] theorem put_0 : putFO ("begin" : Str) o [] = [(("begin" : Str), o)] := rfl
@[simp] theorem put_1 : putFO ("height" : Str) o [(("begin" : Str), o1)] = [(("begin" : Str), o1), ("height", o)] := rfl
@[simp] theorem put_2 : putFO ("most" : Str) o [(("begin" : Str), o1), ("height", o2)] = [(("begin" : Str), o1), ("height", o2), ("most", o)] := rfl
@[simp] theorem put_3 : putFO ("least" : Str) o [(("begin" : Str), o1), ("height", o2), ("most", o3)] = [(("begin" : Str), o1), ("height", o2), ("most", o3), ("least", o)] := rfl
end
theorem c_init (a : Nat) (h : Rat) : m_Reach___init__ [.obj 0 [], .val (.int a), .val (numD h)] = some (.non, [reachO a h none none, .un, .un]) := by
  simp [m_Reach___init__, b_Reach___init__, runO, DL.sFld, reachO, optD, keepO]
def crossF (M L : Tc) (x y : Rat) : Tc := match M with
  | some m => if m.1 < x then some m else match L with
    | some l => if y < l.1 then some l else none
    | none => none
  | none => none
/-- sizes of a funnel's slopes; both or none -/
def MLok (b : Nat) : Tc → Tc → Prop
  | none, none => True
  | some m, some l => Sz b m.1 ∧ Sz b l.1
  | _, _ => False
theorem c_crossed {a b : Nat} {h x y : Rat} {M L : Tc} (ok : MLok b M L) (hx : Sz b x) (hy : Sz b y) (hb : b ≤ 4000) : m_Reach_crossed [reachO a h M L, .val (numD x), .val (numD y)] = some (optD (crossF M L x y), [reachO a h M L, .un, .un]) := by
  match M, L, ok with
  | none, none, _ => simp [m_Reach_crossed, b_Reach_crossed, runO, reachO, optD, eFld, dNotN, crossF, keepO]
  | some m, some l, ⟨h1, h2⟩ =>
    have e1 := c_is_less h1 hx hb
    have e2 := c_is_less hy h2 hb
    by_cases z : m.1 < x
    · simp [m_Reach_crossed, b_Reach_crossed, runO, reachO, optD, tD, eFld, dNotN, crossF, keepO, e1, z]
    · by_cases z2 : y < l.1
      · simp [m_Reach_crossed, b_Reach_crossed, runO, reachO, optD, tD, eFld, dNotN, crossF, keepO, e1, z, e2, z2]
      · simp [m_Reach_crossed, b_Reach_crossed, runO, reachO, optD, tD, eFld, dNotN, crossF, keepO, e1, z, e2, z2]
def newM (M : Tc) (p : Nat) (y hy : Rat) : Tc := match M with
  | some m => if m.1 < y then some m else some (y, p, hy)
  | none => some (y, p, hy)
def newL (L : Tc) (p : Nat) (x hx : Rat) : Tc := match L with
  | some l => if x < l.1 then some l else some (x, p, hx)
  | none => some (x, p, hx)
theorem eMeth_eq {k i : Nat} {n : Str} {m : List O → Option (D × List O)} {fa : AOF} {s : S} {fs : List (Str × O)} (h : s[i]? = some (.obj k fs)) (h2 : fs.lookup n = none) {as : List DL.Arg} {s' : S} {q : List O × S} {r : D × List O} {s3 : S}
    (h3 : aoOwn i fa s = some (as, s')) (h4 : takeO s' as = some q) (h5 : m q.1 = some r) (h6 : putO q.2 as r.2 = some s3) : eMeth k i n m fa s = some (r.1, s3) := by
  unfold eMeth
  rw [h]
  simp only [h2, Option.isNone_none, and_self, if_true]
  unfold eCallO
  rw [h3, Option.bind_some, h4, Option.bind_some, h5, Option.bind_some, h6]
  rfl
theorem c_take' {a p b : Nat} {h u v : Rat} {M L : Tc} (hp : a < p) (p64 : p < 64) (ok : MLok (2 * b + 9) M L) (hh : Sz b h) (hu : Sz b u) (hv : Sz b v) (hb : b ≤ 1000) :
    m_Reach_take [reachO a h M L, .val (.int p), .val (.tup [numD u, numD v])] = some (optD (crossF M L (slp a h p u) (slp a h p v)), [if (crossF M L (slp a h p u) (slp a h p v)).isSome then reachO a h M L else reachO a h (newM M p (slp a h p v) v) (newL L p (slp a h p u) u), .un, .un]) := by
  have e1 := c_slope hp p64 hh hu hb
  have e2 := c_slope hp p64 hh hv hb
  have s1 := sz_slp hp p64 hh hu
  have s2 := sz_slp hp p64 hh hv
  have e3 := c_crossed (a := a) (h := h) ok s1 s2 (by omega)
  generalize slp a h p u = x at *
  generalize slp a h p v = y at *
  have e4 : ∀ o5 : O, eMeth 0 0 "crossed" m_Reach_crossed (aoVal (eVar 3) (aoVal (eVar 4) (aoNil))) [reachO a h M L, .val (.int p), .val (.tup [numD u, numD v]), .val (numD x), .val (numD y), o5] =
      some (optD (crossF M L x y), [reachO a h M L, .val (.int p), .val (.tup [numD u, numD v]), .val (numD x), .val (numD y), o5]) := fun o5 =>
    eMeth_eq (fs := [("begin", .val (.int a)), ("height", .val (numD h)), ("most", .val (optD M)), ("least", .val (optD L))]) (as := [.own 0, .val (numD x), .val (numD y)]) (q := ([reachO a h M L, .val (numD x), .val (numD y)], [.un, .val (.int p), .val (.tup [numD u, numD v]), .val (numD x), .val (numD y), o5])) rfl rfl rfl rfl e3 rfl
  match M, L, ok with
  | none, none, _ =>
    simp only [crossF, optD, reachO] at e4
    simp [m_Reach_take, b_Reach_take, runO, reachO, optD, tD, eFld, cap, e1, e2, e4, crossF, newM, newL, dIsN, keepO, DL.sFld]
  | some m, some l, ⟨h1, h2⟩ =>
    have e5 := c_is_less h1 s2 (by omega)
    have e6 := c_is_less s1 h2 (by omega)
    simp only [crossF, optD, reachO, apply_ite optD] at e4
    by_cases z : m.1 < x
    · simp only [z, if_true, optD, tD] at e4
      simp [m_Reach_take, b_Reach_take, runO, reachO, optD, tD, eFld, cap, e1, e2, e4, crossF, dIsN, keepO, DL.sFld, z]
    · by_cases z2 : y < l.1
      · simp only [z, z2, if_true, if_false, optD, tD] at e4
        simp [m_Reach_take, b_Reach_take, runO, reachO, optD, tD, eFld, cap, e1, e2, e4, crossF, dIsN, keepO, DL.sFld, z, z2]
      · simp only [z, z2, if_false, optD, tD] at e4
        by_cases z3 : m.1 < y <;> by_cases z4 : x < l.1 <;>
        simp [m_Reach_take, b_Reach_take, runO, reachO, optD, tD, eFld, cap, e1, e2, e4, e5, e6, crossF, newM, newL, dIsN, keepO, DL.sFld, z, z2, z3, z4]
/-- a funnel on its way -/
def FunO (b : Nat) (lo hi : Nat → Rat) (a : Nat) (h : Rat) (p : Nat) : Tc → Tc → Prop
  | none, none => p = a + 1
  | some m, some l => Fun lo hi a h p m.1 m.2.1 l.1 l.2.1 ∧ m.2.2 = hi m.2.1 ∧ l.2.2 = lo l.2.1 ∧ m.1 = slp a h m.2.1 m.2.2 ∧ l.1 = slp a h l.2.1 l.2.2 ∧ Sz (2 * b + 9) m.1 ∧ Sz (2 * b + 9) l.1
  | _, _ => False
theorem FunO.ml {b : Nat} {lo hi : Nat → Rat} {a p : Nat} {h : Rat} {M L : Tc} (F : FunO b lo hi a h p M L) : MLok (2 * b + 9) M L := by
  match M, L, F with
  | none, none, _ => trivial
  | some m, some l, F => exact ⟨F.2.2.2.2.2.1, F.2.2.2.2.2.2⟩
theorem FunO.next {b : Nat} {lo hi : Nat → Rat} {a p : Nat} {h : Rat} {M L : Tc} (F : FunO b lo hi a h p M L) (hp : a < p) (p64 : p < 64) (hn : lo p ≤ hi p) (hh : Sz b h) (h1 : Sz b (lo p)) (h2 : Sz b (hi p)) (c : crossF M L (slp a h p (lo p)) (slp a h p (hi p)) = none) :
    FunO b lo hi a h (p + 1) (newM M p (slp a h p (hi p)) (hi p)) (newL L p (slp a h p (lo p)) (lo p)) := by
  have s1 := sz_slp hp p64 hh h1
  have s2 := sz_slp hp p64 hh h2
  match M, L, F with
  | none, none, F =>
    obtain rfl : p = a + 1 := F
    exact ⟨Fun.first hn, rfl, rfl, rfl, rfl, s2, s1⟩
  | some m, some l, F =>
    obtain ⟨F, e1, e2, e3, e4, z1, z2⟩ := F
    have c1 : ¬ m.1 < slp a h p (lo p) := fun z => by simp [crossF, z] at c
    have c2 : ¬ slp a h p (hi p) < l.1 := fun z => by simp [crossF, c1, z] at c
    have N := F.next hp hn rfl rfl c1 c2
    have ey : (hi p - h) / ((p : Rat) - a) = slp a h p (hi p) := rfl
    have ex : (lo p - h) / ((p : Rat) - a) = slp a h p (lo p) := rfl
    rw [ex, ey] at N
    by_cases z3 : m.1 < slp a h p (hi p) <;> by_cases z4 : slp a h p (lo p) < l.1 <;> simp only [newM, newL, z3, z4, if_true, if_false] at N ⊢ <;> exact ⟨N, by first | exact e1 | rfl, by first | exact e2 | rfl, by first | exact e3 | rfl, by first | exact e4 | rfl, by assumption, by assumption⟩
theorem FunO.cross {b n : Nat} {lo hi : Nat → Rat} {a p : Nat} {h : Rat} {M L : Tc} (F : FunO b lo hi a h p M L) (hp : a < p) (hn : p < n) {m : Rat × Nat × Rat} (c : crossF M L (slp a h p (lo p)) (slp a h p (hi p)) = some m) :
    Tch lo hi n a h m.1 m.2.1 m.2.2 ∧ m.1 = slp a h m.2.1 m.2.2 ∧ (m.2.2 = lo m.2.1 ∨ m.2.2 = hi m.2.1) := by
  match M, L, F with
  | none, none, _ => simp [crossF] at c
  | some m', some l, F =>
    obtain ⟨F, e1, e2, e3, e4, z1, z2⟩ := F
    by_cases c1 : m'.1 < slp a h p (lo p)
    · simp only [crossF, c1, if_true, Option.some.injEq] at c
      subst c
      exact ⟨e1 ▸ F.up hp hn c1, e3, .inr e1⟩
    · by_cases c2 : slp a h p (hi p) < l.1
      · simp only [crossF, c1, c2, if_true, if_false, Option.some.injEq] at c
        subst c
        exact ⟨e2 ▸ F.down hp hn c2, e4, .inl e2⟩
      · simp [crossF, c1, c2] at c
theorem FunO.out {b n : Nat} {lo hi : Nat → Rat} {a : Nat} {h : Rat} {M L : Tc} (F : FunO b lo hi a h n M L) (ha : a + 1 < n) (tied : lo (n - 1) = hi (n - 1)) :
    ∃ m, M = some m ∧ Tch lo hi n a h m.1 m.2.1 m.2.2 ∧ m.1 = slp a h m.2.1 m.2.2 ∧ (m.2.2 = lo m.2.1 ∨ m.2.2 = hi m.2.1) := by
  match M, L, F with
  | none, none, F => exact absurd (show n = a + 1 from F) (by omega)
  | some m, some l, F =>
    obtain ⟨F, e1, e2, e3, e4, z1, z2⟩ := F
    exact ⟨m, rfl, e1 ▸ F.end_ ha tied, e3, .inr e1⟩
theorem touch_body {X : D} {T : List (Rat × Rat)} {a p b : Nat} {h : Rat} {M L : Tc} (hX : SeqD X (T.map pairD)) (hp : a < p) (hn : p < T.length) (n60 : T.length ≤ 60) (sz : TSz b T) (hh : Sz b h) (hb : b ≤ 1000) (ok : MLok (2 * b + 9) M L) (o5 : O) :
    l1_touch_behind [.val X, .val (.int a), .val (numD h), reachO a h M L, .val (.int p), o5] = some (match crossF M L (slp a h p (loT T p)) (slp a h p (hiT T p)) with
      | some m => .ret (.d (tD m)) [.val X, .val (.int a), .val (numD h), reachO a h M L, .val (.int p), .val (tD m)]
      | none => .next [.val X, .val (.int a), .val (numD h), reachO a h (newM M p (slp a h p (hiT T p)) (hiT T p)) (newL L p (slp a h p (loT T p)) (loT T p)), .val (.int p), .val .non]) := by
  obtain ⟨z1, z2⟩ := sz p hn
  have e1 := c_take' (M := M) (L := L) hp (by omega) ok hh z1 z2 hb
  have ex2 : dIx X (.int p) = some (.tup [numD (loT T p), numD (hiT T p)]) := by rw [hX.ix]; exact tube_at hn
  generalize slp a h p (loT T p) = x at *
  generalize slp a h p (hiT T p) = y at *
  have e4 : eMeth 0 3 "take" m_Reach_take (aoVal (eVar 4) (aoVal (e2 dIx (eVar 0) (eVar 4)) (aoNil))) [.val X, .val (.int a), .val (numD h), reachO a h M L, .val (.int p), o5] =
      some (optD (crossF M L x y), [.val X, .val (.int a), .val (numD h), if (crossF M L x y).isSome then reachO a h M L else reachO a h (newM M p y (hiT T p)) (newL L p x (loT T p)), .val (.int p), o5]) := by
    refine eMeth_eq (fs := [("begin", .val (.int a)), ("height", .val (numD h)), ("most", .val (optD M)), ("least", .val (optD L))]) (as := [.own 3, .val (.int p), .val (.tup [numD (loT T p), numD (hiT T p)])])
      (s' := [.val X, .val (.int a), .val (numD h), reachO a h M L, .val (.int p), o5]) (q := ([reachO a h M L, .val (.int p), .val (.tup [numD (loT T p), numD (hiT T p)])], [.val X, .val (.int a), .val (numD h), .un, .val (.int p), o5])) rfl rfl ?_ rfl e1 ?_
    · simp [aoOwn, isUn, reachO, aoVal, aoNil, ex2]
    · cases (crossF M L x y).isSome <;> simp [putO, isUn, reachO]
  simp only [l1_touch_behind, v_sSeq, v_sAsg, e4, Option.bind_some, v_gN, List.length_cons, List.length_nil]
  cases hc : crossF M L x y with
  | none => simp [optD, dNotN]
  | some m => simp [optD, dNotN, tD]
theorem touch_turn {X : D} {T : List (Rat × Rat)} {a p m b : Nat} {h : Rat} {M L : Tc} (hX : SeqD X (T.map pairD)) (hp : a < p) (hn : p < T.length) (n60 : T.length ≤ 60) (sz : TSz b T) (hh : Sz b h) (hb : b ≤ 1000) (ok : MLok (2 * b + 9) M L) (o4 o5 : O) :
    forD (gN 4) l1_touch_behind (rangeD p (m + 1)) [.val X, .val (.int a), .val (numD h), reachO a h M L, o4, o5] = match crossF M L (slp a h p (loT T p)) (slp a h p (hiT T p)) with
      | some t => some (.ret (.d (tD t)) [.val X, .val (.int a), .val (numD h), reachO a h M L, .val (.int p), .val (tD t)])
      | none => forD (gN 4) l1_touch_behind (rangeD ((p + 1 : Nat) : Int) m) [.val X, .val (.int a), .val (numD h), reachO a h (newM M p (slp a h p (hiT T p)) (hiT T p)) (newL L p (slp a h p (loT T p)) (loT T p)), .val (.int p), .val .non] := by
  have e := touch_body hX hp hn n60 sz hh hb ok o5
  have g : gN 4 (.int (p : Int)) [.val X, .val (.int a), .val (numD h), reachO a h M L, o4, o5] = some [.val X, .val (.int a), .val (numD h), reachO a h M L, .val (.int p), o5] := rfl
  rw [rangeD_succ, v_forD_cons, g, Option.bind_some, e, Option.bind_some]
  cases crossF M L (slp a h p (loT T p)) (slp a h p (hiT T p)) <;> rfl
theorem touch_loop {X : D} {T : List (Rat × Rat)} {a b : Nat} {h : Rat} (hX : SeqD X (T.map pairD)) (n60 : T.length ≤ 60) (sz : TSz b T) (hh : Sz b h) (hb : b ≤ 1000) (ok : ∀ k, k < T.length → loT T k ≤ hiT T k) (m : Nat) : ∀ (p : Nat) (M L : Tc) (o4 o5 : O), a < p → p + m = T.length → FunO b (loT T) (hiT T) a h p M L →
    (∃ (t : Rat × Nat × Rat) (s' : S), forD (gN 4) l1_touch_behind (rangeD p m) [.val X, .val (.int a), .val (numD h), reachO a h M L, o4, o5] = some (.ret (.d (tD t)) s') ∧ Tch (loT T) (hiT T) T.length a h t.1 t.2.1 t.2.2 ∧ t.1 = slp a h t.2.1 t.2.2 ∧ (t.2.2 = loT T t.2.1 ∨ t.2.2 = hiT T t.2.1)) ∨
    (∃ (M' L' : Tc) (o4' o5' : O), forD (gN 4) l1_touch_behind (rangeD p m) [.val X, .val (.int a), .val (numD h), reachO a h M L, o4, o5] = some (.next [.val X, .val (.int a), .val (numD h), reachO a h M' L', o4', o5']) ∧ FunO b (loT T) (hiT T) a h T.length M' L') := by
  induction m with
  | zero =>
    intro p M L o4 o5 hp hm F
    exact .inr ⟨M, L, o4, o5, by rw [rangeD_zero]; rfl, by rwa [show T.length = p by omega]⟩
  | succ m ih =>
    intro p M L o4 o5 hp hm F
    have pn : p < T.length := by omega
    rw [touch_turn hX hp pn n60 sz hh hb F.ml o4 o5]
    cases hc : crossF M L (slp a h p (loT T p)) (slp a h p (hiT T p)) with
    | some t => exact .inl ⟨t, _, rfl, F.cross hp pn hc⟩
    | none =>
      obtain ⟨z1, z2⟩ := sz p pn
      exact ih (p + 1) _ _ _ _ (by omega) (by omega) (F.next hp (by omega) (ok p pn) hh z1 z2 hc)
theorem c_touch {X : D} {T : List (Rat × Rat)} {a b : Nat} {h : Rat} (hX : SeqD X (T.map pairD)) (ha : a + 1 < T.length) (n60 : T.length ≤ 60) (sz : TSz b T) (hh : Sz b h) (hb : b ≤ 1000) (ok : ∀ k, k < T.length → loT T k ≤ hiT T k) (tied : loT T (T.length - 1) = hiT T (T.length - 1)) :
    ∃ (s : Rat) (q : Nat) (hq : Rat), Tch (loT T) (hiT T) T.length a h s q hq ∧ m_touch_behind [X, .int a, numD h] = some (.tup [numD s, .int q, numD hq]) ∧ Sz (2 * b + 9) s ∧ Sz b hq ∧ s = slp a h q hq ∧ (hq = loT T q ∨ hq = hiT T q) := by
  have mk : sMake 0 3 m_Reach___init__ (aCons (eVar 1) (aCons (eVar 2) (aNil))) [.val X, .val (.int a), .val (numD h), .un, .un, .un] = some (.next [.val X, .val (.int a), .val (numD h), reachO a h none none, .un, .un]) := by
    have := c_init a h
    simp only [sMake, v_aCons, v_aNil, v_eVar, List.getElem?_cons_succ, List.getElem?_cons_zero, Option.bind_some, Option.map_some, List.map_cons, List.map_nil, this, reachO]
    simp
  have ln := hX.len
  have rg : ∀ s : S, DL.iRng2 (aCons (e2 dAddL (eVar 1) (eC (.int 1))) (aCons (eCall bLen (aCons (eVar 0) (aNil))) (aNil))) (.val X :: .val (.int a) :: s) = some (rangeD ((a + 1 : Nat) : Int) (T.length - (a + 1)), .val X :: .val (.int a) :: s) := fun s => by
    refine rng2_ok (a + 1) T.length (by omega) (by omega) ?_
    simp only [v_aCons, v_aNil, v_e2, v_eC, v_eCall, v_eVar, List.getElem?_cons_succ, List.getElem?_cons_zero, Option.bind_some, Option.map_some, v_addL, ln, List.length_map, Int.natCast_add, Int.cast_ofNat_Int]
  have out : ∀ t : Rat × Nat × Rat, Tch (loT T) (hiT T) T.length a h t.1 t.2.1 t.2.2 → t.1 = slp a h t.2.1 t.2.2 → (t.2.2 = loT T t.2.1 ∨ t.2.2 = hiT T t.2.1) → Sz (2 * b + 9) t.1 ∧ Sz b t.2.2 := fun t T1 e1 e2 => by
    obtain ⟨z1, z2⟩ := sz t.2.1 T1.q2
    have z : Sz b t.2.2 := by rcases e2 with e | e <;> rw [e] <;> assumption
    exact ⟨e1 ▸ sz_slp T1.q1 (by have := T1.q2; omega) hh z, z⟩
  rcases touch_loop (h := h) hX n60 sz hh hb ok (T.length - (a + 1)) (a + 1) none none .un .un (by omega) (by omega) rfl with ⟨t, s', e, T1, e1, e2⟩ | ⟨M, L, o4, o5, e, F⟩
  · obtain ⟨z1, z2⟩ := out t T1 e1 e2
    refine ⟨t.1, t.2.1, t.2.2, T1, ?_, z1, z2, e1, e2⟩
    simp only [m_touch_behind, b_touch_behind, runP, List.length_cons, List.length_nil, Nat.zero_add, Nat.reduceAdd, if_true, List.map_cons, List.map_nil, Nat.reduceSub, List.replicate_succ, List.replicate_zero, List.cons_append, List.nil_append, v_sSeq, mk, Option.bind_some, v_sFor, rg, e, tD]
  · obtain ⟨m, rfl, T1, e1, e2⟩ := F.out ha tied
    obtain ⟨z1, z2⟩ := out m T1 e1 e2
    refine ⟨m.1, m.2.1, m.2.2, T1, ?_, z1, z2, e1, e2⟩
    simp only [m_touch_behind, b_touch_behind, runP, List.length_cons, List.length_nil, Nat.zero_add, Nat.reduceAdd, if_true, List.map_cons, List.map_nil, Nat.reduceSub, List.replicate_succ, List.replicate_zero, List.cons_append, List.nil_append, v_sSeq, mk, Option.bind_some, v_sFor, rg, e, v_sRet]
    simp [eFld, reachO, optD, tD]
theorem dIx_last {xs : List D} (h : 0 < xs.length) : dIx (.lst xs) (.int (-1)) = xs[xs.length - 1]? := by
  show atI xs (-1) = _
  unfold atI ixN
  rw [if_neg (by decide), if_pos (by omega)]
  simp only [Option.bind_some]
  congr 1
  omega
theorem map_last {R : List Rat} (h : 0 < R.length) : (R.map numD)[(R.map numD).length - 1]? = some (numD (at0 R (R.length - 1))) := by
  simp [at0, List.getD_eq_getElem?_getD, List.getElem?_map, List.getElem?_eq_getElem (show R.length - 1 < R.length by omega)]
theorem seg_succ (h s : Rat) (i : Nat) : seg h s (i + 1) = seg h s i ++ [h + s * ((i : Rat) + 1)] := by
  simp [seg, List.range_succ]
theorem seg_last {R : List Rat} {s : Rat} {i : Nat} (h : 0 < R.length) : at0 (R ++ seg (at0 R (R.length - 1)) s i) ((R ++ seg (at0 R (R.length - 1)) s i).length - 1) = at0 R (R.length - 1) + s * (i : Rat) := by
  have l : (R ++ seg (at0 R (R.length - 1)) s i).length - 1 = R.length - 1 + i := by rw [List.length_append, seg_len]; omega
  rw [l, at0_seg h (by omega) (by omega)]
  unfold ln
  rw [Rat.natCast_add]
  grind
theorem sz_line {b i : Nat} {h s : Rat} (hi : i ≤ 64) (hh : Sz b h) (hs : Sz (2 * b + 9) s) : Sz (3 * b + 19) (h + s * (i : Rat)) := by
  have p7 : (2 : Nat) ^ 7 = 128 := by decide
  have z : Sz 7 ((i : Int) : Rat) := sz_int (by omega) (by decide)
  exact hh.addn (hs.muln (q := (i : Rat)) z (k := 2 * b + 17) (by omega)) (by omega)
theorem drawn_to_loop {row many : D} {R : List Rat} {s : Rat} {b : Nat} (h0 : 0 < R.length) (hb : b ≤ 1000) (hh : Sz b (at0 R (R.length - 1))) (hs : Sz (2 * b + 9) s) (m : Nat) : ∀ (i : Nat) (o4 : O), i + m ≤ 60 → R.length ≤ 100 →
    ∃ o4', forD (gN 4) l1_drawn_to (rangeD i m) [.val row, .val (numD s), .val many, .lst ((R ++ seg (at0 R (R.length - 1)) s i).map numD), o4] = some (.next [.val row, .val (numD s), .val many, .lst ((R ++ seg (at0 R (R.length - 1)) s (i + m)).map numD), o4']) := by
  induction m with
  | zero => intro i o4 _ _; exact ⟨o4, rfl⟩
  | succ m ih =>
    intro i o4 hi hR
    have la := seg_last (R := R) (s := s) (i := i) h0
    have pos : 0 < (R ++ seg (at0 R (R.length - 1)) s i).length := by rw [List.length_append]; omega
    have ml := map_last pos
    rw [la] at ml
    have zl := sz_line (i := i) (by omega) hh hs
    have ad := c_added (n := 4000) (zl.mono (by omega)) (hs.mono (by omega)) (by decide)
    have nx : at0 R (R.length - 1) + s * (i : Rat) + s = at0 R (R.length - 1) + s * ((i : Rat) + 1) := by grind
    rw [nx] at ad
    have len : ((R ++ seg (at0 R (R.length - 1)) s i).map numD).length < cap := by
      rw [List.length_map, List.length_append, seg_len]; unfold cap; omega
    have st : (R ++ seg (at0 R (R.length - 1)) s i).map numD ++ [numD (at0 R (R.length - 1) + s * ((i : Rat) + 1))] = (R ++ seg (at0 R (R.length - 1)) s (i + 1)).map numD := by
      rw [seg_succ]; simp
    obtain ⟨o4', hr⟩ := ih (i + 1) (.val (.int i)) (by omega) hR
    rw [← st] at hr
    have dl := dIx_last (xs := (R ++ seg (at0 R (R.length - 1)) s i).map numD) (by rw [List.length_map]; exact pos)
    rw [ml] at dl
    refine ⟨o4', ?_⟩
    rw [show i + (m + 1) = i + 1 + m by omega, ← hr, rangeD_succ, v_forD_cons]
    generalize (R ++ seg (at0 R (R.length - 1)) s i).map numD = Lst at *
    generalize at0 R (R.length - 1) + s * (i : Rat) = lv at *
    generalize numD (at0 R (R.length - 1) + s * ((i : Rat) + 1)) = nn at *
    have bd : l1_drawn_to [.val row, .val (numD s), .val many, .lst Lst, .val (.int i)] = some (.next [.val row, .val (numD s), .val many, .lst (Lst ++ [nn]), .val (.int i)]) := by
      have nl : noL (numD lv) = true := rfl
      simp [l1_drawn_to, eBor, dl, nl, ad, len]
    have g : gN 4 (.int (i : Int)) [.val row, .val (numD s), .val many, .lst Lst, o4] = some [.val row, .val (numD s), .val many, .lst Lst, .val (.int i)] := rfl
    rw [g, Option.bind_some, bd, Option.bind_some]
theorem c_drawn_to {R : List Rat} {s : Rat} {b j : Nat} (h0 : 0 < R.length) (hb : b ≤ 1000) (hh : Sz b (at0 R (R.length - 1))) (hs : Sz (2 * b + 9) s) (hj : j ≤ 60) (hR : R.length ≤ 100) :
    m_drawn_to [.lst (R.map numD), numD s, .int j] = some (.lst ((R ++ seg (at0 R (R.length - 1)) s j).map numD)) := by
  obtain ⟨o4, e⟩ := drawn_to_loop (row := .lst (R.map numD)) (many := .int j) h0 hb hh hs j 0 .un (by omega) hR
  have e0 : (R ++ seg (at0 R (R.length - 1)) s 0) = R := by simp [seg]
  rw [e0, Nat.zero_add] at e
  have rg : ∀ st : S, DL.iRng1 (aCons (eVar 2) aNil) (.val (.lst (R.map numD)) :: .val (numD s) :: .val (.int j) :: st) = some (rangeD ((0 : Nat) : Int) j, .val (.lst (R.map numD)) :: .val (numD s) :: .val (.int j) :: st) := fun st => rng1_ok j (by omega) (by simp)
  simp only [m_drawn_to, b_drawn_to, runP, List.length_cons, List.length_nil, Nat.zero_add, Nat.reduceAdd, if_true, List.map_cons, List.map_nil, Nat.reduceSub, List.replicate_succ, List.replicate_zero, List.cons_append, List.nil_append, v_sSeq, v_sNew, nList, v_aCons, v_aNil, v_eVar, List.getElem?_cons_zero, Option.bind_some, Option.map_some]
  simp only [List.set_cons_succ, List.set_cons_zero, v_sFor, rg, Option.bind_some, Nat.reduceLT, if_true, e, v_sRet]
  simp [eFrz]
/-- between two bounds, so many parts of the way -/
def Form (T : List (Rat × Rat)) (x : Rat) : Prop := ∃ (i j d m : Nat) (u v : Rat), i < T.length ∧ j < T.length ∧ (u = loT T i ∨ u = hiT T i) ∧ (v = loT T j ∨ v = hiT T j) ∧ 0 < d ∧ d < T.length + 1 ∧ m ≤ d ∧ x = u + (v - u) / (d : Rat) * (m : Rat)
/-- a row on its way -/
structure Dr (b : Nat) (T : List (Rat × Rat)) (R : List Rat) : Prop where
  pre : Pre (loT T) (hiT T) T.length R
  here : Sz b (at0 R (R.length - 1))
  sz : ∀ k, k < R.length → Sz (3 * b + 19) (at0 R k)
  beg : at0 R 0 = loT T 0
  form : ∀ k, k < R.length → Form T (at0 R k)
  touch : ∃ i, i < T.length ∧ (at0 R (R.length - 1) = loT T i ∨ at0 R (R.length - 1) = hiT T i)
theorem Dr.step {b : Nat} {T : List (Rat × Rat)} {R : List Rat} (ok : ∀ k, k < T.length → loT T k ≤ hiT T k) (n60 : T.length ≤ 60) (d : Dr b T R) {s hq : Rat} {q : Nat} (T1 : Tch (loT T) (hiT T) T.length (R.length - 1) (at0 R (R.length - 1)) s q hq) (z1 : Sz (2 * b + 9) s) (z2 : Sz b hq) (es : s = slp (R.length - 1) (at0 R (R.length - 1)) q hq) (eq : hq = loT T q ∨ hq = hiT T q) :
    Dr b T (R ++ seg (at0 R (R.length - 1)) s (q - (R.length - 1))) ∧ (R ++ seg (at0 R (R.length - 1)) s (q - (R.length - 1))).length = q + 1 := by
  have h0 := d.pre.ne
  have q1 := T1.q1
  have q2 := T1.q2
  have len : (R ++ seg (at0 R (R.length - 1)) s (q - (R.length - 1))).length = q + 1 := by rw [List.length_append, seg_len]; omega
  refine ⟨⟨d.pre.step ok T1, ?_, fun k hk => ?_, ?_, fun k hk => ?_, ⟨q, q2, ?_⟩⟩, len⟩
  · rw [len, Nat.add_sub_cancel, at0_seg h0 (by omega) (by omega), ← T1.at_]; exact z2
  · rw [len] at hk
    by_cases h : k < R.length
    · rw [at0_left h]; exact d.sz k h
    · rw [at0_seg h0 (by omega) (by omega)]
      have e : ln (R.length - 1) (at0 R (R.length - 1)) s k = at0 R (R.length - 1) + s * ((k - (R.length - 1) : Nat) : Rat) := by
        unfold ln
        have : ((k - (R.length - 1) : Nat) : Rat) = (k : Rat) - ((R.length - 1 : Nat) : Rat) := by
          have e3 : (k : Rat) = ((k - (R.length - 1) : Nat) : Rat) + ((R.length - 1 : Nat) : Rat) := by
            rw [← Rat.natCast_add]; congr 1; omega
          grind
        rw [this]
      rw [e]
      exact sz_line (by omega) d.here z1
  · rw [at0_left h0]; exact d.beg
  · rw [len] at hk
    by_cases h : k < R.length
    · rw [at0_left h]; exact d.form k h
    · rw [at0_seg h0 (by omega) (by omega)]
      obtain ⟨i, hi, ei⟩ := d.touch
      refine ⟨i, q, q - (R.length - 1), k - (R.length - 1), at0 R (R.length - 1), hq, hi, q2, ei, eq, by omega, by omega, by omega, ?_⟩
      have c1 : ((k - (R.length - 1) : Nat) : Rat) = (k : Rat) - ((R.length - 1 : Nat) : Rat) := by
        have e3 : (k : Rat) = ((k - (R.length - 1) : Nat) : Rat) + ((R.length - 1 : Nat) : Rat) := by
          rw [← Rat.natCast_add]; congr 1; omega
        grind
      have c2 : ((q - (R.length - 1) : Nat) : Rat) = (q : Rat) - ((R.length - 1 : Nat) : Rat) := by
        have e3 : (q : Rat) = ((q - (R.length - 1) : Nat) : Rat) + ((R.length - 1 : Nat) : Rat) := by
          rw [← Rat.natCast_add]; congr 1; omega
        grind
      rw [c1, c2, es]
      rfl
  · rw [len, Nat.add_sub_cancel, at0_seg h0 (by omega) (by omega), ← T1.at_]; exact eq
theorem drawn_loop {X : D} {T : List (Rat × Rat)} {b : Nat} (hX : SeqD X (T.map pairD)) (n60 : T.length ≤ 60) (sz : TSz b T) (hb : b ≤ 1000) (ok : ∀ k, k < T.length → loT T k ≤ hiT T k) (tied : loT T (T.length - 1) = hiT T (T.length - 1)) (m : Nat) : ∀ (R : List Rat) (o2 o3 o4 o5 : O), T.length ≤ R.length + m → Dr b T R →
    ∃ (R' : List Rat) (o2' o3' o4' o5' : O), sWhile t1_drawn l1_drawn [.val X, .val (.lst (R.map numD)), o2, o3, o4, o5] = some (.next [.val X, .val (.lst (R'.map numD)), o2', o3', o4', o5']) ∧ Dr b T R' ∧ R'.length = T.length := by
  have ln := hX.len
  induction m with
  | zero =>
    intro R o2 o3 o4 o5 hm d
    have := d.pre.len
    refine ⟨R, o2, o3, o4, o5, ?_, d, by omega⟩
    have nl : ¬ (R.length < T.length) := by omega
    have bl : bLen [.lst (R.map numD)] = some (.int R.length) := by simp [bLen]
    have tt : t1_drawn [.val X, .val (.lst (R.map numD)), o2, o3, o4, o5] = some (false, [.val X, .val (.lst (R.map numD)), o2, o3, o4, o5]) := by
      simp only [t1_drawn, v_bTst, v_e2, v_eCall, v_aCons, v_aNil, v_eVar, List.getElem?_cons_succ, List.getElem?_cons_zero, Option.bind_some, Option.map_some, bl, ln, List.length_map, v_ltI, v_tB, Int.ofNat_lt, nl, decide_false]
    rw [sWhile_eq, tt, Option.bind_some]
    simp
  | succ m ih =>
    intro R o2 o3 o4 o5 hm d
    by_cases nl : R.length < T.length
    · have h0 := d.pre.ne
      obtain ⟨s, q, hq, T1, et, z1, z2, es, eq⟩ := c_touch hX (a := R.length - 1) (h := at0 R (R.length - 1)) (by omega) n60 sz d.here hb ok tied
      obtain ⟨d', len'⟩ := d.step ok n60 T1 z1 z2 es eq
      have q1 := T1.q1
      have q2 := T1.q2
      have cd := c_drawn_to (j := q - (R.length - 1)) h0 hb d.here z1 (by omega) (by omega)
      obtain ⟨R', o2', o3', o4', o5', e, dd, ll⟩ := ih (R ++ seg (at0 R (R.length - 1)) s (q - (R.length - 1))) (.val (.int ((R.length - 1 : Nat) : Int))) (.val (numD s)) (.val (.int q)) (.val (numD hq)) (by rw [len']; omega) d'
      refine ⟨R', o2', o3', o4', o5', ?_, dd, ll⟩
      have bl : bLen [.lst (R.map numD)] = some (.int R.length) := by simp [bLen]
      have c1 : (R.length : Int) - 1 = ((R.length - 1 : Nat) : Int) := by omega
      have c2 : (q : Int) - ((R.length - 1 : Nat) : Int) = ((q - (R.length - 1) : Nat) : Int) := by omega
      have ix : dIx (.lst (R.map numD)) (.int ((R.length - 1 : Nat) : Int)) = some (numD (at0 R (R.length - 1))) := by
        have := map_last h0
        rw [List.length_map] at this
        rw [v_dIxL]; exact this
      have tt : t1_drawn [.val X, .val (.lst (R.map numD)), o2, o3, o4, o5] = some (true, [.val X, .val (.lst (R.map numD)), o2, o3, o4, o5]) := by
        simp only [t1_drawn, v_bTst, v_e2, v_eCall, v_aCons, v_aNil, v_eVar, List.getElem?_cons_succ, List.getElem?_cons_zero, Option.bind_some, Option.map_some, bl, ln, List.length_map, v_ltI, v_tB, Int.ofNat_lt, nl, decide_true]
      have bd : l1_drawn [.val X, .val (.lst (R.map numD)), o2, o3, o4, o5] = some (.next [.val X, .val (.lst ((R ++ seg (at0 R (R.length - 1)) s (q - (R.length - 1))).map numD)), .val (.int ((R.length - 1 : Nat) : Int)), .val (numD s), .val (.int q), .val (numD hq)]) := by
        generalize (R ++ seg (at0 R (R.length - 1)) s (q - (R.length - 1))).map numD = LL at *
        generalize at0 R (R.length - 1) = hh at *
        generalize hj : q - (R.length - 1) = j at *
        generalize R.length - 1 = aa at *
        simp [l1_drawn, bl, c1, ix, et, c2, cd]
      rw [sWhile_eq, tt, Option.bind_some]
      simp only [if_true]
      rw [bd, Option.bind_some]
      exact e
    · have := d.pre.len
      refine ⟨R, o2, o3, o4, o5, ?_, d, by omega⟩
      have bl : bLen [.lst (R.map numD)] = some (.int R.length) := by simp [bLen]
      have tt : t1_drawn [.val X, .val (.lst (R.map numD)), o2, o3, o4, o5] = some (false, [.val X, .val (.lst (R.map numD)), o2, o3, o4, o5]) := by
        simp only [t1_drawn, v_bTst, v_e2, v_eCall, v_aCons, v_aNil, v_eVar, List.getElem?_cons_succ, List.getElem?_cons_zero, Option.bind_some, Option.map_some, bl, ln, List.length_map, v_ltI, v_tB, Int.ofNat_lt, nl, decide_false]
      rw [sWhile_eq, tt, Option.bind_some]
      simp
theorem c_drawn {X : D} {T : List (Rat × Rat)} {b : Nat} (hX : SeqD X (T.map pairD)) (n2 : 1 ≤ T.length) (n60 : T.length ≤ 60) (sz : TSz b T) (hb : b ≤ 1000) (ok : ∀ k, k < T.length → loT T k ≤ hiT T k) (tied : loT T (T.length - 1) = hiT T (T.length - 1)) :
    ∃ R : List Rat, R.length = T.length ∧ Taut (loT T) (hiT T) (at0 R) T.length ∧ m_drawn [X] = some (.tup (R.map numD)) ∧ (∀ k, k < R.length → Sz (3 * b + 19) (at0 R k)) ∧ at0 R 0 = loT T 0 ∧ ∀ k, k < R.length → Form T (at0 R k) := by
  obtain ⟨z1, z2⟩ := sz 0 (by omega)
  have d0 : Dr b T [loT T 0] := by
    refine ⟨⟨Nat.zero_lt_one, n2, fun k hk => ?_, fun k h1 h2 => ?_, .inl rfl⟩, z1, fun k hk => ?_, rfl, fun k hk => ?_, 0, by omega, .inl rfl⟩
    · have : k = 0 := by simpa using hk
      subst this
      exact ⟨Rat.le_refl, ok 0 (by omega)⟩
    · simp at h2
    · have : k = 0 := by simpa using hk
      subst this
      exact z1.mono (by omega)
    · have : k = 0 := by simpa using hk
      subst this
      refine ⟨0, 0, 1, 0, loT T 0, loT T 0, by omega, by omega, .inl rfl, .inl rfl, by omega, by omega, by omega, ?_⟩
      show loT T 0 = _
      have : ((0 : Nat) : Rat) = 0 := rfl
      grind
  obtain ⟨R, o2, o3, o4, o5, e, d, l⟩ := drawn_loop hX n60 sz hb ok tied T.length [loT T 0] .un .un .un .un (by simp) d0
  refine ⟨R, l, d.pre.taut l, ?_, d.sz, d.beg, d.form⟩
  have i0 : dIx X (.int 0) = some (.tup [numD (loT T 0), numD (hiT T 0)]) := (hX.ix 0).trans (tube_at (by omega))
  simp only [List.map_cons, List.map_nil] at e
  simp [m_drawn, b_drawn, runP, i0, cap, e, bTuple]
end Gn
/-! ### what the defs of levelcord.tubes tell -/
namespace Gn
open PySem PySem.Spec PyProof.Rows L2 DL Tt
/-- a tube: so many places, lows at most highs, small numbers -/
structure TubeOk (b : Nat) (T : List (Rat × Rat)) : Prop where
  n2 : 2 ≤ T.length
  n25 : T.length ≤ 25
  ok : ∀ k, k < T.length → loT T k ≤ hiT T k
  sz : TSz b T
def tubeX (T : List (Rat × Rat)) : D := .tup (T.map pairD)
theorem tubeX_seq (T : List (Rat × Rat)) : SeqD (tubeX T) (T.map pairD) := .inl rfl
theorem mem_tube {T : List (Rat × Rat)} {p : Rat × Rat} (h : p ∈ T) : ∃ k, k < T.length ∧ p = (loT T k, hiT T k) := by
  obtain ⟨k, hk, e⟩ := List.getElem_of_mem h
  exact ⟨k, hk, by simp [loT, hiT, hk, e]⟩
theorem c_is_pair {b : Nat} {p : Rat × Rat} (h1 : Sz b p.1) (h2 : Sz b p.2) (hb : b ≤ 4000) : m_is_pair [pairD p] = some (.bl (decide (p.1 ≤ p.2))) := by
  have e := c_is_less h2 h1 hb
  have e3 : (!decide (p.2 < p.1)) = decide (p.1 ≤ p.2) := by
    rw [← decide_not, decide_eq_decide]; grind
  simp [m_is_pair, b_is_pair, runP, pairD, isTy, bLen, c_is_number, e, e3]
theorem c_is_tube {b : Nat} {T : List (Rat × Rat)} (t : TubeOk b T) (hb : b ≤ 4000) : m_is_tube [tubeX T] = some (.bl true) := by
  have n2 := t.n2
  have n25 := t.n25
  have l := lcD_map (g := gN 1) (fe := eCall m_is_pair (aCons (eVar 1) aNil)) (own := [1]) (s := [.val (tubeX T), .un]) pairD (fun _ => .bl true) T (fun p hp => ⟨[.val (tubeX T), .val (pairD p)], [.val (tubeX T), .val (pairD p)], rfl, by
    obtain ⟨k, hk, rfl⟩ := mem_tube hp
    obtain ⟨z1, z2⟩ := t.sz k hk
    have e := c_is_pair (p := (loT T k, hiT T k)) z1 z2 hb
    have e3 := t.ok k hk
    simp only at e
    simp [e, e3], rfl⟩) (Nat.le_trans n25 (by decide))
  have c1 : (2 : Int) ≤ (T.length : Nat) := by omega
  have c2 : ((T.length : Nat) : Int) ≤ 25 := by omega
  simp only [tubeX] at l ⊢
  simp [m_is_tube, b_is_tube, runP, isTy, bLen, k_MOST_PLACES_tubes, c1, c2, l, bAll, boolsD_map]
theorem dIx_lastT {xs : List D} (h : 0 < xs.length) : dIx (.tup xs) (.int (-1)) = xs[xs.length - 1]? := dIx_last (xs := xs) h
theorem tubeX_last {T : List (Rat × Rat)} (h : 0 < T.length) : dIx (tubeX T) (.int (-1)) = some (.tup [numD (loT T (T.length - 1)), numD (hiT T (T.length - 1))]) := by
  unfold tubeX
  rw [dIx_lastT (by rw [List.length_map]; exact h), List.length_map, tube_at (by omega)]
theorem tubeX_first {T : List (Rat × Rat)} (h : 0 < T.length) : dIx (tubeX T) (.int 0) = some (.tup [numD (loT T 0), numD (hiT T 0)]) := ((tubeX_seq T).ix 0).trans (tube_at h)
structure TiedOk (b : Nat) (T : List (Rat × Rat)) : Prop extends TubeOk b T where
  first : loT T 0 = hiT T 0
  last : loT T (T.length - 1) = hiT T (T.length - 1)
theorem c_is_tied {b : Nat} {T : List (Rat × Rat)} (t : TubeOk b T) (hb : b ≤ 4000) : m_is_tied [tubeX T] = some (.bl (decide (loT T 0 = hiT T 0 ∧ loT T (T.length - 1) = hiT T (T.length - 1)))) := by
  have n2 := t.n2
  have z1 := c_is_tube t hb
  have z2 := tubeX_first (T := T) (by omega)
  have z3 := tubeX_last (T := T) (by omega)
  generalize tubeX T = X at *
  by_cases a : loT T 0 = hiT T 0 <;> simp [m_is_tied, b_is_tied, runP, z1, z2, z3, a]
theorem c_check_tied {b : Nat} {T : List (Rat × Rat)} (t : TiedOk b T) (hb : b ≤ 4000) : m_check_tied [tubeX T] = some .non := by
  have z1 := c_is_tied t.toTubeOk hb
  rw [decide_eq_true ⟨t.first, t.last⟩] at z1
  generalize tubeX T = X at *
  simp [m_check_tied, b_check_tied, runP, z1]
def rowX (R : List Rat) : D := .tup (R.map numD)
/-- the cord -/
theorem c_cord {b : Nat} {T : List (Rat × Rat)} (t : TiedOk b T) (hb : b ≤ 1000) :
    ∃ R : List Rat, R.length = T.length ∧ Taut (loT T) (hiT T) (at0 R) T.length ∧ m_cord [tubeX T] = some (rowX R) ∧ (∀ k, k < R.length → Sz (3 * b + 19) (at0 R k)) ∧ (∀ k, k < R.length → Form T (at0 R k)) := by
  have n2 := t.n2
  have n25 := t.n25
  obtain ⟨R, h1, h2, h3, h4, h5, h6⟩ := c_drawn (tubeX_seq T) (by omega) (by omega) t.sz hb t.ok t.last
  refine ⟨R, h1, h2, ?_, h4, h6⟩
  have z := c_check_tied t (by omega)
  unfold rowX
  generalize tubeX T = X at *
  simp [m_cord, b_cord, runP, z, h3]
theorem c_are_numbers {R : List Rat} {i j : Int} (h1 : i ≤ (R.length : Nat)) (h2 : ((R.length : Nat) : Int) ≤ j) (hc : R.length ≤ 1000) : m_are_numbers_tubes [rowX R, .int i, .int j] = some (.bl true) := by
  have l := lcD_map (g := gN 3) (fe := eCall m_is_number (aCons (eVar 3) aNil)) (own := [3]) (s := [.val (rowX R), .val (.int i), .val (.int j), .un]) numD (fun _ => .bl true) R (fun p hp => ⟨[.val (rowX R), .val (.int i), .val (.int j), .val (numD p)], [.val (rowX R), .val (.int i), .val (.int j), .val (numD p)], rfl, by
    simp [c_is_number p], rfl⟩) (Nat.le_trans hc (by decide))
  simp only [rowX] at l ⊢
  simp [m_are_numbers_tubes, b_are_numbers_tubes, runP, isTy, bLen, h1, h2, l, bAll, boolsD_map]
theorem c_check_plain {R : List Rat} (h1 : 2 ≤ R.length) (h2 : R.length ≤ 25) : m_check_plain_row [rowX R] = some .non := by
  have e := c_are_numbers (R := R) (i := 2) (j := 25) (by omega) (by omega) (by omega)
  simp [m_check_plain_row, b_check_plain_row, runP, k_MOST_PLACES_tubes, e]
def stepsR (R : List Rat) : List Rat := (List.range (R.length - 1)).map fun k => at0 R (k + 1) - at0 R k
theorem row_at {R : List Rat} {k : Nat} (h : k < R.length) : dIx (rowX R) (.int (k : Int)) = some (numD (at0 R k)) := by
  unfold rowX
  rw [v_dIxT]
  simp [at0, h]
theorem c_steps {R : List Rat} {b : Nat} (h1 : 2 ≤ R.length) (h2 : R.length ≤ 25) (sz : ∀ k, k < R.length → Sz b (at0 R k)) (hb : b ≤ 4000) : m_steps [rowX R] = some (rowX (stepsR R)) := by
  have e := c_check_plain h1 h2
  have rg : ∀ st : S, DL.iRng1 (aCons (e2 dSub (eCall bLen (aCons (eVar 0) (aNil))) (eC (.int 1))) (aNil)) (.val (rowX R) :: st) = some (rangeD 0 (R.length - 1), .val (rowX R) :: st) := fun st => by
    refine rng1_ok (R.length - 1) (by omega) ?_
    have c1 : (R.length : Int) - 1 = ((R.length - 1 : Nat) : Int) := by omega
    simp [rowX, bLen, c1]
  have r0 : rangeD 0 (R.length - 1) = (List.range (R.length - 1)).map fun (k : Nat) => D.int (k : Int) := by
    unfold rangeD
    exact List.map_congr_left fun k _ => by rw [Int.zero_add]
  have l := lcD_map (g := gN 1) (fe := eCall m_taken (aCons (e2 dIx (eVar 0) (e2 dAddL (eVar 1) (eC (.int 1)))) (aCons (e2 dIx (eVar 0) (eVar 1)) (aNil)))) (own := [1]) (s := [.val (rowX R), .un]) (fun (k : Nat) => D.int (k : Int)) (fun k => numD (at0 R (k + 1) - at0 R k)) (List.range (R.length - 1))
    (fun k hk => ⟨[.val (rowX R), .val (.int (k : Int))], [.val (rowX R), .val (.int (k : Int))], rfl, by
      have hk := List.mem_range.mp hk
      have r1 := row_at (R := R) (k := k) (by omega)
      have r2 := row_at (R := R) (k := k + 1) (by omega)
      have c1 : ((k : Int)) + 1 = ((k + 1 : Nat) : Int) := by omega
      have tk := c_taken (sz (k + 1) (by omega)) (sz k (by omega)) hb
      simp only [v_eCall, v_aCons, v_aNil, v_e2, v_eVar, v_eC, List.getElem?_cons_succ, List.getElem?_cons_zero, Option.bind_some, Option.map_some, v_addL, c1, r1, r2, tk], rfl⟩) (by rw [List.length_range]; exact Nat.le_trans (Nat.sub_le _ _) (Nat.le_trans h2 (by decide)))
  have rr : rowX (stepsR R) = .tup ((List.range (R.length - 1)).map fun k => numD (at0 R (k + 1) - at0 R k)) := by simp only [rowX, stepsR, List.map_map]; rfl
  rw [rr]
  rw [r0] at rg
  generalize (List.range (R.length - 1)).map (fun k => numD (at0 R (k + 1) - at0 R k)) = LL at *
  generalize rowX R = X at *
  simp [m_steps, b_steps, runP, e, rg, l, bTuple]
theorem zipD_get : ∀ (xs ys : List D) (k : Nat), (zipD xs ys)[k]? = (xs[k]?).bind fun x => (ys[k]?).map fun y => .tup [x, y]
  | [], _, _ => by simp [zipD]
  | _ :: _, [], k => by simp [zipD]
  | x :: xs, y :: ys, 0 => by simp [zipD]
  | x :: xs, y :: ys, k + 1 => by simpa [zipD] using zipD_get xs ys k
theorem zip_row {T : List (Rat × Rat)} {R : List Rat} (h : R.length = T.length) : zipD (T.map pairD) (R.map numD) = (List.range T.length).map fun (k : Nat) => .tup [.tup [numD (loT T k), numD (hiT T k)], numD (at0 R k)] := by
  apply List.ext_getElem?
  intro k
  rw [zipD_get]
  by_cases hk : k < T.length
  · rw [tube_at hk]
    simp [hk, h, at0]
  · simp [hk, h]
def stR (R : List Rat) (k : Nat) : Rat := at0 R (k + 1) - at0 R k
theorem stepsR_len (R : List Rat) : (stepsR R).length = R.length - 1 := by simp [stepsR]
theorem stepsR_at {R : List Rat} {k : Nat} (h : k + 1 < R.length) : at0 (stepsR R) k = stR R k := by
  simp [at0, stepsR, stR, show k < R.length - 1 by omega]
theorem stR_sz {R : List Rat} {b k : Nat} (sz : ∀ k, k < R.length → Sz b (at0 R k)) (h : k + 1 < R.length) : Sz (2 * b + 1) (stR R k) := (sz (k + 1) h).subn (sz k (by omega)) (by omega)
/-- which way a row bends: up true, down false -/
def bendK (R : List Rat) (k : Nat) : Option Bool := if stR R (k - 1) < stR R k then some true else if stR R k < stR R (k - 1) then some false else none
def bendsL (R : List Rat) (p m : Nat) : List (Nat × Bool) := (List.range m).filterMap fun i => (bendK R (p + i)).map fun w => (p + i, w)
theorem bendsL_succ (R : List Rat) (p m : Nat) : bendsL R p (m + 1) = ((bendK R p).map fun w => (p, w)).toList ++ bendsL R (p + 1) m := by
  unfold bendsL
  rw [List.range_succ_eq_map, List.filterMap_cons, List.filterMap_map]
  have e : ((fun i => (bendK R (p + i)).map fun w => (p + i, w)) ∘ Nat.succ) = fun i => (bendK R (p + 1 + i)).map fun w => (p + 1 + i, w) := by
    funext i
    simp only [Function.comp, Nat.succ_eq_add_one]
    rw [show p + (i + 1) = p + 1 + i by omega]
  rw [e, Nat.add_zero]
  cases bendK R p <;> simp
def Right (T : List (Rat × Rat)) (R : List Rat) (q : Nat × Bool) : Prop := if q.2 = true then at0 R q.1 = hiT T q.1 else at0 R q.1 = loT T q.1
instance (T : List (Rat × Rat)) (R : List Rat) (q : Nat × Bool) : Decidable (Right T R q) := by unfold Right; infer_instance
theorem bendsL_lt {R : List Rat} {p m : Nat} {q : Nat × Bool} (h : q ∈ bendsL R p m) : p ≤ q.1 ∧ q.1 < p + m ∧ bendK R q.1 = some q.2 := by
  unfold bendsL at h
  obtain ⟨i, hi, e⟩ := List.mem_filterMap.mp h
  have hi := List.mem_range.mp hi
  cases hb : bendK R (p + i) with
  | none => rw [hb] at e; exact nomatch e
  | some w =>
    rw [hb] at e
    cases e
    exact ⟨by simp, by simp; omega, hb⟩
theorem bendsL_mem {R : List Rat} {p m k : Nat} {w : Bool} (h1 : p ≤ k) (h2 : k < p + m) (h3 : bendK R k = some w) : (k, w) ∈ bendsL R p m := by
  unfold bendsL
  refine List.mem_filterMap.mpr ⟨k - p, List.mem_range.mpr (by omega), ?_⟩
  rw [show p + (k - p) = k by omega, h3]
  rfl
theorem right_iff {T : List (Rat × Rat)} {R : List Rat} (hl : R.length = T.length) (h1 : 2 ≤ R.length) : ((∀ k, k < T.length → loT T k ≤ at0 R k ∧ at0 R k ≤ hiT T k) ∧ ∀ q ∈ bendsL R 1 (R.length - 2), Right T R q) ↔ Taut (loT T) (hiT T) (at0 R) T.length := by
  constructor
  · rintro ⟨w, r⟩
    refine ⟨w, fun k k1 k2 z => ?_, fun k k1 k2 z => ?_⟩
    · have e : stR R (k - 1) < stR R k := by unfold stR; rw [show k - 1 + 1 = k by omega]; exact z
      exact r (k, true) (bendsL_mem (by omega) (by omega) (by simp [bendK, e]))
    · have e : stR R k < stR R (k - 1) := by unfold stR; rw [show k - 1 + 1 = k by omega]; exact z
      have e3 : ¬ stR R (k - 1) < stR R k := by grind
      exact r (k, false) (bendsL_mem (by omega) (by omega) (by simp [bendK, e, e3]))
  · intro t
    refine ⟨t.within, fun q hq => ?_⟩
    obtain ⟨q1, q2, q3⟩ := bendsL_lt hq
    obtain ⟨k, w⟩ := q
    simp only at q1 q2 q3
    have e : stR R (k - 1) = at0 R k - at0 R (k - 1) := by unfold stR; rw [show k - 1 + 1 = k by omega]
    unfold bendK at q3
    split at q3
    · rename_i z
      cases q3
      rw [e] at z
      exact t.up k (by omega) (by omega) z
    · split at q3
      · rename_i z
        cases q3
        rw [e] at z
        exact t.down k (by omega) (by omega) z
      · exact nomatch q3
end Gn
/-! ### drawn numbers, tubes, rows: whatever the digits, what the laws' functions make of them -/
namespace Gn
open PySem PySem.Spec PyProof.Rows L2 DL Tt
theorem lt40 {x : Nat} (h : x < 1099511627776) : x < 2 ^ 40 := h
theorem small_sz {t b : Int} (ht : t.natAbs < 1099511627776) (hb : b.natAbs < 1099511627776) : Sz 40 (Rat.divInt t b) := Sz.divInt (n := 40) (lt40 ht) (lt40 hb) (by decide)
theorem mulS {a b : Int} (ha : a.natAbs < 1099511627776) (hb : b.natAbs < 1099511627776) : dMul (.int a) (.int b) = some (.int (a * b)) := mulI (n := 40) (m := 40) (lt40 ha) (lt40 hb) (by decide) (by decide)
theorem c_low' {t b : Int} (hb : b ≠ 0) (hs : b.natAbs < 1099511627776) : m__law_low [.int t, .int b] = some (numD (Rat.divInt t b)) := c_low (n := 40) hb (lt40 hs) (by decide)
theorem divInt_nn {t b : Int} (h : 0 ≤ t) (hb : 0 < b) : 0 ≤ Rat.divInt t b := by
  rw [← Rat.divInt_nonneg_iff_of_pos_right hb] at h
  exact h
/-- bounds as drawn -/
def okP (q : Rat × Rat) : Prop := q.1 ≤ q.2 ∧ Sz 40 q.1 ∧ Sz 40 q.2
theorem okP_tube {T : List (Rat × Rat)} (h : ∀ q ∈ T, okP q) (h2 : 2 ≤ T.length) (h25 : T.length ≤ 25) : TubeOk 40 T := by
  have g : ∀ k, k < T.length → okP (loT T k, hiT T k) := fun k hk => by
    have : (loT T k, hiT T k) = T[k] := by simp [loT, hiT, hk]
    rw [this]; exact h _ (List.getElem_mem hk)
  exact ⟨h2, h25, fun k hk => (g k hk).1, fun k hk => (g k hk).2⟩
theorem sz_whole {t : Int} (h : t.natAbs < 1024) : Sz 10 (t : Rat) := sz_int (n := 10) h (by decide)
theorem cast_add (a b : Int) : (a : Rat) + (b : Rat) = ((a + b : Int) : Rat) := (Rat.intCast_add a b).symm
end Gn
/-! ### what the defs of levelcord.smoothing tell -/
namespace Gn
open PySem PySem.Spec PyProof.Rows L2 DL Tt
theorem sz_zero' (n : Nat) (h : 0 < n := by decide) : Sz n 0 := ⟨by simp; exact Nat.two_pow_pos n, Nat.one_lt_two_pow (by omega)⟩
theorem nought_num : k_NOUGHT = numD 0 := rfl
theorem SeqD.row (R : List Rat) : SeqD (rowX R) (R.map numD) := .inl rfl
theorem at0_mem {R : List Rat} {q : Rat} (h : q ∈ R) : ∃ k, k < R.length ∧ q = at0 R k := by
  obtain ⟨k, hk, e⟩ := List.getElem_of_mem h
  exact ⟨k, hk, by simp [at0, hk, e]⟩
theorem at0_get {R : List Rat} {k : Nat} (h : k < R.length) : at0 R k = R[k] := by simp [at0, h]
/-- the tube of sums -/
def dataTube (y : List Rat) (p : Rat) : List (Rat × Rat) := (List.range (y.length + 1)).map fun k => (sLo y.length (at0 y) p k, sHi y.length (at0 y) p k)
theorem dataTube_len (y : List Rat) (p : Rat) : (dataTube y p).length = y.length + 1 := by simp [dataTube]
theorem dataTube_lo {y : List Rat} {p : Rat} {k : Nat} (h : k ≤ y.length) : loT (dataTube y p) k = sLo y.length (at0 y) p k := by
  simp [loT, dataTube, show k < y.length + 1 by omega]
theorem dataTube_hi {y : List Rat} {p : Rat} {k : Nat} (h : k ≤ y.length) : hiT (dataTube y p) k = sHi y.length (at0 y) p k := by
  simp [hiT, dataTube, show k < y.length + 1 by omega]
def preTube (y : List Rat) (p : Rat) (i : Nat) : List (Rat × Rat) := (List.range (i + 1)).map fun k => if k = 0 then (0, 0) else (sumN (at0 y) k - p, sumN (at0 y) k + p)
theorem preTube_last {y : List Rat} {p : Rat} (h : 1 ≤ y.length) : (preTube y p y.length).set y.length (sumN (at0 y) y.length, sumN (at0 y) y.length) = dataTube y p := by
  apply List.ext_getElem
  · simp [preTube, dataTube]
  · intro k h1 h2
    rw [dataTube_len] at h2
    rw [List.getElem_set]
    by_cases e : y.length = k
    · subst e
      simp [dataTube, sLo, sHi]
    · rw [if_neg e]
      by_cases k0 : k = 0
      · subst k0
        simp [preTube, dataTube, sLo, sHi, sumN]
      · have : ¬ (k = 0 ∨ k = y.length) := by omega
        simp only [preTube, dataTube, List.getElem_map, List.getElem_range, sLo, sHi, if_neg this, if_neg k0]
theorem Form.gr {T : List (Rat × Rat)} {x : Rat} {N M : Nat} (h : Form T x) (n25 : T.length ≤ 25) (g : ∀ k, k < T.length → Gr N M (loT T k) ∧ Gr N M (hiT T k)) : Gr (N * L25) (51 * M) x := by
  obtain ⟨i, j, d, m, u, v, hi, hj, eu, ev, d0, d1, md, rfl⟩ := h
  have gu : Gr N M u := by rcases eu with rfl | rfl <;> simp only [g i hi]
  have gv : Gr N M v := by rcases ev with rfl | rfl <;> simp only [g j hj]
  have q := ((gv.sub gu).div d0).mul (Gr.nat (M := 25) (m := m) (by omega))
  rw [Nat.mul_one] at q
  have q2 := q.mono (N' := N * L25) (M' := (M + M) * 25) (Nat.mul_dvd_mul_left N (dvd_L25 d d0 (by omega))) (Nat.le_refl _)
  have u2 := gu.mono (N' := N * L25) (M' := M) ⟨L25, rfl⟩ (Nat.le_refl _)
  exact (u2.add q2).most (by omega)
/-- data and a price over one bottom -/
structure DataOk (N M : Nat) (y : List Rat) (p : Rat) : Prop where
  n1 : 1 ≤ y.length
  n24 : y.length ≤ 24
  N0 : 0 < N
  Nb : N < 2 ^ 600
  Mb : M < 2 ^ 40
  gy : ∀ k, k < y.length → Gr N M (at0 y k)
  gp : Gr N M p
  p0 : 0 ≤ p
theorem sumN_gr {N M : Nat} {f : Nat → Rat} : ∀ m, (∀ k, k < m → Gr N M (f k)) → Gr N (m * M) (sumN f m)
  | 0, _ => by rw [Nat.zero_mul]; exact Gr.zero
  | m + 1, h => by
    have := (sumN_gr (f := f) m fun k hk => h k (by omega)).add (h m (by omega))
    rw [Nat.succ_mul]
    exact this
section
variable {N M : Nat} {y : List Rat} {p : Rat}
theorem big_sz {K n : Nat} {q : Rat} (D : DataOk N M y p) {A : Nat} (hA : A ≤ 2 ^ 60) (hK : K ≤ A * M) (h : Gr N K q) (hn : 720 ≤ n) : Sz n q := by
  have N0 := D.N0
  have Nb := D.Nb
  have Mb := D.Mb
  have h1 : K + 1 ≤ 2 ^ 101 := by
    have a1 : A * M ≤ 2 ^ 60 * 2 ^ 40 := Nat.mul_le_mul hA (by omega)
    have e1 : (2 : Nat) ^ 60 * 2 ^ 40 = 2 ^ 100 := by rw [← Nat.pow_add]
    have e2 : (2 : Nat) ^ 101 = 2 * 2 ^ 100 := by rw [Nat.pow_succ, Nat.mul_comm]
    have e3 : 1 ≤ (2 : Nat) ^ 100 := Nat.one_le_two_pow
    omega
  have h2 : (K + 1) * N ≤ 2 ^ 101 * N := Nat.mul_le_mul_right N h1
  have h3 : 2 ^ 101 * N < 2 ^ 101 * 2 ^ 600 := Nat.mul_lt_mul_of_pos_left Nb (Nat.two_pow_pos 101)
  have h4 : (2 : Nat) ^ 101 * 2 ^ 600 = 2 ^ 701 := by rw [← Nat.pow_add]
  have h5 : (2 : Nat) ^ 701 ≤ 2 ^ n := Nat.pow_le_pow_right (by decide) (by omega)
  exact h.sz N0 (by omega)
theorem DataOk.gs (D : DataOk N M y p) (k : Nat) (hk : k ≤ y.length) : Gr N (24 * M) (sumN (at0 y) k) :=
  (sumN_gr k fun j hj => D.gy j (by omega)).most (Nat.mul_le_mul_right M (by have := D.n24; omega))
theorem DataOk.bounds (D : DataOk N M y p) (k : Nat) (hk : k ≤ y.length) : Gr N (25 * M) (sLo y.length (at0 y) p k) ∧ Gr N (25 * M) (sHi y.length (at0 y) p k) := by
  have g := D.gs k hk
  unfold sLo sHi
  split
  · exact ⟨g.most (by omega), g.most (by omega)⟩
  · exact ⟨(g.sub D.gp).most (by omega), (g.add D.gp).most (by omega)⟩
theorem DataOk.tied (D : DataOk N M y p) : TiedOk 720 (dataTube y p) := by
  have n1 := D.n1
  have n24 := D.n24
  have p0 := D.p0
  have len := dataTube_len y p
  refine ⟨⟨by omega, by omega, fun k hk => ?_, fun k hk => ?_⟩, ?_, ?_⟩
  · rw [dataTube_lo (by omega), dataTube_hi (by omega)]
    unfold sLo sHi
    split
    · exact Rat.le_refl
    · grind
  · rw [dataTube_lo (by omega), dataTube_hi (by omega)]
    obtain ⟨g1, g2⟩ := D.bounds k (by omega)
    exact ⟨big_sz D (A := 25) (by decide) (Nat.le_refl _) g1 (Nat.le_refl _), big_sz D (A := 25) (by decide) (Nat.le_refl _) g2 (Nat.le_refl _)⟩
  · rw [dataTube_lo (by omega), dataTube_hi (by omega)]
    simp [sLo, sHi]
  · rw [len, Nat.add_sub_cancel, dataTube_lo (by omega), dataTube_hi (by omega)]
    simp [sLo, sHi]
end
end Gn
/-! ### what the defs of levelcord.jobs tell -/
namespace Gn
open PySem PySem.Spec PyProof.Rows L2 DL Tt
def jobD (j : Job) : D := .tup [.int (j.a : Int), .int (j.d : Int), numD j.w]
def jobsX (J : List Job) : D := .tup (J.map jobD)
structure JobsGood (N M : Nat) (J : List Job) : Prop where
  n1 : 1 ≤ J.length
  n12 : J.length ≤ 12
  ok : JobsOk J
  late : ∀ j ∈ J, j.d ≤ 24
  srt : J.Pairwise fun x y => x.a ≤ y.a ∧ x.d ≤ y.d
  gr : ∀ j ∈ J, Gr N M j.w
def lastD (J : List Job) : Nat := ((J[J.length - 1]?).map Job.d).getD 0
theorem sz0 {b : Nat} (h : 1 ≤ b) : Sz b 0 := ⟨by have := Nat.pow_pos (n := b) (show 0 < 2 by decide); exact this, by
  have : 2 ^ 1 ≤ 2 ^ b := Nat.pow_le_pow_right (by decide) h
  show 1 < 2 ^ b
  omega⟩
theorem c_is_job {j : Job} {b : Nat} (h : j.a < j.d) (h24 : j.d ≤ 24) (w0 : 0 < j.w) (sz : Sz b j.w) (hb : 1 ≤ b) (hb2 : b ≤ 4000) : m_is_job_jobs [jobD j] = some (.bl true) := by
  have e := c_is_less (sz0 hb) sz hb2
  have a1 : (0 : Int) ≤ (j.a : Int) := by omega
  have a2 : (j.a : Int) < (j.d : Int) := by omega
  have a3 : (j.d : Int) ≤ 24 := by omega
  have nn : k_NOUGHT = numD 0 := rfl
  have cn := c_is_number j.w
  unfold jobD
  generalize numD j.w = W at *
  generalize (j.a : Int) = a at *
  generalize (j.d : Int) = d at *
  simp [m_is_job_jobs, b_is_job_jobs, runP, isTy, m_is_whole, b_is_whole, k_LAST_HOUR, nn, a1, a2, a3, cn, e, w0]
theorem jobs_at {J : List Job} {k : Nat} (h : k < J.length) : (J.map jobD)[k]? = some (jobD J[k]) := by simp [h]
theorem zip_jobs (J : List Job) : zipD (J.map jobD) ((J.map jobD).drop 1) = (List.range (J.length - 1)).map fun (k : Nat) => D.tup [((J.map jobD)[k]?).getD .non, ((J.map jobD)[k + 1]?).getD .non] := by
  apply List.ext_getElem?
  intro k
  rw [zipD_get, List.getElem?_drop]
  by_cases h : k + 1 < J.length
  · have h2 : k < J.length := by omega
    have h3 : k < J.length - 1 := by omega
    rw [show 1 + k = k + 1 by omega, jobs_at h, jobs_at h2, List.getElem?_map, List.getElem?_range h3]
    simp [h2, h]
  · have e : (J.map jobD)[1 + k]? = none := by simp; omega
    rw [e]
    have e2 : (List.range (J.length - 1))[k]? = none := by simp; omega
    rw [List.getElem?_map (f := fun (k : Nat) => D.tup [((J.map jobD)[k]?).getD .non, ((J.map jobD)[k + 1]?).getD .non]), e2]
    cases (J.map jobD)[k]? <;> rfl
theorem c_is_jobs {J : List Job} {N M b : Nat} (g : JobsGood N M J) (N0 : 0 < N) (hs : (M + 1) * N < 2 ^ b) (hb : 1 ≤ b) (hb2 : b ≤ 4000) : m_is_jobs [jobsX J] = some (.bl true) := by
  have n1 := g.n1
  have n12 := g.n12
  have l := lcD_map (g := gN 1) (fe := eCall m_is_job_jobs (aCons (eVar 1) aNil)) (own := [1]) (s := [.val (jobsX J), .un, .un]) jobD (fun _ => .bl true) J (fun j hj => ⟨[.val (jobsX J), .val (jobD j), .un], [.val (jobsX J), .val (jobD j), .un], rfl, by
    have e := c_is_job (b := b) (g.ok j hj).1 (g.late j hj) (g.ok j hj).2 ((g.gr j hj).sz N0 hs) hb hb2
    simp [e], rfl⟩) (Nat.le_trans n12 (by decide))
  have c1 : (1 : Int) ≤ (J.length : Nat) := by omega
  have c2 : ((J.length : Nat) : Int) ≤ 12 := by omega
  have zz := zip_jobs J
  obtain ⟨s', e, o1, o2, rfl⟩ := forD_map (g := gTup (gsCons (gN 1) (gsCons (gN 2) (gsNil)))) (fb := l1_is_jobs) (s := [.val (jobsX J), .un, .un]) (fun (k : Nat) => D.tup [((J.map jobD)[k]?).getD .non, ((J.map jobD)[k + 1]?).getD .non]) (List.range (J.length - 1))
    (fun i s => ∃ o1 o2 : O, s = [.val (jobsX J), o1, o2]) ⟨_, _, rfl⟩ (fun i hi s ⟨o1, o2, hs⟩ => by
      subst hs
      have h2 : i + 1 < J.length := by simp at hi; omega
      have h1 : i < J.length := by omega
      have p := List.pairwise_iff_getElem.mp g.srt i (i + 1) h1 h2 (by omega)
      have q1 : ¬ ((J[i + 1].a : Int) < (J[i].a : Int)) := by omega
      have q2 : ¬ ((J[i + 1].d : Int) < (J[i].d : Int)) := by omega
      refine ⟨_, [.val (jobsX J), .val (jobD J[i]), .val (jobD J[i + 1])], rfl, .inl ?_, _, _, rfl⟩
      · simp only [List.getElem_range]
        rw [jobs_at h1, jobs_at h2]
        generalize J[i] = x at *
        generalize J[i + 1] = y at *
        generalize jobsX J = X at *
        unfold jobD
        generalize numD x.w = W1
        generalize numD y.w = W2
        generalize (x.a : Int) = xa at *
        generalize (x.d : Int) = xd at *
        generalize (y.a : Int) = ya at *
        generalize (y.d : Int) = yd at *
        simp [l1_is_jobs, q1, q2])
  unfold jobsX at l e ⊢
  have ty : isTy "tuple" (.tup (J.map jobD)) = some (.bl true) := rfl
  have bl : bLen [.tup (J.map jobD)] = some (.int J.length) := by simp
  have it : items (.tup (J.map jobD)) = some (J.map jobD) := rfl
  have ct : dCut (.tup (J.map jobD)) (some 1) none = some (.tup ((J.map jobD).drop 1)) := by
    show some (D.tup (DL.cutD (J.map jobD) (some ((1 : Nat) : Int)) none)) = _
    rw [cut_from]
  rw [List.drop_one] at ct zz
  have zi : ∀ st : S, kZip (some ([.tup (J.map jobD), .tup (J.map jobD).tail], st)) = some ((List.range (J.length - 1)).map (fun (k : Nat) => D.tup [((J.map jobD)[k]?).getD .non, ((J.map jobD)[k + 1]?).getD .non]), st) := fun st => by
    rw [← zz]; rfl
  clear zz
  have al : bAll [.lst (J.map fun _ => D.bl true)] = some (.bl true) := by simp [bAll, boolsD_map]
  generalize (J.map fun _ => D.bl true) = BL at *
  generalize ((List.range (J.length - 1)).map (fun (k : Nat) => D.tup [((J.map jobD)[k]?).getD .non, ((J.map jobD)[k + 1]?).getD .non])) = ZL at *
  generalize hX : (D.tup (J.map jobD)) = X at *
  generalize J.map jobD = XL at *
  simp [m_is_jobs, b_is_jobs, runP, ty, bl, k_MOST_JOBS_jobs, c1, c2, it, l, al, ct, zi, e]
theorem c_check_jobs {J : List Job} {N M b : Nat} (g : JobsGood N M J) (N0 : 0 < N) (hs : (M + 1) * N < 2 ^ b) (hb : 1 ≤ b) (hb2 : b ≤ 4000) : m_check_jobs [jobsX J] = some .non := by
  have z1 := c_is_jobs g N0 hs hb hb2
  generalize jobsX J = X at *
  simp [m_check_jobs, b_check_jobs, runP, z1]
theorem due_gr {N M : Nat} : ∀ {J : List Job}, (∀ j ∈ J, Gr N M j.w) → ∀ h, Gr N (J.length * M) (dueF J h)
  | [], _, h => Gr.zero
  | j :: J, g, h => by
    have ih := due_gr (J := J) (fun x hx => g x (List.mem_cons_of_mem _ hx)) h
    have g0 := g j (List.mem_cons_self ..)
    have e : M + J.length * M = (j :: J).length * M := by rw [List.length_cons, Nat.add_mul, Nat.one_mul, Nat.add_comm]
    show Gr N ((j :: J).length * M) ((if j.d ≤ h then j.w else 0) + dueF J h)
    rw [← e]
    split
    · exact g0.add ih
    · exact Gr.zero.add ih
theorem come_gr {N M : Nat} : ∀ {J : List Job}, (∀ j ∈ J, Gr N M j.w) → ∀ h, Gr N (J.length * M) (comeF J h)
  | [], _, h => Gr.zero
  | j :: J, g, h => by
    have ih := come_gr (J := J) (fun x hx => g x (List.mem_cons_of_mem _ hx)) h
    have g0 := g j (List.mem_cons_self ..)
    have e : M + J.length * M = (j :: J).length * M := by rw [List.length_cons, Nat.add_mul, Nat.one_mul, Nat.add_comm]
    show Gr N ((j :: J).length * M) ((if j.a < h then j.w else 0) + comeF J h)
    rw [← e]
    split
    · exact g0.add ih
    · exact Gr.zero.add ih
theorem JobsGood.due {J : List Job} {N M : Nat} (g : JobsGood N M J) (i h : Nat) : Gr N (12 * M) (dueF (J.take i) h) := by
  refine (due_gr (fun j hj => g.gr j (List.mem_of_mem_take hj)) h).most (Nat.mul_le_mul_right _ ?_)
  have := g.n12
  rw [List.length_take]
  omega
theorem JobsGood.come {J : List Job} {N M : Nat} (g : JobsGood N M J) (i h : Nat) : Gr N (12 * M) (comeF (J.take i) h) := by
  refine (come_gr (fun j hj => g.gr j (List.mem_of_mem_take hj)) h).most (Nat.mul_le_mul_right _ ?_)
  have := g.n12
  rw [List.length_take]
  omega
theorem due_next {J : List Job} {i : Nat} (hi : i < J.length) (h : Nat) : dueF (J.take (i + 1)) h = if J[i].d ≤ h then dueF (J.take i) h + J[i].w else dueF (J.take i) h := by
  rw [List.take_succ_eq_append_getElem hi, dueF_append]
  show dueF (J.take i) h + ((if J[i].d ≤ h then J[i].w else 0) + 0) = _
  split <;> grind
theorem come_next {J : List Job} {i : Nat} (hi : i < J.length) (h : Nat) : comeF (J.take (i + 1)) h = if J[i].a < h then comeF (J.take i) h + J[i].w else comeF (J.take i) h := by
  rw [List.take_succ_eq_append_getElem hi, comeF_append]
  show comeF (J.take i) h + ((if J[i].a < h then J[i].w else 0) + 0) = _
  split <;> grind
theorem tube_inner {J : List Job} {N M b : Nat} (g : JobsGood N M J) (N0 : 0 < N) (hs : (12 * M + 1) * N < 2 ^ b) (hb2 : b ≤ 4000) (X : D) (h : Nat) (L : O) (o5 o6 o7 : O) :
    ∃ o5' o6' o7' : O, forD (gTup (gsCons (gN 5) (gsCons (gN 6) (gsCons (gN 7) (gsNil))))) l2_job_tube (J.map jobD) [.val X, L, .val (.int (h : Int)), .val (numD 0), .val (numD 0), o5, o6, o7] =
      some (.next [.val X, L, .val (.int (h : Int)), .val (numD (dueF J h)), .val (numD (comeF J h)), o5', o6', o7']) := by
  obtain ⟨s', e, o5', o6', o7', rfl⟩ := forD_map (g := gTup (gsCons (gN 5) (gsCons (gN 6) (gsCons (gN 7) (gsNil))))) (fb := l2_job_tube) (s := [.val X, L, .val (.int (h : Int)), .val (numD 0), .val (numD 0), o5, o6, o7]) jobD J
    (fun i s => ∃ o5 o6 o7 : O, s = [.val X, L, .val (.int (h : Int)), .val (numD (dueF (J.take i) h)), .val (numD (comeF (J.take i) h)), o5, o6, o7]) ⟨_, _, _, rfl⟩ (fun i hi s ⟨o5, o6, o7, hs'⟩ => by
      subst hs'
      have gw := (g.gr J[i] (List.getElem_mem hi)).most (M' := 12 * M) (by omega)
      have e1 := c_added ((g.due i h).sz N0 hs) (gw.sz N0 hs) hb2
      have e2 := c_added ((g.come i h).sz N0 hs) (gw.sz N0 hs) hb2
      rw [due_next hi, come_next hi]
      refine ⟨_, [.val X, L, .val (.int (h : Int)), .val (numD (if J[i].d ≤ h then dueF (J.take i) h + J[i].w else dueF (J.take i) h)), .val (numD (if J[i].a < h then comeF (J.take i) h + J[i].w else comeF (J.take i) h)), .val (.int (J[i].a : Int)), .val (.int (J[i].d : Int)), .val (numD J[i].w)], rfl, .inl ?_, _, _, _, rfl⟩
      generalize J[i] = j at *
      generalize dueF (J.take i) h = x at *
      generalize comeF (J.take i) h = y at *
      by_cases q1 : j.d ≤ h
      · have q1' : (j.d : Int) ≤ (h : Int) := by omega
        rw [if_pos q1]
        by_cases q2 : j.a < h
        · have q2' : (j.a : Int) < (h : Int) := by omega
          rw [if_pos q2]
          generalize (j.a : Int) = a at *
          generalize (j.d : Int) = d at *
          generalize (h : Int) = hh at *
          simp [l2_job_tube, q1', q2', e1, e2]
        · have q2' : ¬ ((j.a : Int) < (h : Int)) := by omega
          rw [if_neg q2]
          generalize (j.a : Int) = a at *
          generalize (j.d : Int) = d at *
          generalize (h : Int) = hh at *
          simp [l2_job_tube, q1', q2', e1, e2]
      · have q1' : ¬ ((j.d : Int) ≤ (h : Int)) := by omega
        rw [if_neg q1]
        by_cases q2 : j.a < h
        · have q2' : (j.a : Int) < (h : Int) := by omega
          rw [if_pos q2]
          generalize (j.a : Int) = a at *
          generalize (j.d : Int) = d at *
          generalize (h : Int) = hh at *
          simp [l2_job_tube, q1', q2', e1, e2]
        · have q2' : ¬ ((j.a : Int) < (h : Int)) := by omega
          rw [if_neg q2]
          generalize (j.a : Int) = a at *
          generalize (j.d : Int) = d at *
          generalize (h : Int) = hh at *
          simp [l2_job_tube, q1', q2', e1, e2])
  rw [List.take_length] at e
  exact ⟨o5', o6', o7', e⟩
theorem lastD_at {J : List Job} (h : 0 < J.length) : lastD J = (J[J.length - 1]'(by omega)).d := by
  unfold lastD
  rw [List.getElem?_eq_getElem (by omega)]
  rfl
theorem JobsGood.le_last {J : List Job} {N M : Nat} (g : JobsGood N M J) : ∀ j ∈ J, j.d ≤ lastD J := fun j hj => by
  have n1 := g.n1
  rw [lastD_at (by omega)]
  obtain ⟨i, hi, rfl⟩ := List.getElem_of_mem hj
  by_cases e : i = J.length - 1
  · subst e; exact Nat.le_refl _
  · exact (List.pairwise_iff_getElem.mp g.srt i (J.length - 1) hi (by omega) (by omega)).2
theorem JobsGood.last24 {J : List Job} {N M : Nat} (g : JobsGood N M J) : 1 ≤ lastD J ∧ lastD J ≤ 24 := by
  have n1 := g.n1
  rw [lastD_at (by omega)]
  have h := List.getElem_mem (show J.length - 1 < J.length by omega)
  have := g.late _ h
  have := (g.ok _ h).1
  omega
def jobT (J : List Job) : List (Rat × Rat) := (List.range (lastD J + 1)).map fun h => (dueF J h, comeF J h)
theorem jobT_len (J : List Job) : (jobT J).length = lastD J + 1 := by simp [jobT]
theorem jobT_at {J : List Job} {k : Nat} (h : k < lastD J + 1) : loT (jobT J) k = dueF J k ∧ hiT (jobT J) k = comeF J k := by
  unfold loT hiT jobT
  rw [List.getD_eq_getElem?_getD, List.getElem?_map, List.getElem?_range h]
  exact ⟨rfl, rfl⟩
theorem jobT_tied {J : List Job} {N M b : Nat} (g : JobsGood N M J) (N0 : 0 < N) (hs : (12 * M + 1) * N < 2 ^ b) : TiedOk b (jobT J) := by
  have l24 := g.last24
  have len := jobT_len J
  refine ⟨⟨by omega, by omega, fun k hk => ?_, fun k hk => ?_⟩, ?_, ?_⟩
  · rw [len] at hk
    rw [(jobT_at hk).1, (jobT_at hk).2]
    exact due_le_come g.ok k
  · rw [len] at hk
    rw [(jobT_at hk).1, (jobT_at hk).2]
    have a := g.due J.length k
    have b := g.come J.length k
    rw [List.take_length] at a b
    exact ⟨a.sz N0 hs, b.sz N0 hs⟩
  · rw [(jobT_at (k := 0) (by omega)).1, (jobT_at (k := 0) (by omega)).2, due_none fun j hj => by have := (g.ok j hj).1; omega, come_none fun j hj => by omega]
  · rw [len, Nat.add_sub_cancel, (jobT_at (k := lastD J) (by omega)).1, (jobT_at (k := lastD J) (by omega)).2, due_all g.le_last, come_all fun j hj => by have := (g.ok j hj).1; have := g.le_last j hj; omega]
theorem c_job_tube {J : List Job} {N M b : Nat} (g : JobsGood N M J) (N0 : 0 < N) (hs : (12 * M + 1) * N < 2 ^ b) (hb : 1 ≤ b) (hb2 : b ≤ 4000) : m_job_tube [jobsX J] = some (tubeX (jobT J)) := by
  have n1 := g.n1
  have l24 := g.last24
  have ck := c_check_jobs g N0 (Nat.lt_of_le_of_lt (Nat.mul_le_mul_right N (show M + 1 ≤ 12 * M + 1 by omega)) hs) hb hb2
  have it : items (jobsX J) = some (J.map jobD) := rfl
  have il : dIx (jobsX J) (.int (-1)) = some (jobD (J[J.length - 1]'(by omega))) := by
    unfold jobsX
    rw [dIx_lastT (by rw [List.length_map]; omega), List.length_map, jobs_at (by omega)]
  have ix : dIx (jobD (J[J.length - 1]'(by omega))) (.int 1) = some (.int ((lastD J : Nat) : Int)) := by
    rw [lastD_at (by omega)]
    exact v_ixt1
  have nn : k_NOUGHT = numD 0 := rfl
  have loop := fun (o2 o3 o4 o5 o6 o7 : O) => forD_rng0 (g := gN 2) (fb := l1_job_tube) (s := [.val (jobsX J), .lst [], o2, o3, o4, o5, o6, o7]) (lastD J + 1)
    (fun i s => ∃ o2 o3 o4 o5 o6 o7 : O, s = [.val (jobsX J), .lst (((List.range i).map fun h => (dueF J h, comeF J h)).map pairD), o2, o3, o4, o5, o6, o7]) ⟨_, _, _, _, _, _, rfl⟩ (fun i s hi ⟨o2, o3, o4, o5, o6, o7, hs'⟩ => by
      subst hs'
      have len : (((List.range i).map fun h => (dueF J h, comeF J h)).map pairD).length ≤ 999 := by simp; omega
      obtain ⟨o5', o6', o7', e⟩ := tube_inner g N0 hs hb2 (jobsX J) i (.lst (((List.range i).map fun h => (dueF J h, comeF J h)).map pairD)) o5 o6 o7
      refine ⟨[.val (jobsX J), .lst (((List.range i).map fun h => (dueF J h, comeF J h)).map pairD), .val (.int (i : Int)), o3, o4, o5, o6, o7], [.val (jobsX J), .lst (((List.range (i + 1)).map fun h => (dueF J h, comeF J h)).map pairD), .val (.int (i : Int)), .val (numD (dueF J i)), .val (numD (comeF J i)), o5', o6', o7'], rfl, .inl ?_, _, _, _, _, _, _, rfl⟩
      rw [List.range_succ, List.map_append, List.map_append]
      show _ = some (Fl.next [O.val (jobsX J), O.lst (List.map pairD (List.map (fun h => (dueF J h, comeF J h)) (List.range i)) ++ [.tup [numD (dueF J i), numD (comeF J i)]]), _, _, _, _, _, _])
      have sh : cap = 1000000 := rfl
      generalize (((List.range i).map fun h => (dueF J h, comeF J h)).map pairD) = LL at *
      have len2 : LL.length < cap := by omega
      generalize dueF J i = x at *
      generalize comeF J i = y at *
      generalize jobsX J = X at *
      generalize J.map jobD = JL at *
      generalize (i : Int) = ii at *
      have c2 : 2 ≤ cap := by decide
      simp [l1_job_tube, nn, it, e, len2, c2])
  obtain ⟨s', e, o2, o3, o4, o5, o6, o7, rfl⟩ := loop .un .un .un .un .un .un
  have rg : ∀ st : S, DL.iRng1 (aCons (e2 dAddL (e2 dIx (e2 dIx (eVar 0) (e1 dNeg (eC (.int 1)))) (eC (.int 1))) (eC (.int 1))) (aNil)) (.val (jobsX J) :: st) = some (rangeD 0 (lastD J + 1), .val (jobsX J) :: st) := fun st => by
    refine rng1_ok (lastD J + 1) (by omega) ?_
    generalize jobsX J = X at *
    generalize hj : jobD (J[J.length - 1]'(by omega)) = jj at *
    generalize lastD J = l at *
    simp [il, ix]
  unfold tubeX jobT
  generalize (((List.range (lastD J + 1)).map fun h => (dueF J h, comeF J h)).map pairD) = TL at *
  generalize rangeD 0 (lastD J + 1) = RG at *
  generalize jobsX J = X at *
  generalize hj : jobD (J[J.length - 1]'(by omega)) = jj at *
  generalize lastD J = l at *
  simp [m_job_tube, b_job_tube, runP, ck, cap, rg, e]
/-! speeds: the steps of the cord -/
def SpOk (J : List Job) (sp : List Rat) : Prop := sp.length = lastD J ∧ Taut (dueF J) (comeF J) (sumN (at0 sp)) (lastD J + 1)
theorem ext0 {x y : List Rat} (l : x.length = y.length) (h : ∀ k, k < x.length → at0 x k = at0 y k) : x = y := by
  refine List.ext_getElem l fun k h1 h2 => ?_
  have := h k h1
  unfold at0 at this
  rw [List.getD_eq_getElem?_getD, List.getD_eq_getElem?_getD, List.getElem?_eq_getElem h1, List.getElem?_eq_getElem h2] at this
  exact this
theorem JobsGood.tie0 {J : List Job} {N M : Nat} (g : JobsGood N M J) : dueF J 0 = 0 ∧ comeF J 0 = 0 :=
  ⟨due_none fun j hj => by have := (g.ok j hj).1; omega, come_none fun j hj => by omega⟩
theorem JobsGood.tie1 {J : List Job} {N M : Nat} (g : JobsGood N M J) : dueF J (lastD J) = worksF J ∧ comeF J (lastD J) = worksF J :=
  ⟨due_all g.le_last, come_all fun j hj => by have := (g.ok j hj).1; have := g.le_last j hj; omega⟩
theorem SpOk.all {J : List Job} {N M : Nat} (g : JobsGood N M J) {sp : List Rat} (S : SpOk J sp) : sumN (at0 sp) (lastD J) = worksF J := by
  have := S.2.within (lastD J) (by omega)
  rw [g.tie1.1, g.tie1.2] at this
  exact Rat.le_antisymm this.2 this.1
theorem SpOk.uniq {J : List Job} {N M : Nat} (g : JobsGood N M J) {sp sp' : List Rat} (S : SpOk J sp) (S' : SpOk J sp') : sp = sp' := by
  have u := S.2.uniq S'.2 rfl (by rw [Nat.add_sub_cancel, S.all g, S'.all g])
  refine ext0 (S.1.trans S'.1.symm) fun k hk => ?_
  rw [S.1] at hk
  have a : sumN (at0 sp) k + at0 sp k = sumN (at0 sp') k + at0 sp' k := u (k + 1) (by omega)
  rw [u k (by omega)] at a
  grind
theorem sum_steps {R : List Rat} : ∀ {k : Nat}, k < R.length → sumN (at0 (stepsR R)) k = at0 R k - at0 R 0
  | 0, _ => by show (0 : Rat) = _; grind
  | k + 1, h => by
    show sumN (at0 (stepsR R)) k + at0 (stepsR R) k = _
    rw [sum_steps (k := k) (by omega), stepsR_at h]
    unfold stR
    grind
section
variable {J : List Job} {N M b : Nat} (g : JobsGood N M J) (N0 : 0 < N) (hs : (12 * M + 1) * N < 2 ^ b) (hb : 1 ≤ b) (hb2 : b ≤ 1000)
include g N0 hs hb hb2
theorem c_speeds : ∃ sp : List Rat, SpOk J sp ∧ m_speeds [jobsX J] = some (rowX sp) ∧ ∀ v ∈ sp, Gr (N * L25) (51 * (12 * M) + 51 * (12 * M)) v ∧ 0 ≤ v := by
  have l24 := g.last24
  have ti := jobT_tied g N0 hs
  have len := jobT_len J
  obtain ⟨R, l, T, e, sz, fm⟩ := c_cord ti hb2
  have T2 : Taut (dueF J) (comeF J) (at0 R) (lastD J + 1) := by
    rw [← len]
    exact T.congr fun k hk => ⟨(jobT_at (by omega)).1, (jobT_at (by omega)).2, rfl⟩
  have r0 : at0 R 0 = 0 := by
    have := T2.within 0 (by omega)
    rw [g.tie0.1, g.tie0.2] at this
    exact Rat.le_antisymm this.2 this.1
  have e1 := c_job_tube g N0 hs hb (by omega)
  have e2 := c_steps (R := R) (by omega) (by omega) sz (by omega)
  have rise := T2.rises (fun k hk => due_mono g.ok (by omega)) (fun k hk => come_mono g.ok (by omega)) (g.tie0.1.trans g.tie0.2.symm) (by rw [Nat.add_sub_cancel]; exact g.tie1.1.trans g.tie1.2.symm)
  refine ⟨stepsR R, ⟨by rw [stepsR_len]; omega, T2.congr fun k hk => ⟨rfl, rfl, ?_⟩⟩, ?_, fun v hv => ?_⟩
  · rw [sum_steps (by omega), r0]; grind
  · generalize jobsX J = X at *
    generalize tubeX (jobT J) = Y at *
    generalize rowX R = Z at *
    simp [m_speeds, b_speeds, runP, e1, e, e2]
  · have gr : ∀ k, k < R.length → Gr (N * L25) (51 * (12 * M)) (at0 R k) := fun k hk => (fm k hk).gr (by omega) fun k hk => by
      rw [len] at hk
      rw [(jobT_at hk).1, (jobT_at hk).2]
      have a := g.due J.length k
      have b := g.come J.length k
      rw [List.take_length] at a b
      exact ⟨a, b⟩
    unfold stepsR at hv
    obtain ⟨k, hk, rfl⟩ := List.mem_map.mp hv
    have hk := List.mem_range.mp hk
    refine ⟨(gr (k + 1) (by omega)).sub (gr k (by omega)), ?_⟩
    have := rise k (by omega)
    grind
theorem c_speeds_is {sp : List Rat} (S : SpOk J sp) : m_speeds [jobsX J] = some (rowX sp) := by
  obtain ⟨sp', S', e, _⟩ := c_speeds g N0 hs hb hb2
  rw [S.uniq g S', e]
end
/-! parts: who is done when -/
def sumL : List Rat → Rat
  | [] => 0
  | v :: r => v + sumL r
theorem drop_at {rm : List Rat} {s : Nat} (h : s < rm.length) : rm.drop s = at0 rm s :: rm.drop (s + 1) := by
  rw [List.drop_eq_getElem_cons h]
  simp [at0, h]
theorem drop_put {rm : List Rat} {s : Nat} {v : Rat} (h : s < rm.length) : (rm.set s v).drop s = v :: rm.drop (s + 1) := by
  rw [List.drop_eq_getElem_cons (by rw [List.length_set]; exact h), List.getElem_set_self, List.drop_set_of_lt (by omega)]
theorem ixN_nat {n s : Nat} (h : s < n) : ixN n (s : Int) = some s := by
  unfold ixN
  have : ¬ ((s : Int) < 0) := by omega
  simp [this, h]
theorem parts_while (X : D) (L3 o4 o5 : O) {N M b : Nat} (N0 : 0 < N) (hs : (M + 1) * N < 2 ^ b) (hb : b ≤ 4000) : ∀ (m : Nat) (rm : List Rat) (s : Nat) (w : Rat) (told : List D) (o8 : O),
    2 * (rm.length - s) + (if at0 rm s = 0 then 0 else 1) + (if w = 0 then 0 else 1) ≤ m → (∀ v ∈ rm, Gr N M v ∧ 0 ≤ v) → Gr N M w → 0 ≤ w → w ≤ sumL (rm.drop s) → told.length + m ≤ 200 →
    ∃ (rm' : List Rat) (s' : Nat) (told' : List D) (o8' : O), sWhile t2_parts l2_parts [.val X, .lst (rm.map numD), .val (.int (s : Int)), L3, o4, o5, .val (numD w), .lst told, o8] =
      some (.next [.val X, .lst (rm'.map numD), .val (.int (s' : Int)), L3, o4, o5, .val (numD 0), .lst told', o8']) ∧ (∀ v ∈ rm', Gr N M v ∧ 0 ≤ v) ∧ rm'.length = rm.length ∧ sumL (rm'.drop s') = sumL (rm.drop s) - w ∧ told'.length ≤ 1000 := by
  intro m
  induction m with
  | zero =>
    intro rm s w told o8 hm _ gw w0 hw ht
    have e : w = 0 := by
      apply Classical.byContradiction
      intro h
      rw [if_neg h] at hm
      omega
    subst e
    refine ⟨rm, s, told, o8, ?_, by assumption, rfl, by grind, by omega⟩
    have nn : k_NOUGHT = numD 0 := rfl
    have tt : t2_parts [.val X, .lst (rm.map numD), .val (.int (s : Int)), L3, o4, o5, .val (numD 0), .lst told, o8] = some (false, [.val X, .lst (rm.map numD), .val (.int (s : Int)), L3, o4, o5, .val (numD 0), .lst told, o8]) := by
      simp [t2_parts, nn]
    rw [sWhile_eq, tt, Option.bind_some]
    rfl
  | succ m ih =>
    intro rm s w told o8 hm hv gw w0 hw ht
    have nn : k_NOUGHT = numD 0 := rfl
    have tt : t2_parts [.val X, .lst (rm.map numD), .val (.int (s : Int)), L3, o4, o5, .val (numD w), .lst told, o8] = some (decide (w ≠ 0), [.val X, .lst (rm.map numD), .val (.int (s : Int)), L3, o4, o5, .val (numD w), .lst told, o8]) := by
      simp [t2_parts, nn]
    by_cases e : w = 0
    · subst e
      refine ⟨rm, s, told, o8, ?_, hv, rfl, by grind, by omega⟩
      rw [sWhile_eq, tt, Option.bind_some, decide_eq_false (by simp)]
      rfl
    rw [if_neg e] at hm
    have wp : 0 < w := by grind
    have sl : s < rm.length := by
      apply Classical.byContradiction
      intro h
      rw [List.drop_eq_nil_of_le (by omega)] at hw
      have : w ≤ 0 := hw
      grind
    have da := drop_at sl
    rw [da] at hw
    have hw : w ≤ at0 rm s + sumL (rm.drop (s + 1)) := hw
    have mem : at0 rm s ∈ rm := by
      have : at0 rm s = rm[s] := by simp [at0, sl]
      rw [this]
      exact List.getElem_mem sl
    obtain ⟨gs, s0⟩ := hv _ mem
    have ix : dIx (.lst (rm.map numD)) (.int (s : Int)) = some (numD (at0 rm s)) := by
      rw [v_dIxL]
      simp [at0, sl]
    have no : noL (numD (at0 rm s)) = true := rfl
    have now : noL (numD w) = true := rfl
    have q0 : dEq (numD (at0 rm s)) (numD 0) = some (.bl (decide (at0 rm s = 0))) := dEq_numD
    have c2 : 2 ≤ cap := by decide
    have tl : told.length < cap := Nat.lt_of_le_of_lt (show told.length ≤ 200 by omega) (by decide)
    have xn : ixN rm.length (s : Int) = some s := ixN_nat sl
    rw [sWhile_eq, tt, Option.bind_some, decide_eq_true e]
    simp only [if_true]
    by_cases z : at0 rm s = 0
    · have bd : l2_parts [.val X, .lst (rm.map numD), .val (.int (s : Int)), L3, o4, o5, .val (numD w), .lst told, o8] = some (.next [.val X, .lst (rm.map numD), .val (.int ((s + 1 : Nat) : Int)), L3, o4, o5, .val (numD w), .lst told, o8]) := by
        rw [decide_eq_true z] at q0
        have cs : ((s + 1 : Nat) : Int) = (s : Int) + 1 := by omega
        rw [cs]
        generalize numD (at0 rm s) = S at *
        generalize rm.map numD = RM at *
        generalize (s : Int) = si at *
        generalize numD w = W at *
        simp [l2_parts, eBor, ix, no, nn, q0]
      rw [bd, Option.bind_some]
      rw [if_pos z] at hm
      obtain ⟨rm', s', told', o8', h1, h2, h3, h4, h5⟩ := ih rm (s + 1) w told o8 (by rw [if_neg e]; split <;> omega) hv gw w0 (by rw [z] at hw; grind) (by omega)
      refine ⟨rm', s', told', o8', h1, h2, h3, ?_, h5⟩
      rw [h4, da, z]
      show _ = (0 : Rat) + sumL (rm.drop (s + 1)) - w
      grind
    · rw [if_neg z] at hm
      rw [decide_eq_false z] at q0
      have ls := c_is_less (gs.sz N0 hs) (gw.sz N0 hs) hb
      have t1 := c_taken (gs.sz N0 hs) (gs.sz N0 hs) hb
      have t2 := c_taken (gw.sz N0 hs) (gs.sz N0 hs) hb
      have t3 := c_taken (gs.sz N0 hs) (gw.sz N0 hs) hb
      have t4 := c_taken (gw.sz N0 hs) (gw.sz N0 hs) hb
      have sm : ∀ v : Rat, (rm.map numD).set s (numD v) = (rm.set s v).map numD := fun v => List.map_set.symm
      have len : (rm.map numD).length = rm.length := List.length_map ..
      by_cases y : at0 rm s < w
      · have ez : at0 rm s - at0 rm s = 0 := by grind
        rw [ez] at t1
        rw [decide_eq_true y] at ls
        have bd : l2_parts [.val X, .lst (rm.map numD), .val (.int (s : Int)), L3, o4, o5, .val (numD w), .lst told, o8] = some (.next [.val X, .lst ((rm.set s 0).map numD), .val (.int (s : Int)), L3, o4, o5, .val (numD (w - at0 rm s)), .lst (told ++ [.tup [.int (s : Int), numD (at0 rm s)]]), .val (numD (at0 rm s))]) := by
          rw [← sm 0]
          rw [← len] at xn
          generalize numD (at0 rm s) = S at *
          generalize rm.map numD = RM at *
          generalize hsi : (s : Int) = si at *
          generalize numD w = W at *
          generalize numD (w - at0 rm s) = W2 at *
          simp [l2_parts, eBor, ix, no, now, nn, q0, ls, t1, t2, c2, tl, xn]
        rw [bd, Option.bind_some]
        obtain ⟨rm', s', told', o8', h1, h2, h3, h4, h5⟩ := ih (rm.set s 0) s (w - at0 rm s) (told ++ [.tup [.int (s : Int), numD (at0 rm s)]]) (.val (numD (at0 rm s))) (by
            have a0 : at0 (rm.set s 0) s = 0 := by simp [at0, sl]
            rw [a0, if_pos rfl, List.length_set]
            split <;> omega) (fun v hv2 => by
            rcases List.mem_or_eq_of_mem_set hv2 with h | h
            · exact hv v h
            · subst h; exact ⟨Gr.zero, Rat.le_refl⟩) ((gw.sub gs).within (by have := gw.2.1; grind) (by have := gw.2.2; grind)) (by grind) (by
            rw [drop_put sl]
            show w - at0 rm s ≤ 0 + sumL (rm.drop (s + 1))
            grind) (by rw [List.length_append, List.length_singleton]; omega)
        refine ⟨rm', s', told', o8', h1, h2, by rw [h3, List.length_set], ?_, h5⟩
        rw [h4, drop_put sl, da]
        show (0 : Rat) + sumL (rm.drop (s + 1)) - (w - at0 rm s) = at0 rm s + sumL (rm.drop (s + 1)) - w
        grind
      · have ez : w - w = 0 := by grind
        rw [ez] at t4
        rw [decide_eq_false y] at ls
        have bd : l2_parts [.val X, .lst (rm.map numD), .val (.int (s : Int)), L3, o4, o5, .val (numD w), .lst told, o8] = some (.next [.val X, .lst ((rm.set s (at0 rm s - w)).map numD), .val (.int (s : Int)), L3, o4, o5, .val (numD 0), .lst (told ++ [.tup [.int (s : Int), numD w]]), .val (numD w)]) := by
          rw [← sm (at0 rm s - w)]
          rw [← len] at xn
          generalize numD (at0 rm s) = S at *
          generalize rm.map numD = RM at *
          generalize hsi : (s : Int) = si at *
          generalize numD w = W at *
          generalize numD (at0 rm s - w) = W2 at *
          simp [l2_parts, eBor, ix, no, now, nn, q0, ls, t3, t4, c2, tl, xn]
        rw [bd, Option.bind_some]
        obtain ⟨rm', s', told', o8', h1, h2, h3, h4, h5⟩ := ih (rm.set s (at0 rm s - w)) s 0 (told ++ [.tup [.int (s : Int), numD w]]) (.val (numD w)) (by
            rw [if_pos rfl, List.length_set]
            split <;> omega) (fun v hv2 => by
            rcases List.mem_or_eq_of_mem_set hv2 with h | h
            · exact hv v h
            · subst h; exact ⟨(gs.sub gw).within (by have := gs.2.1; grind) (by have := gs.2.2; grind), by grind⟩) Gr.zero Rat.le_refl (by
            rw [drop_put sl]
            show (0 : Rat) ≤ at0 rm s - w + sumL (rm.drop (s + 1))
            grind) (by rw [List.length_append, List.length_singleton]; omega)
        refine ⟨rm', s', told', o8', h1, h2, by rw [h3, List.length_set], ?_, h5⟩
        rw [h4, drop_put sl, da]
        show at0 rm s - w + sumL (rm.drop (s + 1)) - 0 = at0 rm s + sumL (rm.drop (s + 1)) - w
        grind
theorem sumN_succ' (f : Nat → Rat) : ∀ n : Nat, sumN f (n + 1) = f 0 + sumN (fun k => f (k + 1)) n
  | 0 => by show (0 : Rat) + f 0 = f 0 + 0; grind
  | n + 1 => by
    show sumN f (n + 1) + f (n + 1) = f 0 + (sumN (fun k => f (k + 1)) n + f (n + 1))
    rw [sumN_succ' f n]; grind
theorem sumL_eq : ∀ l : List Rat, sumL l = sumN (at0 l) l.length
  | [] => rfl
  | v :: r => by
    show v + sumL r = sumN (at0 (v :: r)) (r.length + 1)
    rw [sumN_succ', sumL_eq r]
    rfl
theorem works_nn : ∀ {J : List Job}, JobsOk J → 0 ≤ worksF J
  | [], _ => Rat.le_refl
  | j :: J, ok => by
    have := works_nn ok.tail
    have := ok.head
    show 0 ≤ j.w + worksF J
    grind
theorem works_left {J : List Job} (ok : JobsOk J) {i : Nat} (hi : i < J.length) : worksF (J.take (i + 1)) = worksF (J.take i) + J[i].w ∧ worksF (J.take (i + 1)) ≤ worksF J := by
  constructor
  · rw [List.take_succ_eq_append_getElem hi, worksF_append]
    show worksF (J.take i) + (J[i].w + 0) = _
    grind
  · have e := worksF_append (J.take (i + 1)) (J.drop (i + 1))
    rw [List.take_append_drop] at e
    have := works_nn (J := J.drop (i + 1)) fun j hj => ok j (List.mem_of_mem_drop hj)
    grind
theorem c_parts {J : List Job} {N M b : Nat} (g : JobsGood N M J) (N0 : 0 < N) (hs : (12 * M + 1) * N < 2 ^ b) (hb : 1 ≤ b) (hb2 : b ≤ 1000) (hs2 : (51 * (12 * M) + 51 * (12 * M) + 1) * (N * L25) < 2 ^ 4000) :
    ∃ L : List D, m_parts [jobsX J] = some (.tup L) ∧ L.length = J.length := by
  have l24 := g.last24
  have n12 := g.n12
  obtain ⟨sp, S, e, gr⟩ := c_speeds g N0 hs hb hb2
  have N1 : 0 < N * L25 := Nat.mul_pos N0 (by decide)
  have loop := fun (o4 o5 o6 o7 o8 : O) => forD_map (g := gTup (gsCons (gN 4) (gsCons (gN 5) (gsCons (gN 6) (gsNil))))) (fb := l1_parts) (s := [.val (jobsX J), .lst (sp.map numD), .val (.int ((0 : Nat) : Int)), .lst [], o4, o5, o6, o7, o8]) jobD J
    (fun i s => ∃ (rm : List Rat) (k : Nat) (L : List D) (o4 o5 o6 o7 o8 : O), s = [.val (jobsX J), .lst (rm.map numD), .val (.int (k : Int)), .lst L, o4, o5, o6, o7, o8] ∧ (∀ v ∈ rm, Gr (N * L25) (51 * (12 * M) + 51 * (12 * M)) v ∧ 0 ≤ v) ∧ rm.length = sp.length ∧ sumL (rm.drop k) = worksF J - worksF (J.take i) ∧ L.length = i)
    ⟨sp, 0, [], o4, o5, o6, o7, o8, rfl, gr, rfl, by
      rw [List.drop_zero, sumL_eq, S.1, S.all g]
      show _ = worksF J - 0
      grind, rfl⟩ (fun i hi s ⟨rm, k, L, o4, o5, o6, o7, o8, hs', hv, len, sm, hL⟩ => by
      subst hs'
      obtain ⟨w1, w2⟩ := works_left g.ok hi
      have gw := (g.gr J[i] (List.getElem_mem hi)).mono (N' := N * L25) (M' := 51 * (12 * M) + 51 * (12 * M)) (Nat.dvd_mul_right ..) (by omega)
      have wp := (g.ok J[i] (List.getElem_mem hi)).2
      obtain ⟨rm', k', told', o8', h1, h2, h3, h4, h5⟩ := parts_while (jobsX J) (.lst L) (.val (.int (J[i].a : Int))) (.val (.int (J[i].d : Int))) N1 hs2 (by decide) (2 * rm.length + 2) rm k J[i].w [] o8 (by split <;> split <;> omega) hv gw (by grind) (by rw [sm]; grind) (by
        show 0 + (2 * rm.length + 2) ≤ 200
        rw [len, S.1]; omega)
      refine ⟨_, [.val (jobsX J), .lst (rm'.map numD), .val (.int (k' : Int)), .lst (L ++ [.tup told']), .val (.int (J[i].a : Int)), .val (.int (J[i].d : Int)), .val (numD 0), .val (.lst told'), o8'], rfl, .inl ?_, rm', k', L ++ [.tup told'], _, _, _, _, _, rfl, h2, by rw [h3, len], by rw [h4, sm, w1]; grind, by rw [List.length_append, hL]; rfl⟩
      have c1 : told'.length ≤ cap := Nat.le_trans h5 (by decide)
      have c2 : L.length < cap := Nat.lt_of_le_of_lt (show L.length ≤ 12 by omega) (by decide)
      generalize numD J[i].w = W at *
      generalize (J[i].a : Int) = a at *
      generalize (J[i].d : Int) = d at *
      generalize jobsX J = X at *
      generalize rm.map numD = RM at *
      generalize rm'.map numD = RM' at *
      generalize (k : Int) = kk at *
      generalize (k' : Int) = kk' at *
      generalize numD 0 = Z at *
      simp [l1_parts, h1, c1, c2])
  obtain ⟨s', e2, rm, k, L, o4, o5, o6, o7, o8, rfl, _, _, _, hL⟩ := loop .un .un .un .un .un
  have it : items (jobsX J) = some (J.map jobD) := rfl
  have c1 : L.length ≤ cap := Nat.le_trans (show L.length ≤ 12 by omega) (by decide)
  refine ⟨L, ?_, hL⟩
  rw [show ((0 : Nat) : Int) = 0 from rfl] at e2
  unfold rowX at e
  generalize J.map jobD = JL at *
  generalize jobsX J = X at *
  generalize sp.map numD = SP at *
  simp [m_parts, b_parts, runP, e, it, e2, c1]
end Gn
/-! ### the cord as the laws find it -/
namespace Gn
open PySem PySem.Spec PyProof.Rows L2 DL Tt
theorem one_over {d : Nat} (h : 0 < d) : ∃ q : Rat, D.tup [.int 1, .int (d : Int)] = numD q ∧ q * (d : Rat) = 1 ∧ Sz 1 (1 : Rat) ∧ q.num = 1 ∧ q.den = d := by
  refine ⟨⟨1, d, by omega, by simp⟩, rfl, ?_, ⟨by decide, by decide⟩, rfl, rfl⟩
  have := q_den ⟨1, d, by omega, by simp⟩
  exact this
end Gn
/-! ### the law's own pack -/
namespace Gn
open PySem PySem.Spec PyProof.Rows L2 DL
theorem c_mixed {z : Int} (h : z.natAbs.log2 ≤ 10000000) : ∃ r : Int, r.natAbs.log2 ≤ 1000 ∧ m__law_mixed [.int z] = some (.int r) := by
  refine ⟨(z * 301029995663981195213738894724493026768189881462108541310427).fmod (10 ^ 60), ?_, ?_⟩
  · have h1 := Int.fmod_nonneg_of_pos (z * 301029995663981195213738894724493026768189881462108541310427) (b := 10 ^ 60) (by decide)
    have h2 := Int.fmod_lt_of_pos (z * 301029995663981195213738894724493026768189881462108541310427) (b := 10 ^ 60) (by decide)
    generalize (z * 301029995663981195213738894724493026768189881462108541310427).fmod (10 ^ 60) = r at h1 h2
    exact Nat.le_of_lt (log2_of (n := 1000) (Nat.lt_of_lt_of_le (m := 10 ^ 60) (by omega) (by decide +kernel)) (by decide))
  · have l : z.natAbs.log2 + (301029995663981195213738894724493026768189881462108541310427 : Int).natAbs.log2 < 100000000 := by
      have : (301029995663981195213738894724493026768189881462108541310427 : Int).natAbs.log2 < 1000 := log2_of (by decide +kernel) (by decide)
      omega
    have m : dMul (.int z) (.int 301029995663981195213738894724493026768189881462108541310427) = some (.int (z * 301029995663981195213738894724493026768189881462108541310427)) := if_pos l
    have w : dPow (.int 10) (.int 60) = some (.int (10 ^ 60)) := rfl
    simp [m__law_mixed, b__law_mixed, runP, m, w, dMod]
theorem pack_step {ns : List Int} (hl : ns.length ≤ 63) (hb : ∀ z ∈ ns, Builtin.Int.intBits z ≤ 1048576) {a : Nat} (ha : a ≤ 100) {f : Int} (hf : f.natAbs.log2 ≤ 1000) (k : O) : ∃ r : Int, r.natAbs.log2 ≤ 1000 ∧
    l1__law_pack [.val (.lst (ns.map D.int)), k, .val (.int f), .val (.int a)] = some (.next [.val (.lst (ns.map D.int)), k, .val (.int (f * 10 ^ 60 + r)), .val (.int a)]) := by
  obtain ⟨z, hz, e⟩ : ∃ z : Int, z.natAbs.log2 ≤ 10000000 ∧ ((ns.map D.int)[a]?).getD (.int (7907 * a + 53)) = .int z := by
    by_cases h : a < ns.length
    · exact ⟨ns[a], bits_log (hb _ (List.getElem_mem h)), by simp [h]⟩
    · have h2 : (7907 * (a : Int) + 53).natAbs.log2 < 1000 := log2_of (Nat.lt_of_lt_of_le (m := 10 ^ 8) (by omega) (by decide +kernel)) (by decide)
      refine ⟨7907 * a + 53, by omega, ?_⟩
      rw [List.getElem?_eq_none (by simpa using Nat.le_of_not_lt h)]; rfl
  obtain ⟨r, hr, er⟩ := c_mixed hz
  have c := cell_at (xs := ns.map D.int) (k := a) (d := .int (7907 * a + 53)) ha (by simp; omega)
  rw [e] at c
  have p : dPow (.int 10) (.int 60) = some (.int (10 ^ 60)) := rfl
  have w : (10 ^ 60 : Int).natAbs.log2 < 1000 := log2_of (by decide +kernel) (by decide)
  have m : dMul (.int f) (.int (10 ^ 60)) = some (.int (f * 10 ^ 60)) := if_pos (by omega)
  have m2 : dMul (.int 7907) (.int a) = some (.int (7907 * a)) := if_pos (by
    have h1 : (7907 : Int).natAbs.log2 < 1000 := log2_of (by decide +kernel) (by decide)
    have h2 : (a : Int).natAbs.log2 < 1000 := log2_of (Nat.lt_of_lt_of_le (m := 2 ^ 10) (by omega) (by decide +kernel)) (by decide)
    omega)
  refine ⟨r, hr, ?_⟩
  have cb : dCut (.lst (ns.map D.int)) (some a) (some ((a : Int) + 1)) = some (.lst (DL.cutD (ns.map D.int) (some a) (some ((a : Int) + 1)))) := rfl
  simp only [l1__law_pack, v_sAsg, v_e2, v_eVar, v_eC, v_eCall, v_aCons, v_aNil, v_eCut, v_oSome, v_eLst, List.getElem?_cons_succ, List.getElem?_cons_zero, Option.bind_some, Option.map_some, p, m, m2, v_addL, cb]
  cases hq : dAddL (.lst (DL.cutD (ns.map D.int) (some a) (some ((a : Int) + 1)))) (.lst [.int (7907 * a + 53)]) with
  | none => rw [hq] at c; exact nomatch c
  | some q =>
    rw [hq, Option.bind_some] at c
    simp [cap, hq, c, er]
theorem c_pack {ns : List Int} (hl : ns.length ≤ 63) (hb : ∀ z ∈ ns, Builtin.Int.intBits z ≤ 1048576) {k : Nat} (hk : k ≤ 99) : ∃ p : Int, m__law_pack [.lst (ns.map D.int), .int k] = some [.int p] := by
  obtain ⟨r, hr, e⟩ := pack_step hl hb (a := k + 1) (by omega) (f := 0) (by decide) (.val (.int k))
  obtain ⟨r2, _, e2⟩ := pack_step hl hb (a := k) (by omega) (f := r) hr (.val (.int k))
  refine ⟨r * 10 ^ 60 + r2, ?_⟩
  have c : ((k + 1 : Nat) : Int) = (k : Int) + 1 := by omega
  rw [c, Int.zero_mul, Int.zero_add] at e
  simp [m__law_pack, b__law_pack, DL.runN, cap, v_forD_cons, e, e2]
end Gn
/-! ### the law k68 -/
namespace Gn
open PySem PySem.Spec PyProof.Rows L2 DL Tt
/-! jobs made of jobs -/
theorem at0_scale (c : Rat) (x : List Rat) (k : Nat) : at0 (x.map (· * c)) k = at0 x k * c := by
  unfold at0
  rw [List.getD_eq_getElem?_getD, List.getD_eq_getElem?_getD, List.getElem?_map]
  cases x[k]? with
  | none => show (0 : Rat) = 0 * c; grind
  | some v => rfl
theorem sum_scale (c : Rat) (x : List Rat) : ∀ k, sumN (at0 (x.map (· * c))) k = sumN (at0 x) k * c
  | 0 => by show (0 : Rat) = 0 * c; grind
  | k + 1 => by
    show sumN (at0 (x.map (· * c))) k + at0 (x.map (· * c)) k = (sumN (at0 x) k + at0 x k) * c
    rw [sum_scale c x k, at0_scale]; grind
theorem lastD_map {J : List Job} {f : Job → Job} (h : 0 < J.length) : lastD (J.map f) = (f (J[J.length - 1]'(by omega))).d := by
  rw [lastD_at (by simpa using h)]
  simp
theorem JobsGood.great {N M N' M' : Nat} {J : List Job} (g : JobsGood N M J) {c : Rat} (c0 : 0 < c) (gc : Gr N' M' c) : JobsGood (N * N') (M * M') (greatJ c J) where
  n1 := by have := g.n1; simpa [greatJ] using this
  n12 := by have := g.n12; simpa [greatJ] using this
  ok := fun j hj => by
    obtain ⟨i, hi, rfl⟩ := List.mem_map.mp hj
    exact ⟨(g.ok i hi).1, Rat.mul_pos (g.ok i hi).2 c0⟩
  late := fun j hj => by
    obtain ⟨i, hi, rfl⟩ := List.mem_map.mp hj
    exact g.late i hi
  srt := List.pairwise_map.mpr g.srt
  gr := fun j hj => by
    obtain ⟨i, hi, rfl⟩ := List.mem_map.mp hj
    exact (g.gr i hi).mul gc
theorem SpOk.great {N M : Nat} {J : List Job} (g : JobsGood N M J) {sp : List Rat} (S : SpOk J sp) {c : Rat} (c0 : 0 < c) : SpOk (greatJ c J) (sp.map (· * c)) := by
  have l : lastD (greatJ c J) = lastD J := by
    have := g.n1
    unfold greatJ
    rw [lastD_map (by omega), lastD_at (by omega)]
  refine ⟨by rw [List.length_map, l, S.1], ?_⟩
  rw [l]
  exact (S.2.great c0).congr fun k _ => ⟨(due_great c J k).symm, (come_great c J k).symm, (sum_scale c sp k).symm⟩
theorem lastD_late {J : List Job} (h : 0 < J.length) (b : Nat) : lastD (lateJ b J) = lastD J + b := by
  unfold lateJ
  rw [lastD_map h, lastD_at h]
theorem JobsGood.later {N M : Nat} {J : List Job} (g : JobsGood N M J) {b : Nat} (hb : lastD J + b ≤ 24) : JobsGood N M (lateJ b J) where
  n1 := by have := g.n1; simpa [lateJ] using this
  n12 := by have := g.n12; simpa [lateJ] using this
  ok := fun j hj => by
    obtain ⟨i, hi, rfl⟩ := List.mem_map.mp hj
    exact ⟨Nat.add_lt_add_right (g.ok i hi).1 b, (g.ok i hi).2⟩
  late := fun j hj => by
    obtain ⟨i, hi, rfl⟩ := List.mem_map.mp hj
    have := g.le_last i hi
    show i.d + b ≤ 24
    omega
  srt := List.pairwise_map.mpr (g.srt.imp fun {x y} h => ⟨Nat.add_le_add_right h.1 b, Nat.add_le_add_right h.2 b⟩)
  gr := fun j hj => by
    obtain ⟨i, hi, rfl⟩ := List.mem_map.mp hj
    exact g.gr i hi
theorem at0_behind (b : Nat) (x : List Rat) (k : Nat) : at0 (List.replicate b 0 ++ x) k = if k < b then 0 else at0 x (k - b) := by
  unfold at0
  rw [List.getD_eq_getElem?_getD, List.getD_eq_getElem?_getD]
  split
  · rename_i h
    rw [List.getElem?_append_left (by simpa using h)]
    simp [h]
  · rename_i h
    rw [List.getElem?_append_right (by simp; omega)]
    simp
theorem sum_behind (b : Nat) (x : List Rat) : ∀ k, sumN (at0 (List.replicate b 0 ++ x)) k = sumN (at0 x) (k - b)
  | 0 => by rw [Nat.zero_sub]; rfl
  | k + 1 => by
    show sumN (at0 (List.replicate b 0 ++ x)) k + at0 (List.replicate b 0 ++ x) k = _
    rw [sum_behind b x k, at0_behind]
    split
    · rename_i h
      rw [show k - b = 0 by omega, show k + 1 - b = 0 by omega]
      show (0 : Rat) + 0 = 0
      grind
    · rename_i h
      rw [show k + 1 - b = (k - b) + 1 by omega]
      rfl
theorem SpOk.rise {N M : Nat} {J : List Job} (g : JobsGood N M J) {sp : List Rat} (S : SpOk J sp) : ∀ k, k + 1 < lastD J + 1 → sumN (at0 sp) k ≤ sumN (at0 sp) (k + 1) :=
  S.2.rises (fun k hk => due_mono g.ok (by omega)) (fun k hk => come_mono g.ok (by omega)) (g.tie0.1.trans g.tie0.2.symm) (by rw [Nat.add_sub_cancel]; exact g.tie1.1.trans g.tie1.2.symm)
theorem SpOk.later {N M : Nat} {J : List Job} (g : JobsGood N M J) {sp : List Rat} (S : SpOk J sp) (b : Nat) : SpOk (lateJ b J) (List.replicate b 0 ++ sp) := by
  have n1 := g.n1
  have l := lastD_late (J := J) (by omega) b
  refine ⟨by rw [List.length_append, List.length_replicate, l, S.1]; omega, ?_⟩
  have ok' : JobsOk (lateJ b J) := fun j hj => by
    obtain ⟨i, hi, rfl⟩ := List.mem_map.mp hj
    exact ⟨Nat.add_lt_add_right (g.ok i hi).1 b, (g.ok i hi).2⟩
  have T := S.2.behind b (g.tie0.1.trans g.tie0.2.symm) (fun h => S.rise g 0 h) (lo' := dueF (lateJ b J)) (hi' := comeF (lateJ b J)) (fun k hk => by
      have e1 : dueF (lateJ b J) k = 0 := due_none fun j hj => by
        obtain ⟨i, hi, rfl⟩ := List.mem_map.mp hj
        show k < i.d + b
        omega
      have e2 : comeF (lateJ b J) k = 0 := come_none fun j hj => by
        obtain ⟨i, hi, rfl⟩ := List.mem_map.mp hj
        show k ≤ i.a + b
        omega
      rw [e1, e2]
      exact ⟨Rat.le_refl, Rat.le_refl⟩) (fun k hk => ⟨due_late b J k, come_late b J k⟩)
  rw [l, show lastD J + b + 1 = b + (lastD J + 1) by omega]
  exact T.congr fun k _ => ⟨rfl, rfl, (sum_behind b sp k).symm⟩
/-! turned about -/
theorem JobsGood.turned {N M : Nat} {J : List Job} (g : JobsGood N M J) : JobsGood N M (turnJ (lastD J) J) where
  n1 := by have := g.n1; simpa [turnJ] using this
  n12 := by have := g.n12; simpa [turnJ] using this
  ok := fun j hj => by
    obtain ⟨i, hi, rfl⟩ := List.mem_map.mp hj
    have hi := List.mem_reverse.mp hi
    have := g.ok i hi
    have := g.le_last i hi
    exact ⟨show lastD J - i.d < lastD J - i.a by omega, (g.ok i hi).2⟩
  late := fun j hj => by
    obtain ⟨i, hi, rfl⟩ := List.mem_map.mp hj
    have := g.last24
    show lastD J - i.a ≤ 24
    omega
  srt := List.pairwise_map.mpr (List.pairwise_reverse.mpr (g.srt.imp fun {x y} h => ⟨Nat.sub_le_sub_left h.2 _, Nat.sub_le_sub_left h.1 _⟩))
  gr := fun j hj => by
    obtain ⟨i, hi, rfl⟩ := List.mem_map.mp hj
    exact g.gr i (List.mem_reverse.mp hi)
theorem lastD_turn {J : List Job} (h : 0 < J.length) (l : Nat) : lastD (turnJ l J) = l - J[0].a := by
  unfold turnJ
  rw [lastD_map (by simpa using h)]
  simp [List.getElem_reverse]
theorem at0_rev (x : List Rat) (k : Nat) (h : k < x.length) : at0 x.reverse k = at0 x (x.length - 1 - k) := by
  unfold at0
  rw [List.getD_eq_getElem?_getD, List.getD_eq_getElem?_getD, List.getElem?_reverse h]
theorem sum_rev (x : List Rat) : ∀ k, k ≤ x.length → sumN (at0 x.reverse) k = sumN (at0 x) x.length - sumN (at0 x) (x.length - k)
  | 0, _ => by show (0 : Rat) = sumN (at0 x) x.length - sumN (at0 x) x.length; grind
  | k + 1, h => by
    show sumN (at0 x.reverse) k + at0 x.reverse k = _
    rw [sum_rev x k (by omega), at0_rev x k (by omega)]
    have e : x.length - k = (x.length - (k + 1)) + 1 := by omega
    have e2 : x.length - 1 - k = x.length - (k + 1) := by omega
    rw [e, e2]
    show sumN (at0 x) x.length - (sumN (at0 x) (x.length - (k + 1)) + at0 x (x.length - (k + 1))) + at0 x (x.length - (k + 1)) = _
    grind
theorem SpOk.turned {N M : Nat} {J : List Job} (g : JobsGood N M J) {sp : List Rat} (S : SpOk J sp) (a0 : (J[0]'(by have := g.n1; omega)).a = 0) : SpOk (turnJ (lastD J) J) sp.reverse := by
  have n1 := g.n1
  have l : lastD (turnJ (lastD J) J) = lastD J := by rw [lastD_turn (by omega), a0]; rfl
  refine ⟨by rw [List.length_reverse, l, S.1], ?_⟩
  rw [l]
  refine ((S.2.turn).away (worksF J)).congr fun k hk => ?_
  simp only [Nat.add_sub_cancel]
  refine ⟨(due_turn (lastD J) g.ok g.le_last k (by omega)).symm, (come_turn (lastD J) g.ok g.le_last k (by omega)).symm, ?_⟩
  rw [sum_rev sp k (by rw [S.1]; omega), S.1, S.all g]
/-! one parted -/
theorem lastD_append {A B : List Job} (h : B ≠ []) : lastD (A ++ B) = lastD B := by
  have := List.length_pos_iff.mpr h
  unfold lastD
  rw [List.length_append, List.getElem?_append_right (by omega)]
  congr 3
  omega
theorem lastD_part {A B : List Job} {a d : Nat} {w v : Rat} : lastD (A ++ [⟨a, d, v⟩, ⟨a, d, w - v⟩] ++ B) = lastD (A ++ [⟨a, d, w⟩] ++ B) := by
  by_cases h : B = []
  · subst h
    rw [List.append_nil, List.append_nil, lastD_append (by simp), lastD_append (by simp)]
    rfl
  · rw [lastD_append h, lastD_append h]
theorem JobsGood.part {N M : Nat} {A B : List Job} {a d : Nat} {w v : Rat} (g : JobsGood N M (A ++ [⟨a, d, w⟩] ++ B)) (h11 : (A ++ ([⟨a, d, w⟩] : List Job) ++ B).length ≤ 11) (v0 : 0 < v) (v1 : v < w) (g1 : Gr N M v) (g2 : Gr N M (w - v)) : JobsGood N M (A ++ [⟨a, d, v⟩, ⟨a, d, w - v⟩] ++ B) := by
  have sub : ∀ j : Job, j ∈ (A ++ ([⟨a, d, v⟩, ⟨a, d, w - v⟩] : List Job) ++ B) → (j ∈ (A ++ ([⟨a, d, w⟩] : List Job) ++ B)) ∨ j = ⟨a, d, v⟩ ∨ j = ⟨a, d, w - v⟩ := fun j hj => by
    simp only [List.mem_append, List.mem_cons, List.not_mem_nil, or_false] at hj ⊢
    rcases hj with (h | h | h) | h
    · exact .inl (.inl (.inl h))
    · exact .inr (.inl h)
    · exact .inr (.inr h)
    · exact .inl (.inr h)
  have me : (⟨a, d, w⟩ : Job) ∈ A ++ [⟨a, d, w⟩] ++ B := by simp
  have ok := g.ok _ me
  have la := g.late _ me
  refine ⟨by simp only [List.length_append, List.length_cons]; omega, ?_, fun j hj => ?_, fun j hj => ?_, ?_, fun j hj => ?_⟩
  · simp only [List.length_append, List.length_cons, List.length_nil] at h11 ⊢
    omega
  · rcases sub j hj with h | h | h
    · exact g.ok j h
    · subst h; exact ⟨ok.1, v0⟩
    · subst h; exact ⟨ok.1, by show 0 < w - v; grind⟩
  · rcases sub j hj with h | h | h
    · exact g.late j h
    · subst h; exact la
    · subst h; exact la
  · have s := g.srt
    rw [List.append_assoc, List.pairwise_append] at s ⊢
    obtain ⟨s1, s2, s3⟩ := s
    have s2 : List.Pairwise (fun x y : Job => x.a ≤ y.a ∧ x.d ≤ y.d) (⟨a, d, w⟩ :: B) := s2
    obtain ⟨t1, t2⟩ := List.pairwise_cons.mp s2
    refine ⟨s1, ?_, fun x hx y hy => ?_⟩
    · show List.Pairwise _ (⟨a, d, v⟩ :: ⟨a, d, w - v⟩ :: B)
      refine List.pairwise_cons.mpr ⟨fun y hy => ?_, List.pairwise_cons.mpr ⟨t1, t2⟩⟩
      rcases List.mem_cons.mp hy with h | h
      · subst h; exact ⟨Nat.le_refl _, Nat.le_refl _⟩
      · exact t1 y h
    · have hy : y ∈ (⟨a, d, v⟩ : Job) :: ⟨a, d, w - v⟩ :: B := hy
      have z := s3 x hx ⟨a, d, w⟩ (by simp)
      rcases List.mem_cons.mp hy with h | h
      · subst h; exact z
      · rcases List.mem_cons.mp h with h | h
        · subst h; exact z
        · exact s3 x hx y (by simp [h])
  · rcases sub j hj with h | h | h
    · exact g.gr j h
    · subst h; exact g1
    · subst h; exact g2
theorem SpOk.part {A B : List Job} {a d : Nat} {w v : Rat} {sp : List Rat} (S : SpOk (A ++ [⟨a, d, w⟩] ++ B) sp) : SpOk (A ++ [⟨a, d, v⟩, ⟨a, d, w - v⟩] ++ B) sp := by
  refine ⟨by rw [lastD_part]; exact S.1, ?_⟩
  rw [lastD_part]
  exact S.2.congr fun k _ => ⟨(due_part k).symm, (come_part k).symm, rfl⟩
/-- begun at the first arrival -/
theorem from_first {N M : Nat} {J : List Job} (g : JobsGood N M J) : ∃ (f : Nat) (J0 : List Job), f = (J[0]'(by have := g.n1; omega)).a ∧ J = lateJ f J0 ∧ JobsGood N M J0 ∧ J0 = (J.map fun j => ⟨j.a - f, j.d - f, j.w⟩) ∧ ∀ j ∈ J, f ≤ j.a := by
  have n1 := g.n1
  have lo : ∀ j ∈ J, J[0].a ≤ j.a := fun j hj => by
    obtain ⟨i, hi, rfl⟩ := List.getElem_of_mem hj
    by_cases e : i = 0
    · subst e; exact Nat.le_refl _
    · exact (List.pairwise_iff_getElem.mp g.srt 0 i (by omega) hi (by omega)).1
  refine ⟨J[0].a, J.map fun j => ⟨j.a - J[0].a, j.d - J[0].a, j.w⟩, rfl, ?_, ?_, rfl, lo⟩
  · unfold lateJ
    rw [List.map_map]
    conv => lhs; rw [← List.map_id J]
    refine List.map_congr_left (f := id) fun j hj => ?_
    have := lo j hj
    have := (g.ok j hj).1
    show j = Job.mk (j.a - J[0].a + J[0].a) (j.d - J[0].a + J[0].a) j.w
    rw [show j.a - J[0].a + J[0].a = j.a by omega, show j.d - J[0].a + J[0].a = j.d by omega]
  · refine ⟨by simpa using n1, by simpa using g.n12, fun j hj => ?_, fun j hj => ?_, List.pairwise_map.mpr (g.srt.imp fun {x y} h => ⟨Nat.sub_le_sub_right h.1 _, Nat.sub_le_sub_right h.2 _⟩), fun j hj => ?_⟩
    · obtain ⟨i, hi, rfl⟩ := List.mem_map.mp hj
      have := lo i hi
      have := (g.ok i hi).1
      exact ⟨show i.a - J[0].a < i.d - J[0].a by omega, (g.ok i hi).2⟩
    · obtain ⟨i, hi, rfl⟩ := List.mem_map.mp hj
      have := g.late i hi
      show i.d - J[0].a ≤ 24
      omega
    · obtain ⟨i, hi, rfl⟩ := List.mem_map.mp hj
      exact g.gr i hi
/-! ### what the law's defs draw and tell -/
theorem low_pos {t b : Int} (ht : 0 < t) (hb : 0 < b) : 0 < Rat.divInt t b := by
  rw [Rat.divInt_eq_div, Rat.div_def]
  exact Rat.mul_pos (by exact_mod_cast ht) (Rat.inv_pos.mpr (by exact_mod_cast hb))
theorem job_step {p : Int} (most : O) {a d : Nat} (ha : a ≤ 23) {L : List D} (hL : L.length < 100) (o5 : O) : ∃ (p' : Int) (a' d' : Nat) (w : Rat), a ≤ a' ∧ a' ≤ 23 ∧ (d ≤ 24 → d ≤ d') ∧ d' ≤ 24 ∧ a' < d' ∧ 0 < w ∧ Gr 6 12 w ∧
    l1__law_jobs [.lst [.int p], most, .lst L, .val (.int (a : Int)), .val (.int (d : Int)), o5] = some (.next [.lst [.int p'], most, .lst (L ++ [jobD ⟨a', d', w⟩]), .val (.int (a' : Int)), .val (.int (d' : Int)), o5]) := by
  have t1 := c_take (p := p) (z := 4) (by decide) (by decide)
  have t2 := c_take (p := p / 4) (z := 6) (by decide) (by decide)
  have t3 := c_take (p := p / 4 / 6) (z := 12) (by decide) (by decide)
  have t4 := c_take (p := p / 4 / 6 / 12) (z := 3) (by decide) (by decide)
  have m1 := md (p := p) (z := 4) (by decide)
  have m2 := md (p := p / 4) (z := 6) (by decide)
  have m3 := md (p := p / 4 / 6) (z := 12) (by decide)
  have m4 := md (p := p / 4 / 6 / 12) (z := 3) (by decide)
  have lw := c_low' (t := 1 + p / 4 / 6 % 12) (b := 1 + p / 4 / 6 / 12 % 3) (by omega) (by omega)
  have w0 : 0 < Rat.divInt (1 + p / 4 / 6 % 12) (1 + p / 4 / 6 / 12 % 3) := low_pos (by omega) (by omega)
  have gw : Gr 6 12 (Rat.divInt (1 + p / 4 / 6 % 12) (1 + p / 4 / 6 / 12 % 3)) := by
    refine (Gr.divInt (M := 12) (t := 1 + p / 4 / 6 % 12) (b := 1 + p / 4 / 6 / 12 % 3) (by omega) (by omega)).mono ?_ (Nat.le_refl _)
    have : 1 + p / 4 / 6 / 12 % 3 = 1 ∨ 1 + p / 4 / 6 / 12 % 3 = 2 ∨ 1 + p / 4 / 6 / 12 % 3 = 3 := by omega
    rcases this with h | h | h <;> rw [h] <;> decide
  generalize Rat.divInt (1 + p / 4 / 6 % 12) (1 + p / 4 / 6 / 12 % 3) = w at *
  generalize p / 4 / 6 % 12 = u3 at *
  generalize p / 4 / 6 / 12 % 3 = u4 at *
  generalize p / 4 / 6 / 12 / 3 = p4 at *
  generalize p / 4 / 6 / 12 = p3 at *
  generalize p / 4 % 6 = u2 at *
  generalize p / 4 / 6 = p2 at *
  generalize p % 4 = u1 at *
  generalize p / 4 = p1 at *
  obtain ⟨a', ea⟩ : ∃ a' : Nat, (if (a : Int) + u1 < 23 then (a : Int) + u1 else 23) = (a' : Int) := ⟨(if (a : Int) + u1 < 23 then (a : Int) + u1 else 23).toNat, by split <;> omega⟩
  obtain ⟨x, ex⟩ : ∃ x : Int, (if (a' : Int) + 1 + u2 > (d : Int) then (a' : Int) + 1 + u2 else (d : Int)) = x := ⟨_, rfl⟩
  obtain ⟨d', ed⟩ : ∃ d' : Nat, (if x < 24 then x else 24) = (d' : Int) := ⟨(if x < 24 then x else 24).toNat, by subst ex; split <;> split <;> omega⟩
  have b1 : bMin [.int 23, .int ((a : Int) + u1)] = some (.int (a' : Int)) := by rw [← ea]; rfl
  have b2 : bMax [.int (d : Int), .int ((a' : Int) + 1 + u2)] = some (.int x) := by rw [← ex]; rfl
  have b3 : bMin [.int 24, .int x] = some (.int (d' : Int)) := by rw [← ed]; rfl
  have h1 : a ≤ a' ∧ a' ≤ 23 := by split at ea <;> omega
  have h2 : (d ≤ 24 → d ≤ d') ∧ d' ≤ 24 ∧ a' < d' := by subst ex; split at ed <;> split at ed <;> omega
  refine ⟨p4, a', d', w, h1.1, h1.2, h2.1, h2.2.1, h2.2.2, w0, gw, ?_⟩
  clear ea ex ed h1 h2 m1 m2 m3 m4 w0 gw ha
  have c1 : L.length < cap := Nat.lt_trans hL (by decide)
  have c3 : 3 ≤ cap := by decide
  unfold jobD
  dsimp only
  generalize numD w = W at *
  generalize (a : Int) = ai at *
  generalize (d : Int) = di at *
  generalize (a' : Int) = ai' at *
  generalize (d' : Int) = di' at *
  simp [l1__law_jobs, t1, t2, t3, t4, b1, b2, b3, lw, c1, c3]
theorem c_ljobs (p : Int) : ∃ (J : List Job) (p' : Int), JobsGood 6 12 J ∧ J.length ≤ 8 ∧ m__law_jobs [.lst [.int p], .val (.int 8)] = some (jobsX J, [.lst [.int p'], .un]) := by
  have t1 := c_take (p := p) (z := 4) (by decide) (by decide)
  have m1 := md (p := p) (z := 4) (by decide)
  have t2 := c_take (p := p / 4) (z := 8) (by decide) (by decide)
  have m2 := md (p := p / 4) (z := 8) (by decide)
  obtain ⟨a0, ea⟩ : ∃ a0 : Nat, p % 4 = (a0 : Int) := ⟨(p % 4).toNat, by omega⟩
  obtain ⟨n0, en⟩ : ∃ n0 : Nat, p / 4 % 8 = (n0 : Int) := ⟨(p / 4 % 8).toNat, by omega⟩
  have la0 : a0 ≤ 23 := by omega
  have ln0 : n0 ≤ 7 := by omega
  rw [ea] at t1
  rw [en] at t2
  clear ea en m1 m2
  generalize p / 4 / 8 = p2 at *
  generalize p / 4 = p1 at *
  obtain ⟨s', e, p', a, d, J, o5, rfl, hJ, _, _, ok, srt⟩ := forD_rng0 (g := gN 5) (fb := l1__law_jobs) (s := [.lst [.int p2], .val (.int 8), .lst [], .val (.int (a0 : Int)), .val (.int ((0 : Nat) : Int)), .un]) (1 + n0)
    (fun i s => ∃ (p' : Int) (a d : Nat) (J : List Job) (o5 : O), s = [.lst [.int p'], .val (.int 8), .lst (J.map jobD), .val (.int (a : Int)), .val (.int (d : Int)), o5] ∧ J.length = i ∧ a ≤ 23 ∧ d ≤ 24 ∧ (∀ j ∈ J, j.a < j.d ∧ 0 < j.w ∧ j.d ≤ 24 ∧ Gr 6 12 j.w ∧ j.a ≤ a ∧ j.d ≤ d) ∧ J.Pairwise fun x y => x.a ≤ y.a ∧ x.d ≤ y.d)
    ⟨p2, a0, 0, [], .un, rfl, rfl, la0, by decide, fun _ h => (nomatch h), .nil⟩ (fun i s hi ⟨p', a, d, J, o5, hs, hJ, ha, hd, ok, srt⟩ => by
      subst hs
      obtain ⟨p'', a', d', w, h1, h2, h3, h4, h5, h6, h7, e⟩ := job_step (p := p') (.val (.int 8)) (d := d) ha (L := J.map jobD) (by rw [List.length_map]; omega) (.val (.int (i : Int)))
      refine ⟨[.lst [.int p'], .val (.int 8), .lst (J.map jobD), .val (.int (a : Int)), .val (.int (d : Int)), .val (.int (i : Int))], _, rfl, .inl e, p'', a', d', J ++ [⟨a', d', w⟩], _, by rw [List.map_append]; rfl, by rw [List.length_append, hJ]; rfl, h2, h4, fun j hj => ?_, ?_⟩
      · rcases List.mem_append.mp hj with h | h
        · have := ok j h
          exact ⟨this.1, this.2.1, this.2.2.1, this.2.2.2.1, by omega, by omega⟩
        · rw [List.mem_singleton.mp h]
          exact ⟨h5, h6, h4, h7, Nat.le_refl _, Nat.le_refl _⟩
      · refine List.pairwise_append.mpr ⟨srt, List.pairwise_singleton .., fun x hx y hy => ?_⟩
        rw [List.mem_singleton.mp hy]
        have := ok x hx
        exact ⟨show x.a ≤ a' by omega, show x.d ≤ d' by omega⟩)
  have g : JobsGood 6 12 J := ⟨by omega, by omega, fun j hj => ⟨(ok j hj).1, (ok j hj).2.1⟩, fun j hj => (ok j hj).2.2.1, srt, fun j hj => (ok j hj).2.2.2.1⟩
  refine ⟨J, p', g, by omega, ?_⟩
  have rg : ∀ st : S, DL.iRng1 (aCons (e2 dAddL (eC (.int 1)) (eCallO m__law_take (aoOwn 0 (aoVal (eVar 1) (aoNil))))) (aNil)) (.lst [.int p1] :: .val (.int 8) :: st) = some (rangeD 0 (1 + n0), .lst [.int p2] :: .val (.int 8) :: st) := fun st => by
    refine rng1_ok (1 + n0) (by omega) ?_
    have c1 : (((1 + n0 : Nat)) : Int) = 1 + (n0 : Int) := by omega
    rw [c1]
    simp [t2]
  have c1 : J.length ≤ cap := Nat.le_trans (show J.length ≤ 12 by omega) (by decide)
  have c0 : 0 ≤ cap := by decide
  unfold jobsX
  rw [show ((0 : Nat) : Int) = 0 from rfl] at e
  have c2 : (J.map jobD).length ≤ cap := by rw [List.length_map]; exact c1
  generalize J.map jobD = JL at *
  generalize (a0 : Int) = ai at *
  generalize rangeD 0 (1 + n0) = RG at *
  simp [m__law_jobs, b__law_jobs, runO, t1, rg, e, c2, c0, keepO]
theorem c_greater {J : List Job} {N M N' M' b : Nat} (g : JobsGood N M J) (N0 : 0 < N) (hs : (M + 1) * N < 2 ^ b) (hb2 : b ≤ 4000) {c : Rat} (gc : Sz b c) : m__law_greater [jobsX J, numD c] = some (jobsX (greatJ c J)) := by
  have l := lcD_map (g := gTup (gsCons (gN 2) (gsCons (gN 3) (gsCons (gN 4) (gsNil))))) (fe := eTup (aCons (eVar 2) (aCons (eVar 3) (aCons (eCall m__law_by (aCons (eVar 4) (aCons (eVar 1) (aNil)))) (aNil))))) (own := [2, 3, 4]) (s := [.val (jobsX J), .val (numD c), .un, .un, .un]) jobD (fun j => jobD ⟨j.a, j.d, j.w * c⟩) J (fun j hj => ⟨[.val (jobsX J), .val (numD c), .val (.int (j.a : Int)), .val (.int (j.d : Int)), .val (numD j.w)], [.val (jobsX J), .val (numD c), .val (.int (j.a : Int)), .val (.int (j.d : Int)), .val (numD j.w)], rfl, by
    have e := c_by ((g.gr j hj).sz N0 hs) gc hb2
    have c3 : 3 ≤ cap := by decide
    unfold jobD
    dsimp only
    generalize numD j.w = W at *
    generalize numD (j.w * c) = W2 at *
    simp [e, c3], rfl⟩) (Nat.le_trans g.n12 (by decide))
  have it : items (jobsX J) = some (J.map jobD) := rfl
  have o : jobsX (greatJ c J) = .tup (J.map fun j => jobD ⟨j.a, j.d, j.w * c⟩) := by
    unfold jobsX greatJ
    rw [List.map_map]
    rfl
  have c1 : (J.map fun j => jobD ⟨j.a, j.d, j.w * c⟩).length ≤ cap := by rw [List.length_map]; exact Nat.le_trans g.n12 (by decide)
  rw [o]
  generalize (J.map fun j => jobD ⟨j.a, j.d, j.w * c⟩) = OL at *
  generalize J.map jobD = JL at *
  generalize jobsX J = X at *
  simp [m__law_greater, b__law_greater, runP, it, l, bTuple, c1]
theorem c_later {J : List Job} (n12 : J.length ≤ 12) (b : Int) (J' : List Job) (h : J.map (fun j => D.tup [.int (j.a + b), .int (j.d + b), numD j.w]) = J'.map jobD) : m__law_later [jobsX J, .int b] = some (jobsX J') := by
  have l := lcD_map (g := gTup (gsCons (gN 2) (gsCons (gN 3) (gsCons (gN 4) (gsNil))))) (fe := eTup (aCons (e2 dAddL (eVar 2) (eVar 1)) (aCons (e2 dAddL (eVar 3) (eVar 1)) (aCons (eVar 4) (aNil))))) (own := [2, 3, 4]) (s := [.val (jobsX J), .val (.int b), .un, .un, .un]) jobD (fun j => D.tup [.int (j.a + b), .int (j.d + b), numD j.w]) J (fun j hj => ⟨[.val (jobsX J), .val (.int b), .val (.int (j.a : Int)), .val (.int (j.d : Int)), .val (numD j.w)], [.val (jobsX J), .val (.int b), .val (.int (j.a : Int)), .val (.int (j.d : Int)), .val (numD j.w)], rfl, by
    have c3 : 3 ≤ cap := by decide
    generalize numD j.w = W at *
    generalize (j.a : Int) = ja at *
    generalize (j.d : Int) = jd at *
    simp [c3], rfl⟩) (Nat.le_trans n12 (by decide))
  have it : items (jobsX J) = some (J.map jobD) := rfl
  have c1 : (J'.map jobD).length ≤ cap := by rw [← h, List.length_map]; exact Nat.le_trans n12 (by decide)
  rw [h] at l
  have o : jobsX J' = .tup (J'.map jobD) := rfl
  rw [o]
  clear h
  generalize J'.map jobD = OL at *
  generalize J.map jobD = JL at *
  generalize jobsX J = X at *
  simp [m__law_later, b__law_later, runP, it, l, bTuple, c1]
theorem c_turned {J : List Job} {N M : Nat} (g : JobsGood N M J) : m__law_turned [jobsX J] = some (jobsX (turnJ (lastD J) J)) := by
  have n1 := g.n1
  have l := lcD_map (g := gTup (gsCons (gN 2) (gsCons (gN 3) (gsCons (gN 4) (gsNil))))) (fe := eTup (aCons (e2 dSub (eVar 1) (eVar 3)) (aCons (e2 dSub (eVar 1) (eVar 2)) (aCons (eVar 4) (aNil))))) (own := [2, 3, 4]) (s := [.val (jobsX J), .val (.int (lastD J : Int)), .un, .un, .un]) jobD (fun j => jobD ⟨lastD J - j.d, lastD J - j.a, j.w⟩) J.reverse (fun j hj => ⟨[.val (jobsX J), .val (.int (lastD J : Int)), .val (.int (j.a : Int)), .val (.int (j.d : Int)), .val (numD j.w)], [.val (jobsX J), .val (.int (lastD J : Int)), .val (.int (j.a : Int)), .val (.int (j.d : Int)), .val (numD j.w)], rfl, by
    have hj := List.mem_reverse.mp hj
    have h1 := (g.ok j hj).1
    have h2 := g.le_last j hj
    have c3 : 3 ≤ cap := by decide
    unfold jobD
    dsimp only
    have e1 : ((lastD J - j.d : Nat) : Int) = (lastD J : Int) - (j.d : Int) := by omega
    have e2 : ((lastD J - j.a : Nat) : Int) = (lastD J : Int) - (j.a : Int) := by omega
    rw [e1, e2]
    generalize numD j.w = W at *
    generalize (j.a : Int) = ja at *
    generalize (j.d : Int) = jd at *
    generalize (lastD J : Int) = ll at *
    simp [c3], rfl⟩) (by rw [List.length_reverse]; exact Nat.le_trans g.n12 (by decide))
  have il : dIx (jobsX J) (.int (-1)) = some (jobD (J[J.length - 1]'(by omega))) := by
    unfold jobsX
    rw [dIx_lastT (by rw [List.length_map]; omega), List.length_map, jobs_at (by omega)]
  have ix : dIx (jobD (J[J.length - 1]'(by omega))) (.int 1) = some (.int ((lastD J : Nat) : Int)) := by
    rw [lastD_at (by omega)]
    exact v_ixt1
  have rv : dRev (jobsX J) = some (.tup (J.reverse.map jobD)) := by
    unfold jobsX
    rw [v_dRevT, ← List.map_reverse]
  have it : items (.tup (J.reverse.map jobD)) = some (J.reverse.map jobD) := rfl
  have o : jobsX (turnJ (lastD J) J) = .tup (J.reverse.map fun j => jobD ⟨lastD J - j.d, lastD J - j.a, j.w⟩) := by
    unfold jobsX turnJ
    rw [List.map_map]
    rfl
  have c1 : (J.reverse.map fun j => jobD ⟨lastD J - j.d, lastD J - j.a, j.w⟩).length ≤ cap := by rw [List.length_map, List.length_reverse]; exact Nat.le_trans g.n12 (by decide)
  rw [o]
  generalize (J.reverse.map fun j => jobD ⟨lastD J - j.d, lastD J - j.a, j.w⟩) = OL at *
  generalize hr : D.tup (J.reverse.map jobD) = RV at *
  generalize J.reverse.map jobD = JL at *
  generalize jobD (J[J.length - 1]'(by omega)) = jj at *
  generalize jobsX J = X at *
  generalize (lastD J : Int) = ll at *
  simp [m__law_turned, b__law_turned, runP, il, ix, rv, it, l, bTuple, c1]
def twoJ (j : Job) (q : Rat) : List Job := [⟨j.a, j.d, j.w * q⟩, ⟨j.a, j.d, j.w - j.w * q⟩]
theorem c_lparted {J : List Job} (n12 : J.length ≤ 12) {k : Nat} (hk : k < J.length) {q : Rat} {b : Nat} (s1 : Sz b J[k].w) (s2 : Sz b q) (s3 : Sz b (J[k].w * q)) (hb : b ≤ 4000) :
    m__law_parted [jobsX J, .int (k : Int), numD q] = some (jobsX (J.take k ++ twoJ J[k] q ++ J.drop (k + 1))) := by
  have e1 := c_by s1 s2 hb
  have e2 := c_less_by s1 s3 hb
  have ix : dIx (jobsX J) (.int (k : Int)) = some (jobD J[k]) := by
    unfold jobsX
    rw [show dIx (.tup (J.map jobD)) (.int (k : Int)) = (J.map jobD)[k]? from v_atN, jobs_at hk]
  have ct1 : dCut (jobsX J) none (some (k : Int)) = some (.tup ((J.take k).map jobD)) := by
    show some (D.tup (DL.cutD (J.map jobD) none (some (k : Int)))) = _
    rw [cut_to, List.map_take]
  have ct2 : dCut (jobsX J) (some ((k : Int) + 1)) none = some (.tup ((J.drop (k + 1)).map jobD)) := by
    show some (D.tup (DL.cutD (J.map jobD) (some ((k : Int) + 1)) none)) = _
    rw [show (k : Int) + 1 = ((k + 1 : Nat) : Int) by omega, cut_from, List.map_drop]
  have a1 : dAddL (.tup ((J.take k).map jobD)) (.tup ((twoJ J[k] q).map jobD)) = some (.tup ((J.take k ++ twoJ J[k] q).map jobD)) := by
    rw [v_addTT, if_pos (by simp [cap, twoJ]; omega), List.map_append]
  have a2 : dAddL (.tup ((J.take k ++ twoJ J[k] q).map jobD)) (.tup ((J.drop (k + 1)).map jobD)) = some (jobsX (J.take k ++ twoJ J[k] q ++ J.drop (k + 1))) := by
    rw [v_addTT, if_pos (by simp [cap, twoJ]; omega), ← List.map_append]
    rfl
  have c2 : 2 ≤ cap := by decide
  have c3 : 3 ≤ cap := by decide
  generalize jobsX (J.take k ++ twoJ J[k] q ++ J.drop (k + 1)) = OUT at *
  generalize ((J.take k ++ twoJ J[k] q).map jobD) = M1 at *
  generalize (J.take k).map jobD = T1 at *
  generalize (J.drop (k + 1)).map jobD = T2 at *
  generalize jobsX J = X at *
  have tw : (twoJ J[k] q).map jobD = [.tup [.int (J[k].a : Int), .int (J[k].d : Int), numD (J[k].w * q)], .tup [.int (J[k].a : Int), .int (J[k].d : Int), numD (J[k].w - J[k].w * q)]] := rfl
  rw [tw] at a1
  unfold jobD at ix
  clear tw
  generalize numD (J[k].w * q) = W1 at *
  generalize numD (J[k].w - J[k].w * q) = W2 at *
  generalize numD J[k].w = W at *
  generalize numD q = Q at *
  generalize (J[k].a : Int) = ai at *
  generalize (J[k].d : Int) = di at *
  generalize (k : Int) = ki at *
  simp [m__law_parted, b__law_parted, runP, ix, e1, e2, ct1, ct2, a1, a2, c2, c3]
/-! jobs apart -/
theorem at0_end (x : List Rat) (m : Nat) (v : Rat) (k : Nat) : at0 (x ++ List.replicate m v) k = if k < x.length then at0 x k else if k < x.length + m then v else 0 := by
  unfold at0
  rw [List.getD_eq_getElem?_getD, List.getD_eq_getElem?_getD]
  split
  · rename_i h
    rw [List.getElem?_append_left h]
  · rename_i h
    rw [List.getElem?_append_right (by omega), List.getElem?_replicate]
    split
    · rename_i h2
      rw [if_pos (by omega)]; rfl
    · rename_i h2
      rw [if_neg (by omega)]; rfl
theorem sum_same {x y : Nat → Rat} : ∀ n, (∀ k, k < n → x k = y k) → sumN x n = sumN y n
  | 0, _ => rfl
  | n + 1, h => by
    show sumN x n + x n = sumN y n + y n
    rw [sum_same n fun k hk => h k (by omega), h n (by omega)]
/-- back to back: the speeds so far -/
structure Apart (J : List Job) (h : Nat) (sp : List Rat) : Prop where
  len : sp.length = h
  taut : Taut (dueF J) (comeF J) (sumN (at0 sp)) (h + 1)
  all : sumN (at0 sp) h = worksF J
  due : ∀ j ∈ J, j.d ≤ h ∧ j.a < h
theorem Apart.next {J : List Job} {h : Nat} {sp : List Rat} (A : Apart J h sp) {m : Nat} (m0 : 0 < m) {w v : Rat} (w0 : 0 < w) (hv : v * (m : Rat) = w) : Apart (J ++ [⟨h, h + m, w⟩]) (h + m) (sp ++ List.replicate m v) := by
  have e0 : ∀ k, k ≤ h → sumN (at0 (sp ++ List.replicate m v)) k = sumN (at0 sp) k := fun k hk => sum_same k fun i hi => by rw [at0_end, if_pos (by rw [A.len]; omega)]
  have e1 : ∀ i, i ≤ m → sumN (at0 (sp ++ List.replicate m v)) (h + i) = worksF J + v * (i : Rat) := fun i => by
    induction i with
    | zero =>
      intro _
      rw [Nat.add_zero, e0 h (Nat.le_refl _), A.all]
      show _ = worksF J + v * (0 : Rat)
      grind
    | succ i ih =>
      intro hi
      show sumN (at0 (sp ++ List.replicate m v)) (h + i) + at0 (sp ++ List.replicate m v) (h + i) = _
      rw [ih (by omega), at0_end, if_neg (by rw [A.len]; omega), if_pos (by rw [A.len]; omega), natR_add]
      show worksF J + v * (i : Rat) + v = worksF J + v * ((i : Rat) + 1)
      grind
  have du : ∀ k, dueF (J ++ [⟨h, h + m, w⟩]) k = dueF J k + if h + m ≤ k then w else 0 := fun k => by
    rw [dueF_append]
    show _ + ((if h + m ≤ k then w else 0) + 0) = _
    grind
  have co : ∀ k, comeF (J ++ [⟨h, h + m, w⟩]) k = comeF J k + if h < k then w else 0 := fun k => by
    rw [comeF_append]
    show _ + ((if h < k then w else 0) + 0) = _
    grind
  have vp : 0 < v := by
    have mp := natR_pos m0
    apply Classical.byContradiction
    intro z
    have := Rat.mul_le_mul_of_nonneg_right (a := v) (b := 0) (c := (m : Rat)) (by grind) (Rat.le_of_lt mp)
    grind
  have dJ : ∀ k, h ≤ k → dueF J k = worksF J := fun k hk => due_all fun j hj => by have := (A.due j hj).1; omega
  have cJ : ∀ k, h ≤ k → comeF J k = worksF J := fun k hk => come_all fun j hj => by have := (A.due j hj).2; omega
  refine ⟨by rw [List.length_append, List.length_replicate, A.len], ?_, ?_, fun j hj => ?_⟩
  · refine A.taut.piece (v := v) (fun k hk => ?_) e0 ?_ (fun k h1 h2 => ?_) (fun k h1 h2 => ?_)
    · rw [du, co, if_neg (by omega), if_neg (by omega)]
      constructor <;> grind
    · rw [du, co, if_neg (by omega), if_neg (by omega), dJ h (Nat.le_refl _), cJ h (Nat.le_refl _), A.all]
      constructor <;> grind
    · obtain ⟨i, rfl⟩ : ∃ i, k = h + i := ⟨k - h, by omega⟩
      have := e1 (i + 1) (by omega)
      rw [e1 i (by omega), show h + i + 1 = h + (i + 1) by omega, this, natR_add]
      show _ = _ + v * (i : Rat) + v
      have : ((1 : Nat) : Rat) = 1 := rfl
      grind
    · obtain ⟨i, rfl⟩ : ∃ i, k = h + i := ⟨k - h, by omega⟩
      have hi : i ≤ m := by omega
      have ir := natR_le hi
      have ip := natR_nn i
      have le := Rat.mul_le_mul_of_nonneg_left (a := (i : Rat)) (b := (m : Rat)) (c := v) ir (Rat.le_of_lt vp)
      have nn := Rat.mul_nonneg (Rat.le_of_lt vp) ip
      rw [e1 i hi, du, co, dJ _ (by omega), cJ _ (by omega), if_pos h1]
      refine ⟨?_, by grind⟩
      split
      · have : i = m := by omega
        subst this
        grind
      · grind
  · rw [e1 m (Nat.le_refl _), worksF_append, hv]
    show _ = worksF J + (w + 0)
    grind
  · rcases List.mem_append.mp hj with h' | h'
    · have := A.due j h'
      exact ⟨by omega, by omega⟩
    · rw [List.mem_singleton.mp h']
      exact ⟨Nat.le_refl _, show h < h + m by omega⟩
theorem inv_num {m : Nat} (h : 0 < m) : D.tup [.int 1, .int (m : Int)] = numD (Rat.divInt 1 m) ∧ Rat.divInt 1 (m : Int) * (m : Rat) = 1 := by
  obtain ⟨q, e, e2, _, n1, n2⟩ := one_over h
  have : q = Rat.divInt 1 (m : Int) := by
    rw [← Rat.num_divInt_den q, n1, n2]
  rw [← this]
  exact ⟨e, e2⟩
theorem gr12 {b : Int} (h : b = 1 ∨ b = 2 ∨ b = 3 ∨ b = 4) : b.toNat ∣ 12 := by
  rcases h with h | h | h | h <;> rw [h] <;> decide
theorem c_apart (p : Int) : ∃ p' : Int, m__law_apart_right [.lst [.int p]] = some (.bl true, [.lst [.int p']]) := by
  have t1 := c_take (p := p) (z := 3) (by decide) (by decide)
  have m1 := md (p := p) (z := 3) (by decide)
  have t2 := c_take (p := p / 3) (z := 4) (by decide) (by decide)
  have m2 := md (p := p / 3) (z := 4) (by decide)
  obtain ⟨h0, eh⟩ : ∃ h0 : Nat, p % 3 = (h0 : Int) := ⟨(p % 3).toNat, by omega⟩
  obtain ⟨n0, en⟩ : ∃ n0 : Nat, p / 3 % 4 = (n0 : Int) := ⟨(p / 3 % 4).toNat, by omega⟩
  have lh : h0 ≤ 2 := by omega
  have ln : n0 ≤ 3 := by omega
  rw [eh] at t1
  rw [en] at t2
  clear eh en m1 m2
  generalize p / 3 / 4 = p2 at *
  generalize p / 3 = p1 at *
  have z0 : ∀ k, at0 (List.replicate h0 (0 : Rat)) k = 0 := fun k => by
    have := at0_end [] h0 0 k
    rw [List.nil_append] at this
    rw [this]
    split
    · rfl
    · split <;> rfl
  have s0 : ∀ k, sumN (at0 (List.replicate h0 (0 : Rat))) k = 0 := fun k => by
    induction k with
    | zero => rfl
    | succ k ih =>
      show sumN _ k + at0 (List.replicate h0 (0 : Rat)) k = 0
      rw [ih, z0]; grind
  have A0 : Apart [] h0 (List.replicate h0 0) := ⟨List.length_replicate .., ⟨fun k _ => by rw [s0]; exact ⟨Rat.le_refl, Rat.le_refl⟩, fun k _ _ _ => s0 k, fun k _ _ _ => s0 k⟩, s0 h0, fun _ h => (nomatch h)⟩
  obtain ⟨s', e, p', J, sp, h, o4, o5, o6, rfl, A, hJ, hh, ok, srt, la⟩ := forD_rng0 (g := gN 4) (fb := l1__law_apart_right) (s := [.lst [.int p2], .val (.int (h0 : Int)), .lst [], .lst ((List.replicate h0 (0 : Rat)).map numD), .un, .un, .un]) (1 + n0)
    (fun i s => ∃ (p' : Int) (J : List Job) (sp : List Rat) (h : Nat) (o4 o5 o6 : O), s = [.lst [.int p'], .val (.int (h : Int)), .lst (J.map jobD), .lst (sp.map numD), o4, o5, o6] ∧ Apart J h sp ∧ J.length = i ∧ h ≤ 2 + 4 * i ∧
      (∀ j ∈ J, j.a < j.d ∧ 0 < j.w ∧ Gr 12 30 j.w) ∧ (J.Pairwise fun x y => x.a ≤ y.a ∧ x.d ≤ y.d) ∧ (0 < i → lastD J = h))
    ⟨p2, [], _, h0, .un, .un, .un, rfl, A0, rfl, by omega, fun _ h => (nomatch h), .nil, fun h => absurd h (by decide)⟩ (fun i s hi ⟨p', J, sp, h, o4, o5, o6, hs, A, hJ, hh, ok, srt, _⟩ => by
      subst hs
      have t1 := c_take (p := p') (z := 4) (by decide) (by decide)
      have t2 := c_take (p := p' / 4) (z := 30) (by decide) (by decide)
      have t3 := c_take (p := p' / 4 / 30) (z := 4) (by decide) (by decide)
      have m1 := md (p := p') (z := 4) (by decide)
      have m2 := md (p := p' / 4) (z := 30) (by decide)
      have m3 := md (p := p' / 4 / 30) (z := 4) (by decide)
      have lw := c_low' (t := 1 + p' / 4 % 30) (b := 1 + p' / 4 / 30 % 4) (by omega) (by omega)
      have w0 : 0 < Rat.divInt (1 + p' / 4 % 30) (1 + p' / 4 / 30 % 4) := low_pos (by omega) (by omega)
      have gw : Gr 12 30 (Rat.divInt (1 + p' / 4 % 30) (1 + p' / 4 / 30 % 4)) := (Gr.divInt (M := 30) (t := 1 + p' / 4 % 30) (b := 1 + p' / 4 / 30 % 4) (by omega) (by omega)).mono (gr12 (by omega)) (Nat.le_refl _)
      obtain ⟨m, em⟩ : ∃ m : Nat, 1 + p' % 4 = (m : Int) := ⟨(1 + p' % 4).toNat, by omega⟩
      have m0 : 0 < m := by omega
      have m4 : m ≤ 4 := by omega
      obtain ⟨i1, i2⟩ := inv_num m0
      have gi : Gr 12 1 (Rat.divInt 1 (m : Int)) := (Gr.divInt (M := 1) (t := 1) (b := (m : Int)) (by decide) (by omega)).mono (gr12 (by omega)) (Nat.le_refl _)
      have by_ := c_by (gw.sz (n := 40) (by decide) (by decide)) (gi.sz (n := 40) (by decide) (by decide)) (by decide)
      generalize Rat.divInt (1 + p' / 4 % 30) (1 + p' / 4 / 30 % 4) = w at *
      generalize Rat.divInt 1 (m : Int) = v at *
      clear m1 m2 m3
      generalize p' % 4 = u1 at *
      generalize p' / 4 % 30 = u2 at *
      generalize p' / 4 / 30 % 4 = u3 at *
      generalize p' / 4 / 30 / 4 = q3 at *
      generalize p' / 4 / 30 = q2 at *
      generalize p' / 4 = q1 at *
      have An := A.next (m := m) m0 (w := w) (v := w * v) w0 (by grind)
      have cJ : (J.map jobD).length < cap := Nat.lt_of_le_of_lt (show _ ≤ 100 by rw [List.length_map]; omega) (by decide)
      have cS : (sp.map numD).length + (List.replicate m (numD (w * v))).length ≤ cap := Nat.le_trans (show _ ≤ 100 by rw [List.length_map, List.length_replicate, A.len]; omega) (by decide)
      refine ⟨[.lst [.int p'], .val (.int (h : Int)), .lst (J.map jobD), .lst (sp.map numD), .val (.int (i : Int)), o5, o6], [.lst [.int q3], .val (.int ((h + m : Nat) : Int)), .lst ((J ++ ([⟨h, h + m, w⟩] : List Job)).map jobD), .lst ((sp ++ List.replicate m (w * v)).map numD), .val (.int (i : Int)), .val (.int (m : Int)), .val (numD w)], rfl, .inl ?_, q3, _, _, h + m, _, _, _, rfl, An, by rw [List.length_append, hJ]; rfl, by omega, fun j hj => ?_, ?_, fun _ => ?_⟩
      · rw [List.map_append, List.map_append, List.map_replicate]
        have c1 : ((h + m : Nat) : Int) = (h : Int) + (m : Int) := by omega
        have jd : (([⟨h, h + m, w⟩] : List Job)).map jobD = [.tup [.int (h : Int), .int ((h : Int) + (m : Int)), numD w]] := by rw [← c1]; rfl
        have k1 : -1000000 ≤ (m : Int) := by omega
        have k2 : (m : Int) ≤ 1000000 := by omega
        have k3 : m ≤ cap := Nat.le_trans (show _ ≤ 100 by omega) (by decide)
        have k4 : 1 ≤ cap := by decide
        have k5 : 2 ≤ cap := by decide
        have k6 : 3 ≤ cap := by decide
        have mt : ((m : Int)).toNat = m := Int.toNat_natCast m
        rw [List.length_replicate] at cS
        rw [jd, c1]
        generalize J.map jobD = JL at *
        generalize sp.map numD = SL at *
        clear jd An
        generalize (m : Int) = mi at *
        generalize numD (w * v) = WV at *
        generalize numD w = W at *
        generalize numD v = V at *
        generalize (h : Int) = hi' at *
        generalize (i : Int) = ii at *
        simp [l1__law_apart_right, t1, t2, t3, em, lw, i1, by_, k1, k2, k3, k4, k5, k6, mt, cJ, cS]
      · rcases List.mem_append.mp hj with h' | h'
        · exact ok j h'
        · rw [List.mem_singleton.mp h']
          exact ⟨show h < h + m by omega, w0, gw⟩
      · refine List.pairwise_append.mpr ⟨srt, List.pairwise_singleton .., fun x hx y hy => ?_⟩
        rw [List.mem_singleton.mp hy]
        have := A.due x hx
        exact ⟨show x.a ≤ h by omega, show x.d ≤ h + m by omega⟩
      · rw [lastD_append (by simp)]
        rfl)
  have hS : SpOk J sp := by
    have e := la (by omega)
    exact ⟨A.len.trans e.symm, by rw [e]; exact A.taut⟩
  have g : JobsGood 12 30 J := ⟨by omega, by omega, fun j hj => ⟨(ok j hj).1, (ok j hj).2.1⟩, fun j hj => by have := (A.due j hj).1; omega, srt, fun j hj => (ok j hj).2.2⟩
  have sd := c_speeds_is (b := 40) g (by decide) (by decide) (by decide) (by decide) hS
  have rg : ∀ st : S, DL.iRng1 (aCons (e2 dAddL (eC (.int 1)) (eCallO m__law_take (aoOwn 0 (aoVal (eC (.int 4)) (aoNil))))) (aNil)) (.lst [.int p1] :: st) = some (rangeD 0 (1 + n0), .lst [.int p2] :: st) := fun st => by
    refine rng1_ok (1 + n0) (by omega) ?_
    have c1 : (((1 + n0 : Nat)) : Int) = 1 + (n0 : Int) := by omega
    rw [c1]
    simp [t2]
  have c2 : (J.map jobD).length ≤ cap := Nat.le_trans (show _ ≤ 100 by rw [List.length_map]; omega) (by decide)
  have c3 : (sp.map numD).length ≤ cap := Nat.le_trans (show _ ≤ 100 by rw [List.length_map, A.len]; omega) (by decide)
  have k0 : 0 ≤ cap := by decide
  have k1 : -1000000 ≤ (h0 : Int) := by omega
  have k2 : (h0 : Int) ≤ 1000000 := by omega
  have k3 : h0 ≤ cap := Nat.le_trans (show _ ≤ 100 by omega) (by decide)
  have k4 : 1 ≤ cap := by decide
  have k5 : 2 ≤ cap := by decide
  have mt : ((h0 : Int)).toNat = h0 := Int.toNat_natCast h0
  have e0 : D.tup [.int 0, .int 1] = numD 0 := rfl
  have eq : dEq (.tup (sp.map numD)) (.tup (sp.map numD)) = some (.bl true) := dEq_self ((Eqn.row.mono (m := 60) (by decide)).ok sp)
  refine ⟨p', ?_⟩
  rw [List.map_replicate] at e
  unfold jobsX at sd
  unfold rowX at sd
  clear g hS A la ok
  generalize J.map jobD = JL at *
  generalize sp.map numD = SL at *
  generalize rangeD 0 (1 + n0) = RG at *
  generalize hz : numD 0 = Z at *
  generalize (h0 : Int) = hi at *
  simp [m__law_apart_right, b__law_apart_right, runO, t1, e0, hz, k0, k1, k2, k3, k4, k5, mt, rg, e, c2, c3, sd, eq, keepO]
/-! ### the law -/
theorem mulT_all {d : D} {m : Nat} (h2 : m ≤ 1000) : dMulT (.tup [d]) (.int (m : Int)) = some (.tup (List.replicate m d)) := by
  by_cases h : m = 0
  · subst h
    simp [dMulT]
  · by_cases h1 : m = 1
    · subst h1
      simp [dMulT]
    · unfold dMulT
      have e : (List.replicate m [d]).flatten = List.replicate m d := by simp
      simp only []
      rw [if_neg (by omega), if_neg (fun z => by have := z.1; omega)]
      simp only [dMul]
      simp [cap, e]
      omega
theorem half_lt {w q : Rat} (w0 : 0 < w) (q1 : q < 1) : w * q < w := by
  have := Rat.mul_lt_mul_of_pos_left q1 w0
  grind
theorem jobs_len (J : List Job) : bLen [jobsX J] = some (.int (J.length : Int)) := by
  unfold jobsX
  simp
theorem okq (x : List Rat) : okD 60 (rowX x) = true := (Eqn.row.mono (m := 60) (by decide)).ok x
def partD : D := .lst [.tup [.int 1, .int 2], .tup [.int 1, .int 3], .tup [.int 3, .int 4]]
theorem num_lit {q : Rat} {t : Int} {b : Nat} (h1 : q.num = t) (h2 : q.den = b) : D.tup [.int t, .int (b : Int)] = numD q := by
  unfold numD
  rw [h1, h2]
theorem part_num {i : Int} (h : 0 ≤ i) (h1 : i < 3) : ∃ q : Rat, dIx partD (.int i) = some (numD q) ∧ 0 < q ∧ q < 1 ∧ Gr 12 1 q := by
  obtain ⟨d, hd, e, _⟩ := ix_mem (xs := [D.tup [.int 1, .int 2], .tup [.int 1, .int 3], .tup [.int 3, .int 4]]) h h1
  have ok : ∀ t b : Int, 0 < t → t < b → b.toNat ∣ 12 → t.natAbs ≤ 4 → D.tup [.int t, .int b] = numD (Rat.divInt t b) → ∃ q : Rat, D.tup [.int t, .int b] = numD q ∧ 0 < q ∧ q < 1 ∧ Gr 12 1 q := fun t b t0 tb hb t4 hn => by
    have q0 := low_pos t0 (show 0 < b by omega)
    have q1 : Rat.divInt t b < 1 := by
      rw [Rat.divInt_eq_div]
      have bp : (0 : Rat) < (b : Rat) := by exact_mod_cast (show 0 < b by omega)
      have lt : (t : Rat) < (b : Rat) := by exact_mod_cast tb
      have : (t : Rat) / (b : Rat) * (b : Rat) < 1 * (b : Rat) := by
        rw [Rat.div_mul_cancel (by grind)]
        grind
      exact (mul_lt_iff bp).mp this
    refine ⟨_, hn, q0, q1, ?_⟩
    exact ((Gr.divInt (M := 4) (t := t) (b := b) t4 (by omega)).mono hb (Nat.le_refl _)).within (by have : ((1 : Nat) : Rat) = 1 := rfl; grind) (by have : ((1 : Nat) : Rat) = 1 := rfl; grind)
  have cases_ : d = .tup [.int 1, .int 2] ∨ d = .tup [.int 1, .int 3] ∨ d = .tup [.int 3, .int 4] := by simpa using hd
  rcases cases_ with rfl | rfl | rfl
  · obtain ⟨q, hq, r⟩ := ok 1 2 (by decide) (by decide) (by decide) (by decide) (num_lit (by decide +kernel) (by decide +kernel))
    exact ⟨q, by rw [← hq]; exact e, r⟩
  · obtain ⟨q, hq, r⟩ := ok 1 3 (by decide) (by decide) (by decide) (by decide) (num_lit (by decide +kernel) (by decide +kernel))
    exact ⟨q, by rw [← hq]; exact e, r⟩
  · obtain ⟨q, hq, r⟩ := ok 3 4 (by decide) (by decide) (by decide) (by decide) (num_lit (by decide +kernel) (by decide +kernel))
    exact ⟨q, by rw [← hq]; exact e, r⟩
theorem split_at {J : List Job} {k : Nat} (h : k < J.length) : J.take k ++ [⟨J[k].a, J[k].d, J[k].w⟩] ++ J.drop (k + 1) = J := by
  rw [List.append_assoc]
  have : ([⟨J[k].a, J[k].d, J[k].w⟩] : List Job) ++ J.drop (k + 1) = J.drop k := by
    rw [List.drop_eq_getElem_cons h]; rfl
  rw [this, List.take_append_drop]
theorem JobsGood.most {N M N' M' : Nat} {J : List Job} (g : JobsGood N M J) (hN : N ∣ N') (hM : M ≤ M') : JobsGood N' M' J :=
  ⟨g.n1, g.n12, g.ok, g.late, g.srt, fun j hj => (g.gr j hj).mono hN hM⟩
theorem c_turn {ns : D} {k : Int} {p1 p2 : Int} (hp1 : m__law_pack [ns, .int k] = some [.int p1]) (hp2 : m__law_pack [ns, .int (k + 8)] = some [.int p2]) (o2 o3 o4 o5 o6 o7 o8 o9 : O) :
    ∃ o2' o3' o4' o5' o6' o7' o8' o9' : O, l1_law [.val ns, .val (.int k), o2, o3, o4, o5, o6, o7, o8, o9, .un] = some (.next [.val ns, .val (.int k), o2', o3', o4', o5', o6', o7', o8', o9', .un]) := by
  obtain ⟨J, p1', g, l8, lj⟩ := c_ljobs p1
  have n1 := g.n1
  have l24 := g.last24
  obtain ⟨sp, hS, sd, gsp⟩ := c_speeds (b := 40) g (by decide) (by decide) (by decide) (by decide)
  have spl := hS.1
  -- how often
  have t7 := c_take (p := p2) (z := 7) (by decide) (by decide)
  have t6 := c_take (p := p2 / 7) (z := 6) (by decide) (by decide)
  have m7 := md (p := p2) (z := 7) (by decide)
  have m6 := md (p := p2 / 7) (z := 6) (by decide)
  have lw := c_low' (t := 1 + p2 % 7) (b := 1 + p2 / 7 % 6) (by omega) (by omega)
  have q0 : 0 < Rat.divInt (1 + p2 % 7) (1 + p2 / 7 % 6) := low_pos (by omega) (by omega)
  have gq : Gr 60 7 (Rat.divInt (1 + p2 % 7) (1 + p2 / 7 % 6)) := (Gr.divInt (M := 7) (t := 1 + p2 % 7) (b := 1 + p2 / 7 % 6) (by omega) (by omega)).mono (by
    have : 1 + p2 / 7 % 6 = 1 ∨ 1 + p2 / 7 % 6 = 2 ∨ 1 + p2 / 7 % 6 = 3 ∨ 1 + p2 / 7 % 6 = 4 ∨ 1 + p2 / 7 % 6 = 5 ∨ 1 + p2 / 7 % 6 = 6 := by omega
    rcases this with h | h | h | h | h | h <;> rw [h] <;> decide) (Nat.le_refl _)
  generalize Rat.divInt (1 + p2 % 7) (1 + p2 / 7 % 6) = q at *
  generalize p2 % 7 = u7 at *
  generalize p2 / 7 % 6 = u6 at *
  generalize p2 / 7 / 6 = p3 at *
  generalize p2 / 7 = p2a at *
  have sq := gq.sz (n := 40) (by decide) (by decide)
  -- by so many hours
  have tb := c_take (p := p3) (z := 25 - (lastD J : Int)) (by omega) (by omega)
  have mb := md (p := p3) (z := 25 - (lastD J : Int)) (by omega)
  obtain ⟨b, eb⟩ : ∃ b : Nat, p3 % (25 - (lastD J : Int)) = (b : Int) := ⟨(p3 % (25 - (lastD J : Int))).toNat, by omega⟩
  rw [eb] at tb mb
  have lb : lastD J + b ≤ 24 := by omega
  clear mb eb
  generalize p3 / (25 - (lastD J : Int)) = p4 at *
  obtain ⟨jl, il, ix⟩ : ∃ jl : D, dIx (jobsX J) (.int (-1)) = some jl ∧ dIx jl (.int 1) = some (.int ((lastD J : Nat) : Int)) := ⟨jobD (J[J.length - 1]'(by omega)), by
    unfold jobsX
    rw [dIx_lastT (by rw [List.length_map]; omega), List.length_map, jobs_at (by omega)], by
    rw [lastD_at (by omega)]
    exact v_ixt1⟩
  -- greater
  have c1 := c_greater (b := 40) (N' := 1) (M' := 1) g (by decide) (by decide) (by decide) sq
  have s1 := c_speeds_is (b := 40) (g.great q0 gq) (by decide) (by decide) (by decide) (by decide) (hS.great g q0)
  have byl := fun (st : S) (h : st = [.val ns, .val (.int k), .val (jobsX J), .lst [.int p4], .val (rowX sp), .val (numD q), .val (.int (b : Int)), o7, o8, o9, .un]) => lcD_map (g := gN 10) (fe := eCall m__law_by (aCons (eVar 10) (aCons (eVar 5) (aNil)))) (own := [10]) (s := st) numD (fun v => numD (v * q)) sp (fun v hv => by
    have e := c_by ((gsp v hv).1.sz (n := 200) (by decide) (by decide)) (sq.mono (by decide)) (by decide)
    subst h
    exact ⟨[.val ns, .val (.int k), .val (jobsX J), .lst [.int p4], .val (rowX sp), .val (numD q), .val (.int (b : Int)), o7, o8, o9, .val (numD v)], [.val ns, .val (.int k), .val (jobsX J), .lst [.int p4], .val (rowX sp), .val (numD q), .val (.int (b : Int)), o7, o8, o9, .val (numD v)], rfl, by simp [e], rfl⟩) (Nat.le_trans (show _ ≤ 24 by omega) (by decide))
  have byl := byl _ rfl
  have bm : (sp.map fun v => numD (v * q)) = (sp.map (· * q)).map numD := by rw [List.map_map]; rfl
  rw [bm] at byl
  have cb : ((sp.map (· * q)).map numD).length ≤ cap := Nat.le_trans (show _ ≤ 24 by simp; omega) (by decide)
  have n1' : dNe (rowX (sp.map (· * q))) (.tup ((sp.map (· * q)).map numD)) = some (.bl false) := dNe_self (okq _)
  have it : items (rowX sp) = some (sp.map numD) := rfl
  -- later
  have c2 := c_later g.n12 (b : Int) (lateJ b J) (by
    unfold lateJ
    rw [List.map_map]
    refine List.map_congr_left fun j _ => ?_
    show D.tup [.int ((j.a : Int) + (b : Int)), .int ((j.d : Int) + (b : Int)), numD j.w] = .tup [.int ((j.a + b : Nat) : Int), .int ((j.d + b : Nat) : Int), numD j.w]
    rw [Int.natCast_add, Int.natCast_add])
  have s2 := c_speeds_is (b := 40) (g.later lb) (by decide) (by decide) (by decide) (by decide) (hS.later g b)
  have e0 : D.tup [.int 0, .int 1] = numD 0 := rfl
  have mt := mulT_all (d := numD 0) (m := b) (by omega)
  have ad : dAddL (.tup (List.replicate b (numD 0))) (rowX sp) = some (rowX (List.replicate b 0 ++ sp)) := by
    unfold rowX
    rw [v_addTT, if_pos (Nat.le_trans (show _ ≤ 100 by simp; omega) (by decide)), List.map_append, List.map_replicate]
  have n2' := dNe_self (okq (List.replicate b 0 ++ sp))
  -- parted
  have bl := jobs_len J
  have tk := c_take (p := p4) (z := (J.length : Int)) (by omega) (by omega)
  have mk := md (p := p4) (z := (J.length : Int)) (by omega)
  obtain ⟨at_, ea⟩ : ∃ x : Nat, p4 % (J.length : Int) = (x : Int) := ⟨(p4 % (J.length : Int)).toNat, by omega⟩
  rw [ea] at tk mk
  have la : at_ < J.length := by omega
  clear mk ea
  generalize p4 / (J.length : Int) = p5 at *
  have t3 := c_take (p := p5) (z := 3) (by decide) (by decide)
  have m3 := md (p := p5) (z := 3) (by decide)
  obtain ⟨r, er, r0, r1, gr⟩ := part_num m3.1 m3.2
  have gw := g.gr J[at_] (List.getElem_mem la)
  have wp := (g.ok J[at_] (List.getElem_mem la)).2
  have gv := gw.mul gr
  have c3 := c_lparted g.n12 la (gw.sz (n := 40) (by decide) (by decide)) (gr.sz (n := 40) (by decide) (by decide)) (gv.sz (n := 40) (by decide) (by decide)) (by decide)
  have gJ : JobsGood 72 24 (J.take at_ ++ [⟨J[at_].a, J[at_].d, J[at_].w⟩] ++ J.drop (at_ + 1)) := by
    rw [split_at la]
    exact g.most (by decide) (by decide)
  have g3 : JobsGood 72 24 (J.take at_ ++ twoJ J[at_] r ++ J.drop (at_ + 1)) := gJ.part (by rw [split_at la]; omega) (Rat.mul_pos wp r0) (half_lt wp r1) (gv.mono (by decide) (by decide)) ((gw.mono (by decide) (Nat.le_refl _)).sub (gv.mono (by decide) (Nat.le_refl _)))
  have hS3 : SpOk (J.take at_ ++ twoJ J[at_] r ++ J.drop (at_ + 1)) sp := SpOk.part (by rw [split_at la]; exact hS)
  have s3 := c_speeds_is (b := 40) g3 (by decide) (by decide) (by decide) (by decide) hS3
  obtain ⟨L1, pa1, pl1⟩ := c_parts (b := 40) g (by decide) (by decide) (by decide) (by decide) (by decide)
  obtain ⟨L3, pa3, pl3⟩ := c_parts (b := 40) g3 (by decide) (by decide) (by decide) (by decide) (by decide)
  have bl3 := jobs_len (J.take at_ ++ twoJ J[at_] r ++ J.drop (at_ + 1))
  have b1 : bLen [.tup L1] = some (.int (J.length : Int)) := by rw [← pl1]; simp
  have b3 : bLen [.tup L3] = some (.int ((J.take at_ ++ twoJ J[at_] r ++ J.drop (at_ + 1)).length : Int)) := by rw [← pl3]; simp
  have n3' := dNe_self (okq sp)
  generalize J.take at_ ++ twoJ J[at_] r ++ J.drop (at_ + 1) = J3 at *
  -- turned about
  obtain ⟨f, J0, ef, eJ, g0, eJ0, lo⟩ := from_first g
  obtain ⟨jf, i0, i00⟩ : ∃ jf : D, dIx (jobsX J) (.int 0) = some jf ∧ dIx jf (.int 0) = some (.int (f : Int)) := ⟨jobD (J[0]'(by omega)), by
    unfold jobsX
    rw [show dIx (.tup (J.map jobD)) (.int 0) = (J.map jobD)[0]? from v_atN (n := 0), jobs_at (by omega)], by
    rw [ef]; exact v_ixt⟩
  have c4 := c_later g.n12 (-(f : Int)) J0 (by
    rw [eJ0, List.map_map]
    refine List.map_congr_left fun j hj => ?_
    have h1 := lo j hj
    have h2 := (g.ok j hj).1
    show D.tup [.int ((j.a : Int) + -(f : Int)), .int ((j.d : Int) + -(f : Int)), numD j.w] = .tup [.int ((j.a - f : Nat) : Int), .int ((j.d - f : Nat) : Int), numD j.w]
    rw [show ((j.a - f : Nat) : Int) = (j.a : Int) + -(f : Int) by omega, show ((j.d - f : Nat) : Int) = (j.d : Int) + -(f : Int) by omega])
  have c5 := c_turned g0
  have ij := c_is_jobs (b := 40) g0.turned (by decide) (by decide) (by decide) (by decide)
  obtain ⟨sp0, hS0, sd0, _⟩ := c_speeds (b := 40) g0 (by decide) (by decide) (by decide) (by decide)
  have a0 : (J0[0]'(by have := g0.n1; omega)).a = 0 := by
    have : J0[0]? = (J.map fun j => (⟨j.a - f, j.d - f, j.w⟩ : Job))[0]? := by rw [eJ0]
    have n0 := g0.n1
    rw [List.getElem?_eq_getElem (by omega), List.getElem?_map, List.getElem?_eq_getElem (show 0 < J.length by omega)] at this
    have := Option.some.inj this
    rw [this, ef]
    exact Nat.sub_self _
  have s5 := c_speeds_is (b := 40) g0.turned (by decide) (by decide) (by decide) (by decide) (hS0.turned g0 a0)
  have esp : sp = List.replicate f 0 ++ sp0 := hS.uniq g (by
    have z := hS0.later g0 f
    rw [← eJ] at z
    exact z)
  have ct : dCut (rowX sp) (some (f : Int)) none = some (rowX sp0) := by
    show some (D.tup (DL.cutD (sp.map numD) (some (f : Int)) none)) = _
    rw [cut_from, esp, ← List.map_drop, List.drop_left' (by simp)]
    rfl
  have rv : dRev (rowX sp0) = some (rowX sp0.reverse) := by
    unfold rowX
    rw [v_dRevT, ← List.map_reverse]
  have n5' := dNe_self (okq sp0.reverse)
  obtain ⟨p7, ap⟩ := c_apart (p5 / 3)
  refine ⟨.val (jobsX J), .lst [.int p7], .val (rowX sp), .val (numD q), .val (.int (b : Int)), .val (jobsX J3), .val (.int (f : Int)), .val (jobsX (turnJ (lastD J0) J0)), ?_⟩
  have k2 : 2 ≤ cap := by decide
  have k1 : 1 ≤ cap := by decide
  have k3 : 3 ≤ cap := by decide
  have ep : D.lst [.tup [.int 1, .int 2], .tup [.int 1, .int 3], .tup [.int 3, .int 4]] = partD := rfl
  have pD : ∀ x, dIx (D.lst [.tup [.int 1, .int 2], .tup [.int 1, .int 3], .tup [.int 3, .int 4]]) x = dIx partD x := fun _ => rfl
  clear gsp gq q0 sq m7 m6 m3 r0 r1 gr gv gJ g3 hS3 lo hS0 hS bm esp a0
  generalize (sp.map (· * q)).map numD = QL at *
  generalize rowX (sp.map (· * q)) = Y1 at *
  generalize rowX (List.replicate b 0 ++ sp) = Y2 at *
  generalize List.replicate b (numD 0) = ZL at *
  generalize rowX sp0.reverse = Y5 at *
  generalize rowX sp0 = Y4 at *
  generalize rowX sp = Y at *
  generalize sp.map numD = SL at *
  generalize jobsX (greatJ q J) = X1 at *
  generalize jobsX (lateJ b J) = X2 at *
  generalize jobsX (turnJ (lastD J0) J0) = X5 at *
  generalize jobsX J0 = X4 at *
  generalize jobsX J3 = X3 at *
  generalize jobsX J = X at *
  generalize numD 0 = Z0 at *
  generalize numD q = Q at *
  generalize numD r = R at *
  generalize (lastD J : Int) = ld at *
  generalize (J.length : Int) = jn at *
  generalize (J3.length : Int) = jn3 at *
  generalize (at_ : Int) = ai at *
  generalize (f : Int) = fi at *
  generalize (b : Int) = bi at *
  simp [l1_law, hp1, hp2, lj, sd, t7, t6, lw, il, ix, tb, c1, s1, it, byl, cb, n1', c2, s2, e0, mt, ad, n2', bl, tk, t3, ep, er, c3, pa1, pa3, b1, b3, bl3, s3, n3', i0, i00, c4, c5, ij, s5, ct, rv, n5', ap, k1, k2, k3]
theorem law_true (ns : List Int) (hl : ns.length ≤ 63) (hb : ∀ z ∈ ns, Builtin.Int.intBits z ≤ 1048576) : m_law [.lst (ns.map D.int)] = some (.bl true) := by
  obtain ⟨n, hn, rg⟩ := rng_law (L := (ns.length : Nat)) (K := 8) (c := 2) (f := eCall bMin (aCons (eCall bLen (aCons (eVar 0) (aNil))) (aCons (eC (.int 8)) (aNil)))) (s := [.val (.lst (ns.map D.int)), .un, .un, .un, .un, .un, .un, .un, .un, .un, .un]) (by simp [bMin]) (by omega) (by decide) (by decide) (by decide) (by decide)
  obtain ⟨s', e, o1, o2, o3, o4, o5, o6, o7, o8, o9, rfl⟩ := forD_rngC (g := gN 1) (fb := l1_law) (s := [.val (.lst (ns.map D.int)), .un, .un, .un, .un, .un, .un, .un, .un, .un, .un]) (c := 2) n (fun s => ∃ o1 o2 o3 o4 o5 o6 o7 o8 o9 : O, s = [.val (.lst (ns.map D.int)), o1, o2, o3, o4, o5, o6, o7, o8, o9, .un]) ⟨_, _, _, _, _, _, _, _, _, rfl⟩ (fun i s hi ⟨o1, o2, o3, o4, o5, o6, o7, o8, o9, hs⟩ => by
    subst hs
    have hk := hn i hi
    obtain ⟨p1, hp1⟩ := c_pack hl hb (k := i * 2) (by omega)
    obtain ⟨p2, hp2⟩ := c_pack hl hb (k := i * 2 + 8) (by omega)
    have c1 : ((i * 2 : Nat) : Int) = (i : Int) * 2 := by omega
    have c2 : ((i * 2 + 8 : Nat) : Int) = (i : Int) * 2 + 8 := by omega
    rw [c1] at hp1
    rw [c2] at hp2
    obtain ⟨o2', o3', o4', o5', o6', o7', o8', o9', h⟩ := c_turn hp1 hp2 o2 o3 o4 o5 o6 o7 o8 o9
    exact ⟨_, _, rfl, h, _, _, _, _, _, _, _, _, _, rfl⟩)
  simp [m_law, b_law, runP, rg, e]
end Gn
namespace Gn
open PySem PySem.Spec PyProof.Rows L2 DL
theorem sc_is_whole : FnScope ["thing"] ["thing"] (defScope s_is_whole) := ⟨rfl, rfl, rfl, by decide +kernel, rfl, by decide +kernel, by decide +kernel⟩
theorem sc_common : FnScope ["one", "other"] ["one", "other"] (defScope s_common) := ⟨rfl, rfl, rfl, by decide +kernel, rfl, by decide +kernel, by decide +kernel⟩
theorem sc_is_number : FnScope ["thing", "part"] ["thing"] (defScope s_is_number) := ⟨rfl, rfl, rfl, by decide +kernel, rfl, by decide +kernel, by decide +kernel⟩
theorem sc_number : FnScope ["top", "bottom", "both"] ["top", "bottom"] (defScope s_number) := ⟨rfl, rfl, rfl, by decide +kernel, rfl, by decide +kernel, by decide +kernel⟩
theorem sc_whole : FnScope ["top"] ["top"] (defScope s_whole) := ⟨rfl, rfl, rfl, by decide +kernel, rfl, by decide +kernel, by decide +kernel⟩
theorem sc_added : FnScope ["one", "other"] ["one", "other"] (defScope s_added) := ⟨rfl, rfl, rfl, by decide +kernel, rfl, by decide +kernel, by decide +kernel⟩
theorem sc_taken : FnScope ["one", "other"] ["one", "other"] (defScope s_taken) := ⟨rfl, rfl, rfl, by decide +kernel, rfl, by decide +kernel, by decide +kernel⟩
theorem sc_parted : FnScope ["one", "other"] ["one", "other"] (defScope s_parted) := ⟨rfl, rfl, rfl, by decide +kernel, rfl, by decide +kernel, by decide +kernel⟩
theorem sc_is_less : FnScope ["one", "other"] ["one", "other"] (defScope s_is_less) := ⟨rfl, rfl, rfl, by decide +kernel, rfl, by decide +kernel, by decide +kernel⟩
theorem sc_is_pair : FnScope ["thing"] ["thing"] (defScope s_is_pair) := ⟨rfl, rfl, rfl, by decide +kernel, rfl, by decide +kernel, by decide +kernel⟩
theorem sc_is_tube : FnScope ["thing", "pair"] ["thing"] (defScope s_is_tube) := ⟨rfl, rfl, rfl, by decide +kernel, rfl, by decide +kernel, by decide +kernel⟩
theorem sc_is_tied : FnScope ["thing"] ["thing"] (defScope s_is_tied) := ⟨rfl, rfl, rfl, by decide +kernel, rfl, by decide +kernel, by decide +kernel⟩
theorem sc_check_tied : FnScope ["thing"] ["thing"] (defScope s_check_tied) := ⟨rfl, rfl, rfl, by decide +kernel, rfl, by decide +kernel, by decide +kernel⟩
theorem sc_are_numbers_tubes : FnScope ["thing", "least", "most", "one"] ["thing", "least", "most"] (defScope s_are_numbers_tubes) := ⟨rfl, rfl, rfl, by decide +kernel, rfl, by decide +kernel, by decide +kernel⟩
theorem sc_check_plain_row : FnScope ["thing"] ["thing"] (defScope s_check_plain_row) := ⟨rfl, rfl, rfl, by decide +kernel, rfl, by decide +kernel, by decide +kernel⟩
theorem sc_steps : FnScope ["row", "k"] ["row"] (defScope s_steps) := ⟨rfl, rfl, rfl, by decide +kernel, rfl, by decide +kernel, by decide +kernel⟩
theorem sc_slope_to : FnScope ["row", "height", "end", "far"] ["row", "height"] (defScope s_slope_to) := ⟨rfl, rfl, rfl, by decide +kernel, rfl, by decide +kernel, by decide +kernel⟩
theorem sc_Reach___init__ : FnScope ["self", "begin", "height"] ["self", "begin", "height"] (defScope s_Reach___init__) := ⟨rfl, rfl, rfl, by decide +kernel, rfl, by decide +kernel, by decide +kernel⟩
theorem sc_Reach_crossed : FnScope ["self", "low", "high"] ["self", "low", "high"] (defScope s_Reach_crossed) := ⟨rfl, rfl, rfl, by decide +kernel, rfl, by decide +kernel, by decide +kernel⟩
theorem sc_Reach_take : FnScope ["self", "place", "bounds", "low", "high", "found"] ["self", "place", "bounds"] (defScope s_Reach_take) := ⟨rfl, rfl, rfl, by decide +kernel, rfl, by decide +kernel, by decide +kernel⟩
theorem sc_touch_behind : FnScope ["tube", "at", "height", "reach", "place", "found"] ["tube", "at", "height"] (defScope s_touch_behind) := ⟨rfl, rfl, rfl, by decide +kernel, rfl, by decide +kernel, by decide +kernel⟩
theorem sc_drawn_to : FnScope ["row", "slope", "many", "found", "turn"] ["row", "slope", "many"] (defScope s_drawn_to) := ⟨rfl, rfl, rfl, by decide +kernel, rfl, by decide +kernel, by decide +kernel⟩
theorem sc_drawn : FnScope ["places", "found", "at", "slope", "place", "height"] ["places"] (defScope s_drawn) := ⟨rfl, rfl, rfl, by decide +kernel, rfl, by decide +kernel, by decide +kernel⟩
theorem sc_cord : FnScope ["tube"] ["tube"] (defScope s_cord) := ⟨rfl, rfl, rfl, by decide +kernel, rfl, by decide +kernel, by decide +kernel⟩
theorem sc_is_job_jobs : FnScope ["thing"] ["thing"] (defScope s_is_job_jobs) := ⟨rfl, rfl, rfl, by decide +kernel, rfl, by decide +kernel, by decide +kernel⟩
theorem sc_is_jobs : FnScope ["thing", "job", "later"] ["thing"] (defScope s_is_jobs) := ⟨rfl, rfl, rfl, by decide +kernel, rfl, by decide +kernel, by decide +kernel⟩
theorem sc_check_jobs : FnScope ["thing"] ["thing"] (defScope s_check_jobs) := ⟨rfl, rfl, rfl, by decide +kernel, rfl, by decide +kernel, by decide +kernel⟩
theorem sc_job_tube : FnScope ["jobs", "found", "hour", "due", "come", "arrival", "end", "work"] ["jobs"] (defScope s_job_tube) := ⟨rfl, rfl, rfl, by decide +kernel, rfl, by decide +kernel, by decide +kernel⟩
theorem sc_speeds : FnScope ["jobs"] ["jobs"] (defScope s_speeds) := ⟨rfl, rfl, rfl, by decide +kernel, rfl, by decide +kernel, by decide +kernel⟩
theorem sc_parts : FnScope ["jobs", "room", "stretch", "found", "arrival", "end", "work", "told", "part"] ["jobs"] (defScope s_parts) := ⟨rfl, rfl, rfl, by decide +kernel, rfl, by decide +kernel, by decide +kernel⟩
theorem sc__law_mixed : FnScope ["_law_cell"] ["_law_cell"] (defScope s__law_mixed) := ⟨rfl, rfl, rfl, by decide +kernel, rfl, by decide +kernel, by decide +kernel⟩
theorem sc__law_pack : FnScope ["_law_script", "_law_k", "_law_found", "_law_at"] ["_law_script", "_law_k"] (defScope s__law_pack) := ⟨rfl, rfl, rfl, by decide +kernel, rfl, by decide +kernel, by decide +kernel⟩
theorem sc__law_take : FnScope ["_law_pack_here", "_law_size", "_law_digit"] ["_law_pack_here", "_law_size"] (defScope s__law_take) := ⟨rfl, rfl, rfl, by decide +kernel, rfl, by decide +kernel, by decide +kernel⟩
theorem sc__law_low : FnScope ["_law_top", "_law_bottom", "_law_one", "_law_other"] ["_law_top", "_law_bottom"] (defScope s__law_low) := ⟨rfl, rfl, rfl, by decide +kernel, rfl, by decide +kernel, by decide +kernel⟩
theorem sc__law_less_by : FnScope ["_law_one", "_law_other"] ["_law_one", "_law_other"] (defScope s__law_less_by) := ⟨rfl, rfl, rfl, by decide +kernel, rfl, by decide +kernel, by decide +kernel⟩
theorem sc__law_by : FnScope ["_law_one", "_law_other"] ["_law_one", "_law_other"] (defScope s__law_by) := ⟨rfl, rfl, rfl, by decide +kernel, rfl, by decide +kernel, by decide +kernel⟩
theorem sc__law_jobs : FnScope ["_law_pack_here", "_law_most", "_law_found", "_law_arrival", "_law_due", "_law_turn"] ["_law_pack_here", "_law_most"] (defScope s__law_jobs) := ⟨rfl, rfl, rfl, by decide +kernel, rfl, by decide +kernel, by decide +kernel⟩
theorem sc__law_later : FnScope ["_law_jobs_here", "_law_by_here", "_law_arrival", "_law_due", "_law_work"] ["_law_jobs_here", "_law_by_here"] (defScope s__law_later) := ⟨rfl, rfl, rfl, by decide +kernel, rfl, by decide +kernel, by decide +kernel⟩
theorem sc__law_greater : FnScope ["_law_jobs_here", "_law_often", "_law_arrival", "_law_due", "_law_work"] ["_law_jobs_here", "_law_often"] (defScope s__law_greater) := ⟨rfl, rfl, rfl, by decide +kernel, rfl, by decide +kernel, by decide +kernel⟩
theorem sc__law_parted : FnScope ["_law_jobs_here", "_law_at", "_law_part", "_law_arrival", "_law_due", "_law_work", "_law_first", "_law_two"] ["_law_jobs_here", "_law_at", "_law_part"] (defScope s__law_parted) := ⟨rfl, rfl, rfl, by decide +kernel, rfl, by decide +kernel, by decide +kernel⟩
theorem sc__law_turned : FnScope ["_law_jobs_here", "_law_last", "_law_arrival", "_law_due", "_law_work"] ["_law_jobs_here"] (defScope s__law_turned) := ⟨rfl, rfl, rfl, by decide +kernel, rfl, by decide +kernel, by decide +kernel⟩
theorem sc__law_apart_right : FnScope ["_law_pack_here", "_law_hour", "_law_jobs_here", "_law_due_speeds", "_law_turn", "_law_many", "_law_work"] ["_law_pack_here"] (defScope s__law_apart_right) := ⟨rfl, rfl, rfl, by decide +kernel, rfl, by decide +kernel, by decide +kernel⟩
theorem sc_law : FnScope ["_law_script", "_law_k", "_law_jobs_here", "_law_pack_here", "_law_told", "_law_often", "_law_by_here", "_law_two", "_law_first", "_law_turned_here", "_law_one"] ["_law_script"] (defScope s_law) := ⟨rfl, rfl, rfl, by decide +kernel, rfl, by decide +kernel, by decide +kernel⟩
/-- what the top has left -/
structure Tx (K : PySem.W.Frag) (mg : Str → Option Value) : Type where
  c_Reach : ClsAt K mg "Reach"
  na_Reach_begin : NoAttr K c_Reach.C "begin"
  na_Reach_height : NoAttr K c_Reach.C "height"
  na_Reach_most : NoAttr K c_Reach.C "most"
  na_Reach_least : NoAttr K c_Reach.C "least"
  n_abs : mg "abs" = none
  n_all : mg "all" = none
  n_bool : mg "bool" = none
  n_divmod : mg "divmod" = none
  n_int : mg "int" = none
  n_isinstance : mg "isinstance" = none
  n_len : mg "len" = none
  n_list : mg "list" = none
  n_max : mg "max" = none
  n_min : mg "min" = none
  n_range : mg "range" = none
  n_tuple : mg "tuple" = none
  n_zip : mg "zip" = none
  LAST_HOUR : ConstAt K mg "LAST_HOUR" k_LAST_HOUR
  MOST_JOBS : ConstAt K mg "MOST_JOBS" k_MOST_JOBS_jobs
  MOST_PLACES : ConstAt K mg "MOST_PLACES" k_MOST_PLACES_tubes
  NOUGHT : ConstAt K mg "NOUGHT" k_NOUGHT
  is_whole : DefAt K mg "is_whole" "is_whole" s_is_whole ["thing"]
  common : DefAt K mg "common" "common" s_common ["one", "other"]
  is_number : DefAt K mg "is_number" "is_number" s_is_number ["thing"]
  number : DefAt K mg "number" "number" s_number ["top", "bottom"]
  whole : DefAt K mg "whole" "whole" s_whole ["top"]
  added : DefAt K mg "added" "added" s_added ["one", "other"]
  taken : DefAt K mg "taken" "taken" s_taken ["one", "other"]
  parted : DefAt K mg "parted" "parted" s_parted ["one", "other"]
  is_less : DefAt K mg "is_less" "is_less" s_is_less ["one", "other"]
  is_pair : DefAt K mg "is_pair" "is_pair" s_is_pair ["thing"]
  is_tube : DefAt K mg "is_tube" "is_tube" s_is_tube ["thing"]
  is_tied : DefAt K mg "is_tied" "is_tied" s_is_tied ["thing"]
  check_tied : DefAt K mg "check_tied" "check_tied" s_check_tied ["thing"]
  are_numbers_tubes : DefAt K mg "are_numbers" "are_numbers" s_are_numbers_tubes ["thing", "least", "most"]
  check_plain_row : DefAt K mg "check_plain_row" "check_plain_row" s_check_plain_row ["thing"]
  steps : DefAt K mg "steps" "steps" s_steps ["row"]
  slope_to : DefAt K mg "slope_to" "slope_to" s_slope_to ["row", "height"]
  Reach___init__ : MethAt K c_Reach.C "__init__" "Reach.__init__" s_Reach___init__ ["self", "begin", "height"]
  mk_Reach : Mk K c_Reach.C Reach___init__.a
  Reach_crossed : MethAt K c_Reach.C "crossed" "Reach.crossed" s_Reach_crossed ["self", "low", "high"]
  Reach_take : MethAt K c_Reach.C "take" "Reach.take" s_Reach_take ["self", "place", "bounds"]
  touch_behind : DefAt K mg "touch_behind" "touch_behind" s_touch_behind ["tube", "at", "height"]
  drawn_to : DefAt K mg "drawn_to" "drawn_to" s_drawn_to ["row", "slope", "many"]
  drawn : DefAt K mg "drawn" "drawn" s_drawn ["places"]
  cord : DefAt K mg "cord" "cord" s_cord ["tube"]
  is_job_jobs : DefAt K mg "is_job" "is_job" s_is_job_jobs ["thing"]
  is_jobs : DefAt K mg "is_jobs" "is_jobs" s_is_jobs ["thing"]
  check_jobs : DefAt K mg "check_jobs" "check_jobs" s_check_jobs ["thing"]
  job_tube : DefAt K mg "job_tube" "job_tube" s_job_tube ["jobs"]
  speeds : DefAt K mg "speeds" "speeds" s_speeds ["jobs"]
  parts : DefAt K mg "parts" "parts" s_parts ["jobs"]
  _law_mixed : DefAt K mg "_law_mixed" "_law_mixed" s__law_mixed ["_law_cell"]
  _law_pack : DefAt K mg "_law_pack" "_law_pack" s__law_pack ["_law_script", "_law_k"]
  _law_take : DefAt K mg "_law_take" "_law_take" s__law_take ["_law_pack_here", "_law_size"]
  _law_low : DefAt K mg "_law_low" "_law_low" s__law_low ["_law_top", "_law_bottom"]
  _law_less_by : DefAt K mg "_law_less_by" "_law_less_by" s__law_less_by ["_law_one", "_law_other"]
  _law_by : DefAt K mg "_law_by" "_law_by" s__law_by ["_law_one", "_law_other"]
  _law_jobs : DefAt K mg "_law_jobs" "_law_jobs" s__law_jobs ["_law_pack_here", "_law_most"]
  _law_later : DefAt K mg "_law_later" "_law_later" s__law_later ["_law_jobs_here", "_law_by_here"]
  _law_greater : DefAt K mg "_law_greater" "_law_greater" s__law_greater ["_law_jobs_here", "_law_often"]
  _law_parted : DefAt K mg "_law_parted" "_law_parted" s__law_parted ["_law_jobs_here", "_law_at", "_law_part"]
  _law_turned : DefAt K mg "_law_turned" "_law_turned" s__law_turned ["_law_jobs_here"]
  _law_apart_right : DefAt K mg "_law_apart_right" "_law_apart_right" s__law_apart_right ["_law_pack_here"]
  law : DefAt K mg "law" "law" s_law ["_law_script"]
abbrev cx {K : PySem.W.Frag} {mg : Str → Option Value} (T : Tx K mg) : Cc := ⟨K, fun n => match n with | 0 => T.c_Reach.C | _ => 0⟩
section
variable {P : Program} {w : World} {K : PySem.W.Frag} {mg : Str → Option Value} {base : Heap}
theorem ok_is_whole (T : Tx K mg) : FnOk P w K mg base CX0 1 T.is_whole.a T.is_whole.d ["thing"] (spP (cx T) m_is_whole) :=
  fn_pure 1 1 m_is_whole b_is_whole rfl T.is_whole.F sc_is_whole rfl rfl rfl fun cdv A outer s H E hr => ss_one (sx_ret (ex_and (ex_isi (ex_var 0) (by decide) T.n_isinstance T.n_int (by decide +kernel)) (ex_one (ex_not (ex_isi (ex_var 0) (by decide) T.n_isinstance T.n_bool (by decide +kernel))))))
theorem ok_common (T : Tx K mg) : FnOk P w K mg base CX0 1 T.common.a T.common.d ["one", "other"] (spP (cx T) m_common) :=
  fn_pure 2 2 m_common b_common rfl T.common.F sc_common rfl rfl rfl fun cdv A outer s H E hr => ss_cons (sx_par 0 1 rfl sc_common.nd (xa_cons (ex_callB call_abs cs_abs T.n_abs (xa_cons (ex_var 0) (xa_nil))) (xa_cons (ex_callB call_abs cs_abs T.n_abs (xa_cons (ex_var 1) (xa_nil))) (xa_nil)))) (ss_cons (sx_while (xt_cmp (op_neD hr.units) os_ne bo_ne (ex_var 1) (ex_int)) (ss_one (sx_par 0 1 rfl sc_common.nd (xa_cons (ex_var 1) (xa_cons (ex_op op_modN os_mod (ex_var 0) (ex_var 1)) (xa_nil)))))) (ss_one (sx_ret (ex_var 0))))
theorem ok_is_number (T : Tx K mg) : FnOk P w K mg base CX0 2 T.is_number.a T.is_number.d ["thing"] (spP (cx T) m_is_number) :=
  fn_pure 1 2 m_is_number b_is_number rfl T.is_number.F sc_is_number rfl rfl rfl fun cdv A outer s H E hr => ss_cons (sx_if (PW.pt (xw_or (xt_not (xt_val (ex_isi (ex_var 0) (by decide) T.n_isinstance T.n_tuple (by decide +kernel)))) (xw_or (xt_cmp (op_neD hr.units) os_ne bo_ne (ex_callB call_len cs_len T.n_len (xa_cons (ex_var 0) (xa_nil))) (ex_int)) (xw_or1 (xt_not (xt_val (ex_callB (cr_all rfl) cs_all T.n_all (xa_cons (ex_lc (own := [("part", 1)]) (pins' := [0]) sc_is_number.nd (ix_seq' (ex_var 0)) (blkOk_by (N := ["thing", "part"]) (sc := defScope s_is_number) (by decide +kernel)) (pins_ok (n := 2) (by decide) rfl) (gown_name) (fun _ _ _ _ _ => gx_name 1 sc_is_number.nd) (fun _ _ _ _ _ => xts_nil) (fun _ _ _ _ _ => ex_call (ok_is_whole T) (hr.mono (by decide)) T.is_whole.g T.is_whole.F.kp T.is_whole.b (xa_cons (ex_var 1) (xa_nil)))) (xa_nil))))))))) (ss_one (sx_ret (ex_bl))) (ss_nil)) (ss_one (sx_ret (ex_and (ex_cmp op_ge os_ge (ex_ix ix_seq os_ix (ex_var 0) (ex_int)) (ex_int)) (ex_one (ex_cmp (op_eqD hr.units) os_eq (ex_call (ok_common T) (hr.mono (by decide)) T.common.g T.common.F.kp T.common.b (xa_cons (ex_ix ix_seq os_ix (ex_var 0) (ex_int)) (xa_cons (ex_ix ix_seq os_ix (ex_var 0) (ex_int)) (xa_nil)))) (ex_int))))))
theorem ok_number (T : Tx K mg) : FnOk P w K mg base CX0 2 T.number.a T.number.d ["top", "bottom"] (spP (cx T) m_number) :=
  fn_pure 2 3 m_number b_number rfl T.number.F sc_number rfl rfl rfl fun cdv A outer s H E hr => ss_cons (sx_if (xt_cmp (op_eqD hr.units) os_eq bo_eq (ex_var 1) (ex_int)) (ss_one (sx_never)) (ss_nil)) (ss_cons (sx_set 2 sc_number.nd (ex_call (ok_common T) (hr.mono (by decide)) T.common.g T.common.F.kp T.common.b (xa_cons (ex_var 0) (xa_cons (ex_var 1) (xa_nil))))) (ss_cons (sx_if (xt_cmp op_lt os_lt bo_lt (ex_var 1) (ex_int)) (ss_one (sx_set 2 sc_number.nd (ex_op op_sub os_sub (ex_int) (ex_var 2)))) (ss_nil)) (ss_one (sx_ret (ex_tup (xa_cons (ex_op op_fdivS os_fdiv (ex_var 0) (ex_var 2)) (xa_cons (ex_op op_fdivS os_fdiv (ex_var 1) (ex_var 2)) (xa_nil))))))))
theorem ok_whole (T : Tx K mg) : FnOk P w K mg base CX0 1 T.whole.a T.whole.d ["top"] (spP (cx T) m_whole) :=
  fn_pure 1 1 m_whole b_whole rfl T.whole.F sc_whole rfl rfl rfl fun cdv A outer s H E hr => ss_one (sx_ret (ex_tup (xa_cons (ex_var 0) (xa_cons (ex_int) (xa_nil)))))
theorem ok_added (T : Tx K mg) : FnOk P w K mg base CX0 3 T.added.a T.added.d ["one", "other"] (spP (cx T) m_added) :=
  fn_pure 2 2 m_added b_added rfl T.added.F sc_added rfl rfl rfl fun cdv A outer s H E hr => ss_one (sx_ret (ex_call (ok_number T) (hr.mono (by decide)) T.number.g T.number.F.kp T.number.b (xa_cons (ex_op op_addL os_addL (ex_op op_mulA os_mul (ex_ix ix_seq os_ix (ex_var 0) (ex_int)) (ex_ix ix_seq os_ix (ex_var 1) (ex_int))) (ex_op op_mulA os_mul (ex_ix ix_seq os_ix (ex_var 1) (ex_int)) (ex_ix ix_seq os_ix (ex_var 0) (ex_int)))) (xa_cons (ex_op op_mulA os_mul (ex_ix ix_seq os_ix (ex_var 0) (ex_int)) (ex_ix ix_seq os_ix (ex_var 1) (ex_int))) (xa_nil)))))
theorem ok_taken (T : Tx K mg) : FnOk P w K mg base CX0 3 T.taken.a T.taken.d ["one", "other"] (spP (cx T) m_taken) :=
  fn_pure 2 2 m_taken b_taken rfl T.taken.F sc_taken rfl rfl rfl fun cdv A outer s H E hr => ss_one (sx_ret (ex_call (ok_number T) (hr.mono (by decide)) T.number.g T.number.F.kp T.number.b (xa_cons (ex_op op_sub os_sub (ex_op op_mulA os_mul (ex_ix ix_seq os_ix (ex_var 0) (ex_int)) (ex_ix ix_seq os_ix (ex_var 1) (ex_int))) (ex_op op_mulA os_mul (ex_ix ix_seq os_ix (ex_var 1) (ex_int)) (ex_ix ix_seq os_ix (ex_var 0) (ex_int)))) (xa_cons (ex_op op_mulA os_mul (ex_ix ix_seq os_ix (ex_var 0) (ex_int)) (ex_ix ix_seq os_ix (ex_var 1) (ex_int))) (xa_nil)))))
theorem ok_parted (T : Tx K mg) : FnOk P w K mg base CX0 3 T.parted.a T.parted.d ["one", "other"] (spP (cx T) m_parted) :=
  fn_pure 2 2 m_parted b_parted rfl T.parted.F sc_parted rfl rfl rfl fun cdv A outer s H E hr => ss_one (sx_ret (ex_call (ok_number T) (hr.mono (by decide)) T.number.g T.number.F.kp T.number.b (xa_cons (ex_op op_mulA os_mul (ex_ix ix_seq os_ix (ex_var 0) (ex_int)) (ex_ix ix_seq os_ix (ex_var 1) (ex_int))) (xa_cons (ex_op op_mulA os_mul (ex_ix ix_seq os_ix (ex_var 0) (ex_int)) (ex_ix ix_seq os_ix (ex_var 1) (ex_int))) (xa_nil)))))
theorem ok_is_less (T : Tx K mg) : FnOk P w K mg base CX0 1 T.is_less.a T.is_less.d ["one", "other"] (spP (cx T) m_is_less) :=
  fn_pure 2 2 m_is_less b_is_less rfl T.is_less.F sc_is_less rfl rfl rfl fun cdv A outer s H E hr => ss_one (sx_ret (ex_cmp op_lt os_lt (ex_op op_mulA os_mul (ex_ix ix_seq os_ix (ex_var 0) (ex_int)) (ex_ix ix_seq os_ix (ex_var 1) (ex_int))) (ex_op op_mulA os_mul (ex_ix ix_seq os_ix (ex_var 1) (ex_int)) (ex_ix ix_seq os_ix (ex_var 0) (ex_int)))))
theorem ok_is_pair (T : Tx K mg) : FnOk P w K mg base CX0 3 T.is_pair.a T.is_pair.d ["thing"] (spP (cx T) m_is_pair) :=
  fn_pure 1 1 m_is_pair b_is_pair rfl T.is_pair.F sc_is_pair rfl rfl rfl fun cdv A outer s H E hr => ss_cons (sx_if (PW.pt (xw_or (xt_not (xt_val (ex_isi (ex_var 0) (by decide) T.n_isinstance T.n_tuple (by decide +kernel)))) (xw_or (xt_cmp (op_neD hr.units) os_ne bo_ne (ex_callB call_len cs_len T.n_len (xa_cons (ex_var 0) (xa_nil))) (ex_int)) (xw_or (xt_not (xt_val (ex_call (ok_is_number T) (hr.mono (by decide)) T.is_number.g T.is_number.F.kp T.is_number.b (xa_cons (ex_ix ix_seq os_ix (ex_var 0) (ex_int)) (xa_nil))))) (xw_or1 (xt_not (xt_val (ex_call (ok_is_number T) (hr.mono (by decide)) T.is_number.g T.is_number.F.kp T.is_number.b (xa_cons (ex_ix ix_seq os_ix (ex_var 0) (ex_int)) (xa_nil)))))))))) (ss_one (sx_ret (ex_bl))) (ss_nil)) (ss_one (sx_ret (ex_not (ex_call (ok_is_less T) (hr.mono (by decide)) T.is_less.g T.is_less.F.kp T.is_less.b (xa_cons (ex_ix ix_seq os_ix (ex_var 0) (ex_int)) (xa_cons (ex_ix ix_seq os_ix (ex_var 0) (ex_int)) (xa_nil)))))))
theorem ok_is_tube (T : Tx K mg) : FnOk P w K mg base CX0 4 T.is_tube.a T.is_tube.d ["thing"] (spP (cx T) m_is_tube) :=
  fn_pure 1 2 m_is_tube b_is_tube rfl T.is_tube.F sc_is_tube rfl rfl rfl fun cdv A outer s H E hr => ss_cons (sx_if (PW.pt (xw_or (xt_not (xt_val (ex_isi (ex_var 0) (by decide) T.n_isinstance T.n_tuple (by decide +kernel)))) (xw_or1 (xt_not (xt_chain op_le op_le os_le os_le bo_le bo_le (ex_int) (ex_callB call_len cs_len T.n_len (xa_cons (ex_var 0) (xa_nil))) (ex_c (pe_glob rfl T.MOST_PLACES.g T.MOST_PLACES.r) T.MOST_PLACES.p)))))) (ss_one (sx_ret (ex_bl))) (ss_nil)) (ss_one (sx_ret (ex_callB (cr_all rfl) cs_all T.n_all (xa_cons (ex_lc (own := [("pair", 1)]) (pins' := [0]) sc_is_tube.nd (ix_seq' (ex_var 0)) (blkOk_by (N := ["thing", "pair"]) (sc := defScope s_is_tube) (by decide +kernel)) (pins_ok (n := 2) (by decide) rfl) (gown_name) (fun _ _ _ _ _ => gx_name 1 sc_is_tube.nd) (fun _ _ _ _ _ => xts_nil) (fun _ _ _ _ _ => ex_call (ok_is_pair T) (hr.mono (by decide)) T.is_pair.g T.is_pair.F.kp T.is_pair.b (xa_cons (ex_var 1) (xa_nil)))) (xa_nil)))))
theorem ok_is_tied (T : Tx K mg) : FnOk P w K mg base CX0 5 T.is_tied.a T.is_tied.d ["thing"] (spP (cx T) m_is_tied) :=
  fn_pure 1 1 m_is_tied b_is_tied rfl T.is_tied.F sc_is_tied rfl rfl rfl fun cdv A outer s H E hr => ss_one (sx_ret (ex_and (ex_call (ok_is_tube T) (hr.mono (by decide)) T.is_tube.g T.is_tube.F.kp T.is_tube.b (xa_cons (ex_var 0) (xa_nil))) (ex_and (ex_cmp (op_eqD hr.units) os_eq (ex_ix ix_seq os_ix (ex_ix ix_seq os_ix (ex_var 0) (ex_int)) (ex_int)) (ex_ix ix_seq os_ix (ex_ix ix_seq os_ix (ex_var 0) (ex_int)) (ex_int))) (ex_one (ex_cmp (op_eqD hr.units) os_eq (ex_ix ix_seq os_ix (ex_ix ix_seq os_ix (ex_var 0) (ex_un un_neg un_negS (ex_int))) (ex_int)) (ex_ix ix_seq os_ix (ex_ix ix_seq os_ix (ex_var 0) (ex_un un_neg un_negS (ex_int))) (ex_int)))))))
theorem ok_check_tied (T : Tx K mg) : FnOk P w K mg base CX0 6 T.check_tied.a T.check_tied.d ["thing"] (spP (cx T) m_check_tied) :=
  fn_pure 1 1 m_check_tied b_check_tied rfl T.check_tied.F sc_check_tied rfl rfl rfl fun cdv A outer s H E hr => ss_one (sx_if (xt_not (xt_val (ex_call (ok_is_tied T) (hr.mono (by decide)) T.is_tied.g T.is_tied.F.kp T.is_tied.b (xa_cons (ex_var 0) (xa_nil))))) (ss_one (sx_never)) (ss_nil))
theorem ok_are_numbers_tubes (T : Tx K mg) : FnOk P w K mg base CX0 3 T.are_numbers_tubes.a T.are_numbers_tubes.d ["thing", "least", "most"] (spP (cx T) m_are_numbers_tubes) :=
  fn_pure 3 4 m_are_numbers_tubes b_are_numbers_tubes rfl T.are_numbers_tubes.F sc_are_numbers_tubes rfl rfl rfl fun cdv A outer s H E hr => ss_one (sx_ret (ex_and (ex_isi (ex_var 0) (by decide) T.n_isinstance T.n_tuple (by decide +kernel)) (ex_and (ex_chain op_le op_le os_le os_le bo_le (ex_var 1) (ex_callB call_len cs_len T.n_len (xa_cons (ex_var 0) (xa_nil))) (ex_var 2)) (ex_one (ex_callB (cr_all rfl) cs_all T.n_all (xa_cons (ex_lc (own := [("one", 3)]) (pins' := [0, 1, 2]) sc_are_numbers_tubes.nd (ix_seq' (ex_var 0)) (blkOk_by (N := ["thing", "least", "most", "one"]) (sc := defScope s_are_numbers_tubes) (by decide +kernel)) (pins_ok (n := 4) (by decide) rfl) (gown_name) (fun _ _ _ _ _ => gx_name 3 sc_are_numbers_tubes.nd) (fun _ _ _ _ _ => xts_nil) (fun _ _ _ _ _ => ex_call (ok_is_number T) (hr.mono (by decide)) T.is_number.g T.is_number.F.kp T.is_number.b (xa_cons (ex_var 3) (xa_nil)))) (xa_nil)))))))
theorem ok_check_plain_row (T : Tx K mg) : FnOk P w K mg base CX0 4 T.check_plain_row.a T.check_plain_row.d ["thing"] (spP (cx T) m_check_plain_row) :=
  fn_pure 1 1 m_check_plain_row b_check_plain_row rfl T.check_plain_row.F sc_check_plain_row rfl rfl rfl fun cdv A outer s H E hr => ss_one (sx_if (xt_not (xt_val (ex_call (ok_are_numbers_tubes T) (hr.mono (by decide)) T.are_numbers_tubes.g T.are_numbers_tubes.F.kp T.are_numbers_tubes.b (xa_cons (ex_var 0) (xa_cons (ex_int) (xa_cons (ex_c (pe_glob rfl T.MOST_PLACES.g T.MOST_PLACES.r) T.MOST_PLACES.p) (xa_nil))))))) (ss_one (sx_never)) (ss_nil))
theorem ok_steps (T : Tx K mg) : FnOk P w K mg base CX0 5 T.steps.a T.steps.d ["row"] (spP (cx T) m_steps) :=
  fn_pure 1 2 m_steps b_steps rfl T.steps.F sc_steps rfl rfl rfl fun cdv A outer s H E hr => ss_cons (sx_drop (ex_call (ok_check_plain_row T) (hr.mono (by decide)) T.check_plain_row.g T.check_plain_row.F.kp T.check_plain_row.b (xa_cons (ex_var 0) (xa_nil)))) (ss_one (sx_ret (ex_callTy call_tuple_of cs_tuple T.n_tuple (xa_cons (ex_lc (own := [("k", 1)]) (pins' := [0]) sc_steps.nd (ix_range1 (xa_cons (ex_op op_sub os_sub (ex_callB call_len cs_len T.n_len (xa_cons (ex_var 0) (xa_nil))) (ex_int)) (xa_nil)) T.n_range) (blkOk_by (N := ["row", "k"]) (sc := defScope s_steps) (by decide +kernel)) (pins_ok (n := 2) (by decide) rfl) (gown_name) (fun _ _ _ _ _ => gx_name 1 sc_steps.nd) (fun _ _ _ _ _ => xts_nil) (fun _ _ _ _ _ => ex_call (ok_taken T) (hr.mono (by decide)) T.taken.g T.taken.F.kp T.taken.b (xa_cons (ex_ix ix_seq os_ix (ex_var 0) (ex_op op_addL os_addL (ex_var 1) (ex_int))) (xa_cons (ex_ix ix_seq os_ix (ex_var 0) (ex_var 1)) (xa_nil))))) (xa_nil)))))
theorem ok_slope_to (T : Tx K mg) : FnOk P w K mg base CX0 4 T.slope_to.a T.slope_to.d ["row", "height"] (spP (cx T) m_slope_to) :=
  fn_pure 2 4 m_slope_to b_slope_to rfl T.slope_to.F sc_slope_to rfl rfl rfl fun cdv A outer s H E hr => ss_cons (sx_asg (ex_var 0) (gx_tup rfl (gsx_cons (gx_name 2 sc_slope_to.nd) (gsx_cons (gx_name 3 sc_slope_to.nd) (gsx_nil))) rfl (gs_lenS (gs_lenS (gs_len0))))) (ss_one (sx_ret (ex_call (ok_parted T) (hr.mono (by decide)) T.parted.g T.parted.F.kp T.parted.b (xa_cons (ex_call (ok_taken T) (hr.mono (by decide)) T.taken.g T.taken.F.kp T.taken.b (xa_cons (ex_var 1) (xa_cons (ex_var 2) (xa_nil)))) (xa_cons (ex_call (ok_whole T) (hr.mono (by decide)) T.whole.g T.whole.F.kp T.whole.b (xa_cons (ex_var 3) (xa_nil))) (xa_nil))))))
theorem ok_Reach___init__ (T : Tx K mg) : FnOk P w K mg base CX0 1 T.Reach___init__.a T.Reach___init__.d ["self", "begin", "height"] (spO (cx T) m_Reach___init__) :=
  fn_own [true, false, false] [0] 3 m_Reach___init__ b_Reach___init__ rfl T.Reach___init__.F sc_Reach___init__ rfl rfl rfl (by decide) (mask_ok (by decide)) fun cdv A outer s H E hr => ss_cons (sx_fld 0 0 T.c_Reach.cl T.na_Reach_begin (ex_var 1)) (ss_cons (sx_fld 0 0 T.c_Reach.cl T.na_Reach_height (ex_var 2)) (ss_cons (sx_fld 0 0 T.c_Reach.cl T.na_Reach_most (ex_non)) (ss_one (sx_fld 0 0 T.c_Reach.cl T.na_Reach_least (ex_non)))))
theorem ok_Reach_crossed (T : Tx K mg) : FnOk P w K mg base CX0 2 T.Reach_crossed.a T.Reach_crossed.d ["self", "low", "high"] (spO (cx T) m_Reach_crossed) :=
  fn_own [true, false, false] [0] 3 m_Reach_crossed b_Reach_crossed rfl T.Reach_crossed.F sc_Reach_crossed rfl rfl rfl (by decide) (mask_ok (by decide)) fun cdv A outer s H E hr => ss_cons (sx_if (PW.pt (xw_and (xt_notN (ex_fld 0 0 T.c_Reach.cl T.na_Reach_most)) (xw_and1 (xt_val (ex_call (ok_is_less T) (hr.mono (by decide)) T.is_less.g T.is_less.F.kp T.is_less.b (xa_cons (ex_ix ix_seq os_ix (ex_fld 0 0 T.c_Reach.cl T.na_Reach_most) (ex_int)) (xa_cons (ex_var 1) (xa_nil)))))))) (ss_one (sx_ret (ex_fld 0 0 T.c_Reach.cl T.na_Reach_most))) (ss_nil)) (ss_cons (sx_if (PW.pt (xw_and (xt_notN (ex_fld 0 0 T.c_Reach.cl T.na_Reach_least)) (xw_and1 (xt_val (ex_call (ok_is_less T) (hr.mono (by decide)) T.is_less.g T.is_less.F.kp T.is_less.b (xa_cons (ex_var 2) (xa_cons (ex_ix ix_seq os_ix (ex_fld 0 0 T.c_Reach.cl T.na_Reach_least) (ex_int)) (xa_nil)))))))) (ss_one (sx_ret (ex_fld 0 0 T.c_Reach.cl T.na_Reach_least))) (ss_nil)) (ss_one (sx_ret (ex_non))))
theorem ok_Reach_take (T : Tx K mg) : FnOk P w K mg base CX0 5 T.Reach_take.a T.Reach_take.d ["self", "place", "bounds"] (spO (cx T) m_Reach_take) :=
  fn_own [true, false, false] [0] 6 m_Reach_take b_Reach_take rfl T.Reach_take.F sc_Reach_take rfl rfl rfl (by decide) (mask_ok (by decide)) fun cdv A outer s H E hr => ss_cons (sx_set 3 sc_Reach_take.nd (ex_call (ok_slope_to T) (hr.mono (by decide)) T.slope_to.g T.slope_to.F.kp T.slope_to.b (xa_cons (ex_tup (xa_cons (ex_fld 0 0 T.c_Reach.cl T.na_Reach_height) (xa_cons (ex_op op_sub os_sub (ex_var 1) (ex_fld 0 0 T.c_Reach.cl T.na_Reach_begin)) (xa_nil)))) (xa_cons (ex_ix ix_seq os_ix (ex_var 2) (ex_int)) (xa_nil))))) (ss_cons (sx_set 4 sc_Reach_take.nd (ex_call (ok_slope_to T) (hr.mono (by decide)) T.slope_to.g T.slope_to.F.kp T.slope_to.b (xa_cons (ex_tup (xa_cons (ex_fld 0 0 T.c_Reach.cl T.na_Reach_height) (xa_cons (ex_op op_sub os_sub (ex_var 1) (ex_fld 0 0 T.c_Reach.cl T.na_Reach_begin)) (xa_nil)))) (xa_cons (ex_ix ix_seq os_ix (ex_var 2) (ex_int)) (xa_nil))))) (ss_cons (sx_set 5 sc_Reach_take.nd (ex_meth 0 0 T.c_Reach.cl T.Reach_crossed.m (ok_Reach_crossed T) (hr.mono (by decide)) T.Reach_crossed.b (xao_val (ex_var 3) (xao_val (ex_var 4) (xao_nil))))) (ss_cons (sx_if (xt_isN (ex_var 5)) (ss_cons (sx_if (PW.pt (xw_or (xt_isN (ex_fld 0 0 T.c_Reach.cl T.na_Reach_most)) (xw_or1 (xt_not (xt_val (ex_call (ok_is_less T) (hr.mono (by decide)) T.is_less.g T.is_less.F.kp T.is_less.b (xa_cons (ex_ix ix_seq os_ix (ex_fld 0 0 T.c_Reach.cl T.na_Reach_most) (ex_int)) (xa_cons (ex_var 4) (xa_nil))))))))) (ss_one (sx_fld 0 0 T.c_Reach.cl T.na_Reach_most (ex_tup (xa_cons (ex_var 4) (xa_cons (ex_var 1) (xa_cons (ex_ix ix_seq os_ix (ex_var 2) (ex_int)) (xa_nil))))))) (ss_nil)) (ss_one (sx_if (PW.pt (xw_or (xt_isN (ex_fld 0 0 T.c_Reach.cl T.na_Reach_least)) (xw_or1 (xt_not (xt_val (ex_call (ok_is_less T) (hr.mono (by decide)) T.is_less.g T.is_less.F.kp T.is_less.b (xa_cons (ex_var 3) (xa_cons (ex_ix ix_seq os_ix (ex_fld 0 0 T.c_Reach.cl T.na_Reach_least) (ex_int)) (xa_nil))))))))) (ss_one (sx_fld 0 0 T.c_Reach.cl T.na_Reach_least (ex_tup (xa_cons (ex_var 3) (xa_cons (ex_var 1) (xa_cons (ex_ix ix_seq os_ix (ex_var 2) (ex_int)) (xa_nil))))))) (ss_nil)))) (ss_nil)) (ss_one (sx_ret (ex_var 5))))))
theorem ok_touch_behind (T : Tx K mg) : FnOk P w K mg base CX0 6 T.touch_behind.a T.touch_behind.d ["tube", "at", "height"] (spP (cx T) m_touch_behind) :=
  fn_pure 3 6 m_touch_behind b_touch_behind rfl T.touch_behind.F sc_touch_behind rfl rfl rfl fun cdv A outer s H E hr => ss_cons (sx_make 0 3 sc_touch_behind.nd T.mk_Reach (ok_Reach___init__ T) (hr.mono (by decide)) T.c_Reach.g T.Reach___init__.b (xa_cons (ex_var 1) (xa_cons (ex_var 2) (xa_nil)))) (ss_cons (sx_for (ix_range2 (xa_cons (ex_op op_addL os_addL (ex_var 1) (ex_int)) (xa_cons (ex_callB call_len cs_len T.n_len (xa_cons (ex_var 0) (xa_nil))) (xa_nil))) T.n_range) (gx_name 4 sc_touch_behind.nd) (ss_cons (sx_set 5 sc_touch_behind.nd (ex_meth 0 3 T.c_Reach.cl T.Reach_take.m (ok_Reach_take T) (hr.mono (by decide)) T.Reach_take.b (xao_val (ex_var 4) (xao_val (ex_ix ix_seq os_ix (ex_var 0) (ex_var 4)) (xao_nil))))) (ss_one (sx_if (xt_notN (ex_var 5)) (ss_one (sx_ret (ex_var 5))) (ss_nil))))) (ss_one (sx_ret (ex_fld 0 3 T.c_Reach.cl T.na_Reach_most))))
theorem ok_drawn_to (T : Tx K mg) : FnOk P w K mg base CX0 4 T.drawn_to.a T.drawn_to.d ["row", "slope", "many"] (spP (cx T) m_drawn_to) :=
  fn_pure 3 5 m_drawn_to b_drawn_to rfl T.drawn_to.F sc_drawn_to rfl rfl rfl fun cdv A outer s H E hr => ss_cons (sx_new 3 sc_drawn_to.nd (xn_list T.n_list (xa_cons (ex_var 0) (xa_nil)))) (ss_cons (sx_for (ix_range1 (xa_cons (ex_var 2) (xa_nil)) T.n_range) (gx_name 4 sc_drawn_to.nd) (ss_one (sx_app 3 (ex_call (ok_added T) (hr.mono (by decide)) T.added.g T.added.F.kp T.added.b (xa_cons (ex_bor 3 (ex_ix ix_seq os_ix (ex_var 3) (ex_un un_neg un_negS (ex_int)))) (xa_cons (ex_var 1) (xa_nil))))))) (ss_one (sx_ret (ex_frz 3))))
theorem ok_drawn (T : Tx K mg) : FnOk P w K mg base CX0 7 T.drawn.a T.drawn.d ["places"] (spP (cx T) m_drawn) :=
  fn_pure 1 6 m_drawn b_drawn rfl T.drawn.F sc_drawn rfl rfl rfl fun cdv A outer s H E hr => ss_cons (sx_set 1 sc_drawn.nd (ex_lst (xa_cons (ex_ix ix_seq os_ix (ex_ix ix_seq os_ix (ex_var 0) (ex_int)) (ex_int)) (xa_nil)))) (ss_cons (sx_while (xt_cmp op_lt os_lt bo_lt (ex_callB call_len cs_len T.n_len (xa_cons (ex_var 1) (xa_nil))) (ex_callB call_len cs_len T.n_len (xa_cons (ex_var 0) (xa_nil)))) (ss_cons (sx_set 2 sc_drawn.nd (ex_op op_sub os_sub (ex_callB call_len cs_len T.n_len (xa_cons (ex_var 1) (xa_nil))) (ex_int))) (ss_cons (sx_asg (ex_call (ok_touch_behind T) (hr.mono (by decide)) T.touch_behind.g T.touch_behind.F.kp T.touch_behind.b (xa_cons (ex_var 0) (xa_cons (ex_var 2) (xa_cons (ex_ix ix_seq os_ix (ex_var 1) (ex_var 2)) (xa_nil))))) (gx_tup rfl (gsx_cons (gx_name 3 sc_drawn.nd) (gsx_cons (gx_name 4 sc_drawn.nd) (gsx_cons (gx_name 5 sc_drawn.nd) (gsx_nil)))) rfl (gs_lenS (gs_lenS (gs_lenS (gs_len0)))))) (ss_one (sx_set 1 sc_drawn.nd (ex_call (ok_drawn_to T) (hr.mono (by decide)) T.drawn_to.g T.drawn_to.F.kp T.drawn_to.b (xa_cons (ex_var 1) (xa_cons (ex_var 3) (xa_cons (ex_op op_sub os_sub (ex_var 4) (ex_var 2)) (xa_nil)))))))))) (ss_one (sx_ret (ex_callTy call_tuple_of cs_tuple T.n_tuple (xa_cons (ex_var 1) (xa_nil))))))
theorem ok_cord (T : Tx K mg) : FnOk P w K mg base CX0 8 T.cord.a T.cord.d ["tube"] (spP (cx T) m_cord) :=
  fn_pure 1 1 m_cord b_cord rfl T.cord.F sc_cord rfl rfl rfl fun cdv A outer s H E hr => ss_cons (sx_drop (ex_call (ok_check_tied T) (hr.mono (by decide)) T.check_tied.g T.check_tied.F.kp T.check_tied.b (xa_cons (ex_var 0) (xa_nil)))) (ss_one (sx_ret (ex_call (ok_drawn T) (hr.mono (by decide)) T.drawn.g T.drawn.F.kp T.drawn.b (xa_cons (ex_var 0) (xa_nil)))))
theorem ok_is_job_jobs (T : Tx K mg) : FnOk P w K mg base CX0 3 T.is_job_jobs.a T.is_job_jobs.d ["thing"] (spP (cx T) m_is_job_jobs) :=
  fn_pure 1 1 m_is_job_jobs b_is_job_jobs rfl T.is_job_jobs.F sc_is_job_jobs rfl rfl rfl fun cdv A outer s H E hr => ss_cons (sx_if (PW.pt (xw_or (xt_not (xt_val (ex_isi (ex_var 0) (by decide) T.n_isinstance T.n_tuple (by decide +kernel)))) (xw_or (xt_cmp (op_neD hr.units) os_ne bo_ne (ex_callB call_len cs_len T.n_len (xa_cons (ex_var 0) (xa_nil))) (ex_int)) (xw_or (xt_not (xt_val (ex_call (ok_is_whole T) (hr.mono (by decide)) T.is_whole.g T.is_whole.F.kp T.is_whole.b (xa_cons (ex_ix ix_seq os_ix (ex_var 0) (ex_int)) (xa_nil))))) (xw_or1 (xt_not (xt_val (ex_call (ok_is_whole T) (hr.mono (by decide)) T.is_whole.g T.is_whole.F.kp T.is_whole.b (xa_cons (ex_ix ix_seq os_ix (ex_var 0) (ex_int)) (xa_nil)))))))))) (ss_one (sx_ret (ex_bl))) (ss_nil)) (ss_one (sx_ret (ex_and (ex_chain3 op_le op_lt op_le os_le os_lt os_le bo_le bo_lt (ex_int) (ex_ix ix_seq os_ix (ex_var 0) (ex_int)) (ex_ix ix_seq os_ix (ex_var 0) (ex_int)) (ex_c (pe_glob rfl T.LAST_HOUR.g T.LAST_HOUR.r) T.LAST_HOUR.p)) (ex_and (ex_call (ok_is_number T) (hr.mono (by decide)) T.is_number.g T.is_number.F.kp T.is_number.b (xa_cons (ex_ix ix_seq os_ix (ex_var 0) (ex_int)) (xa_nil))) (ex_one (ex_call (ok_is_less T) (hr.mono (by decide)) T.is_less.g T.is_less.F.kp T.is_less.b (xa_cons (ex_c (pe_glob rfl T.NOUGHT.g T.NOUGHT.r) T.NOUGHT.p) (xa_cons (ex_ix ix_seq os_ix (ex_var 0) (ex_int)) (xa_nil)))))))))
theorem ok_is_jobs (T : Tx K mg) : FnOk P w K mg base CX0 4 T.is_jobs.a T.is_jobs.d ["thing"] (spP (cx T) m_is_jobs) :=
  fn_pure 1 3 m_is_jobs b_is_jobs rfl T.is_jobs.F sc_is_jobs rfl rfl rfl fun cdv A outer s H E hr => ss_cons (sx_if (PW.pt (xw_or (xt_not (xt_val (ex_isi (ex_var 0) (by decide) T.n_isinstance T.n_tuple (by decide +kernel)))) (xw_or (xt_not (xt_chain op_le op_le os_le os_le bo_le bo_le (ex_int) (ex_callB call_len cs_len T.n_len (xa_cons (ex_var 0) (xa_nil))) (ex_c (pe_glob rfl T.MOST_JOBS.g T.MOST_JOBS.r) T.MOST_JOBS.p))) (xw_or1 (xt_not (xt_val (ex_callB (cr_all rfl) cs_all T.n_all (xa_cons (ex_lc (own := [("job", 1)]) (pins' := [0, 2]) sc_is_jobs.nd (ix_seq' (ex_var 0)) (blkOk_by (N := ["thing", "job", "later"]) (sc := defScope s_is_jobs) (by decide +kernel)) (pins_ok (n := 3) (by decide) rfl) (gown_name) (fun _ _ _ _ _ => gx_name 1 sc_is_jobs.nd) (fun _ _ _ _ _ => xts_nil) (fun _ _ _ _ _ => ex_call (ok_is_job_jobs T) (hr.mono (by decide)) T.is_job_jobs.g T.is_job_jobs.F.kp T.is_job_jobs.b (xa_cons (ex_var 1) (xa_nil)))) (xa_nil))))))))) (ss_one (sx_ret (ex_bl))) (ss_nil)) (ss_cons (sx_for (ix_zip (xa_cons (ex_var 0) (xa_cons (ex_cut (ex_var 0) (xo_some (ex_int)) (xo_no)) (xa_nil))) T.n_zip) (gx_tup rfl (gsx_cons (gx_name 1 sc_is_jobs.nd) (gsx_cons (gx_name 2 sc_is_jobs.nd) (gsx_nil))) rfl (gs_lenS (gs_lenS (gs_len0)))) (ss_one (sx_if (PW.pt (xw_or (xt_cmp op_lt os_lt bo_lt (ex_ix ix_seq os_ix (ex_var 2) (ex_int)) (ex_ix ix_seq os_ix (ex_var 1) (ex_int))) (xw_or1 (xt_cmp op_lt os_lt bo_lt (ex_ix ix_seq os_ix (ex_var 2) (ex_int)) (ex_ix ix_seq os_ix (ex_var 1) (ex_int)))))) (ss_one (sx_ret (ex_bl))) (ss_nil)))) (ss_one (sx_ret (ex_bl))))
theorem ok_check_jobs (T : Tx K mg) : FnOk P w K mg base CX0 5 T.check_jobs.a T.check_jobs.d ["thing"] (spP (cx T) m_check_jobs) :=
  fn_pure 1 1 m_check_jobs b_check_jobs rfl T.check_jobs.F sc_check_jobs rfl rfl rfl fun cdv A outer s H E hr => ss_one (sx_if (xt_not (xt_val (ex_call (ok_is_jobs T) (hr.mono (by decide)) T.is_jobs.g T.is_jobs.F.kp T.is_jobs.b (xa_cons (ex_var 0) (xa_nil))))) (ss_one (sx_never)) (ss_nil))
theorem ok_job_tube (T : Tx K mg) : FnOk P w K mg base CX0 6 T.job_tube.a T.job_tube.d ["jobs"] (spP (cx T) m_job_tube) :=
  fn_pure 1 8 m_job_tube b_job_tube rfl T.job_tube.F sc_job_tube rfl rfl rfl fun cdv A outer s H E hr => ss_cons (sx_drop (ex_call (ok_check_jobs T) (hr.mono (by decide)) T.check_jobs.g T.check_jobs.F.kp T.check_jobs.b (xa_cons (ex_var 0) (xa_nil)))) (ss_cons (sx_new 1 sc_job_tube.nd (xn_lst (xa_nil))) (ss_cons (sx_for (ix_range1 (xa_cons (ex_op op_addL os_addL (ex_ix ix_seq os_ix (ex_ix ix_seq os_ix (ex_var 0) (ex_un un_neg un_negS (ex_int))) (ex_int)) (ex_int)) (xa_nil)) T.n_range) (gx_name 2 sc_job_tube.nd) (ss_cons (sx_par 3 4 rfl sc_job_tube.nd (xa_cons (ex_c (pe_glob rfl T.NOUGHT.g T.NOUGHT.r) T.NOUGHT.p) (xa_cons (ex_c (pe_glob rfl T.NOUGHT.g T.NOUGHT.r) T.NOUGHT.p) (xa_nil)))) (ss_cons (sx_for (ix_seq' (ex_var 0)) (gx_tup rfl (gsx_cons (gx_name 5 sc_job_tube.nd) (gsx_cons (gx_name 6 sc_job_tube.nd) (gsx_cons (gx_name 7 sc_job_tube.nd) (gsx_nil)))) rfl (gs_lenS (gs_lenS (gs_lenS (gs_len0))))) (ss_cons (sx_if (xt_cmp op_le os_le bo_le (ex_var 6) (ex_var 2)) (ss_one (sx_set 3 sc_job_tube.nd (ex_call (ok_added T) (hr.mono (by decide)) T.added.g T.added.F.kp T.added.b (xa_cons (ex_var 3) (xa_cons (ex_var 7) (xa_nil)))))) (ss_nil)) (ss_one (sx_if (xt_cmp op_lt os_lt bo_lt (ex_var 5) (ex_var 2)) (ss_one (sx_set 4 sc_job_tube.nd (ex_call (ok_added T) (hr.mono (by decide)) T.added.g T.added.F.kp T.added.b (xa_cons (ex_var 4) (xa_cons (ex_var 7) (xa_nil)))))) (ss_nil))))) (ss_one (sx_app 1 (ex_tup (xa_cons (ex_var 3) (xa_cons (ex_var 4) (xa_nil))))))))) (ss_one (sx_ret (ex_callTy call_tuple_of cs_tuple T.n_tuple (xa_cons (ex_frz 1) (xa_nil)))))))
theorem ok_speeds (T : Tx K mg) : FnOk P w K mg base CX0 9 T.speeds.a T.speeds.d ["jobs"] (spP (cx T) m_speeds) :=
  fn_pure 1 1 m_speeds b_speeds rfl T.speeds.F sc_speeds rfl rfl rfl fun cdv A outer s H E hr => ss_one (sx_ret (ex_call (ok_steps T) (hr.mono (by decide)) T.steps.g T.steps.F.kp T.steps.b (xa_cons (ex_call (ok_cord T) (hr.mono (by decide)) T.cord.g T.cord.F.kp T.cord.b (xa_cons (ex_call (ok_job_tube T) (hr.mono (by decide)) T.job_tube.g T.job_tube.F.kp T.job_tube.b (xa_cons (ex_var 0) (xa_nil))) (xa_nil))) (xa_nil))))
theorem ok_parts (T : Tx K mg) : FnOk P w K mg base CX0 10 T.parts.a T.parts.d ["jobs"] (spP (cx T) m_parts) :=
  fn_pure 1 9 m_parts b_parts rfl T.parts.F sc_parts rfl rfl rfl fun cdv A outer s H E hr => ss_cons (sx_new 1 sc_parts.nd (xn_list T.n_list (xa_cons (ex_call (ok_speeds T) (hr.mono (by decide)) T.speeds.g T.speeds.F.kp T.speeds.b (xa_cons (ex_var 0) (xa_nil))) (xa_nil)))) (ss_cons (sx_set 2 sc_parts.nd (ex_int)) (ss_cons (sx_new 3 sc_parts.nd (xn_lst (xa_nil))) (ss_cons (sx_for (ix_seq' (ex_var 0)) (gx_tup rfl (gsx_cons (gx_name 4 sc_parts.nd) (gsx_cons (gx_name 5 sc_parts.nd) (gsx_cons (gx_name 6 sc_parts.nd) (gsx_nil)))) rfl (gs_lenS (gs_lenS (gs_lenS (gs_len0))))) (ss_cons (sx_new 7 sc_parts.nd (xn_lst (xa_nil))) (ss_cons (sx_while (xt_cmp (op_neD hr.units) os_ne bo_ne (ex_var 6) (ex_c (pe_glob rfl T.NOUGHT.g T.NOUGHT.r) T.NOUGHT.p)) (ss_one (sx_if (xt_cmp (op_eqD hr.units) os_eq bo_eq (ex_bor 1 (ex_ix ix_seq os_ix (ex_var 1) (ex_var 2))) (ex_c (pe_glob rfl T.NOUGHT.g T.NOUGHT.r) T.NOUGHT.p)) (ss_one (sx_set 2 sc_parts.nd (ex_op op_addL os_addL (ex_var 2) (ex_int)))) (ss_cons (sx_set 8 sc_parts.nd (ex_var 6)) (ss_cons (sx_if (xt_val (ex_call (ok_is_less T) (hr.mono (by decide)) T.is_less.g T.is_less.F.kp T.is_less.b (xa_cons (ex_bor 1 (ex_ix ix_seq os_ix (ex_var 1) (ex_var 2))) (xa_cons (ex_var 6) (xa_nil))))) (ss_one (sx_set 8 sc_parts.nd (ex_bor 1 (ex_ix ix_seq os_ix (ex_var 1) (ex_var 2))))) (ss_nil)) (ss_cons (sx_app 7 (ex_tup (xa_cons (ex_var 2) (xa_cons (ex_var 8) (xa_nil))))) (ss_cons (sx_asg (ex_call (ok_taken T) (hr.mono (by decide)) T.taken.g T.taken.F.kp T.taken.b (xa_cons (ex_bor 1 (ex_ix ix_seq os_ix (ex_var 1) (ex_var 2))) (xa_cons (ex_var 8) (xa_nil)))) (gx_ix 1 (ex_var 2))) (ss_one (sx_set 6 sc_parts.nd (ex_call (ok_taken T) (hr.mono (by decide)) T.taken.g T.taken.F.kp T.taken.b (xa_cons (ex_var 6) (xa_cons (ex_var 8) (xa_nil))))))))))))) (ss_one (sx_app 3 (ex_callTy call_tuple_of cs_tuple T.n_tuple (xa_cons (ex_frz 7) (xa_nil)))))))) (ss_one (sx_ret (ex_callTy call_tuple_of cs_tuple T.n_tuple (xa_cons (ex_frz 3) (xa_nil))))))))
theorem ok__law_mixed (T : Tx K mg) : FnOk P w K mg base CX0 1 T._law_mixed.a T._law_mixed.d ["_law_cell"] (spP (cx T) m__law_mixed) :=
  fn_pure 1 1 m__law_mixed b__law_mixed rfl T._law_mixed.F sc__law_mixed rfl rfl rfl fun cdv A outer s H E hr => ss_one (sx_ret (ex_op op_modN os_mod (ex_op op_mulA os_mul (ex_var 0) (ex_int)) (ex_op op_pow os_pow (ex_int) (ex_int))))
theorem ok__law_pack (T : Tx K mg) : FnOk P w K mg base CX0 2 T._law_pack.a T._law_pack.d ["_law_script", "_law_k"] (spN (cx T) m__law_pack) :=
  fn_new 2 4 m__law_pack b__law_pack rfl T._law_pack.F sc__law_pack rfl rfl rfl fun cdv A outer s H E hr => ss_cons (sx_set 2 sc__law_pack.nd (ex_int)) (ss_cons (sx_for (ix_seq' (ex_lst (xa_cons (ex_op op_addL os_addL (ex_var 1) (ex_int)) (xa_cons (ex_var 1) (xa_nil))))) (gx_name 3 sc__law_pack.nd) (ss_one (sx_set 2 sc__law_pack.nd (ex_op op_addL os_addL (ex_op op_mulA os_mul (ex_var 2) (ex_op op_pow os_pow (ex_int) (ex_int))) (ex_call (ok__law_mixed T) (hr.mono (by decide)) T._law_mixed.g T._law_mixed.F.kp T._law_mixed.b (xa_cons (ex_ix ix_seq os_ix (ex_op op_addL os_addL (ex_cut (ex_var 0) (xo_some (ex_var 3)) (xo_some (ex_op op_addL os_addL (ex_var 3) (ex_int)))) (ex_lst (xa_cons (ex_op op_addL os_addL (ex_op op_mulA os_mul (ex_int) (ex_var 3)) (ex_int)) (xa_nil)))) (ex_int)) (xa_nil))))))) (ss_one (sx_retNew (xn_lst (xa_cons (ex_var 2) (xa_nil))))))
theorem ok__law_take (T : Tx K mg) : FnOk P w K mg base CX0 1 T._law_take.a T._law_take.d ["_law_pack_here", "_law_size"] (spO (cx T) m__law_take) :=
  fn_own [true, false] [0] 3 m__law_take b__law_take rfl T._law_take.F sc__law_take rfl rfl rfl (by decide) (mask_ok (by decide)) fun cdv A outer s H E hr => ss_cons (sx_asg (ex_callB call_divmodB cs_divmod T.n_divmod (xa_cons (ex_bor 0 (ex_ix ix_seq os_ix (ex_var 0) (ex_int))) (xa_cons (ex_var 1) (xa_nil)))) (gx_tup rfl (gsx_cons (gx_ix 0 (ex_int)) (gsx_cons (gx_name 2 sc__law_take.nd) (gsx_nil))) rfl (gs_lenS (gs_lenS (gs_len0))))) (ss_one (sx_ret (ex_var 2)))
theorem ok__law_low (T : Tx K mg) : FnOk P w K mg base CX0 1 T._law_low.a T._law_low.d ["_law_top", "_law_bottom"] (spP (cx T) m__law_low) :=
  fn_pure 2 4 m__law_low b__law_low rfl T._law_low.F sc__law_low rfl rfl rfl fun cdv A outer s H E hr => ss_cons (sx_par 2 3 rfl sc__law_low.nd (xa_cons (ex_callB call_abs cs_abs T.n_abs (xa_cons (ex_var 0) (xa_nil))) (xa_cons (ex_callB call_abs cs_abs T.n_abs (xa_cons (ex_var 1) (xa_nil))) (xa_nil)))) (ss_cons (sx_while (xt_cmp (op_neD hr.units) os_ne bo_ne (ex_var 3) (ex_int)) (ss_one (sx_par 2 3 rfl sc__law_low.nd (xa_cons (ex_var 3) (xa_cons (ex_op op_modN os_mod (ex_var 2) (ex_var 3)) (xa_nil)))))) (ss_cons (sx_if (xt_cmp op_lt os_lt bo_lt (ex_var 1) (ex_int)) (ss_one (sx_set 2 sc__law_low.nd (ex_op op_sub os_sub (ex_int) (ex_var 2)))) (ss_nil)) (ss_one (sx_ret (ex_tup (xa_cons (ex_op op_fdivS os_fdiv (ex_var 0) (ex_var 2)) (xa_cons (ex_op op_fdivS os_fdiv (ex_var 1) (ex_var 2)) (xa_nil))))))))
theorem ok__law_less_by (T : Tx K mg) : FnOk P w K mg base CX0 2 T._law_less_by.a T._law_less_by.d ["_law_one", "_law_other"] (spP (cx T) m__law_less_by) :=
  fn_pure 2 2 m__law_less_by b__law_less_by rfl T._law_less_by.F sc__law_less_by rfl rfl rfl fun cdv A outer s H E hr => ss_one (sx_ret (ex_call (ok__law_low T) (hr.mono (by decide)) T._law_low.g T._law_low.F.kp T._law_low.b (xa_cons (ex_op op_sub os_sub (ex_op op_mulA os_mul (ex_ix ix_seq os_ix (ex_var 0) (ex_int)) (ex_ix ix_seq os_ix (ex_var 1) (ex_int))) (ex_op op_mulA os_mul (ex_ix ix_seq os_ix (ex_var 1) (ex_int)) (ex_ix ix_seq os_ix (ex_var 0) (ex_int)))) (xa_cons (ex_op op_mulA os_mul (ex_ix ix_seq os_ix (ex_var 0) (ex_int)) (ex_ix ix_seq os_ix (ex_var 1) (ex_int))) (xa_nil)))))
theorem ok__law_by (T : Tx K mg) : FnOk P w K mg base CX0 2 T._law_by.a T._law_by.d ["_law_one", "_law_other"] (spP (cx T) m__law_by) :=
  fn_pure 2 2 m__law_by b__law_by rfl T._law_by.F sc__law_by rfl rfl rfl fun cdv A outer s H E hr => ss_one (sx_ret (ex_call (ok__law_low T) (hr.mono (by decide)) T._law_low.g T._law_low.F.kp T._law_low.b (xa_cons (ex_op op_mulA os_mul (ex_ix ix_seq os_ix (ex_var 0) (ex_int)) (ex_ix ix_seq os_ix (ex_var 1) (ex_int))) (xa_cons (ex_op op_mulA os_mul (ex_ix ix_seq os_ix (ex_var 0) (ex_int)) (ex_ix ix_seq os_ix (ex_var 1) (ex_int))) (xa_nil)))))
theorem ok__law_jobs (T : Tx K mg) : FnOk P w K mg base CX0 2 T._law_jobs.a T._law_jobs.d ["_law_pack_here", "_law_most"] (spO (cx T) m__law_jobs) :=
  fn_own [true, false] [0] 6 m__law_jobs b__law_jobs rfl T._law_jobs.F sc__law_jobs rfl rfl rfl (by decide) (mask_ok (by decide)) fun cdv A outer s H E hr => ss_cons (sx_new 2 sc__law_jobs.nd (xn_lst (xa_nil))) (ss_cons (sx_set 3 sc__law_jobs.nd (ex_callO (ok__law_take T) (hr.mono (by decide)) T._law_take.g T._law_take.F.kp T._law_take.b (xao_own 0 (xao_val (ex_int) (xao_nil))))) (ss_cons (sx_set 4 sc__law_jobs.nd (ex_int)) (ss_cons (sx_for (ix_range1 (xa_cons (ex_op op_addL os_addL (ex_int) (ex_callO (ok__law_take T) (hr.mono (by decide)) T._law_take.g T._law_take.F.kp T._law_take.b (xao_own 0 (xao_val (ex_var 1) (xao_nil))))) (xa_nil)) T.n_range) (gx_name 5 sc__law_jobs.nd) (ss_cons (sx_set 3 sc__law_jobs.nd (ex_callB (call_min2 rfl) cs_min T.n_min (xa_cons (ex_int) (xa_cons (ex_op op_addL os_addL (ex_var 3) (ex_callO (ok__law_take T) (hr.mono (by decide)) T._law_take.g T._law_take.F.kp T._law_take.b (xao_own 0 (xao_val (ex_int) (xao_nil))))) (xa_nil))))) (ss_cons (sx_set 4 sc__law_jobs.nd (ex_callB (call_min2 rfl) cs_min T.n_min (xa_cons (ex_int) (xa_cons (ex_callB (call_max2 rfl) cs_max T.n_max (xa_cons (ex_var 4) (xa_cons (ex_op op_addL os_addL (ex_op op_addL os_addL (ex_var 3) (ex_int)) (ex_callO (ok__law_take T) (hr.mono (by decide)) T._law_take.g T._law_take.F.kp T._law_take.b (xao_own 0 (xao_val (ex_int) (xao_nil))))) (xa_nil)))) (xa_nil))))) (ss_one (sx_app 2 (ex_tup (xa_cons (ex_var 3) (xa_cons (ex_var 4) (xa_cons (ex_call (ok__law_low T) (hr.mono (by decide)) T._law_low.g T._law_low.F.kp T._law_low.b (xa_cons (ex_op op_addL os_addL (ex_int) (ex_callO (ok__law_take T) (hr.mono (by decide)) T._law_take.g T._law_take.F.kp T._law_take.b (xao_own 0 (xao_val (ex_int) (xao_nil))))) (xa_cons (ex_op op_addL os_addL (ex_int) (ex_callO (ok__law_take T) (hr.mono (by decide)) T._law_take.g T._law_take.F.kp T._law_take.b (xao_own 0 (xao_val (ex_int) (xao_nil))))) (xa_nil)))) (xa_nil)))))))))) (ss_one (sx_ret (ex_callTy call_tuple_of cs_tuple T.n_tuple (xa_cons (ex_frz 2) (xa_nil))))))))
theorem ok__law_later (T : Tx K mg) : FnOk P w K mg base CX0 1 T._law_later.a T._law_later.d ["_law_jobs_here", "_law_by_here"] (spP (cx T) m__law_later) :=
  fn_pure 2 5 m__law_later b__law_later rfl T._law_later.F sc__law_later rfl rfl rfl fun cdv A outer s H E hr => ss_one (sx_ret (ex_callTy call_tuple_of cs_tuple T.n_tuple (xa_cons (ex_lc (own := [("_law_arrival", 2), ("_law_due", 3), ("_law_work", 4)]) (pins' := [0, 1]) sc__law_later.nd (ix_seq' (ex_var 0)) (blkOk_by (N := ["_law_jobs_here", "_law_by_here", "_law_arrival", "_law_due", "_law_work"]) (sc := defScope s__law_later) (by decide +kernel)) (pins_ok (n := 5) (by decide) rfl) (gown_tup (gown_cons (gown_name) (gown_cons (gown_name) (gown_cons (gown_name) (gown_nil))))) (fun _ _ _ _ _ => gx_tup rfl (gsx_cons (gx_name 2 sc__law_later.nd) (gsx_cons (gx_name 3 sc__law_later.nd) (gsx_cons (gx_name 4 sc__law_later.nd) (gsx_nil)))) rfl (gs_lenS (gs_lenS (gs_lenS (gs_len0))))) (fun _ _ _ _ _ => xts_nil) (fun _ _ _ _ _ => ex_tup (xa_cons (ex_op op_addL os_addL (ex_var 2) (ex_var 1)) (xa_cons (ex_op op_addL os_addL (ex_var 3) (ex_var 1)) (xa_cons (ex_var 4) (xa_nil)))))) (xa_nil))))
theorem ok__law_greater (T : Tx K mg) : FnOk P w K mg base CX0 3 T._law_greater.a T._law_greater.d ["_law_jobs_here", "_law_often"] (spP (cx T) m__law_greater) :=
  fn_pure 2 5 m__law_greater b__law_greater rfl T._law_greater.F sc__law_greater rfl rfl rfl fun cdv A outer s H E hr => ss_one (sx_ret (ex_callTy call_tuple_of cs_tuple T.n_tuple (xa_cons (ex_lc (own := [("_law_arrival", 2), ("_law_due", 3), ("_law_work", 4)]) (pins' := [0, 1]) sc__law_greater.nd (ix_seq' (ex_var 0)) (blkOk_by (N := ["_law_jobs_here", "_law_often", "_law_arrival", "_law_due", "_law_work"]) (sc := defScope s__law_greater) (by decide +kernel)) (pins_ok (n := 5) (by decide) rfl) (gown_tup (gown_cons (gown_name) (gown_cons (gown_name) (gown_cons (gown_name) (gown_nil))))) (fun _ _ _ _ _ => gx_tup rfl (gsx_cons (gx_name 2 sc__law_greater.nd) (gsx_cons (gx_name 3 sc__law_greater.nd) (gsx_cons (gx_name 4 sc__law_greater.nd) (gsx_nil)))) rfl (gs_lenS (gs_lenS (gs_lenS (gs_len0))))) (fun _ _ _ _ _ => xts_nil) (fun _ _ _ _ _ => ex_tup (xa_cons (ex_var 2) (xa_cons (ex_var 3) (xa_cons (ex_call (ok__law_by T) (hr.mono (by decide)) T._law_by.g T._law_by.F.kp T._law_by.b (xa_cons (ex_var 4) (xa_cons (ex_var 1) (xa_nil)))) (xa_nil)))))) (xa_nil))))
theorem ok__law_parted (T : Tx K mg) : FnOk P w K mg base CX0 3 T._law_parted.a T._law_parted.d ["_law_jobs_here", "_law_at", "_law_part"] (spP (cx T) m__law_parted) :=
  fn_pure 3 8 m__law_parted b__law_parted rfl T._law_parted.F sc__law_parted rfl rfl rfl fun cdv A outer s H E hr => ss_cons (sx_asg (ex_ix ix_seq os_ix (ex_var 0) (ex_var 1)) (gx_tup rfl (gsx_cons (gx_name 3 sc__law_parted.nd) (gsx_cons (gx_name 4 sc__law_parted.nd) (gsx_cons (gx_name 5 sc__law_parted.nd) (gsx_nil)))) rfl (gs_lenS (gs_lenS (gs_lenS (gs_len0)))))) (ss_cons (sx_set 6 sc__law_parted.nd (ex_call (ok__law_by T) (hr.mono (by decide)) T._law_by.g T._law_by.F.kp T._law_by.b (xa_cons (ex_var 5) (xa_cons (ex_var 2) (xa_nil))))) (ss_cons (sx_set 7 sc__law_parted.nd (ex_tup (xa_cons (ex_tup (xa_cons (ex_var 3) (xa_cons (ex_var 4) (xa_cons (ex_var 6) (xa_nil))))) (xa_cons (ex_tup (xa_cons (ex_var 3) (xa_cons (ex_var 4) (xa_cons (ex_call (ok__law_less_by T) (hr.mono (by decide)) T._law_less_by.g T._law_less_by.F.kp T._law_less_by.b (xa_cons (ex_var 5) (xa_cons (ex_var 6) (xa_nil)))) (xa_nil))))) (xa_nil))))) (ss_one (sx_ret (ex_op op_addL os_addL (ex_op op_addL os_addL (ex_cut (ex_var 0) (xo_no) (xo_some (ex_var 1))) (ex_var 7)) (ex_cut (ex_var 0) (xo_some (ex_op op_addL os_addL (ex_var 1) (ex_int))) (xo_no)))))))
theorem ok__law_turned (T : Tx K mg) : FnOk P w K mg base CX0 1 T._law_turned.a T._law_turned.d ["_law_jobs_here"] (spP (cx T) m__law_turned) :=
  fn_pure 1 5 m__law_turned b__law_turned rfl T._law_turned.F sc__law_turned rfl rfl rfl fun cdv A outer s H E hr => ss_cons (sx_set 1 sc__law_turned.nd (ex_ix ix_seq os_ix (ex_ix ix_seq os_ix (ex_var 0) (ex_un un_neg un_negS (ex_int))) (ex_int))) (ss_one (sx_ret (ex_callTy call_tuple_of cs_tuple T.n_tuple (xa_cons (ex_lc (own := [("_law_arrival", 2), ("_law_due", 3), ("_law_work", 4)]) (pins' := [0, 1]) sc__law_turned.nd (ix_seq' (ex_rev (ex_var 0))) (blkOk_by (N := ["_law_jobs_here", "_law_last", "_law_arrival", "_law_due", "_law_work"]) (sc := defScope s__law_turned) (by decide +kernel)) (pins_ok (n := 5) (by decide) rfl) (gown_tup (gown_cons (gown_name) (gown_cons (gown_name) (gown_cons (gown_name) (gown_nil))))) (fun _ _ _ _ _ => gx_tup rfl (gsx_cons (gx_name 2 sc__law_turned.nd) (gsx_cons (gx_name 3 sc__law_turned.nd) (gsx_cons (gx_name 4 sc__law_turned.nd) (gsx_nil)))) rfl (gs_lenS (gs_lenS (gs_lenS (gs_len0))))) (fun _ _ _ _ _ => xts_nil) (fun _ _ _ _ _ => ex_tup (xa_cons (ex_op op_sub os_sub (ex_var 1) (ex_var 3)) (xa_cons (ex_op op_sub os_sub (ex_var 1) (ex_var 2)) (xa_cons (ex_var 4) (xa_nil)))))) (xa_nil)))))
theorem ok__law_apart_right (T : Tx K mg) : FnOk P w K mg base CX0 10 T._law_apart_right.a T._law_apart_right.d ["_law_pack_here"] (spO (cx T) m__law_apart_right) :=
  fn_own [true] [0] 7 m__law_apart_right b__law_apart_right rfl T._law_apart_right.F sc__law_apart_right rfl rfl rfl (by decide) (mask_ok (by decide)) fun cdv A outer s H E hr => ss_cons (sx_set 1 sc__law_apart_right.nd (ex_callO (ok__law_take T) (hr.mono (by decide)) T._law_take.g T._law_take.F.kp T._law_take.b (xao_own 0 (xao_val (ex_int) (xao_nil))))) (ss_cons (sx_new 2 sc__law_apart_right.nd (xn_lst (xa_nil))) (ss_cons (sx_new 3 sc__law_apart_right.nd (xn_rep (xn_lst (xa_cons (ex_tup (xa_cons (ex_int) (xa_cons (ex_int) (xa_nil)))) (xa_nil))) (ex_var 1))) (ss_cons (sx_for (ix_range1 (xa_cons (ex_op op_addL os_addL (ex_int) (ex_callO (ok__law_take T) (hr.mono (by decide)) T._law_take.g T._law_take.F.kp T._law_take.b (xao_own 0 (xao_val (ex_int) (xao_nil))))) (xa_nil)) T.n_range) (gx_name 4 sc__law_apart_right.nd) (ss_cons (sx_set 5 sc__law_apart_right.nd (ex_op op_addL os_addL (ex_int) (ex_callO (ok__law_take T) (hr.mono (by decide)) T._law_take.g T._law_take.F.kp T._law_take.b (xao_own 0 (xao_val (ex_int) (xao_nil)))))) (ss_cons (sx_set 6 sc__law_apart_right.nd (ex_call (ok__law_low T) (hr.mono (by decide)) T._law_low.g T._law_low.F.kp T._law_low.b (xa_cons (ex_op op_addL os_addL (ex_int) (ex_callO (ok__law_take T) (hr.mono (by decide)) T._law_take.g T._law_take.F.kp T._law_take.b (xao_own 0 (xao_val (ex_int) (xao_nil))))) (xa_cons (ex_op op_addL os_addL (ex_int) (ex_callO (ok__law_take T) (hr.mono (by decide)) T._law_take.g T._law_take.F.kp T._law_take.b (xao_own 0 (xao_val (ex_int) (xao_nil))))) (xa_nil))))) (ss_cons (sx_app 2 (ex_tup (xa_cons (ex_var 1) (xa_cons (ex_op op_addL os_addL (ex_var 1) (ex_var 5)) (xa_cons (ex_var 6) (xa_nil)))))) (ss_cons (sx_ext 3 (xn_rep (xn_lst (xa_cons (ex_call (ok__law_by T) (hr.mono (by decide)) T._law_by.g T._law_by.F.kp T._law_by.b (xa_cons (ex_var 6) (xa_cons (ex_tup (xa_cons (ex_int) (xa_cons (ex_var 5) (xa_nil)))) (xa_nil)))) (xa_nil))) (ex_var 5))) (ss_one (sx_set 1 sc__law_apart_right.nd (ex_op op_addL os_addL (ex_var 1) (ex_var 5))))))))) (ss_one (sx_ret (ex_cmp (op_eqD hr.units) os_eq (ex_call (ok_speeds T) (hr.mono (by decide)) T.speeds.g T.speeds.F.kp T.speeds.b (xa_cons (ex_callTy call_tuple_of cs_tuple T.n_tuple (xa_cons (ex_frz 2) (xa_nil))) (xa_nil))) (ex_callTy call_tuple_of cs_tuple T.n_tuple (xa_cons (ex_frz 3) (xa_nil)))))))))
theorem ok_law (T : Tx K mg) : FnOk P w K mg base CX0 11 T.law.a T.law.d ["_law_script"] (spP (cx T) m_law) :=
  fn_pure 1 11 m_law b_law rfl T.law.F sc_law rfl rfl rfl fun cdv A outer s H E hr => ss_cons (sx_for (ix_range3 (xa_cons (ex_int) (xa_cons (ex_callB (call_max2 rfl) cs_max T.n_max (xa_cons (ex_int) (xa_cons (ex_callB (call_min2 rfl) cs_min T.n_min (xa_cons (ex_callB call_len cs_len T.n_len (xa_cons (ex_var 0) (xa_nil))) (xa_cons (ex_int) (xa_nil)))) (xa_nil)))) (xa_cons (ex_int) (xa_nil)))) T.n_range) (gx_name 1 sc_law.nd) (ss_cons (sx_set 2 sc_law.nd (ex_callO (ok__law_jobs T) (hr.mono (by decide)) T._law_jobs.g T._law_jobs.F.kp T._law_jobs.b (xao_new (xn_call (ok__law_pack T) (hr.mono (by decide)) T._law_pack.g T._law_pack.F.kp T._law_pack.b (xa_cons (ex_var 0) (xa_cons (ex_var 1) (xa_nil)))) (xao_val (ex_int) (xao_nil))))) (ss_cons (sx_new 3 sc_law.nd (xn_call (ok__law_pack T) (hr.mono (by decide)) T._law_pack.g T._law_pack.F.kp T._law_pack.b (xa_cons (ex_var 0) (xa_cons (ex_op op_addL os_addL (ex_var 1) (ex_int)) (xa_nil))))) (ss_cons (sx_set 4 sc_law.nd (ex_call (ok_speeds T) (hr.mono (by decide)) T.speeds.g T.speeds.F.kp T.speeds.b (xa_cons (ex_var 2) (xa_nil)))) (ss_cons (sx_set 5 sc_law.nd (ex_call (ok__law_low T) (hr.mono (by decide)) T._law_low.g T._law_low.F.kp T._law_low.b (xa_cons (ex_op op_addL os_addL (ex_int) (ex_callO (ok__law_take T) (hr.mono (by decide)) T._law_take.g T._law_take.F.kp T._law_take.b (xao_own 3 (xao_val (ex_int) (xao_nil))))) (xa_cons (ex_op op_addL os_addL (ex_int) (ex_callO (ok__law_take T) (hr.mono (by decide)) T._law_take.g T._law_take.F.kp T._law_take.b (xao_own 3 (xao_val (ex_int) (xao_nil))))) (xa_nil))))) (ss_cons (sx_set 6 sc_law.nd (ex_callO (ok__law_take T) (hr.mono (by decide)) T._law_take.g T._law_take.F.kp T._law_take.b (xao_own 3 (xao_val (ex_op op_sub os_sub (ex_int) (ex_ix ix_seq os_ix (ex_ix ix_seq os_ix (ex_var 2) (ex_un un_neg un_negS (ex_int))) (ex_int))) (xao_nil))))) (ss_cons (sx_if (xt_cmp (op_neD hr.units) os_ne bo_ne (ex_call (ok_speeds T) (hr.mono (by decide)) T.speeds.g T.speeds.F.kp T.speeds.b (xa_cons (ex_call (ok__law_greater T) (hr.mono (by decide)) T._law_greater.g T._law_greater.F.kp T._law_greater.b (xa_cons (ex_var 2) (xa_cons (ex_var 5) (xa_nil)))) (xa_nil))) (ex_callTy call_tuple_of cs_tuple T.n_tuple (xa_cons (ex_lc (own := [("_law_one", 10)]) (pins' := [0, 1, 2, 3, 4, 5, 6, 7, 8, 9]) sc_law.nd (ix_seq' (ex_var 4)) (blkOk_by (N := ["_law_script", "_law_k", "_law_jobs_here", "_law_pack_here", "_law_told", "_law_often", "_law_by_here", "_law_two", "_law_first", "_law_turned_here", "_law_one"]) (sc := defScope s_law) (by decide +kernel)) (pins_ok (n := 11) (by decide) rfl) (gown_name) (fun _ _ _ _ _ => gx_name 10 sc_law.nd) (fun _ _ _ _ _ => xts_nil) (fun _ _ _ _ _ => ex_call (ok__law_by T) (hr.mono (by decide)) T._law_by.g T._law_by.F.kp T._law_by.b (xa_cons (ex_var 10) (xa_cons (ex_var 5) (xa_nil))))) (xa_nil)))) (ss_one (sx_ret (ex_bl))) (ss_nil)) (ss_cons (sx_if (xt_cmp (op_neD hr.units) os_ne bo_ne (ex_call (ok_speeds T) (hr.mono (by decide)) T.speeds.g T.speeds.F.kp T.speeds.b (xa_cons (ex_call (ok__law_later T) (hr.mono (by decide)) T._law_later.g T._law_later.F.kp T._law_later.b (xa_cons (ex_var 2) (xa_cons (ex_var 6) (xa_nil)))) (xa_nil))) (ex_op op_addL os_addL (ex_op op_mulT os_mulT (ex_tup (xa_cons (ex_tup (xa_cons (ex_int) (xa_cons (ex_int) (xa_nil)))) (xa_nil))) (ex_var 6)) (ex_var 4))) (ss_one (sx_ret (ex_bl))) (ss_nil)) (ss_cons (sx_set 7 sc_law.nd (ex_call (ok__law_parted T) (hr.mono (by decide)) T._law_parted.g T._law_parted.F.kp T._law_parted.b (xa_cons (ex_var 2) (xa_cons (ex_callO (ok__law_take T) (hr.mono (by decide)) T._law_take.g T._law_take.F.kp T._law_take.b (xao_own 3 (xao_val (ex_callB call_len cs_len T.n_len (xa_cons (ex_var 2) (xa_nil))) (xao_nil)))) (xa_cons (ex_ix ix_seq os_ix (ex_lst (xa_cons (ex_tup (xa_cons (ex_int) (xa_cons (ex_int) (xa_nil)))) (xa_cons (ex_tup (xa_cons (ex_int) (xa_cons (ex_int) (xa_nil)))) (xa_cons (ex_tup (xa_cons (ex_int) (xa_cons (ex_int) (xa_nil)))) (xa_nil))))) (ex_callO (ok__law_take T) (hr.mono (by decide)) T._law_take.g T._law_take.F.kp T._law_take.b (xao_own 3 (xao_val (ex_int) (xao_nil))))) (xa_nil)))))) (ss_cons (sx_if (PW.pt (xw_or (xt_cmp (op_neD hr.units) os_ne bo_ne (ex_callB call_len cs_len T.n_len (xa_cons (ex_call (ok_parts T) (hr.mono (by decide)) T.parts.g T.parts.F.kp T.parts.b (xa_cons (ex_var 2) (xa_nil))) (xa_nil))) (ex_callB call_len cs_len T.n_len (xa_cons (ex_var 2) (xa_nil)))) (xw_or (xt_cmp (op_neD hr.units) os_ne bo_ne (ex_call (ok_speeds T) (hr.mono (by decide)) T.speeds.g T.speeds.F.kp T.speeds.b (xa_cons (ex_var 7) (xa_nil))) (ex_var 4)) (xw_or1 (xt_cmp (op_neD hr.units) os_ne bo_ne (ex_callB call_len cs_len T.n_len (xa_cons (ex_call (ok_parts T) (hr.mono (by decide)) T.parts.g T.parts.F.kp T.parts.b (xa_cons (ex_var 7) (xa_nil))) (xa_nil))) (ex_callB call_len cs_len T.n_len (xa_cons (ex_var 7) (xa_nil)))))))) (ss_one (sx_ret (ex_bl))) (ss_nil)) (ss_cons (sx_set 8 sc_law.nd (ex_ix ix_seq os_ix (ex_ix ix_seq os_ix (ex_var 2) (ex_int)) (ex_int))) (ss_cons (sx_set 9 sc_law.nd (ex_call (ok__law_turned T) (hr.mono (by decide)) T._law_turned.g T._law_turned.F.kp T._law_turned.b (xa_cons (ex_call (ok__law_later T) (hr.mono (by decide)) T._law_later.g T._law_later.F.kp T._law_later.b (xa_cons (ex_var 2) (xa_cons (ex_op op_sub os_sub (ex_int) (ex_var 8)) (xa_nil)))) (xa_nil)))) (ss_cons (sx_if (PW.pt (xw_or (xt_not (xt_val (ex_call (ok_is_jobs T) (hr.mono (by decide)) T.is_jobs.g T.is_jobs.F.kp T.is_jobs.b (xa_cons (ex_var 9) (xa_nil))))) (xw_or1 (xt_cmp (op_neD hr.units) os_ne bo_ne (ex_call (ok_speeds T) (hr.mono (by decide)) T.speeds.g T.speeds.F.kp T.speeds.b (xa_cons (ex_var 9) (xa_nil))) (ex_rev (ex_cut (ex_var 4) (xo_some (ex_var 8)) (xo_no))))))) (ss_one (sx_ret (ex_bl))) (ss_nil)) (ss_one (sx_if (xt_not (xt_val (ex_callO (ok__law_apart_right T) (hr.mono (by decide)) T._law_apart_right.g T._law_apart_right.F.kp T._law_apart_right.b (xao_own 3 (xao_nil))))) (ss_one (sx_ret (ex_bl))) (ss_nil)))))))))))))))) (ss_one (sx_ret (ex_bl)))
end
/-! ### what the top has written -/
set_option maxHeartbeats 0 in
theorem all_mk {h : Heap} {K : PySem.W.Frag} {mg : Str → Option Value} (X : K.In h) (G : h.Ns mainGlobals mg) (c : ∀ q ∈ hCks, q.says K) : Nonempty (Tx K mg) := by
  have c0 : SaysX hCk0.fa hCk0.fn hCk0.cs K := c hCk0 (.head _)
  have c1 : SaysX hCk1.fa hCk1.fn hCk1.cs K := c hCk1 (.tail _ (.head _))
  obtain ⟨u_0⟩ := cstB_ok X G (c1.cst 0 (q := ("LAST_HOUR", fun _ => k_LAST_HOUR)) rfl)
  obtain ⟨u_1⟩ := cstB_ok X G (c1.cst 1 (q := ("MOST_JOBS", fun _ => k_MOST_JOBS_jobs)) rfl)
  obtain ⟨u_2⟩ := cstB_ok X G (c1.cst 2 (q := ("MOST_PLACES", fun _ => k_MOST_PLACES_tubes)) rfl)
  obtain ⟨u_3⟩ := cstB_ok X G (c1.cst 3 (q := ("NOUGHT", fun _ => k_NOUGHT)) rfl)
  exact ⟨{
    c_Reach := ⟨He.ga K "Reach", He.cls_ok (c0.fact 0 (f := .cls "Reach") rfl), He.glo_ok X G (c0.fact 1 (f := .glo "Reach") rfl)⟩
    na_Reach_begin := He.noat_ok (c0.fact 2 (f := .noat "Reach" "begin") rfl)
    na_Reach_height := He.noat_ok (c0.fact 3 (f := .noat "Reach" "height") rfl)
    na_Reach_most := He.noat_ok (c0.fact 4 (f := .noat "Reach" "most") rfl)
    na_Reach_least := He.noat_ok (c0.fact 5 (f := .noat "Reach" "least") rfl)
    n_abs := He.free_ok X G (c0.fact 6 (f := .free "abs") rfl)
    n_all := He.free_ok X G (c0.fact 7 (f := .free "all") rfl)
    n_bool := He.free_ok X G (c0.fact 8 (f := .free "bool") rfl)
    n_divmod := He.free_ok X G (c0.fact 9 (f := .free "divmod") rfl)
    n_int := He.free_ok X G (c0.fact 10 (f := .free "int") rfl)
    n_isinstance := He.free_ok X G (c0.fact 11 (f := .free "isinstance") rfl)
    n_len := He.free_ok X G (c0.fact 12 (f := .free "len") rfl)
    n_list := He.free_ok X G (c0.fact 13 (f := .free "list") rfl)
    n_max := He.free_ok X G (c0.fact 14 (f := .free "max") rfl)
    n_min := He.free_ok X G (c0.fact 15 (f := .free "min") rfl)
    n_range := He.free_ok X G (c0.fact 16 (f := .free "range") rfl)
    n_tuple := He.free_ok X G (c0.fact 17 (f := .free "tuple") rfl)
    n_zip := He.free_ok X G (c0.fact 18 (f := .free "zip") rfl)
    is_whole := .hk (c0.def_ 0 (d := He.dfd ("is_whole", none) "is_whole" "is_whole" s_is_whole) rfl) (He.glo_ok X G (c0.fact 19 (f := .glo "is_whole") rfl)) (fun _ _ _ _ _ _ us hl => match us, hl with | [_], _ => rfl)
    common := .hk (c0.def_ 1 (d := He.dfd ("common", none) "common" "common" s_common) rfl) (He.glo_ok X G (c0.fact 20 (f := .glo "common") rfl)) (fun _ _ _ _ _ _ us hl => match us, hl with | [_, _], _ => rfl)
    is_number := .hk (c0.def_ 2 (d := He.dfd ("is_number", none) "is_number" "is_number" s_is_number) rfl) (He.glo_ok X G (c0.fact 21 (f := .glo "is_number") rfl)) (fun _ _ _ _ _ _ us hl => match us, hl with | [_], _ => rfl)
    number := .hk (c0.def_ 3 (d := He.dfd ("number", none) "number" "number" s_number) rfl) (He.glo_ok X G (c0.fact 22 (f := .glo "number") rfl)) (fun _ _ _ _ _ _ us hl => match us, hl with | [_, _], _ => rfl)
    whole := .hk (c0.def_ 4 (d := He.dfd ("whole", none) "whole" "whole" s_whole) rfl) (He.glo_ok X G (c0.fact 23 (f := .glo "whole") rfl)) (fun _ _ _ _ _ _ us hl => match us, hl with | [_], _ => rfl)
    added := .hk (c0.def_ 5 (d := He.dfd ("added", none) "added" "added" s_added) rfl) (He.glo_ok X G (c0.fact 24 (f := .glo "added") rfl)) (fun _ _ _ _ _ _ us hl => match us, hl with | [_, _], _ => rfl)
    taken := .hk (c0.def_ 6 (d := He.dfd ("taken", none) "taken" "taken" s_taken) rfl) (He.glo_ok X G (c0.fact 25 (f := .glo "taken") rfl)) (fun _ _ _ _ _ _ us hl => match us, hl with | [_, _], _ => rfl)
    parted := .hk (c0.def_ 7 (d := He.dfd ("parted", none) "parted" "parted" s_parted) rfl) (He.glo_ok X G (c0.fact 26 (f := .glo "parted") rfl)) (fun _ _ _ _ _ _ us hl => match us, hl with | [_, _], _ => rfl)
    is_less := .hk (c0.def_ 8 (d := He.dfd ("is_less", none) "is_less" "is_less" s_is_less) rfl) (He.glo_ok X G (c0.fact 27 (f := .glo "is_less") rfl)) (fun _ _ _ _ _ _ us hl => match us, hl with | [_, _], _ => rfl)
    is_pair := .hk (c0.def_ 9 (d := He.dfd ("is_pair", none) "is_pair" "is_pair" s_is_pair) rfl) (He.glo_ok X G (c0.fact 28 (f := .glo "is_pair") rfl)) (fun _ _ _ _ _ _ us hl => match us, hl with | [_], _ => rfl)
    is_tube := .hk (c0.def_ 10 (d := He.dfd ("is_tube", none) "is_tube" "is_tube" s_is_tube) rfl) (He.glo_ok X G (c0.fact 29 (f := .glo "is_tube") rfl)) (fun _ _ _ _ _ _ us hl => match us, hl with | [_], _ => rfl)
    is_tied := .hk (c0.def_ 11 (d := He.dfd ("is_tied", none) "is_tied" "is_tied" s_is_tied) rfl) (He.glo_ok X G (c0.fact 30 (f := .glo "is_tied") rfl)) (fun _ _ _ _ _ _ us hl => match us, hl with | [_], _ => rfl)
    check_tied := .hk (c0.def_ 12 (d := He.dfd ("check_tied", none) "check_tied" "check_tied" s_check_tied) rfl) (He.glo_ok X G (c0.fact 31 (f := .glo "check_tied") rfl)) (fun _ _ _ _ _ _ us hl => match us, hl with | [_], _ => rfl)
    are_numbers_tubes := .hk (c0.def_ 13 (d := He.dfd ("are_numbers", none) "are_numbers" "are_numbers" s_are_numbers_tubes) rfl) (He.glo_ok X G (c0.fact 32 (f := .glo "are_numbers") rfl)) (fun _ _ _ _ _ _ us hl => match us, hl with | [_, _, _], _ => rfl)
    check_plain_row := .hk (c0.def_ 14 (d := He.dfd ("check_plain_row", none) "check_plain_row" "check_plain_row" s_check_plain_row) rfl) (He.glo_ok X G (c0.fact 33 (f := .glo "check_plain_row") rfl)) (fun _ _ _ _ _ _ us hl => match us, hl with | [_], _ => rfl)
    steps := .hk (c0.def_ 15 (d := He.dfd ("steps", none) "steps" "steps" s_steps) rfl) (He.glo_ok X G (c0.fact 34 (f := .glo "steps") rfl)) (fun _ _ _ _ _ _ us hl => match us, hl with | [_], _ => rfl)
    slope_to := .hk (c0.def_ 16 (d := He.dfd ("slope_to", none) "slope_to" "slope_to" s_slope_to) rfl) (He.glo_ok X G (c0.fact 35 (f := .glo "slope_to") rfl)) (fun _ _ _ _ _ _ us hl => match us, hl with | [_, _], _ => rfl)
    Reach___init__ := .hk (c0.def_ 17 (d := He.dfd ("Reach", some "__init__") "__init__" "Reach.__init__" s_Reach___init__) rfl) (He.meth_ok (c0.fact 36 (f := .meth "Reach" "__init__") rfl)) (fun _ _ _ _ _ _ us hl => match us, hl with | [_, _, _], _ => rfl)
    mk_Reach := He.mkr_ok (c0.fact 37 (f := .mkr "Reach") rfl)
    Reach_crossed := .hk (c0.def_ 18 (d := He.dfd ("Reach", some "crossed") "crossed" "Reach.crossed" s_Reach_crossed) rfl) (He.meth_ok (c0.fact 38 (f := .meth "Reach" "crossed") rfl)) (fun _ _ _ _ _ _ us hl => match us, hl with | [_, _, _], _ => rfl)
    Reach_take := .hk (c0.def_ 19 (d := He.dfd ("Reach", some "take") "take" "Reach.take" s_Reach_take) rfl) (He.meth_ok (c0.fact 39 (f := .meth "Reach" "take") rfl)) (fun _ _ _ _ _ _ us hl => match us, hl with | [_, _, _], _ => rfl)
    touch_behind := .hk (c0.def_ 20 (d := He.dfd ("touch_behind", none) "touch_behind" "touch_behind" s_touch_behind) rfl) (He.glo_ok X G (c0.fact 40 (f := .glo "touch_behind") rfl)) (fun _ _ _ _ _ _ us hl => match us, hl with | [_, _, _], _ => rfl)
    drawn_to := .hk (c0.def_ 21 (d := He.dfd ("drawn_to", none) "drawn_to" "drawn_to" s_drawn_to) rfl) (He.glo_ok X G (c0.fact 41 (f := .glo "drawn_to") rfl)) (fun _ _ _ _ _ _ us hl => match us, hl with | [_, _, _], _ => rfl)
    drawn := .hk (c0.def_ 22 (d := He.dfd ("drawn", none) "drawn" "drawn" s_drawn) rfl) (He.glo_ok X G (c0.fact 42 (f := .glo "drawn") rfl)) (fun _ _ _ _ _ _ us hl => match us, hl with | [_], _ => rfl)
    cord := .hk (c0.def_ 23 (d := He.dfd ("cord", none) "cord" "cord" s_cord) rfl) (He.glo_ok X G (c0.fact 43 (f := .glo "cord") rfl)) (fun _ _ _ _ _ _ us hl => match us, hl with | [_], _ => rfl)
    is_job_jobs := .hk (c0.def_ 24 (d := He.dfd ("is_job", none) "is_job" "is_job" s_is_job_jobs) rfl) (He.glo_ok X G (c0.fact 44 (f := .glo "is_job") rfl)) (fun _ _ _ _ _ _ us hl => match us, hl with | [_], _ => rfl)
    is_jobs := .hk (c0.def_ 25 (d := He.dfd ("is_jobs", none) "is_jobs" "is_jobs" s_is_jobs) rfl) (He.glo_ok X G (c0.fact 45 (f := .glo "is_jobs") rfl)) (fun _ _ _ _ _ _ us hl => match us, hl with | [_], _ => rfl)
    check_jobs := .hk (c0.def_ 26 (d := He.dfd ("check_jobs", none) "check_jobs" "check_jobs" s_check_jobs) rfl) (He.glo_ok X G (c0.fact 46 (f := .glo "check_jobs") rfl)) (fun _ _ _ _ _ _ us hl => match us, hl with | [_], _ => rfl)
    job_tube := .hk (c0.def_ 27 (d := He.dfd ("job_tube", none) "job_tube" "job_tube" s_job_tube) rfl) (He.glo_ok X G (c0.fact 47 (f := .glo "job_tube") rfl)) (fun _ _ _ _ _ _ us hl => match us, hl with | [_], _ => rfl)
    speeds := .hk (c0.def_ 28 (d := He.dfd ("speeds", none) "speeds" "speeds" s_speeds) rfl) (He.glo_ok X G (c0.fact 48 (f := .glo "speeds") rfl)) (fun _ _ _ _ _ _ us hl => match us, hl with | [_], _ => rfl)
    parts := .hk (c0.def_ 29 (d := He.dfd ("parts", none) "parts" "parts" s_parts) rfl) (He.glo_ok X G (c0.fact 49 (f := .glo "parts") rfl)) (fun _ _ _ _ _ _ us hl => match us, hl with | [_], _ => rfl)
    _law_mixed := .hk (c0.def_ 30 (d := He.dfd ("_law_mixed", none) "_law_mixed" "_law_mixed" s__law_mixed) rfl) (He.glo_ok X G (c0.fact 50 (f := .glo "_law_mixed") rfl)) (fun _ _ _ _ _ _ us hl => match us, hl with | [_], _ => rfl)
    _law_pack := .hk (c0.def_ 31 (d := He.dfd ("_law_pack", none) "_law_pack" "_law_pack" s__law_pack) rfl) (He.glo_ok X G (c0.fact 51 (f := .glo "_law_pack") rfl)) (fun _ _ _ _ _ _ us hl => match us, hl with | [_, _], _ => rfl)
    _law_take := .hk (c0.def_ 32 (d := He.dfd ("_law_take", none) "_law_take" "_law_take" s__law_take) rfl) (He.glo_ok X G (c0.fact 52 (f := .glo "_law_take") rfl)) (fun _ _ _ _ _ _ us hl => match us, hl with | [_, _], _ => rfl)
    _law_low := .hk (c0.def_ 33 (d := He.dfd ("_law_low", none) "_law_low" "_law_low" s__law_low) rfl) (He.glo_ok X G (c0.fact 53 (f := .glo "_law_low") rfl)) (fun _ _ _ _ _ _ us hl => match us, hl with | [_, _], _ => rfl)
    _law_less_by := .hk (c0.def_ 34 (d := He.dfd ("_law_less_by", none) "_law_less_by" "_law_less_by" s__law_less_by) rfl) (He.glo_ok X G (c0.fact 54 (f := .glo "_law_less_by") rfl)) (fun _ _ _ _ _ _ us hl => match us, hl with | [_, _], _ => rfl)
    _law_by := .hk (c1.def_ 0 (d := He.dfd ("_law_by", none) "_law_by" "_law_by" s__law_by) rfl) (He.glo_ok X G (c1.fact 0 (f := .glo "_law_by") rfl)) (fun _ _ _ _ _ _ us hl => match us, hl with | [_, _], _ => rfl)
    _law_jobs := .hk (c1.def_ 1 (d := He.dfd ("_law_jobs", none) "_law_jobs" "_law_jobs" s__law_jobs) rfl) (He.glo_ok X G (c1.fact 1 (f := .glo "_law_jobs") rfl)) (fun _ _ _ _ _ _ us hl => match us, hl with | [_, _], _ => rfl)
    _law_later := .hk (c1.def_ 2 (d := He.dfd ("_law_later", none) "_law_later" "_law_later" s__law_later) rfl) (He.glo_ok X G (c1.fact 2 (f := .glo "_law_later") rfl)) (fun _ _ _ _ _ _ us hl => match us, hl with | [_, _], _ => rfl)
    _law_greater := .hk (c1.def_ 3 (d := He.dfd ("_law_greater", none) "_law_greater" "_law_greater" s__law_greater) rfl) (He.glo_ok X G (c1.fact 3 (f := .glo "_law_greater") rfl)) (fun _ _ _ _ _ _ us hl => match us, hl with | [_, _], _ => rfl)
    _law_parted := .hk (c1.def_ 4 (d := He.dfd ("_law_parted", none) "_law_parted" "_law_parted" s__law_parted) rfl) (He.glo_ok X G (c1.fact 4 (f := .glo "_law_parted") rfl)) (fun _ _ _ _ _ _ us hl => match us, hl with | [_, _, _], _ => rfl)
    _law_turned := .hk (c1.def_ 5 (d := He.dfd ("_law_turned", none) "_law_turned" "_law_turned" s__law_turned) rfl) (He.glo_ok X G (c1.fact 5 (f := .glo "_law_turned") rfl)) (fun _ _ _ _ _ _ us hl => match us, hl with | [_], _ => rfl)
    _law_apart_right := .hk (c1.def_ 6 (d := He.dfd ("_law_apart_right", none) "_law_apart_right" "_law_apart_right" s__law_apart_right) rfl) (He.glo_ok X G (c1.fact 6 (f := .glo "_law_apart_right") rfl)) (fun _ _ _ _ _ _ us hl => match us, hl with | [_], _ => rfl)
    law := .hk (c1.def_ 7 (d := He.dfd ("law", none) "law" "law" s_law) rfl) (He.glo_ok X G (c1.fact 7 (f := .glo "law") rfl)) (fun _ _ _ _ _ _ us hl => match us, hl with | [_], _ => rfl)
    LAST_HOUR := u_0
    MOST_JOBS := u_1
    MOST_PLACES := u_2
    NOUGHT := u_3
    }⟩
end Gn
namespace Gn
open PySem PySem.Spec PyProof.Rows L2 DL
def spLaw (K : PySem.W.Frag) : Sp := fun vs H Q _ => ∃ (a : Addr) (ns : List Int), vs = [.ref a] ∧ SqL K H a (ns.map V.int) ∧ ns.length ≤ 63 ∧ (∀ z ∈ ns, Builtin.Int.intBits z ≤ 1048576) ∧ ∀ H', Q (.bl true) H'
theorem law_mk {l : PySem.W.OpenLaw} {w : World} {K : PySem.W.Frag} {mg : Str → Option Value} {fa : Addr} (N : Nonempty (Tx K mg)) (hfa : mg "law" = some (.ref fa)) :
    ∃ fd : FuncData, (∀ (s : Shared) (v : Value), BindsTo s fd ⟨[v], []⟩ [("_law_script", v)]) ∧ ∀ base : Heap, K.In base → base.Ns mainGlobals mg → FnOk l.prog w K mg base CX0 11 fa fd ["_law_script"] (spLaw K) := by
  obtain ⟨T⟩ := N
  have e := hfa.symm.trans T.law.g
  cases e
  refine ⟨T.law.d, fun s v => ?_, fun base _ _ => (ok_law T).imp fun vs H Q E q => ?_⟩
  · obtain ⟨oc, od, kV, doc, pm, an, cdv, ct, osl, e, _, _⟩ := T.law.F.ex
    rw [e]
    exact .of_eq rfl
  · obtain ⟨a, ns, rfl, hS, hl, hb, q⟩ := q
    exact spP_law (law_true ns hl hb) hS q
end Gn
open PySem PySem.W PySem.Calls PyProof.Rows
set_option maxHeartbeats 0 in
theorem PySem.Challenge.cw_levelcord_k68_whole_jobs_moved_and_joine_holds : PySem.Challenge.rw_levelcord_k68_whole_jobs_moved_and_joine.Holds := by
  w_on; o_law
  refine HandSHeadRun.head_any (r := OpenLaw.row PySem.Challenge.rw_levelcord_k68_whole_jobs_moved_and_joine) (q := view (OpenLaw.row PySem.Challenge.rw_levelcord_k68_whole_jobs_moved_and_joine).prog [55]) (H := DL.hookX Gn.hCks) (ob := DL.obX Gn.hCks) (M := 20000) (loose := Gn.hNames) (d := HandSHeadRun.topDef (OpenLaw.row PySem.Challenge.rw_levelcord_k68_whole_jobs_moved_and_joine).prog 55) (kwd := []) DL.obX_eq
    (by kernel_rfl) (fun s => by kernel_rfl) Gn.hRun (by kernel_rfl) (by kernel_rfl) (by kernel_rfl) (by rfl) (by first | assumption | decide +kernel) (by decide +kernel) ⟨rfl, rfl, rfl, rfl, rfl, by decide +kernel⟩ ?hw ?hc
  case hw => w_witness2
  case hc =>
    refine DL.walk_ofX (l := PySem.Challenge.rw_levelcord_k68_whole_jobs_moved_and_joine) (n := 63) (k := 11) (x := "_law_script") (CX := L2.CX0) rfl (by decide) (by kernel_rfl) ⟨rfl, by decide, by decide⟩ ?F (fun _ _ _ _ z => z)
    intro w mg fa h Y G hmg0
    obtain ⟨K, KX, c⟩ := Y
    have hmg : mg ("law" : PySem.Str) = some (.ref fa) := by
      have e : (HandSHeadRun.topDef (OpenLaw.row PySem.Challenge.rw_levelcord_k68_whole_jobs_moved_and_joine).prog 55).name = ("law" : PySem.Str) := by kernel_rfl
      rw [← e]
      exact hmg0
    obtain ⟨fd, hb, hF⟩ := Gn.law_mk (l := PySem.Challenge.rw_levelcord_k68_whole_jobs_moved_and_joine) (w := w) (Gn.all_mk KX G c) hmg
    exact ⟨K, fd, Gn.spLaw K, KX, hb, fun H a ns hl hz _ hS => ⟨a, ns, rfl, hS, hl, hz, fun _ => rfl⟩, hF⟩
