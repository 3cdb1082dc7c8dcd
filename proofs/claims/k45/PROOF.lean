import PyProof.Rows.All
import Wide.All
import OpenK.AllK
import Wide.FinOn
import PySem.Challenge.RW_effectonce_k45_whole_plans_and_orders
import HandS.ForMost
import HandS.Walk
import HandS.DictComp
import HandS.Lambda
import HandS.NoneIn
import HandS.SortKw
import HandS.ListItems
import HandS.IsInst
import HandS.Zip
import HandS.Style
import KE.GoesEnum
import KE.KDictPairs
import HandS.DictTup
import KE.SortData
import KE.SortKeyHeap
import KE.KSortKey
import KE.KLam
import KE.DatumOrd
import HandS.Head0
import HandS.Head1
import HandS.Head2
import HandS.HeadEnd
import HandS.HeadHook1
import HandS.HeadHook2
import HandS.HeadHook3
import HandS.HeadHook4
import HandS.HeadWalk
import HandS.EndTab
set_option linter.all false
set_option maxHeartbeats 1000000
namespace K45
open PySem (Str)

/-! ## plain data -/
structure Job where
  name : Str
  needs : List Str
  uses : List (Str × Int)
  len : Int
  start : Int
  urg : Int
structure Bk where
  things : List (Str × Int)
  jobs : List Job
def lk {β : Type} (l : List (Str × β)) (n : Str) : Option β := (l.find? fun p => decide (p.1 = n)).map (·.2)
def Bk.names (B : Bk) : List Str := B.jobs.map Job.name
def Bk.job (B : Bk) (n : Str) : Option Job := B.jobs.find? fun j => decide (j.name = n)
def Bk.needs (B : Bk) (n : Str) : List Str := ((B.job n).map Job.needs).getD []
def Bk.len (B : Bk) (n : Str) : Int := ((B.job n).map Job.len).getD 0
def Bk.start (B : Bk) (n : Str) : Int := ((B.job n).map Job.start).getD 0
def Bk.uses (B : Bk) (n : Str) : List (Str × Int) := ((B.job n).map Job.uses).getD []
def Bk.useOf (B : Bk) (n th : Str) : Int := (lk (B.uses n) th).getD 0

section
variable {β : Type}
theorem lk_mem {l : List (Str × β)} {n : Str} {v : β} (h : lk l n = some v) : (n, v) ∈ l := by
  unfold lk at h
  cases e : l.find? fun p => decide (p.1 = n) with
  | none => rw [e] at h; cases h
  | some p =>
    rw [e] at h
    have hm := List.mem_of_find?_eq_some e
    have hp := List.find?_some e
    have h1 : p.1 = n := by simpa using hp
    have h2 : p.2 = v := by simpa using h
    rw [← h1, ← h2]
    exact hm
theorem lk_none {l : List (Str × β)} {n : Str} : lk l n = none ↔ n ∉ l.map (·.1) := by
  unfold lk
  rw [Option.map_eq_none_iff, List.find?_eq_none]
  constructor
  · intro h m
    obtain ⟨p, hp, e⟩ := List.mem_map.mp m
    exact h p hp (by simp [e])
  · intro h p hp e
    have e : p.1 = n := by simpa using e
    exact h (List.mem_map.mpr ⟨p, hp, e⟩)
theorem lk_isSome {l : List (Str × β)} {n : Str} (h : n ∈ l.map (·.1)) : ∃ v, lk l n = some v := by
  cases e : lk l n with
  | none => exact absurd h (lk_none.mp e)
  | some v => exact ⟨v, rfl⟩
theorem lk_key {l : List (Str × β)} {n : Str} {v : β} (h : lk l n = some v) : n ∈ l.map (·.1) := List.mem_map.mpr ⟨_, lk_mem h, rfl⟩
theorem lk_cons {l : List (Str × β)} {p : Str × β} {n : Str} : lk (p :: l) n = if p.1 = n then some p.2 else lk l n := by
  unfold lk
  rw [List.find?_cons]
  by_cases h : p.1 = n
  · simp [h]
  · simp [h]
theorem lk_of_mem {n : Str} {v : β} : ∀ {l : List (Str × β)}, (l.map (·.1)).Nodup → (n, v) ∈ l → lk l n = some v
  | [], _, h => by cases h
  | p :: l, nd, h => by
    rw [List.map_cons, List.nodup_cons] at nd
    rw [lk_cons]
    rcases List.mem_cons.mp h with e | h
    · rw [← e]; simp
    · have hne : p.1 ≠ n := fun e => nd.1 (by rw [e]; exact List.mem_map.mpr ⟨_, h, rfl⟩)
      rw [if_neg hne]
      exact lk_of_mem nd.2 h
theorem lk_append {l r : List (Str × β)} {n : Str} : lk (l ++ r) n = (lk l n).or (lk r n) := by
  induction l with
  | nil => simp [lk]
  | cons p l ih =>
    rw [List.cons_append, lk_cons, lk_cons]
    by_cases h : p.1 = n
    · simp [h]
    · rw [if_neg h, if_neg h]; exact ih
theorem lk_snoc {l : List (Str × β)} {n k : Str} {v : β} (h : n ∉ l.map (·.1)) : lk (l ++ [(n, v)]) k = if k = n then some v else lk l k := by
  rw [lk_append, lk_cons]
  by_cases e : k = n
  · subst e
    rw [lk_none.mpr h]; simp
  · rw [if_neg (fun z => e z.symm), if_neg e]
    cases lk l k <;> rfl
theorem lk_perm {l r : List (Str × β)} {n : Str} (nd : (l.map (·.1)).Nodup) (p : l.Perm r) : lk l n = lk r n := by
  have nd2 : (r.map (·.1)).Nodup := (p.map _).nodup_iff.mp nd
  cases e : lk r n with
  | none =>
    have := lk_none.mp e
    exact lk_none.mpr fun m => this ((p.map _).mem_iff.mp m)
  | some v => exact lk_of_mem nd (p.mem_iff.mpr (lk_mem e))
end

theorem job_mem {B : Bk} {n : Str} {j : Job} (h : B.job n = some j) : j ∈ B.jobs ∧ j.name = n := by
  have h1 := List.mem_of_find?_eq_some h
  have h2 := List.find?_some h
  exact ⟨h1, by simpa using h2⟩
theorem job_none {B : Bk} {n : Str} : B.job n = none ↔ n ∉ B.names := by
  unfold Bk.job Bk.names
  rw [List.find?_eq_none]
  constructor
  · intro h m
    obtain ⟨p, hp, e⟩ := List.mem_map.mp m
    exact h p hp (by simp [e])
  · intro h p hp e
    have e : p.name = n := by simpa using e
    exact h (List.mem_map.mpr ⟨p, hp, e⟩)
theorem job_some {B : Bk} {n : Str} (h : n ∈ B.names) : ∃ j, B.job n = some j := by
  cases e : B.job n with
  | none => exact absurd h (job_none.mp e)
  | some v => exact ⟨v, rfl⟩
theorem job_of_mem {B : Bk} (nd : B.names.Nodup) {j : Job} (h : j ∈ B.jobs) : B.job j.name = some j := by
  obtain ⟨i, hi⟩ := job_some (B := B) (n := j.name) (List.mem_map.mpr ⟨j, h, rfl⟩)
  obtain ⟨m, e⟩ := job_mem hi
  have : i = j := by
    have key : ∀ (l : List Job), (l.map Job.name).Nodup → ∀ a ∈ l, ∀ b ∈ l, a.name = b.name → a = b := by
      intro l
      induction l with
      | nil => intro _ a ha; cases ha
      | cons x l ih =>
        intro nd a ha b hb e
        rw [List.map_cons, List.nodup_cons] at nd
        rcases List.mem_cons.mp ha with ea | ha2
        · rcases List.mem_cons.mp hb with eb | hb2
          · rw [ea, eb]
          · exact absurd (List.mem_map.mpr ⟨b, hb2, by rw [← e, ea]⟩) nd.1
        · rcases List.mem_cons.mp hb with eb | hb2
          · exact absurd (List.mem_map.mpr ⟨a, ha2, by rw [e, eb]⟩) nd.1
          · exact ih nd.2 a ha2 b hb2 e
    exact key _ nd _ m _ h e
  rw [hi, this]
section
variable {B : Bk} {n : Str} {j : Job}
theorem needs_at (h : B.job n = some j) : B.needs n = j.needs := by unfold Bk.needs; rw [h]; rfl
theorem len_at (h : B.job n = some j) : B.len n = j.len := by unfold Bk.len; rw [h]; rfl
theorem start_at (h : B.job n = some j) : B.start n = j.start := by unfold Bk.start; rw [h]; rfl
theorem uses_at (h : B.job n = some j) : B.uses n = j.uses := by unfold Bk.uses; rw [h]; rfl
end

/-- what a drawn book keeps -/
structure Right (B : Bk) : Prop where
  nd : B.names.Nodup
  ne : B.jobs ≠ []
  few : B.jobs.length ≤ 8
  mem : ∀ j ∈ B.jobs, ∀ k ∈ j.needs, k ∈ B.names
  acyc : ∃ d : Str → Nat, ∀ j ∈ B.jobs, ∀ k ∈ j.needs, d k < d j.name
  nfew : ∀ j ∈ B.jobs, j.needs.length ≤ 8
  ufew : ∀ j ∈ B.jobs, j.uses.length ≤ 8
  und : ∀ j ∈ B.jobs, (j.uses.map (·.1)).Nodup
  uok : ∀ j ∈ B.jobs, ∀ q ∈ j.uses, 0 ≤ q.2 ∧ ∃ u, lk B.things q.1 = some u ∧ q.2 ≤ u
  tnd : (B.things.map (·.1)).Nodup
  tfew : B.things.length ≤ 8
  lpos : ∀ j ∈ B.jobs, 1 ≤ j.len
  snn : ∀ j ∈ B.jobs, 0 ≤ j.start

section
variable {B : Bk} (R : Right B) {n k : Str}
include R
theorem Right.lenPos (h : n ∈ B.names) : 1 ≤ B.len n := by
  obtain ⟨j, e⟩ := job_some h
  rw [len_at e]; exact R.lpos j (job_mem e).1
theorem Right.startNn (h : n ∈ B.names) : 0 ≤ B.start n := by
  obtain ⟨j, e⟩ := job_some h
  rw [start_at e]; exact R.snn j (job_mem e).1
theorem Right.needMem (h : k ∈ B.needs n) : k ∈ B.names := by
  cases e : B.job n with
  | none => unfold Bk.needs at h; rw [e] at h; cases h
  | some j => rw [needs_at e] at h; exact R.mem j (job_mem e).1 k h
theorem Right.needOf (h : k ∈ B.needs n) : n ∈ B.names := by
  cases e : B.job n with
  | none => unfold Bk.needs at h; rw [e] at h; cases h
  | some j => exact List.mem_map.mpr ⟨j, (job_mem e).1, (job_mem e).2⟩
theorem Right.deep : ∃ d : Str → Nat, ∀ n, ∀ k ∈ B.needs n, d k < d n := by
  obtain ⟨d, hd⟩ := R.acyc
  refine ⟨d, fun n k h => ?_⟩
  cases e : B.job n with
  | none => unfold Bk.needs at h; rw [e] at h; cases h
  | some j =>
    rw [needs_at e] at h
    have := hd j (job_mem e).1 k h
    rw [(job_mem e).2] at this; exact this
theorem Right.useNn (th : Str) : 0 ≤ B.useOf n th := by
  unfold Bk.useOf
  cases e : lk (B.uses n) th with
  | none => exact Int.le_refl 0
  | some v =>
    cases ej : B.job n with
    | none => unfold Bk.uses at e; rw [ej] at e; cases e
    | some j => rw [uses_at ej] at e; exact (R.uok j (job_mem ej).1 _ (lk_mem e)).1
/-- among what is not done there is one whose needs all are -/
theorem Right.ready (done : Str → Prop) (dec : ∀ k, done k ∨ ¬ done k) (h : n ∈ B.names) (hn : ¬ done n) : ∃ k ∈ B.names, ¬ done k ∧ ∀ i ∈ B.needs k, done i := by
  obtain ⟨d, hd⟩ := R.deep
  have key : ∀ (b : Nat) (n : Str), d n < b → n ∈ B.names → ¬ done n → ∃ k ∈ B.names, ¬ done k ∧ ∀ i ∈ B.needs k, done i := by
    intro b
    induction b with
    | zero => intro n h; omega
    | succ b ih =>
      intro n hb hn hd'
      by_cases hh : ∀ i ∈ B.needs n, done i
      · exact ⟨n, hn, hd', hh⟩
      · obtain ⟨i, hi⟩ := Classical.not_forall.mp hh
        obtain ⟨hi1, hi2⟩ := Classical.not_imp.mp hi
        exact ih i (by have := hd n i hi1; omega) (R.needMem hi1) hi2
  exact key (d n + 1) n (by omega) h hn
end

/-! ## who runs -/
def rnb (B : Bk) (t : Int) (p : Str × Int) : Bool := decide (p.2 ≤ t ∧ t < p.2 + B.len p.1)
def run (B : Bk) (bs : List (Str × Int)) (t : Int) : List Str := (bs.filter (rnb B t)).map (·.1)
def used (B : Bk) (ns : List Str) (th : Str) : Int := (ns.map fun n => B.useOf n th).sum
structure Cap (B : Bk) (m : Nat) (bs : List (Str × Int)) (t : Int) : Prop where
  cnt : (run B bs t).length ≤ m
  un : ∀ q ∈ B.things, used B (run B bs t) q.1 ≤ q.2
structure Good (B : Bk) (m : Nat) (bs : List (Str × Int)) : Prop where
  nd : (bs.map (·.1)).Nodup
  sub : ∀ p ∈ bs, p.1 ∈ B.names
  st : ∀ p ∈ bs, B.start p.1 ≤ p.2
  nds : ∀ p ∈ bs, ∀ k ∈ B.needs p.1, ∃ t, (k, t) ∈ bs ∧ t + B.len k ≤ p.2
  cap : ∀ t, Cap B m bs t
structure Fits (B : Bk) (m : Nat) (bs : List (Str × Int)) (n : Str) (t : Int) : Prop where
  cnt : (run B bs t).length < m
  un : ∀ q ∈ B.uses n, ∀ u, lk B.things q.1 = some u → used B (run B bs t) q.1 + q.2 ≤ u

theorem run_nil (B : Bk) (t : Int) : run B [] t = [] := rfl
theorem run_snoc (B : Bk) (bs : List (Str × Int)) (p : Str × Int) (t : Int) : run B (bs ++ [p]) t = run B bs t ++ (if rnb B t p = true then [p.1] else []) := by
  unfold run
  rw [List.filter_append, List.map_append]
  congr 1
  by_cases h : rnb B t p = true
  · simp [h]
  · simp [h]
theorem used_append (B : Bk) (xs ys : List Str) (th : Str) : used B (xs ++ ys) th = used B xs th + used B ys th := by
  unfold used; rw [List.map_append, List.sum_append]
theorem used_nil (B : Bk) (th : Str) : used B [] th = 0 := rfl
theorem used_one (B : Bk) (n th : Str) : used B [n] th = B.useOf n th := by
  unfold used; simp
theorem run_le {B : Bk} : ∀ {bs : List (Str × Int)} {t u : Int}, (∀ p ∈ bs, rnb B t p = true → rnb B u p = true) → (run B bs t).length ≤ (run B bs u).length
  | [], _, _, _ => Nat.le_refl _
  | p :: bs, t, u, h => by
    have ih := run_le (bs := bs) (t := t) (u := u) fun p hp => h p (List.mem_cons_of_mem _ hp)
    have hp := h p List.mem_cons_self
    unfold run at ih ⊢
    rw [List.filter_cons, List.filter_cons]
    by_cases h1 : rnb B t p = true
    · rw [if_pos h1, if_pos (hp h1), List.map_cons, List.map_cons, List.length_cons, List.length_cons]
      omega
    · rw [if_neg h1]
      by_cases h2 : rnb B u p = true
      · rw [if_pos h2, List.map_cons, List.length_cons]; omega
      · rw [if_neg h2]; exact ih
theorem used_le {B : Bk} (R : Right B) (th : Str) : ∀ {bs : List (Str × Int)} {t u : Int}, (∀ p ∈ bs, rnb B t p = true → rnb B u p = true) → used B (run B bs t) th ≤ used B (run B bs u) th
  | [], _, _, _ => Int.le_refl _
  | p :: bs, t, u, h => by
    have ih := used_le R th (bs := bs) (t := t) (u := u) fun p hp => h p (List.mem_cons_of_mem _ hp)
    have hp := h p List.mem_cons_self
    have nn := R.useNn (n := p.1) th
    unfold run used at ih ⊢
    rw [List.filter_cons, List.filter_cons]
    by_cases h1 : rnb B t p = true
    · rw [if_pos h1, if_pos (hp h1)]
      simp only [List.map_cons, List.sum_cons]
      omega
    · rw [if_neg h1]
      by_cases h2 : rnb B u p = true
      · rw [if_pos h2]
        simp only [List.map_cons, List.sum_cons]; omega
      · rw [if_neg h2]; exact ih

/-- a job is set among others where it fits -/
theorem Good.step {B : Bk} (R : Right B) {m : Nat} {bs : List (Str × Int)} (g : Good B m bs) {n : Str} {T : Int} (hn : n ∈ B.names) (nn : n ∉ bs.map (·.1)) (hs : B.start n ≤ T)
    (hnd : ∀ k ∈ B.needs n, ∃ t, (k, t) ∈ bs ∧ t + B.len k ≤ T)
    (hf : ∀ t, T ≤ t → t < T + B.len n → ∃ u, Fits B m bs n u ∧ ∀ p ∈ bs, rnb B t p = true → rnb B u p = true) : Good B m (bs ++ [(n, T)]) := by
  refine ⟨?_, fun p hp => ?_, fun p hp => ?_, fun p hp k hk => ?_, fun t => ?_⟩
  · rw [List.map_append, List.nodup_append]
    refine ⟨g.nd, by simp, fun a ha b hb => ?_⟩
    have : b = n := by simpa using hb
    subst this
    intro e; subst e; exact nn ha
  · rcases List.mem_append.mp hp with h | h
    · exact g.sub p h
    · have : p = (n, T) := by simpa using h
      subst this; exact hn
  · rcases List.mem_append.mp hp with h | h
    · exact g.st p h
    · have : p = (n, T) := by simpa using h
      subst this; exact hs
  · rcases List.mem_append.mp hp with h | h
    · obtain ⟨t, h1, h2⟩ := g.nds p h k hk
      exact ⟨t, List.mem_append_left _ h1, h2⟩
    · have : p = (n, T) := by simpa using h
      subst this
      obtain ⟨t, h1, h2⟩ := hnd k hk
      exact ⟨t, List.mem_append_left _ h1, h2⟩
  · have c := g.cap t
    by_cases hr : rnb B t (n, T) = true
    · have hr' : T ≤ t ∧ t < T + B.len n := by simpa [rnb] using hr
      obtain ⟨u, fit, sub⟩ := hf t hr'.1 hr'.2
      refine ⟨?_, fun q hq => ?_⟩
      · rw [run_snoc, if_pos hr, List.length_append, List.length_singleton]
        have := run_le sub
        have := fit.cnt
        omega
      · rw [run_snoc, if_pos hr, used_append, used_one]
        show used B (run B bs t) q.1 + B.useOf n q.1 ≤ q.2
        cases e : lk (B.uses n) q.1 with
        | none =>
          have e0 : B.useOf n q.1 = 0 := by unfold Bk.useOf; rw [e]; rfl
          rw [e0]; have := c.un q hq; omega
        | some v =>
          have e0 : B.useOf n q.1 = v := by unfold Bk.useOf; rw [e]; rfl
          have h1 := fit.un (q.1, v) (lk_mem e) q.2 (lk_of_mem R.tnd hq)
          have h2 := used_le R q.1 sub
          rw [e0]
          have h1 : used B (run B bs u) q.1 + v ≤ q.2 := h1
          omega
    · refine ⟨?_, fun q hq => ?_⟩
      · rw [run_snoc, if_neg hr, List.append_nil]; exact c.cnt
      · rw [run_snoc, if_neg hr, List.append_nil]; exact c.un q hq
theorem good_nil (B : Bk) (m : Nat) (R : Right B) (hth : ∀ q ∈ B.things, 0 ≤ q.2) : Good B m [] :=
  ⟨List.nodup_nil, fun _ h => (nomatch h), fun _ h => (nomatch h), fun _ h => (nomatch h), fun t => ⟨Nat.zero_le _, fun q hq => (by rw [run_nil, used_nil]; exact hth q hq)⟩⟩
/-- .. at a time that no begin is behind (the list plan) -/
theorem Good.stepList {B : Bk} (R : Right B) {m : Nat} {bs : List (Str × Int)} (g : Good B m bs) {n : Str} {T : Int} (hn : n ∈ B.names) (nn : n ∉ bs.map (·.1)) (hs : B.start n ≤ T)
    (hnd : ∀ k ∈ B.needs n, ∃ t, (k, t) ∈ bs ∧ t + B.len k ≤ T) (late : ∀ p ∈ bs, p.2 ≤ T) (f : Fits B m bs n T) : Good B m (bs ++ [(n, T)]) :=
  g.step R hn nn hs hnd fun t h1 h2 => ⟨T, f, fun p hp h => by
    have h : p.2 ≤ t ∧ t < p.2 + B.len p.1 := by simpa [rnb] using h
    have := late p hp
    simp only [rnb, decide_eq_true_eq]
    omega⟩
theorem last_begin (T : Int) : ∀ (bs : List (Str × Int)) (t : Int), T ≤ t → ∃ u, T ≤ u ∧ u ≤ t ∧ (u = T ∨ ∃ p ∈ bs, p.2 = u) ∧ ∀ p ∈ bs, p.2 ≤ t → p.2 ≤ u
  | [], t, h => ⟨T, Int.le_refl _, h, .inl rfl, fun _ h => by cases h⟩
  | p :: bs, t, h => by
    obtain ⟨u, h1, h2, h3, h4⟩ := last_begin T bs t h
    by_cases hp : p.2 ≤ t ∧ u < p.2
    · refine ⟨p.2, by omega, hp.1, .inr ⟨p, List.mem_cons_self, rfl⟩, fun q hq hqt => ?_⟩
      rcases List.mem_cons.mp hq with rfl | hq
      · exact Int.le_refl _
      · have := h4 q hq hqt; omega
    · refine ⟨u, h1, h2, ?_, fun q hq hqt => ?_⟩
      · rcases h3 with e | ⟨q, hq, e⟩
        · exact .inl e
        · exact .inr ⟨q, List.mem_cons_of_mem _ hq, e⟩
      · rcases List.mem_cons.mp hq with rfl | hq
        · omega
        · exact h4 q hq hqt
/-- .. at a time where it fits through its length (the turn plan) -/
structure FitsAt (B : Bk) (m : Nat) (bs : List (Str × Int)) (n : Str) (T : Int) : Prop where
  here : Fits B m bs n T
  later : ∀ p ∈ bs, T < p.2 → p.2 < T + B.len n → Fits B m bs n p.2
theorem Good.stepTurn {B : Bk} (R : Right B) {m : Nat} {bs : List (Str × Int)} (g : Good B m bs) {n : Str} {T : Int} (hn : n ∈ B.names) (nn : n ∉ bs.map (·.1)) (hs : B.start n ≤ T)
    (hnd : ∀ k ∈ B.needs n, ∃ t, (k, t) ∈ bs ∧ t + B.len k ≤ T) (f : FitsAt B m bs n T) : Good B m (bs ++ [(n, T)]) :=
  g.step R hn nn hs hnd fun t h1 h2 => by
    obtain ⟨u, u1, u2, u3, u4⟩ := last_begin T bs t h1
    refine ⟨u, ?_, fun p hp h => ?_⟩
    · rcases u3 with e | ⟨p, hp, e⟩
      · rw [e]; exact f.here
      · by_cases hu : u = T
        · rw [hu]; exact f.here
        · rw [← e]; exact f.later p hp (by omega) (by omega)
    · have h : p.2 ≤ t ∧ t < p.2 + B.len p.1 := by simpa [rnb] using h
      have := u4 p hp h.1
      simp only [rnb, decide_eq_true_eq]
      omega
theorem run_none {B : Bk} {bs : List (Str × Int)} {T : Int} (h : ∀ p ∈ bs, p.2 + B.len p.1 ≤ T) : run B bs T = [] := by
  unfold run
  have : bs.filter (rnb B T) = [] := List.filter_eq_nil_iff.mpr fun p hp e => by
    have e : p.2 ≤ T ∧ T < p.2 + B.len p.1 := by simpa [rnb] using e
    have := h p hp
    omega
  rw [this]; rfl
theorem fits_idle {B : Bk} (R : Right B) {m : Nat} (hm : 1 ≤ m) {bs : List (Str × Int)} {n : Str} {T : Int} (hn : n ∈ B.names) (h : run B bs T = []) : Fits B m bs n T := by
  refine ⟨by rw [h]; exact hm, fun q hq u hu => ?_⟩
  obtain ⟨j, e⟩ := job_some hn
  rw [uses_at e] at hq
  obtain ⟨_, u', h1, h2⟩ := R.uok j (job_mem e).1 q hq
  rw [hu] at h1; cases h1
  rw [h, used_nil]; omega
/-- the list plan goes on: where nothing runs and all may start, something begins -/
theorem list_progress {B : Bk} (R : Right B) {m : Nat} (hm : 1 ≤ m) {bs : List (Str × Int)} {T : Int} (hend : ∀ p ∈ bs, p.2 + B.len p.1 ≤ T) (hst : ∀ n ∈ B.names, B.start n ≤ T) {n : Str} (hn : n ∈ B.names) (nn : n ∉ bs.map (·.1)) :
    ∃ k ∈ B.names, k ∉ bs.map (·.1) ∧ B.start k ≤ T ∧ (∀ i ∈ B.needs k, ∃ t, (i, t) ∈ bs ∧ t + B.len i ≤ T) ∧ Fits B m bs k T := by
  obtain ⟨k, h1, h2, h3⟩ := R.ready (fun k => k ∈ bs.map (·.1)) (fun k => Classical.em _) hn nn
  refine ⟨k, h1, h2, hst k h1, fun i hi => ?_, fits_idle R hm h1 (run_none hend)⟩
  obtain ⟨p, hp, e⟩ := List.mem_map.mp (h3 i hi)
  refine ⟨p.2, by rw [← e]; exact hp, by rw [← e]; exact hend p hp⟩
/-- the turn plan: the greatest end fits -/
theorem turn_progress {B : Bk} (R : Right B) {m : Nat} (hm : 1 ≤ m) {bs : List (Str × Int)} (sub : ∀ p ∈ bs, p.1 ∈ B.names) {n : Str} (hn : n ∈ B.names) (T : Int) :
    ∃ t, T ≤ t ∧ (t = T ∨ (T < t ∧ ∃ p ∈ bs, p.2 + B.len p.1 = t)) ∧ FitsAt B m bs n t := by
  have key : ∃ t, T ≤ t ∧ (t = T ∨ (T < t ∧ ∃ p ∈ bs, p.2 + B.len p.1 = t)) ∧ ∀ p ∈ bs, p.2 + B.len p.1 ≤ t := by
    clear sub
    induction bs with
    | nil => exact ⟨T, Int.le_refl _, .inl rfl, fun _ h => by cases h⟩
    | cons p bs ih =>
      obtain ⟨t, h1, h2, h3⟩ := ih
      by_cases hp : p.2 + B.len p.1 ≤ t
      · refine ⟨t, h1, ?_, fun q hq => ?_⟩
        · rcases h2 with e | ⟨e1, q, hq, e⟩
          · exact .inl e
          · exact .inr ⟨e1, q, List.mem_cons_of_mem _ hq, e⟩
        · rcases List.mem_cons.mp hq with rfl | hq
          · exact hp
          · exact h3 q hq
      · refine ⟨p.2 + B.len p.1, by omega, .inr ⟨by omega, p, List.mem_cons_self, rfl⟩, fun q hq => ?_⟩
        rcases List.mem_cons.mp hq with rfl | hq
        · exact Int.le_refl _
        · have := h3 q hq; omega
  obtain ⟨t, h1, h2, h3⟩ := key
  refine ⟨t, h1, h2, fits_idle R hm hn (run_none h3), fun p hp h4 h5 => ?_⟩
  have := h3 p hp
  have := R.lenPos (sub p hp)
  omega
end K45
set_option linter.all false
set_option maxHeartbeats 1000000
namespace K45
open PySem (Str)

/-! ## small facts of lists -/
theorem nodup_sub_len {α : Type} [DecidableEq α] : ∀ {xs ys : List α}, xs.Nodup → (∀ x ∈ xs, x ∈ ys) → xs.length ≤ ys.length
  | [], _, _, _ => Nat.zero_le _
  | x :: xs, ys, nd, h => by
    rw [List.nodup_cons] at nd
    have hx : x ∈ ys := h x List.mem_cons_self
    have ih := nodup_sub_len (xs := xs) (ys := ys.erase x) nd.2 fun y hy => by
      have hne : y ≠ x := fun e => nd.1 (e ▸ hy)
      exact (List.mem_erase_of_ne hne).mpr (h y (List.mem_cons_of_mem _ hy))
    have hl := List.length_erase_of_mem hx
    have hp : 0 < ys.length := List.length_pos_of_mem hx
    rw [List.length_cons]; omega
theorem nodup_full {α : Type} [DecidableEq α] {xs ys : List α} (nd : xs.Nodup) (h : ∀ x ∈ xs, x ∈ ys) (hl : ys.length ≤ xs.length) (y : α) (hy : y ∈ ys) : y ∈ xs := by
  apply Classical.byContradiction
  intro hn
  have := nodup_sub_len (xs := y :: xs) (ys := ys) (List.nodup_cons.mpr ⟨hn, nd⟩) fun x hx => by
    rcases List.mem_cons.mp hx with rfl | hx
    · exact hy
    · exact h x hx
  rw [List.length_cons] at this; omega
theorem perm_of_nodup {α : Type} [DecidableEq α] : ∀ {xs ys : List α}, xs.Nodup → ys.Nodup → (∀ a, a ∈ xs ↔ a ∈ ys) → xs.Perm ys
  | [], ys, _, _, h => by
    cases ys with
    | nil => exact List.Perm.refl _
    | cons y ys => exact absurd ((h y).mpr List.mem_cons_self) (by simp)
  | x :: xs, ys, n1, n2, h => by
    rw [List.nodup_cons] at n1
    have hx : x ∈ ys := (h x).mp List.mem_cons_self
    have ih := perm_of_nodup (xs := xs) (ys := ys.erase x) n1.2 (n2.erase x) fun a => by
      constructor
      · intro ha
        have hne : a ≠ x := fun e => n1.1 (e ▸ ha)
        exact (List.mem_erase_of_ne hne).mpr ((h a).mp (List.mem_cons_of_mem _ ha))
      · intro ha
        have hne : a ≠ x := fun e => by
          rw [e] at ha
          exact (n2.not_mem_erase) ha
        rcases List.mem_cons.mp ((h a).mpr ((List.mem_erase_of_ne hne).mp ha)) with e | ha
        · exact absurd e hne
        · exact ha
    exact (ih.cons x).trans (List.perm_cons_erase hx).symm
theorem perm_sum {xs ys : List Int} (p : xs.Perm ys) : xs.sum = ys.sum := by
  induction p with
  | nil => rfl
  | cons x _ ih => rw [List.sum_cons, List.sum_cons, ih]
  | swap x y l => simp only [List.sum_cons]; omega
  | trans _ _ h1 h2 => rw [h1, h2]
theorem used_perm {B : Bk} {xs ys : List Str} (p : xs.Perm ys) (th : Str) : used B xs th = used B ys th := perm_sum (p.map _)
theorem run_perm {B : Bk} {bs cs : List (Str × Int)} (p : bs.Perm cs) (t : Int) : (run B bs t).Perm (run B cs t) := (p.filter _).map _

/-! ## the list plan's rounds -/
def laters (B : Bk) (bs : List (Str × Int)) (T : Int) : List Int := ((bs.map fun p => p.2 + B.len p.1) ++ B.jobs.map Job.start).filter fun x => decide (x > T)
def meas (B : Bk) (bs : List (Str × Int)) (T : Int) : Nat := (B.jobs.length - bs.length) * (2 * B.jobs.length + 1) + (laters B bs T).length
theorem laters_len (B : Bk) (bs : List (Str × Int)) (T : Int) : (laters B bs T).length ≤ bs.length + B.jobs.length := by
  unfold laters
  refine Nat.le_trans (List.length_filter_le _ _) ?_
  simp
theorem filter_lt (xs : List Int) {T U : Int} (h : U ∈ xs.filter fun x => decide (x > T)) : (xs.filter fun x => decide (x > U)).length < (xs.filter fun x => decide (x > T)).length := by
  have hTU : U > T := by simpa using (List.mem_filter.mp h).2
  have hm := (List.mem_filter.mp h).1
  clear h
  have le : ∀ ys : List Int, (ys.filter fun x => decide (x > U)).length ≤ (ys.filter fun x => decide (x > T)).length := by
    intro ys
    induction ys with
    | nil => exact Nat.le_refl _
    | cons y ys ih =>
      rw [List.filter_cons, List.filter_cons]
      by_cases h1 : y > U
      · have h2 : y > T := by omega
        simp only [h1, h2, decide_true, if_true, List.length_cons]; omega
      · by_cases h2 : y > T
        · simp only [h1, h2, decide_true, decide_false, if_true, List.length_cons]
          simp only [Bool.false_eq_true, if_false]; omega
        · simp only [h1, h2, decide_false, Bool.false_eq_true, if_false]; exact ih
  induction xs with
  | nil => cases hm
  | cons y ys ih =>
    rw [List.filter_cons, List.filter_cons]
    rcases List.mem_cons.mp hm with e | hm
    · subst e
      have h1 : ¬ U > U := by omega
      have := le ys
      simp only [h1, hTU, decide_true, decide_false, if_true, Bool.false_eq_true, if_false, List.length_cons]
      omega
    · have := ih hm
      by_cases h1 : y > U
      · have h2 : y > T := by omega
        simp only [h1, h2, decide_true, if_true, List.length_cons]; omega
      · by_cases h2 : y > T
        · simp only [h1, h2, decide_true, decide_false, if_true, Bool.false_eq_true, if_false, List.length_cons]; omega
        · simp only [h1, h2, decide_false, Bool.false_eq_true, if_false]; exact this
theorem good_len {B : Bk} {m : Nat} {bs : List (Str × Int)} (g : Good B m bs) : bs.length ≤ B.jobs.length := by
  have := nodup_sub_len g.nd (ys := B.names) fun x hx => by
    obtain ⟨p, hp, e⟩ := List.mem_map.mp hx
    rw [← e]; exact g.sub p hp
  simpa [Bk.names] using this
theorem meas_new {B : Bk} {m : Nat} {bs cs : List (Str × Int)} {T U : Int} (g : Good B m cs) (h : bs.length < cs.length) : meas B cs U < meas B bs T := by
  have h1 := good_len g
  have h2 := laters_len B cs U
  unfold meas
  generalize ha : B.jobs.length - bs.length = a
  generalize hb : B.jobs.length - cs.length = b
  have hab : b + 1 ≤ a := by omega
  have := Nat.mul_le_mul_right (2 * B.jobs.length + 1) hab
  rw [Nat.add_mul, Nat.one_mul] at this
  omega
theorem meas_same {B : Bk} {bs : List (Str × Int)} {T U : Int} (h : U ∈ laters B bs T) : meas B bs U < meas B bs T := by
  unfold meas
  exact Nat.add_lt_add_left (filter_lt _ h) _
/-- what may begin at T, as the program asks it -/
structure May (B : Bk) (m : Nat) (bs : List (Str × Int)) (n : Str) (T : Int) : Prop where
  st : B.start n ≤ T
  nds : ∀ i ∈ B.needs n, ∃ t, (i, t) ∈ bs ∧ t + B.len i ≤ T
  fits : Fits B m bs n T
/-- where a round begins nothing, there is a later time -/
theorem round_later {B : Bk} (R : Right B) {m : Nat} (hm : 1 ≤ m) {bs : List (Str × Int)} {T : Int} (g : Good B m bs) (hno : ∀ n ∈ B.names, n ∉ bs.map (·.1) → ¬ May B m bs n T) (hl : bs.length < B.jobs.length) : laters B bs T ≠ [] := by
  intro e
  have none : ∀ x ∈ (bs.map fun p => p.2 + B.len p.1) ++ B.jobs.map Job.start, x ≤ T := fun x hx => by
    apply Classical.byContradiction
    intro h
    have : x ∈ laters B bs T := List.mem_filter.mpr ⟨hx, by simp; omega⟩
    rw [e] at this; cases this
  obtain ⟨n, hn, nn⟩ : ∃ n ∈ B.names, n ∉ bs.map (·.1) := by
    apply Classical.byContradiction
    intro h
    have all : ∀ n ∈ B.names, n ∈ bs.map (·.1) := fun n hn => Classical.byContradiction fun z => h ⟨n, hn, z⟩
    have := nodup_sub_len R.nd all
    simp [Bk.names] at this
    omega
  obtain ⟨k, h1, h2, h3, h4, h5⟩ := list_progress R hm (bs := bs) (T := T) (fun p hp => none _ (List.mem_append_left _ (List.mem_map.mpr ⟨p, hp, rfl⟩))) (fun n hn => by
    obtain ⟨j, hj⟩ := job_some hn
    rw [start_at hj]
    exact none _ (List.mem_append_right _ (List.mem_map.mpr ⟨j, (job_mem hj).1, rfl⟩))) hn nn
  exact hno k h1 h2 ⟨h3, h4, h5⟩

/-! ## machines dealt -/
/-- an entry: name, machine, begin -/
abbrev Ent := Str × Int × Int
def bn (e : Ent) : Str × Int := (e.1, e.2.2)
def place (free : List Int) (b : Int) : Nat := (free.takeWhile fun x => decide (b < x)).length
theorem place_le (free : List Int) (b : Int) : place free b ≤ free.length := by
  unfold place
  exact (List.takeWhile_sublist _).length_le
theorem place_at : ∀ (free : List Int) (b : Int) (x : Int), free[place free b]? = some x → x ≤ b
  | [], b, x, h => by simp [place] at h
  | y :: ys, b, x, h => by
    unfold place at h
    rw [List.takeWhile_cons] at h
    by_cases hy : b < y
    · simp only [hy, decide_true, if_true, List.length_cons, List.getElem?_cons_succ] at h
      exact place_at ys b x h
    · simp only [hy, decide_false, Bool.false_eq_true, if_false, List.length_nil, List.getElem?_cons_zero] at h
      cases h; omega
theorem place_before : ∀ (free : List Int) (b : Int) (k : Nat) (x : Int), k < place free b → free[k]? = some x → b < x
  | [], b, k, x, h, _ => by simp [place] at h
  | y :: ys, b, k, x, h, e => by
    unfold place at h
    rw [List.takeWhile_cons] at h
    by_cases hy : b < y
    · simp only [hy, decide_true, if_true, List.length_cons] at h
      cases k with
      | zero => simp at e; rw [← e]; exact hy
      | succ k => rw [List.getElem?_cons_succ] at e; exact place_before ys b k x (by unfold place; omega) e
    · simp [hy] at h
def freed (free : List Int) (k : Nat) (e : Int) : List Int := free.take k ++ [e] ++ free.drop (k + 1)
theorem freed_len (free : List Int) (k : Nat) (e : Int) (h : k ≤ free.length) : (freed free k e).length = if k < free.length then free.length else free.length + 1 := by
  unfold freed
  simp only [List.length_append, List.length_take, List.length_drop, List.length_singleton]
  split <;> omega
theorem freed_at (free : List Int) (k : Nat) (e : Int) (h : k ≤ free.length) (i : Nat) : (freed free k e)[i]? = if i = k then some e else free[i]? := by
  unfold freed
  rw [List.append_assoc, List.getElem?_append, List.length_take]
  by_cases h1 : i < min k free.length
  · rw [if_pos h1, List.getElem?_take, if_pos (by omega), if_neg (by omega)]
  · rw [if_neg h1]
    have e0 : min k free.length = k := by omega
    rw [e0] at h1 ⊢
    by_cases h2 : i = k
    · subst h2; simp
    · rw [if_neg h2]
      have : i - k = (i - k - 1) + 1 := by omega
      rw [this]
      show (free.drop (k + 1))[i - k - 1]? = free[i]?
      rw [List.getElem?_drop]
      congr 1; omega
/-- between two jobs dealt: what the free list tells of the entries -/
structure Dealt (B : Bk) (m : Nat) (free : List Int) (acc : List Ent) : Prop where
  last : ∀ (k : Nat) (x : Int), free[k]? = some x → ∃ e ∈ acc, e.2.1 = (k : Int) ∧ e.2.2 + B.len e.1 = x
  held : ∀ e ∈ acc, ∃ (k : Nat) (x : Int), e.2.1 = (k : Int) ∧ free[k]? = some x ∧ e.2.2 + B.len e.1 ≤ x
  mach : ∀ e ∈ acc, 0 ≤ e.2.1 ∧ e.2.1 < m
  apart : acc.Pairwise fun e f => e.2.1 = f.2.1 → e.2.2 + B.len e.1 ≤ f.2.2
theorem dealt_nil (B : Bk) (m : Nat) : Dealt B m [] [] := ⟨fun k x h => (by simp at h), fun e h => (nomatch h), fun e h => (nomatch h), List.Pairwise.nil⟩
/-- a machine for each number below n: so many entries -/
theorem count_mach {P : Ent → Bool} : ∀ (n : Nat) (acc : List Ent), (∀ k, k < n → ∃ e ∈ acc, e.2.1 = (k : Int) ∧ P e = true) → n ≤ (acc.filter P).length := by
  intro n acc h
  have := nodup_sub_len (xs := (List.range n).map fun k : Nat => (k : Int)) (ys := (acc.filter P).map fun e => e.2.1) (by
    rw [List.nodup_iff_pairwise_ne]
    rw [List.pairwise_map]
    exact List.nodup_range.imp fun {a b} hab e => hab (by omega)) fun x hx => by
      obtain ⟨k, hk, e⟩ := List.mem_map.mp hx
      obtain ⟨f, hf, e1, e2⟩ := h k (List.mem_range.mp hk)
      exact List.mem_map.mpr ⟨f, List.mem_filter.mpr ⟨hf, e2⟩, by rw [e1, ← e]⟩
  simpa using this
theorem Dealt.step {B : Bk} {m : Nat} {free : List Int} {acc : List Ent} (d : Dealt B m free acc) {b : Int} {n : Str} (hlen : 1 ≤ B.len n) (early : ∀ e ∈ acc, e.2.2 ≤ b)
    (cap : ((acc.map bn).filter (rnb B b)).length + 1 ≤ m) : Dealt B m (freed free (place free b) (b + B.len n)) (acc ++ [(n, (place free b : Int), b)]) := by
  have hpl := place_le free b
  refine ⟨fun k x h => ?_, fun e he => ?_, fun e he => ?_, ?_⟩
  · rw [freed_at _ _ _ hpl] at h
    by_cases hk : k = place free b
    · rw [if_pos hk] at h
      refine ⟨_, List.mem_append_right _ (List.mem_singleton.mpr rfl), by rw [hk], by simpa using h⟩
    · rw [if_neg hk] at h
      obtain ⟨e, he, h1, h2⟩ := d.last k x h
      exact ⟨e, List.mem_append_left _ he, h1, h2⟩
  · rcases List.mem_append.mp he with he | he
    · obtain ⟨k, x, h1, h2, h3⟩ := d.held e he
      by_cases hk : k = place free b
      · refine ⟨k, b + B.len n, h1, by rw [freed_at _ _ _ hpl, if_pos hk], ?_⟩
        have := place_at free b x (by rw [← hk]; exact h2)
        omega
      · exact ⟨k, x, h1, by rw [freed_at _ _ _ hpl, if_neg hk]; exact h2, h3⟩
    · have he : e = (n, (place free b : Int), b) := by simpa using he
      subst he
      exact ⟨place free b, b + B.len n, rfl, by rw [freed_at _ _ _ hpl, if_pos rfl], Int.le_refl _⟩
  · rcases List.mem_append.mp he with he | he
    · exact d.mach e he
    · have he : e = (n, (place free b : Int), b) := by simpa using he
      subst he
      refine ⟨Int.natCast_nonneg _, ?_⟩
      show (place free b : Int) < (m : Int)
      have hc : place free b ≤ (acc.filter fun e => rnb B b (bn e)).length := count_mach _ _ fun k hk => by
        obtain ⟨x, hx⟩ : ∃ x, free[k]? = some x := ⟨_, List.getElem?_eq_getElem (by omega)⟩
        obtain ⟨e, he, h1, h2⟩ := d.last k x hx
        refine ⟨e, he, h1, ?_⟩
        have h3 := place_before free b k x hk hx
        have h4 := early e he
        exact decide_eq_true ⟨h4, by show b < e.2.2 + B.len e.1; omega⟩
      rw [List.filter_map, List.length_map] at cap
      have : (acc.filter (rnb B b ∘ bn)).length = (acc.filter fun e => rnb B b (bn e)).length := rfl
      omega
  · rw [List.pairwise_append]
    refine ⟨d.apart, List.pairwise_singleton _ _, fun e he f hf hm => ?_⟩
    have hf : f = (n, (place free b : Int), b) := by simpa using hf
    subst hf
    obtain ⟨k, x, h1, h2, h3⟩ := d.held e he
    have hk : k = place free b := by
      have hm : e.2.1 = (place free b : Int) := hm
      omega
    have := place_at free b x (by rw [← hk]; exact h2)
    show e.2.2 + B.len e.1 ≤ b
    omega

/-! ## a right plan, as the law looks at it -/
structure PlanOk (B : Bk) (m : Nat) (pl : List Ent) : Prop where
  nm : pl.map (·.1) = B.names
  mach : ∀ e ∈ pl, 0 ≤ e.2.1 ∧ e.2.1 < m
  st : ∀ e ∈ pl, B.start e.1 ≤ e.2.2
  nds : ∀ e ∈ pl, ∀ k ∈ B.needs e.1, ∃ f ∈ pl, f.1 = k ∧ f.2.2 + B.len k ≤ e.2.2
  sep : ∀ e ∈ pl, ∀ f ∈ pl, e.1 ≠ f.1 → e.2.1 = f.2.1 → ∀ t, rnb B t (bn e) = true → rnb B t (bn f) = true → False
  un : ∀ t, ∀ q ∈ B.things, used B (run B (pl.map bn) t) q.1 ≤ q.2
theorem plan_of {B : Bk} (R : Right B) {m : Nat} {bs : List (Str × Int)} (g : Good B m bs) (all : ∀ n ∈ B.names, n ∈ bs.map (·.1)) {free : List Int} {acc pl : List Ent} (d : Dealt B m free acc) (hacc : (acc.map bn).Perm bs) (hnm : pl.map (·.1) = B.names) (hpl : ∀ e ∈ pl, e ∈ acc) : PlanOk B m pl := by
  have ndp : (pl.map (·.1)).Nodup := by rw [hnm]; exact R.nd
  have e1 : (pl.map bn).map (·.1) = pl.map (·.1) := by rw [List.map_map]; rfl
  have ndb : (pl.map bn).Nodup := by
    have : ((pl.map bn).map (·.1)).Nodup := by rw [e1]; exact ndp
    exact (List.pairwise_map.mp this).imp fun {a b} h e => h (by rw [e])
  have nbs : bs.Nodup := (List.pairwise_map.mp g.nd).imp fun {a b} h e => h (by rw [e])
  have sub : ∀ x ∈ pl.map bn, x ∈ bs := fun x hx => by
    obtain ⟨e, he, rfl⟩ := List.mem_map.mp hx
    exact hacc.mem_iff.mp (List.mem_map.mpr ⟨e, hpl e he, rfl⟩)
  have pb : (pl.map bn).Perm bs := perm_of_nodup ndb nbs fun a => ⟨sub a, fun ha => nodup_full ndb sub (by
    have h1 : (pl.map bn).length = B.names.length := by rw [← hnm, List.length_map, List.length_map]
    have h2 := good_len g
    rw [h1]; simpa [Bk.names] using h2) a ha⟩
  refine ⟨hnm, fun e he => d.mach e (hpl e he), fun e he => g.st (bn e) (sub _ (List.mem_map.mpr ⟨e, he, rfl⟩)), fun e he k hk => ?_, fun e he f hf hne hm t h1 h2 => ?_, fun t q hq => ?_⟩
  · obtain ⟨t, ht, hle⟩ := g.nds (bn e) (sub _ (List.mem_map.mpr ⟨e, he, rfl⟩)) k hk
    obtain ⟨f, hf, ef⟩ := List.mem_map.mp (pb.mem_iff.mpr ht)
    have f1 : f.1 = k := congrArg Prod.fst ef
    have f2 : f.2.2 = t := congrArg Prod.snd ef
    exact ⟨f, hf, f1, by rw [f2]; exact hle⟩
  · have key : ∀ (l : List Ent), (l.Pairwise fun e f => e.2.1 = f.2.1 → e.2.2 + B.len e.1 ≤ f.2.2) → ∀ e ∈ l, ∀ f ∈ l, e ≠ f → e.2.1 = f.2.1 → e.2.2 + B.len e.1 ≤ f.2.2 ∨ f.2.2 + B.len f.1 ≤ e.2.2 := by
      intro l
      induction l with
      | nil => intro _ e he; cases he
      | cons x l ih =>
        intro hp e he f hf hne hm
        rw [List.pairwise_cons] at hp
        rcases List.mem_cons.mp he with e1 | he2
        · rcases List.mem_cons.mp hf with f1 | hf2
          · exact absurd (e1.trans f1.symm) hne
          · left; rw [e1]; exact hp.1 f hf2 (by rw [← e1]; exact hm)
        · rcases List.mem_cons.mp hf with f1 | hf2
          · right; rw [f1]; exact hp.1 e he2 (by rw [← f1]; exact hm.symm)
          · exact ih hp.2 e he2 f hf2 hne hm
    have h1 : e.2.2 ≤ t ∧ t < e.2.2 + B.len e.1 := of_decide_eq_true h1
    have h2 : f.2.2 ≤ t ∧ t < f.2.2 + B.len f.1 := of_decide_eq_true h2
    rcases key acc d.apart e (hpl e he) f (hpl f hf) (fun z => hne (by rw [z])) hm with h | h <;> omega
  · rw [used_perm (run_perm pb t)]
    exact (g.cap t).un q hq
end K45
set_option linter.all false
set_option maxHeartbeats 1000000
namespace K45
open PySem (Str)

/-! ## ranks: only one table is right -/
structure RkAt (fv : Str → Option Int) (needs : List Str) (r : Int) : Prop where
  nn : 0 ≤ r
  up : ∀ k ∈ needs, ∃ v, fv k = some v ∧ v + 1 ≤ r
  at_ : r = 0 ∨ ∃ k ∈ needs, ∃ v, fv k = some v ∧ v + 1 = r
structure RkPart (B : Bk) (f : List (Str × Int)) : Prop where
  nd : (f.map (·.1)).Nodup
  sub : ∀ p ∈ f, p.1 ∈ B.names
  at_ : ∀ p ∈ f, RkAt (lk f) (B.needs p.1) p.2
structure RkOk (B : Bk) (f : List (Str × Int)) : Prop extends RkPart B f where
  all : ∀ n ∈ B.names, n ∈ f.map (·.1)
theorem rk_nil (B : Bk) : RkPart B [] := ⟨List.nodup_nil, fun _ h => (nomatch h), fun _ h => (nomatch h)⟩
theorem RkAt.mono {f g : Str → Option Int} {needs : List Str} {r : Int} (h : RkAt f needs r) (k : ∀ n v, f n = some v → g n = some v) : RkAt g needs r :=
  ⟨h.nn, fun n hn => let ⟨v, a, b⟩ := h.up n hn; ⟨v, k n v a, b⟩, h.at_.imp id fun ⟨n, hn, v, a, b⟩ => ⟨n, hn, v, k n v a, b⟩⟩
theorem RkPart.step {B : Bk} {f : List (Str × Int)} (h : RkPart B f) {n : Str} {r : Int} (hn : n ∈ B.names) (nn : n ∉ f.map (·.1)) (hr : RkAt (lk f) (B.needs n) r) : RkPart B (f ++ [(n, r)]) := by
  have k : ∀ m v, lk f m = some v → lk (f ++ [(n, r)]) m = some v := fun m v e => by
    rw [lk_snoc nn, if_neg fun z => nn (by rw [← z]; exact lk_key e)]; exact e
  refine ⟨?_, fun p hp => ?_, fun p hp => ?_⟩
  · rw [List.map_append, List.nodup_append]
    refine ⟨h.nd, by simp, fun a ha b hb => ?_⟩
    have : b = n := by simpa using hb
    subst this
    intro e; subst e; exact nn ha
  · rcases List.mem_append.mp hp with h1 | h1
    · exact h.sub p h1
    · have : p = (n, r) := by simpa using h1
      subst this; exact hn
  · rcases List.mem_append.mp hp with h1 | h1
    · exact (h.at_ p h1).mono k
    · have : p = (n, r) := by simpa using h1
      subst this; exact hr.mono k
theorem rk_unique {B : Bk} (R : Right B) {f g : List (Str × Int)} (hf : RkOk B f) (hg : RkOk B g) {n : Str} (hn : n ∈ B.names) : lk f n = lk g n := by
  obtain ⟨d, hd⟩ := R.deep
  have key : ∀ (b : Nat) (n : Str), d n < b → n ∈ B.names → lk f n = lk g n := by
    intro b
    induction b with
    | zero => intro n h; omega
    | succ b ih =>
      intro n hb hn
      obtain ⟨v, hv⟩ := lk_isSome (hf.all n hn)
      obtain ⟨w, hw⟩ := lk_isSome (hg.all n hn)
      have a := hf.at_ _ (lk_mem hv)
      have c := hg.at_ _ (lk_mem hw)
      have a : RkAt (lk f) (B.needs n) v := a
      have c : RkAt (lk g) (B.needs n) w := c
      have e : ∀ k ∈ B.needs n, lk f k = lk g k := fun k hk => ih k (by have := hd n k hk; omega) (R.needMem hk)
      have h1 : v ≤ w := by
        rcases a.at_ with z | ⟨k, hk, x, hx, hxe⟩
        · rw [z]; exact c.nn
        · obtain ⟨y, hy, hyl⟩ := c.up k hk
          rw [← e k hk, hx] at hy; cases hy; omega
      have h2 : w ≤ v := by
        rcases c.at_ with z | ⟨k, hk, x, hx, hxe⟩
        · rw [z]; exact a.nn
        · obtain ⟨y, hy, hyl⟩ := a.up k hk
          rw [e k hk, hx] at hy; cases hy; omega
      rw [hv, hw, Int.le_antisymm h1 h2]
  exact key (d n + 1) n (by omega) hn
theorem rk_less {B : Bk} {f : List (Str × Int)} (h : RkOk B f) {n k : Str} (hk : k ∈ B.needs n) {r s : Int} (hr : lk f n = some r) (hs : lk f k = some s) : s < r := by
  have a : RkAt (lk f) (B.needs n) r := h.at_ _ (lk_mem hr)
  obtain ⟨v, hv, hl⟩ := a.up k hk
  rw [hs] at hv; cases hv; omega
theorem rk_len {B : Bk} (R : Right B) {f : List (Str × Int)} (h : RkOk B f) : (f.map (·.1)).Perm B.names :=
  perm_of_nodup h.nd R.nd fun a => ⟨fun ha => by obtain ⟨p, hp, e⟩ := List.mem_map.mp ha; rw [← e]; exact h.sub p hp, h.all a⟩

/-! ## orders -/
structure OrdOk (B : Bk) (o : List Str) : Prop where
  perm : o.Perm B.names
  ahead : ∀ (i : Nat) (n : Str), o[i]? = some n → ∀ k ∈ B.needs n, k ∈ o.take i
/-- by a number that is less for what is needed -/
theorem ord_by {B : Bk} (R : Right B) {o : List Str} (hp : o.Perm B.names) (v : Str → Int) (hs : o.Pairwise fun a b => v a ≤ v b) (hv : ∀ n ∈ B.names, ∀ k ∈ B.needs n, v k < v n) : OrdOk B o := by
  refine ⟨hp, fun i n hi k hk => ?_⟩
  have hn : n ∈ B.names := hp.mem_iff.mp (List.mem_of_getElem? hi)
  have hk' : k ∈ o := hp.mem_iff.mpr (R.needMem hk)
  obtain ⟨j, hj⟩ := List.mem_iff_getElem?.mp hk'
  have hlt : j < i := by
    apply Classical.byContradiction
    intro h
    have h1 := hv n hn k hk
    obtain ⟨hjl, ej⟩ := List.getElem?_eq_some_iff.mp hj
    obtain ⟨hil, ei⟩ := List.getElem?_eq_some_iff.mp hi
    by_cases e : i = j
    · subst e
      rw [hi] at hj; cases hj; omega
    · have := List.pairwise_iff_getElem.mp hs i j hil hjl (by omega)
      rw [ei, ej] at this
      omega
  exact List.mem_iff_getElem?.mpr ⟨j, by rw [List.getElem?_take, if_pos hlt]; exact hj⟩
/-- one more, its needs all there -/
theorem ord_snoc_step {B : Bk} {o : List Str} (h : ∀ (i : Nat) (n : Str), o[i]? = some n → ∀ k ∈ B.needs n, k ∈ o.take i) {n : Str} (hn : ∀ k ∈ B.needs n, k ∈ o) :
    ∀ (i : Nat) (a : Str), (o ++ [n])[i]? = some a → ∀ k ∈ B.needs a, k ∈ (o ++ [n]).take i := by
  intro i a hi k hk
  by_cases hlt : i < o.length
  · rw [List.getElem?_append_left hlt] at hi
    rw [List.take_append_of_le_length (by omega)]
    exact h i a hi k hk
  · by_cases he : i = o.length
    · subst he
      rw [List.getElem?_append_right (Nat.le_refl _)] at hi
      have : n = a := by simpa using hi
      subst this
      rw [List.take_append_of_le_length (Nat.le_refl _), List.take_length]
      exact hn k hk
    · have : (o ++ [n])[i]? = none := List.getElem?_eq_none (by simp; omega)
      rw [this] at hi; cases hi

/-! ## what hangs on what; ways -/
inductive Hangs (B : Bk) : Str → Str → Prop
  | one {n k : Str} : k ∈ B.needs n → Hangs B n k
  | more {n k i : Str} : Hangs B n k → i ∈ B.needs k → Hangs B n i
inductive Way (B : Bk) : Str → Str → List Str → Prop
  | here (a : Str) : Way B a a [a]
  | step {a x : Str} {c : List Str} (k : Str) : Way B a x c → k ∈ B.needs x → Way B a k (c ++ [k])
theorem Way.ne {B : Bk} {a b : Str} {c : List Str} (w : Way B a b c) : c ≠ [] := by
  cases w with
  | here => simp
  | step k w h => simp
theorem Way.last {B : Bk} {a b : Str} {c : List Str} (w : Way B a b c) : c.getLast? = some b := by
  cases w with
  | here => rfl
  | step k w h => simp
theorem Way.head {B : Bk} {a b : Str} {c : List Str} (w : Way B a b c) : ∃ r, c = a :: r := by
  induction w with
  | here => exact ⟨[], rfl⟩
  | step k w h ih => obtain ⟨r, e⟩ := ih; exact ⟨r ++ [k], by rw [e]; rfl⟩
theorem Way.mem {B : Bk} (R : Right B) {a b : Str} {c : List Str} (w : Way B a b c) (ha : a ∈ B.names) : ∀ x ∈ c, x ∈ B.names := by
  induction w with
  | here =>
    intro x hx
    have : x = a := by simpa using hx
    rw [this]; exact ha
  | step k w h ih =>
    intro x hx
    rcases List.mem_append.mp hx with hx | hx
    · exact ih x hx
    · have : x = k := by simpa using hx
      rw [this]; exact R.needMem h
/-- no job begins ahead of the lengths below it on a way -/
theorem Way.begins {B : Bk} {m : Nat} {pl : List Ent} (P : PlanOk B m pl) (R : Right B) (beg : Str → Int) (hb : ∀ e ∈ pl, beg e.1 = e.2.2) {a b : Str} {c : List Str} (w : Way B a b c) (ha : a ∈ B.names) :
    beg b + ((c.drop 1).map B.len).sum ≤ beg a := by
  induction w with
  | here => simp
  | step k w h ih =>
    rename_i x c
    have hx : x ∈ B.names := w.mem R ha x (List.mem_of_getLast? w.last)
    obtain ⟨e, he, e1⟩ := List.mem_map.mp (by rw [P.nm]; exact hx : x ∈ pl.map (·.1))
    obtain ⟨f, hf, f1, f2⟩ := P.nds e he k (by rw [e1]; exact h)
    obtain ⟨r, er⟩ := w.head
    have h1 := hb e he
    have h2 := hb f hf
    rw [e1] at h1
    rw [f1] at h2
    rw [er] at ih ⊢
    simp only [List.cons_append, List.drop_succ_cons, List.drop_zero, List.map_append, List.sum_append, List.map_cons, List.map_nil, List.sum_cons, List.sum_nil] at ih ⊢
    omega
/-- the dict of steps down to other, as it stands between two rounds -/
structure Steps (B : Bk) (other : Str) (f : List (Str × Int)) (line : List Str) : Prop where
  nd : (f.map (·.1)).Nodup
  sub : ∀ p ∈ f, p.1 ∈ B.names
  zero : other ∈ f.map (·.1)
  num : ∀ p ∈ f, 0 ≤ p.2 ∧ (p.2 = 0 → p.1 = other) ∧ (p.2 ≠ 0 → ∃ k ∈ B.needs p.1, lk f k = some (p.2 - 1))
  done : ∀ n ∈ f.map (·.1), n ∉ line → ∀ e ∈ B.names, n ∈ B.needs e → e ∈ f.map (·.1)
  lin : ∀ n ∈ line, n ∈ f.map (·.1)
  lnd : line.Nodup
theorem Steps.start {B : Bk} {other : Str} (h : other ∈ B.names) : Steps B other [(other, 0)] [other] := by
  refine ⟨by simp, fun p hp => ?_, by simp, fun p hp => ?_, fun n hn nl => ?_, fun n hn => by simpa using hn, by simp⟩
  · have : p = (other, 0) := by simpa using hp
    rw [this]; exact h
  · have : p = (other, 0) := by simpa using hp
    rw [this]
    exact ⟨Int.le_refl _, fun _ => rfl, fun z => absurd rfl z⟩
  · exact absurd hn nl
theorem Steps.all {B : Bk} (R : Right B) {other : Str} {f : List (Str × Int)} (s : Steps B other f []) {n : Str} (h : Hangs B n other) : n ∈ f.map (·.1) := by
  have key : ∀ {a b : Str}, Hangs B a b → b ∈ f.map (·.1) → a ∈ f.map (·.1) := by
    intro a b h
    induction h with
    | one hk => exact fun hb => s.done _ hb (by simp) _ (R.needOf hk) hk
    | more h1 hk ih => exact fun hb => ih (s.done _ hb (by simp) _ (R.needOf hk) hk)
  exact key h s.zero
/-- the program's own round: early ones with a need in line, not found -/
theorem Steps.round {B : Bk} {other : Str} {f : List (Str × Int)} {line late : List Str} {L : Int} (s : Steps B other f line) (hL : ∀ n ∈ line, lk f n = some L) (hnd : late.Nodup)
    (h1 : ∀ e ∈ late, e ∈ B.names ∧ e ∉ f.map (·.1) ∧ ∃ k ∈ line, k ∈ B.needs e) (h2 : ∀ k ∈ line, ∀ e ∈ B.names, k ∈ B.needs e → e ∈ f.map (·.1) ∨ e ∈ late) (h0 : 0 ≤ L) :
    Steps B other (f ++ late.map fun e => (e, L + 1)) late := by
  have keys : (f ++ late.map fun e => (e, L + 1)).map (·.1) = f.map (·.1) ++ late := by
    rw [List.map_append, List.map_map]
    congr 1
    exact (List.map_congr_left fun a _ => rfl).trans (List.map_id late)
  have kp : ∀ k v, lk f k = some v → lk (f ++ late.map fun e => (e, L + 1)) k = some v := fun k v e => by
    rw [lk_append, e]; rfl
  refine ⟨?_, fun p hp => ?_, ?_, fun p hp => ?_, fun n hn nl e he hk => ?_, fun n hn => ?_, hnd⟩
  · rw [keys, List.nodup_append]
    exact ⟨s.nd, hnd, fun a ha b hb e => (h1 b hb).2.1 (e ▸ ha)⟩
  · rcases List.mem_append.mp hp with hp | hp
    · exact s.sub p hp
    · obtain ⟨e, he, rfl⟩ := List.mem_map.mp hp
      exact (h1 e he).1
  · rw [keys]; exact List.mem_append_left _ s.zero
  · rcases List.mem_append.mp hp with hp | hp
    · obtain ⟨a, b, c⟩ := s.num p hp
      exact ⟨a, b, fun z => let ⟨k, hk, e⟩ := c z; ⟨k, hk, kp _ _ e⟩⟩
    · obtain ⟨e, he, rfl⟩ := List.mem_map.mp hp
      refine ⟨by show 0 ≤ L + 1; omega, fun z => absurd (show L + 1 = 0 from z) (by omega), fun _ => ?_⟩
      obtain ⟨k, hk, hn⟩ := (h1 e he).2.2
      refine ⟨k, hn, ?_⟩
      show lk _ k = some (L + 1 - 1)
      rw [kp k L (hL k hk)]; congr 1; omega
  · rw [keys] at hn ⊢
    rcases List.mem_append.mp hn with hn | hn
    · by_cases hl : n ∈ line
      · rcases h2 n hl e he hk with z | z
        · exact List.mem_append_left _ z
        · exact List.mem_append_right _ z
      · exact List.mem_append_left _ (s.done n hn hl e he hk)
    · exact absurd hn nl
  · rw [keys]; exact List.mem_append_right _ hn
theorem Steps.len {B : Bk} {other : Str} {f : List (Str × Int)} {line : List Str} (s : Steps B other f line) : f.length ≤ B.jobs.length := by
  have := nodup_sub_len s.nd (ys := B.names) fun x hx => by
    obtain ⟨p, hp, e⟩ := List.mem_map.mp hx
    rw [← e]; exact s.sub p hp
  simpa [Bk.names] using this
end K45
set_option Elab.async false
set_option linter.all false
set_option maxRecDepth 100000
set_option maxHeartbeats 4000000
namespace K45
open PySem PySem.Spec PyProof.Rows L2

/-! ## the text by places -/
def topS (i : Nat) : Stmt := PySem.Challenge.pw_effectonce_k45_whole_plans_and_orders.main.body.getD i (.Pass ⟨0, 0, 0, 0⟩)

/-! ## heaps -/
/-- tuples stay -/
structure TupS (H H' : Hp) : Prop where
  tup : ∀ b xs, H b = some (.tup xs) → H' b = some (.tup xs)
  frz : ∀ b o u, H b = some (.frz o u) → H' b = some (.frz o u)
theorem TupS.of {H H' : Hp} (s : Same H H') : TupS H H' := ⟨fun b xs h => s b _ h, fun b o u h => s b _ h⟩
theorem TupS.trans {H H1 H2 : Hp} (a : TupS H H1) (b : TupS H1 H2) : TupS H H2 := ⟨fun c xs h => b.tup c xs (a.tup c xs h), fun c o u h => b.frz c o u (a.frz c o u h)⟩
theorem TupS.refl (H : Hp) : TupS H H := ⟨fun _ _ h => h, fun _ _ _ h => h⟩
theorem TupS.ext {H H' : Hp} (e : LamX.ExtN H H') : TupS H H' := ⟨fun b xs h => e b _ h (fun _ z => nomatch z), fun b o u h => e b _ h (fun _ z => nomatch z)⟩
/-- tuples whose object is known (no dict of its own): made by tuple(list), asked by dict(tuple) -/
def TupP (H : Hp) (t : Addr) (xs : List V) : Prop := ∃ o : Obj, H t = some (.frz o (.tup xs)) ∧ o.dict = none
theorem TupP.sq {K : PySem.W.Frag} {H : Hp} {t : Addr} {xs : List V} (h : TupP H t xs) : SqT K H t xs := let ⟨o, e, _⟩ := h; .inl (.inr ⟨o, e⟩)
theorem TupP.mono {H H' : Hp} {t : Addr} {xs : List V} (k : TupS H H') (h : TupP H t xs) : TupP H' t xs := let ⟨o, e, d⟩ := h; ⟨o, k.frz _ _ _ e, d⟩
/-- a tuple, of either sort -/
def TupA (H : Hp) (t : Addr) (xs : List V) : Prop := Rd H t (.tup xs)
theorem TupA.sq {K : PySem.W.Frag} {H : Hp} {t : Addr} {xs : List V} (h : TupA H t xs) : SqT K H t xs := .inl h
theorem TupA.mono {H H' : Hp} {t : Addr} {xs : List V} (k : TupS H H') (h : TupA H t xs) : TupA H' t xs := h.elim (fun e => .inl (k.tup _ _ e)) fun ⟨o, e⟩ => .inr ⟨o, k.frz _ _ _ e⟩
theorem TupA.of {H : Hp} {t : Addr} {xs : List V} (h : H t = some (.tup xs)) : TupA H t xs := .inl h
theorem TupP.any {H : Hp} {t : Addr} {xs : List V} (h : TupP H t xs) : TupA H t xs := let ⟨o, e, _⟩ := h; .inr ⟨o, e⟩
theorem same_new {H : Hp} {p : Addr} {o : HO} (h : H p = none) : Same H (upd H p o) := fun b x e => by
  rw [upd_ne (ne_of_none e h)]; exact e
/-- a new object is written on: what stood stays -/
theorem same_put {H H' : Hp} {p : Addr} {o : HO} (s : Same H H') (h : H p = none) : Same H (upd H' p o) := fun b x e => by
  rw [upd_ne (ne_of_none e h)]; exact s b x e
theorem same_unlock {H H' : Hp} {d : Addr} {u : HO} {od : Obj} (s : Same (upd H d (.frz od u)) H') (h : H d = some u) : Same H (upd H' d u) := fun b x e => by
  by_cases hb : b = d
  · subst hb; rw [upd_same]; rw [h] at e; exact e
  · rw [upd_ne hb]; exact s b x (by rw [upd_ne hb]; exact e)
theorem tupS_put {H : Hp} {d : Addr} {u v : HO} (h : H d = some u) (n1 : ∀ xs, u ≠ .tup xs) (n2 : ∀ o w, u ≠ .frz o w) : TupS H (upd H d v) := by
  refine ⟨fun b xs e => ?_, fun b o w e => ?_⟩
  · rw [upd_ne]; exact e
    intro z; subst z; rw [h] at e; exact n1 _ (Option.some.inj e)
  · rw [upd_ne]; exact e
    intro z; subst z; rw [h] at e; exact n2 _ _ (Option.some.inj e)
theorem tupS_lock {H : Hp} {d : Addr} {kvs : List (Key × V)} {od : Obj} (h : H d = some (.dK kvs)) : TupS H (upd H d (.frz od (.dK kvs))) := tupS_put h (fun _ z => nomatch z) fun _ _ z => nomatch z
theorem rd_same {H H' : Hp} {a : Addr} {u : HO} (s : Same H H') (h : Rd H a u) : Rd H' a u := by
  rcases h with h | ⟨o, h⟩
  · exact .inl (s _ _ h)
  · exact .inr ⟨o, s _ _ h⟩
theorem pair_get {α β : Type} {F : α → β → Prop} : ∀ {xs : List α} {ys : List β}, Paired F xs ys → ∀ {i : Nat} {y : β}, ys[i]? = some y → ∃ x, xs[i]? = some x ∧ F x y
  | _, _, .nil, _, _, h => by simp at h
  | _, _, .cons r t, 0, _, h => by simp at h; subst h; exact ⟨_, rfl, r⟩
  | _, _, .cons _ t, i + 1, y, h => by
    obtain ⟨x, h1, h2⟩ := pair_get (i := i) (y := y) t (by simpa using h)
    exact ⟨x, by simpa using h1, h2⟩
theorem pair_len {α β : Type} {F : α → β → Prop} {xs : List α} {ys : List β} (p : Paired F xs ys) : xs.length = ys.length := Paired.length p
theorem pair_mono {α β : Type} {F G : α → β → Prop} {xs : List α} {ys : List β} (p : Paired F xs ys) (h : ∀ a b, F a b → G a b) : Paired G xs ys := Paired.mapP p h

/-! ## the book in the heap -/
def PrsAt (H : Hp) (t : Addr) (qs : List (Str × Int)) : Prop := ∃ as : List Addr, TupP H t (as.map V.ref) ∧ Paired (fun a q => H a = some (.tup [.str q.1, .int q.2])) as qs
theorem PrsAt.mono {H H' : Hp} (k : TupS H H') {t : Addr} {qs : List (Str × Int)} (h : PrsAt H t qs) : PrsAt H' t qs := by
  obtain ⟨as, h1, h2⟩ := h
  exact ⟨as, h1.mono k, pair_mono h2 fun a q e => k.tup _ _ e⟩
structure JobAt (H : Hp) (a : Addr) (j : Job) : Prop where
  ex : ∃ (n u : Addr) (mode cmd tries : V), H a = some (.tup [.str j.name, mode, .ref n, cmd, .ref u, .int j.len, tries, .int j.start, .int j.urg]) ∧ TupA H n (j.needs.map V.str) ∧ PrsAt H u j.uses
theorem JobAt.mono {H H' : Hp} (k : TupS H H') {a : Addr} {j : Job} (h : JobAt H a j) : JobAt H' a j := by
  obtain ⟨n, u, mode, cmd, tries, h1, h2, h3⟩ := h.ex
  exact ⟨n, u, mode, cmd, tries, k.tup _ _ h1, h2.mono k, h3.mono k⟩
structure BookAt (H : Hp) (b : Addr) (B : Bk) : Prop where
  ex : ∃ (t js : Addr) (as : List Addr), H b = some (.tup [.ref t, .ref js]) ∧ PrsAt H t B.things ∧ TupA H js (as.map V.ref) ∧ Paired (JobAt H) as B.jobs
  ok : ∀ n ∈ B.names, (PyData.str n).canLay0 = true
  asc : sortedS B.names = true
  R : Right B
theorem BookAt.mono {H H' : Hp} (k : TupS H H') {b : Addr} {B : Bk} (h : BookAt H b B) : BookAt H' b B := by
  obtain ⟨t, js, as, h1, h2, h3, h4⟩ := h.ex
  exact ⟨⟨t, js, as, k.tup _ _ h1, h2.mono k, h3.mono k, pair_mono h4 fun a j e => e.mono k⟩, h.ok, h.asc, h.R⟩
theorem BookAt.same {H H' : Hp} (k : Same H H') {b : Addr} {B : Bk} (h : BookAt H b B) : BookAt H' b B := h.mono (.of k)
theorem JobAt.same {H H' : Hp} (k : Same H H') {a : Addr} {j : Job} (h : JobAt H a j) : JobAt H' a j := h.mono (.of k)
theorem PrsAt.same {H H' : Hp} (k : Same H H') {t : Addr} {qs : List (Str × Int)} (h : PrsAt H t qs) : PrsAt H' t qs := h.mono (.of k)

/-! ## dicts with texts as keys -/
def dF {β : Type} (f : β → V) (l : List (Str × β)) : List (Key × V) := l.map fun p => (Sum.inr p.1, f p.2)
abbrev dI (l : List (Str × Int)) : List (Key × V) := dF V.int l
section
variable {β : Type} {f : β → V}
theorem dF_cons {p : Str × β} {l : List (Str × β)} : dF f (p :: l) = (Sum.inr p.1, f p.2) :: dF f l := rfl
theorem dF_length {l : List (Str × β)} : (dF f l).length = l.length := List.length_map _
theorem dF_snoc {l : List (Str × β)} {n : Str} {v : β} : dF f (l ++ [(n, v)]) = dF f l ++ [(Sum.inr n, f v)] := by unfold dF; rw [List.map_append]; rfl
theorem valV_dF : ∀ {l : List (Str × β)} {n : Str}, valV (dF f l) (Sum.inr n : Key) = (lk l n).map f
  | [], n => rfl
  | p :: l, n => by
    rw [dF_cons, lk_cons]
    by_cases h : p.1 = n
    · rw [valV_pos (by rw [h]), if_pos h]; rfl
    · rw [valV_neg (fun e => h (Sum.inr.inj e)), if_neg h]; exact valV_dF
theorem putK_dF {l : List (Str × β)} {n : Str} {v : β} (h : n ∉ l.map (·.1)) : putK (dF f l) (Sum.inr n : Key) (f v) = dF f (l ++ [(n, v)]) := by
  rw [putK_new _ (by rw [valV_dF, lk_none.mpr h]; rfl), dF_snoc]
theorem mergeK_dF : ∀ {r l : List (Str × β)}, ((l ++ r).map (·.1)).Nodup → mergeK (dF f l) (dF f r) = dF f (l ++ r)
  | [], l, _ => by rw [List.append_nil]; rfl
  | p :: r, l, h => by
    have hp : p.1 ∉ l.map (·.1) := fun m => by
      rw [List.map_append, List.nodup_append] at h
      exact h.2.2 _ m _ (by simp) rfl
    show mergeK (putK (dF f l) (Sum.inr p.1) (f p.2)) (dF f r) = _
    rw [putK_dF hp]
    have e : l ++ p :: r = (l ++ [(p.1, p.2)]) ++ r := by simp
    rw [e] at h ⊢
    exact mergeK_dF h
theorem merge0_dF {r : List (Str × β)} (h : (r.map (·.1)).Nodup) : mergeK [] (dF f r) = dF f r := mergeK_dF (l := []) h
end

/-! ## comprehensions that change nothing that stood -/
theorem fm_if {α β : Type} (p : α → Bool) (h : α → β) : ∀ xs : List α, xs.filterMap (fun x => if p x = true then some (h x) else none) = (xs.filter p).map h
  | [] => rfl
  | x :: xs => by
    rw [List.filterMap_cons, List.filter_cons]
    by_cases e : p x = true
    · simp only [e, if_true, List.map_cons]; rw [← fm_if p h xs]
    · simp only [e, if_false]; exact fm_if p h xs
theorem fm_all {α β : Type} (h : α → β) : ∀ xs : List α, xs.filterMap (fun x => some (h x)) = xs.map h
  | [] => rfl
  | x :: xs => by rw [List.filterMap_cons, List.map_cons, fm_all h xs]
theorem small {n : Nat} (h : n ≤ 1000) : n < sizeLine := Nat.lt_of_le_of_lt h (by decide)
/-- the new list holds what f gives, item by item; Kt, Kf: what follows a turn -/
theorem lc_std {α : Type} {J : It} {n : Nat} {G : Hp → Prop} {Y : Nat → Hp → V → Hp → Prop} (w : Walk J n G Y) {g : TG} {tt : TT} {te : TE} {vs : List Nat} {σ : L2.St} {H1 : Hp} {D : Addr} {Qd : Hp → Prop} (xs : List α) (f : α → Option V)
    (nD : H1 D = none) (hn : n = xs.length) (hz : xs.length ≤ 1000) (hG : ∀ H, Same H1 H → G H)
    (hs : ∀ (i : Nat) (x : α) (v : V) (H H' : Hp) (Kt : V → Hp → Prop) (Kf : Hp → Prop), xs[i]? = some x → Same H1 H → Y i H v H' → (∀ y H4, f x = some y → Same H H4 → Kt y H4) → (∀ H4, f x = none → Same H H4 → Kf H4) →
      g v (wipe σ vs) H' fun σ2 H2 => wipe σ2 vs = wipe σ vs ∧ tt σ2 H2 fun b H3 => if b = true then te σ2 H3 Kt else Kf H3)
    (hd : ∀ H, Same H1 H → H D = some (.lst (xs.filterMap f)) → Qd H) :
    ∃ W : Nat → Nat → Hp → Prop, (∃ m, W 0 m (upd H1 D (.lst []))) ∧ ∀ i m H, W i m H →
      (J.stop i H ∧ Qd H) ∨ (J.go i H ∧ ∃ Nx : Hp → Prop, (∀ H', Nx H' → ∃ m', m' < m ∧ W (i + 1) m' H') ∧ ∀ x H', J.yld i H x H' → g x (wipe σ vs) H' fun σ2 H2 => wipe σ2 vs = wipe σ vs ∧ tt σ2 H2 fun b H3 =>
        if b = true then te σ2 H3 fun y H4 => ∃ acc, H4 D = some (.lst acc) ∧ acc.length < sizeLine ∧ Nx (upd H4 D (.lst (acc ++ [y]))) else Nx H3) := by
  refine lc_it w (fun i H => Same H1 H ∧ H D = some (.lst ((xs.take i).filterMap f))) ⟨same_new nD, upd_same⟩ (fun i H _ h => hG H h.1) (fun i v H H' hi h y => ?_) fun H h => ?_
  · obtain ⟨s, e⟩ := h
    have hx : i < xs.length := by omega
    have hx' : xs[i]? = some xs[i] := List.getElem?_eq_getElem hx
    have et : xs.take (i + 1) = xs.take i ++ [xs[i]] := by rw [List.take_add_one, hx']; rfl
    refine hs i xs[i] v H H' _ _ hx' s y (fun z H4 hf s4 => ?_) fun H4 hf s4 => ?_
    · refine ⟨_, s4 _ _ e, ?_, ?_, ?_⟩
      · refine small ?_
        have h1 := List.length_filterMap_le f (xs.take i)
        rw [List.length_take] at h1; omega
      · exact same_put (s.trans s4) nD
      · rw [upd_same, et, List.filterMap_append]
        simp [hf]
    · refine ⟨s.trans s4, ?_⟩
      rw [s4 _ _ e, et, List.filterMap_append]
      simp [hf]
  · rw [hn, List.take_length] at h
    exact hd H h.1 h.2

/-! ## a def that keeps its promise, by its name -/
structure Has (P : Program) (w : World) (K : PySem.W.Frag) (mg : Str → Option Value) (base : Heap) (x : Str) (ps : List Str) (k : Nat) (sp : Sp) : Prop where
  ex : ∃ (f : Addr) (fd : FuncData), mg x = some (.ref f) ∧ PySem.W.keepIn K (.ref f) = true ∧ Binds K fd ps [] ∧ FnOk P w K mg base CX0 k f fd ps sp
theorem pe_has {X : Cx} {x : Str} {ps : List Str} {k : Nat} {sp : Sp} {e : Expr} {es : List Expr} {t : TA} {p pos : Pos} (c : Has X.prog X.w X.K X.mg X.base x ps k sp) (hr : Room k X.A) (ha : PA X (e :: es) t) (hg : Gl X x := by rfl)
    (he : starEach (e :: es) X.env = (false, eval e X.env) :: starEach es X.env := by rfl) (hpl : (backTo pos (starEach es X.env)).any (·.1) = false := by rfl) (hd : (x == ("__debug__" : Str)) = false := by decide +kernel) :
    PE X (.Call (.Name x p) (e :: es) [] pos) (tCall sp [] E0 t) := by
  obtain ⟨f, fd, g, kp, b, G⟩ := c.ex
  exact pe_call G hr hg g kp b .nil pass0 ha hd he hpl
/-- what the top leaves of a def -/
structure Def (K : PySem.W.Frag) (mg : Str → Option Value) (x : Str) (st : Stmt) (ps : List Str) : Prop where
  ex : ∃ (f : Addr) (fd : FuncData), Fun K x x st f fd ∧ Binds K fd ps [] ∧ mg x = some (.ref f)
theorem Def.has {P : Program} {w : World} {K : PySem.W.Frag} {mg : Str → Option Value} {base : Heap} {x : Str} {st : Stmt} {ps : List Str} {k : Nat} {sp : Sp} (d : Def K mg x st ps)
    (h : ∀ (f : Addr) (fd : FuncData), Fun K x x st f fd → FnOk P w K mg base CX0 k f fd ps sp) : Has P w K mg base x ps k sp := by
  obtain ⟨f, fd, F, b, g⟩ := d.ex
  exact ⟨f, fd, g, F.kp, b, h f fd F⟩
end K45
set_option Elab.async false
set_option linter.all false
set_option maxRecDepth 100000
set_option maxHeartbeats 4000000
namespace K45
open PySem PySem.Spec PyProof.Rows L2
/-! books.py -/
abbrev sNames : Stmt := topS 1
abbrev sJobOf : Stmt := topS 2
theorem scNames : FnScope ["book", "job"] ["book"] (defScope sNames) := ⟨rfl, rfl, rfl, by decide +kernel, rfl, by decide +kernel, by decide +kernel⟩
theorem scJobOf : FnScope ["book", "name", "job"] ["book", "name"] (defScope sJobOf) := ⟨rfl, rfl, rfl, by decide +kernel, rfl, by decide +kernel, by decide +kernel⟩
def spNames : Sp := fun vs H Q _ => ∃ (b : Addr) (B : Bk), vs = [.ref b] ∧ BookAt H b B ∧ B.jobs.length ≤ 100 ∧ ∀ H' p, Same H H' → TupA H' p (B.names.map V.str) → Q (.ref p) H'
def spJobOf : Sp := fun vs H Q _ => ∃ (b : Addr) (B : Bk) (n : Str) (j : Job), vs = [.ref b, .str n] ∧ BookAt H b B ∧ B.job n = some j ∧ ∀ a, JobAt H a j → Q (.ref a) H
section
variable {P : Program} {w : World} {K : PySem.W.Frag} {mg : Str → Option Value} {base : Heap}
theorem ok_names (d : Def K mg "names_of_jobs" sNames ["book"]) (mt : mg "tuple" = none) : Has P w K mg base "names_of_jobs" ["book"] 1 spNames := d.has fun f fd F => by
  refine F.ok scNames (fun vs H Q E h => ?_) (fun cdv A outer s H vs Q E hr h => ?_)
  · obtain ⟨b, B, rfl, _⟩ := h; rfl
  · obtain ⟨b, B, rfl, hB, hl, q⟩ := h
    obtain ⟨t, js, as, h1, h2, h3, h4⟩ := hB.ex
    refine ⟨_, pss_one (ps_ret (pe_callTy call_tuple_of (by rfl) mt (by decide +kernel) (pa_cons (pe_lc (own := [("job", 1)]) (g := gName 1) (tt := tYes) rfl scNames.nd (pi_tup (pe_ix ix_tup (pv 0) pe_int (fun _ _ => rfl))) (blkOk_by (own := [("job", 1)]) (N := ["book", "job"]) (sc := defScope sNames) (by decide +kernel))
      (fun _ _ _ _ _ => pg_name (i := 1) scNames.nd rfl (Or.inl rfl)) (fun _ _ _ _ _ => pts_nil) (fun _ _ _ _ _ => pe_ix (r := rIxT K) ix_tup (pv 1) pe_int (fun _ _ => rfl))) pa_nil))), ?_⟩
    refine ⟨.ref b, rfl, b, _, 1, .ref js, rfl, rfl, SqT.of h1, atI_nat (j := 1) rfl, js, rfl, ⟨_, TupA.sq h3⟩, fun D nD => ?_⟩
    refine lc_std (walk_tup (xs := as.map V.ref)) B.jobs (fun j => some (.str j.name)) nD (by rw [List.length_map, pair_len h4]) (by omega) (fun H' s => TupA.sq (TupA.mono (.of s) h3)) (fun i j v H1 H' Kt Kf hj s y kt kf => ?_) (fun H' s e => ?_)
    · obtain ⟨rfl, hv⟩ := y
      obtain ⟨a, ha, hja⟩ := pair_get h4 hj
      rw [List.getElem?_map, ha] at hv; cases hv
      obtain ⟨n, u, mode, cmd, tries, e1, _⟩ := (hja.same s).ex
      refine ⟨rfl, ?_⟩
      refine ⟨.ref a, rfl, a, _, 0, .str j.name, rfl, rfl, SqT.of e1, atI_nat (j := 0) rfl, ?_⟩
      exact kt _ _ rfl (Same.refl _)
    · refine ⟨D, _, rfl, .inl ⟨SqL.of e, fun l hl => ?_⟩⟩
      refine q _ l (s.trans (same_new hl)) ?_
      refine TupA.of ?_
      rw [upd_same, fm_all]
      unfold Bk.names
      rw [List.map_map]; rfl
theorem ok_jobOf (d : Def K mg "job_of" sJobOf ["book", "name"]) : Has P w K mg base "job_of" ["book", "name"] 1 spJobOf := d.has fun f fd F => by
  refine F.ok scJobOf (fun vs H Q E h => ?_) (fun cdv A outer s H vs Q E hr h => ?_)
  · obtain ⟨b, B, n, j, rfl, _⟩ := h; rfl
  · obtain ⟨b, B, n, j, rfl, hB, hj, q⟩ := h
    obtain ⟨t, js, as, h1, h2, h3, h4⟩ := hB.ex
    refine ⟨_, pss_cons (ps_for PassesOwn.never rfl (pi_tup (pe_ix ix_tup (pv 0) pe_int (fun _ _ => rfl))) (pg_name (i := 2) scJobOf.nd rfl (Or.inl rfl))
        (pss_one (ps_if (pt_cmpR op_eq (pe_ix ix_tup (pv 2) pe_int (fun _ _ => rfl)) (pv 1) (nomark _)) (pss_one (ps_ret (pv 2))) pss_nil)))
      (pss_one (ps_ret pe_non)), ?_⟩
    refine ⟨.ref b, rfl, b, _, 1, .ref js, rfl, rfl, SqT.of h1, atI_nat (j := 1) rfl, js, rfl, ⟨_, TupA.sq h3⟩, ?_⟩
    refine for_it (walk_tup (xs := as.map V.ref)) (fun i σ H' => H' = H ∧ (∃ z, σ = [some (.ref b), some (.str n), z]) ∧ ∀ k, k < i → ∀ x, B.jobs[k]? = some x → x.name ≠ n) ⟨rfl, ⟨_, rfl⟩, fun k hk => absurd hk (Nat.not_lt_zero _)⟩ (fun i σ H' _ h => by rw [h.1]; exact TupA.sq h3) (fun i x σ H1 H' hi h y => ?_) (fun σ H' h => ?_)
    · obtain ⟨rfl, ⟨z, rfl⟩, hno⟩ := h
      obtain ⟨rfl, hv⟩ := y
      rw [List.length_map, pair_len h4] at hi
      obtain ⟨a, ha, hja⟩ := pair_get h4 (List.getElem?_eq_getElem hi)
      rw [List.getElem?_map, ha] at hv; cases hv
      obtain ⟨n', u, mode, cmd, tries, e1, _⟩ := hja.ex
      refine ⟨.ref a, rfl, a, _, 0, .str (B.jobs[i]).name, rfl, rfl, SqT.of e1, atI_nat (j := 0) rfl, .str n, rfl, rfl, _, rfl, ite2 (fun e => ?_) (fun e => ?_)⟩
      · have en : (B.jobs[i]).name = n := V.str.inj (of_decide_eq_true e)
        have ej : B.jobs[i] = j := by
          have hf : B.job n = some B.jobs[i] := by
            unfold Bk.job
            rw [List.find?_eq_some_iff_getElem]
            refine ⟨by simpa using en, i, hi, rfl, fun k hk => ?_⟩
            have := hno k hk _ (List.getElem?_eq_getElem (by omega))
            simpa using this
          rw [hj] at hf; exact (Option.some.inj hf).symm
        refine ⟨.ref a, rfl, q a ?_⟩
        rw [← ej]; exact hja
      · refine ⟨rfl, ⟨_, rfl⟩, fun k hk x hx => ?_⟩
        by_cases hki : k < i
        · exact hno k hki x hx
        · have : k = i := by omega
          subst this
          rw [List.getElem?_eq_getElem hi] at hx; cases hx
          exact fun z => e (decide_eq_true (by rw [z]))
    · obtain ⟨rfl, ⟨z, rfl⟩, hno⟩ := h
      exfalso
      obtain ⟨hm, hn⟩ := job_mem hj
      obtain ⟨k, hk⟩ := List.mem_iff_getElem?.mp hm
      have hkl := (List.getElem?_eq_some_iff.mp hk).1
      exact hno k (by rw [List.length_map, pair_len h4]; exact hkl) j hk hn
end
end K45
set_option Elab.async false
set_option linter.all false
set_option maxRecDepth 100000
set_option maxHeartbeats 4000000
/-! rules of our own: list.extend of a tuple, dict of a tuple of pairs, enumerate of a tuple, max with a default -/
namespace K45
open PySem PySem.Spec PyProof.Rows L2
section
variable {X : Cx}
def rExtT (K : PySem.W.Frag) : V → List V → Hp → VK → Prop := fun x vs H Q => ∃ l b xs zs, x = .ref l ∧ vs = [.ref b] ∧ H l = some (.lst xs) ∧ SqT K H b zs ∧ xs.length + zs.length ≤ 1000 ∧ Q .non (upd H l (.lst (xs ++ zs)))
theorem mt_extT : MtM X "list.extend" (rExtT X.K) := by
  intro pins s σ H x vs v us Q I rx rv h
  obtain ⟨l, b, xs, zs, rfl, rfl, hH, hB, hz0, q⟩ := h
  cases rx
  obtain ⟨u, rfl, ru⟩ := rv.one
  cases ru
  obtain ⟨z, its, n, r, hl, e⟩ := I.lstM hH
  obtain ⟨its2, r2, hT, hz2⟩ := I.tuple hB
  have hl2 := r2.length
  have hsz0 : its.toArray.size + its2.toArray.size ≤ sizeLine := by
    rw [List.size_toArray, List.size_toArray]
    exact Nat.le_of_lt (small (by omega))
  have nolong : Builtin.List.listTooLong (its.toArray.size + its2.toArray.size) = false := notLongL hsz0
  obtain ⟨o, ho, hc, k, hd⟩ := id hT
  refine wpAny_call_entry PySem.F.slot_list_extend ⟨_, e, rfl⟩ PySem.F.entry_list_extend ?_ (PySem.F.args_list_extend_2 _ _)
  unfold Builtin.«list.extend»
  show wpAny _ _ (Builtin.List.listExtendWith (.ref l) (.ref b) .none) _ _ _
  unfold Builtin.List.listExtendWith
  refine wpAny_bind (wpAny_typeOf (T := "tuple") ⟨o, ho, hc⟩ ?_)
  rw [if_pos (by simp)]
  unfold Builtin.List.listItems
  refine wpAny_bind (wpAny_bind (wpAny_seqItems ho hd (wpAny_pure ?_)))
  refine wpAny_bind (wpAny_bind (wpAny_seqItems e rfl (wpAny_pure ?_)))
  simp only [nolong, Bool.and_false, Bool.false_eq_true, if_false]
  refine wpAny_bind (listUpdate_at e rfl ?_ (by rw [List.size_toArray]; omega) (by rw [Array.size_append]; omega))
  refine wpAny_pure ⟨.none, rfl, .non, _, I.lset (its' := its ++ its2) hH e (by simp) (r.append r2) ?_, rfl, q⟩
  rw [List.length_append]
  exact Nat.le_of_lt (small (by omega))
end
/-! ### enumerate of a tuple -/
section
open AutoSeq1 (wpAny_loadPart')
set_option maxHeartbeats 2000000 in
theorem enum_tup_meets (l : Addr) (items : Array Value) :
    Meets (Builtin.«enumerate.__new__» ⟨[.type "enumerate", .ref l], []⟩) (fun _ R s => s.heap.IsTuple l items ∧
      R (.ok (.ret (.ref (s.heap.push { cls := .type "tuple_iterator", data := .fields #[.ref l, .int 0 0] }).objs.size)))
        { s with heap := (s.heap.push { cls := .type "tuple_iterator", data := .fields #[.ref l, .int 0 0] }).push { cls := .type "enumerate", data := .fields #[.none, .bool false, .ref s.heap.objs.size, rawInt 0, .none, .none] } }) :=
  .of_wp fun prog w A R s h => by
    obtain ⟨hp, g, d, tk, os⟩ := s
    obtain ⟨hl, h⟩ := h
    have hsub := sub_enumerate
    have hL : Heap.IsTuple (Shared.heap ⟨hp, g, d, tk, os⟩) l items := hl
    wp_walk using wpAny_pyIter_tuple hL
    refine wpAny_stack_any fun st => wpAny_pure ?_
    split
    · rename_i c _ _ _ _ _
      cases (c == Value.type "enumerate") <;> (wp_walk using wpAny_pyIter_tuple hL; exact ⟨_, rfl, h⟩)
    · wp_walk using wpAny_pyIter_tuple hL
      exact ⟨_, rfl, h⟩
theorem call_enum_tup {prog : Program} {w : World} {A : Around} {E : Value → Shared → Prop} {s : Shared} {l : Addr} {items : Array Value} {Q : Value → Shared → Prop} (hL : s.heap.IsTuple l items)
    (h : ∀ h', IsEnum h' (s.heap.objs.size + 1) s.heap.objs.size 0 .none → h'.IsTupleIter s.heap.objs.size l 0 → (∀ b o, s.heap.get? b = some o → h'.get? b = some o) → Q (.ref (s.heap.objs.size + 1)) { s with heap := h' }) :
    wpAny (model prog w) A (call (.type "enumerate") [.ref l]) Q E s := by
  refine callType_new PySem.F.called_enumerate (by decide) (PySem.F.typeCall_enumerate_1 _) (PySem.F.newCall_enumerate_1 _) (fun obj => PySem.F.args_object_init_2 obj _) PySem.F.entry_enumerate_new (enum_tup_meets l items) ⟨hL, ?_⟩
  generalize hI : ({ cls := .type "tuple_iterator", data := .fields #[.ref l, .int 0 0] } : Obj) = oi
  have hz : (s.heap.push oi).objs.size = s.heap.objs.size + 1 := Heap.size_push ..
  have he : IsEnum ((s.heap.push oi).push { cls := .type "enumerate", data := .fields #[.none, .bool false, .ref s.heap.objs.size, rawInt 0, .none, .none] }) (s.heap.objs.size + 1) s.heap.objs.size 0 .none := by
    rw [← hz]; exact Heap.get?_push_size _ rfl
  show _ ∧ _
  rw [hz]
  refine ⟨⟨_, he, rfl⟩, h _ he ?_ fun b o x => Heap.get?_push_of_some _ (Heap.get?_push_of_some _ x)⟩
  refine ⟨oi, Heap.get?_push_of_some _ (Heap.get?_push_size _ (by rw [← hI]; rfl)), ?_, ?_⟩ <;> (rw [← hI]; try rfl)
end
def Itq (K : PySem.W.Frag) (a : Addr) : It :=
  ⟨fun i H => ∃ (xs : List V) (x : V), SqT K H a xs ∧ xs[i]? = some x, fun i H v H' => ∃ T x, v = .ref T ∧ H T = none ∧ H' = upd H T (.tup [.int (i : Nat), x]) ∧ ∀ xs, SqT K H a xs → xs[i]? = some x, fun i H => ∃ xs : List V, SqT K H a xs ∧ xs.length = i⟩
theorem iter_ne {h : Heap} {a it e : Addr} {items : Array Value} {i : Nat} {k : Int} {old : Value} (ht : IsTup h a items) (hi : h.IsTupleIter it a i) (he : IsEnum h e it k old) : a ≠ it ∧ e ≠ a := by
  obtain ⟨o, ho, hc, _⟩ := ht
  obtain ⟨o2, ho2, hc2, _⟩ := hi
  refine ⟨fun z => ?_, fun z => ?_⟩
  · subst z; rw [ho] at ho2; cases ho2; rw [hc] at hc2; injection hc2 with z; exact absurd z (by decide)
  · subst z
    have he' : h.get? e = _ := he
    rw [ho] at he'; cases he'; injection hc with z; exact absurd z (by decide)
theorem turn_enumT {P : Program} {w : World} {K : PySem.W.Frag} {elts : List Expr} {kk : Nat} {tpos : Pos} (a e it : Addr) :
    Turn P w K (.Tuple elts kk tpos) (Itq K a) [e, it] e (fun i h => (∃ old, IsEnum h e it ((i : Nat) : Int) old) ∧ h.IsTupleIter it a i ∧ e ≠ it) where
  mem := by simp
  obj := fun i h st b hb => by
    obtain ⟨⟨old, he⟩, ⟨o, ho, hc, hd⟩, _⟩ := st
    have e' : b = e ∨ b = it := by simpa using hb
    rcases e' with rfl | rfl
    · exact ⟨_, he, fun v q => nomatch q⟩
    · exact ⟨o, ho, fun v q => by rw [hd] at q; cases q⟩
  keep := fun i h h' st k => ⟨let ⟨old, he⟩ := st.1; ⟨old, k e (by simp) _ he⟩, st.2.1.at fun o q => k it (by simp) o q, st.2.2⟩
  item := by
    intro X hP hw hK hc i pins s σ H E I hf st hg
    subst hP hw hK
    obtain ⟨⟨old, he⟩, hit, hne⟩ := st
    obtain ⟨xs, x, hq, hx⟩ := hg
    obtain ⟨its, rv, p, hz⟩ := I.tuple hq
    obtain ⟨n1, n2⟩ := iter_ne p hit he
    have hel : e < s.heap.objs.size := Heap.lt_size he
    have hil : it < s.heap.objs.size := by obtain ⟨_, q, _⟩ := hit; exact Heap.lt_size q
    have hlt : i < its.toArray.size := by
      have := (List.getElem?_eq_some_iff.mp hx).1
      rw [List.size_toArray, ← rv.length]; exact this
    have hh : X.A.in1.handled = none := I.ok.hd hc
    refine wpAny_pyNext_enum_itemD (Draws.tuple hh it a n1 its.toArray) he ⟨hit, p⟩ hlt hne (by simp [hne, n2]) fun u h' tk hu ho hst hT hsz hk => ?_
    refine ⟨_, rfl, wpAny_letOwnedTupleGo_enum (s := { s with heap := h', toks := tk + 1 }) ho fun h'' he' sb => ?_⟩
    obtain ⟨u', hu', ru⟩ := rv.get hx
    have eu : u = u' := by
      have hu : its.toArray[i]? = some u := hu
      have hu2 : its[i]? = some u := by simpa using hu
      rw [hu'] at hu2; exact (Option.some.inj hu2).symm
    subst eu
    have hT2 : h''.get? s.heap.objs.size = some { cls := .type "tuple", data := .seq #[.int i tk, u] } := (sb.2 _ (Nat.ne_of_gt hel)).trans hT
    have new : ObjOk X.prog X.w (upd H s.heap.objs.size (.tup [.int (i : Nat), x])) h'' s.heap.objs.size (.tup [.int (i : Nat), x]) :=
      ⟨by show 2 ≤ sizeLine; decide, [.int i tk, u], .cons ⟨_, rfl⟩ (.cons ru .nil), ⟨_, hT2, rfl, _, rfl⟩⟩
    have kp : ∀ b ob, b ∉ [e, it] → s.heap.get? b = some ob → h''.get? b = some ob := fun b ob hb q => by
      have b1 : b ≠ e := fun z => hb (by simp [z])
      have b2 : b ≠ it := fun z => hb (by simp [z])
      exact (sb.2 b b1).trans (hk b ob b1 b2 q)
    have I1 : Inv X pins σ (upd H s.heap.objs.size (.tup [.int (i : Nat), x])) { s with heap := h'', toks := tk + 1 } := I.turnedNew (ch := [e, it]) kp hf (Nat.le_refl _) new
    refine ⟨.ref s.heap.objs.size, _, I1, rfl, ⟨_, x, rfl, I.hok.fresh (Nat.le_refl _), rfl, fun ys hy => by rw [I.tuple_inj hy hq]; exact hx⟩, ⟨⟨u, ?_⟩, hst.1.at fun o q => (sb.2 it (Ne.symm hne)).trans q, hne⟩, fun b hb => ?_⟩
    · have e1 : ((i + 1 : Nat) : Int) = (i : Int) + 1 := by omega
      rw [e1]; exact he'
    · have hb' : b < s.heap.objs.size := by
        have e' : b = e ∨ b = it := by simpa using hb
        rcases e' with rfl | rfl
        · exact hel
        · exact hil
      rw [upd_ne (Nat.ne_of_lt hb')]
      exact (hf b hb).1
  done := by
    intro X hP hw hK hc i pins s σ H E I hf st hg
    subst hP hw hK
    obtain ⟨⟨old, he⟩, hit, hne⟩ := st
    obtain ⟨xs, hq, hx⟩ := hg
    obtain ⟨its, rv, p, hz⟩ := I.tuple hq
    obtain ⟨n1, n2⟩ := iter_ne p hit he
    obtain ⟨f0, f1, f2, f3, f4, f5⟩ := hf it (by simp)
    have hl : i = its.toArray.size := by rw [List.size_toArray, ← rv.length, hx]
    subst hl
    have hh : X.A.in1.handled = none := I.ok.hd hc
    exact wpAny_pyNext_enum_endD (Draws.tuple hh it a n1 its.toArray) he ⟨hit, p⟩ fun h' eb => ⟨rfl, I.turned (t' := s.toks) (fun b o hb q => eb b o hb q) f0 f1 f3 f4 f5⟩
  self := fun A i s Q E st h => let ⟨⟨_, he⟩, _⟩ := st; wpAny_pyIter_enum he h
def iEnumT (K : PySem.W.Frag) (ta : TA) : TI := fun σ H R => ta σ H fun vs H1 => ∃ a xs, vs = [.ref a] ∧ SqT K H1 a xs ∧ R (Itq K a) H1
theorem pi_enumT {X : Cx} {e : Expr} {ta : TA} {p pos tpos : Pos} {elts : List Expr} {kk : Nat} (hg : Gl X "enumerate") (hm : X.mg "enumerate" = none) (ha : PA X [e] ta) (hs : starEach [e] X.env = [(false, eval e X.env)] := by rfl) :
    PI X (.Tuple elts kk tpos) (.Call (.Name "enumerate" p) [e] [] pos) (iEnumT X.K ta) := by
  refine ⟨fun pins s σ H R I h => Call_ (ld_blt I hg hm boot_enumerate (PyProof.Rows.callWith_type1 (thn (ha.run pos pins s σ H _ I h) fun us s1 ⟨vs, H1, I1, r1, q1⟩ => ?_) hs rfl))⟩
  obtain ⟨a, xs, rfl, hq, q⟩ := q1
  obtain ⟨u, rfl, ru⟩ := r1.one
  cases ru
  obtain ⟨its, rv, p', hz⟩ := I1.tuple hq
  refine call_enum_tup p' fun h' he hit hk => wpAny_pyIter_enum he ?_
  refine ⟨s1.heap.objs.size + 1, [s1.heap.objs.size + 1, s1.heap.objs.size], _, _, H1, rfl, I1.kept (t' := s1.toks) hk, turn_enumT a _ s1.heap.objs.size, ⟨⟨.none, he⟩, hit, Nat.succ_ne_self _⟩, fun b hb => ?_, q⟩
  have hle : s1.heap.objs.size ≤ b := by
    have e' : b = s1.heap.objs.size + 1 ∨ b = s1.heap.objs.size := by simpa using hb
    rcases e' with rfl | rfl
    · exact Nat.le_succ _
    · exact Nat.le_refl _
  exact I1.fpOk hle (I1.hok.fresh hle)
theorem walk_enumT {K : PySem.W.Frag} {a : Addr} {xs : List V} : Walk (Itq K a) xs.length (fun H => SqT K H a xs) (YPair (fun i => some (.int (i : Nat))) (fun i => xs[i]?)) := by
  refine ⟨fun i _ hi q => ⟨xs, xs[i], q, by simp [hi]⟩, fun _ q => ⟨xs, q, rfl⟩, fun i H v H' _ q y => ?_⟩
  obtain ⟨T, x, h1, h2, h3, h4⟩ := y
  exact ⟨T, .int (i : Nat), x, h1, h2, h3, rfl, h4 xs q⟩

/-! ### tuples whose object is known (no dict of its own): made by tuple(list), asked by dict(tuple) -/
section
variable {X : Cx}
theorem call_tuple_frz : CallR X (.type "tuple") (fun xs H Q => ∃ p ys, xs = [.ref p] ∧ SqL X.K H p ys ∧ ∀ l o, H l = none → o.dict = none → Q (.ref l) (upd H l (.frz o (.tup ys)))) := by
  intro pins s σ H xs us Q I r h
  obtain ⟨p, ys, rfl, hq, q⟩ := h
  obtain ⟨u, rfl, rx⟩ := r.one
  cases rx
  obtain ⟨its, r', pl, hz⟩ := I.list hq
  have hlen := r'.length
  refine call_tuple_list pl.isList (fun h' kp => ?_) (by rw [List.size_toArray]; omega)
  have I1 : Inv X pins σ H { s with heap := h' } := I.kept (t' := s.toks) kp
  have new : ObjOk X.prog X.w (upd H h'.objs.size (.frz { cls := .type "tuple", data := .seq its.toArray } (.tup ys))) (h'.push { cls := .type "tuple", data := .seq its.toArray }) h'.objs.size (.frz { cls := .type "tuple", data := .seq its.toArray } (.tup ys)) :=
    ⟨Heap.get?_push_size _ rfl, hz, its, r', IsTup.new _ _⟩
  exact ⟨.ref h'.objs.size, _, I1.laid (t' := s.toks) (fun b o e => Heap.get?_push_of_some _ e) (Nat.le_refl _) new, rfl, q _ _ (I1.hok.fresh (Nat.le_refl _)) rfl⟩
theorem pairs_both {pins : List (Addr × Obj)} {σ : L2.St} {H : Hp} {s : Shared} (I : Inv X pins σ H s) : ∀ {ps : List Addr} {kvs : List (Key × V)}, Paired (fun p kv => SqT X.K H p [kV kv.1, kv.2]) ps kvs →
    ∃ (prs : List (Key × Value)) (vps : List (Value × Value)), KV kvs prs ∧ prs.length = ps.length ∧ vps.length = ps.length ∧
      ∀ (j : Nat) (k v : Value), vps[j]? = some (k, v) → ∃ b key, ps[j]? = some b ∧ s.heap.IsTuple b #[k, v] ∧ prs[j]? = some (key, v) ∧ keyIs key k = true
  | _, _, .nil => ⟨[], [], .nil, rfl, rfl, fun j k v e => by simp at e⟩
  | _, _, .cons (a := p) (b := kv) h t => by
    obtain ⟨prs, vps, r, l1, l2, hp⟩ := pairs_both I t
    obtain ⟨its, rv, ht, _⟩ := I.tuple h
    obtain ⟨u, y, rfl, ru, ry⟩ := rv.two
    refine ⟨(kv.1, y) :: prs, (u, y) :: vps, .cons ⟨rfl, ry⟩ r, by simp [l1], by simp [l2], fun j k v e => ?_⟩
    cases j with
    | zero =>
      have e' : (u, y) = (k, v) := by simpa using e
      cases e'
      exact ⟨p, kv.1, rfl, ht, rfl, kV_is (P := X.prog) (w := X.w) ru⟩
    | succ j =>
      obtain ⟨b, key, e1, e2, e3, e4⟩ := hp j k v (by simpa using e)
      exact ⟨b, key, by simpa using e1, e2, by simpa using e3, e4⟩
theorem call_dictPT (hcalm : X.calm = true) : CallR X (.type "dict") (fun xs H Q => ∃ (a : Addr) (ps : List Addr) (kvs : List (Key × V)), xs = [.ref a] ∧ TupP H a (ps.map V.ref) ∧ Paired (fun p kv => SqT X.K H p [kV kv.1, kv.2]) ps kvs ∧ ∀ p, H p = none → Q (.ref p) (upd H p (.dK (mergeK [] kvs)))) := by
  intro pins s σ H xs us Q I r h
  obtain ⟨a, ps, kvs, rfl, ⟨ob, hob, hdd⟩, hp, q⟩ := h
  obtain ⟨u, rfl, rx⟩ := r.one
  cases rx
  obtain ⟨hg, hz, its, rv, ⟨o2, ho2, hc2, n2, hd2⟩⟩ := I.hok a _ hob
  rw [hg] at ho2; cases ho2
  have ei := refs_at rv
  subst ei
  rw [List.length_map] at hz
  obtain ⟨prs, vps, rel, l1, l2, hv⟩ := pairs_both I hp
  have items : PairItems s.heap (ps.map Value.ref).toArray (fun j => ps.getD j 0) vps := by
    refine ⟨by simp [l2], fun j k v e => ?_⟩
    obtain ⟨b, key, e1, e2, _⟩ := hv j k v e
    refine ⟨by simp [e1], .inl ?_⟩
    have eb : ps.getD j 0 = b := by simp [List.getD, e1]
    show s.heap.IsTuple (ps.getD j 0) #[k, v]
    rw [eb]; exact e2
  have have' : PairsHave (mixKind X.prog X.w) vps.length (PairRel vps) prs := by
    refine ⟨by omega, fun i key v e => ?_⟩
    obtain ⟨b, k, _, _, e3, e4⟩ := hv i key v e
    exact ⟨k, e3, e4⟩
  refine PySem.call_dict_pairs (kvs := prs) (PairArg.tuple a _ _ vps) (I.ok.hd hcalm) ⟨⟨ob, n2, hg, hc2, hdd, hd2⟩, items⟩ have' (by omega) fun h' tk hd' hk => ?_
  have kp : ∀ b o, s.heap.get? b = some o → h'.get? b = some o := fun b o e => hk b o (by simp) e
  have hm : (s.heap.objs.size == sysModules) = false := beq_eq_false_iff_ne.mpr (Nat.ne_of_gt I.big)
  have hlen : (mergeK [] kvs).length ≤ sizeLine := by
    have := length_mergeK kvs []
    rw [List.length_nil, Nat.zero_add, rel.length, l1] at this
    omega
  have new : ObjOk X.prog X.w (upd H s.heap.objs.size (.dK (mergeK [] kvs))) h' s.heap.objs.size (.dK (mergeK [] kvs)) := ⟨hlen, hm, _, KV.merge rel .nil, hd'⟩
  exact ⟨.ref s.heap.objs.size, _, I.laid (t' := tk) kp (Nat.le_refl _) new, rfl, q _ (I.hok.fresh (Nat.le_refl _))⟩
end
end K45
set_option Elab.async false
set_option linter.all false
set_option maxRecDepth 100000
set_option maxHeartbeats 4000000
/-! rules of our own: sorted of tuples, of d.items() -/
namespace K45
open PySem PySem.Spec PyProof.Rows L2
section
variable {X : Cx} {pins : List (Addr × Obj)} {σ : L2.St} {H : Hp} {s : Shared}
/-- several new objects, tracked at once -/
theorem inv_many {h' : Heap} {tk : Nat} (I : L2.Inv X pins σ H s) (L : List (Addr × HO)) (kp : ∀ b o, s.heap.get? b = some o → h'.get? b = some o) (new : ∀ p ∈ L, s.heap.objs.size ≤ p.1) (nd : (L.map (·.1)).Nodup)
    (ok : ∀ H' : Hp, (∀ p ∈ L, H' p.1 = some p.2) → Same H H' → ∀ p ∈ L, ObjOk X.prog X.w H' h' p.1 p.2) :
    ∃ H' : Hp, Same H H' ∧ (∀ p ∈ L, H p.1 = none ∧ H' p.1 = some p.2) ∧ L2.Inv X pins σ H' { s with heap := h', toks := tk } := by
  let H' : Hp := fun b => match L.find? (fun p => decide (p.1 = b)) with
    | some p => some p.2
    | none => H b
  have fresh : ∀ p ∈ L, H p.1 = none := fun p hp => I.hok.fresh (new p hp)
  have at_ : ∀ p ∈ L, H' p.1 = some p.2 := by
    clear fresh ok new
    show ∀ p ∈ L, (match L.find? (fun q => decide (q.1 = p.1)) with | some p => some p.2 | none => H p.1) = some p.2
    revert nd
    induction L with
    | nil => intro _ p hp; cases hp
    | cons a L ih =>
      intro nd p hp
      rw [List.map_cons, List.nodup_cons] at nd
      rw [List.find?_cons]
      rcases List.mem_cons.mp hp with e | hp
      · rw [e]; simp
      · have hne : a.1 ≠ p.1 := fun e => nd.1 (by rw [e]; exact List.mem_map.mpr ⟨p, hp, rfl⟩)
        simp only [hne, decide_false]
        exact ih nd.2 p hp
  have off : ∀ b, b ∉ L.map (·.1) → H' b = H b := fun b hb => by
    have : L.find? (fun p => decide (p.1 = b)) = none := List.find?_eq_none.mpr fun p hp e => hb (List.mem_map.mpr ⟨p, hp, of_decide_eq_true e⟩)
    show (match L.find? (fun p => decide (p.1 = b)) with | some p => some p.2 | none => H b) = H b
    rw [this]
  have old : ∀ b o, s.heap.get? b = some o → b ∉ L.map (·.1) := fun b o e hb => by
    obtain ⟨p, hp, e1⟩ := List.mem_map.mp hb
    have := new p hp
    rw [e1] at this
    exact absurd (Heap.lt_size e) (Nat.not_lt.mpr this)
  have sm : Same H H' := fun b o e => by
    rw [off b fun hb => by
      obtain ⟨p, hp, e1⟩ := List.mem_map.mp hb
      rw [← e1, fresh p hp] at e; cases e]
    exact e
  refine ⟨H', sm, fun p hp => ⟨fresh p hp, at_ p hp⟩, ?_⟩
  refine I.un (t' := tk) ⟨fun b o e _ _ _ => kp b o e, fun b o e _ _ _ => ⟨o.slots, kp b o e⟩, fun b o e n _ => (off b (old b o e)).trans n, fun b o e _ => ⟨o, kp b o e⟩, fun b xs e => sm b _ e, fun b o u e => sm b _ e, fun b ps e => ⟨#[], by rw [sm b _ e]; simp⟩⟩ fun b u e => ?_
  by_cases hb : b ∈ L.map (·.1)
  · obtain ⟨p, hp, e1⟩ := List.mem_map.mp hb
    have h1 := at_ p hp
    rw [e1, e] at h1
    have h2 := ok H' at_ sm p hp
    rw [e1] at h2
    rw [Option.some.inj h1]; exact h2
  · rw [off b hb] at e
    exact (I.hok b u e).stay (fun d v _ y => kp d v y) (fun d y => sm d _ y) fun d xs y => sm d _ y

/-! ### flat data -/
def flatP : V → PyData
  | .int i => .int i
  | .str x => .str x
  | _ => .none
def isFlatP : V → Bool
  | .int _ => true
  | .str _ => true
  | _ => false
def encT (xs : List V) : PyData := .tuple (xs.map flatP)
theorem reads_one {h : Heap} {x : V} {u : Value} (r : RelV x u) (f : isFlatP x = true) : Reads h u (flatP x) [] := by
  cases x with
  | int i => obtain ⟨t, rfl⟩ := r; exact .int i t
  | str y => obtain ⟨t, rfl⟩ := r; exact .str y t
  | _ => cases f
theorem reads_flat {h : Heap} : ∀ {xs : List V} {us : List Value}, Vals xs us → (∀ x ∈ xs, isFlatP x = true) → ReadsAll h us (xs.map flatP) []
  | _, _, .nil, _ => .nil
  | _, _, .cons r t, f => .cons (reads_one r (f _ List.mem_cons_self)) (reads_flat t fun x hx => f x (List.mem_cons_of_mem _ hx))
theorem depth_flat : ∀ xs : List V, PyData.depthAll (xs.map flatP) = 0
  | [] => rfl
  | x :: xs => by
    have := depth_flat xs
    cases x <;> simp [PyData.depthAll, PyData.depth, flatP, this]
theorem depth_enc (xs : List V) : (encT xs).depth = 1 := by
  unfold encT
  rw [PyData.depth, depth_flat]
theorem reads_tup {K : PySem.W.Frag} {a : Addr} {xs : List V} (I : L2.Inv X pins σ H s) (h : SqT X.K H a xs) (f : ∀ x ∈ xs, isFlatP x = true) : Reads s.heap (.ref a) (encT xs) [] := by
  obtain ⟨its, rv, ⟨o, ho, hc, n, hd⟩, _⟩ := I.tuple h
  exact .tuple ho hc hd (reads_flat rv f)
/-- the order of such tuples; what it says of the first ints -/
abbrev leT {β : Type} (f : β → List V) : β → β → Bool := PySem.W.dataLe false fun b => encT (f b)
theorem leT_total {β : Type} (f : β → List V) : PySem.W.TotalLe (leT f) := PySem.W.sortLe_total _ _ _
theorem lt_first {i j : Int} {xs ys : List V} (h : j < i) : PySem.W.dataLt (encT (.int j :: xs)) (encT (.int i :: ys)) = true := by
  unfold encT
  rw [PySem.W.dataLt_tuple]
  simp only [List.map_cons, flatP]
  rw [PySem.W.dataLt_cons rfl, if_neg, PySem.W.dataLt_int]
  · exact decide_eq_true h
  · intro e
    have : PyData.eqv (.int j) (.int i) = true := e
    simp [PyData.eqv] at this
    omega
theorem le_first {β : Type} {f : β → List V} {g : β → Int} (hf : ∀ b, ∃ r, f b = .int (g b) :: r) {a b : β} (h : leT f a b = true) : g a ≤ g b := by
  apply Classical.byContradiction
  intro hn
  obtain ⟨r1, e1⟩ := hf a
  obtain ⟨r2, e2⟩ := hf b
  have h : PySem.W.dataLt (encT (f b)) (encT (f a)) = false := by
    have h : (!PySem.W.dataLt (encT (f b)) (encT (f a))) = true := h
    simpa using h
  rw [e1, e2, lt_first (by omega)] at h
  cases h
theorem each_refs {K : PySem.W.Frag} {H' : Hp} {β : Type} {f : β → List V} : ∀ {out : List Value} {bs : List β}, PySem.W.EachIs (fun v b => ∃ t, v = Value.ref t ∧ SqT K H' t (f b)) out bs → ∃ as : List Addr, out = as.map Value.ref ∧ Paired (fun t b => SqT K H' t (f b)) as bs
  | _, _, .nil => ⟨[], rfl, .nil⟩
  | _, _, .cons h t => by
    obtain ⟨a, rfl, ha⟩ := h
    obtain ⟨as, rfl, hp⟩ := each_refs t
    exact ⟨a :: as, rfl, .cons ha hp⟩
theorem refs_each {K : PySem.W.Frag} {H' : Hp} {β : Type} {f : β → List V} : ∀ {as : List Addr} {bs : List β}, Paired (fun t b => SqT K H' t (f b)) as bs → PySem.W.EachIs (fun v b => ∃ t, v = Value.ref t ∧ SqT K H' t (f b)) (as.map Value.ref) bs
  | _, _, .nil => .nil
  | _, _, .cons h t => .cons ⟨_, rfl, h⟩ (refs_each t)
end
section
variable {X : Cx}
/-- sorted(xs), xs a list of tuples of ints and texts that go together -/
def rSortTup (K : PySem.W.Frag) {β : Type} (f : β → List V) : List V → Hp → VK → Prop := fun vs H Q => ∃ (a : Addr) (as : List Addr) (bs : List β), vs = [.ref a] ∧ SqL K H a (as.map V.ref) ∧ Paired (fun t b => SqT K H t (f b)) as bs ∧ as.length ≤ 1000 ∧
  ∀ (as' : List Addr) (cs : List β) (l : Addr), cs.Perm bs → cs.Pairwise (fun a b => leT f a b = true) → Paired (fun t b => SqT K H t (f b)) as' cs → H l = none → Q (.ref l) (upd H l (.lst (as'.map V.ref)))
theorem cr_sortTup {β : Type} (f : β → List V) (hu : X.A.units + 64 < cLine) (flat : ∀ b, ∀ x ∈ f b, isFlatP x = true) (ne : ∀ b, f b ≠ []) (al : ∀ a b, PySem.W.alike (encT (f a)) (encT (f b)) = true) : CallR X (.builtin "sorted") (rSortTup X.K f) := by
  intro pins s σ H vs us Q I r h
  obtain ⟨a, as, bs, rfl, hq, hp, hl, q⟩ := h
  obtain ⟨u, rfl, ru⟩ := r.one
  cases ru
  obtain ⟨its, rv, p, hz⟩ := I.list hq
  have ei := refs_at rv
  subst ei
  have hab := pair_len hp
  refine PySem.W.sorted_data (bs := bs) (enc := fun b => encT (f b)) p.isList (refs_each hp) ((refs_each hp).mono fun v b ⟨t, e, hs⟩ => ⟨[], by rw [e]; exact reads_tup (K := X.K) I hs (flat b)⟩) (PySem.W.AllAlike.of al)
    (PySem.W.Sortable.tuples fun b => ?_) (Nat.le_of_lt (small (by omega))) (fun b _ => by rw [depth_enc]; omega) fun out hlen eo => ?_
  · cases e : f b with
    | nil => exact absurd e (ne b)
    | cons x r => exact ⟨flatP x, r.map flatP, rfl⟩
  · obtain ⟨as', rfl, hp'⟩ := each_refs eo
    obtain ⟨ep, he⟩ := PyProof.Rows.sortedAll_at s.heap (as.map Value.ref) (as'.map Value.ref).toArray
    have hl' : as'.length ≤ 1000 := by
      rw [List.length_map] at hlen; omega
    have hfr : H (s.heap.objs.size + 1) = none := I.hok.fresh (Nat.le_succ _)
    have new : ObjOk X.prog X.w (upd H (s.heap.objs.size + 1) (.lst (as'.map V.ref))) (sortedAll s.heap (as.map Value.ref) (as'.map Value.ref).toArray) (s.heap.objs.size + 1) (.lst (as'.map V.ref)) :=
      ⟨by rw [List.length_map]; exact Nat.le_of_lt (small hl'), _, ep, LiI.vals_refs as', he⟩
    exact ⟨.ref _, _, I.laid (t' := s.toks) (fun _ _ => PyProof.Rows.sortedAll_old) (Nat.le_succ _) new, rfl, q as' _ _ (List.mergeSort_perm _ _) (PySem.W.sort_pairwise (leT_total f) bs) hp' hfr⟩
end
end K45
set_option Elab.async false
set_option linter.all false
set_option maxRecDepth 100000
set_option maxHeartbeats 4000000
/-! rules of our own: sorted(d.items()) -/
namespace K45
open PySem PySem.Spec PyProof.Rows L2
open PySem.Calls
section
variable {X : Cx}
def rItemsK : V → List V → Hp → VK → Prop := fun x xs H Q => ∃ (a : Addr) (kvs : List (Key × V)), x = .ref a ∧ xs = [] ∧ H a = some (.dK kvs) ∧ ∀ p, H p = none → Q (.ref p) (upd H p (DX.itemsO p a))
theorem mt_itemsK : MtR X "dict.items" rItemsK := by
  intro pins s σ H x xs v us Q I rx rxs h
  obtain ⟨a, kvs, rfl, rfl, ha, q⟩ := h
  cases rx
  cases rxs
  obtain ⟨z, hd, vs, rel, o, es, ep, ho, hx, hdat, _⟩ := dk_of I.hok ha
  refine DT.callItems (es := es) (ep := ep) hd ⟨o, ho, hx, hdat⟩ ?_
  have ok := DX.itemsO_ok (P := X.prog) (w := X.w) (H := upd H s.heap.objs.size (DX.itemsO s.heap.objs.size a)) (Heap.get?_push_size s.heap (o := { cls := .type "dict_items", data := .fields #[.ref a] }) rfl)
  exact ⟨.ref s.heap.objs.size, _, I.laid (t' := s.toks) (fun b u e => Heap.get?_push_of_some _ e) (Nat.le_refl _) ok, rfl, q _ (I.hok.fresh (Nat.le_refl _))⟩
/-- sorted of the view of a dict of texts and ints: a list of new pairs, sorted -/
abbrev prI (p : Str × Int) : List V := [.str p.1, .int p.2]
theorem prI_flat (p : Str × Int) : ∀ x ∈ prI p, isFlatP x = true := fun x hx => by
  rcases List.mem_cons.mp hx with rfl | hx
  · rfl
  · rw [List.mem_singleton.mp hx]; rfl
def rSortView : List V → Hp → VK → Prop := fun vs H Q => ∃ (p a : Addr) (bs : List (Str × Int)), vs = [.ref p] ∧ H p = some (DX.itemsO p a) ∧ H a = some (.dK (dI bs)) ∧ bs.length ≤ 1000 ∧
  ∀ (H' : Hp) (l : Addr) (as : List Addr) (cs : List (Str × Int)), Same H H' → H l = none → H' l = some (.lst (as.map V.ref)) → cs.Perm bs → cs.Pairwise (fun a b => leT prI a b = true) → Paired (fun t q => H' t = some (.tup (prI q))) as cs → Q (.ref l) H'
theorem pairs_at {P : Program} {w : World} {knd : PySem.KeyKind P w Key} : ∀ {es : List DictEntry} {kvs : List (Key × Value)}, Pairs knd es kvs → ∀ {j : Nat} {e : DictEntry}, es[j]? = some e → ∃ kv, kvs[j]? = some kv ∧ knd.is kv.1 e.key = true ∧ e.val = kv.2
  | _, _, .nil, _, _, h => by simp at h
  | _, _, .cons a b t, 0, _, h => by simp at h; subst h; exact ⟨_, rfl, a, b⟩
  | _, _, .cons _ _ t, j + 1, e, h => by
    obtain ⟨kv, h1, h2⟩ := pairs_at t (j := j) (e := e) (by simpa using h)
    exact ⟨kv, by simpa using h1, h2⟩
theorem cr_sortView (hc : X.calm = true) (hu : X.A.units + 64 < cLine) : CallR X (.builtin "sorted") rSortView := by
  intro pins s σ H vs us Q I r h
  obtain ⟨p, a, bs, rfl, hp, ha, hl, q⟩ := h
  obtain ⟨u, rfl, ru⟩ := r.one
  cases ru
  have view : s.heap.IsItemsView p a := (show ObjOk X.prog X.w H s.heap p (DX.itemsO p a) from I.hok p _ hp).1
  obtain ⟨z, hd, kvs, rel, oD, es, ep, hoD, hxD, hdD, _, hps, _⟩ := dk_of I.hok ha
  have hlk : (dI bs).length = kvs.length := rel.length
  rw [dF_length] at hlk
  have hks : kvs.length ≤ sizeLine := Nat.le_of_lt (small (by omega))
  refine call_function_entry kind_sorted plain_sorted entry_sorted (args_sorted1 _) ?_
  unfold Builtin.«sorted»
  refine wpAny_bind (m := checkCount "sorted" 1 1 _) (wpAny_pure ?_)
  have hes : es.size = kvs.length := by rw [← Array.length_toList]; exact hps.length
  refine wpAny_bind (DT.collectI (A := X.A.in1) (es := es) (ep := ep) (I.ok.hd hc) view ⟨oD, hoD, hxD, hdD⟩ (by omega) ?_)
  intro h1 tk as kp1 hs1 hlen hG
  refine wpAny_bind (wpAny_newList ?_ (by rw [List.length_map, hlen, hes]; exact hks))
  have nd : as.Nodup := hG.rise.imp fun {a b} (h : a < b) => Nat.ne_of_lt h
  generalize hh2 : h1.push { cls := .type "list", data := .seq (as.map Value.ref).toArray } = h2
  have hob : h2.get? h1.objs.size = some (seqObj "list" (as.map Value.ref).toArray 0) := by rw [← hh2]; exact Heap.get?_push_size _ rfl
  have kp2 : ∀ b o, h1.get? b = some o → h2.get? b = some o := fun b o e => by rw [← hh2]; exact Heap.get?_push_of_some _ e
  have hD : ∀ b o, h1.get? b = some o → b ≠ h1.objs.size := fun b o e => Nat.ne_of_lt (Heap.lt_size e)
  -- each new pair: its object and what it stands for
  have pr : ∀ (j : Nat) (t : Addr), as[j]? = some t → ∃ (q : Str × Int) (u v : Value), bs[j]? = some q ∧ h1.get? t = some { cls := .type "tuple", data := .seq #[u, v] } ∧ Vals (prI q) [u, v] := by
    intro j t hj
    obtain ⟨en, e0, e3⟩ := hG.pairs j t hj
    obtain ⟨⟨k, x⟩, e1, e2, ev⟩ := pairs_at hps (by rw [Array.getElem?_toList]; exact e0)
    have ev : en.val = x := ev
    have e2 : keyIs k en.key = true := e2
    rw [ev] at e3
    obtain ⟨pk, g1, g2, g3⟩ := pair_get rel e1
    have hbj : bs[j]? ≠ none := fun z => by
      have : (dI bs)[j]? = none := by unfold dI dF; rw [List.getElem?_map, z]; rfl
      rw [this] at g1; cases g1
    obtain ⟨q, hq⟩ := Option.ne_none_iff_exists'.mp hbj
    have : (dI bs)[j]? = some (Sum.inr q.1, V.int q.2) := by unfold dI dF; rw [List.getElem?_map, hq]; rfl
    rw [this] at g1; cases g1
    have g2 : Sum.inr q.1 = k := g2
    subst g2
    exact ⟨q, en.key, x, hq, e3, .cons (relV_key (k := Sum.inr q.1) e2) (.cons g3 .nil)⟩
  have lab : as.length = bs.length := by omega
  have each : PySem.W.EachIs (fun v (z : Addr × (Str × Int)) => v = Value.ref z.1 ∧ z.1 ∈ as ∧ ∃ (x y : Value), h1.get? z.1 = some { cls := .type "tuple", data := .seq #[x, y] } ∧ Vals (prI z.2) [x, y]) (as.map Value.ref) (as.zip bs) := by
    refine PySem.W.EachIs.of_zip (by rw [List.length_map, List.length_zip]; omega) fun z hz => ?_
    obtain ⟨j, hj⟩ := List.mem_iff_getElem?.mp hz
    rw [List.getElem?_zip_eq_some] at hj
    obtain ⟨e1, e2⟩ := hj
    rw [List.getElem?_zip_eq_some] at e2
    obtain ⟨e2, e3⟩ := e2
    rw [List.getElem?_map, e2] at e1
    obtain ⟨q, x, y, f1, f2, f3⟩ := pr j _ e2
    rw [f1] at e3; cases e3
    exact ⟨(Option.some.inj e1).symm, List.mem_of_getElem? e2, x, y, f2, f3⟩
  refine wpAny_bind (wpAny_holding (PySem.W.list_sort_data (bs := as.zip bs) (enc := fun z => encT (prI z.2)) hob each (each.mono fun v z ⟨e, _, x, y, f, rv⟩ => ⟨[], by rw [e]; exact .tuple (kp2 _ _ f) rfl rfl (reads_flat rv (prI_flat z.2)), by simp⟩) (PySem.W.AllAlike.of fun _ _ => rfl) (PySem.W.Sortable.tuples fun q => ⟨_, _, rfl⟩)
    (Nat.le_of_lt (small (by rw [List.length_zip]; omega))) (fun q _ => by rw [depth_enc]; show X.A.units + 1 + 1 + 1 < cLine; omega) fun out hlo eo => ?_))
  refine wpAny_pure ⟨_, rfl, ?_⟩
  have hperm := List.mergeSort_perm (as.zip bs) (leT fun z : Addr × (Str × Int) => prI z.2)
  have hpw := PySem.W.sort_pairwise (leT_total fun z : Addr × (Str × Int) => prI z.2) (as.zip bs)
  generalize (as.zip bs).mergeSort (leT fun z : Addr × (Str × Int) => prI z.2) = S at eo hperm hpw
  have outs : ∀ {out : List Value} {S : List (Addr × (Str × Int))}, PySem.W.EachIs (fun v (z : Addr × (Str × Int)) => v = Value.ref z.1 ∧ z.1 ∈ as ∧ ∃ (x y : Value), h1.get? z.1 = some { cls := .type "tuple", data := .seq #[x, y] } ∧ Vals (prI z.2) [x, y]) out S →
      out = (S.map (·.1)).map Value.ref ∧ ∀ z ∈ S, z.1 ∈ as ∧ ∃ (x y : Value), h1.get? z.1 = some { cls := .type "tuple", data := .seq #[x, y] } ∧ Vals (prI z.2) [x, y] := by
    intro out S e
    induction e with
    | nil => exact ⟨rfl, fun _ h => (nomatch h)⟩
    | cons h t ih =>
      refine ⟨by rw [List.map_cons, List.map_cons, ← ih.1, h.1], fun z hz => ?_⟩
      rcases List.mem_cons.mp hz with rfl | hz
      · exact h.2
      · exact ih.2 z hz
  obtain ⟨rfl, hS⟩ := outs eo
  have nS : (S.map (·.1)).Nodup := by
    have := (hperm.map (·.1)).nodup_iff.mpr
    rw [List.map_fst_zip (by omega)] at this
    exact this nd
  have pS : (S.map (·.2)).Perm bs := by
    have := hperm.map (·.2)
    rw [List.map_snd_zip (by omega)] at this
    exact this
  have wS : (S.map (·.2)).Pairwise fun a b => leT prI a b = true := List.pairwise_map.mpr (hpw.imp fun h => h)
  obtain ⟨e3, he3⟩ := PyProof.Rows.sortedHeap_at (vs := as.map Value.ref) (out := ((S.map (·.1)).map Value.ref).toArray) hob
  generalize hh3 : PyProof.Rows.sortedHeap h2 h1.objs.size (as.map Value.ref) ((S.map (·.1)).map Value.ref).toArray = h3 at he3 ⊢
  have kp3 : ∀ b o, h1.get? b = some o → h3.get? b = some o := fun b o e => by
    rw [← hh3, PyProof.Rows.sortedHeap_old (hD b o e) (Heap.lt_size (kp2 _ _ e))]
    exact kp2 _ _ e
  have kp : ∀ b o, s.heap.get? b = some o → h3.get? b = some o := fun b o e => kp3 b o (kp1 b o e)
  have hDas : h1.objs.size ∉ as := fun m => absurd (hG.there m) (Nat.lt_irrefl _)
  have hlS : S.length = bs.length := by
    have := pS.length_eq
    rw [List.length_map] at this; exact this
  have c1 : ∀ z ∈ (h1.objs.size, HO.lst ((S.map (·.1)).map V.ref)) :: S.map (fun z => (z.1, HO.tup (prI z.2))), s.heap.objs.size ≤ z.1 := fun z hz => by
    rcases List.mem_cons.mp hz with rfl | hz
    · exact Nat.le_of_lt hs1
    · obtain ⟨y, hy, rfl⟩ := List.mem_map.mp hz
      exact Nat.le_of_lt (hG.above _ (hS y hy).1)
  have c2 : (((h1.objs.size, HO.lst ((S.map (·.1)).map V.ref)) :: S.map (fun z => (z.1, HO.tup (prI z.2)))).map (·.1)).Nodup := by
    rw [List.map_cons, List.nodup_cons, List.map_map]
    refine ⟨fun m => ?_, nS⟩
    obtain ⟨y, hy, e⟩ := List.mem_map.mp m
    have e : y.1 = h1.objs.size := e
    exact hDas (by rw [← e]; exact (hS y hy).1)
  have c3 : ∀ H' : Hp, (∀ z ∈ (h1.objs.size, HO.lst ((S.map (·.1)).map V.ref)) :: S.map (fun z => (z.1, HO.tup (prI z.2))), H' z.1 = some z.2) → Same H H' → ∀ z ∈ (h1.objs.size, HO.lst ((S.map (·.1)).map V.ref)) :: S.map (fun z => (z.1, HO.tup (prI z.2))), ObjOk X.prog X.w H' h3 z.1 z.2 := fun H' _ _ z hz => by
    rcases List.mem_cons.mp hz with rfl | hz
    · refine ⟨?_, _, e3, LiI.vals_refs _, he3⟩
      rw [List.length_map, List.length_map]
      exact Nat.le_of_lt (small (by omega))
    · obtain ⟨y, hy, rfl⟩ := List.mem_map.mp hz
      obtain ⟨_, x, v, f, rv⟩ := hS y hy
      exact ⟨by show 2 ≤ sizeLine; decide, [x, v], rv, _, kp3 _ _ f, rfl, _, rfl⟩
  obtain ⟨H', sm, ht, I'⟩ := inv_many (tk := tk) I _ kp c1 c2 c3
  have hT : ∀ (T : List (Addr × (Str × Int))), (∀ z ∈ T, H' z.1 = some (HO.tup (prI z.2))) → Paired (fun t q => H' t = some (HO.tup (prI q))) (T.map (·.1)) (T.map (·.2)) := by
    intro T
    induction T with
    | nil => intro _; exact .nil
    | cons z T ih => intro h; exact .cons (h z List.mem_cons_self) (ih fun y hy => h y (List.mem_cons_of_mem _ hy))
  exact ⟨.ref h1.objs.size, H', I', rfl, q H' _ (S.map (·.1)) (S.map (·.2)) sm (ht _ List.mem_cons_self).1 (ht _ List.mem_cons_self).2 pS wS (hT S fun z hz => (ht _ (List.mem_cons_of_mem _ (List.mem_map.mpr ⟨z, hz, rfl⟩))).2)⟩
end
end K45
set_option Elab.async false
set_option linter.all false
set_option maxRecDepth 100000
set_option maxHeartbeats 4000000
/-! rules of our own: sorted of tuples that begin with unlike texts -/
namespace K45
open PySem PySem.Spec PyProof.Rows L2
open PySem.Calls
open PySem.W (SortsAt sortLe)
theorem eqBool_self {M : Model} {A : Around} {E : Value → Shared → Prop} {s : Shared} {v : Value} {Q : Bool → Shared → Prop} (h : Q true s) : wpAny M A (eqBool v v) Q E s := by
  unfold eqBool
  have e : (v == v) = true := beq_self_eq_true v
  refine wpAny_holding ?_
  rw [if_pos e]
  exact wpAny_bind (wpAny_rule (wpAny_pure h))
section
variable {prog : Program} {w : World} {A : Around} {E : Value → Shared → Prop} {s : Shared}
theorem lex_self {b : Bool} {Q : Bool → Shared → Prop} : ∀ (l : List Value) (i : Nat), Q false s → PySem.W.KatLex prog w A b false Q (l.zip l) i s
  | [], i, h => PySem.W.kat_nil h
  | v :: l, i, h => PySem.W.kat_cons (eqBool_self (PySem.W.kat_yes (lex_self l (i + 1) h)))
def nmKey (zs : List (Addr × Str)) (v : Value) : Option (List Nat) := (zs.find? fun z => v == Value.ref z.1).map fun z => z.2.cps.toList
@[reducible] def nmKind (zs : List (Addr × Str)) : PyProof.Rows.KeyKind where
  toKeyOrd := strKind.toKeyOrd
  keyOf := nmKey zs
  dflt := ([] : List Nat)
theorem nmKey_some {zs : List (Addr × Str)} {v : Value} {k : List Nat} (h : nmKey zs v = some k) : ∃ z ∈ zs, v = Value.ref z.1 ∧ k = z.2.cps.toList := by
  unfold nmKey at h
  cases e : zs.find? fun z => v == Value.ref z.1 with
  | none => rw [e] at h; cases h
  | some z =>
    rw [e] at h
    have h1 := List.find?_some e
    exact ⟨z, List.mem_of_find?_eq_some e, eq_of_beq h1, (Option.some.inj h).symm⟩
theorem nmKey_at {zs : List (Addr × Str)} (nd : (zs.map (·.1)).Nodup) {z : Addr × Str} (hz : z ∈ zs) : nmKey zs (Value.ref z.1) = some z.2.cps.toList := by
  unfold nmKey
  induction zs with
  | nil => cases hz
  | cons y zs ih =>
    rw [List.map_cons, List.nodup_cons] at nd
    rw [List.find?_cons]
    rcases List.mem_cons.mp hz with e | hz
    · rw [e]; simp
    · have hne : (Value.ref z.1 == Value.ref y.1) = false := by
        rw [beq_eq_false_iff_ne]
        intro e
        injection e with e
        exact nd.1 (by rw [← e]; exact List.mem_map.mpr ⟨z, hz, rfl⟩)
      simp only [hne]
      exact ih nd.2 hz
/-- the tuple at a begins with this text -/
def Head (h : Heap) (a : Addr) (n : Str) : Prop := ∃ (o : Obj) (t : Tok) (r : List Value) (k : Nat), h.get? a = some o ∧ o.cls = .type "tuple" ∧ o.data = .seq (Value.str n t :: r).toArray k
theorem sorts_heads {zs : List (Addr × Str)} (n1 : (zs.map (·.1)).Nodup) (n2 : (zs.map (·.2)).Nodup) (hd : ∀ z ∈ zs, Head s.heap z.1 z.2) : SortsAt prog w A s (nmKind zs) ((zs.map (·.1)).map Value.ref) := by
  refine ⟨fun v hv => ?_, PyProof.Rows.tuples' true, ?_, ?_⟩
  · obtain ⟨a, ha, rfl⟩ := List.mem_map.mp hv
    obtain ⟨z, hz, rfl⟩ := List.mem_map.mp ha
    exact ⟨_, nmKey_at n1 hz⟩
  · intro E x y a b Q ha hb h
    obtain ⟨z1, hz1, rfl, rfl⟩ := nmKey_some ha
    obtain ⟨z2, hz2, rfl, rfl⟩ := nmKey_some hb
    obtain ⟨o1, t1, r1, k1, ho1, hc1, hd1⟩ := hd z1 hz1
    obtain ⟨o2, t2, r2, k2, ho2, hc2, hd2⟩ := hd z2 hz2
    refine PySem.W.kat_lt ho1 hd1 ho2 hd2 ?_
    by_cases hn : z1.2 = z2.2
    · have hz : z1.1 = z2.1 := by
        have key : ∀ (l : List (Addr × Str)), (l.map (·.2)).Nodup → ∀ x ∈ l, ∀ y ∈ l, x.2 = y.2 → x = y := by
          intro l
          induction l with
          | nil => intro _ x hx; cases hx
          | cons c l ih =>
            intro nd x hx y hy e
            rw [List.map_cons, List.nodup_cons] at nd
            rcases List.mem_cons.mp hx with e1 | hx2
            · rcases List.mem_cons.mp hy with e2 | hy2
              · rw [e1, e2]
              · exact absurd (List.mem_map.mpr ⟨y, hy2, by rw [← e, e1]⟩) nd.1
            · rcases List.mem_cons.mp hy with e2 | hy2
              · exact absurd (List.mem_map.mpr ⟨x, hx2, by rw [e, e2]⟩) nd.1
              · exact ih nd.2 x hx2 y hy2 e
        rw [key zs n2 z1 hz1 z2 hz2 hn]
      rw [hz, ho2] at ho1; cases ho1
      rw [hd2] at hd1
      injection hd1 with e _
      rw [← e]
      have hf : decide ((Value.str z2.2 t2 :: r2).toArray.size < (Value.str z2.2 t2 :: r2).toArray.size) = false := decide_eq_false (Nat.lt_irrefl _)
      rw [hf]
      refine lex_self _ 0 ?_
      have hb : (nmKind zs).blt z1.2.cps.toList z2.2.cps.toList = false := by rw [hn]; exact (nmKind zs).irrefl _
      rw [hb] at h; exact h
    · show PySem.W.KatLex _ _ _ _ _ _ ((Value.str z1.2 t1, Value.str z2.2 t2) :: r1.zip r2) 0 s
      refine PySem.W.kat_cons (wpAny_eqBool_str ?_)
      rw [decide_eq_false hn]
      exact PySem.W.kat_no (oneLt_str h)
  · intro h2 E Q h
    have tups : ∀ (l : List (Addr × Str)), (∀ z ∈ l, Head s.heap z.1 z.2) → ∃ fs : List Value, PySem.W.KatTups s.heap ((l.map (·.1)).map Value.ref) fs ∧ fs.length = l.length ∧ ∀ f ∈ fs, ∃ x t, f = Value.str x t := by
      intro l
      induction l with
      | nil => intro _; exact ⟨[], PySem.W.KatTups.nil, rfl, fun _ h => (nomatch h)⟩
      | cons z l ih =>
        intro hl
        obtain ⟨fs, f1, f2, f3⟩ := ih fun y hy => hl y (List.mem_cons_of_mem _ hy)
        obtain ⟨o, t, r, k, ho, hc, hd⟩ := hl z List.mem_cons_self
        refine ⟨Value.str z.2 t :: fs, PySem.W.KatTups.cons ho hc hd (by simp) f1, by simp [f2], fun f hf => ?_⟩
        rcases List.mem_cons.mp hf with rfl | hf
        · exact ⟨_, _, rfl⟩
        · exact f3 f hf
    obtain ⟨fs, f1, f2, f3⟩ := tups zs hd
    refine PySem.W.kat_kind (T := .type "str") f1 (by simp at h2; omega) (fun v hv => ?_) (by decide) ?_
    · obtain ⟨x, t, rfl⟩ := f3 v hv
      exact PySem.W.Looks.of_pure rfl
    · exact h
end
section
variable {X : Cx}
theorem zip_each : ∀ zs : List (Addr × Str), PySem.W.EachIs (fun v (z : Addr × Str) => v = Value.ref z.1) ((zs.map (·.1)).map Value.ref) zs
  | [] => .nil
  | _ :: zs => .cons rfl (zip_each zs)
def rSortNm (K : PySem.W.Frag) : List V → Hp → VK → Prop := fun vs H Q => ∃ (a : Addr) (zs : List (Addr × Str)), vs = [.ref a] ∧ SqL K H a (zs.map fun z => V.ref z.1) ∧ (∀ z ∈ zs, ∃ r, SqT K H z.1 (V.str z.2 :: r)) ∧ (zs.map (·.1)).Nodup ∧ (zs.map (·.2)).Nodup ∧ zs.length ≤ 1000 ∧
  ∀ (ys : List (Addr × Str)) (l : Addr), ys.Perm zs → ys.Pairwise (fun y z => ¬ z.2.cps.toList < y.2.cps.toList) → H l = none → Q (.ref l) (upd H l (.lst (ys.map fun z => V.ref z.1)))
theorem cr_sortNm : CallR X (.builtin "sorted") (rSortNm X.K) := by
  intro pins s σ H vs us Q I r h
  obtain ⟨a, zs, rfl, hq, hh, n1, n2, hl, q⟩ := h
  obtain ⟨u, rfl, ru⟩ := r.one
  cases ru
  obtain ⟨its, rv, p, hz⟩ := I.list hq
  have em : (zs.map fun z => V.ref z.1) = (zs.map (·.1)).map V.ref := by rw [List.map_map]; rfl
  rw [em] at rv
  have ei := refs_at rv
  subst ei
  have hd : ∀ z ∈ zs, Head s.heap z.1 z.2 := fun z hz => by
    obtain ⟨r, hs⟩ := hh z hz
    obtain ⟨its, rv, ⟨o, ho, hc, k, hd⟩, _⟩ := I.tuple hs
    cases rv with
    | cons r1 r2 =>
      obtain ⟨t, rfl⟩ := r1
      exact ⟨o, t, _, k, ho, hc, hd⟩
  have S : SortsAt X.prog X.w X.A.in1.in1 { s with heap := PySem.W.sortingHeap (PySem.W.copyHeap s.heap ((zs.map (·.1)).map Value.ref)) (s.heap.objs.size + 1) ((zs.map (·.1)).map Value.ref) } (nmKind zs) ((zs.map (·.1)).map Value.ref) :=
    sorts_heads n1 n2 fun z hz => by
      obtain ⟨o, t, r, k, ho, hc, hd⟩ := hd z hz
      exact ⟨o, t, r, k, PySem.W.sorting_copy_old ho, hc, hd⟩
  have hsz : ((zs.map (·.1)).map Value.ref).length ≤ sizeLine := by
    rw [List.length_map, List.length_map]; exact Nat.le_of_lt (small hl)
  refine PySem.W.sorted_vals p.isList S hsz ?_
  have each : PySem.W.EachIs (fun v (z : Addr × Str) => v = Value.ref z.1) ((zs.map (·.1)).map Value.ref) zs := by
    exact zip_each zs
  have keys : PySem.W.EachIs (fun v (z : Addr × Str) => (nmKind zs).keyOf v = some z.2.cps.toList) ((zs.map (·.1)).map Value.ref) zs := by
    refine PySem.W.EachIs.of_zip each.length fun y hy => ?_
    have e := each.zip y hy
    rw [e]
    exact nmKey_at n1 (List.of_mem_zip hy).2
  have out := PySem.W.sortVals_each (rev := false) (κ := nmKind zs) (fun z : Addr × Str => z.2.cps.toList) each keys
  have hp := List.mergeSort_perm zs (sortLe (nmKind zs).toKeyOrd false fun z : Addr × Str => z.2.cps.toList)
  have hw := PySem.W.sort_pairwise (PySem.W.sortLe_total (nmKind zs).toKeyOrd false fun z : Addr × Str => z.2.cps.toList) zs
  generalize zs.mergeSort (sortLe (nmKind zs).toKeyOrd false fun z : Addr × Str => z.2.cps.toList) = ys at out hp hw
  have outs : ∀ {o : List Value} {ys : List (Addr × Str)}, PySem.W.EachIs (fun v (z : Addr × Str) => v = Value.ref z.1) o ys → o = (ys.map (·.1)).map Value.ref := by
    intro o ys e
    induction e with
    | nil => rfl
    | cons h t ih => rw [List.map_cons, List.map_cons, ← ih, h]
  rw [outs out]
  obtain ⟨ep, he⟩ := PyProof.Rows.sortedAll_at s.heap ((zs.map (·.1)).map Value.ref) ((ys.map (·.1)).map Value.ref).toArray
  have new : ObjOk X.prog X.w (upd H (s.heap.objs.size + 1) (.lst (ys.map fun z => V.ref z.1))) (sortedAll s.heap ((zs.map (·.1)).map Value.ref) ((ys.map (·.1)).map Value.ref).toArray) (s.heap.objs.size + 1) (.lst (ys.map fun z => V.ref z.1)) := by
    refine ⟨?_, _, ep, ?_, he⟩
    · rw [List.length_map, hp.length_eq]; exact Nat.le_of_lt (small hl)
    · have e2 : (ys.map fun z => V.ref z.1) = (ys.map (·.1)).map V.ref := by rw [List.map_map]; rfl
      rw [e2]; exact LiI.vals_refs _
  refine ⟨.ref _, _, I.laid (t' := s.toks) (fun _ _ => PyProof.Rows.sortedAll_old) (Nat.le_succ _) new, rfl, q ys _ hp (hw.imp fun {y z} h => ?_) (I.hok.fresh (Nat.le_succ _))⟩
  have h : (!decide (z.2.cps.toList < y.2.cps.toList)) = true := h
  simpa using h
end
end K45
set_option Elab.async false
set_option linter.all false
set_option maxRecDepth 100000
set_option maxHeartbeats 4000000
/-! rules of our own: a lambda of one parameter, sorted(x, key=lambda ..) -/
namespace K45
open PySem PySem.Spec PyProof.Rows L2 LamX
/-- one parameter x; else captured names and globals -/
structure LamP (sc scope : Scope) (x : Str) : Prop where
  kind : scope.kind = .function
  co : scope.isCoroutine = false
  gen : scope.isGenerator = false
  par : scope.names.lookup x = some .local
  own : ∀ y ∈ scope.names, (y.2 = .local → y.1 = x) ∧ y.2 ≠ .cell
  free : ∀ y ∈ scope.names, y.2 = .free → sc.names.lookup y.1 = some .cell ∨ sc.names.lookup y.1 = some .free
def lamPB (sc scope : Scope) (x : Str) : Bool :=
  decide (scope.kind = .function) && !scope.isCoroutine && !scope.isGenerator && decide (scope.names.lookup x = some .local) && scope.names.all fun y => (!decide (y.2 = .local) || decide (y.1 = x)) && !decide (y.2 = .cell) && (!decide (y.2 = .free) || decide (sc.names.lookup y.1 = some .cell) || decide (sc.names.lookup y.1 = some .free))
theorem lamP_by {sc scope : Scope} {x : Str} (h : lamPB sc scope x = true) : LamP sc scope x := by
  unfold lamPB at h
  simp only [Bool.and_eq_true, Bool.or_eq_true, Bool.not_eq_true', decide_eq_true_eq, decide_eq_false_iff_not, List.all_eq_true] at h
  obtain ⟨⟨⟨⟨h1, h2⟩, h3⟩, h5⟩, h4⟩ := h
  refine ⟨h1, h2, h3, h5, fun y hy => ⟨fun e => (h4 y hy).1.1.resolve_left fun z => z e, (h4 y hy).1.2⟩, fun y hy e => ?_⟩
  rcases (h4 y hy).2 with (z | z) | z
  · exact absurd e z
  · exact .inl z
  · exact .inr z
section
variable {X : Cx} {pins : List (Addr × Obj)} {σ : L2.St} {H : Hp} {s : Shared}
theorem LamP.has {scope : Scope} {x : Str} (L : LamP X.env.scope scope x) (ok : X.Ok) : ∀ y ∈ scope.names, y.2 = .free → ∃ c, X.env.cells.lookup y.1 = some c := fun y hy e => by
  rcases L.free y hy e with k | k
  · exact ok.has _ (.inl k)
  · exact ok.has _ (.inr k)
theorem lam_start1 {A : Around} {E : XK} {scope : Scope} {x : Str} {i : Nat} {v : V} {u : Value} {f c' : Addr} {h₁ : Heap} {tk : Nat} (I : L2.Inv X pins σ H s) (L : LamP X.env.scope scope x) (hN : X.N.Nodup) (hi : X.N[i]? = some x) (rv : RelV v u)
    (e0 : Env0 X.prog X.w X.K X.mg X.base A X.stack s H) (hd : A.handled = none) (hns : h₁.Ns s.heap.objs.size fun y => [(x, u)].reverse.lookup y) (kp : ∀ b o, s.heap.get? b = some o → h₁.get? b = some o) :
    L2.Inv (lamCx X A X.stack s H E scope f c') [] (σ.set i (some v)) H { s with heap := h₁, toks := tk } := by
  have hfree := L.has I.ok
  have cm : ∀ {y c}, (cloFrom X.env.cells scope.names []).lookup y = some c → X.env.cells.lookup y = some c := fun {y c} e => by
    rcases cloFrom_mem (PySem.mem_of_lookup e) with hm | ⟨h1, h2⟩
    · cases hm
    · obtain ⟨c1, hc⟩ := hfree _ h1 rfl
      have hc : X.env.cells.lookup y = some c1 := hc
      have e2 : c = c1 := by
        rw [h2, hc] <;> rfl
      rw [e2]
      exact hc
  have look : ∀ {y}, scope.names.lookup y = some .free → ∃ c, (cloFrom X.env.cells scope.names []).lookup y = some c := fun {y} hl => by
    have hy : (y, NameKind.free) ∈ scope.names := PySem.mem_of_lookup hl
    exact mem_lookup (cloFrom_has (cells := X.env.cells) (acc := []) hy)
  have cellK : ∀ {c : Addr} {v : Option Value}, s.heap.IsCell c v → h₁.IsCell c v := fun {c v} ⟨o, ho, hd⟩ => ⟨_, kp _ _ ho, hd⟩
  have noA : ∀ b : Addr, b ∉ (lamCx X A X.stack s H E scope f c').ex := fun b z => absurd (show b ∈ ([] : List Addr) from z) (by simp)
  refine ⟨⟨e0.mod, L.kind, rfl, rfl, Nat.le_refl _, fun y z c e1 e2 => I.ok.inj y z c (cm e1) (cm e2), fun y hy => ?_, fun y c z _ => ?_, fun _ => hd, Around.frames_deeper e0.frames, .inr ⟨rfl, rfl⟩, fun b z => absurd z (noA b), e0.bs, e0.bsz, fun b _ _ => noA b,
      fun b z => absurd z (noA b), e0.funs, e0.frf⟩,
    rfl, e0.bare, Un.kept kp, ⟨_, hns, fun j y w e1 e2 e3 => ?_⟩, fun y c e => ?_, e0.hok.fresh (Nat.le_refl _), fun y c e => ?_, fun q hq => absurd (show q ∈ ([] : List (Addr × Obj)) ++ [] from hq) (by simp), e0.hok.kept kp, by rw [List.length_set]; exact I.len⟩
  · have hy : scope.names.lookup y = some .cell ∨ scope.names.lookup y = some .free := hy
    rcases hy with hy | hy
    · exact absurd rfl (L.own _ (PySem.mem_of_lookup hy)).2
    · exact look hy
  · have z : false = true := z
    cases z
  · have e3 : Vis scope y := e3
    have e1 : X.N[j]? = some y := e1
    rcases e3 with k | k | k
    · have ey : y = x := (L.own _ (PySem.mem_of_lookup k)).1 rfl
      subst ey
      have ej : j = i := nodup_ix hN e1 hi
      subst ej
      have hjl : j < σ.length := by
        rw [I.len]; exact (List.getElem?_eq_some_iff.mp hi).1
      rw [List.getElem?_set_self hjl] at e2
      cases e2
      exact ⟨u, rv, .inl ⟨k, by simp⟩⟩
    · exact absurd rfl (L.own _ (PySem.mem_of_lookup k)).2
    · have hji : j ≠ i := fun z => by
        subst z
        rw [hi] at e1; cases e1
        rw [L.par] at k; cases k
      rw [List.getElem?_set_ne (Ne.symm hji)] at e2
      obtain ⟨m, hn, hl⟩ := I.loc
      have hvis : Vis X.env.scope y := (L.free _ (PySem.mem_of_lookup k) rfl).elim (fun k => .inr (.inl k)) (fun k => .inr (.inr k))
      obtain ⟨w', r, q⟩ := hl j y w e1 e2 hvis
      obtain ⟨c2, h2⟩ := look k
      refine ⟨w', r, .inr ⟨.inr k, c2, h2, ?_⟩⟩
      have c1 := cm h2
      rcases q with ⟨k', _⟩ | ⟨_, c3, e', z⟩
      · have k' : X.env.scope.names.lookup y = some .local := k'
        rcases L.free _ (PySem.mem_of_lookup k) rfl with k2 | k2 <;> rw [show X.env.scope.names.lookup y = _ from k2] at k' <;> cases k'
      · rw [c1] at e'
        cases e'
        exact cellK z
  · obtain ⟨w', z⟩ := I.cell y c (cm e)
    exact ⟨w', cellK z⟩
  · exact I.freeC y c (cm e)
/-- the lambda called -/
theorem lam_call {A : Around} {scope : Scope} {x : Str} {i k : Nat} {v : V} {u : Value} {f c' : Addr} {params : Arguments} {body : Expr} {pm ctv : Value} {tb : TE} {Q : VK} {E' : Value → Shared → Prop} (I : L2.Inv X pins σ H s) (L : LamP X.env.scope scope x) (hN : X.N.Nodup) (hi : X.N[i]? = some x) (rv : RelV v u)
    (e0 : Env0 X.prog X.w X.K X.mg X.base A X.stack s H) (hr : Room (k + 1) A)
    (hf : s.heap.get? f = some (PySem.W.kla_obj "<lambda>" (X.env.qual ++ "<lambda>") params body scope (cloFrom X.env.cells scope.names []) pm c' ctv)) (hc : H c' = some (CodeO c' (X.env.qual ++ "<lambda>")))
    (hbind : bindArgs (PySem.W.kla_fn "<lambda>" (X.env.qual ++ "<lambda>") params body scope (cloFrom X.env.cells scope.names []) pm (.ref c') ctv) ⟨[u], []⟩ = pure [(x, u)])
    (hbody : Room k (A.deeper (lamEnv X scope s.heap.objs.size f c')) → PE (lamCx X A X.stack s H E0 scope f c').nox body tb) (ht : tb (σ.set i (some v)) H Q) :
    wpAny (model X.prog X.w) A (call (.ref f) [u]) (CE X.stack X.prog X.w H s Q) E' s := by
  obtain ⟨⟨oc, vs, t, hoc, hdc, hvc⟩, _, _⟩ := I.hok c' _ hc
  have rc : codeAny (model X.prog X.w) A (.call (.ref f) ⟨[u], []⟩) (fun r s' => ∃ w', r = .ok (.ret w') ∧ CE X.stack X.prog X.w H s Q w' s') s := by
    refine PySem.W.kla_callFunE hr.depth hf rfl L.co L.gen rfl ⟨c', oc, vs, t, rfl, hoc, hdc, hvc⟩ ?_
    rw [hbind]
    refine wpAny_pure (wpAny_newFunctionEnv (fun y hy => (L.own y hy).2) (fun y hy => by rw [List.mem_singleton.mp hy]; exact L.par) (fun h₁ hns hsb => ⟨I.nolimit.fresh _ hsb, ?_⟩) L.kind)
    show codeAny _ _ (.expr body (lamEnv X scope s.heap.objs.size f c')) _ _
    have kp : ∀ b o, s.heap.get? b = some o → h₁.get? b = some o := fun b o e => hsb.extBut b o (Nat.ne_of_lt (Heap.lt_size e)) (Heap.get?_push_of_some _ e)
    have J : L2.Inv (lamCx X A X.stack s H E0 scope f c') [] (σ.set i (some v)) H { s with heap := h₁, toks := s.toks + [(x, u)].length } :=
      lam_start1 I L hN hi rv e0 hr.hd hns kp
    refine PySem.W.kla_codeExpr (wpAny_mono ((hbody (hr.deeper _)).run [] _ _ H Q (J.wish _) ht) (fun v s' hq => ?_) fun e s' hq => hq.elim)
    obtain ⟨w', H', J', rv, q⟩ := hq
    have J' := J'.unwish
    exact ⟨_, rfl, w', H', J'.os, J'.bare, J'.base, J'.hok, rv, q⟩
  exact wpAny_call (codeAny_mono rc fun r s' ⟨w', e, q⟩ => by rw [e]; exact q)

/-! ### what can be read off in a row -/
def ColV (K : PySem.W.Frag) (H : Hp) (a : Addr) (ns : List Str) : Prop := SqL K H a (ns.map V.str) ∨ SqT K H a (ns.map V.str) ∨ ∃ kvs : List (Key × V), Rd H a (.dK kvs) ∧ kvs.map (·.1) = ns.map Sum.inr
theorem col_ok {A : Around} {a : Addr} {ns : List Str} {R : List Value → Shared → Prop} {E' : Value → Shared → Prop} (I : L2.Inv X pins σ H s) (hh : A.handled = none) (hc : ColV X.K H a ns) (hl : ns.length ≤ 1000)
    (q : ∀ us h' tk, Vals (ns.map V.str) us → (∀ b o, s.heap.get? b = some o → h'.get? b = some o) → R us { s with heap := h', toks := tk }) : wpAny (model X.prog X.w) A (collect (.ref a)) R E' s := by
  have hsl : ns.length ≤ sizeLine := Nat.le_of_lt (small hl)
  rcases hc with h | h | ⟨kvs, hd, hks⟩
  · obtain ⟨its, rv, ⟨o, n, ho, hc, _, hd⟩, hz⟩ := I.list h
    refine wpAny_collect_seq a (.inl rfl) ho hc hd (fun h' k => ?_) (by rw [List.size_toArray, ← rv.length]; exact hz)
    exact q its h' s.toks rv k
  · obtain ⟨its, rv, ⟨o, ho, hc, n, hd⟩, hz⟩ := I.tuple h
    refine wpAny_collect_seq a (.inr rfl) ho hc hd (fun h' k => ?_) (by rw [List.size_toArray, ← rv.length]; exact hz)
    exact q its h' s.toks rv k
  · obtain ⟨z, lo, vs, rel, dd⟩ := dk_rd I.hok hd
    obtain ⟨ep, hat⟩ := dd.dictAt
    have hkeys : vs.map (·.1) = ns.map Sum.inr := rel.keys.symm.trans hks
    have hlv : vs.length = ns.length := by
      have e := congrArg List.length hkeys
      rw [List.length_map, List.length_map] at e
      exact e
    refine PySem.W.kdu_collect (A := A) (PySem.W.kdl_dict (knd := mixKind X.prog X.w) (kvs := vs) (ep := ep) lo) hh hat (by rw [hlv]; exact hsl) fun h' tk acc hk hacc => ?_
    have hal : acc.toList.length = vs.length := by rw [Array.length_toList, hacc.1]
    have hS := L2.keys_at (us := acc.toList) (vs := vs) hal fun j v e => by
      obtain ⟨k, x, e1, e2⟩ := hacc.2 j v (by rw [← Array.getElem?_toList]; exact e)
      exact ⟨k, x, e1, e2⟩
    refine q acc.toList h' tk ?_ hk
    have e : vs.map (fun p => kV p.1) = ns.map V.str := by
      have : vs.map (fun p => kV p.1) = (vs.map (·.1)).map kV := by rw [List.map_map]; rfl
      rw [this, hkeys, List.map_map]; rfl
    rw [← e]; exact hS
theorem each_strs : ∀ {us : List Value} {ns : List Str}, Vals (ns.map V.str) us → PySem.W.EachIs (fun v n => ∃ t, v = Value.str n t) us ns
  | us, [], h => by cases h; exact .nil
  | us, n :: ns, h => by
    rw [List.map_cons] at h
    cases h with
    | cons r t => exact .cons r (each_strs t)
theorem strs_each : ∀ {us : List Value} {ns : List Str}, PySem.W.EachIs (fun v n => ∃ t, v = Value.str n t) us ns → Vals (ns.map V.str) us
  | _, _, .nil => .nil
  | _, _, .cons h t => .cons h (strs_each t)
theorem FpOk.nfr {b : Addr} (I : L2.Inv X pins σ H s) (f : FpOk X pins H b) : b ∉ frs X.stack := fun z => by
  rcases List.mem_cons.mp (I.stkSub _ z) with e | e
  · exact f.2.1 e
  · exact f.2.2.1 e
/-- list.sort with a key of ours; the list's object and the keys' are not yet tracked -/
theorem list_sort_lam {A : Around} {a f : Addr} {fo : Obj} {vs : List Value} {ns : List Str} {kf : Str → List V} {P : PySem.Fin → Shared → Prop} {E' : Value → Shared → Prop} (I : L2.Inv X pins σ H s) (ho : s.heap.get? a = some (seqObj "list" vs.toArray 0)) (fa : FpOk X pins H a)
    (rv : Vals (ns.map V.str) vs) (hl : ns.length ≤ 1000) (hu : A.units + 64 < cLine) (flat : ∀ b, ∀ x ∈ kf b, isFlatP x = true) (ne : ∀ b, kf b ≠ []) (al : ∀ a b, PySem.W.alike (encT (kf a)) (encT (kf b)) = true)
    (hf : s.heap.get? f = some fo) (hfn : H f = none) (hfr : f ∉ frs X.stack) (hfa : f ≠ a)
    (turn : ∀ (n : Str) (u : Value) (H' : Hp) (s' : Shared), n ∈ ns → RelV (.str n) u → L2.Inv X pins σ H' s' → Same H H' → s'.heap.get? f = some fo →
      wpAny (model X.prog X.w) A (call (.ref f) [u]) (CE X.stack X.prog X.w H' s' (fun v H4 => Same H' H4 ∧ ∃ t, v = .ref t ∧ SqT X.K H4 t (kf n))) (fun _ _ => False) s')
    (h : ∀ (ms : List Str) (H' : Hp) (s' : Shared), ms.Perm ns → ms.Pairwise (fun a b => leT kf a b = true) → Same H H' → H' a = none → L2.Inv X pins σ (upd H' a (.lst (ms.map V.str))) s' → P (.done (.ret .none)) s') :
    wpAny (model X.prog X.w) A (Builtin.«list.sort» ⟨[.ref a], [(Str.ofString "key", .ref f)]⟩) P E' s := by
  rw [ksk_t1]
  have hvn : vs.length = ns.length := by rw [← rv.length, List.length_map]
  have hZ : vs.length ≤ sizeLine := by rw [hvn]; exact Nat.le_of_lt (small hl)
  have ha : a < s.heap.objs.size := Heap.lt_size ho
  obtain ⟨e1, ho1⟩ : ∃ e1, (s.heap.update a (Obj.mapSeq fun _ => (#[] : Array Value))).get? a = some (seqObj "list" #[] e1) := ⟨_, PyProof.Rows.get?_update_seq ho fun _ => #[]⟩
  have s1 := Heap.SameBut.update s.heap a (Obj.mapSeq fun _ => (#[] : Array Value))
  unfold ksk_tree
  refine wpAny_bind (listItems_at ho rfl ?_)
  refine wpAny_bind (listUpdate_at ho rfl ?_ (by rw [List.size_toArray]; exact hZ) (Nat.zero_le _))
  refine wpAny_bind (seqEpoch_at ho1 rfl ?_)
  refine wpAny_bind (wpAny_newTuple ?_ (by show vs.length ≤ _; exact hZ))
  refine wpAny_bind (wpAny_newList ?_ (Nat.zero_le _))
  refine wpAny_holding ?_
  generalize hkS : ((s.heap.update a (Obj.mapSeq fun _ => (#[] : Array Value))).push (seqObj "tuple" vs.toArray 0)).objs.size = kS
  have hkz : kS = s.heap.objs.size + 1 := by rw [← hkS, PyProof.Rows.size_push', Heap.size_update]
  have hka : kS ≠ a := by rw [hkz]; exact Nat.ne_of_gt (Nat.lt_succ_of_lt ha)
  have I0 : L2.Inv X pins σ H { s with heap := ((s.heap.update a (Obj.mapSeq fun _ => (#[] : Array Value))).push (seqObj "tuple" vs.toArray 0)).push (seqObj "list" #[] 0) } :=
    (I.turned (t' := s.toks) (it := a) (fun b o hb q => Heap.get?_push_of_some _ (Heap.get?_push_of_some _ ((s1.2 b hb).trans q))) fa.1 fa.2.1 fa.2.2.2.1 fa.2.2.2.2.1 fa.2.2.2.2.2)
  have fk : FpOk X pins H kS := I.fpOk (by rw [hkz]; exact Nat.le_succ _) (I.hok.fresh (by rw [hkz]; exact Nat.le_succ _))
  have gkS : (((s.heap.update a (Obj.mapSeq fun _ => (#[] : Array Value))).push (seqObj "tuple" vs.toArray 0)).push (seqObj "list" #[] 0)).get? kS = some (seqObj "list" #[] 0) := by rw [← hkS]; exact Heap.get?_push_size _ rfl
  have hfk : f ≠ kS := by rw [hkz]; exact Nat.ne_of_lt (Nat.lt_succ_of_lt (Heap.lt_size hf))
  unfold ksk_rest
  refine wpAny_bind (wpAny_rule ?_)
  first
    | rw [List.forIn_toArray]
    | (rw [← Array.forIn_toList]; simp only [List.toList_toArray])
    | rw [← Array.forIn_toList]
  refine wpAny_bind (ksk_fold (fun i s' => ∃ Hi kA e, L2.Inv X pins σ Hi s' ∧ Same H Hi ∧ FpOk X pins Hi a ∧ FpOk X pins Hi kS ∧ Hi f = none ∧ s'.heap.get? f = some fo ∧ s'.heap.get? kS = some (seqObj "list" kA e) ∧ s'.heap.get? a = some (seqObj "list" #[] e1) ∧
      PySem.W.EachIs (fun v n => ∃ t, v = Value.ref t ∧ SqT X.K Hi t (kf n)) kA.toList (ns.take i)) vs 0 _
    ⟨H, #[], 0, I0, Same.refl H, fa, fk, hfn, Heap.get?_push_of_some _ (Heap.get?_push_of_some _ ((s1.2 f hfa).trans hf)), gkS, Heap.get?_push_of_some _ (Heap.get?_push_of_some _ ho1), by rw [List.take_zero]; exact .nil⟩ ?step ?done)
  case step =>
    rintro j x s' hx ⟨Hi, kA, e, I', sm, fa', fk', hfn', hf', nk, na, hk⟩
    simp only [Nat.zero_add] at hk ⊢
    have hj : j < vs.length := (List.getElem?_eq_some_iff.mp hx).1
    have hjn : j < ns.length := by omega
    have hn : ns[j]? = some ns[j] := List.getElem?_eq_getElem hjn
    have rx : RelV (.str ns[j]) x := by
      obtain ⟨u, hu, ru⟩ := rv.get (i := j) (x := .str ns[j]) (by rw [List.getElem?_map, hn]; rfl)
      rw [hx] at hu; cases hu; exact ru
    have hz : kA.size ≤ vs.length := by
      have h1 := hk.length
      rw [Array.length_toList, List.length_take] at h1
      omega
    refine wpAny_bind (wpAny_attempt (wpAny_mono (turn ns[j] x Hi s' (List.getElem_mem _) rx I' sm hf') (fun v s'' he => ?_) fun _ _ hF => hF.elim))
    obtain ⟨w', H4, os, bare, un, hok, rw', sm4, t, rfl, ht⟩ := he
    cases rw'
    have I4 : L2.Inv X pins σ H4 s'' := I'.call' (ch := []) os un hok bare (fun b z => absurd z (by simp))
    have nk2 : s''.heap.get? kS = some (seqObj "list" kA e) := un.keep _ _ nk fk'.1 (FpOk.nfr I' fk') (by simp)
    have na2 : s''.heap.get? a = some (seqObj "list" #[] e1) := un.keep _ _ na fa'.1 (FpOk.nfr I' fa') (by simp)
    have nf2 : s''.heap.get? f = some fo := un.keep _ _ hf' hfn' hfr (by simp)
    have hfn4 : H4 f = none := un.free _ _ hf' hfn' (by simp)
    have fa4 : FpOk X pins H4 a := ⟨un.free _ _ na fa'.1 (by simp), fa'.2⟩
    have fk4 : FpOk X pins H4 kS := ⟨un.free _ _ nk fk'.1 (by simp), fk'.2⟩
    try dsimp only
    have s2 := Heap.SameBut.update s''.heap kS (Obj.mapSeq (·.push (Value.ref t)))
    obtain ⟨c2, hc2⟩ : ∃ c2, (s''.heap.update kS (Obj.mapSeq (·.push (Value.ref t)))).get? kS = some (seqObj "list" (kA.push (Value.ref t)) c2) := ⟨_, PyProof.Rows.get?_update_seq nk2 (·.push (Value.ref t))⟩
    have ek : ns.take (j + 1) = ns.take j ++ [ns[j]] := by rw [List.take_add_one, hn]; simp
    have ea : (kA.push (Value.ref t)).toList = kA.toList ++ [Value.ref t] := by simp
    refine wpAny_bind (listUpdate_at nk2 rfl ?_ (Nat.le_trans hz hZ) (Nat.le_trans (Nat.le_of_eq (Array.size_push ..)) (Nat.succ_le_succ (Nat.le_trans hz hZ))))
    refine wpAny_pure ⟨rfl, H4, kA.push (Value.ref t), c2, ?_, sm.trans sm4, fa4, fk4, hfn4, (s2.2 f hfk).trans nf2, hc2, (s2.2 a hka.symm).trans na2, ?_⟩
    · exact I4.turned (t' := s''.toks) (it := kS) (fun b o hb q => (s2.2 b hb).trans q) fk4.1 fk4.2.1 fk4.2.2.2.1 fk4.2.2.2.2.1 fk4.2.2.2.2.2
    · rw [ea, ek]
      refine PySem.W.each_snoc ⟨t, rfl, ht⟩ (hk.mono fun v n ⟨t, e, q⟩ => ⟨t, e, ?_⟩)
      exact q.imp (fun z => rd_same sm4 z) id
  case done =>
    rintro s' ⟨Hi, kA, e, I', sm, fa', fk', hfn', hf', nk, na, hk⟩
    have e3 : ns.take (0 + vs.length) = ns := List.take_of_length_le (by omega)
    rw [e3] at hk
    have hsz : kA.size = vs.length := by
      have h1 := hk.length
      rw [Array.length_toList] at h1
      omega
    have hal := PySem.W.AllAlike.of (bs := ns) al
    have hkd : PySem.W.EachIs (fun v k => ∃ as, Reads s'.heap v k as) kA.toList (ns.map fun n => encT (kf n)) := by
      have key : ∀ {us : List Value} {ks : List Str}, PySem.W.EachIs (fun v n => ∃ t, v = Value.ref t ∧ SqT X.K Hi t (kf n)) us ks → PySem.W.EachIs (fun v k => ∃ as, Reads s'.heap v k as) us (ks.map fun n => encT (kf n)) := by
        intro us ks h
        induction h with
        | nil => exact .nil
        | cons h t ih => exact .cons (by obtain ⟨t, rfl, q⟩ := h; exact ⟨[], reads_tup (K := X.K) I' q (flat _)⟩) ih
      exact key hk
    try dsimp only
    refine wpAny_bind (listItems_at nk rfl ?_)
    refine PySem.W.keyH_end (κ := PySem.W.dataKind s'.heap (ns.map fun n => encT (kf n))) (h₁ := PySem.W.hideAll s'.heap [kS]) (fun b o _ q => PySem.W.of_hideAll _ q) ?_ nk na hka
      (PySem.W.SortsAt.data hkd hal (PySem.W.Sortable.tuples fun b => ?_) (fun d hd => ?_)) hsz hZ fun h3 tk3 c k3 n3 => ?_
    · exact PySem.W.hideAll_none [kS] (by simp)
    · cases e : kf b with
      | nil => exact absurd e (ne b)
      | cons x r => exact ⟨flatP x, r.map flatP, rfl⟩
    · obtain ⟨n, _, rfl⟩ := List.mem_map.mp hd
      rw [depth_enc]; omega
    · have ko : PySem.W.KeyedOut false (ns.map fun n => encT (kf n)) vs (PySem.W.sortVals (PySem.W.dataKind s'.heap (ns.map fun n => encT (kf n))) false kA.toList vs) := ⟨s'.heap, kA.toList, hal, rfl, hkd⟩
      have each := PySem.W.keyedOut_each (R := fun v n => ∃ t, v = Value.str n t) (fun n => encT (kf n)) ko (each_strs rv)
      have vs' := strs_each each
      refine h _ Hi _ (List.mergeSort_perm _ _) (PySem.W.sort_pairwise (leT_total kf) ns) sm fa'.1 ?_
      have kept : ∀ b o, b ∉ [kS, a] → s'.heap.get? b = some o → h3.get? b = some o := fun b o hb q => by
        have h1 : b ≠ kS := fun z => hb (by simp [z])
        have h2 : b ≠ a := fun z => hb (by simp [z])
        exact k3 b o h2 (PySem.W.hideAll_get _ q (by simpa using h1))
      have hfp : ∀ b ∈ [kS, a], FpOk X pins Hi b := fun b hb => by
        have : b = kS ∨ b = a := by simpa using hb
        rcases this with rfl | rfl
        · exact fk'
        · exact fa'
      have nit : ∀ b u, Hi b = some u → b ∉ [kS, a] := fun b u e z => by
        have q := (hfp b z).1
        rw [q] at e; cases e
      have hna := fa'.1
      refine I'.step (g' := s'.gens) (d' := s'.drawn) (ch := [kS, a]) (fun b hb => ⟨(hfp b hb).2.2.2.1, (hfp b hb).2.1, (hfp b hb).2.2.2.2.1, (hfp b hb).2.2.2.2.2⟩) (fun b o _ _ hc e _ => kept b o hc e) (fun b o _ _ hc e _ => ⟨o.slots, kept b o hc e⟩)
        (fun b o hc e n => ?_) (fun b o hc e => ⟨o, kept b o hc e⟩) (fun b xs e => ?_) (fun b o u e => ?_) (fun b ps e => ⟨#[], ?_⟩) (fun m hm => ?_) (fun b u e => ?_) I'.bare
      · rw [upd_ne (fun z => hc (by simp [z]))]; exact n
      · rw [upd_ne (ne_of_none e hna)]; exact e
      · rw [upd_ne (ne_of_none e hna)]; exact e
      · rw [upd_ne (ne_of_none e hna), e]; simp
      · obtain ⟨o, es, ep, ho, r⟩ := hm
        exact ⟨o, es, ep, kept _ o (fun z => (hfp _ z).2.1 rfl) ho, r⟩
      · by_cases hb : b = a
        · subst hb
          rw [upd_same] at e
          cases e
          refine ⟨?_, _, c, vs', n3⟩
          rw [List.length_map, List.length_mergeSort]; exact Nat.le_of_lt (small hl)
        · rw [upd_ne hb] at e
          refine (I'.hok b u e).stay (fun c v hc q => kept c v ?_ q) (fun c q => by rw [upd_ne (ne_of_none q hna)]; exact q) fun c xs q => by rw [upd_ne (ne_of_none q hna)]; exact q
          rcases hc with z | z
          · rw [z]; exact nit b u e
          · exact nit c _ z

/-- sorted(e, key=lambda x: ..): ns, what e gives in a row; kf, the keys -/
def tSortLam (K : PySem.W.Frag) (T : List (Addr × Str)) (i : Nat) (ta : TA) (tb : TE) : TE := fun σ H Q => ta σ H fun vs H1 => ∃ (a : Addr) (ns : List Str) (kf : Str → List V), vs = [.ref a] ∧ Tabs T H1 ∧ ∀ H2, ExtN H1 H2 → Tabs T H2 →
  ColV K H2 a ns ∧ ns.length ≤ 1000 ∧ (∀ b, ∀ x ∈ kf b, isFlatP x = true) ∧ (∀ b, kf b ≠ []) ∧ (∀ a b, PySem.W.alike (encT (kf a)) (encT (kf b)) = true) ∧
  (∀ n ∈ ns, ∀ H3, Same H2 H3 → tb (σ.set i (some (.str n))) H3 fun v H4 => Same H3 H4 ∧ ∃ t, v = .ref t ∧ SqT K H4 t (kf n)) ∧
  ∀ (ms : List Str) (H3 : Hp) (l : Addr), ms.Perm ns → ms.Pairwise (fun a b => leT kf a b = true) → Same H2 H3 → H3 l = none → Q (.ref l) (upd H3 l (.lst (ms.map V.str)))
theorem pe_sortLam {T : List (Addr × Str)} {c P : Addr} {e : Expr} {ta : TA} {tb : TE} {params : Arguments} {body : Expr} {scope : Scope} {x : Str} {i k : Nat} {p lpos kpos pos : Pos} (hg : Gl X "sorted") (hm : X.mg "sorted" = none) (hc : X.calm = true) (hN : X.N.Nodup) (hr : Room (k + 5) X.A) (ha : PA X [e] ta)
    (TB : TabB X.base X.mg c P) (hcode : X.env.code = .ref c) (hmT : (P, X.env.qual ++ "<lambda>") ∈ T) (hu : ∀ p ∈ T, p.1 = P → p.2 = X.env.qual ++ "<lambda>") (L : LamP X.env.scope scope x) (hi : X.N[i]? = some x)
    (hbody : ∀ (A : Around) (s : Shared) (H : Hp) (f c' : Addr), Room k (A.deeper (lamEnv X scope s.heap.objs.size f c')) → PE (lamCx X A X.stack s H E0 scope f c').nox body tb)
    (hbind : ∀ (q : Str) (cl : List (Str × Addr)) (pm cv ctv u : Value), bindArgs (PySem.W.kla_fn "<lambda>" q params body scope cl pm cv ctv) ⟨[u], []⟩ = pure [(x, u)] := by intros; rfl)
    (hdef : defaultsOf params X.env = ([], []) := by rfl)
    (he : backTo pos (starEach [e] X.env) = (false, eval e X.env) :: backTo pos (starEach [] X.env) := by rfl) (hpl : (backTo pos (starEach [e] X.env)).any (·.1) = false := by rfl) :
    PE X (.Call (.Name "sorted" p) [e] [⟨some "key", .Lambda params body scope lpos, kpos⟩] pos) (tSortLam X.K T i ta tb) := by
  refine ⟨fun pins s σ H Q I h => ?_⟩
  refine wpAny_Call_Name_kw (ld_blt I hg hm PyProof.Rows.boot_sorted ?_)
  refine PyProof.Rows.callWith_kw (thn (ha.run pos pins s σ H _ I h) fun us s1 ⟨vs, H1, I1, r1, q1⟩ => ?_) he hpl (by rfl) (by rfl)
  obtain ⟨a, ns, kf, rfl, hT, q⟩ := q1
  obtain ⟨u, rfl, ru⟩ := r1.one
  cases ru
  show wpAny _ _ (evalAll ((do let v ← eval (.Lambda params body scope lpos) X.env; standAt pos; pure v) :: [])) _ _ s1
  refine wpAny_evalAll_cons (wpAny_bind (lam_make2 I1 TB hcode hmT hu hT hdef (L.has I1.ok) fun f c' pm ctv H2 s2 I2 hE hT2 hf hfn hfr hc' => wpAny_bind (wpAny_standAt (wpAny_pure (wpAny_evalAll_nil ?_)))))
  show wpAny _ _ (call (.builtin "sorted") [.ref a] [(Str.ofString "key", .ref f)]) _ _ s2
  obtain ⟨col, hl, flat, ne, al, turn, fin⟩ := q H2 hE hT2
  have hd : X.A.handled = none := I2.ok.hd hc
  have hsl : ns.length ≤ sizeLine := Nat.le_of_lt (small hl)
  refine PyProof.Rows.call_function_entry_kw PyProof.Rows.kind_sorted PyProof.Rows.plain_sorted PyProof.Rows.entry_sorted (ksk_s1 _ _) ?_
  unfold Builtin.«sorted»
  refine wpAny_bind (m := checkCount "sorted" 1 1 _) (wpAny_pure ?_)
  refine wpAny_bind (col_ok (A := X.A.in1) I2 hd col hl fun us h' tk rv hk => ?_)
  have I3 : L2.Inv X pins σ H2 { s2 with heap := h', toks := tk } := I2.kept hk
  have hul : us.length = ns.length := by rw [← rv.length, List.length_map]
  refine wpAny_bind (wpAny_newList ?_ (by show us.length ≤ _; rw [hul]; exact hsl))
  have hoL : (h'.push (seqObj "list" us.toArray 0)).get? h'.objs.size = some (seqObj "list" us.toArray 0) := Heap.get?_push_size _ rfl
  have I4 : L2.Inv X pins σ H2 { s2 with heap := h'.push (seqObj "list" us.toArray 0), toks := tk } := I3.kept (t' := tk) fun b o e => Heap.get?_push_of_some _ e
  have fp : FpOk X pins H2 h'.objs.size := I3.fpOk (Nat.le_refl _) (I3.hok.fresh (Nat.le_refl _))
  show wpAny _ _ _ _ _ { s2 with heap := h'.push (seqObj "list" us.toArray 0), toks := tk }
  refine wpAny_bind (wpAny_holding (PyProof.Rows.wpAny_call_entry_kw PyProof.Rows.slot_list_sort ⟨_, hoL, rfl⟩ PyProof.Rows.entry_list_sort ?_ (ksk_l1 _ _)))
  show wpAny _ X.A.in1.in1 (Builtin.«list.sort» ⟨[.ref h'.objs.size], [(Str.ofString "key", .ref f)]⟩) _ _ _
  have hf' : h'.get? f = some _ := hk _ _ hf
  refine list_sort_lam (kf := kf) I4 hoL fp rv hl (show X.A.units + 1 + 1 + 64 < cLine by have := hr.un; omega) flat ne al (Heap.get?_push_of_some _ hf') hfn hfr (Nat.ne_of_lt (Heap.lt_size hf')) (fun n u H' s' hn ru I' sm hfs => ?_) fun ms H' s' hp hs sm hn I' => ?_
  · refine lam_call I' L hN hi ru I'.env0.in1.in1 (Room.in1 (Room.in1 (hr.mono (by omega)) : Room (k + 2) _) : Room (k + 1) _) hfs (sm _ _ hc') (hbind _ _ _ _ _ _) (fun hr' => hbody _ _ _ _ _ hr') (turn n hn H' sm)
  · refine ⟨_, rfl, wpAny_pure ⟨_, rfl, .ref h'.objs.size, _, I', rfl, fin ms H' _ hp hs sm hn⟩⟩
end
end K45
set_option Elab.async false
set_option linter.all false
set_option maxRecDepth 100000
set_option maxHeartbeats 4000000
/-! rules of our own: max with a default, xs[m:m + 1] = ys -/
namespace K45
open PySem PySem.Spec PyProof.Rows L2
theorem maxOf_is : ∀ (xs : List Int) (x : Int), PySem.W.maxOf x xs ∈ x :: xs ∧ ∀ y ∈ x :: xs, y ≤ PySem.W.maxOf x xs
  | [], x => ⟨by simp [PySem.W.maxOf], fun y hy => by simp at hy; subst hy; exact Int.le_refl _⟩
  | z :: xs, x => by
    have key : ∀ w : Int, w = (if PySem.W.DatumOrd.lt x z = true then z else x) → (w = x ∨ w = z) ∧ x ≤ w ∧ z ≤ w := fun w hw => by
      by_cases h : PySem.W.DatumOrd.lt x z = true
      · rw [if_pos h] at hw
        have h : decide (x < z) = true := h
        have := of_decide_eq_true h
        exact ⟨.inr hw, by omega, by omega⟩
      · rw [if_neg h] at hw
        have h : ¬ decide (x < z) = true := h
        have : ¬ x < z := fun q => h (decide_eq_true q)
        exact ⟨.inl hw, by omega, by omega⟩
    have e : PySem.W.maxOf x (z :: xs) = PySem.W.maxOf (if PySem.W.DatumOrd.lt x z = true then z else x) xs := rfl
    rw [e]
    generalize hw : (if PySem.W.DatumOrd.lt x z = true then z else x) = w
    obtain ⟨k1, k2, k3⟩ := key w hw.symm
    obtain ⟨h1, h2⟩ := maxOf_is xs w
    have hc := h2 _ List.mem_cons_self
    constructor
    · rcases List.mem_cons.mp h1 with h | h
      · rw [h]; rcases k1 with k | k <;> rw [k] <;> simp
      · exact List.mem_cons_of_mem _ (List.mem_cons_of_mem _ h)
    · intro y hy
      rcases List.mem_cons.mp hy with rfl | hy
      · exact Int.le_trans k2 hc
      · rcases List.mem_cons.mp hy with rfl | hy
        · exact Int.le_trans k3 hc
        · exact h2 y (List.mem_cons_of_mem _ hy)
section
variable {X : Cx}
/-- max(xs, default=d) of a list of ints -/
def rMaxDef (K : PySem.W.Frag) : List V → List V → Hp → VK → Prop := fun xs zs H Q => ∃ (a : Addr) (ns : List Int) (d : Int), xs = [.ref a] ∧ zs = [.int d] ∧ SqL K H a (ns.map V.int) ∧ (ns = [] → Q (.int d) H) ∧ ∀ m, m ∈ ns → (∀ y, y ∈ ns → y ≤ m) → Q (.int m) H
theorem cr_maxDef (hc : X.calm = true) (hu : X.A.units + 64 < cLine) : CallRK X (.builtin "max") ["default"] (rMaxDef X.K) := by
  intro pins s σ H xs zs us ws Q I r rz h
  obtain ⟨a, ns, d, rfl, rfl, hs, h0, h1⟩ := h
  obtain ⟨its, rv, hl, _⟩ := I.list hs
  rw [Vals.ref1 r]
  obtain ⟨w, rfl, rw'⟩ := rz.one
  obtain ⟨t, rfl⟩ := rw'
  have hold : PySem.W.HoldAll s.heap its.toArray.toList ns := by
    refine ⟨[], ?_⟩
    have e : ns.map (PySem.W.Datum.toD (α := Int)) = (ns.map V.int).map flatP := by rw [List.map_map]; rfl
    rw [e]
    exact reads_flat rv fun x hx => by obtain ⟨i, _, rfl⟩ := List.mem_map.mp hx; rfl
  refine PySem.W.max_list_datum_default (α := Int) (I.ok.hd hc) hl.isList hold (show X.A.units + 1 + 0 < cLine by omega) (fun e h' tk k => ⟨.int d, H, I.kept k, ⟨t, rfl⟩, h0 e⟩) fun y ys i v h' tk e _ hv k => ?_
  obtain ⟨as, hr⟩ := hv
  have hm := maxOf_is ys y
  subst e
  have hr' : Reads h' v (.int (PySem.W.maxOf y ys)) as := hr
  cases hr'
  exact ⟨.int _, H, I.kept k, ⟨_, rfl⟩, h1 _ hm.1 hm.2⟩
end
/-! ### xs[m:m + 1] = ys, m the length too -/
section
variable {prog : Program} {w : World} {A : Around} {E : Value → Shared → Prop} {s : Shared}
theorem bounds_end {n0 n : Nat} (hn : n = n0) : sliceBounds (some (n0 : Int)) (some ((n0 + 1 : Nat) : Int)) none n = ((n0 : Int), (n0 : Int), 1) := by
  subst hn
  simp only [sliceBounds, Option.getD_none]
  have h1 : ¬ ((n : Int) < 0) := by omega
  have h2 : ¬ (((n + 1 : Nat) : Int) < 0) := by omega
  simp only [h1, h2, if_false, show (1 : Int) > 0 by decide, if_true]
  congr 1
  · omega
  · congr 1; omega
theorem setItem_end {l b sl : Addr} {items new : Array Value} {n n2 : Nat} {vl vu : Value} {n0 : Nat} {Q : Unit → Shared → Prop}
    (e : s.heap.get? l = some { cls := .type "list", data := .seq items n }) (e2 : s.heap.get? b = some { cls := .type "list", data := .seq new n2 }) (hne : l ≠ b)
    (hs : s.heap.IsSliceOf sl vl vu .none) (pl : IsPart vl (some (n0 : Int))) (pu : IsPart vu (some ((n0 + 1 : Nat) : Int))) (hn : items.size = n0)
    (hsz : items.size + new.size ≤ sizeLine) (h : Q () { s with heap := s.heap.update l (Obj.mapSeq fun xs => xs.extract 0 n0 ++ new ++ xs.extract n0 xs.size) }) :
    wpAny (model prog w) A (setItem (.ref l) (.ref sl) (.ref b)) Q E s := by
  have hl : s.heap.IsList l items := PySem.IsL.isList e
  have hb : s.heap.IsList b new := PySem.IsL.isList e2
  obtain ⟨os, hos, hcs, hds⟩ := id hs
  have hTs : s.TypeIs (.ref sl) "slice" := ⟨os, hos, hcs⟩
  have hstep : ¬ ((rawPart none == rawInt 0) = true) := Bool.false_ne_true
  have hsame : Builtin.List.listSameRef (.ref l) (.ref b) = false := by
    unfold Builtin.List.listSameRef
    exact beq_eq_false_iff_ne.mpr hne
  have hmax : (max (n0 : Int) (n0 : Int)).toNat = n0 := by omega
  have hz' : ((fun xs : Array Value => xs.extract 0 n0 ++ new ++ xs.extract n0 xs.size) items).size ≤ sizeLine + 1 := by
    simp only [Array.size_append, Array.size_extract]
    omega
  unfold setItem
  try with_reducible refine wpAny_holding ?_
  first | refine wpAny_bind (wpAny_pure ?_) | skip
  refine wpAny_bind (wpAny_sequenceKey hl.typeIs (by decide) ?_)
  refine wpAny_bind (wpAny_callSpecial?_slot (name := Str.ofString "__setitem__") hl.typeIs slot_list_setitem
    (wpAny_call_entry slot_list_setitem hl.typeIs entry_list_setitem ?_ (args_list_setitem _ _ _)))
  show wpAny _ _ (Builtin.List.listSubscript? (.ref sl) >>= _) _ _ s
  refine wpAny_bind ?_
  unfold Builtin.List.listSubscript?
  refine wpAny_bind (wpAny_specialOf hTs slice_no_index ?_)
  simp only [Option.isNone_none, if_true]
  refine wpAny_pure ?_
  show wpAny _ _ (typeOf (.ref sl) >>= _) _ _ s
  refine wpAny_bind (wpAny_typeOf hTs ?_)
  first
    | rw [if_neg (by decide)]
    | refine PySem.W.KFB.if_not (by decide) ?_
  rw [listSliceParts_eq]
  refine wpAny_bind (wpAny_bind (wpAny_field hos hds (x := .none) rfl (wpAny_bind (wpAny_listPart .none ?_))))
  rw [if_neg hstep]
  refine wpAny_bind (wpAny_field hos hds (x := vl) rfl (wpAny_bind (wpAny_listPart pl ?_)))
  refine wpAny_bind (wpAny_field hos hds (x := vu) rfl (wpAny_bind (wpAny_listPart pu (wpAny_pure ?_))))
  first
    | simp only [hsame, Bool.false_eq_true, if_false]
    | refine PySem.W.KFB.if_not hsame ?_
    | (dsimp only
       rw [if_neg (by rw [hsame]; exact Bool.false_ne_true)])
  refine wpAny_bind (m := Builtin.List.listAllItems (.ref b) "must assign iterable to extended slice") ?_
  unfold Builtin.List.listAllItems
  refine wpAny_bind (wpAny_typeOf hb.typeIs ?_)
  first
    | refine PySem.W.KFB.if_so (by decide) ?_
    | rw [if_pos (by decide)]
    | simp only [beq_self_eq_true, Bool.true_or, if_true]
  unfold Builtin.List.listItems
  refine wpAny_bind (wpAny_seqItems e2 rfl (wpAny_pure ?_))
  refine wpAny_bind (wpAny_bind (wpAny_seqItems e rfl (wpAny_pure ?_)))
  refine wpAny_bind (wpAny_of_eq ((sliceIndices_raw (some (n0 : Int)) (some ((n0 + 1 : Nat) : Int)) none items.size (by simp)).trans (congrArg (pure : Int × Int × Int → Sem (Int × Int × Int)) (bounds_end hn))) ?_)
  show wpAny _ _ (if ((1 : Int) == 1) = true then _ else _) _ _ s
  rw [if_pos (by decide)]
  refine wpAny_bind (wpAny_rule ?_)
  first
    | simp only [notLongL hsz, Bool.false_eq_true, if_false]
    | refine PySem.W.KFB.if_not (notLongL hsz) ?_
  first | refine wpAny_bind (wpAny_pure ?_) | skip
  show wpAny _ _ (updateSeq l (fun xs => xs.extract 0 ((n0 : Int)).toNat ++ new ++ xs.extract (max (n0 : Int) (n0 : Int)).toNat xs.size) >>= _) _ _ s
  rw [hmax, Int.toNat_natCast]
  refine wpAny_bind (wpAny_updateSeq (hz := Nat.le_trans (Nat.le_add_right _ _) hsz) (_hz' := hz') e rfl ?_)
  refine wpAny_bind (wpAny_letGo ?_)
  first
    | exact wpAny_bind (wpAny_pure (wpAny_pure ⟨.none, rfl, wpAny_pure h⟩))
    | exact wpAny_pure ⟨.none, rfl, wpAny_pure h⟩
end
section
variable {X : Cx} {o lo hi : Expr} {to : TE} {tl th : TO} {p2 pos : Pos}
/-- o[m:m + 1] = v -/
def gCut (to : TE) (tl th : TO) : TG := fun v σ H Q => to σ H fun x H1 => tl σ H1 fun l H2 => th σ H2 fun u H3 => ∃ (p b : Addr) (xs ys : List V) (m : Nat), x = .ref p ∧ v = .ref b ∧ l = some (m : Int) ∧ u = some ((m + 1 : Nat) : Int) ∧ H3 p = some (.lst xs) ∧ H3 b = some (.lst ys) ∧ p ≠ b ∧ m ≤ xs.length ∧ xs.length + ys.length ≤ 1000 ∧
  Q σ (upd H3 p (.lst (xs.take m ++ ys ++ xs.drop (m + 1))))
theorem pg_cut (ho : PE X o to) (hl : PO X (some lo) tl) (hu : PO X (some hi) th)
    (ha : ∀ v, assign (.Subscript o (.Slice (some lo) (some hi) none p2) pos) X.env v = (do let ov ← holding [v] (eval o X.env); let iv ← holding [v, ov] (eval (.Slice (some lo) (some hi) none p2) X.env); standAt pos; holding [v, ov, iv] (setItem ov iv v); release [iv, v, ov] []) := by intro _; rfl) :
    PG X (.Subscript o (.Slice (some lo) (some hi) none p2) pos) (gCut to tl th) := by
  refine ⟨fun pins s σ H v u Q I r h => ?_⟩
  rw [ha]
  refine wpAny_bind (wpAny_holding (thn (ho.run pins s σ H _ I h) fun ov s1 ⟨x, H1, I1, r1, q1⟩ => ?_))
  refine wpAny_bind (wpAny_holding ?_)
  refine wpAny_Slice (thn (hl.run pins s1 σ H1 _ I1 q1) fun vl s2 ⟨l, H2, I2, pl, q2⟩ => thn (hu.run pins s2 σ H2 _ I2 q2) fun vu s3 ⟨u', H3, I3, pu, q3⟩ => ?_)
  rw [evalPart_none]
  refine wpAny_pure ?_
  have I4 : L2.Inv X pins σ H3 { s3 with heap := s3.heap.push { cls := .type "slice", data := .fields #[vl, vu, .none] } } := I3.kept (t' := s3.toks) fun b ob q => Heap.get?_push_of_some _ q
  obtain ⟨p, b, xs, ys, m, rfl, rfl, rfl, rfl, hp, hb, hne, hm, hz, q⟩ := q3
  cases r1
  cases r
  obtain ⟨z, its, n, rr, hl', e⟩ := I4.lstM hp
  obtain ⟨z2, its2, n2, rr2, hl2, e2⟩ := I4.lstM hb
  have hz' : its.toArray.size + its2.toArray.size ≤ sizeLine := by rw [List.size_toArray, List.size_toArray]; exact Nat.le_of_lt (small (by omega))
  refine wpAny_bind (wpAny_standAt (wpAny_bind (wpAny_holding ?_)))
  have fin : ∀ {f : Array Value → Array Value}, f its.toArray = (its.take m ++ its2 ++ its.drop (m + 1)).toArray → wpAny (model X.prog X.w) X.A (release [.ref s3.heap.objs.size, .ref b, .ref p] []) (fun _ s' => ∃ σ' H', L2.Inv X pins σ' H' s' ∧ Q σ' H') X.xe { s3 with heap := (s3.heap.push { cls := .type "slice", data := .fields #[vl, vu, .none] }).update p (Obj.mapSeq f) } := fun {f} hf => by
    have I5 : L2.Inv X pins σ (upd H3 p (.lst (xs.take m ++ ys ++ xs.drop (m + 1)))) { s3 with heap := (s3.heap.push { cls := .type "slice", data := .fields #[vl, vu, .none] }).update p (Obj.mapSeq f) } :=
      I4.lset (its' := its.take m ++ its2 ++ its.drop (m + 1)) (t' := s3.toks) hp e hf (Vals.append (Vals.append (rr.take _) rr2) (rr.drop _)) (by
        rw [List.length_append, List.length_append, List.length_take, List.length_drop]
        exact Nat.le_of_lt (small (by omega)))
    exact wpAny_release ⟨σ, _, I5, q⟩
  by_cases hlt : m < xs.length
  · exact setItem_slice (a := m) (c := m + 1) e e2 hne (Heap.IsSliceOf.new ..) pl pu (by omega) (by rw [List.size_toArray]; omega) hz' (fin (splice_eq its its2 m (m + 1)))
  · have hm' : its.length = m := by omega
    refine setItem_end (n0 := m) e e2 hne (Heap.IsSliceOf.new ..) pl pu (by rw [List.size_toArray]; exact hm') hz' (fin ?_)
    have e1 : its.drop (m + 1) = its.drop m := by rw [List.drop_eq_nil_of_le (by omega), List.drop_eq_nil_of_le (by omega)]
    rw [e1]
    exact splice_eq its its2 m m
end
end K45
set_option Elab.async false
set_option linter.all false
set_option maxRecDepth 100000
set_option maxHeartbeats 4000000
/-! small helps of the walks -/
namespace K45
open PySem PySem.Spec PyProof.Rows L2
section
variable {X : Cx}
def okV : V → Bool
  | .int _ => true
  | .str x => (PyData.str x).canLay0
  | _ => false
theorem okV_flat {x : V} (h : okV x = true) : isFlatP x = true := by cases x <;> first | rfl | cases h
theorem dp_flat {K : PySem.W.Frag} {H : Hp} : ∀ {xs : List V}, (∀ x ∈ xs, isFlatP x = true) → DpAll K H xs (xs.map flatP)
  | [], _ => .nil
  | x :: xs, h => .cons (by
      have := h x List.mem_cons_self
      cases x with
      | int i => exact .int i
      | str y => exact .str y
      | _ => cases this) (dp_flat fun y hy => h y (List.mem_cons_of_mem _ hy))
theorem lay_flat : ∀ {xs : List V}, (∀ x ∈ xs, okV x = true) → PyData.canLayAll0 (xs.map flatP) = true
  | [], _ => by simp [PyData.canLayAll0]
  | x :: xs, h => by
    have := h x List.mem_cons_self
    rw [List.map_cons, PyData.canLayAll0, lay_flat fun y hy => h y (List.mem_cons_of_mem _ hy), Bool.and_true]
    cases x with
    | int i => simp [flatP, PyData.canLay0]
    | str y => exact this
    | _ => cases this
theorem shaped_flat {xs : List V} (h : ∀ x ∈ xs, okV x = true) : SeqAt.shaped (.list (xs.map flatP)) = true := by
  unfold SeqAt.shaped
  rw [PyData.canLay0, lay_flat h, PyData.depth, depth_flat]
  decide
/-- xs != ys, xs == ys of two lists of ints or texts -/
theorem eqv_flat : ∀ {xs ys : List V}, (∀ x ∈ xs, isFlatP x = true) → (∀ x ∈ ys, isFlatP x = true) → PyData.eqvAll (xs.map flatP) (ys.map flatP) = decide (xs = ys)
  | [], [], _, _ => by simp [PyData.eqvAll]
  | [], y :: ys, _, _ => by simp [PyData.eqvAll]
  | x :: xs, [], _, _ => by simp [PyData.eqvAll]
  | x :: xs, y :: ys, h1, h2 => by
    have ih := eqv_flat (fun z hz => h1 z (List.mem_cons_of_mem _ hz)) fun z hz => h2 z (List.mem_cons_of_mem _ hz)
    rw [List.map_cons, List.map_cons, PyData.eqvAll, ih]
    have a := h1 x List.mem_cons_self
    have b := h2 y List.mem_cons_self
    have two : ∀ (p : Prop) [Decidable p], (p ↔ x = y) → (decide p && decide (xs = ys)) = decide (x :: xs = y :: ys) := fun p _ hp => by
      by_cases e1 : x = y
      · by_cases e2 : xs = ys
        · simp [hp, e1, e2]
        · simp [hp, e1, e2]
      · simp [hp, e1]
    cases x with
    | int i =>
      cases y with
      | int j => simp only [flatP, PyData.eqv]; exact (by rw [show (i == j) = decide (i = j) from rfl]; exact two (i = j) ⟨fun e => by rw [e], fun e => V.int.inj e⟩)
      | str j => simp [flatP, PyData.eqv]
      | _ => cases b
    | str i =>
      cases y with
      | str j => simp only [flatP, PyData.eqv]; exact (by rw [show (i == j) = decide (i = j) from by by_cases e : i = j <;> simp [e]]; exact two (i = j) ⟨fun e => by rw [e], fun e => V.str.inj e⟩)
      | int j => simp [flatP, PyData.eqv]
      | _ => cases b
    | _ => cases a
def rNeL (K : PySem.W.Frag) : R2 := fun x y H Q => ∃ a b xs ys, x = .ref a ∧ y = .ref b ∧ SqL K H a xs ∧ SqL K H b ys ∧ (∀ x ∈ xs, okV x = true) ∧ (∀ y ∈ ys, okV y = true) ∧ Q (.bl (!decide (xs = ys))) H
def rEqL (K : PySem.W.Frag) : R2 := fun x y H Q => ∃ a b xs ys, x = .ref a ∧ y = .ref b ∧ SqL K H a xs ∧ SqL K H b ys ∧ (∀ x ∈ xs, okV x = true) ∧ (∀ y ∈ ys, okV y = true) ∧ Q (.bl (decide (xs = ys))) H
theorem op_neL (hu : X.A.units + 64 < cLine) : OpR X (compareOp .NotEq) (rNeL X.K) := by
  intro pins s σ H x y v u Q I rx ry h
  obtain ⟨a, b, xs, ys, rfl, rfl, h1, h2, o1, o2, q⟩ := h
  refine op_neD hu pins s σ H _ _ _ _ Q I rx ry ⟨_, _, .lst h1 (dp_flat fun x hx => okV_flat (o1 x hx)), .lst h2 (dp_flat fun x hx => okV_flat (o2 x hx)), shaped_flat o1, shaped_flat o2, ?_⟩
  rw [PyData.eqv, eqv_flat (fun x hx => okV_flat (o1 x hx)) fun x hx => okV_flat (o2 x hx)]; exact q
theorem op_eqL (hu : X.A.units + 64 < cLine) : OpR X (compareOp .Eq) (rEqL X.K) := by
  intro pins s σ H x y v u Q I rx ry h
  obtain ⟨a, b, xs, ys, rfl, rfl, h1, h2, o1, o2, q⟩ := h
  refine op_eqD hu pins s σ H _ _ _ _ Q I rx ry ⟨_, _, .lst h1 (dp_flat fun x hx => okV_flat (o1 x hx)), .lst h2 (dp_flat fun x hx => okV_flat (o2 x hx)), shaped_flat o1, shaped_flat o2, ?_⟩
  rw [PyData.eqv, eqv_flat (fun x hx => okV_flat (o1 x hx)) fun x hx => okV_flat (o2 x hx)]; exact q
end
theorem okV_strs {B : Bk} {ns : List Str} (ok : ∀ n ∈ B.names, (PyData.str n).canLay0 = true) (h : ∀ n ∈ ns, n ∈ B.names) : ∀ x ∈ ns.map V.str, okV x = true := fun x hx => by
  obtain ⟨n, hn, rfl⟩ := List.mem_map.mp hx
  exact ok n (h n hn)
theorem okV_nil : ∀ y ∈ ([] : List V), okV y = true := fun _ h => nomatch h
theorem okV_ints (ns : List Int) : ∀ x ∈ ns.map V.int, okV x = true := fun x hx => by
  obtain ⟨n, hn, rfl⟩ := List.mem_map.mp hx
  rfl
/-! dicts with text keys read -/
section
variable {β : Type} {f : β → V}
theorem dget_dF {H : Hp} {d : Addr} {l : List (Str × β)} {n : Str} (h : Rd H d (.dK (dF f l))) : DGet H d (.str n) ((lk l n).map f) := .inl ⟨_, Sum.inr n, h, rfl, valV_dF.symm⟩
theorem dget_some {H : Hp} {d : Addr} {l : List (Str × β)} {n : Str} {v : β} (h : Rd H d (.dK (dF f l))) (e : lk l n = some v) : DGet H d (.str n) (some (f v)) := by
  have := dget_dF (n := n) h
  rw [e] at this; exact this
theorem dput_dF {H : Hp} {d : Addr} {l : List (Str × β)} {n : Str} {v : β} (h : H d = some (.dK (dF f l))) (nn : n ∉ l.map (·.1)) (hl : l.length ≤ 1000) : DPut H d (.str n) (f v) (upd H d (.dK (dF f (l ++ [(n, v)])))) :=
  .inl ⟨_, Sum.inr n, h, rfl, by rw [dF_length]; exact small hl, by rw [putK_dF nn]⟩
end
theorem lk_none' {β : Type} {l : List (Str × β)} {n : Str} (h : n ∉ l.map (·.1)) : lk l n = none := lk_none.mpr h
/-- what a book's jobs need, by name -/
def NdAt (H : Hp) (d : Addr) (js : List Job) : Prop := ∃ l : List (Str × Addr), Rd H d (.dK (dF V.ref l)) ∧ Paired (fun q (j : Job) => q.1 = j.name ∧ TupA H q.2 (j.needs.map V.str)) l js
theorem NdAt.same {H H' : Hp} (s : Same H H') {d : Addr} {js : List Job} (h : NdAt H d js) : NdAt H' d js := by
  obtain ⟨l, h1, h2⟩ := h
  exact ⟨l, rd_same s h1, pair_mono h2 fun q j e => ⟨e.1, e.2.mono (.of s)⟩⟩
theorem pair_names {P : Str × Addr → Job → Prop} : ∀ {l : List (Str × Addr)} {js : List Job}, Paired (fun q j => q.1 = j.name ∧ P q j) l js → l.map (·.1) = js.map Job.name
  | _, _, .nil => rfl
  | _, _, .cons h t => by rw [List.map_cons, List.map_cons, h.1, pair_names t]
theorem pair_lk {P : Str × Addr → Job → Prop} {n : Str} : ∀ {l : List (Str × Addr)} {js : List Job}, Paired (fun q j => q.1 = j.name ∧ P q j) l js → n ∈ js.map Job.name → ∃ q j, lk l n = some q.2 ∧ js.find? (fun j => decide (j.name = n)) = some j ∧ P q j
  | _, _, .nil, h => nomatch h
  | _, _, .cons (a := q) (b := j) h t, hn => by
    rw [lk_cons, List.find?_cons]
    by_cases e : j.name = n
    · rw [h.1, if_pos e]
      simp only [e, decide_true]
      exact ⟨q, j, rfl, rfl, h.2⟩
    · rw [h.1, if_neg e]
      simp only [e, decide_false]
      have : n ∈ List.map Job.name _ := (List.mem_cons.mp hn).resolve_left fun z => e z.symm
      exact pair_lk t this
theorem NdAt.at_ {H : Hp} {d : Addr} {B : Bk} {n : Str} (h : NdAt H d B.jobs) (hn : n ∈ B.names) : ∃ a, DGet H d (.str n) (some (.ref a)) ∧ TupA H a ((B.needs n).map V.str) := by
  obtain ⟨l, h1, h2⟩ := h
  obtain ⟨q, j, e1, e2, e3⟩ := pair_lk h2 hn
  refine ⟨q.2, dget_some h1 e1, ?_⟩
  rw [needs_at (show B.job n = some j from e2)]
  exact e3
theorem BookAt.names_len {H : Hp} {b : Addr} {B : Bk} (h : BookAt H b B) : B.jobs.length ≤ 8 := h.R.few
theorem needs_len {B : Bk} (R : Right B) (n : Str) : (B.needs n).length ≤ 8 := by
  cases e : B.job n with
  | none => unfold Bk.needs; rw [e]; exact Nat.zero_le _
  | some j => rw [needs_at e]; exact R.nfew j (job_mem e).1
theorem names_len (B : Bk) : B.names.length = B.jobs.length := List.length_map _
theorem pair_snoc {α β : Type} {F : α → β → Prop} {x : α} {y : β} (h : F x y) : ∀ {xs : List α} {ys : List β}, Paired F xs ys → Paired F (xs ++ [x]) (ys ++ [y])
  | _, _, .nil => .cons h .nil
  | _, _, .cons a t => .cons a (pair_snoc h t)
theorem nd_take {α β : Type} [DecidableEq β] {f : α → β} : ∀ {js : List α} {i : Nat} {x : α}, (js.map f).Nodup → js[i]? = some x → f x ∉ (js.take i).map f
  | [], i, x, _, h => by simp at h
  | j :: js, 0, x, _, h => by simp
  | j :: js, i + 1, x, nd, h => by
    rw [List.map_cons, List.nodup_cons] at nd
    have h : js[i]? = some x := by simpa using h
    rw [List.take_succ_cons, List.map_cons, List.mem_cons]
    intro z
    rcases z with z | z
    · exact nd.1 (by rw [← z]; exact List.mem_map.mpr ⟨x, List.mem_of_getElem? h, rfl⟩)
    · exact nd_take nd.2 h z
theorem take_snoc {α : Type} {js : List α} {i : Nat} {x : α} (h : js[i]? = some x) : js.take (i + 1) = js.take i ++ [x] := by rw [List.take_add_one, h]; rfl
end K45
set_option Elab.async false
set_option linter.all false
set_option maxRecDepth 100000
set_option maxHeartbeats 4000000
namespace K45
open PySem PySem.Spec PyProof.Rows L2
/-! webs.py -/
abbrev sNbn : Stmt := topS 4
abbrev sCome : Stmt := topS 5
abbrev sNeedsOf : Stmt := topS 6
abbrev sNeededBy : Stmt := topS 7
abbrev sHangs : Stmt := topS 8
theorem scNbn : FnScope ["jobs", "job"] ["jobs"] (defScope sNbn) := ⟨rfl, rfl, rfl, by decide +kernel, rfl, by decide +kernel, by decide +kernel⟩
theorem scCome : FnScope ["known", "name", "found", "waiting", "here"] ["known", "name"] (defScope sCome) := ⟨rfl, rfl, rfl, by decide +kernel, rfl, by decide +kernel, by decide +kernel⟩
theorem scNeedsOf : FnScope ["book", "name"] ["book", "name"] (defScope sNeedsOf) := ⟨rfl, rfl, rfl, by decide +kernel, rfl, by decide +kernel, by decide +kernel⟩
theorem scNeededBy : FnScope ["book", "name", "job"] ["book", "name"] (defScope sNeededBy) := ⟨rfl, rfl, rfl, by decide +kernel, rfl, by decide +kernel, by decide +kernel⟩
theorem scHangs : FnScope ["book", "name"] ["book", "name"] (defScope sHangs) := ⟨rfl, rfl, rfl, by decide +kernel, rfl, by decide +kernel, by decide +kernel⟩
def spNbn : Sp := fun vs H Q _ => ∃ (a : Addr) (as : List Addr) (js : List Job), vs = [.ref a] ∧ TupA H a (as.map V.ref) ∧ Paired (JobAt H) as js ∧ (js.map Job.name).Nodup ∧ js.length ≤ 100 ∧ ∀ (H' : Hp) (p : Addr), Same H H' → H p = none → NdAt H' p js → Q (.ref p) H'
def spCome : Sp := fun vs H Q _ => ∃ (d : Addr) (B : Bk) (n : Str), vs = [.ref d, .str n] ∧ NdAt H d B.jobs ∧ n ∈ B.names ∧ Right B ∧ (∀ n ∈ B.names, (PyData.str n).canLay0 = true) ∧ ∀ (H' : Hp) (p : Addr) (xs : List Str), Same H H' → TupA H' p (xs.map V.str) → xs.length ≤ 8 → (∀ x ∈ xs, Hangs B n x ∧ x ∈ B.names) → Q (.ref p) H'
def spNeedsOf : Sp := fun vs H Q _ => ∃ (b : Addr) (B : Bk) (n : Str), vs = [.ref b, .str n] ∧ BookAt H b B ∧ n ∈ B.names ∧ ∀ a, TupA H a ((B.needs n).map V.str) → Q (.ref a) H
def spNeededBy : Sp := fun vs H Q _ => ∃ (b : Addr) (B : Bk) (n : Str), vs = [.ref b, .str n] ∧ BookAt H b B ∧ ∀ (H' : Hp) (p : Addr), Same H H' → TupA H' p ((B.names.filter fun e => decide (n ∈ B.needs e)).map V.str) → Q (.ref p) H'
def spHangs : Sp := fun vs H Q _ => ∃ (b : Addr) (B : Bk) (n : Str), vs = [.ref b, .str n] ∧ BookAt H b B ∧ n ∈ B.names ∧ ∀ (H' : Hp) (p : Addr) (xs : List Str), Same H H' → TupA H' p (xs.map V.str) → xs.length ≤ 8 → (∀ x ∈ xs, Hangs B n x ∧ x ∈ B.names) → Q (.ref p) H'
section
variable {P : Program} {w : World} {K : PySem.W.Frag} {mg : Str → Option Value} {base : Heap}
theorem ok_nbn (d : Def K mg "needs_by_name" sNbn ["jobs"]) : Has P w K mg base "needs_by_name" ["jobs"] 1 spNbn := d.has fun f fd F => by
  refine F.ok scNbn (fun vs H Q E h => ?_) (fun cdv A outer s H vs Q E hr h => ?_)
  · obtain ⟨b, as, js, rfl, _⟩ := h; rfl
  · obtain ⟨b, as, js, rfl, hb, hp, nd, hl, q⟩ := h
    refine ⟨_, pss_one (ps_ret (pe_dc (own := [("job", 1)]) (g := gName 1) (tt := tYes) rfl scNbn.nd (pi_tup (pv 0)) (blkOk_by (own := [("job", 1)]) (N := ["jobs", "job"]) (sc := defScope sNbn) (by decide +kernel))
      (fun _ _ _ _ _ => pg_name (i := 1) scNbn.nd rfl (Or.inl rfl)) (fun _ _ _ _ _ => pts_nil) (fun _ _ _ _ _ => pe_ix (r := rIxT K) ix_tup (pv 1) pe_int (fun _ _ => rfl)) (fun _ _ _ _ _ => pe_ix (r := rIxT K) ix_tup (pv 1) pe_int (fun _ _ => rfl)))), ?_⟩
    refine ⟨.ref b, rfl, b, rfl, ⟨_, hb.sq⟩, fun D nD => ?_⟩
    refine dc_tup (xs := as.map V.ref) (fun i H' => Same H H' ∧ ∃ l : List (Str × Addr), H' D = some (.dK (dF V.ref l)) ∧ Paired (fun q (j : Job) => q.1 = j.name ∧ TupA H q.2 (j.needs.map V.str)) l (js.take i)) ⟨same_new nD, [], upd_same, .nil⟩
      (fun i H' _ h => TupA.sq (hb.mono (.of h.1))) (fun i v H' hv h => ?_) fun H' h => ?_
    · obtain ⟨sm, l, hD, hpr⟩ := h
      rw [List.getElem?_map] at hv
      obtain ⟨a, ha, rfl⟩ := Option.map_eq_some_iff.mp hv
      have hi : i < js.length := by
        have := (List.getElem?_eq_some_iff.mp ha).1
        rw [pair_len hp] at this; exact this
      have hj : js[i]? = some js[i] := List.getElem?_eq_getElem hi
      obtain ⟨a', ha', hja⟩ := pair_get hp hj
      rw [ha] at ha'; cases ha'
      obtain ⟨n', u, mode, cmd, tries, e1, e2, _⟩ := hja.ex
      have e1 := sm _ _ e1
      refine ⟨rfl, ?_⟩
      refine ⟨.ref a, rfl, a, _, 0, .str js[i].name, rfl, rfl, SqT.of e1, atI_nat (j := 0) rfl, ?_⟩
      refine ⟨.ref a, rfl, a, _, 2, .ref n', rfl, rfl, SqT.of e1, atI_nat (j := 2) rfl, ?_⟩
      have hnm := pair_names hpr
      have nn : js[i].name ∉ l.map (·.1) := by rw [hnm]; exact nd_take nd hj
      have hll : l.length = i := by
        rw [pair_len hpr, List.length_take]; omega
      refine ⟨_, Sum.inr js[i].name, rfl, hD, by rw [dF_length]; exact small (by omega), same_put sm nD, l ++ [(js[i].name, n')], by rw [upd_same, putK_dF nn], ?_⟩
      rw [take_snoc hj]
      exact pair_snoc ⟨rfl, e2⟩ hpr
    · obtain ⟨sm, l, hD, hpr⟩ := h
      rw [List.length_map, pair_len hp, List.take_length] at hpr
      exact q H' D sm nD ⟨l, .inl hD, pair_mono hpr fun q j e => ⟨e.1, e.2.mono (.of sm)⟩⟩
theorem ok_come (d : Def K mg "come_to" sCome ["known", "name"]) (m1 : mg "list" = none) (m2 : mg "tuple" = none) (m3 : mg "sorted" = none) : Has P w K mg base "come_to" ["known", "name"] 1 spCome := d.has fun f fd F => by
  refine F.ok scCome (fun vs H Q E h => ?_) (fun cdv A outer s H vs Q E hr h => ?_)
  · obtain ⟨d, B, n, rfl, _⟩ := h; rfl
  · obtain ⟨d, B, n, rfl, hd, hn, R, ok, q⟩ := h
    refine ⟨_, pss_cons (ps_par (i := 2) (j := 3) rfl scCome.nd rfl rfl (by decide) rfl rfl (pa_cons pe_dnewK (pa_cons (pe_callTy call_list_of (by rfl) m1 (by decide +kernel) (pa_cons (pe_dget (hu_of hr) (pv 0) (pv 1) (fun _ _ => rfl)) pa_nil)) pa_nil)) rfl)
      (pss_cons (ps_while PassesOwn.never (pt_cmpR (op_neL hr.units) (pv 3) (pe_lst pa_nil) (nomark _))
        (pss_cons (ps_set (i := 4) scCome.nd rfl (Or.inl rfl) (pe_bm0 PySem.F.plainAttrs_list PySem.F.slot_list_pop PySem.F.type_list_pop mt_pop (pv 3)))
          (pss_one (ps_if (pt_cmp (pc_dnotin (hu_of hr) (pv 4) (pv 2)))
            (pss_cons (ps_dput (hu_of hr) (pv 2) (pv 4) pe_bl rfl) (pss_one (ps_expr (pe_bm PySem.F.plainAttrs_list PySem.F.slot_list_extend PySem.F.type_list_extend mt_extT (pv 3) (pa_cons (pe_dget (hu_of hr) (pv 0) (pv 4) (fun _ _ => rfl)) pa_nil))))) pss_nil))))
        (pss_one (ps_ret (pe_callTy call_tuple_of (by rfl) m2 (by decide +kernel) (pa_cons (pe_callB (call_sortedD rfl) (by rfl) m3 (by decide +kernel) (pa_cons (pv 2) pa_nil)) pa_nil))))), ?_⟩
    intro fa nfa
    have sm1 : Same H (upd H fa (.dK [])) := same_new nfa
    obtain ⟨a, hg, ht⟩ := (hd.same sm1).at_ hn
    refine ⟨.ref d, rfl, .str n, rfl, d, .ref a, rfl, hg, a, _, rfl, .inr ht.sq, fun wa nwa => ?_⟩
    refine ⟨_, _, rfl, ?_⟩
    have hwf : wa ≠ fa := fun z => by rw [z, upd_same] at nwa; cases nwa
    have nwH : H wa = none := by rw [upd_ne hwf] at nwa; exact nwa
    have nl := needs_len R n
    refine ⟨fun m σ' H' => ∃ (fs ws : List Str) (z : Option V), m = 9 * (8 - fs.length) + ws.length ∧ σ' = [some (.ref d), some (.str n), some (.ref fa), some (.ref wa), z] ∧ Same H H' ∧ H' fa = some (.dK (dF V.bl (fs.map fun x => (x, true)))) ∧ H' wa = some (.lst (ws.map V.str)) ∧
      fs.Nodup ∧ (∀ x ∈ fs, Hangs B n x) ∧ (∀ x ∈ ws, Hangs B n x) ∧ ws.length ≤ 8 * (fs.length + 1), ⟨_, [], B.needs n, none, rfl, rfl, same_put sm1 nwH, ?_, upd_same, List.nodup_nil, fun _ h => (nomatch h), fun x hx => .one hx, by simpa using nl⟩, fun m σ' H' h => ?_⟩
    · rw [upd_ne (Ne.symm hwf), upd_same]; rfl
    · obtain ⟨fs, ws, z, rfl, rfl, sm, hfa, hwa, nd, hfs, hws, hl⟩ := h
      have mem : ∀ x, Hangs B n x → x ∈ B.names := fun x h => by
        cases h with
        | one k => exact R.needMem k
        | more _ k => exact R.needMem k
      have hfl : fs.length ≤ 8 := by
        have := nodup_sub_len nd fun x hx => mem x (hfs x hx)
        rw [names_len] at this; have := R.few; omega
      refine ⟨.ref wa, rfl, Nat.zero_le _, fun ea nea => ⟨wa, ea, ws.map V.str, [], rfl, rfl, ?_, SqL.of upd_same, okV_strs ok fun x hx => mem x (hws x hx), okV_nil, _, rfl, ite2 (fun e => ?_) (fun e => ?_)⟩⟩
      · exact SqL.of (same_new nea _ _ hwa)
      · have sm2 := sm.trans (same_new (o := .lst []) nea)
        have hfa := same_new nea (o := .lst []) _ _ hfa
        have hwa := same_new nea (o := .lst []) _ _ hwa
        generalize upd H' ea (.lst []) = H2 at sm2 hfa hwa
        clear sm nea
        refine ⟨_, fun _ _ h => h, ?_⟩
        rcases List.eq_nil_or_concat ws with e0 | ⟨ws', x, rfl⟩
        · rw [e0] at e; simp at e
        rw [List.concat_eq_append] at *
        have hx := hws x (by simp)
        have hH2 : H2 wa = some (.lst (ws'.map V.str ++ [.str x])) := by rw [hwa]; simp
        refine ⟨.ref wa, rfl, .inl ⟨rfl, _, SqL.of hwa⟩, wa, _, .str x, rfl, rfl, hH2, by simp, ?_⟩
        rw [List.dropLast_concat]
        have hfa3 : (upd H2 wa (.lst (ws'.map V.str))) fa = some (.dK (dF V.bl (fs.map fun x => (x, true)))) := by rw [upd_ne (Ne.symm hwf)]; exact hfa
        have sm3 : Same H (upd H2 wa (.lst (ws'.map V.str))) := same_put sm2 nwH
        have hkeys : (fs.map fun x => (x, true)).map (·.1) = fs := by rw [List.map_map]; exact List.map_id' _
        refine ⟨.str x, rfl, .ref fa, rfl, fa, _, rfl, dget_dF (.inl hfa3), _, rfl, ite2 (fun e => ?_) (fun e => ?_)⟩
        · have nx : x ∉ fs := fun z => by
            obtain ⟨v, hv⟩ := lk_isSome (l := fs.map fun x => (x, true)) (n := x) (by rw [hkeys]; exact z)
            rw [hv] at e; simp at e
          have hfl2 : fs.length + 1 ≤ 8 := by
            have := nodup_sub_len (List.nodup_cons.mpr ⟨nx, nd⟩) (ys := B.names) fun y hy => by
              rcases List.mem_cons.mp hy with rfl | hy
              · exact mem _ hx
              · exact mem y (hfs y hy)
            rw [List.length_cons, names_len] at this; have := R.few; omega
          refine ⟨.ref fa, rfl, .str x, rfl, fa, _, rfl, dput_dF hfa3 (by rw [hkeys]; exact nx) (by rw [List.length_map]; omega), ?_⟩
          have sm4 : Same H (upd (upd H2 wa (.lst (ws'.map V.str))) fa (.dK (dF V.bl ((fs.map fun x => (x, true)) ++ [(x, true)])))) := same_put sm3 nfa
          have hw4 : (upd (upd H2 wa (.lst (ws'.map V.str))) fa (.dK (dF V.bl ((fs.map fun x => (x, true)) ++ [(x, true)])))) wa = some (.lst (ws'.map V.str)) := by rw [upd_ne hwf, upd_same]
          obtain ⟨a', hg', ht'⟩ := (hd.same sm4).at_ (mem x hx)
          have nl' := needs_len R x
          have hwl : ws'.length + 1 ≤ 8 * (fs.length + 1) := by rw [List.length_append] at hl; exact hl
          refine ⟨.ref wa, rfl, .inl ⟨rfl, _, SqL.of hw4⟩, .ref d, rfl, .str x, rfl, d, .ref a', rfl, hg', wa, a', _, _, rfl, rfl, hw4, ht'.sq, by rw [List.length_map, List.length_map]; omega, ?_⟩
          refine ⟨_, ?_, fs ++ [x], ws' ++ B.needs x, some (.str x), rfl, rfl, same_put sm4 nwH, ?_, ?_, ?_, fun y hy => ?_, fun y hy => ?_, ?_⟩
          · simp only [List.length_append, List.length_singleton]; omega
          · rw [upd_ne (Ne.symm hwf), upd_same, List.map_append]; rfl
          · rw [upd_same, List.map_append]
          · rw [List.nodup_append]; exact ⟨nd, by simp, fun a ha b hb => by simp at hb; subst hb; intro z; subst z; exact nx ha⟩
          · rcases List.mem_append.mp hy with hy | hy
            · exact hfs y hy
            · simp at hy; subst hy; exact hx
          · rcases List.mem_append.mp hy with hy | hy
            · exact hws y (by simp [hy])
            · exact .more hx hy
          · rw [List.length_append, List.length_append, List.length_singleton]; omega
        · refine ⟨_, ?_, fs, ws', some (.str x), rfl, rfl, sm3, hfa3, upd_same, nd, hfs, fun y hy => hws y (by simp [hy]), ?_⟩
          · simp only [List.length_append, List.length_singleton]; omega
          · rw [List.length_append] at hl; omega
      · have sm2 := sm.trans (same_new (o := .lst []) nea)
        have hfa := same_new nea (o := .lst []) _ _ hfa
        have hkeys : (dF V.bl (fs.map fun x => (x, true))).map (·.1) = fs.map Sum.inr := by unfold dF; rw [List.map_map, List.map_map]; rfl
        refine ⟨.ref fa, rfl, fa, _, fs, rfl, .inl hfa, hkeys, by omega, fun ys p hp _ np => ?_⟩
        refine ⟨p, _, rfl, .inl ⟨SqL.of upd_same, fun l hlq => ?_⟩⟩
        have hpl : p ≠ l := fun z => by rw [z, upd_same] at hlq; cases hlq
        refine q _ l ys ((sm2.trans (same_new np)).trans (same_new hlq)) (TupA.of upd_same) ?_ fun x hx => ?_
        · rw [hp.length_eq]; exact hfl
        · have := hfs x (hp.mem_iff.mp hx)
          exact ⟨this, mem x this⟩
theorem ok_needsOf (d : Def K mg "needs_of" sNeedsOf ["book", "name"]) (cJob : Has P w K mg base "job_of" ["book", "name"] 1 spJobOf) : Has P w K mg base "needs_of" ["book", "name"] 2 spNeedsOf := d.has fun f fd F => by
  refine F.ok scNeedsOf (fun vs H Q E h => ?_) (fun cdv A outer s H vs Q E hr h => ?_)
  · obtain ⟨b, B, n, rfl, _⟩ := h; rfl
  · obtain ⟨b, B, n, rfl, hB, hn, q⟩ := h
    obtain ⟨j, hj⟩ := job_some hn
    refine ⟨_, pss_one (ps_ret (pe_ix (r := rIxT K) ix_tup (pe_has cJob hr (pa_cons (pv 0) (pa_cons (pv 1) pa_nil))) pe_int (fun _ _ => rfl))), ?_⟩
    refine ⟨.ref b, rfl, .str n, rfl, b, B, n, j, rfl, hB, hj, fun a ha => ?_⟩
    obtain ⟨n', u, mode, cmd, tries, e1, e2, _⟩ := ha.ex
    refine ⟨a, _, 2, .ref n', rfl, rfl, SqT.of e1, atI_nat (j := 2) rfl, q n' ?_⟩
    rw [needs_at hj]; exact e2
theorem inV_strs (n : Str) (ns : List Str) : inV (.str n) (ns.map V.str) = decide (n ∈ ns) := by
  unfold inV
  induction ns with
  | nil => simp
  | cons a ns ih =>
    rw [List.map_cons, List.any_cons, ih]
    have : eqV (.str a) (.str n) = decide (n = a) := by
      unfold eqV
      by_cases h : a = n
      · subst h; simp
      · simp [h, Ne.symm h]
    rw [this]
    by_cases h1 : n = a <;> simp [h1]
theorem strs_flatV (ns : List Str) : (ns.map V.str).all flatV = true := by
  rw [List.all_eq_true]
  intro x hx
  obtain ⟨n, _, rfl⟩ := List.mem_map.mp hx
  rfl
theorem ok_neededBy (d : Def K mg "needed_by" sNeededBy ["book", "name"]) (m2 : mg "tuple" = none) : Has P w K mg base "needed_by" ["book", "name"] 1 spNeededBy := d.has fun f fd F => by
  refine F.ok scNeededBy (fun vs H Q E h => ?_) (fun cdv A outer s H vs Q E hr h => ?_)
  · obtain ⟨b, B, n, rfl, _⟩ := h; rfl
  · obtain ⟨b, B, n, rfl, hB, q⟩ := h
    obtain ⟨t, js, as, h1, h2, h3, h4⟩ := hB.ex
    refine ⟨_, pss_one (ps_ret (pe_callTy call_tuple_of (by rfl) m2 (by decide +kernel) (pa_cons (pe_lc (own := [("job", 2)]) (g := gName 2) rfl scNeededBy.nd (pi_tup (pe_ix ix_tup (pv 0) pe_int (fun _ _ => rfl))) (blkOk_by (own := [("job", 2)]) (N := ["book", "name", "job"]) (sc := defScope sNeededBy) (by decide +kernel))
      (fun _ _ _ _ _ => pg_name (i := 2) scNeededBy.nd rfl (Or.inl rfl)) (fun _ _ _ _ _ => pts_one (pt_cmpR (r := rIn K false) op_in_seq (pv 1) (pe_ix (r := rIxT K) ix_tup (pv 2) pe_int (fun _ _ => rfl)) (by rfl))) (fun _ _ _ _ _ => pe_ix (r := rIxT K) ix_tup (pv 2) pe_int (fun _ _ => rfl))) pa_nil))), ?_⟩
    refine ⟨.ref b, rfl, b, _, 1, .ref js, rfl, rfl, SqT.of h1, atI_nat (j := 1) rfl, js, rfl, ⟨_, h3.sq⟩, fun D nD => ?_⟩
    refine lc_std (walk_tup (xs := as.map V.ref)) B.jobs (fun j => if decide (n ∈ j.needs) = true then some (.str j.name) else none) nD (by rw [List.length_map, pair_len h4]) (by have := hB.R.few; omega) (fun H' s => TupA.sq (h3.mono (.of s))) (fun i j v H1 H' Kt Kf hj s y kt kf => ?_) (fun H' s e => ?_)
    · obtain ⟨rfl, hv⟩ := y
      obtain ⟨a, ha, hja⟩ := pair_get h4 hj
      rw [List.getElem?_map, ha] at hv; cases hv
      obtain ⟨n', u, mode, cmd, tries, e1, e2, _⟩ := (hja.same s).ex
      refine ⟨rfl, ?_⟩
      refine ⟨.str n, rfl, .ref a, rfl, a, _, 2, .ref n', rfl, rfl, SqT.of e1, atI_nat (j := 2) rfl, n', _, rfl, .inr e2.sq, rfl, strs_flatV _, _, rfl, ?_⟩
      rw [inV_strs]
      refine ite2 (fun e => ?_) (fun e => ?_)
      · have e : decide (n ∈ j.needs) = true := e
        refine ⟨.ref a, rfl, a, _, 0, .str j.name, rfl, rfl, SqT.of e1, atI_nat (j := 0) rfl, ?_⟩
        exact kt _ _ (if_pos e) (Same.refl _)
      · have e : ¬ decide (n ∈ j.needs) = true := e
        exact kf _ (if_neg e) (Same.refl _)
    · refine ⟨D, _, rfl, .inl ⟨SqL.of e, fun l hl => ?_⟩⟩
      refine q _ l (s.trans (same_new hl)) (TupA.of ?_)
      rw [upd_same, fm_if]
      have key : ∀ js : List Job, (∀ j ∈ js, B.job j.name = some j) → (js.filter fun j => decide (n ∈ j.needs)).map (fun j => V.str j.name) = ((js.map Job.name).filter fun e => decide (n ∈ B.needs e)).map V.str := by
        intro js hjs
        induction js with
        | nil => rfl
        | cons j js ih =>
          have ij := ih fun k hk => hjs k (List.mem_cons_of_mem _ hk)
          have ej := needs_at (hjs j List.mem_cons_self)
          rw [List.map_cons, List.filter_cons, List.filter_cons, ej]
          by_cases h : n ∈ j.needs
          · simp only [h, decide_true, if_true, List.map_cons, ij]
          · simp only [h, decide_false, Bool.false_eq_true, if_false, ij]
      rw [key _ fun j hj => job_of_mem hB.R.nd hj]; rfl
theorem ok_hangs (d : Def K mg "hangs_on" sHangs ["book", "name"]) (c1 : Has P w K mg base "needs_by_name" ["jobs"] 1 spNbn) (c2 : Has P w K mg base "come_to" ["known", "name"] 1 spCome) : Has P w K mg base "hangs_on" ["book", "name"] 2 spHangs := d.has fun f fd F => by
  refine F.ok scHangs (fun vs H Q E h => ?_) (fun cdv A outer s H vs Q E hr h => ?_)
  · obtain ⟨b, B, n, rfl, _⟩ := h; rfl
  · obtain ⟨b, B, n, rfl, hB, hn, q⟩ := h
    obtain ⟨t, js, as, h1, h2, h3, h4⟩ := hB.ex
    refine ⟨_, pss_one (ps_ret (pe_has c2 hr (pa_cons (pe_has c1 hr (pa_cons (pe_ix (r := rIxT K) ix_tup (pv 0) pe_int (fun _ _ => rfl)) pa_nil)) (pa_cons (pv 1) pa_nil)))), ?_⟩
    refine ⟨.ref b, rfl, b, _, 1, .ref js, rfl, rfl, SqT.of h1, atI_nat (j := 1) rfl, js, as, B.jobs, rfl, h3, h4, hB.R.nd, by have := hB.R.few; omega, fun H' p sm _ hp => ?_⟩
    exact ⟨.str n, rfl, p, B, n, rfl, hp, hn, hB.R, hB.ok, fun H2 p2 xs sm2 ht hl hx => q H2 p2 xs (sm.trans sm2) ht hl hx⟩
end
end K45
set_option Elab.async false
set_option linter.all false
set_option maxRecDepth 100000
set_option maxHeartbeats 4000000
namespace K45
open PySem PySem.Spec PyProof.Rows L2
/-! webs.py: ways -/
abbrev sSteps : Stmt := topS 9
abbrev sWay : Stmt := topS 10
theorem scSteps : FnScope ["book", "other", "found", "line", "late", "name", "early"] ["book", "other"] (defScope sSteps) := ⟨rfl, rfl, rfl, by decide +kernel, rfl, by decide +kernel, by decide +kernel⟩
theorem scWay : FnScope ["book", "one", "other", "steps", "found", "here", "need"] ["book", "one", "other"] (defScope sWay) := ⟨rfl, rfl, rfl, by decide +kernel, rfl, by decide +kernel, by decide +kernel⟩
def spSteps : Sp := fun vs H Q _ => ∃ (b : Addr) (B : Bk) (o : Str), vs = [.ref b, .str o] ∧ BookAt H b B ∧ o ∈ B.names ∧ ∀ (H' : Hp) (p : Addr) (f : List (Str × Int)), Same H H' → H p = none → H' p = some (.dK (dI f)) → Steps B o f [] → Q (.ref p) H'
def spWay : Sp := fun vs H Q _ => ∃ (b : Addr) (B : Bk) (a o : Str), vs = [.ref b, .str a, .str o] ∧ BookAt H b B ∧ a ∈ B.names ∧ Hangs B a o ∧ ∀ (H' : Hp) (p : Addr) (c : List Str), Same H H' → TupA H' p (c.map V.str) → c.length ≤ 8 → Way B a o c → Q (.ref p) H'
theorem ne_of_none' {H : Hp} {a b : Addr} {u : HO} (h : H a = some u) (h' : H b = none) : b ≠ a := fun z => by rw [z, h] at h'; cases h'
section
variable {P : Program} {w : World} {K : PySem.W.Frag} {mg : Str → Option Value} {base : Heap}
theorem ok_steps (d : Def K mg "steps_down" sSteps ["book", "other"]) (cN : Has P w K mg base "needed_by" ["book", "name"] 1 spNeededBy) : Has P w K mg base "steps_down" ["book", "other"] 2 spSteps := d.has fun f fd F => by
  refine F.ok scSteps (fun vs H Q E h => ?_) (fun cdv A outer s H vs Q E hr h => ?_)
  · obtain ⟨b, B, n, rfl, _⟩ := h; rfl
  · obtain ⟨b, B, o, rfl, hB, ho, q⟩ := h
    refine ⟨_, pss_cons (ps_asg (pe_tup (pa_cons (pe_disp (pps_cons (pv 1) pe_int pps_nil) rfl rfl (by decide) (by decide)) (pa_cons (pe_lst (pa_cons (pv 1) pa_nil)) pa_nil))) (pg_tup rfl (pgs_cons (pg_name (i := 2) scSteps.nd rfl (Or.inr rfl)) (pgs_cons (pg_name (i := 3) scSteps.nd rfl (Or.inl rfl)) pgs_nil))))
      (pss_cons (ps_while PassesOwn.never (pt_cmpR (op_neL hr.units) (pv 3) (pe_lst pa_nil) (nomark _))
        (pss_cons (ps_set (i := 4) scSteps.nd rfl (Or.inr rfl) (pe_lst pa_nil))
        (pss_cons (ps_for PassesOwn.never rfl (pi_list (pv 3)) (pg_name (i := 5) scSteps.nd rfl (Or.inl rfl))
          (pss_one (ps_expr (pe_bm PySem.F.plainAttrs_list PySem.F.slot_list_extend PySem.F.type_list_extend mt_extend (pv 4) (pa_cons (pe_lc (own := [("early", 6)]) (g := gName 6) rfl scSteps.nd (pi_tup (pe_has cN hr (pa_cons (pv 0) (pa_cons (pv 5) pa_nil)))) (blkOk_by (own := [("early", 6)]) (N := ["book", "other", "found", "line", "late", "name", "early"]) (sc := defScope sSteps) (by decide +kernel))
            (fun _ _ _ _ _ => pg_name (i := 6) scSteps.nd rfl (Or.inl rfl)) (fun _ _ _ _ _ => pts_one (pw_and (pt_cmp (pc_dnotin (hu_of hr) (pv 6) (pv 2))) (pw_and1 (pt_cmpR (r := rIn K true) op_notIn_seq (pv 6) (pv 4) (by rfl)))).pt) (fun _ _ _ _ _ => pv 6)) pa_nil)))))
        (pss_cons (ps_for PassesOwn.never rfl (pi_list (pv 4)) (pg_name (i := 6) scSteps.nd rfl (Or.inl rfl))
          (pss_one (ps_dput (hu_of hr) (pv 2) (pv 6) (pe_op op_add (pe_dget (hu_of hr) (pv 2) (pe_ix (r := rIxL K) ix_list (pv 3) pe_int (fun _ _ => rfl)) (fun _ _ => rfl)) pe_int) rfl)))
        (pss_one (ps_set (i := 3) scSteps.nd rfl (Or.inl rfl) (pv 4)))))))
        (pss_one (ps_ret (pv 2)))), ?_⟩
    have few := hB.R.few
    intro fa nfa
    refine ⟨.str o, rfl, upd_same, [(Sum.inr o, .int 0)], rfl, (by show 1 ≤ 15; decide), ?_⟩
    refine ⟨.str o, rfl, (by show 1 ≤ sizeLine; decide), fun la nla => ⟨(by show 2 ≤ sizeLine; decide), fun ta nta => ?_⟩⟩
    refine ⟨ta, [.ref fa, .ref la], rfl, SqT.of upd_same, rfl, .ref fa, [.ref la], rfl, .ref la, [], rfl, rfl, ?_⟩
    have hlf : la ≠ fa := fun z => by rw [z, upd_same] at nla; cases nla
    have nlH : H la = none := by rw [upd_upd, upd_ne hlf] at nla; exact nla
    have e0 : upd (upd H fa (.dK [])) fa (.dK (mergeK [] [((Sum.inr o : Key), V.int 0)])) = upd H fa (.dK (dI [(o, 0)])) := by rw [upd_upd]; rfl
    rw [e0] at nta ⊢
    have sm0 : Same H (upd (upd H fa (.dK (dI [(o, 0)]))) la (.lst [.str o])) := same_put (same_new nfa) nlH
    have sm1 := sm0.trans (same_new (o := .tup [.ref fa, .ref la]) nta)
    have hf1 : (upd (upd (upd H fa (.dK (dI [(o, 0)]))) la (.lst [.str o])) ta (.tup [.ref fa, .ref la])) fa = some (.dK (dI [(o, 0)])) := same_new nta _ _ (by rw [upd_ne (Ne.symm hlf), upd_same])
    have hl1 : (upd (upd (upd H fa (.dK (dI [(o, 0)]))) la (.lst [.str o])) ta (.tup [.ref fa, .ref la])) la = some (.lst ([o].map V.str)) := same_new nta _ _ upd_same
    generalize (upd (upd (upd H fa (.dK (dI [(o, 0)]))) la (.lst [.str o])) ta (.tup [.ref fa, .ref la])) = H1 at sm1 hf1 hl1
    refine ⟨fun m σ' H' => ∃ (f : List (Str × Int)) (line : List Str) (L : Int) (la : Addr) (z4 z5 z6 : Option V), m = 2 * (8 - f.length) + (if line = [] then 0 else 1) ∧ σ' = [some (.ref b), some (.str o), some (.ref fa), some (.ref la), z4, z5, z6] ∧ Same H H' ∧ H' fa = some (.dK (dI f)) ∧ H' la = some (.lst (line.map V.str)) ∧
      Steps B o f line ∧ (∀ n ∈ line, lk f n = some L) ∧ 0 ≤ L, ⟨_, [(o, 0)], [o], 0, la, none, none, none, rfl, rfl, sm1, hf1, hl1, Steps.start ho, fun n hn => ?_, Int.le_refl _⟩, fun m σ' H' h => ?_⟩
    · simp at hn; subst hn; simp [lk]
    · clear sm1 sm0 hf1 hl1 e0 nlH hlf nla nta la ta
      obtain ⟨f, line, L, la, z4, z5, z6, rfl, rfl, sm, hfa, hla, st, hL, h0⟩ := h
      have hfl : f.length ≤ 8 := by have := st.len; omega
      have mem : ∀ x ∈ line, x ∈ B.names := fun x hx => by
        obtain ⟨p, hp, e⟩ := List.mem_map.mp (st.lin x hx)
        rw [← e]; exact st.sub p hp
      refine ⟨.ref la, rfl, Nat.zero_le _, fun ea nea => ⟨la, ea, line.map V.str, [], rfl, rfl, SqL.of (same_new nea _ _ hla), SqL.of upd_same, okV_strs hB.ok mem, okV_nil, _, rfl, ite2 (fun e => ?_) (fun e => ?_)⟩⟩
      · have sm2 := sm.trans (same_new (o := .lst []) nea)
        have hfa := same_new nea (o := .lst []) _ _ hfa
        have hla := same_new nea (o := .lst []) _ _ hla
        generalize upd H' ea (.lst []) = H2 at sm2 hfa hla
        clear sm nea
        have hne : line ≠ [] := fun z => by rw [z] at e; simp at e
        refine ⟨_, fun _ _ h => h, ?_⟩
        refine ⟨Nat.zero_le _, fun va nva => ?_⟩
        have hvf : va ≠ fa := ne_of_none' hfa nva
        have hvl : va ≠ la := ne_of_none' hla nva
        have nvH : H va = none := sm2.free nva
        have sm3 := sm2.trans (same_new (o := .lst []) nva)
        have hfa := same_new nva (o := .lst []) _ _ hfa
        have hla := same_new nva (o := .lst []) _ _ hla
        have hva : upd H2 va (.lst []) va = some (.lst (([] : List Str).map V.str)) := upd_same
        generalize upd H2 va (.lst []) = H3 at sm3 hfa hla hva
        clear sm2 nva
        refine ⟨.ref la, rfl, la, rfl, ⟨_, SqL.of hla⟩, ?_⟩
        refine for_it (walk_list (xs := line.map V.str)) (fun i σ2 H4 => ∃ (late : List Str) (z5 : Option V), σ2 = [some (.ref b), some (.str o), some (.ref fa), some (.ref la), some (.ref va), z5, z6] ∧ Same H H4 ∧ H4 fa = some (.dK (dI f)) ∧ H4 la = some (.lst (line.map V.str)) ∧ H4 va = some (.lst (late.map V.str)) ∧ late.Nodup ∧
          (∀ e ∈ late, e ∈ B.names ∧ e ∉ f.map (·.1) ∧ ∃ k ∈ line, k ∈ B.needs e) ∧ ∀ k ∈ line.take i, ∀ e ∈ B.names, k ∈ B.needs e → e ∈ f.map (·.1) ∨ e ∈ late) ⟨[], z5, rfl, sm3, hfa, hla, hva, List.nodup_nil, fun _ h => (nomatch h), fun k h => (by simp at h)⟩
          (fun i σ2 H4 _ h => ?_) (fun i x σ2 H4 H4' hi h y => ?_) (fun σ2 H4 h => ?_)
        · obtain ⟨_, _, _, _, _, hl, _⟩ := h
          exact SqL.of hl
        · obtain ⟨late, z5, rfl, sm4, hfa, hla, hva, nd, h1, h2⟩ := h
          obtain ⟨rfl, hx⟩ := y
          have hi' : i < line.length := by rw [List.length_map] at hi; exact hi
          have hln : line[i]? = some line[i] := List.getElem?_eq_getElem hi'
          rw [List.getElem?_map, hln] at hx; cases hx
          generalize line[i] = x at hln
          have lateL : late.length ≤ 8 := by
            have := nodup_sub_len nd fun e he => (h1 e he).1
            rw [names_len] at this; omega
          refine ⟨.ref va, rfl, .inl ⟨rfl, _, SqL.of hva⟩, .ref b, rfl, .str x, rfl, b, B, x, rfl, hB.same sm4, fun H5 p sm5 hp => ⟨p, rfl, ⟨_, hp.sq⟩, fun D nD => ?_⟩⟩
          have hfa := sm5 _ _ hfa
          have hla := sm5 _ _ hla
          have hva := sm5 _ _ hva
          have sm6 := sm4.trans sm5
          generalize hys : (B.names.filter fun e => decide (x ∈ B.needs e)) = ys at hp
          have ysl : ys.length ≤ 8 := by
            rw [← hys]; have := List.length_filter_le (fun e => decide (x ∈ B.needs e)) B.names; rw [names_len] at this; omega
          refine lc_std (walk_tup (xs := ys.map V.str)) ys (fun e => if decide (e ∉ f.map (·.1) ∧ e ∉ late) = true then some (.str e) else none) nD (List.length_map _) (by omega) (fun H7 s => TupA.sq (hp.mono (.of s))) (fun j x' v H7 H7' Kt Kf hj s y kt kf => ?_) (fun H7 s e => ?_)
          · obtain ⟨rfl, hv⟩ := y
            rw [List.getElem?_map, hj] at hv; cases hv
            have hva7 : H7' va = some (.lst (late.map V.str)) := s _ _ hva
            refine ⟨rfl, .str x', rfl, .ref fa, rfl, fa, _, rfl, dget_dF (.inl (s _ _ hfa)), _, rfl, ite2 (fun e => ?_) (fun e => ?_)⟩
            · have n1 : x' ∉ f.map (·.1) := fun z => by
                obtain ⟨v, hv⟩ := lk_isSome z
                rw [hv] at e; simp at e
              refine ⟨.str x', rfl, .ref va, rfl, va, _, rfl, .inl (SqL.of hva7), rfl, strs_flatV _, _, rfl, ?_⟩
              rw [inV_strs]
              refine ite2 (fun e => ?_) (fun e => ?_)
              · have n2 : x' ∉ late := by simpa using e
                exact ⟨.str x', rfl, kt _ _ (if_pos (decide_eq_true ⟨n1, n2⟩)) (Same.refl _)⟩
              · have n2 : x' ∈ late := by simpa using e
                exact kf _ (if_neg (by simp [n2])) (Same.refl _)
            · have n1 : x' ∈ f.map (·.1) := by
                apply Classical.byContradiction
                intro z
                rw [lk_none' z] at e; simp at e
              refine iteF (kf _ (if_neg (fun z => (of_decide_eq_true z).1 n1)) (Same.refl _))
          · rw [fm_if] at e
            have nDH : H D = none := sm6.free nD
            have hDv : D ≠ va := ne_of_none' hva nD
            generalize hnew : (ys.filter fun e => decide (e ∉ f.map (·.1) ∧ e ∉ late)) = new at e
            have newm : ∀ e ∈ new, e ∈ B.names ∧ x ∈ B.needs e ∧ e ∉ f.map (·.1) ∧ e ∉ late := fun e he => by
              rw [← hnew, List.mem_filter, ← hys, List.mem_filter] at he
              have a := of_decide_eq_true he.2
              exact ⟨he.1.1, of_decide_eq_true he.1.2, a.1, a.2⟩
            have newL : new.length ≤ 8 := by rw [← hnew]; exact Nat.le_trans (List.length_filter_le _ _) ysl
            have newN : new.Nodup := by rw [← hnew, ← hys]; exact (hB.R.nd.filter _).filter _
            refine ⟨va, D, _, _, rfl, rfl, s _ _ hva, e, Nat.le_of_lt (small (by simp; omega)), ?_⟩
            refine ⟨late ++ new, some (.str x), rfl, same_put (sm6.trans s) nvH, ?_, ?_, ?_, ?_, fun e he => ?_, fun k hk e he hke => ?_⟩
            · rw [upd_ne (Ne.symm hvf)]; exact s _ _ hfa
            · rw [upd_ne (Ne.symm hvl)]; exact s _ _ hla
            · rw [upd_same, List.map_append]
            · rw [List.nodup_append]
              exact ⟨nd, newN, fun a ha c hc z => by subst z; exact (newm a hc).2.2.2 ha⟩
            · rcases List.mem_append.mp he with he | he
              · exact h1 e he
              · obtain ⟨a1, a2, a3, _⟩ := newm e he
                exact ⟨a1, a3, x, List.mem_of_getElem? hln, a2⟩
            · rw [take_snoc hln] at hk
              rcases List.mem_append.mp hk with hk | hk
              · exact (h2 k hk e he hke).imp id fun z => List.mem_append_left _ z
              · simp at hk; subst hk
                by_cases c1 : e ∈ f.map (·.1)
                · exact .inl c1
                · by_cases c2 : e ∈ late
                  · exact .inr (List.mem_append_left _ c2)
                  · refine .inr (List.mem_append_right _ ?_)
                    rw [← hnew, List.mem_filter, ← hys, List.mem_filter]
                    exact ⟨⟨he, decide_eq_true hke⟩, decide_eq_true ⟨c1, c2⟩⟩
        · obtain ⟨late, z5, rfl, sm4, hfa, hla, hva, nd, h1, h2⟩ := h
          rw [List.length_map, List.take_length] at h2
          have lateL : late.length ≤ 8 := by
            have := nodup_sub_len nd fun e he => (h1 e he).1
            rw [names_len] at this; omega
          have rd := st.round hL nd h1 h2 h0
          have rdl := rd.len
          obtain ⟨n0, lr, hl0⟩ := List.exists_cons_of_ne_nil hne
          refine ⟨.ref va, rfl, va, rfl, ⟨_, SqL.of hva⟩, ?_⟩
          refine for_it (walk_list (xs := late.map V.str)) (fun i σ2 H5 => ∃ (z6 : Option V), σ2 = [some (.ref b), some (.str o), some (.ref fa), some (.ref la), some (.ref va), z5, z6] ∧ Same H H5 ∧ H5 fa = some (.dK (dI (f ++ (late.take i).map fun e => (e, L + 1)))) ∧ H5 la = some (.lst (line.map V.str)) ∧ H5 va = some (.lst (late.map V.str)))
            ⟨z6, rfl, sm4, by simpa using hfa, hla, hva⟩ (fun i σ2 H5 _ h => ?_) (fun i x σ2 H5 H5' hi h y => ?_) (fun σ2 H5 h => ?_)
          · obtain ⟨_, _, _, _, _, hv⟩ := h
            exact SqL.of hv
          · obtain ⟨z6, rfl, sm5, hfa, hla, hva⟩ := h
            obtain ⟨rfl, hx⟩ := y
            have hi' : i < late.length := by rw [List.length_map] at hi; exact hi
            have hln : late[i]? = some late[i] := List.getElem?_eq_getElem hi'
            rw [List.getElem?_map, hln] at hx; cases hx
            have hnt : late[i] ∉ (late.take i).map id := nd_take (f := id) (by rw [List.map_id]; exact nd) hln
            generalize late[i] = x at hln hnt
            have hx := h1 x (List.mem_of_getElem? hln)
            have e0 : lk (f ++ (late.take i).map fun e => (e, L + 1)) n0 = some L := by
              rw [lk_append, hL n0 (by rw [hl0]; simp)]; rfl
            refine ⟨.ref fa, rfl, .ref la, rfl, la, _, 0, .str n0, rfl, rfl, SqL.of hla, atI_nat (j := 0) (by rw [hl0]; rfl), fa, _, rfl, dget_some (.inl hfa) e0, L, 1, rfl, rfl, ?_⟩
            have nk : x ∉ (f ++ (late.take i).map fun e => (e, L + 1)).map (·.1) := by
              rw [List.map_append, List.map_map, List.mem_append]
              intro z
              rcases z with z | z
              · exact hx.2.1 z
              · exact hnt z
            refine ⟨.ref fa, rfl, .str x, rfl, fa, _, rfl, dput_dF hfa nk (by simp; omega), ?_⟩
            refine ⟨some (.str x), rfl, same_put sm5 nfa, ?_, ?_, ?_⟩
            · rw [upd_same, take_snoc hln, List.map_append, List.append_assoc]; rfl
            · rw [upd_ne]; exact hla
              intro z; rw [z, hfa] at hla; cases hla
            · rw [upd_ne hvf]; exact hva
          · obtain ⟨z6, rfl, sm5, hfa, hla, hva⟩ := h
            rw [List.length_map, List.take_length] at hfa
            refine ⟨.ref va, rfl, _, ?_, f ++ late.map (fun e => (e, L + 1)), late, L + 1, va, some (.ref va), z5, z6, rfl, rfl, sm5, hfa, hva, rd, fun n hn => ?_, by omega⟩
            · rw [if_neg hne, List.length_append, List.length_map]
              rw [List.length_append, List.length_map] at rdl
              by_cases hz : late = []
              · rw [if_pos hz, hz]; simp
              · have : late.length ≠ 0 := fun z => hz (List.length_eq_zero_iff.mp z)
                rw [if_neg hz]; omega
            · rw [lk_append, lk_none' (h1 n hn).2.1, Option.none_or]
              refine lk_of_mem ?_ (List.mem_map.mpr ⟨n, hn, rfl⟩)
              rw [List.map_map]
              show (late.map fun e => e).Nodup
              rw [List.map_id']; exact nd
      · have sm2 := sm.trans (same_new (o := .lst []) nea)
        have hfa := same_new nea (o := .lst []) _ _ hfa
        have hz : line = [] := by
          apply Classical.byContradiction
          intro z; apply e; simp [z]
        subst hz
        exact ⟨.ref fa, rfl, q _ fa f sm2 nfa hfa st⟩
theorem ok_way (d : Def K mg "way" sWay ["book", "one", "other"]) (cS : Has P w K mg base "steps_down" ["book", "other"] 2 spSteps) (cN : Has P w K mg base "needs_of" ["book", "name"] 2 spNeedsOf) (m2 : mg "tuple" = none) : Has P w K mg base "way" ["book", "one", "other"] 3 spWay := d.has fun f fd F => by
  refine F.ok scWay (fun vs H Q E h => ?_) (fun cdv A outer s H vs Q E hr h => ?_)
  · obtain ⟨b, B, a, o, rfl, _⟩ := h; rfl
  · obtain ⟨b, B, a, o, rfl, hB, hna, hh, q⟩ := h
    refine ⟨_, pss_cons (ps_set (i := 3) scWay.nd rfl (Or.inr rfl) (pe_has cS hr (pa_cons (pv 0) (pa_cons (pv 2) pa_nil))))
      (pss_cons (ps_if (pt_cmp (pc_dnotin (hu_of hr) (pv 1) (pv 3))) (pss_one (ps_ret pe_non)) pss_nil)
      (pss_cons (ps_set (i := 4) scWay.nd rfl (Or.inl rfl) (pe_lst (pa_cons (pv 1) pa_nil)))
      (pss_cons (ps_while PassesOwn.never (pt_cmpR op_ne (pe_ix (r := rIxL K) ix_list (pv 4) (pe_un un_neg pe_int) (fun _ _ => rfl)) (pv 2) (nomark _))
        (pss_cons (ps_set (i := 5) scWay.nd rfl (Or.inr rfl) (pe_dget (hu_of hr) (pv 3) (pe_ix (r := rIxL K) ix_list (pv 4) (pe_un un_neg pe_int) (fun _ _ => rfl)) (fun _ _ => rfl)))
        (pss_one (ps_expr (pe_bm PySem.F.plainAttrs_list PySem.F.slot_list_append PySem.F.type_list_append mt_append (pv 4) (pa_cons (pe_ix (r := rIxL K) ix_list (pe_lc (own := [("need", 6)]) (g := gName 6) rfl scWay.nd (pi_tup (pe_has cN hr (pa_cons (pv 0) (pa_cons (pe_ix (r := rIxL K) ix_list (pv 4) (pe_un un_neg pe_int) (fun _ _ => rfl)) pa_nil)))) (blkOk_by (own := [("need", 6)]) (N := ["book", "one", "other", "steps", "found", "here", "need"]) (sc := defScope sWay) (by decide +kernel))
            (fun _ _ _ _ _ => pg_name (i := 6) scWay.nd rfl (Or.inl rfl)) (fun _ _ _ _ _ => pts_one (pt_cmpR op_eq (pe_dget2 (hu_of hr) (pv 3) (pv 6) (pv 5) ⟨rfl, rfl, rfl, rfl⟩) (pe_op op_sub (pv 5) pe_int) (nomark _))) (fun _ _ _ _ _ => pv 6)) pe_int (fun _ _ => rfl)) pa_nil))))))
      (pss_one (ps_ret (pe_callTy call_tuple_of (by rfl) m2 (by decide +kernel) (pa_cons (pv 4) pa_nil))))))), ?_⟩
    have R := hB.R
    have few := R.few
    have ho : o ∈ B.names := by
      cases hh with
      | one k => exact R.needMem k
      | more _ k => exact R.needMem k
    refine ⟨.ref b, rfl, .str o, rfl, b, B, o, rfl, hB, ho, fun H1 sa f sm1 nsa hsa st => ?_⟩
    obtain ⟨va, hva⟩ := lk_isSome (st.all R hh)
    refine ⟨.str a, rfl, .ref sa, rfl, sa, _, rfl, dget_dF (.inl hsa), _, rfl, ite2 (fun e => ?_) (fun _ => ?_)⟩
    · rw [hva] at e; simp at e
    refine ⟨.str a, rfl, (by show 1 ≤ sizeLine; decide), fun la nla => ?_⟩
    have sm2 := sm1.trans (same_new (o := .lst [.str a]) nla)
    have hsa := same_new nla (o := .lst [.str a]) _ _ hsa
    have nlH : H la = none := sm1.free nla
    have hla : upd H1 la (.lst [.str a]) la = some (.lst ((([] : List Str) ++ [a]).map V.str)) := upd_same
    have hls : la ≠ sa := fun z => by rw [z] at nla; rw [z, upd_same] at hsa; cases hsa
    generalize upd H1 la (.lst [.str a]) = H2 at sm2 hsa hla
    refine ⟨fun m σ' H' => ∃ (c : List Str) (x : Str) (v : Int) (z5 : Option V), m = v.toNat ∧ σ' = [some (.ref b), some (.str a), some (.str o), some (.ref sa), some (.ref la), z5, none] ∧ Same H H' ∧ H' sa = some (.dK (dI f)) ∧ H' la = some (.lst ((c ++ [x]).map V.str)) ∧
      Way B a x (c ++ [x]) ∧ lk f x = some v ∧ (c ++ [x]).Nodup ∧ ∀ y ∈ c, ∃ w, lk f y = some w ∧ v < w, ⟨_, [], a, va, none, rfl, rfl, sm2, hsa, hla, .here a, hva, by simp, fun _ h => (nomatch h)⟩, fun m σ' H' h => ?_⟩
    clear sm2 hsa hla nla
    obtain ⟨c, x, v, z5, rfl, rfl, sm, hsa, hla, hw, hv, nd, hc⟩ := h
    have hx := hw.mem R hna
    have cl : (c ++ [x]).length ≤ 8 := by
      have := nodup_sub_len nd hx
      rw [names_len] at this; omega
    have hla' : H' la = some (.lst (c.map V.str ++ [.str x])) := by rw [hla, List.map_append]; rfl
    refine ⟨.ref la, rfl, 1, rfl, la, _, -1, .str x, rfl, rfl, SqL.of hla', atI_last _ _, .str o, rfl, rfl, _, rfl, ite2 (fun e => ?_) (fun e => ?_)⟩
    · have hxo : x ≠ o := fun z => by subst z; simp at e
      refine ⟨_, fun _ _ h => h, ?_⟩
      refine ⟨.ref sa, rfl, .ref la, rfl, 1, rfl, la, _, -1, .str x, rfl, rfl, SqL.of hla', atI_last _ _, sa, _, rfl, dget_some (.inl hsa) hv, ?_⟩
      refine ⟨.ref la, rfl, .inl ⟨rfl, _, SqL.of hla'⟩, .ref b, rfl, .ref la, rfl, 1, rfl, la, _, -1, .str x, rfl, rfl, SqL.of hla', atI_last _ _, b, B, x, rfl, hB.same sm, hx x (by simp), fun na hna' => ⟨na, rfl, ⟨_, hna'.sq⟩, fun D nD => ?_⟩⟩
      have nl := needs_len R x
      refine lc_std (walk_tup (xs := (B.needs x).map V.str)) (B.needs x) (fun k => if decide (lk f k = some (v - 1)) = true then some (.str k) else none) nD (List.length_map _) (by omega) (fun H7 s => TupA.sq (hna'.mono (.of s))) (fun j k y H7 H7' Kt Kf hj s yy kt kf => ?_) (fun H7 s e => ?_)
      · obtain ⟨rfl, hy⟩ := yy
        rw [List.getElem?_map, hj] at hy; cases hy
        refine ⟨rfl, .ref sa, rfl, sa, rfl, .inl ⟨_, .inl (s _ _ hsa)⟩, .str k, rfl, .int v, rfl, _, dget_dF (.inl (s _ _ hsa)), .int v, rfl, v, 1, rfl, rfl, ?_, _, rfl, ite2 (fun e => ?_) (fun e => ?_)⟩
        · cases lk f k <;> rfl
        · refine ⟨.str k, rfl, kt _ _ (if_pos ?_) (Same.refl _)⟩
          have e := of_decide_eq_true e
          cases hk : lk f k with
          | none => rw [hk] at e; have := V.int.inj e; omega
          | some u => rw [hk] at e; have := V.int.inj e; simp [this]
        · refine kf _ (if_neg fun z => e ?_) (Same.refl _)
          rw [of_decide_eq_true z]; simp
      · rw [fm_if] at e
        have hnum := st.num _ (lk_mem hv)
        obtain ⟨k1, hk1, hk2⟩ := hnum.2.2 fun z => hxo (hnum.2.1 z)
        have hv1 : 1 ≤ v := by
          have := hnum.1
          have : v ≠ 0 := fun z => hxo (hnum.2.1 z)
          omega
        cases hf : (B.needs x).filter fun k => decide (lk f k = some (v - 1)) with
        | nil =>
          have : k1 ∈ (B.needs x).filter fun k => decide (lk f k = some (v - 1)) := List.mem_filter.mpr ⟨hk1, decide_eq_true hk2⟩
          rw [hf] at this; cases this
        | cons k0 rest =>
          have hk0 : k0 ∈ (B.needs x).filter fun k => decide (lk f k = some (v - 1)) := by rw [hf]; simp
          obtain ⟨n0, e0⟩ := List.mem_filter.mp hk0
          have e0 := of_decide_eq_true e0
          rw [hf] at e
          have nk0 : k0 ∉ c ++ [x] := fun z => by
            rcases List.mem_append.mp z with z | z
            · obtain ⟨w', h1, h2⟩ := hc k0 z
              rw [e0] at h1; cases h1; omega
            · simp at z; subst z; rw [hv] at e0; have := Option.some.inj e0; omega
          refine ⟨D, _, 0, .str k0, rfl, rfl, SqL.of e, atI_nat (j := 0) rfl, la, _, .str k0, rfl, rfl, s _ _ hla, small (by rw [List.length_map]; omega), ?_⟩
          refine ⟨(v - 1).toNat, by omega, c ++ [x], k0, v - 1, _, rfl, rfl, same_put (sm.trans s) nlH, ?_, ?_, .step k0 hw n0, e0, ?_, fun y hy => ?_⟩
          · rw [upd_ne (Ne.symm hls)]; exact s _ _ hsa
          · rw [upd_same, List.map_append (l₁ := c ++ [x])]; rfl
          · rw [List.nodup_append]; exact ⟨nd, by simp, fun p hp q hq z => by simp at hq; subst hq; subst z; exact nk0 hp⟩
          · rcases List.mem_append.mp hy with hy | hy
            · obtain ⟨w', h1, h2⟩ := hc y hy
              exact ⟨w', h1, by omega⟩
            · simp at hy; subst hy; exact ⟨v, hv, by omega⟩
    · have hxo : x = o := by
        apply Classical.byContradiction
        intro z; apply e; simp [z]
      subst hxo
      exact ⟨.ref la, rfl, la, _, rfl, .inl ⟨SqL.of hla, fun l hl => q _ l _ (sm.trans (same_new hl)) (TupA.of upd_same) cl hw⟩⟩
end
end K45
set_option Elab.async false
set_option linter.all false
set_option maxRecDepth 100000
set_option maxHeartbeats 4000000
namespace K45
open PySem PySem.Spec PyProof.Rows L2
/-! orders.py -/
abbrev sRt : Stmt := topS 12
abbrev sRanks : Stmt := topS 13
abbrev sInOrder : Stmt := topS 14
abbrev sJudge : Stmt := topS 15
abbrev nRt : List Str := ["book", "found", "left", "name", "ready", "need"]
theorem scRt : FnScope nRt ["book"] (defScope sRt) := ⟨rfl, rfl, rfl, by decide +kernel, rfl, by decide +kernel, by decide +kernel⟩
theorem scRanks : FnScope ["book"] ["book"] (defScope sRanks) := ⟨rfl, rfl, rfl, by decide +kernel, rfl, by decide +kernel, by decide +kernel⟩
def spRt : Sp := fun vs H Q _ => ∃ (b : Addr) (B : Bk), vs = [.ref b] ∧ BookAt H b B ∧ ∀ (H' : Hp) (p : Addr) (f : List (Str × Int)), Same H H' → H p = none → H' p = some (.dK (dI f)) → RkOk B f → Q (.ref p) H'
def spRanks : Sp := fun vs H Q _ => ∃ (b : Addr) (B : Bk), vs = [.ref b] ∧ BookAt H b B ∧ ∀ (H' : Hp) (p : Addr) (f : List (Str × Int)) (as : List Addr), Same H H' → TupP H' p (as.map V.ref) → Paired (fun a q => H' a = some (.tup [.str q.1, .int q.2])) as f → RkOk B f → Q (.ref p) H'
theorem lk_dec {β : Type} {f : β → V} (l : List (Str × β)) (n : Str) : ((lk l n).map f).isSome = decide (n ∈ l.map (·.1)) := by
  by_cases h : n ∈ l.map (·.1)
  · obtain ⟨v, hv⟩ := lk_isSome h
    rw [hv, decide_eq_true h]; rfl
  · rw [lk_none' h, decide_eq_false h]; rfl
theorem max_rk {K : PySem.W.Frag} {H : Hp} {Q : VK} {D : Addr} {g : List (Str × Int)} {needs : List Str} (hD : SqL K H D ((needs.filterMap fun k => (lk g k).map fun v => v + 1).map V.int)) (hg : ∀ p ∈ g, 0 ≤ p.2) (hn : ∀ k ∈ needs, ∃ v, lk g k = some v)
    (fin : ∀ r : Int, RkAt (lk g) needs r → Q (.int r) H) : rMaxDef K [.ref D] [.int 0] H Q := by
  refine ⟨D, _, 0, rfl, rfl, hD, fun e => fin 0 ⟨Int.le_refl _, fun k hk => ?_, .inl rfl⟩, fun m hm hall => fin m ?_⟩
  · obtain ⟨v, hv⟩ := hn k hk
    have : v + 1 ∈ needs.filterMap fun k => (lk g k).map fun v => v + 1 := List.mem_filterMap.mpr ⟨k, hk, by rw [hv]; rfl⟩
    rw [e] at this; cases this
  · obtain ⟨k, hk, e⟩ := List.mem_filterMap.mp hm
    obtain ⟨v, hv⟩ := hn k hk
    rw [hv] at e
    have e : v + 1 = m := Option.some.inj e
    have h0 := hg _ (lk_mem hv)
    have h0 : 0 ≤ v := h0
    refine ⟨by omega, fun k' hk' => ?_, .inr ⟨k, hk, v, hv, e⟩⟩
    obtain ⟨v', hv'⟩ := hn k' hk'
    exact ⟨v', hv', hall _ (List.mem_filterMap.mpr ⟨k', hk', by rw [hv']; rfl⟩)⟩
section
variable {P : Program} {w : World} {K : PySem.W.Frag} {mg : Str → Option Value} {base : Heap}
theorem ok_rt (d : Def K mg "rank_table" sRt ["book"]) (cN : Has P w K mg base "names_of_jobs" ["book"] 1 spNames) (cO : Has P w K mg base "needs_of" ["book", "name"] 2 spNeedsOf) (m1 : mg "list" = none) (m2 : mg "all" = none) (m3 : mg "max" = none) : Has P w K mg base "rank_table" ["book"] 3 spRt := d.has fun f fd F => by
  refine F.ok scRt (fun vs H Q E h => ?_) (fun cdv A outer s H vs Q E hr h => ?_)
  · obtain ⟨b, B, rfl, _⟩ := h; rfl
  · obtain ⟨b, B, rfl, hB, q⟩ := h
    refine ⟨_, pss_cons (ps_asg (pe_tup (pa_cons pe_dnewK (pa_cons (pe_callTy call_list_of (by rfl) m1 (by decide +kernel) (pa_cons (pe_has cN (hr.mono (by decide)) (pa_cons (pv 0) pa_nil)) pa_nil)) pa_nil))) (pg_tup rfl (pgs_cons (pg_name (i := 1) scRt.nd rfl (Or.inr rfl)) (pgs_cons (pg_name (i := 2) scRt.nd rfl (Or.inl rfl)) pgs_nil))))
      (pss_cons (ps_while PassesOwn.never (pt_cmpR (op_neL hr.units) (pv 2) (pe_lst pa_nil) (nomark _))
        (pss_cons (ps_setLc (i := 4) (own := [("name", 3)]) (g := gName 3) rfl scRt.nd rfl rfl rfl (pi_list (pv 2)) (blkOk_by (own := [("name", 3)]) (N := nRt) (sc := defScope sRt) (by decide +kernel))
            (fun _ _ _ _ _ => pg_name (i := 3) scRt.nd rfl (Or.inl rfl)) (fun _ _ _ _ _ => pts_one (pt_val (pe_callB (id := "all") (r := rAll K) (cr_all rfl) (by rfl) m2 (by decide +kernel) (pa_cons (pe_lc (own := [("need", 5)]) (g := gName 5) (tt := tYes) (wi := iTup K (tCall spNeedsOf [] E0 (tCons (tVar 0) (tCons (tVar 3) tNil)))) rfl scRt.nd (pi_tup (pe_has cO hr (pa_cons (pv 0) (pa_cons (pv 3) pa_nil)))) (blkOk_by (own := [("need", 5)]) (by rfl))
              (fun _ _ _ _ _ => pg_name (i := 5) scRt.nd rfl (Or.inl rfl)) (fun _ _ _ _ _ => pts_nil) (fun _ _ _ _ _ => pe_cmp (pc_din (hu_of hr) (pv 5) (pv 1)))) pa_nil)))) (fun _ _ _ _ _ => pv 3))
        (pss_cons (ps_for PassesOwn.never rfl (pi_list (pv 4)) (pg_name (i := 3) scRt.nd rfl (Or.inl rfl))
          (pss_one (ps_dput (hu_of hr) (pv 1) (pv 3) (pe_callBK (cr_maxDef rfl hr.units) (by rfl) m3 (by decide +kernel) (pa_cons (pe_lc (own := [("need", 5)]) (g := gName 5) (tt := tYes) rfl scRt.nd (pi_tup (pe_has cO hr (pa_cons (pv 0) (pa_cons (pv 3) pa_nil)))) (blkOk_by (own := [("need", 5)]) (N := nRt) (sc := defScope sRt) (by decide +kernel))
            (fun _ _ _ _ _ => pg_name (i := 5) scRt.nd rfl (Or.inl rfl)) (fun _ _ _ _ _ => pts_nil) (fun _ _ _ _ _ => pe_op op_add (pe_dget (hu_of hr) (pv 1) (pv 5) (fun _ _ => rfl)) pe_int)) pa_nil) (pk_cons pe_int pk_nil)) rfl)))
        (pss_one (ps_setLc (i := 2) (own := [("name", 3)]) (g := gName 3) rfl scRt.nd rfl rfl rfl (pi_list (pv 2)) (blkOk_by (own := [("name", 3)]) (N := nRt) (sc := defScope sRt) (by decide +kernel))
            (fun _ _ _ _ _ => pg_name (i := 3) scRt.nd rfl (Or.inl rfl)) (fun _ _ _ _ _ => pts_one (pt_cmp (pc_dnotin (hu_of hr) (pv 3) (pv 1)))) (fun _ _ _ _ _ => pv 3))))))
        (pss_one (ps_ret (pv 1)))), ?_⟩
    have R := hB.R
    have few := R.few
    intro fa nfa
    have sm1 : Same H (upd H fa (.dK [])) := same_new nfa
    refine ⟨.ref b, rfl, b, B, rfl, hB.same sm1, by omega, fun H1 p sm2 hp => ⟨p, _, rfl, .inr hp.sq, fun la nla => ⟨(by show 2 ≤ sizeLine; decide), fun ta nta => ?_⟩⟩⟩
    refine ⟨ta, [.ref fa, .ref la], rfl, SqT.of upd_same, rfl, .ref fa, [.ref la], rfl, .ref la, [], rfl, rfl, ?_⟩
    have sm3 := ((sm1.trans sm2).trans (same_new (o := .lst (B.names.map V.str)) nla)).trans (same_new (o := .tup [.ref fa, .ref la]) nta)
    have hfa := same_new nta (o := .tup [.ref fa, .ref la]) _ _ (same_new nla (o := .lst (B.names.map V.str)) _ _ (sm2 fa _ upd_same))
    have hla := same_new nta (o := .tup [.ref fa, .ref la]) la _ (upd_same (H := H1) (o := .lst (B.names.map V.str)))
    generalize upd (upd H1 la (.lst (B.names.map V.str))) ta (.tup [.ref fa, .ref la]) = H2 at sm3 hfa hla
    clear sm2 nta nla hp sm1
    refine ⟨fun m σ' H' => ∃ (f : List (Str × Int)) (left : List Str) (la : Addr) (z3 z4 : Option V), m = left.length ∧ σ' = [some (.ref b), some (.ref fa), some (.ref la), z3, z4, none] ∧ Same H H' ∧ H' fa = some (.dK (dI f)) ∧ H' la = some (.lst (left.map V.str)) ∧ RkPart B f ∧ left.Nodup ∧
      (∀ n ∈ left, n ∈ B.names ∧ n ∉ f.map (·.1)) ∧ ∀ n ∈ B.names, n ∈ f.map (·.1) ∨ n ∈ left, ⟨_, [], B.names, la, none, none, rfl, rfl, sm3, hfa, hla, rk_nil B, R.nd, fun n hn => ⟨hn, by simp⟩, fun n hn => .inr hn⟩, fun m σ' H' h => ?_⟩
    clear sm3 hfa hla
    obtain ⟨f, left, la, z3, z4, rfl, rfl, sm, hfa, hla, rk, nd, hl1, hl2⟩ := h
    have leftL : left.length ≤ 8 := by
      have := nodup_sub_len nd fun e he => (hl1 e he).1
      rw [names_len] at this; omega
    refine ⟨.ref la, rfl, Nat.zero_le _, fun ea nea => ⟨la, ea, left.map V.str, [], rfl, rfl, SqL.of (same_new nea _ _ hla), SqL.of upd_same, okV_strs hB.ok fun x hx => (hl1 x hx).1, okV_nil, _, rfl, ite2 (fun e => ?_) (fun e => ?_)⟩⟩
    · have sm2 := sm.trans (same_new (o := .lst []) nea)
      have hfa := same_new nea (o := .lst []) _ _ hfa
      have hla := same_new nea (o := .lst []) _ _ hla
      generalize upd H' ea (.lst []) = H3 at sm2 hfa hla
      clear sm nea
      have hne : left ≠ [] := fun z => by rw [z] at e; simp at e
      refine ⟨_, fun _ _ h => h, ?_⟩
      refine ⟨.ref la, rfl, la, rfl, ⟨_, SqL.of hla⟩, fun D nD => ?_⟩
      have nDH : H D = none := sm2.free nD
      have hDf : D ≠ fa := ne_of_none' hfa nD
      refine lc_std (walk_list (xs := left.map V.str)) left (fun n => if decide (∀ k ∈ B.needs n, k ∈ f.map (·.1)) = true then some (.str n) else none) nD (List.length_map _) (by omega) (fun H7 s => SqL.of (s _ _ hla)) (fun j x v H7 H7' Kt Kf hj s y kt kf => ?_) (fun H7 s e => ?_)
      · obtain ⟨rfl, hv⟩ := y
        rw [List.getElem?_map, hj] at hv; cases hv
        have nl := needs_len R x
        refine ⟨rfl, .ref b, rfl, .str x, rfl, b, B, x, rfl, hB.same (sm2.trans s), (hl1 x (List.mem_of_getElem? hj)).1, fun na hna => ⟨na, rfl, ⟨_, hna.sq⟩, fun D2 nD2 => ?_⟩⟩
        refine lc_std (walk_tup (xs := (B.needs x).map V.str)) (B.needs x) (fun k => some (.bl (decide (k ∈ f.map (·.1))))) nD2 (List.length_map _) (by omega) (fun H8 s8 => TupA.sq (hna.mono (.of s8))) (fun j k v H8 H8' Kt2 Kf2 hj s8 y kt2 kf2 => ?_) (fun H8 s8 e => ?_)
        · obtain ⟨rfl, hv⟩ := y
          rw [List.getElem?_map, hj] at hv; cases hv
          refine ⟨rfl, .str k, rfl, .ref fa, rfl, fa, _, rfl, dget_dF (.inl (s8 _ _ (s _ _ hfa))), kt2 _ _ ?_ (Same.refl _)⟩
          rw [lk_dec]
        · rw [fm_all] at e
          refine ⟨D2, (B.needs x).map fun k => decide (k ∈ f.map (·.1)), rfl, SqL.of (by rw [e, List.map_map]; rfl), _, rfl, ite2 (fun e => ?_) (fun e => ?_)⟩
          · refine ⟨.str x, rfl, kt _ _ (if_pos (decide_eq_true fun k hk => ?_)) s8⟩
            rw [List.all_eq_true] at e
            exact of_decide_eq_true (e _ (List.mem_map.mpr ⟨k, hk, rfl⟩))
          · refine kf _ (if_neg fun z => e ?_) s8
            rw [List.all_eq_true]
            intro y hy
            obtain ⟨k, hk, rfl⟩ := List.mem_map.mp hy
            exact decide_eq_true (of_decide_eq_true z k hk)
      · rw [fm_if] at e
        have sm3 := sm2.trans s
        have hfa := s _ _ hfa
        have hla := s _ _ hla
        generalize hready : (left.filter fun n => decide (∀ k ∈ B.needs n, k ∈ f.map (·.1))) = ready at e
        have rdy : ∀ n ∈ ready, n ∈ left ∧ ∀ k ∈ B.needs n, k ∈ f.map (·.1) := fun n hn => by
          rw [← hready, List.mem_filter] at hn
          exact ⟨hn.1, of_decide_eq_true hn.2⟩
        have rnd : ready.Nodup := by rw [← hready]; exact nd.filter _
        clear s nD
        refine ⟨.ref D, rfl, D, rfl, ⟨_, SqL.of e⟩, ?_⟩
        refine for_it (walk_list (xs := ready.map V.str)) (fun i σ2 H4 => ∃ (g : List (Str × Int)) (z3 : Option V), σ2 = [some (.ref b), some (.ref fa), some (.ref la), z3, some (.ref D), none] ∧ Same H H4 ∧ H4 fa = some (.dK (dI g)) ∧ H4 la = some (.lst (left.map V.str)) ∧ H4 D = some (.lst (ready.map V.str)) ∧
          RkPart B g ∧ g.map (·.1) = f.map (·.1) ++ ready.take i ∧ ∀ n v, lk f n = some v → lk g n = some v) ⟨f, z3, rfl, sm3, hfa, hla, e, rk, by simp, fun _ _ h => h⟩ (fun i σ2 H4 _ h => ?_) (fun i x σ2 H4 H4' hi h y => ?_) (fun σ2 H4 h => ?_)
        · obtain ⟨_, _, _, _, _, _, hl, _⟩ := h
          exact SqL.of hl
        · clear sm3 hfa hla e
          obtain ⟨g, z3, rfl, sm3, hfa, hla, hD, rg, gk, gl⟩ := h
          obtain ⟨rfl, hx⟩ := y
          have hi' : i < ready.length := by rw [List.length_map] at hi; exact hi
          have hln : ready[i]? = some ready[i] := List.getElem?_eq_getElem hi'
          rw [List.getElem?_map, hln] at hx; cases hx
          have hnt : ready[i] ∉ (ready.take i).map id := nd_take (f := id) (by rw [List.map_id]; exact rnd) hln
          generalize ready[i] = x at hln hnt
          obtain ⟨xl, xn⟩ := rdy x (List.mem_of_getElem? hln)
          have xm := (hl1 x xl).1
          have nl := needs_len R x
          have hv : ∀ k ∈ B.needs x, ∃ v, lk g k = some v := fun k hk => by
            obtain ⟨v, hv⟩ := lk_isSome (xn k hk)
            exact ⟨v, gl _ _ hv⟩
          have gL : g.length ≤ 8 := by
            have := nodup_sub_len rg.nd (ys := B.names) fun y hy => by
              obtain ⟨p, hp, e⟩ := List.mem_map.mp hy
              rw [← e]; exact rg.sub p hp
            rw [names_len, List.length_map] at this; omega
          refine ⟨.ref b, rfl, .str x, rfl, b, B, x, rfl, hB.same sm3, xm, fun na hna => ⟨na, rfl, ⟨_, hna.sq⟩, fun D2 nD2 => ?_⟩⟩
          refine lc_std (walk_tup (xs := (B.needs x).map V.str)) (B.needs x) (fun k => (lk g k).map fun v => V.int (v + 1)) nD2 (List.length_map _) (by omega) (fun H8 s8 => TupA.sq (hna.mono (.of s8))) (fun j k v H8 H8' Kt2 Kf2 hj s8 y kt2 kf2 => ?_) (fun H8 s8 e => ?_)
          · obtain ⟨rfl, hv'⟩ := y
            rw [List.getElem?_map, hj] at hv'; cases hv'
            obtain ⟨v, hv⟩ := hv k (List.mem_of_getElem? hj)
            exact ⟨rfl, .ref fa, rfl, .str k, rfl, fa, _, rfl, dget_some (.inl (s8 _ _ hfa)) hv, v, 1, rfl, rfl, kt2 _ _ (by rw [hv]; rfl) (Same.refl _)⟩
          · have e' : H8 D2 = some (.lst (((B.needs x).filterMap fun k => (lk g k).map fun v => v + 1).map V.int)) := by
              rw [e, List.map_filterMap]
              congr 3
              funext k
              rw [Option.map_map]; rfl
            dsimp only [tCons, tNil, tC]
            refine max_rk (SqL.of e') (fun p hp => (rg.at_ p hp).nn) hv fun r hr => ?_
            have nk : x ∉ g.map (·.1) := by
              rw [gk, List.mem_append]
              intro z
              rcases z with z | z
              · exact (hl1 x xl).2 z
              · exact hnt (by rw [List.map_id]; exact z)
            refine ⟨.ref fa, rfl, .str x, rfl, fa, _, rfl, dput_dF (s8 _ _ hfa) nk (by omega), ?_⟩
            refine ⟨g ++ [(x, r)], some (.str x), rfl, same_put (sm3.trans s8) nfa, upd_same, ?_, ?_, rg.step xm nk hr, ?_, fun n v hnv => ?_⟩
            · rw [upd_ne]; exact s8 _ _ hla
              intro z; rw [z, hfa] at hla; cases hla
            · rw [upd_ne hDf]; exact s8 _ _ hD
            · rw [List.map_append, gk, take_snoc hln, List.append_assoc]; rfl
            · rw [lk_snoc nk, if_neg fun z => nk (by rw [← z]; exact lk_key (gl _ _ hnv))]; exact gl _ _ hnv
        · clear sm3 hfa hla e
          obtain ⟨g, z3, rfl, sm3, hfa, hla, hD, rg, gk, gl⟩ := h
          rw [List.length_map, List.take_length] at gk
          refine ⟨.ref la, rfl, la, rfl, ⟨_, SqL.of hla⟩, fun D2 nD2 => ?_⟩
          refine lc_std (walk_list (xs := left.map V.str)) left (fun n => if decide (n ∉ g.map (·.1)) = true then some (.str n) else none) nD2 (List.length_map _) (by omega) (fun H7 s => SqL.of (s _ _ hla)) (fun j x v H7 H7' Kt Kf hj s y kt kf => ?_) (fun H7 s e => ?_)
          · obtain ⟨rfl, hv⟩ := y
            rw [List.getElem?_map, hj] at hv; cases hv
            refine ⟨rfl, .str x, rfl, .ref fa, rfl, fa, _, rfl, dget_dF (.inl (s _ _ hfa)), _, rfl, ite2 (fun e => ?_) (fun e => ?_)⟩
            · rw [lk_dec] at e
              exact ⟨.str x, rfl, kt _ _ (if_pos (by simpa using e)) (Same.refl _)⟩
            · rw [lk_dec] at e
              exact kf _ (if_neg (by simpa using e)) (Same.refl _)
          · rw [fm_if] at e
            obtain ⟨n0, hn0⟩ := List.exists_mem_of_ne_nil _ hne
            obtain ⟨k0, k1, k2, k3⟩ := R.ready (fun k => k ∈ f.map (·.1)) (fun k => Classical.em _) (hl1 n0 hn0).1 (hl1 n0 hn0).2
            have k0l : k0 ∈ left := (hl2 k0 k1).resolve_left k2
            have k0r : k0 ∈ ready := by rw [← hready]; exact List.mem_filter.mpr ⟨k0l, decide_eq_true k3⟩
            refine ⟨_, ?_, g, left.filter (fun n => decide (n ∉ g.map (·.1))), D2, z3, some (.ref D), rfl, rfl, sm3.trans s, s _ _ hfa, e, rg, nd.filter _, fun n hn => ?_, fun n hn => ?_⟩
            · refine List.length_filter_lt_length_iff_exists.mpr ⟨k0, k0l, ?_⟩
              simp [gk, k0r]
            · rw [List.mem_filter] at hn
              exact ⟨(hl1 n hn.1).1, of_decide_eq_true hn.2⟩
            · by_cases c : n ∈ g.map (·.1)
              · exact .inl c
              · refine .inr (List.mem_filter.mpr ⟨(hl2 n hn).resolve_left fun z => c ?_, decide_eq_true c⟩)
                rw [gk]; exact List.mem_append_left _ z
    · have hz : left = [] := by
        apply Classical.byContradiction
        intro z; apply e; simp [z]
      subst hz
      exact ⟨.ref fa, rfl, q _ fa f (sm.trans (same_new nea)) nfa (same_new nea _ _ hfa) ⟨rk, fun n hn => (hl2 n hn).resolve_right (by simp)⟩⟩
end
end K45
set_option Elab.async false
set_option linter.all false
set_option maxRecDepth 100000
set_option maxHeartbeats 4000000
namespace K45
open PySem PySem.Spec PyProof.Rows L2 LamX
/-! orders.py: the rest -/
/-- a def whose code object is known -/
structure FunC (K : PySem.W.Frag) (x qual : Str) (st : Stmt) (f : Addr) (fd : FuncData) (c : Addr) : Prop where
  ex : ∃ (oc : Value) (od : Option Addr) (kV doc pm : Value) (an : Option Addr) (ct : Value) (osl : Array (Option Value)),
    fd = PySem.W.fnOf x qual (defArgs st) (defBody st) (defScope st) .none kV doc pm an (.ref c) ct ∧ K.lookup f = some ⟨oc, od, .func fd, osl⟩ ∧ PySem.W.codeIn K (.ref c) qual = true
  kp : PySem.W.keepIn K (.ref f) = true
structure DefC (K : PySem.W.Frag) (mg : Str → Option Value) (x : Str) (st : Stmt) (ps : List Str) (c : Addr) : Prop where
  ex : ∃ (f : Addr) (fd : FuncData), FunC K x x st f fd c ∧ Binds K fd ps [] ∧ mg x = some (.ref f)
section
variable {P : Program} {w : World} {K : PySem.W.Frag} {mg : Str → Option Value} {base : Heap}
theorem FunC.ok {x qual : Str} {st : Stmt} {f c : Addr} {fd : FuncData} {N ps : List Str} {k : Nat} {sp : Sp} (F : FunC K x qual st f fd c) (S : FnScope N ps (defScope st)) (len : ∀ vs H Q E, sp vs H Q E → vs.length = ps.length)
    (hbody : ∀ (A : Around) (outer : List Env) (s : Shared) (H : Hp) (vs : List V) (Q : VK) (E : XK), Room k (A.deeper (envOfC qual (defScope st) s.heap.objs.size f (.ref c))) → sp vs H Q E →
      ∃ t, PSs (cxOf CX0 P w K mg base N qual (defScope st) f (.ref c) A outer s H E).nox (defBody st) t ∧ t { nx := fun _ H' => Q .non H', rt := Q } (start N vs) H) : FnOk P w K mg base CX0 (k + 1) f fd ps sp := by
  obtain ⟨oc, od, kV, doc, pm, an, ct, osl, rfl, lk, hcd⟩ := F.ex
  refine fn_of lk hcd S len fun A outer s H vs Q E hr hsp => ?_
  obtain ⟨t, h, q⟩ := hbody A outer s H vs Q E hr hsp
  exact ⟨t, h.nox, q⟩
theorem DefC.has {x : Str} {st : Stmt} {ps : List Str} {k : Nat} {sp : Sp} {c : Addr} (d : DefC K mg x st ps c)
    (h : ∀ (f : Addr) (fd : FuncData), FunC K x x st f fd c → FnOk P w K mg base CX0 k f fd ps sp) : Has P w K mg base x ps k sp := by
  obtain ⟨f, fd, F, b, g⟩ := d.ex
  exact ⟨f, fd, g, F.kp, b, h f fd F⟩
end
theorem RkOk.perm {B : Bk} {f g : List (Str × Int)} (h : RkOk B f) (p : g.Perm f) : RkOk B g := by
  have e : ∀ n, lk f n = lk g n := fun n => lk_perm h.nd p.symm
  have e2 : lk g = lk f := funext fun n => (e n).symm
  refine ⟨⟨(p.map _).nodup_iff.mpr h.nd, fun q hq => h.sub q (p.mem_iff.mp hq), fun q hq => ?_⟩, fun n hn => (p.map _).mem_iff.mpr (h.all n hn)⟩
  rw [e2]; exact h.at_ q (p.mem_iff.mp hq)
theorem rk_count {B : Bk} (R : Right B) {f : List (Str × Int)} (h : RkOk B f) : f.length = B.jobs.length := by
  have := (rk_len R h).length_eq
  rw [List.length_map, names_len] at this; exact this
theorem keys_dF {β : Type} {f : β → V} {l : List (Str × β)} : (dF f l).map (·.1) = (l.map (·.1)).map (Sum.inr : Str → Key) := by unfold dF; rw [List.map_map, List.map_map]; rfl
abbrev lamQ (x : Str) : Str := x ++ (".<locals>." : Str) ++ ("<lambda>" : Str)
theorem scInOrder : FnScope ["book", "table", "name"] ["book"] (defScope sInOrder) := ⟨rfl, rfl, rfl, by decide +kernel, rfl, by decide +kernel, by decide +kernel⟩
def spInOrder (T : List (Addr × Str)) : Sp := fun vs H Q _ => ∃ (b : Addr) (B : Bk), vs = [.ref b] ∧ BookAt H b B ∧ Tabs T H ∧ ∀ (H' : Hp) (p : Addr) (o : List Str), ExtN H H' → Tabs T H' → TupA H' p (o.map V.str) → OrdOk B o → Q (.ref p) H'
section
variable {P : Program} {w : World} {K : PySem.W.Frag} {mg : Str → Option Value} {base : Heap}
theorem ok_ranks (d : Def K mg "ranks" sRanks ["book"]) (cR : Has P w K mg base "rank_table" ["book"] 3 spRt) (m1 : mg "tuple" = none) (m2 : mg "sorted" = none) : Has P w K mg base "ranks" ["book"] 4 spRanks := d.has fun f fd F => by
  refine F.ok scRanks (fun vs H Q E h => ?_) (fun cdv A outer s H vs Q E hr h => ?_)
  · obtain ⟨b, B, rfl, _⟩ := h; rfl
  · obtain ⟨b, B, rfl, hB, q⟩ := h
    refine ⟨_, pss_one (ps_ret (pe_callTy call_tuple_frz (by rfl) m1 (by decide +kernel) (pa_cons (pe_callB (cr_sortView rfl hr.units) (by rfl) m2 (by decide +kernel) (pa_cons (pe_bm0 PySem.F.plainAttrs_dict PySem.F.slot_dict_items PySem.F.type_dict_items mt_itemsK (pe_has cR hr (pa_cons (pv 0) pa_nil))) pa_nil)) pa_nil))), ?_⟩
    refine ⟨.ref b, rfl, b, B, rfl, hB, fun H1 p f sm1 _ hp hf => ⟨.inr (.inr (.inl ⟨rfl, .inl ⟨_, hp⟩⟩)), p, _, rfl, rfl, hp, fun v nv => ?_⟩⟩
    have few := hB.R.few
    have fl := rk_count hB.R hf
    refine ⟨v, p, f, rfl, upd_same, same_new nv _ _ hp, by omega, ?_⟩
    intro H2 l as cs sm2 nl hl hp2 _ hpr
    refine ⟨l, _, rfl, SqL.of hl, fun t o nt ho => ?_⟩
    refine q _ t cs as (((sm1.trans (same_new nv)).trans sm2).trans (same_new nt)) ⟨o, upd_same, ho⟩ (pair_mono hpr fun a c e => same_new nt _ _ e) (hf.perm hp2)
theorem alike_is (f : Str → Int) (a b : Str) : PySem.W.alike (encT [.int (f a), .str a]) (encT [.int (f b), .str b]) = true := by
  simp [encT, flatP, PySem.W.alike, PySem.W.alikeAll]
theorem ok_inOrder {T : List (Addr × Str)} {c Pt : Addr} (d : DefC K mg "in_order" sInOrder ["book"] c) (tb : TabB base mg c Pt) (hT : (Pt, lamQ "in_order") ∈ T) (hu : ∀ p ∈ T, p.1 = Pt → p.2 = lamQ "in_order") (cR : Has P w K mg base "rank_table" ["book"] 3 spRt) (m1 : mg "tuple" = none) (m2 : mg "sorted" = none) : Has P w K mg base "in_order" ["book"] 6 (spInOrder T) := d.has fun f fd F => by
  refine F.ok scInOrder (fun vs H Q E h => ?_) (fun A outer s H vs Q E hr h => ?_)
  · obtain ⟨b, B, rfl, _⟩ := h; rfl
  · obtain ⟨b, B, rfl, hB, hTs, q⟩ := h
    refine ⟨_, pss_cons (ps_set (i := 1) scInOrder.nd rfl (Or.inr rfl) (pe_has cR (hr.mono (by decide)) (pa_cons (pv 0) pa_nil)))
      (pss_one (ps_ret (pe_callTy call_tuple_of (by rfl) m1 (by decide +kernel) (pa_cons (pe_sortLam (T := T) (i := 2) (k := 0) (x := "name") (c := c) (P := Pt) (by rfl) m2 rfl scInOrder.nd hr (pa_cons (pv 1) pa_nil) tb rfl hT hu (lamP_by (by rfl)) rfl
        (fun A s H f c' hr' => pe_tup (pa_cons (pe_dget (hu_of hr') (pv 1) (pv 2) (fun _ _ => rfl)) (pa_cons (pv 2) pa_nil)))) pa_nil)))), ?_⟩
    refine ⟨.ref b, rfl, b, B, rfl, hB, fun H1 ta f sm1 _ hta hf => ?_⟩
    have few := hB.R.few
    have fl := rk_count hB.R hf
    refine ⟨.ref ta, rfl, ta, f.map (·.1), fun n => [.int ((lk f n).getD 0), .str n], rfl, hTs.ext sm1, fun H2 hE hT2 => ?_⟩
    have hta2 := hE _ _ hta (fun _ z => nomatch z)
    refine ⟨.inr (.inr ⟨_, .inl hta2, keys_dF⟩), by rw [List.length_map]; omega, fun b x hx => ?_, fun b => by simp, fun a b => alike_is (fun n => (lk f n).getD 0) a b, fun n hn H3 sm3 => ?_, fun ms H3 l hp hs sm3 nl => ?_⟩
    · rcases List.mem_cons.mp hx with rfl | hx
      · rfl
      · rw [List.mem_singleton.mp hx]; rfl
    · obtain ⟨v, hv⟩ := lk_isSome hn
      refine ⟨.ref ta, rfl, .str n, rfl, ta, _, rfl, dget_some (.inl (sm3 _ _ hta2)) hv, .str n, rfl, (by show 2 ≤ sizeLine; decide), fun p np => ⟨same_new np, p, rfl, SqT.of ?_⟩⟩
      rw [upd_same]
      show some (HO.tup [V.int v, V.str n]) = some (HO.tup [V.int ((lk f n).getD 0), V.str n])
      rw [hv]; rfl
    · refine ⟨l, _, rfl, .inl ⟨SqL.of upd_same, fun l2 hl2 => ?_⟩⟩
      have sm4 := (sm3.trans (same_new (o := .lst (ms.map V.str)) nl)).trans (same_new (o := .tup (ms.map V.str)) hl2)
      refine q _ l2 ms (((ExtN.of sm1).trans hE).trans (ExtN.of sm4)) (hT2.ext sm4) (TupA.of upd_same) ?_
      refine ord_by hB.R (hp.trans (rk_len hB.R hf)) (fun n => (lk f n).getD 0) (hs.imp fun h => le_first (g := fun n => (lk f n).getD 0) (fun b => ⟨_, rfl⟩) h) fun n hn k hk => ?_
      obtain ⟨v, hv⟩ := lk_isSome (hf.all n hn)
      obtain ⟨u, hu⟩ := lk_isSome (hf.all k (hB.R.needMem hk))
      rw [hv, hu]
      exact rk_less hf hk hv hu
end
end K45
set_option Elab.async false
set_option linter.all false
set_option maxRecDepth 100000
set_option maxHeartbeats 4000000
namespace K45
open PySem PySem.Spec PyProof.Rows L2 LamX
/-! judge_order -/
theorem le_anti {a b : Str} (h1 : ltCps a.cps.toList b.cps.toList = false) (h2 : ltCps b.cps.toList a.cps.toList = false) : a = b := by
  rw [ltCps_eq] at h1 h2
  have h1 : ¬ a.cps.toList < b.cps.toList := by simpa using h1
  have h2 : ¬ b.cps.toList < a.cps.toList := by simpa using h2
  have e : a.cps.toList = b.cps.toList := List.le_antisymm (List.not_lt.mp h2) (List.not_lt.mp h1)
  cases a; cases b
  congr 1
  exact Array.toList_inj.mp e
theorem le_trans' {a b c : Str} (h1 : ltCps b.cps.toList a.cps.toList = false) (h2 : ltCps c.cps.toList b.cps.toList = false) : ltCps c.cps.toList a.cps.toList = false := by
  rw [ltCps_eq] at *
  have h1 : ¬ b.cps.toList < a.cps.toList := by simpa using h1
  have h2 : ¬ c.cps.toList < b.cps.toList := by simpa using h2
  have : ¬ c.cps.toList < a.cps.toList := List.not_lt.mpr (List.le_trans (List.not_lt.mp h1) (List.not_lt.mp h2))
  simpa using this
theorem rising_all : ∀ (p : Str) (l : List Str), risingS p l = true → ∀ x ∈ l, ltCps x.cps.toList p.cps.toList = false
  | _, [], _, _, h => nomatch h
  | p, y :: l, h, x, hx => by
    unfold risingS at h
    rw [Bool.and_eq_true] at h
    have h1 : ltCps y.cps.toList p.cps.toList = false := by simpa using h.1
    rcases List.mem_cons.mp hx with rfl | hx
    · exact h1
    · exact le_trans' h1 (rising_all y l h.2 x hx)
theorem rising_sorted : ∀ (p : Str) (l : List Str), risingS p l = true → sortedS l = true
  | _, [], _ => rfl
  | p, y :: l, h => by
    unfold risingS at h
    rw [Bool.and_eq_true] at h
    exact h.2
theorem sorted_unique : ∀ {xs ys : List Str}, xs.Perm ys → sortedS xs = true → sortedS ys = true → xs = ys
  | [], ys, p, _, _ => by rw [List.nil_perm.mp p]
  | x :: xs, ys, p, h1, h2 => by
    cases ys with
    | nil => exact absurd p (by simp)
    | cons y ys =>
      have e : x = y := by
        by_cases e : x = y
        · exact e
        · have hx : x ∈ ys := (List.mem_cons.mp (p.mem_iff.mp List.mem_cons_self)).resolve_left e
          have hy : y ∈ xs := (List.mem_cons.mp (p.mem_iff.mpr List.mem_cons_self)).resolve_left (Ne.symm e)
          exact le_anti (rising_all y ys h2 x hx) (rising_all x xs h1 y hy)
      subst e
      rw [sorted_unique p.cons_inv (rising_sorted x xs h1) (rising_sorted x ys h2)]
section
variable {X : Cx}
/-- sorted(e) of texts in a row: a list, a tuple, a dict -/
theorem cr_sortCol (hcalm : X.calm = true) : CallR X (.builtin "sorted") (fun xs H Q => ∃ (a : Addr) (ks : List Str), xs = [.ref a] ∧ ColV X.K H a ks ∧ ks.length < 64 ∧ ∀ ys p, ys.Perm ks → sortedS ys = true → H p = none → Q (.ref p) (upd H p (.lst (ys.map V.str)))) := by
  intro pins s σ H xs us Q I r q
  obtain ⟨a, ks, ex, hd, h64, q⟩ := q
  subst ex
  obtain ⟨u, eu, rx⟩ := vals1 r
  subst eu
  cases rx
  refine Calls.call_function_entry PyProof.Rows.kind_sorted PyProof.Rows.plain_sorted PyProof.Rows.entry_sorted (PyProof.Rows.args_sorted1 _) ?_
  unfold Builtin.«sorted»
  refine wpAny_bind (m := checkCount "sorted" 1 1 _) (wpAny_pure ?_)
  refine wpAny_bind (col_ok (A := X.A.in1) I (I.ok.hd hcalm) hd (by omega) fun us h' tk rv hk => ?_)
  have hS := rv.strs
  have hul : us.length = ks.length := by rw [← rv.length, List.length_map]
  have I1 : Inv X pins σ H { s with heap := h', toks := tk } := I.kept hk
  refine wpAny_bind (wpAny_newList ?_ (by rw [hul, sizeLine_eq]; omega))
  have hoL : (h'.push (seqObj "list" us.toArray 0)).get? h'.objs.size = some (seqObj "list" us.toArray 0) := Heap.get?_push_size _ rfl
  show wpAny _ _ _ _ _ { s with heap := h'.push (seqObj "list" us.toArray 0), toks := tk }
  refine wpAny_bind (wpAny_holding (wpAny_call_entry PyProof.Rows.slot_list_sort ⟨_, hoL, rfl⟩ PyProof.Rows.entry_list_sort
    (list_sort_treeK strKind_oneLt (s := { s with heap := h'.push (seqObj "list" us.toArray 0), toks := tk }) hoL hS.keysOf (fun v₁ v₂ rest e => keyKind_strs (by rw [← e]; exact hS)) (by rw [hul]; exact h64) fun st' hp hs => ⟨_, rfl, ?_⟩)
    (PyProof.Rows.args_list_sort _)))
  obtain ⟨ys, g1, g2, g3⟩ := sorted_out_str hS hp hs
  obtain ⟨e', he'⟩ := PyProof.Rows.sortedHeap_at (vs := us) (out := (arrOf st').map (·.2)) hoL
  have hlen : (ys.map V.str).length ≤ sizeLine := by
    rw [List.length_map, g2.length_eq]
    exact Nat.le_trans (Nat.le_of_lt h64) (by decide)
  refine wpAny_pure ⟨_, rfl, .ref h'.objs.size, upd H h'.objs.size (.lst (ys.map V.str)), I1.laid (t' := tk) (fun b u e => ?_) (Nat.le_refl _)
    (show ObjOk X.prog X.w _ _ _ (.lst (ys.map V.str)) from ⟨hlen, ((arrOf st').map (·.2)).toList, e', vals_of_strs g1, by rw [Array.toArray_toList]; exact he'⟩), rfl, q ys _ g2 g3 (I1.hok.fresh (Nat.le_refl _))⟩
  have hb : b < h'.objs.size := Heap.lt_size e
  rw [PyProof.Rows.sortedHeap_old (Nat.ne_of_lt hb) (by rw [PyProof.Rows.size_push']; exact Nat.lt_succ_of_lt hb)]
  exact Heap.get?_push_of_some _ e
end
abbrev nJudge : List Str := ["book", "value", "name", "k", "need"]
theorem scJudge : FnScope nJudge ["book", "value"] (defScope sJudge) := ⟨rfl, rfl, rfl, by decide +kernel, rfl, by decide +kernel, by decide +kernel⟩
def spJudge : Sp := fun vs H Q _ => ∃ (b v : Addr) (B : Bk) (o : List Str), vs = [.ref b, .ref v] ∧ BookAt H b B ∧ H v = some (.tup (o.map V.str)) ∧ OrdOk B o ∧ ∀ (H' : Hp), Same H H' → Q .non H'
section
variable {P : Program} {w : World} {K : PySem.W.Frag} {mg : Str → Option Value} {base : Heap}
theorem ok_judge (d : Def K mg "judge_order" sJudge ["book", "value"]) (cN : Has P w K mg base "names_of_jobs" ["book"] 1 spNames) (cO : Has P w K mg base "needs_of" ["book", "name"] 2 spNeedsOf) (m1 : mg "list" = none) (m2 : mg "all" = none) (m3 : mg "sorted" = none) (m4 : mg "isinstance" = none) (m5 : mg "tuple" = none) (m6 : mg "str" = none) (m7 : mg "enumerate" = none) :
    Has P w K mg base "judge_order" ["book", "value"] 3 spJudge := d.has fun f fd F => by
  refine F.ok scJudge (fun vs H Q E h => ?_) (fun cdv A outer s H vs Q E hr h => ?_)
  · obtain ⟨b, v, B, o, rfl, _⟩ := h; rfl
  · obtain ⟨b, v, B, o, rfl, hB, hv, ho, q⟩ := h
    refine ⟨_, pss_cons (ps_if (pw_or (pt_not (pt_val (pe_callB RZ.call_isTy (by rfl) m4 (by decide +kernel) (pa_cons (pv 1) (pa_cons (pe_bltn (v := .ty "tuple") (by rfl) m5 (by decide +kernel) rfl) pa_nil)))))
        (pw_or1 (pt_not (pt_val (pe_callB (id := "all") (r := rAll K) (cr_all rfl) (by rfl) m2 (by decide +kernel) (pa_cons (pe_lc (own := [("name", 2)]) (g := gName 2) (tt := tYes) rfl scJudge.nd (pi_tup (pv 1)) (blkOk_by (own := [("name", 2)]) (N := nJudge) (sc := defScope sJudge) (by decide +kernel))
              (fun _ _ _ _ _ => pg_name (i := 2) scJudge.nd rfl (Or.inl rfl)) (fun _ _ _ _ _ => pts_nil) (fun _ _ _ _ _ => pe_callB RZ.call_isTy (by rfl) m4 (by decide +kernel) (pa_cons (pv 2) (pa_cons (pe_bltn (v := .ty "str") (by rfl) m6 (by decide +kernel) rfl) pa_nil)))) pa_nil)))))).pt pss_never pss_nil)
      (pss_cons (ps_if (pt_cmpR (op_neL hr.units) (pe_callB (cr_sortCol rfl) (by rfl) m3 (by decide +kernel) (pa_cons (pv 1) pa_nil)) (pe_callTy call_list_of (by rfl) m1 (by decide +kernel) (pa_cons (pe_has cN (hr.mono (by decide)) (pa_cons (pv 0) pa_nil)) pa_nil)) (nomark _)) pss_never pss_nil)
      (pss_cons (ps_for PassesOwn.never rfl (pi_enumT (by rfl) m7 (pa_cons (pv 1) pa_nil)) (pg_tup rfl (pgs_cons (pg_name (i := 3) scJudge.nd rfl (Or.inr rfl)) (pgs_cons (pg_name (i := 2) scJudge.nd rfl (Or.inl rfl)) pgs_nil)))
        (pss_one (ps_if (pt_not (pt_val (pe_callB (id := "all") (r := rAll K) (cr_all rfl) (by rfl) m2 (by decide +kernel) (pa_cons (pe_lc (own := [("need", 4)]) (g := gName 4) (tt := tYes) rfl scJudge.nd (pi_tup (pe_has cO hr (pa_cons (pv 0) (pa_cons (pv 2) pa_nil)))) (blkOk_by (own := [("need", 4)]) (N := nJudge) (sc := defScope sJudge) (by decide +kernel))
              (fun _ _ _ _ _ => pg_name (i := 4) scJudge.nd rfl (Or.inl rfl)) (fun _ _ _ _ _ => pts_nil) (fun _ _ _ _ _ => pe_cmpR (r := rIn K false) op_in_seq (pv 4) (pe_slice (r := rSlT K) sl_tup (pv 1) po_none (po_some (pv 3))) (by rfl))) pa_nil)))) pss_never pss_nil)))
      (pss_one (ps_ret pe_non)))), ?_⟩
    have R := hB.R
    have few := R.few
    have ol : o.length ≤ 8 := by rw [ho.perm.length_eq, names_len]; exact few
    have om : ∀ x ∈ o, x ∈ B.names := fun x hx => ho.perm.mem_iff.mp hx
    refine ⟨.ref v, rfl, .ref v, "tuple", rfl, .tup hv, true, rfl, ?_⟩
    refine ⟨.ref v, rfl, v, rfl, ⟨_, SqT.of hv⟩, fun D nD => ?_⟩
    refine lc_std (walk_tup (xs := o.map V.str)) o (fun _ => some (.bl true)) nD (List.length_map _) (by omega) (fun H7 s => SqT.of (s _ _ hv)) (fun j x w' H7 H7' Kt Kf hj s y kt kf => ?_) (fun H7 s e => ?_)
    · obtain ⟨rfl, hv'⟩ := y
      rw [List.getElem?_map, hj] at hv'; cases hv'
      exact ⟨rfl, .str x, rfl, .str x, "str", rfl, .str x, kt _ _ rfl (Same.refl _)⟩
    · rw [fm_all] at e
      have eb : (o.map fun _ => V.bl true) = (o.map fun _ => true).map V.bl := by rw [List.map_map]; rfl
      refine ⟨D, o.map fun _ => true, rfl, SqL.of (by rw [e, eb]), ?_⟩
      have ea : (o.map fun _ => true).all id = true := by rw [List.all_eq_true]; intro x hx; obtain ⟨_, _, rfl⟩ := List.mem_map.mp hx; rfl
      rw [ea]
      refine ⟨true, rfl, ?_⟩
      have hv := s _ _ hv
      refine ⟨.ref v, rfl, v, o, rfl, .inr (.inl (SqT.of hv)), by omega, fun ys p hp hs np => ?_⟩
      have hp2 : upd H7 p (.lst (ys.map V.str)) p = some (.lst (ys.map V.str)) := upd_same
      have sm2 := s.trans (same_new (o := .lst (ys.map V.str)) np)
      have hv := same_new np (o := .lst (ys.map V.str)) _ _ hv
      generalize upd H7 p (.lst (ys.map V.str)) = H8 at sm2 hv hp2
      refine ⟨.ref b, rfl, b, B, rfl, hB.same sm2, by omega, fun H9 np' sm3 hn => ⟨np', _, rfl, .inr hn.sq, fun lp nlp => ?_⟩⟩
      have ey : ys = B.names := sorted_unique (hp.trans ho.perm) hs hB.asc
      refine ⟨p, lp, _, _, rfl, rfl, SqL.of (same_new nlp _ _ (sm3 _ _ hp2)), SqL.of upd_same, okV_strs hB.ok fun x hx => by rw [← ey]; exact hx, okV_strs hB.ok fun x hx => hx, _, rfl, ?_⟩
      rw [ey]
      refine iteNS rfl ?_
      have sm4 := (sm2.trans sm3).trans (same_new (o := .lst (B.names.map V.str)) nlp)
      have hv := same_new nlp (o := .lst (B.names.map V.str)) _ _ (sm3 _ _ hv)
      generalize upd H9 lp (.lst (B.names.map V.str)) = H10 at sm4 hv
      refine ⟨.ref v, rfl, v, _, rfl, SqT.of hv, ?_⟩
      refine for_it (walk_enumT (xs := o.map V.str)) (fun i σ2 H4 => ∃ (z2 z3 : Option V), σ2 = [some (.ref b), some (.ref v), z2, z3, none] ∧ Same H H4) ⟨none, none, rfl, sm4⟩ (fun i σ2 H4 _ h => ?_) (fun i x σ2 H4 H4' hi h y => ?_) (fun σ2 H4 h => ?_)
      · obtain ⟨_, _, _, sm⟩ := h
        exact SqT.of (sm _ _ ‹H v = some _›)
      · obtain ⟨z2, z3, rfl, sm⟩ := h
        obtain ⟨T, x1, x2, rfl, nT, rfl, e1, e2⟩ := y
        cases e1
        have hi' : i < o.length := by rw [List.length_map] at hi; exact hi
        have hln : o[i]? = some o[i] := List.getElem?_eq_getElem hi'
        have e2 : (o.map V.str)[i]? = some x2 := e2
        rw [List.getElem?_map, hln] at e2; cases e2
        generalize hx : o[i] = x at hln
        have sm5 := sm.trans (same_new (o := .tup [.int (i : Nat), .str x]) nT)
        refine ⟨T, [.int (i : Nat), .str x], rfl, SqT.of upd_same, rfl, .int (i : Nat), [.str x], rfl, .str x, [], rfl, rfl, ?_⟩
        generalize upd H4 T (.tup [.int (i : Nat), .str x]) = H5 at sm5
        have nl := needs_len R x
        refine ⟨.ref b, rfl, .str x, rfl, b, B, x, rfl, hB.same sm5, om x (List.mem_of_getElem? hln), fun na hna => ⟨na, rfl, ⟨_, hna.sq⟩, fun D2 nD2 => ?_⟩⟩
        refine lc_std (walk_tup (xs := (B.needs x).map V.str)) (B.needs x) (fun _ => some (.bl true)) nD2 (List.length_map _) (by omega) (fun H8 s8 => TupA.sq (hna.mono (.of s8))) (fun j k v' H8 H8' Kt2 Kf2 hj s8 y kt2 kf2 => ?_) (fun H8 s8 e => ?_)
        · obtain ⟨rfl, hv'⟩ := y
          rw [List.getElem?_map, hj] at hv'; cases hv'
          have hv8 : H8' v = some (.tup (o.map V.str)) := s8 _ _ (sm5 _ _ ‹H v = some _›)
          refine ⟨rfl, .str k, rfl, .ref v, rfl, .int (i : Nat), rfl, (i : Int), rfl, v, o.map V.str, rfl, SqT.of hv8, ?_, fun p np => ⟨p, (o.take i).map V.str, rfl, .inr (SqT.of ?_), rfl, strs_flatV _, kt2 _ _ ?_ (same_new np)⟩⟩
          · rw [List.length_map, HT.sIx_nat]; intro z; omega
          · rw [upd_same]
            unfold cutV
            rw [List.length_map, HT.sIx_nat, HT.sIx_none, List.drop_zero, Nat.sub_zero, Nat.min_eq_left (by omega), List.map_take]
          · rw [inV_strs, decide_eq_true (ho.ahead i x hln k (List.mem_of_getElem? hj))]; rfl
        · rw [fm_all] at e
          have eb : ((B.needs x).map fun _ => V.bl true) = ((B.needs x).map fun _ => true).map V.bl := by rw [List.map_map]; rfl
          refine ⟨D2, (B.needs x).map fun _ => true, rfl, SqL.of (by rw [e, eb]), ?_⟩
          have ea : ((B.needs x).map fun _ => true).all id = true := by rw [List.all_eq_true]; intro x hx; obtain ⟨_, _, rfl⟩ := List.mem_map.mp hx; rfl
          rw [ea]
          exact ⟨true, rfl, some (.str x), some (.int (i : Nat)), rfl, sm5.trans s8⟩
      · obtain ⟨z2, z3, rfl, sm⟩ := h
        exact q _ sm
end
end K45
set_option Elab.async false
set_option linter.all false
set_option maxRecDepth 100000
set_option maxHeartbeats 4000000
namespace K45
open PySem PySem.Spec PyProof.Rows L2 LamX
/-! plans.py: the small ones -/
abbrev sEnd : Stmt := topS 17
abbrev sRun : Stmt := topS 18
abbrev sUsed : Stmt := topS 19
abbrev sPlen : Stmt := topS 20
abbrev nRun : List Str := ["book", "begins", "time", "name"]
abbrev nUsed : List Str := ["book", "names", "thing", "name"]
abbrev nPlen : List Str := ["book", "plan", "name", "machine", "begin"]
theorem scEnd : FnScope ["book", "begins", "name"] ["book", "begins", "name"] (defScope sEnd) := ⟨rfl, rfl, rfl, by decide +kernel, rfl, by decide +kernel, by decide +kernel⟩
theorem scRun : FnScope nRun ["book", "begins", "time"] (defScope sRun) := ⟨rfl, rfl, rfl, by decide +kernel, rfl, by decide +kernel, by decide +kernel⟩
theorem scUsed : FnScope nUsed ["book", "names", "thing"] (defScope sUsed) := ⟨rfl, rfl, rfl, by decide +kernel, rfl, by decide +kernel, by decide +kernel⟩
theorem scPlen : FnScope nPlen ["book", "plan"] (defScope sPlen) := ⟨rfl, rfl, rfl, by decide +kernel, rfl, by decide +kernel, by decide +kernel⟩
/-- a plan in the heap -/
abbrev entV (e : Ent) : List V := [.str e.1, .int e.2.1, .int e.2.2]
def PlanAt (H : Hp) (t : Addr) (pl : List Ent) : Prop := ∃ as : List Addr, TupA H t (as.map V.ref) ∧ Paired (fun a e => H a = some (.tup (entV e))) as pl
theorem PlanAt.mono {H H' : Hp} (k : TupS H H') {t : Addr} {pl : List Ent} (h : PlanAt H t pl) : PlanAt H' t pl := by
  obtain ⟨as, h1, h2⟩ := h
  exact ⟨as, h1.mono k, pair_mono h2 fun a e h => k.tup _ _ h⟩
theorem pair_mapR {α β γ : Type} {F : α → γ → Prop} (h : β → γ) : ∀ {xs : List α} {ys : List β}, Paired (fun a b => F a (h b)) xs ys → Paired F xs (ys.map h)
  | _, _, .nil => .nil
  | _, _, .cons a t => .cons a (pair_mapR h t)
theorem prs_pairs {K : PySem.W.Frag} {H : Hp} {t : Addr} {qs : List (Str × Int)} (h : PrsAt H t qs) : ∃ as : List Addr, TupP H t (as.map V.ref) ∧ Paired (fun (p : Addr) (kv : Key × V) => SqT K H p [kV kv.1, kv.2]) as (dI qs) := by
  obtain ⟨as, h1, h2⟩ := h
  exact ⟨as, h1, pair_mapR _ (pair_mono h2 fun a q e => SqT.of e)⟩
def spEnd : Sp := fun vs H Q _ => ∃ (b bg : Addr) (B : Bk) (bs : List (Str × Int)) (n : Str) (t : Int), vs = [.ref b, .ref bg, .str n] ∧ BookAt H b B ∧ Rd H bg (.dK (dI bs)) ∧ lk bs n = some t ∧ n ∈ B.names ∧ Q (.int (t + B.len n)) H
def spRun : Sp := fun vs H Q _ => ∃ (b bg : Addr) (B : Bk) (bs : List (Str × Int)) (t : Int), vs = [.ref b, .ref bg, .int t] ∧ BookAt H b B ∧ H bg = some (.dK (dI bs)) ∧ (bs.map (·.1)).Nodup ∧ (∀ p ∈ bs, p.1 ∈ B.names) ∧ bs.length ≤ 100 ∧ ∀ (H' : Hp) (p : Addr), Same H H' → H' p = some (.lst ((run B bs t).map V.str)) → Q (.ref p) H'
def spUsed : Sp := fun vs H Q _ => ∃ (b l : Addr) (B : Bk) (xs : List Str) (th : Str), vs = [.ref b, .ref l, .str th] ∧ BookAt H b B ∧ H l = some (.lst (xs.map V.str)) ∧ (∀ x ∈ xs, x ∈ B.names) ∧ xs.length ≤ 100 ∧ ∀ (H' : Hp), Same H H' → Q (.int (used B xs th)) H'
def spPlen : Sp := fun vs H Q _ => ∃ (b p : Addr) (B : Bk) (pl : List Ent), vs = [.ref b, .ref p] ∧ BookAt H b B ∧ PlanAt H p pl ∧ (∀ e ∈ pl, e.1 ∈ B.names) ∧ pl.length ≤ 100 ∧ ∀ (H' : Hp) (m : Int), Same H H' → m ∈ 0 :: pl.map (fun e => e.2.2 + B.len e.1) → (∀ y ∈ 0 :: pl.map (fun e => e.2.2 + B.len e.1), y ≤ m) → Q (.int m) H'
section
variable {P : Program} {w : World} {K : PySem.W.Frag} {mg : Str → Option Value} {base : Heap}
theorem ok_end (d : Def K mg "end_of" sEnd ["book", "begins", "name"]) (cJob : Has P w K mg base "job_of" ["book", "name"] 1 spJobOf) : Has P w K mg base "end_of" ["book", "begins", "name"] 2 spEnd := d.has fun f fd F => by
  refine F.ok scEnd (fun vs H Q E h => ?_) (fun cdv A outer s H vs Q E hr h => ?_)
  · obtain ⟨b, bg, B, bs, n, t, rfl, _⟩ := h; rfl
  · obtain ⟨b, bg, B, bs, n, t, rfl, hB, hbg, hl, hn, q⟩ := h
    obtain ⟨j, hj⟩ := job_some hn
    refine ⟨_, pss_one (ps_ret (pe_op op_add (pe_dget (hu_of hr) (pv 1) (pv 2) (fun _ _ => rfl)) (pe_ix (r := rIxT K) ix_tup (pe_has cJob hr (pa_cons (pv 0) (pa_cons (pv 2) pa_nil))) pe_int (fun _ _ => rfl)))), ?_⟩
    refine ⟨.ref bg, rfl, .str n, rfl, bg, _, rfl, dget_some hbg hl, .ref b, rfl, .str n, rfl, b, B, n, j, rfl, hB, hj, fun a ha => ?_⟩
    obtain ⟨n', u, mode, cmd, tries, e1, e2, _⟩ := ha.ex
    refine ⟨a, _, 5, .int j.len, rfl, rfl, SqT.of e1, atI_nat (j := 5) rfl, t, j.len, rfl, rfl, ?_⟩
    rw [← len_at hj]; exact q
theorem ok_run (d : Def K mg "run_at" sRun ["book", "begins", "time"]) (cE : Has P w K mg base "end_of" ["book", "begins", "name"] 2 spEnd) : Has P w K mg base "run_at" ["book", "begins", "time"] 3 spRun := d.has fun f fd F => by
  refine F.ok scRun (fun vs H Q E h => ?_) (fun cdv A outer s H vs Q E hr h => ?_)
  · obtain ⟨b, bg, B, bs, t, rfl, _⟩ := h; rfl
  · obtain ⟨b, bg, B, bs, t, rfl, hB, hbg, nd, sub, hl, q⟩ := h
    refine ⟨_, pss_one (ps_ret (pe_lock (pe_lc (own := [("name", 3)]) (g := gName 3) rfl scRun.nd (pi_keys (pv 1)) (blkOk_by (own := [("name", 3)]) (N := nRun) (sc := defScope sRun) (by decide +kernel))
      (fun _ _ _ _ _ => pg_name (i := 3) scRun.nd rfl (Or.inl rfl)) (fun _ _ _ _ _ => pts_one (pt_chain op_le op_lt (pe_dget (hu_of hr) (pv 1) (pv 3) (fun _ _ => rfl)) (pv 2) (pe_has cE hr (pa_cons (pv 0) (pa_cons (pv 1) (pa_cons (pv 3) pa_nil)))))) (fun _ _ _ _ _ => pv 3)))), ?_⟩
    refine ⟨bg, .dK (dI bs), hbg, trivial, fun od => ?_⟩
    refine ⟨.ref bg, rfl, bg, od, rfl, .inl ⟨_, upd_same, fun D nD => ?_⟩⟩
    have hB1 : BookAt (upd H bg (.frz od (.dK (dI bs)))) b B := hB.mono (tupS_lock hbg)
    refine lc_std walk_keys bs (fun p => if rnb B t p = true then some (.str p.1) else none) nD dF_length (by omega) (fun H7 s => s _ _ upd_same) (fun j x v H7 H7' Kt Kf hj s y kt kf => ?_) (fun H7 s e => ?_)
    · obtain ⟨rfl, k, u, hk, rfl⟩ := y
      unfold dI dF at hk
      rw [List.getElem?_map, hj] at hk; cases hk
      have hx := sub x (List.mem_of_getElem? hj)
      have hlk : lk bs x.1 = some x.2 := lk_of_mem nd (List.mem_of_getElem? hj)
      have hbg7 : Rd H7' bg (.dK (dI bs)) := .inr ⟨od, s _ _ upd_same⟩
      refine ⟨rfl, .ref bg, rfl, .str x.1, rfl, bg, _, rfl, dget_some hbg7 hlk, .int t, rfl, x.2, t, rfl, rfl, _, rfl, ?_⟩
      by_cases h1 : x.2 ≤ t
      · rw [decide_eq_true h1]
        refine iteT ⟨.ref b, rfl, .ref bg, rfl, .str x.1, rfl, b, bg, B, bs, x.1, x.2, rfl, hB1.same s, hbg7, hlk, hx, t, _, rfl, rfl, _, rfl, ?_⟩
        refine ite2 (fun e => ⟨.str x.1, rfl, kt _ _ (if_pos ?_) (Same.refl _)⟩) (fun e => kf _ (if_neg fun z => e ?_) (Same.refl _))
        · have := of_decide_eq_true e
          unfold rnb; exact decide_eq_true ⟨h1, this⟩
        · unfold rnb at z; exact decide_eq_true (of_decide_eq_true z).2
      · rw [decide_eq_false h1]
        refine iteF ⟨_, rfl, iteF (kf _ (if_neg fun z => ?_) (Same.refl _))⟩
        unfold rnb at z; exact h1 (of_decide_eq_true z).1
    · rw [fm_if] at e
      have hDb : D ≠ bg := fun z => by rw [z, upd_same] at nD; cases nD
      refine ⟨s _ _ upd_same, q _ D (same_unlock s hbg) ?_⟩
      rw [upd_ne hDb, e]; unfold run; rw [List.map_map]; rfl
theorem ok_used (d : Def K mg "used_by" sUsed ["book", "names", "thing"]) (cJob : Has P w K mg base "job_of" ["book", "name"] 1 spJobOf) (m1 : mg "sum" = none) (m2 : mg "dict" = none) : Has P w K mg base "used_by" ["book", "names", "thing"] 2 spUsed := d.has fun f fd F => by
  refine F.ok scUsed (fun vs H Q E h => ?_) (fun cdv A outer s H vs Q E hr h => ?_)
  · obtain ⟨b, l, B, xs, th, rfl, _⟩ := h; rfl
  · obtain ⟨b, l, B, xs, th, rfl, hB, hl, sub, hlen, q⟩ := h
    have R := hB.R
    refine ⟨_, pss_one (ps_ret (pe_callB (cr_sum rfl) (by rfl) m1 (by decide +kernel) (pa_cons (pe_lc (own := [("name", 3)]) (g := gName 3) (tt := tYes) rfl scUsed.nd (pi_list (pv 1)) (blkOk_by (own := [("name", 3)]) (N := nUsed) (sc := defScope sUsed) (by decide +kernel))
      (fun _ _ _ _ _ => pg_name (i := 3) scUsed.nd rfl (Or.inl rfl)) (fun _ _ _ _ _ => pts_nil) (fun _ _ _ _ _ => pe_dget2 (td := tCB (fun xs H Q => ∃ (a : Addr) (ps : List Addr) (kvs : List (Key × V)), xs = [.ref a] ∧ TupP H a (ps.map V.ref) ∧ Paired (fun p kv => SqT K H p [kV kv.1, kv.2]) ps kvs ∧ ∀ p, H p = none → Q (.ref p) (upd H p (.dK (mergeK [] kvs))))
          (tCons (tOp (rIxT K) (tCall spJobOf [] E0 (tCons (tVar 0) (tCons (tVar 3) tNil))) (tC (.int 4))) tNil)) (hu_of hr) (pe_callTy (call_dictPT rfl) (by rfl) m2 (by decide +kernel) (pa_cons (pe_ix ix_tup (pe_has cJob hr (pa_cons (pv 0) (pa_cons (pv 3) pa_nil))) pe_int (fun _ _ => rfl)) pa_nil)) (pv 2) pe_int ⟨rfl, rfl, rfl, rfl⟩)) pa_nil))), ?_⟩
    refine ⟨.ref l, rfl, l, rfl, ⟨_, SqL.of hl⟩, fun D nD => ?_⟩
    refine lc_std (walk_list (xs := xs.map V.str)) xs (fun x => some (.int (B.useOf x th))) nD (List.length_map _) (by omega) (fun H7 s => SqL.of (s _ _ hl)) (fun j x v H7 H7' Kt Kf hj s y kt kf => ?_) (fun H7 s e => ?_)
    · obtain ⟨rfl, hv⟩ := y
      rw [List.getElem?_map, hj] at hv; cases hv
      obtain ⟨jb, hjb⟩ := job_some (sub x (List.mem_of_getElem? hj))
      refine ⟨rfl, .ref b, rfl, .str x, rfl, b, B, x, jb, rfl, hB.same s, hjb, fun a ha => ?_⟩
      obtain ⟨n', u, mode, cmd, tries, e1, e2, e3⟩ := ha.ex
      obtain ⟨as, p1, p2⟩ := prs_pairs (K := K) e3
      refine ⟨a, _, 4, .ref u, rfl, rfl, SqT.of e1, atI_nat (j := 4) rfl, u, as, _, rfl, p1, p2, fun p np => ?_⟩
      have hu := R.und jb (job_mem hjb).1
      rw [merge0_dF hu]
      refine ⟨p, rfl, .inl ⟨_, .inl upd_same⟩, .str th, rfl, _, dget_dF (.inl upd_same), kt _ _ ?_ (same_new np)⟩
      unfold Bk.useOf
      rw [uses_at hjb]
      cases lk jb.uses th <;> rfl
    · rw [fm_all] at e
      refine ⟨D, xs.map fun x => B.useOf x th, rfl, SqL.of (by rw [e, List.map_map]; rfl), q _ s⟩
theorem ok_plen (d : Def K mg "plan_length" sPlen ["book", "plan"]) (cJob : Has P w K mg base "job_of" ["book", "name"] 1 spJobOf) (m1 : mg "max" = none) : Has P w K mg base "plan_length" ["book", "plan"] 2 spPlen := d.has fun f fd F => by
  refine F.ok scPlen (fun vs H Q E h => ?_) (fun cdv A outer s H vs Q E hr h => ?_)
  · obtain ⟨b, p, B, pl, rfl, _⟩ := h; rfl
  · obtain ⟨b, p, B, pl, rfl, hB, hp, sub, hlen, q⟩ := h
    obtain ⟨as, hp1, hp2⟩ := hp
    refine ⟨_, pss_one (ps_ret (pe_callB (cr_max rfl) (by rfl) m1 (by decide +kernel) (pa_cons (pe_op op_cat (pe_lst (pa_cons pe_int pa_nil)) (pe_lc (own := [("name", 2), ("machine", 3), ("begin", 4)]) (g := gTup K 3 (gCons (gName 2) (gCons (gName 3) (gCons (gName 4) gNil)))) (tt := tYes) rfl scPlen.nd (pi_tup (pv 1)) (blkOk_by (own := [("name", 2), ("machine", 3), ("begin", 4)]) (N := nPlen) (sc := defScope sPlen) (by decide +kernel))
      (fun _ _ _ _ _ => pg_tup rfl (pgs_cons (pg_name (i := 2) scPlen.nd rfl (Or.inl rfl)) (pgs_cons (pg_name (i := 3) scPlen.nd rfl (Or.inl rfl)) (pgs_cons (pg_name (i := 4) scPlen.nd rfl (Or.inl rfl)) pgs_nil)))) (fun _ _ _ _ _ => pts_nil) (fun _ _ _ _ _ => pe_op op_add (pv 4) (pe_ix (r := rIxT K) ix_tup (pe_has cJob hr (pa_cons (pv 0) (pa_cons (pv 2) pa_nil))) pe_int (fun _ _ => rfl))))) pa_nil))), ?_⟩
    refine ⟨(by show 1 ≤ sizeLine; decide), fun z nz => ?_⟩
    have smz := same_new (o := .lst [.int 0]) nz
    have hz : upd H z (.lst [.int 0]) z = some (.lst [.int 0]) := upd_same
    generalize upd H z (.lst [.int 0]) = H1 at smz hz
    refine ⟨.ref p, rfl, p, rfl, ⟨_, (hp1.mono (.of smz)).sq⟩, fun D nD => ?_⟩
    refine lc_std (walk_tup (xs := as.map V.ref)) pl (fun e => some (.int (e.2.2 + B.len e.1))) nD (by rw [List.length_map, pair_len hp2]) (by omega) (fun H7 s => TupA.sq (hp1.mono (.of (smz.trans s)))) (fun j x v H7 H7' Kt Kf hj s y kt kf => ?_) (fun H7 s e => ?_)
    · obtain ⟨rfl, hv⟩ := y
      obtain ⟨a, ha, hja⟩ := pair_get hp2 hj
      rw [List.getElem?_map, ha] at hv; cases hv
      obtain ⟨jb, hjb⟩ := job_some (sub x (List.mem_of_getElem? hj))
      refine ⟨a, entV x, rfl, SqT.of (s _ _ (smz _ _ hja)), rfl, .str x.1, _, rfl, .int x.2.1, _, rfl, .int x.2.2, [], rfl, rfl, rfl, ?_⟩
      refine ⟨.int x.2.2, rfl, .ref b, rfl, .str x.1, rfl, b, B, x.1, jb, rfl, hB.same (smz.trans s), hjb, fun a ha => ?_⟩
      obtain ⟨n', u, mode, cmd, tries, e1, e2, e3⟩ := ha.ex
      refine ⟨a, _, 5, .int jb.len, rfl, rfl, SqT.of e1, atI_nat (j := 5) rfl, x.2.2, jb.len, rfl, rfl, kt _ _ ?_ (Same.refl _)⟩
      rw [len_at hjb]
    · rw [fm_all] at e
      have e' : H7 D = some (.lst ((pl.map fun e => e.2.2 + B.len e.1).map V.int)) := by rw [e, List.map_map]; rfl
      refine ⟨z, D, _, _, rfl, rfl, s _ _ hz, e', Nat.le_of_lt (small (by simp; omega)), fun l nl => ?_⟩
      refine ⟨l, 0 :: pl.map (fun e => e.2.2 + B.len e.1), rfl, SqL.of upd_same, by simp, fun m hm hall => q _ m ((smz.trans s).trans (same_new nl)) hm hall⟩
end
end K45
set_option Elab.async false
set_option linter.all false
set_option maxRecDepth 100000
set_option maxHeartbeats 4000000
namespace K45
open PySem PySem.Spec PyProof.Rows L2 LamX
/-! plans.py: may_begin, fits_at -/
abbrev sMay : Stmt := topS 23
abbrev sFits : Stmt := topS 25
abbrev nMay : List Str := ["book", "m", "begins", "name", "time", "job", "running", "free", "need", "thing", "units"]
abbrev nFits : List Str := ["book", "m", "begins", "name", "time", "job", "free", "times", "one", "running", "begin", "thing", "units"]
theorem scMay : FnScope nMay ["book", "m", "begins", "name", "time"] (defScope sMay) := ⟨rfl, rfl, rfl, by decide +kernel, rfl, by decide +kernel, by decide +kernel⟩
theorem scFits : FnScope nFits ["book", "m", "begins", "name", "time"] (defScope sFits) := ⟨rfl, rfl, rfl, by decide +kernel, rfl, by decide +kernel, by decide +kernel⟩
/-- a table of begins -/
structure BegAt (H : Hp) (bg : Addr) (B : Bk) (bs : List (Str × Int)) : Prop where
  at_ : H bg = some (.dK (dI bs))
  nd : (bs.map (·.1)).Nodup
  sub : ∀ p ∈ bs, p.1 ∈ B.names
theorem BegAt.same {H H' : Hp} (s : Same H H') {bg : Addr} {B : Bk} {bs : List (Str × Int)} (h : BegAt H bg B bs) : BegAt H' bg B bs := ⟨s _ _ h.at_, h.nd, h.sub⟩
theorem BegAt.len {H : Hp} {bg : Addr} {B : Bk} {bs : List (Str × Int)} (h : BegAt H bg B bs) : bs.length ≤ B.jobs.length := by
  have := nodup_sub_len h.nd (ys := B.names) fun x hx => by
    obtain ⟨p, hp, e⟩ := List.mem_map.mp hx
    rw [← e]; exact h.sub p hp
  rw [names_len, List.length_map] at this; exact this
theorem run_names {B : Bk} {bs : List (Str × Int)} (sub : ∀ p ∈ bs, p.1 ∈ B.names) (t : Int) : ∀ x ∈ run B bs t, x ∈ B.names := fun x hx => by
  unfold run at hx
  obtain ⟨p, hp, rfl⟩ := List.mem_map.mp hx
  exact sub p (List.mem_filter.mp hp).1
theorem run_length (B : Bk) (bs : List (Str × Int)) (t : Int) : (run B bs t).length ≤ bs.length := by
  unfold run; rw [List.length_map]; exact List.length_filter_le _ _
/-- do the uses of n fit beside what runs -/
def unB (B : Bk) (bs : List (Str × Int)) (n : Str) (t : Int) (q : Str × Int) : Bool := decide (used B (run B bs t) q.1 + q.2 ≤ (lk B.things q.1).getD 0)
theorem fits_iff {B : Bk} (R : Right B) {m : Nat} {bs : List (Str × Int)} {n : Str} {t : Int} : ((run B bs t).length < m ∧ (B.uses n).all (unB B bs n t) = true) ↔ Fits B m bs n t := by
  have use : ∀ q ∈ B.uses n, ∃ u, lk B.things q.1 = some u := fun q hq => by
    cases e : B.job n with
    | none => unfold Bk.uses at hq; rw [e] at hq; cases hq
    | some j => rw [uses_at e] at hq; obtain ⟨_, u, hu, _⟩ := R.uok j (job_mem e).1 q hq; exact ⟨u, hu⟩
  constructor
  · rintro ⟨h1, h2⟩
    refine ⟨h1, fun q hq u hu => ?_⟩
    rw [List.all_eq_true] at h2
    have := of_decide_eq_true (h2 q hq)
    rw [hu] at this; exact this
  · intro h
    refine ⟨h.cnt, ?_⟩
    rw [List.all_eq_true]
    intro q hq
    obtain ⟨u, hu⟩ := use q hq
    refine decide_eq_true ?_
    rw [hu]; exact h.un q hq u hu
def spMay : Sp := fun vs H Q _ => ∃ (b bg : Addr) (m : Nat) (B : Bk) (bs : List (Str × Int)) (n : Str) (T : Int), vs = [.ref b, .int m, .ref bg, .str n, .int T] ∧ BookAt H b B ∧ BegAt H bg B bs ∧ n ∈ B.names ∧ ∀ (H' : Hp) (r : Bool), Same H H' → (r = true ↔ May B m bs n T) → Q (.bl r) H'
def spFits : Sp := fun vs H Q _ => ∃ (b bg : Addr) (m : Nat) (B : Bk) (bs : List (Str × Int)) (n : Str) (T : Int), vs = [.ref b, .int m, .ref bg, .str n, .int T] ∧ BookAt H b B ∧ BegAt H bg B bs ∧ n ∈ B.names ∧ ∀ (H' : Hp) (r : Bool), Same H H' → (r = true ↔ FitsAt B m bs n T) → Q (.bl r) H'
section
variable {P : Program} {w : World} {K : PySem.W.Frag} {mg : Str → Option Value} {base : Heap}
abbrev rDPT (K : PySem.W.Frag) : List V → Hp → VK → Prop := fun xs H Q => ∃ (a : Addr) (ps : List Addr) (kvs : List (Key × V)), xs = [.ref a] ∧ TupP H a (ps.map V.ref) ∧ Paired (fun p kv => SqT K H p [kV kv.1, kv.2]) ps kvs ∧ ∀ p, H p = none → Q (.ref p) (upd H p (.dK (mergeK [] kvs)))
theorem ok_may (d : Def K mg "may_begin" sMay ["book", "m", "begins", "name", "time"]) (cJob : Has P w K mg base "job_of" ["book", "name"] 1 spJobOf) (cE : Has P w K mg base "end_of" ["book", "begins", "name"] 2 spEnd) (cR : Has P w K mg base "run_at" ["book", "begins", "time"] 3 spRun) (cU : Has P w K mg base "used_by" ["book", "names", "thing"] 2 spUsed)
    (m1 : mg "all" = none) (m2 : mg "len" = none) (m3 : mg "dict" = none) : Has P w K mg base "may_begin" ["book", "m", "begins", "name", "time"] 4 spMay := d.has fun f fd F => by
  refine F.ok scMay (fun vs H Q E h => ?_) (fun cdv A outer s H vs Q E hr h => ?_)
  · obtain ⟨b, bg, m, B, bs, n, T, rfl, _⟩ := h; rfl
  · obtain ⟨b, bg, m, B, bs, n, T, rfl, hB, hbg, hn, q⟩ := h
    have R := hB.R
    have few := R.few
    have bl := hbg.len
    obtain ⟨j, hj⟩ := job_some hn
    refine ⟨_, pss_cons (ps_set (i := 5) scMay.nd rfl (Or.inl rfl) (pe_has cJob (hr.mono (by decide)) (pa_cons (pv 0) (pa_cons (pv 3) pa_nil))))
      (pss_cons (ps_if (pw_or (pt_cmpR op_gt (pe_ix (r := rIxT K) ix_tup (pv 5) pe_int (fun _ _ => rfl)) (pv 4) (nomark _)) (pw_or1 (pt_not (pt_val (pe_callB (id := "all") (r := rAll K) (cr_all rfl) (by rfl) m1 (by decide +kernel) (pa_cons (pe_lc (own := [("need", 8)]) (g := gName 8) (tt := tYes) rfl scMay.nd (pi_tup (pe_ix (r := rIxT K) ix_tup (pv 5) pe_int (fun _ _ => rfl))) (blkOk_by (own := [("need", 8)]) (N := nMay) (sc := defScope sMay) (by decide +kernel))
          (fun _ _ _ _ _ => pg_name (i := 8) scMay.nd rfl (Or.inl rfl)) (fun _ _ _ _ _ => pts_nil) (fun _ _ _ _ _ => pe_and (pe_cmp (pc_din (hu_of hr) (pv 8) (pv 2))) (pe_one (pe_cmpR op_le (pe_has cE (hr.mono (by decide)) (pa_cons (pv 0) (pa_cons (pv 2) (pa_cons (pv 8) pa_nil)))) (pv 4) (nomark _))))) pa_nil)))))).pt
          (pss_one (ps_ret pe_bl)) pss_nil)
      (pss_cons (ps_set (i := 6) scMay.nd rfl (Or.inr rfl) (pe_has cR hr (pa_cons (pv 0) (pa_cons (pv 2) (pa_cons (pv 4) pa_nil)))))
      (pss_cons (ps_if (pt_cmpR op_ge (pe_callB call_len_seq (by rfl) m2 (by decide +kernel) (pa_cons (pv 6) pa_nil)) (pv 1) (nomark _)) (pss_one (ps_ret pe_bl)) pss_nil)
      (pss_cons (ps_set (i := 7) scMay.nd rfl (Or.inr rfl) (pe_callTy (call_dictPT rfl) (by rfl) m3 (by decide +kernel) (pa_cons (pe_ix (r := rIxT K) ix_tup (pv 0) pe_int (fun _ _ => rfl)) pa_nil)))
      (pss_one (ps_ret (pe_callB (id := "all") (r := rAll K) (cr_all rfl) (by rfl) m1 (by decide +kernel) (pa_cons (pe_lc (own := [("thing", 9), ("units", 10)]) (g := gTup K 2 (gCons (gName 9) (gCons (gName 10) gNil))) (tt := tYes) rfl scMay.nd (pi_tup (pe_ix (r := rIxT K) ix_tup (pv 5) pe_int (fun _ _ => rfl))) (blkOk_by (own := [("thing", 9), ("units", 10)]) (N := nMay) (sc := defScope sMay) (by decide +kernel))
          (fun _ _ _ _ _ => pg_tup rfl (pgs_cons (pg_name (i := 9) scMay.nd rfl (Or.inl rfl)) (pgs_cons (pg_name (i := 10) scMay.nd rfl (Or.inl rfl)) pgs_nil))) (fun _ _ _ _ _ => pts_nil) (fun _ _ _ _ _ => pe_cmpR op_le (pe_op op_add (pe_has cU (hr.mono (by decide)) (pa_cons (pv 0) (pa_cons (pv 6) (pa_cons (pv 9) pa_nil)))) (pv 10)) (pe_dget (hu_of hr) (pv 7) (pv 9) (fun _ _ => rfl)) (nomark _))) pa_nil)))))))), ?_⟩
    refine ⟨.ref b, rfl, .str n, rfl, b, B, n, j, rfl, hB, hj, fun a ha => ?_⟩
    obtain ⟨n', u, mode, cmd, tries, e1, e2, e3⟩ := ha.ex
    refine ⟨.ref a, rfl, a, _, 7, .int j.start, rfl, rfl, SqT.of e1, atI_nat (j := 7) rfl, .int T, rfl, j.start, T, rfl, rfl, _, rfl, ite2 (fun e => ?_) (fun e => ?_)⟩
    · refine iteT (q H false (Same.refl _) ⟨fun z => (nomatch z), fun z => ?_⟩)
      have h1 := z.st
      rw [start_at hj] at h1
      have := of_decide_eq_true e
      omega
    have hst : B.start n ≤ T := by
      rw [start_at hj]
      apply Classical.byContradiction
      intro z; exact e (decide_eq_true (by omega))
    have nl := R.nfew j (job_mem hj).1
    refine ⟨.ref a, rfl, a, _, 2, .ref n', rfl, rfl, SqT.of e1, atI_nat (j := 2) rfl, n', rfl, ⟨_, e2.sq⟩, fun D nD => ?_⟩
    refine lc_std (walk_tup (xs := j.needs.map V.str)) j.needs (fun k => some (.bl (decide (∃ t ∈ lk bs k, t + B.len k ≤ T)))) nD (List.length_map _) (by omega) (fun H7 s => TupA.sq (e2.mono (.of s))) (fun i k v H7 H7' Kt Kf hi s y kt kf => ?_) (fun H7 s e => ?_)
    · obtain ⟨rfl, hv⟩ := y
      rw [List.getElem?_map, hi] at hv; cases hv
      refine ⟨rfl, .str k, rfl, .ref bg, rfl, bg, _, rfl, dget_dF (.inl (s _ _ hbg.at_)), _, rfl, ?_⟩
      rw [lk_dec]
      refine ite2 (fun e => ?_) (fun e => ?_)
      · obtain ⟨t, ht⟩ := lk_isSome (of_decide_eq_true e)
        refine ⟨.ref b, rfl, .ref bg, rfl, .str k, rfl, b, bg, B, bs, k, t, rfl, hB.same s, .inl (s _ _ hbg.at_), ht, hbg.sub _ (lk_mem ht), .int T, rfl, _, T, rfl, rfl, kt _ _ ?_ (Same.refl _)⟩
        rw [ht]; congr 2
        exact decide_eq_decide.mpr ⟨fun h => by obtain ⟨t', h1, h2⟩ := h; cases h1; exact h2, fun h => ⟨t, rfl, h⟩⟩
      · have e : k ∉ bs.map (·.1) := fun z => e (decide_eq_true z)
        refine kt _ _ ?_ (Same.refl _)
        rw [lk_none' e]
        have : decide (∃ t ∈ (none : Option Int), t + B.len k ≤ T) = false := decide_eq_false fun h => by obtain ⟨t', h1, h2⟩ := h; cases h1
        rw [this]
    rw [fm_all] at e
    refine ⟨D, j.needs.map fun k => decide (∃ t ∈ lk bs k, t + B.len k ≤ T), rfl, SqL.of (by rw [e, List.map_map]; rfl), _, rfl, ?_⟩
    clear e
    refine ite2 (fun e => ?_) (fun e => ?_)
    · refine q _ false s ⟨fun z => (nomatch z), fun z => ?_⟩
      have e : (j.needs.map fun k => decide (∃ t ∈ lk bs k, t + B.len k ≤ T)).all id = false := by simpa using e
      have : (j.needs.map fun k => decide (∃ t ∈ lk bs k, t + B.len k ≤ T)).all id = true := by
        rw [List.all_eq_true]
        intro y hy
        obtain ⟨k, hk, rfl⟩ := List.mem_map.mp hy
        obtain ⟨t, ht, hle⟩ := z.nds k (by rw [needs_at hj]; exact hk)
        exact decide_eq_true ⟨t, lk_of_mem hbg.nd ht, hle⟩
      rw [e] at this; cases this
    have hnds : ∀ i ∈ B.needs n, ∃ t, (i, t) ∈ bs ∧ t + B.len i ≤ T := fun k hk => by
      have e : (j.needs.map fun k => decide (∃ t ∈ lk bs k, t + B.len k ≤ T)).all id = true := by
        cases h : (j.needs.map fun k => decide (∃ t ∈ lk bs k, t + B.len k ≤ T)).all id with
        | true => rfl
        | false => exact absurd (by simpa using h) e
      rw [List.all_eq_true] at e
      rw [needs_at hj] at hk
      obtain ⟨t, h1, h2⟩ := of_decide_eq_true (e _ (List.mem_map.mpr ⟨k, hk, rfl⟩))
      exact ⟨t, lk_mem h1, h2⟩
    have hB := hB.same s
    have hbg := hbg.same s
    have e1 := s _ _ e1
    have e3 := e3.same s
    refine ⟨.ref b, rfl, .ref bg, rfl, .int T, rfl, b, bg, B, bs, T, rfl, hB, hbg.at_, hbg.nd, hbg.sub, by omega, fun H8 p s8 hp => ?_⟩
    have sm8 := s.trans s8
    have rl := run_length B bs T
    refine ⟨.ref p, rfl, p, _, rfl, .inl (SqL.of hp), .int m, rfl, _, _, rfl, rfl, _, rfl, ?_⟩
    rw [List.length_map]
    refine ite2 (fun e => ?_) (fun e => ?_)
    · refine q _ false sm8 ⟨fun z => (nomatch z), fun z => ?_⟩
      have h1 := z.fits.cnt
      have := of_decide_eq_true e
      omega
    have hcnt : (run B bs T).length < m := by
      apply Classical.byContradiction
      intro z; exact e (decide_eq_true (by omega))
    obtain ⟨t, js, as, b1, b2, b3, b4⟩ := (hB.same s8).ex
    obtain ⟨ts, p1, p2⟩ := prs_pairs (K := K) b2
    refine ⟨.ref b, rfl, b, _, 0, .ref t, rfl, rfl, SqT.of b1, atI_nat (j := 0) rfl, t, ts, _, rfl, p1, p2, fun fr nfr => ?_⟩
    rw [merge0_dF R.tnd]
    have sm9 := s8.trans (same_new (o := .dK (dI B.things)) nfr)
    have hfr : upd H8 fr (.dK (dI B.things)) fr = some (.dK (dI B.things)) := upd_same
    have hp9 := same_new nfr (o := .dK (dI B.things)) _ _ hp
    generalize upd H8 fr (.dK (dI B.things)) = H9 at sm9 hfr hp9
    have hB9 := hB.same sm9
    obtain ⟨us, u1, u2⟩ := e3.same sm9
    have ul := R.ufew j (job_mem hj).1
    refine ⟨.ref a, rfl, a, _, 4, .ref u, rfl, rfl, SqT.of (sm9 _ _ e1), atI_nat (j := 4) rfl, u, rfl, ⟨_, u1.sq⟩, fun D2 nD2 => ?_⟩
    refine lc_std (walk_tup (xs := us.map V.ref)) j.uses (fun x => some (.bl (unB B bs n T x))) nD2 (by rw [List.length_map, pair_len u2]) (by omega) (fun H10 s => TupA.sq (u1.any.mono (.of s))) (fun i x v H10 H10' Kt Kf hi s10 y kt kf => ?_) (fun H10 s10 e => ?_)
    · obtain ⟨rfl, hv⟩ := y
      obtain ⟨c, hc, hxc⟩ := pair_get u2 hi
      rw [List.getElem?_map, hc] at hv; cases hv
      obtain ⟨_, w', hw, _⟩ := R.uok j (job_mem hj).1 x (List.mem_of_getElem? hi)
      refine ⟨c, [.str x.1, .int x.2], rfl, SqT.of (s10 _ _ hxc), rfl, .str x.1, _, rfl, .int x.2, [], rfl, rfl, rfl, ?_⟩
      refine ⟨.ref b, rfl, .ref p, rfl, .str x.1, rfl, b, p, B, run B bs T, x.1, rfl, hB9.same s10, s10 _ _ hp9, run_names hbg.sub T, by omega, fun H11 s11 => ?_⟩
      refine ⟨.int x.2, rfl, _, x.2, rfl, rfl, .ref fr, rfl, .str x.1, rfl, fr, _, rfl, dget_some (.inl (s11 _ _ (s10 _ _ hfr))) hw, _, _, rfl, rfl, kt _ _ ?_ s11⟩
      unfold unB; rw [hw]; rfl
    · rw [fm_all] at e
      refine ⟨D2, j.uses.map fun x => unB B bs n T x, rfl, SqL.of (by rw [e, List.map_map]; rfl), q _ _ ((s.trans sm9).trans s10) ?_⟩
      have ea : (j.uses.map fun x => unB B bs n T x).all id = (B.uses n).all (unB B bs n T) := by
        rw [uses_at hj, List.all_map]; rfl
      rw [ea]
      exact ⟨fun h => ⟨hst, hnds, (fits_iff R).mp ⟨hcnt, h⟩⟩, fun h => ((fits_iff R).mpr h.fits).2⟩
theorem ok_fits (d : Def K mg "fits_at" sFits ["book", "m", "begins", "name", "time"]) (cJob : Has P w K mg base "job_of" ["book", "name"] 1 spJobOf) (cR : Has P w K mg base "run_at" ["book", "begins", "time"] 3 spRun) (cU : Has P w K mg base "used_by" ["book", "names", "thing"] 2 spUsed)
    (m1 : mg "all" = none) (m2 : mg "len" = none) (m3 : mg "dict" = none) : Has P w K mg base "fits_at" ["book", "m", "begins", "name", "time"] 4 spFits := d.has fun f fd F => by
  refine F.ok scFits (fun vs H Q E h => ?_) (fun cdv A outer s H vs Q E hr h => ?_)
  · obtain ⟨b, bg, m, B, bs, n, T, rfl, _⟩ := h; rfl
  · obtain ⟨b, bg, m, B, bs, n, T, rfl, hB, hbg, hn, q⟩ := h
    have R := hB.R
    have few := R.few
    have bl := hbg.len
    obtain ⟨j, hj⟩ := job_some hn
    refine ⟨_, pss_cons (ps_asg (pe_tup (pa_cons (pe_has cJob (hr.mono (by decide)) (pa_cons (pv 0) (pa_cons (pv 3) pa_nil))) (pa_cons (pe_callTy (call_dictPT rfl) (by rfl) m3 (by decide +kernel) (pa_cons (pe_ix (r := rIxT K) ix_tup (pv 0) pe_int (fun _ _ => rfl)) pa_nil)) pa_nil))) (pg_tup rfl (pgs_cons (pg_name (i := 5) scFits.nd rfl (Or.inr rfl)) (pgs_cons (pg_name (i := 6) scFits.nd rfl (Or.inr rfl)) pgs_nil))))
      (pss_cons (ps_set (i := 7) scFits.nd rfl (Or.inl rfl) (pe_op op_cat (pe_lst (pa_cons (pv 4) pa_nil)) (pe_lock (pe_lc (own := [("begin", 10)]) (g := gName 10) rfl scFits.nd (pi_values (pv 2)) (blkOk_by (own := [("begin", 10)]) (N := nFits) (sc := defScope sFits) (by decide +kernel))
          (fun _ _ _ _ _ => pg_name (i := 10) scFits.nd rfl (Or.inl rfl)) (fun _ _ _ _ _ => pts_one (pt_chain op_lt op_lt (pv 4) (pv 10) (pe_op op_add (pv 4) (pe_ix (r := rIxT K) ix_tup (pv 5) pe_int (fun _ _ => rfl))))) (fun _ _ _ _ _ => pv 10)))))
      (pss_cons (ps_for PassesOwn.never rfl (pi_list (pv 7)) (pg_name (i := 8) scFits.nd rfl (Or.inl rfl))
        (pss_cons (ps_set (i := 9) scFits.nd rfl (Or.inr rfl) (pe_has cR hr (pa_cons (pv 0) (pa_cons (pv 2) (pa_cons (pv 8) pa_nil)))))
        (pss_cons (ps_if (pt_cmpR op_ge (pe_callB call_len_seq (by rfl) m2 (by decide +kernel) (pa_cons (pv 9) pa_nil)) (pv 1) (nomark _)) (pss_one (ps_ret pe_bl)) pss_nil)
        (pss_one (ps_if (pt_not (pt_val (pe_callB (id := "all") (r := rAll K) (cr_all rfl) (by rfl) m1 (by decide +kernel) (pa_cons (pe_lc (own := [("thing", 11), ("units", 12)]) (g := gTup K 2 (gCons (gName 11) (gCons (gName 12) gNil))) (tt := tYes) rfl scFits.nd (pi_tup (pe_ix (r := rIxT K) ix_tup (pv 5) pe_int (fun _ _ => rfl))) (blkOk_by (own := [("thing", 11), ("units", 12)]) (N := nFits) (sc := defScope sFits) (by decide +kernel))
          (fun _ _ _ _ _ => pg_tup rfl (pgs_cons (pg_name (i := 11) scFits.nd rfl (Or.inl rfl)) (pgs_cons (pg_name (i := 12) scFits.nd rfl (Or.inl rfl)) pgs_nil))) (fun _ _ _ _ _ => pts_nil) (fun _ _ _ _ _ => pe_cmpR op_le (pe_op op_add (pe_has cU (hr.mono (by decide)) (pa_cons (pv 0) (pa_cons (pv 9) (pa_cons (pv 11) pa_nil)))) (pv 12)) (pe_dget (hu_of hr) (pv 6) (pv 11) (fun _ _ => rfl)) (nomark _))) pa_nil)))) (pss_one (ps_ret pe_bl)) pss_nil)))))
      (pss_one (ps_ret pe_bl)))), ?_⟩
    refine ⟨.ref b, rfl, .str n, rfl, b, B, n, j, rfl, hB, hj, fun a ha => ?_⟩
    obtain ⟨n', u, mode, cmd, tries, e1, e2, e3⟩ := ha.ex
    obtain ⟨t, js, as, b1, b2, b3, b4⟩ := hB.ex
    obtain ⟨ts, p1, p2⟩ := prs_pairs (K := K) b2
    refine ⟨.ref b, rfl, b, _, 0, .ref t, rfl, rfl, SqT.of b1, atI_nat (j := 0) rfl, t, ts, _, rfl, p1, p2, fun fr nfr => ⟨(by show 2 ≤ sizeLine; decide), fun tt ntt => ?_⟩⟩
    rw [merge0_dF R.tnd] at ntt ⊢
    refine ⟨tt, [.ref a, .ref fr], rfl, SqT.of upd_same, rfl, .ref a, [.ref fr], rfl, .ref fr, [], rfl, rfl, ?_⟩
    have sm1 := (same_new (o := .dK (dI B.things)) nfr).trans (same_new (o := .tup [.ref a, .ref fr]) ntt)
    have hfr := same_new ntt (o := .tup [.ref a, .ref fr]) fr _ (upd_same (H := H) (o := .dK (dI B.things)))
    generalize upd (upd H fr (.dK (dI B.things))) tt (.tup [.ref a, .ref fr]) = H1 at sm1 hfr
    refine ⟨.int T, rfl, (by show 1 ≤ sizeLine; decide), fun lz nlz => ?_⟩
    have sm2 := sm1.trans (same_new (o := .lst [.int T]) nlz)
    have hfr := same_new nlz (o := .lst [.int T]) _ _ hfr
    have hlz : upd H1 lz (.lst [.int T]) lz = some (.lst [.int T]) := upd_same
    generalize upd H1 lz (.lst [.int T]) = H2 at sm2 hfr hlz
    have hbg2 := sm2 _ _ hbg.at_
    refine ⟨bg, .dK (dI bs), hbg2, trivial, fun od => ?_⟩
    refine ⟨.ref bg, rfl, bg, od, _, rfl, upd_same, fun D nD => ?_⟩
    have k2 : TupS H2 (upd H2 bg (.frz od (.dK (dI bs)))) := tupS_lock hbg2
    have e1' := k2.tup _ _ (sm2 _ _ e1)
    have hDb : D ≠ bg := fun z => by rw [z, upd_same] at nD; cases nD
    refine lc_std walk_values bs (fun p => if decide (T < p.2 ∧ p.2 < T + j.len) = true then some (.int p.2) else none) nD dF_length (by omega) (fun H7 s => s _ _ upd_same) (fun i x v H7 H7' Kt Kf hi s y kt kf => ?_) (fun H7 s e => ?_)
    · obtain ⟨rfl, k, hk⟩ := y
      unfold dI dF at hk
      rw [List.getElem?_map, hi] at hk; cases hk
      refine ⟨rfl, .int T, rfl, .int x.2, rfl, T, x.2, rfl, rfl, _, rfl, ?_⟩
      by_cases h1 : T < x.2
      · rw [decide_eq_true h1]
        refine iteT ⟨.int T, rfl, .ref a, rfl, a, _, 5, .int j.len, rfl, rfl, SqT.of (s _ _ e1'), atI_nat (j := 5) rfl, T, j.len, rfl, rfl, x.2, _, rfl, rfl, _, rfl, ite2 (fun e => ⟨.int x.2, rfl, kt _ _ (if_pos (decide_eq_true ⟨h1, of_decide_eq_true e⟩)) (Same.refl _)⟩) (fun e => kf _ (if_neg fun z => e (decide_eq_true (of_decide_eq_true z).2)) (Same.refl _))⟩
      · rw [decide_eq_false h1]
        exact iteF ⟨_, rfl, iteF (kf _ (if_neg fun z => h1 (of_decide_eq_true z).1) (Same.refl _))⟩
    · rw [fm_if] at e
      refine ⟨s _ _ upd_same, ?_⟩
      have sm3 := same_unlock s hbg2
      have hD : upd H7 bg (.dK (dI bs)) D = some (.lst (((bs.filter fun p => decide (T < p.2 ∧ p.2 < T + j.len)).map (·.2)).map V.int)) := by rw [upd_ne hDb, e, List.map_map]; rfl
      generalize upd H7 bg (.dK (dI bs)) = H8 at sm3 hD
      have sm4 := sm2.trans sm3
      have hfr := sm3 _ _ hfr
      have hlz := sm3 _ _ hlz
      generalize hls : (bs.filter fun p => decide (T < p.2 ∧ p.2 < T + j.len)).map (·.2) = ls at hD
      have lsl : ls.length ≤ 8 := by
        rw [← hls, List.length_map]; have := List.length_filter_le (fun p : Str × Int => decide (T < p.2 ∧ p.2 < T + j.len)) bs; omega
      have hz0 : [V.int T] = [T].map V.int := rfl
      rw [hz0] at hlz
      refine ⟨lz, D, _, _, rfl, rfl, hlz, hD, Nat.le_of_lt (small (by simp; omega)), fun lt nlt => ?_⟩
      have sm5 := sm4.trans (same_new (o := .lst ([T].map V.int ++ ls.map V.int)) nlt)
      have hfr := same_new nlt (o := .lst ([T].map V.int ++ ls.map V.int)) _ _ hfr
      have hlt : upd H8 lt (.lst ([T].map V.int ++ ls.map V.int)) lt = some (.lst ((T :: ls).map V.int)) := by rw [upd_same]; rfl
      generalize upd H8 lt (.lst ([T].map V.int ++ ls.map V.int)) = H9 at sm5 hfr hlt
      have all_iff : (∀ y ∈ T :: ls, Fits B m bs n y) ↔ FitsAt B m bs n T := by
        constructor
        · intro h
          refine ⟨h T (by simp), fun p hp h1 h2 => h p.2 (List.mem_cons_of_mem _ ?_)⟩
          rw [← hls]
          rw [len_at hj] at h2
          exact List.mem_map.mpr ⟨p, List.mem_filter.mpr ⟨hp, decide_eq_true ⟨h1, h2⟩⟩, rfl⟩
        · intro h y hy
          rcases List.mem_cons.mp hy with rfl | hy
          · exact h.here
          · rw [← hls] at hy
            obtain ⟨p, hp, rfl⟩ := List.mem_map.mp hy
            obtain ⟨h1, h2⟩ := List.mem_filter.mp hp
            have h2 := of_decide_eq_true h2
            exact h.later p h1 h2.1 (by rw [len_at hj]; exact h2.2)
      refine ⟨.ref lt, rfl, lt, rfl, ⟨_, SqL.of hlt⟩, ?_⟩
      clear e s nD k2 e1' hD hlz nlt hls sm4 sm3 sm2 hbg2
      refine for_it (walk_list (xs := (T :: ls).map V.int)) (fun i σ2 H4 => ∃ (z8 z9 : Option V), σ2 = [some (.ref b), some (.int m), some (.ref bg), some (.str n), some (.int T), some (.ref a), some (.ref fr), some (.ref lt), z8, z9, none, none, none] ∧ Same H H4 ∧ H4 fr = some (.dK (dI B.things)) ∧ H4 lt = some (.lst ((T :: ls).map V.int)) ∧ ∀ y ∈ (T :: ls).take i, Fits B m bs n y)
        ⟨none, none, rfl, sm5, hfr, hlt, fun y hy => by simp at hy⟩ (fun i σ2 H4 _ h => ?_) (fun i x σ2 H4 H4' hi h y => ?_) (fun σ2 H4 h => ?_)
      · obtain ⟨_, _, _, _, _, h, _⟩ := h
        exact SqL.of h
      · obtain ⟨z8, z9, rfl, sm, hfr, hlt, hall⟩ := h
        obtain ⟨rfl, hx⟩ := y
        have hi' : i < (T :: ls).length := by rw [List.length_map] at hi; exact hi
        have hln : (T :: ls)[i]? = some (T :: ls)[i] := List.getElem?_eq_getElem hi'
        rw [List.getElem?_map, hln] at hx; cases hx
        generalize (T :: ls)[i] = y at hln
        have hym : y ∈ T :: ls := List.mem_of_getElem? hln
        refine ⟨.ref b, rfl, .ref bg, rfl, .int y, rfl, b, bg, B, bs, y, rfl, hB.same sm, sm _ _ hbg.at_, hbg.nd, hbg.sub, by omega, fun H5 p s5 hp => ?_⟩
        have sm5 := sm.trans s5
        have hfr := s5 _ _ hfr
        have hlt := s5 _ _ hlt
        have rl := run_length B bs y
        refine ⟨.ref p, rfl, p, _, rfl, .inl (SqL.of hp), .int m, rfl, _, _, rfl, rfl, _, rfl, ?_⟩
        rw [List.length_map]
        refine ite2 (fun e => ?_) (fun e => ?_)
        · refine q _ false sm5 ⟨fun z => (nomatch z), fun z => ?_⟩
          have h1 := (all_iff.mpr z y hym).cnt
          have := of_decide_eq_true e
          omega
        have hcnt : (run B bs y).length < m := by
          apply Classical.byContradiction
          intro z; exact e (decide_eq_true (by omega))
        obtain ⟨us, u1, u2⟩ := e3.same sm5
        have ul := R.ufew j (job_mem hj).1
        refine ⟨.ref a, rfl, a, _, 4, .ref u, rfl, rfl, SqT.of (sm5 _ _ e1), atI_nat (j := 4) rfl, u, rfl, ⟨_, u1.sq⟩, fun D2 nD2 => ?_⟩
        refine lc_std (walk_tup (xs := us.map V.ref)) j.uses (fun x => some (.bl (unB B bs n y x))) nD2 (by rw [List.length_map, pair_len u2]) (by omega) (fun H10 s => TupA.sq (u1.any.mono (.of s))) (fun i x v H10 H10' Kt Kf hi s10 y' kt kf => ?_) (fun H10 s10 e => ?_)
        · obtain ⟨rfl, hv⟩ := y'
          obtain ⟨c, hc, hxc⟩ := pair_get u2 hi
          rw [List.getElem?_map, hc] at hv; cases hv
          obtain ⟨_, w', hw, _⟩ := R.uok j (job_mem hj).1 x (List.mem_of_getElem? hi)
          refine ⟨c, [.str x.1, .int x.2], rfl, SqT.of (s10 _ _ hxc), rfl, .str x.1, _, rfl, .int x.2, [], rfl, rfl, rfl, ?_⟩
          refine ⟨.ref b, rfl, .ref p, rfl, .str x.1, rfl, b, p, B, run B bs y, x.1, rfl, hB.same (sm5.trans s10), s10 _ _ hp, run_names hbg.sub y, by omega, fun H11 s11 => ?_⟩
          refine ⟨.int x.2, rfl, _, x.2, rfl, rfl, .ref fr, rfl, .str x.1, rfl, fr, _, rfl, dget_some (.inl (s11 _ _ (s10 _ _ hfr))) hw, _, _, rfl, rfl, kt _ _ ?_ s11⟩
          unfold unB; rw [hw]; rfl
        · rw [fm_all] at e
          have ea : (j.uses.map fun x => unB B bs n y x).all id = (B.uses n).all (unB B bs n y) := by
            rw [uses_at hj, List.all_map]; rfl
          refine ⟨D2, j.uses.map fun x => unB B bs n y x, rfl, SqL.of (by rw [e, List.map_map]; rfl), _, rfl, ?_⟩
          rw [ea]
          refine ite2 (fun e => ?_) (fun e => ?_)
          · refine q _ false (sm5.trans s10) ⟨fun z => (nomatch z), fun z => ?_⟩
            have h1 := ((fits_iff R).mpr (all_iff.mpr z y hym)).2
            rw [h1] at e; cases e
          · have e : (B.uses n).all (unB B bs n y) = true := by
              cases h : (B.uses n).all (unB B bs n y) with
              | true => rfl
              | false => rw [h] at e; exact absurd rfl e
            refine ⟨some (.int y), some (.ref p), rfl, sm5.trans s10, s10 _ _ hfr, s10 _ _ hlt, fun z hz => ?_⟩
            rw [take_snoc hln] at hz
            rcases List.mem_append.mp hz with hz | hz
            · exact hall z hz
            · simp at hz; subst hz; exact (fits_iff R).mp ⟨hcnt, e⟩
      · obtain ⟨z8, z9, rfl, sm, hfr, hlt, hall⟩ := h
        rw [List.length_map, List.take_length] at hall
        exact q _ true sm ⟨fun _ => all_iff.mp hall, fun _ => rfl⟩
end
end K45
set_option Elab.async false
set_option linter.all false
set_option maxRecDepth 100000
set_option maxHeartbeats 4000000
namespace K45
open PySem PySem.Spec PyProof.Rows L2 LamX
/-- a comprehension whose items are new tuples -/
theorem lc_new {α : Type} {J : It} {n : Nat} {G : Hp → Prop} {Y : Nat → Hp → V → Hp → Prop} (w : Walk J n G Y) {gt : TG} {tt : TT} {te : TE} {vs : List Nat} {σ : L2.St} {H1 : Hp} {D : Addr} {Qd : Hp → Prop} (xs : List α) (g : α → Option (List V))
    (nD : H1 D = none) (hn : n = xs.length) (hz : xs.length ≤ 1000) (hG : ∀ H, Same H1 H → G H)
    (hs : ∀ (i : Nat) (x : α) (v : V) (H H' : Hp) (Kt : V → Hp → Prop) (Kf : Hp → Prop), xs[i]? = some x → Same H1 H → Y i H v H' → (∀ c y H4, g x = some c → Same H H4 → H4 y = some (.tup c) → H1 y = none → y ≠ D → Kt (.ref y) H4) → (∀ H4, g x = none → Same H H4 → Kf H4) →
      H D ≠ none → gt v (wipe σ vs) H' fun σ2 H2 => wipe σ2 vs = wipe σ vs ∧ tt σ2 H2 fun b H3 => if b = true then te σ2 H3 Kt else Kf H3)
    (hd : ∀ (H : Hp) (as : List Addr), Same H1 H → H D = some (.lst (as.map V.ref)) → Paired (fun a c => H a = some (.tup c)) as (xs.filterMap g) → (∀ a ∈ as, H1 a = none) → Qd H) :
    ∃ W : Nat → Nat → Hp → Prop, (∃ m, W 0 m (upd H1 D (.lst []))) ∧ ∀ i m H, W i m H →
      (J.stop i H ∧ Qd H) ∨ (J.go i H ∧ ∃ Nx : Hp → Prop, (∀ H', Nx H' → ∃ m', m' < m ∧ W (i + 1) m' H') ∧ ∀ x H', J.yld i H x H' → gt x (wipe σ vs) H' fun σ2 H2 => wipe σ2 vs = wipe σ vs ∧ tt σ2 H2 fun b H3 =>
        if b = true then te σ2 H3 fun y H4 => ∃ acc, H4 D = some (.lst acc) ∧ acc.length < sizeLine ∧ Nx (upd H4 D (.lst (acc ++ [y]))) else Nx H3) := by
  refine lc_it w (fun i H => Same H1 H ∧ ∃ as : List Addr, H D = some (.lst (as.map V.ref)) ∧ Paired (fun a c => H a = some (.tup c)) as ((xs.take i).filterMap g) ∧ ∀ a ∈ as, H1 a = none) ⟨same_new nD, [], upd_same, .nil, fun _ h => nomatch h⟩ (fun i H _ h => hG H h.1) (fun i v H H' hi h y => ?_) fun H h => ?_
  · obtain ⟨s, as, e, hp, hno⟩ := h
    have hx : i < xs.length := by omega
    have hx' : xs[i]? = some xs[i] := List.getElem?_eq_getElem hx
    have et : xs.take (i + 1) = xs.take i ++ [xs[i]] := by rw [List.take_add_one, hx']; rfl
    refine hs i xs[i] v H H' _ _ hx' s y (fun c z H4 hf s4 hz4 nz zD => ?_) (fun H4 hf s4 => ?_) (by rw [e]; simp)
    · have hDne : ∀ a c, H4 a = some (.tup c) → a ≠ D := fun a c ha q => by rw [q, s4 _ _ e] at ha; cases ha
      refine ⟨_, s4 _ _ e, ?_, same_put (s.trans s4) nD, as ++ [z], by rw [upd_same, List.map_append]; rfl, ?_, fun a ha => ?_⟩
      · refine small ?_
        have h1 := List.length_filterMap_le g (xs.take i)
        have h2 := pair_len hp
        rw [List.length_take] at h1
        rw [List.length_map]; omega
      · rw [et, List.filterMap_append]
        simp only [List.filterMap_cons, hf, List.filterMap_nil]
        exact pair_snoc (by rw [upd_ne zD]; exact hz4) (pair_mono hp fun a c ha => by rw [upd_ne (hDne a c (s4 _ _ ha))]; exact s4 _ _ ha)
      · rcases List.mem_append.mp ha with ha | ha
        · exact hno a ha
        · simp at ha; subst ha; exact nz
    · refine ⟨s.trans s4, as, s4 _ _ e, ?_, hno⟩
      rw [et, List.filterMap_append]
      simp only [List.filterMap_cons, hf, List.filterMap_nil, List.append_nil]
      exact pair_mono hp fun a c ha => s4 _ _ ha
  · obtain ⟨s, as, e, hp, hno⟩ := h
    rw [hn, List.take_length] at hp
    exact hd H as s e hp hno
theorem pair_unmap {α β γ : Type} {F : α → γ → Prop} (h : β → γ) : ∀ {xs : List α} {ys : List β}, Paired F xs (ys.map h) → Paired (fun a b => F a (h b)) xs ys
  | _, [], .nil => .nil
  | _, _ :: _, .cons a t => .cons a (pair_unmap h t)
theorem Good.perm {B : Bk} {m : Nat} {bs cs : List (Str × Int)} (g : Good B m bs) (p : cs.Perm bs) : Good B m cs := by
  refine ⟨(p.map _).nodup_iff.mpr g.nd, fun q hq => g.sub q (p.mem_iff.mp hq), fun q hq => g.st q (p.mem_iff.mp hq), fun q hq k hk => ?_, fun t => ⟨?_, fun q hq => ?_⟩⟩
  · obtain ⟨t, h1, h2⟩ := g.nds q (p.mem_iff.mp hq) k hk
    exact ⟨t, p.mem_iff.mpr h1, h2⟩
  · rw [(run_perm p t).length_eq]; exact (g.cap t).cnt
  · rw [used_perm (run_perm p t)]; exact (g.cap t).un q hq
end K45
set_option Elab.async false
set_option linter.all false
set_option maxRecDepth 100000
set_option maxHeartbeats 4000000
namespace K45
open PySem PySem.Spec PyProof.Rows L2 LamX
/-! plans.py: dealt, job_order -/
abbrev sDealt : Stmt := topS 21
abbrev sJobOrder : Stmt := topS 22
abbrev nDealt : List Str := ["book", "begins", "free", "found", "name", "begin", "machine"]
abbrev nJobOrder : List Str := ["book", "told", "name"]
theorem scDealt : FnScope nDealt ["book", "begins"] (defScope sDealt) := ⟨rfl, rfl, rfl, by decide +kernel, rfl, by decide +kernel, by decide +kernel⟩
theorem scJobOrder : FnScope nJobOrder ["book"] (defScope sJobOrder) := ⟨rfl, rfl, rfl, by decide +kernel, rfl, by decide +kernel, by decide +kernel⟩
/-- a tuple of pairs (name, number) -/
def PrsT (H : Hp) (t : Addr) (qs : List (Str × Int)) : Prop := ∃ as : List Addr, TupA H t (as.map V.ref) ∧ Paired (fun a q => H a = some (.tup [.str q.1, .int q.2])) as qs
abbrev flipP (p : Str × Int) : List V := [.int p.2, .str p.1]
def spDealt : Sp := fun vs H Q _ => ∃ (b t : Addr) (m : Nat) (B : Bk) (bs : List (Str × Int)), vs = [.ref b, .ref t] ∧ BookAt H b B ∧ PrsT H t bs ∧ Good B m bs ∧ (∀ n ∈ B.names, n ∈ bs.map (·.1)) ∧ ∀ (H' : Hp) (p : Addr) (pl : List Ent), Same H H' → PlanAt H' p pl → PlanOk B m pl → Q (.ref p) H'
def spJobOrder (T : List (Addr × Str)) : Sp := fun vs H Q _ => ∃ (b : Addr) (B : Bk), vs = [.ref b] ∧ BookAt H b B ∧ Tabs T H ∧ ∀ (H' : Hp) (p : Addr) (o : List Str), ExtN H H' → Tabs T H' → TupA H' p (o.map V.str) → o.Perm B.names → Q (.ref p) H'
theorem place_grow {free : List Int} {b : Int} {k : Nat} {x : Int} (h : k ≤ place free b) (hx : free[k]? = some x) (hb : b < x) : k + 1 ≤ place free b := by
  rcases Nat.lt_or_ge k (place free b) with h1 | h1
  · exact h1
  · have e : k = place free b := by omega
    rw [e] at hx
    have := place_at free b x hx
    omega
theorem place_stop {free : List Int} {b : Int} {k : Nat} (h : k ≤ place free b) (hs : ∀ x, free[k]? = some x → x ≤ b) : k = place free b := by
  rcases Nat.lt_or_ge k (place free b) with h1 | h1
  · have hl := place_le free b
    have hk : free[k]? = some free[k] := List.getElem?_eq_getElem (by omega)
    have := place_before free b k _ h1 hk
    have := hs _ hk
    omega
  · omega
theorem sqT_same {K : PySem.W.Frag} {H H' : Hp} {a : Addr} {xs : List V} (s : Same H H') (h : SqT K H a xs) : SqT K H' a xs := h.imp (fun z => rd_same s z) id
theorem sqT_tupS {K : PySem.W.Frag} {H H' : Hp} {a : Addr} {xs : List V} (s : TupS H H') (h : SqT K H a xs) : SqT K H' a xs := h.imp (fun z => TupA.mono s z) id
section
variable {P : Program} {w : World} {K : PySem.W.Frag} {mg : Str → Option Value} {base : Heap}
theorem ok_dealt (d : Def K mg "dealt" sDealt ["book", "begins"]) (cJob : Has P w K mg base "job_of" ["book", "name"] 1 spJobOf) (cN : Has P w K mg base "names_of_jobs" ["book"] 1 spNames) (m1 : mg "sorted" = none) (m2 : mg "len" = none) (m3 : mg "tuple" = none) : Has P w K mg base "dealt" ["book", "begins"] 2 spDealt := d.has fun f fd F => by
  refine F.ok scDealt (fun vs H Q E h => ?_) (fun cdv A outer s H vs Q E hr h => ?_)
  · obtain ⟨b, t, m, B, bs, rfl, _⟩ := h; rfl
  · obtain ⟨b, t, m, B, bs, rfl, hB, ht, g, hall, q⟩ := h
    have R := hB.R
    have few := R.few
    have bl := good_len g
    obtain ⟨as, t1, t2⟩ := ht
    refine ⟨_, pss_cons (ps_asg (pe_tup (pa_cons (pe_lst pa_nil) (pa_cons pe_dnewK pa_nil))) (pg_tup rfl (pgs_cons (pg_name (i := 2) scDealt.nd rfl (Or.inl rfl)) (pgs_cons (pg_name (i := 3) scDealt.nd rfl (Or.inr rfl)) pgs_nil))))
      (pss_cons (ps_for PassesOwn.never rfl (pi_list (pe_callB (id := "sorted") (r := rSortTup K flipP) (cr_sortTup flipP hr.units (fun b x hx => by
            rcases List.mem_cons.mp hx with rfl | hx
            · rfl
            · rw [List.mem_singleton.mp hx]; rfl) (fun b => by simp) (fun a b => by simp [encT, flatP, PySem.W.alike, PySem.W.alikeAll])) (by rfl) m1 (by decide +kernel) (pa_cons (pe_lc (own := [("name", 4), ("begin", 5)]) (g := gTup K 2 (gCons (gName 4) (gCons (gName 5) gNil))) (tt := tYes) rfl scDealt.nd (pi_tup (pv 1)) (blkOk_by (own := [("name", 4), ("begin", 5)]) (N := nDealt) (sc := defScope sDealt) (by decide +kernel))
          (fun _ _ _ _ _ => pg_tup rfl (pgs_cons (pg_name (i := 4) scDealt.nd rfl (Or.inl rfl)) (pgs_cons (pg_name (i := 5) scDealt.nd rfl (Or.inl rfl)) pgs_nil))) (fun _ _ _ _ _ => pts_nil) (fun _ _ _ _ _ => pe_tup (pa_cons (pv 5) (pa_cons (pv 4) pa_nil)))) pa_nil)))
          (pg_tup rfl (pgs_cons (pg_name (i := 5) scDealt.nd rfl (Or.inl rfl)) (pgs_cons (pg_name (i := 4) scDealt.nd rfl (Or.inl rfl)) pgs_nil)))
        (pss_cons (ps_set (i := 6) scDealt.nd rfl (Or.inl rfl) pe_int)
        (pss_cons (ps_while PassesOwn.never (pw_and (pt_cmpR op_lt (pv 6) (pe_callB call_len_seq (by rfl) m2 (by decide +kernel) (pa_cons (pv 2) pa_nil)) (nomark _)) (pw_and1 (pt_cmpR op_gt (pe_ix (r := rIxL K) ix_list (pv 2) (pv 6) (fun _ _ => rfl)) (pv 5) (nomark _)))).pt
          (pss_one (ps_aug (i := 6) scDealt.nd rfl (Or.inl rfl) pe_int ip_add)))
        (pss_cons (ps_asg (pe_lst (pa_cons (pe_op op_add (pv 5) (pe_ix (r := rIxT K) ix_tup (pe_has cJob (hr.mono (by decide)) (pa_cons (pv 0) (pa_cons (pv 4) pa_nil))) pe_int (fun _ _ => rfl))) pa_nil)) (pg_cut (pv 2) (po_some (pv 6)) (po_some (pe_op op_add (pv 6) pe_int))))
        (pss_one (ps_dput (hu_of hr) (pv 3) (pv 4) (pe_tup (pa_cons (pv 4) (pa_cons (pv 6) (pa_cons (pv 5) pa_nil)))) rfl))))))
      (pss_one (ps_ret (pe_callTy call_tuple_of (by rfl) m3 (by decide +kernel) (pa_cons (pe_lc (own := [("name", 4)]) (g := gName 4) (tt := tYes) rfl scDealt.nd (pi_tup (pe_has cN hr (pa_cons (pv 0) pa_nil))) (blkOk_by (own := [("name", 4)]) (N := nDealt) (sc := defScope sDealt) (by decide +kernel))
          (fun _ _ _ _ _ => pg_name (i := 4) scDealt.nd rfl (Or.inl rfl)) (fun _ _ _ _ _ => pts_nil) (fun _ _ _ _ _ => pe_dget (hu_of hr) (pv 3) (pv 4) (fun _ _ => rfl))) pa_nil))))), ?_⟩
    refine ⟨Nat.zero_le _, fun fa nfa => ?_⟩
    intro fo nfo
    refine ⟨(by show 2 ≤ sizeLine; decide), fun tt ntt => ⟨tt, [.ref fa, .ref fo], rfl, SqT.of upd_same, rfl, .ref fa, [.ref fo], rfl, .ref fo, [], rfl, rfl, ?_⟩⟩
    have hff : fo ≠ fa := fun z => by rw [z, upd_same] at nfo; cases nfo
    have nfoH : H fo = none := by rw [upd_ne hff] at nfo; exact nfo
    have sm1 := ((same_new (o := .lst []) nfa).trans (same_new (o := .dK []) nfo)).trans (same_new (o := .tup [.ref fa, .ref fo]) ntt)
    have hfa := same_new ntt (o := .tup [.ref fa, .ref fo]) _ _ (same_new nfo (o := .dK []) fa _ (upd_same (H := H) (o := .lst [])))
    have hfo := same_new ntt (o := .tup [.ref fa, .ref fo]) fo _ (upd_same (H := upd H fa (.lst [])) (o := .dK []))
    generalize upd (upd (upd H fa (.lst [])) fo (.dK [])) tt (.tup [.ref fa, .ref fo]) = H1 at sm1 hfa hfo
    refine ⟨.ref t, rfl, t, rfl, ⟨_, (t1.mono (.of sm1)).sq⟩, fun D nD => ?_⟩
    refine lc_new (walk_tup (xs := as.map V.ref)) bs (fun p => some (flipP p)) nD (by rw [List.length_map, pair_len t2]) (by omega) (fun H7 s => TupA.sq (t1.mono (.of (sm1.trans s)))) (fun i x v H7 H7' Kt Kf hi s y kt kf hD => ?_) (fun H7 cs0 s e hpr hno => ?_)
    · obtain ⟨rfl, hv⟩ := y
      obtain ⟨c, hc, hxc⟩ := pair_get t2 hi
      rw [List.getElem?_map, hc] at hv; cases hv
      refine ⟨c, [.str x.1, .int x.2], rfl, SqT.of (s _ _ (sm1 _ _ hxc)), rfl, .str x.1, _, rfl, .int x.2, [], rfl, rfl, rfl, ?_⟩
      refine ⟨.int x.2, rfl, .str x.1, rfl, (by show 2 ≤ sizeLine; decide), fun p np => kt _ p _ rfl (same_new np) upd_same (s.free np) fun z => hD (by rw [← z]; exact np)⟩
    · rw [fm_all] at hpr
      have hpr := pair_unmap flipP hpr
      have c0 := pair_len hpr
      refine ⟨D, cs0, bs, rfl, SqL.of e, pair_mono hpr fun a c h => SqT.of h, by omega, fun as' cs l hp hs hpr2 nl => ?_⟩
      have hfa := s _ _ hfa
      have hfo := s _ _ hfo
      have sm2 := sm1.trans s
      have tot : ∀ x ∈ cs, x.1 ∈ B.names := fun x hx => g.sub x (hp.mem_iff.mp hx)
      have csn : (cs.map (·.1)).Nodup := (hp.map _).nodup_iff.mpr g.nd
      have cl : cs.length ≤ 8 := by rw [hp.length_eq]; omega
      have a0 := pair_len hpr2
      have hlf : l ≠ fa := ne_of_none' hfa nl
      have hlo : l ≠ fo := ne_of_none' hfo nl
      refine ⟨l, rfl, ⟨_, SqL.of upd_same⟩, ?_⟩
      have sm3 := sm2.trans (same_new (o := .lst (as'.map V.ref)) nl)
      have hfa := same_new nl (o := .lst (as'.map V.ref)) _ _ hfa
      have hfo := same_new nl (o := .lst (as'.map V.ref)) _ _ hfo
      have hl : upd H7 l (.lst (as'.map V.ref)) l = some (.lst (as'.map V.ref)) := upd_same
      have hpr2 := pair_mono hpr2 fun a c h => sqT_same (same_new (o := .lst (as'.map V.ref)) nl) h
      generalize upd H7 l (.lst (as'.map V.ref)) = H8 at sm3 hfa hfo hl hpr2
      clear s e hpr c0 hno sm2 nl nD
      refine for_it (walk_list (xs := as'.map V.ref)) (fun i σ2 H2 => ∃ (fr : List Int) (acc : List Ent) (L : List (Str × Addr)) (z4 z5 z6 : Option V), σ2 = [some (.ref b), some (.ref t), some (.ref fa), some (.ref fo), z4, z5, z6] ∧ Same H H2 ∧ TupS H8 H2 ∧ H2 l = some (.lst (as'.map V.ref)) ∧ H2 fa = some (.lst (fr.map V.int)) ∧ H2 fo = some (.dK (dF V.ref L)) ∧
        Dealt B m fr acc ∧ acc.map bn = cs.take i ∧ Paired (fun q (e : Ent) => q.1 = e.1 ∧ H2 q.2 = some (.tup (entV e))) L acc ∧ fr.length ≤ i)
        ⟨[], [], [], none, none, none, rfl, sm3, .refl _, hl, hfa, hfo, dealt_nil B m, by simp, .nil, Nat.le_refl _⟩ (fun i σ2 H2 _ h => ?_) (fun i x σ2 H2 H2' hi h y => ?_) (fun σ2 H2 h => ?_)
      · obtain ⟨_, _, _, _, _, _, _, _, _, h, _⟩ := h
        exact SqL.of h
      · obtain ⟨fr, acc, L, z4, z5, z6, rfl, sm, ts, hl, hfa, hfo, dl, hac, hL, frl⟩ := h
        obtain ⟨rfl, hx⟩ := y
        have hi' : i < cs.length := by rw [List.length_map] at hi; omega
        have hci : cs[i]? = some cs[i] := List.getElem?_eq_getElem hi'
        obtain ⟨a, ha, hsq⟩ := pair_get hpr2 hci
        rw [List.getElem?_map, ha] at hx; cases hx
        have hnt : cs[i].1 ∉ (cs.take i).map (·.1) := nd_take csn hci
        have hbe : ∀ y ∈ cs.take i, y.2 ≤ cs[i].2 := fun y hy => by
          obtain ⟨k, hk⟩ := List.mem_iff_getElem?.mp hy
          rw [List.getElem?_take] at hk
          split at hk
          · rename_i hlt
            have hkl := (List.getElem?_eq_some_iff.mp hk)
            obtain ⟨h1, h2⟩ := hkl
            have := List.pairwise_iff_getElem.mp hs k i h1 hi' hlt
            have := le_first (f := flipP) (g := fun p => p.2) (fun b => ⟨_, rfl⟩) this
            rw [h2] at this; exact this
          · cases hk
        generalize hxx : cs[i] = x at hci hsq hnt hbe
        have xn := tot x (List.mem_of_getElem? hci)
        obtain ⟨j, hj⟩ := job_some xn
        have hlen := R.lenPos xn
        refine ⟨a, flipP x, rfl, sqT_tupS ts hsq, rfl, .int x.2, [.str x.1], rfl, .str x.1, [], rfl, rfl, ?_⟩
        refine ⟨fun k' σ' H' => ∃ k : Nat, k' = fr.length - k ∧ H' = H2' ∧ σ' = [some (.ref b), some (.ref t), some (.ref fa), some (.ref fo), some (.str x.1), some (.int x.2), some (.int (k : Nat))] ∧ k ≤ place fr x.2, ⟨_, 0, rfl, rfl, rfl, Nat.zero_le _⟩, fun k' σ' H' h => ?_⟩
        obtain ⟨k, rfl, rfl, rfl, hk⟩ := h
        have hpl := place_le fr x.2
        have next : k = place fr x.2 → ∀ (D : Ends), (D.nx = fun σ2 H2 => ∃ (fr : List Int) (acc : List Ent) (L : List (Str × Addr)) (z4 z5 z6 : Option V), σ2 = [some (.ref b), some (.ref t), some (.ref fa), some (.ref fo), z4, z5, z6] ∧ Same H H2 ∧ TupS H8 H2 ∧ H2 l = some (.lst (as'.map V.ref)) ∧ H2 fa = some (.lst (fr.map V.int)) ∧ H2 fo = some (.dK (dF V.ref L)) ∧
            Dealt B m fr acc ∧ acc.map bn = cs.take (i + 1) ∧ Paired (fun q (e : Ent) => q.1 = e.1 ∧ H2 q.2 = some (.tup (entV e))) L acc ∧ fr.length ≤ i + 1) →
            tSeq (tAsg (tLst (tCons (tOp (rI0 fun i j => .int (i + j)) (tVar 5) (tOp (rIxT K) (tCall spJobOf [] E0 (tCons (tVar 0) (tCons (tVar 4) tNil))) (tC (.int 5)))) tNil)) (gCut (tVar 2) (tPart (tVar 6)) (tPart (tOp (rI0 fun i j => .int (i + j)) (tVar 6) (tC (.int 1))))))
              (sDPut (tVar 3) (tVar 4) (tTup (tCons (tVar 4) (tCons (tVar 6) (tCons (tVar 5) tNil))))) D [some (.ref b), some (.ref t), some (.ref fa), some (.ref fo), some (.str x.1), some (.int x.2), some (.int (k : Nat))] H' := by
          intro ek D hD
          refine ⟨.int x.2, rfl, .ref b, rfl, .str x.1, rfl, b, B, x.1, j, rfl, hB.same sm, hj, fun a' ha' => ?_⟩
          obtain ⟨n', u, mode, cmd, tries, e1, e2, e3⟩ := ha'.ex
          refine ⟨a', _, 5, .int j.len, rfl, rfl, SqT.of e1, atI_nat (j := 5) rfl, x.2, j.len, rfl, rfl, (by show 1 ≤ sizeLine; decide), fun ln nln => ?_⟩
          have hlnf : ln ≠ fa := ne_of_none' hfa nln
          have hlno : ln ≠ fo := ne_of_none' hfo nln
          have hlnl : ln ≠ l := ne_of_none' hl nln
          have nlnH : H ln = none := sm.free nln
          have sm4 := sm.trans (same_new (o := .lst [.int (x.2 + j.len)]) nln)
          have ts4 := ts.trans (.of (same_new (o := .lst [.int (x.2 + j.len)]) nln))
          have hl := same_new nln (o := .lst [.int (x.2 + j.len)]) _ _ hl
          have hfa := same_new nln (o := .lst [.int (x.2 + j.len)]) _ _ hfa
          have hfo := same_new nln (o := .lst [.int (x.2 + j.len)]) _ _ hfo
          have hln : upd H' ln (.lst [.int (x.2 + j.len)]) ln = some (.lst ([x.2 + j.len].map V.int)) := upd_same
          have hL := pair_mono hL fun q e h => And.intro h.1 (same_new nln (o := .lst [.int (x.2 + j.len)]) _ _ h.2)
          generalize upd H' ln (.lst [.int (x.2 + j.len)]) = H3 at sm4 ts4 hl hfa hfo hln hL
          refine ⟨.ref fa, rfl, .int k, rfl, k, rfl, .int k, rfl, k, 1, rfl, rfl, _, rfl, fa, ln, fr.map V.int, [x.2 + j.len].map V.int, k, rfl, rfl, rfl, rfl, hfa, hln, Ne.symm hlnf, by rw [List.length_map]; omega, by simp; omega, ?_⟩
          have efr : (fr.map V.int).take k ++ [x.2 + j.len].map V.int ++ (fr.map V.int).drop (k + 1) = (freed fr k (x.2 + j.len)).map V.int := by
            unfold freed; simp [List.map_take, List.map_drop]
          rw [efr]
          have sm5 := same_put (o := .lst ((freed fr k (x.2 + j.len)).map V.int)) sm4 nfa
          have ts5 := ts4.trans (tupS_put (v := .lst ((freed fr k (x.2 + j.len)).map V.int)) hfa (fun _ z => nomatch z) fun _ _ z => nomatch z)
          have hl : upd H3 fa (.lst ((freed fr k (x.2 + j.len)).map V.int)) l = some (.lst (as'.map V.ref)) := by rw [upd_ne hlf]; exact hl
          have hfo : upd H3 fa (.lst ((freed fr k (x.2 + j.len)).map V.int)) fo = some (.dK (dF V.ref L)) := by rw [upd_ne hff]; exact hfo
          have hL := pair_mono hL fun q e h => And.intro h.1 (show upd H3 fa (.lst ((freed fr k (x.2 + j.len)).map V.int)) q.2 = some (.tup (entV e)) by
            rw [upd_ne (fun z => by have h2 := h.2; rw [z, hfa] at h2; cases h2)]; exact h.2)
          have hfa : upd H3 fa (.lst ((freed fr k (x.2 + j.len)).map V.int)) fa = some (.lst ((freed fr k (x.2 + j.len)).map V.int)) := upd_same
          generalize upd H3 fa (.lst ((freed fr k (x.2 + j.len)).map V.int)) = H4 at sm5 ts5 hl hfa hfo hL
          refine ⟨.str x.1, rfl, .int k, rfl, .int x.2, rfl, (by show 3 ≤ sizeLine; decide), fun te nte => ?_⟩
          have sm6 := sm5.trans (same_new (o := .tup [.str x.1, .int k, .int x.2]) nte)
          have ts6 := ts5.trans (.of (same_new (o := .tup [.str x.1, .int k, .int x.2]) nte))
          have hl := same_new nte (o := .tup [.str x.1, .int k, .int x.2]) _ _ hl
          have hfa := same_new nte (o := .tup [.str x.1, .int k, .int x.2]) _ _ hfa
          have hfo := same_new nte (o := .tup [.str x.1, .int k, .int x.2]) _ _ hfo
          have hL := pair_mono hL fun q e h => And.intro h.1 (same_new nte (o := .tup [.str x.1, .int k, .int x.2]) _ _ h.2)
          have hte : upd H4 te (.tup [.str x.1, .int k, .int x.2]) te = some (.tup (entV (x.1, (k : Int), x.2))) := upd_same
          generalize upd H4 te (.tup [.str x.1, .int k, .int x.2]) = H5 at sm6 ts6 hl hfa hfo hL hte
          have kL : L.map (·.1) = (cs.take i).map (·.1) := by
            have : ∀ {L : List (Str × Addr)} {acc : List Ent} {F : Addr → Ent → Prop}, Paired (fun q (e : Ent) => q.1 = e.1 ∧ F q.2 e) L acc → L.map (·.1) = (acc.map bn).map (·.1) := by
              intro L acc F h
              induction h with
              | nil => rfl
              | cons h t ih => rw [List.map_cons, List.map_cons, List.map_cons, ih, h.1]; rfl
            rw [this (F := fun a e => H5 a = some (.tup (entV e))) hL, hac]
          have nk : x.1 ∉ L.map (·.1) := by rw [kL]; exact hnt
          have Ll : L.length ≤ 8 := by
            have := congrArg List.length kL
            rw [List.length_map, List.length_map, List.length_take] at this; omega
          refine ⟨.ref fo, rfl, .str x.1, rfl, fo, _, rfl, dput_dF hfo nk (by omega), ?_⟩
          rw [hD]
          have ne_fo : ∀ (y : Addr) (ys : List V), H5 y = some (.tup ys) → y ≠ fo := fun y ys hy z => by rw [z, hfo] at hy; cases hy
          refine ⟨freed fr k (x.2 + j.len), acc ++ [(x.1, (k : Int), x.2)], L ++ [(x.1, te)], _, _, _, rfl, same_put sm6 nfoH, ts6.trans (tupS_put hfo (fun _ z => nomatch z) fun _ _ z => nomatch z), ?_, ?_, upd_same, ?_, ?_, pair_snoc ⟨rfl, (upd_ne (ne_fo _ _ hte)).trans hte⟩ (pair_mono hL fun q e h => ⟨h.1, (upd_ne (ne_fo _ _ h.2)).trans h.2⟩), ?_⟩
          · rw [upd_ne hlo]; exact hl
          · rw [upd_ne (Ne.symm hff)]; exact hfa
          · rw [ek, ← len_at hj]
            refine dl.step hlen (fun e he => ?_) ?_
            · exact hbe (bn e) (by rw [← hac]; exact List.mem_map.mpr ⟨e, he, rfl⟩)
            · rw [hac]
              have h1 := (g.cap x.2).cnt
              rw [← (run_perm hp x.2).length_eq] at h1
              unfold run at h1
              rw [List.length_map] at h1
              have h2 : cs = cs.take i ++ x :: cs.drop (i + 1) := by
                rw [← hxx, ← List.drop_eq_getElem_cons hi', List.take_append_drop]
              have h3 : rnb B x.2 x = true := by unfold rnb; exact decide_eq_true ⟨Int.le_refl _, by omega⟩
              rw [h2, List.filter_append, List.filter_cons, if_pos h3, List.length_append, List.length_cons] at h1
              omega
          · rw [List.map_append, hac, take_snoc hci]; rfl
          · have := freed_len fr k (x.2 + j.len) (by omega)
            rw [this]; split <;> omega
        refine ⟨.int k, rfl, .ref fa, rfl, fa, _, rfl, .inl (SqL.of hfa), k, _, rfl, rfl, _, rfl, ite2 (fun e => ?_) (fun e => ?_)⟩
        · have hkl : k < fr.length := by
            have := of_decide_eq_true e
            rw [List.length_map] at this; omega
          have hfk : fr[k]? = some fr[k] := List.getElem?_eq_getElem hkl
          refine ⟨.ref fa, rfl, .int k, rfl, fa, _, k, .int fr[k], rfl, rfl, SqL.of hfa, atI_nat (by rw [List.getElem?_map, hfk]; rfl), .int x.2, rfl, fr[k], x.2, rfl, rfl, _, rfl, ite2 (fun e => ?_) (fun e => ?_)⟩
          · have hgr := place_grow hk hfk (of_decide_eq_true e)
            refine ⟨_, fun _ _ h => h, .int k, rfl, k, 1, rfl, rfl, _, ?_, k + 1, rfl, rfl, rfl, hgr⟩
            omega
          · refine next (place_stop hk fun y hy => ?_) _ rfl
            rw [hfk] at hy; cases hy
            have : ¬ x.2 < fr[k] := fun z => e (decide_eq_true z)
            omega
        · refine iteF (next (place_stop hk fun y hy => ?_) _ rfl)
          have hkl := (List.getElem?_eq_some_iff.mp hy).1
          exact absurd (decide_eq_true (by rw [List.length_map]; omega)) e
      · obtain ⟨fr, acc, L, z4, z5, z6, rfl, sm, ts, hl, hfa, hfo, dl, hac, hL, frl⟩ := h
        rw [List.length_map, a0, List.take_length] at hac
        refine ⟨.ref b, rfl, b, B, rfl, hB.same sm, by omega, fun H3 p s3 hpn => ⟨p, rfl, ⟨_, hpn.sq⟩, fun D nD => ?_⟩⟩
        have hfo := s3 _ _ hfo
        have hL := pair_mono hL fun q e h => And.intro h.1 (s3 _ _ h.2)
        have sm3 := sm.trans s3
        have pick : ∀ n ∈ B.names, ∃ (a : Addr) (e : Ent), lk L n = some a ∧ e ∈ acc ∧ e.1 = n ∧ H3 a = some (.tup (entV e)) := by
          have key : ∀ {L : List (Str × Addr)} {acc : List Ent}, Paired (fun q (e : Ent) => q.1 = e.1 ∧ H3 q.2 = some (.tup (entV e))) L acc → ∀ n, n ∈ acc.map (fun e => e.1) → ∃ (a : Addr) (e : Ent), lk L n = some a ∧ e ∈ acc ∧ e.1 = n ∧ H3 a = some (.tup (entV e)) := by
            intro L acc h
            induction h with
            | nil => intro n h; cases h
            | cons h t ih =>
              rename_i q e L acc
              intro n hn
              rw [lk_cons]
              by_cases he : q.1 = n
              · rw [if_pos he]
                exact ⟨q.2, e, rfl, List.mem_cons_self, by rw [← h.1]; exact he, h.2⟩
              · rw [if_neg he]
                obtain ⟨a, e', h1, h2, h3, h4⟩ := ih n ((List.mem_cons.mp hn).resolve_left fun z => he (by rw [h.1]; exact z.symm))
                exact ⟨a, e', h1, List.mem_cons_of_mem _ h2, h3, h4⟩
          intro n hn
          refine key hL n ?_
          have : n ∈ bs.map (·.1) := hall n hn
          have : n ∈ cs.map (·.1) := (hp.map _).mem_iff.mpr this
          rw [← hac, List.map_map] at this
          exact this
        have coll : ∀ ns : List Str, (∀ n ∈ ns, n ∈ B.names) → ∃ (bs' : List Addr) (pl : List Ent), ns.filterMap (fun n => (lk L n).map V.ref) = bs'.map V.ref ∧ Paired (fun a e => H3 a = some (.tup (entV e))) bs' pl ∧ pl.map (·.1) = ns ∧ ∀ e ∈ pl, e ∈ acc := by
          intro ns
          induction ns with
          | nil => exact fun _ => ⟨[], [], rfl, .nil, rfl, fun _ h => nomatch h⟩
          | cons n ns ih =>
            intro h
            obtain ⟨bs', pl, h1, h2, h3, h4⟩ := ih fun k hk => h k (List.mem_cons_of_mem _ hk)
            obtain ⟨a, e, e1, e2, e3, e4⟩ := pick n (h n List.mem_cons_self)
            refine ⟨a :: bs', e :: pl, ?_, .cons e4 h2, by rw [List.map_cons, h3, e3], fun y hy => ?_⟩
            · rw [List.filterMap_cons, e1]; simp only [Option.map_some]; rw [h1]; rfl
            · rcases List.mem_cons.mp hy with rfl | hy
              · exact e2
              · exact h4 y hy
        obtain ⟨bs', pl, c1, c2, c3, c4⟩ := coll B.names fun _ h => h
        refine lc_std (walk_tup (xs := B.names.map V.str)) B.names (fun n => (lk L n).map V.ref) nD (List.length_map _) (by rw [names_len]; omega) (fun H7 s => TupA.sq (hpn.mono (.of s))) (fun i x v H7 H7' Kt Kf hi s y kt kf => ?_) (fun H7 s e => ?_)
        · obtain ⟨rfl, hv⟩ := y
          rw [List.getElem?_map, hi] at hv; cases hv
          obtain ⟨a, e, e1, _⟩ := pick x (List.mem_of_getElem? hi)
          exact ⟨rfl, .ref fo, rfl, .str x, rfl, fo, _, rfl, dget_some (.inl (s _ _ hfo)) e1, kt _ _ (by rw [e1]; rfl) (Same.refl _)⟩
        · rw [c1] at e
          refine ⟨D, _, rfl, .inl ⟨SqL.of e, fun l2 hl2 => ?_⟩⟩
          refine q _ l2 pl ((sm3.trans s).trans (same_new hl2)) ⟨bs', TupA.of upd_same, pair_mono c2 fun a e h => same_new hl2 _ _ (s _ _ h)⟩ ?_
          exact plan_of R g hall dl (by rw [hac]; exact hp) c3 c4
end
end K45
set_option Elab.async false
set_option linter.all false
set_option maxRecDepth 100000
set_option maxHeartbeats 4000000
namespace K45
open PySem PySem.Spec PyProof.Rows L2 LamX
/-! plans.py: job_order, list_plan -/
abbrev sList : Stmt := topS 24
abbrev nList : List Str := ["book", "m", "order", "begins", "time", "name", "later", "job", "one"]
theorem scList : FnScope nList ["book", "m"] (defScope sList) := ⟨rfl, rfl, rfl, by decide +kernel, rfl, by decide +kernel, by decide +kernel⟩
def urgOf (B : Bk) (n : Str) : Int := ((B.job n).map Job.urg).getD 0
theorem bookE {H H' : Hp} {b : Addr} {B : Bk} (e : ExtN H H') (h : BookAt H b B) : BookAt H' b B := h.mono (.ext e)
section
variable {P : Program} {w : World} {K : PySem.W.Frag} {mg : Str → Option Value} {base : Heap}
theorem ok_jobOrder {T : List (Addr × Str)} {c Pt : Addr} (d : DefC K mg "job_order" sJobOrder ["book"] c) (tb : TabB base mg c Pt) (hT : (Pt, lamQ "job_order") ∈ T) (hu : ∀ p ∈ T, p.1 = Pt → p.2 = lamQ "job_order")
    (cR : Has P w K mg base "ranks" ["book"] 4 spRanks) (cN : Has P w K mg base "names_of_jobs" ["book"] 1 spNames) (cJob : Has P w K mg base "job_of" ["book", "name"] 1 spJobOf) (m1 : mg "tuple" = none) (m2 : mg "sorted" = none) (m3 : mg "dict" = none) : Has P w K mg base "job_order" ["book"] 7 (spJobOrder T) := d.has fun f fd F => by
  refine F.ok scJobOrder (fun vs H Q E h => ?_) (fun A outer s H vs Q E hr h => ?_)
  · obtain ⟨b, B, rfl, _⟩ := h; rfl
  · obtain ⟨b, B, rfl, hB, hTs, q⟩ := h
    refine ⟨_, pss_cons (ps_set (i := 1) scJobOrder.nd rfl (Or.inr rfl) (pe_callTy (call_dictPT rfl) (by rfl) m3 (by decide +kernel) (pa_cons (pe_has cR (hr.mono (by decide)) (pa_cons (pv 0) pa_nil)) pa_nil)))
      (pss_one (ps_ret (pe_callTy call_tuple_of (by rfl) m1 (by decide +kernel) (pa_cons (pe_sortLam (T := T) (i := 2) (k := 1) (x := "name") (c := c) (P := Pt)
        (tb := tTup (tCons (tUn (rU fun i => .int (-i)) (tOp (rIxT K) (tCall spJobOf [] E0 (tCons (tVar 0) (tCons (tVar 2) tNil))) (tC (.int 8)))) (tCons (tDGet (tVar 1) (tVar 2)) (tCons (tVar 2) tNil)))) (by rfl) m2 rfl scJobOrder.nd hr (pa_cons (pe_has cN (hr.mono (by decide)) (pa_cons (pv 0) pa_nil)) pa_nil) tb rfl hT hu (lamP_by (by rfl)) rfl
        (fun A s H f c' hr' => pe_tup (pa_cons (pe_un un_neg (pe_ix ix_tup (pe_has cJob hr' (pa_cons (pv 0) (pa_cons (pv 2) pa_nil))) pe_int (fun _ _ => rfl))) (pa_cons (pe_dget (hu_of hr') (pv 1) (pv 2) (fun _ _ => rfl)) (pa_cons (pv 2) pa_nil))))) pa_nil)))), ?_⟩
    have R := hB.R
    refine ⟨.ref b, rfl, b, B, rfl, hB, fun H1 p f as sm1 hp hpr hf => ?_⟩
    have few := R.few
    have fl := rk_count R hf
    obtain ⟨as2, p1, p2⟩ := prs_pairs (K := K) (show PrsAt H1 p f from ⟨as, hp, hpr⟩)
    refine ⟨p, as2, _, rfl, p1, p2, fun ta nta => ?_⟩
    rw [merge0_dF hf.nd]
    have sm2 := sm1.trans (same_new (o := .dK (dI f)) nta)
    have hta : upd H1 ta (.dK (dI f)) ta = some (.dK (dI f)) := upd_same
    generalize upd H1 ta (.dK (dI f)) = H2 at sm2 hta
    refine ⟨.ref b, rfl, b, B, rfl, hB.same sm2, by omega, fun H3 np sm3 hnp => ?_⟩
    have sm4 := sm2.trans sm3
    refine ⟨np, B.names, fun n => [.int (-(urgOf B n)), .int ((lk f n).getD 0), .str n], rfl, hTs.ext sm4, fun H4 hE hT2 => ?_⟩
    have hta := hE _ _ (sm3 _ _ hta) (fun _ z => nomatch z)
    have hB4 := bookE hE (hB.same sm4)
    refine ⟨.inr (.inl (hnp.mono (.ext hE)).sq), by rw [names_len]; omega, fun b x hx => ?_, fun b => by simp, fun a b => by simp [encT, flatP, PySem.W.alike, PySem.W.alikeAll], fun n hn H5 sm5 => ?_, fun ms H5 l hp hs sm5 nl => ?_⟩
    · rcases List.mem_cons.mp hx with rfl | hx
      · rfl
      · rcases List.mem_cons.mp hx with rfl | hx
        · rfl
        · rw [List.mem_singleton.mp hx]; rfl
    · obtain ⟨j, hj⟩ := job_some hn
      obtain ⟨v, hv⟩ := lk_isSome (hf.all n hn)
      refine ⟨.ref b, rfl, .str n, rfl, b, B, n, j, rfl, hB4.same sm5, hj, fun a ha => ?_⟩
      obtain ⟨n', u, mode, cmd, tries, e1, e2, e3⟩ := ha.ex
      refine ⟨a, _, 8, .int j.urg, rfl, rfl, SqT.of e1, atI_nat (j := 8) rfl, j.urg, rfl, .ref ta, rfl, .str n, rfl, ta, _, rfl, dget_some (.inl (sm5 _ _ hta)) hv, .str n, rfl, (by show 3 ≤ sizeLine; decide), fun p np => ⟨same_new np, p, rfl, SqT.of ?_⟩⟩
      rw [upd_same]
      show some (HO.tup [V.int (-j.urg), V.int v, V.str n]) = some (HO.tup [V.int (-(urgOf B n)), V.int ((lk f n).getD 0), V.str n])
      unfold urgOf
      rw [hv, hj]; rfl
    · refine ⟨l, _, rfl, .inl ⟨SqL.of upd_same, fun l2 hl2 => ?_⟩⟩
      have sm6 := (sm5.trans (same_new (o := .lst (ms.map V.str)) nl)).trans (same_new (o := .tup (ms.map V.str)) hl2)
      exact q _ l2 ms (((ExtN.of sm4).trans hE).trans (ExtN.of sm6)) (hT2.ext sm6) (TupA.of upd_same) hp
def spList (T : List (Addr × Str)) : Sp := fun vs H Q _ => ∃ (b : Addr) (m : Nat) (B : Bk), vs = [.ref b, .int m] ∧ BookAt H b B ∧ 1 ≤ m ∧ (∀ q ∈ B.things, 0 ≤ q.2) ∧ Tabs T H ∧ ∀ (H' : Hp) (p : Addr) (pl : List Ent), ExtN H H' → Tabs T H' → PlanAt H' p pl → PlanOk B m pl → Q (.ref p) H'
theorem ok_list {T : List (Addr × Str)} (d : Def K mg "list_plan" sList ["book", "m"]) (cO : Has P w K mg base "job_order" ["book"] 7 (spJobOrder T)) (cM : Has P w K mg base "may_begin" ["book", "m", "begins", "name", "time"] 4 spMay) (cE : Has P w K mg base "end_of" ["book", "begins", "name"] 2 spEnd)
    (cD : Has P w K mg base "dealt" ["book", "begins"] 2 spDealt) (m1 : mg "len" = none) (m2 : mg "min" = none) (m3 : mg "tuple" = none) (m4 : mg "sorted" = none) : Has P w K mg base "list_plan" ["book", "m"] 8 (spList T) := d.has fun f fd F => by
  refine F.ok scList (fun vs H Q E h => ?_) (fun cdv A outer s H vs Q E hr h => ?_)
  · obtain ⟨b, m, B, rfl, _⟩ := h; rfl
  · obtain ⟨b, m, B, rfl, hB, hm, hth, hTs, q⟩ := h
    refine ⟨_, pss_cons (ps_asg (pe_tup (pa_cons (pe_has cO hr (pa_cons (pv 0) pa_nil)) (pa_cons pe_dnewK (pa_cons pe_int pa_nil)))) (pg_tup rfl (pgs_cons (pg_name (i := 2) scList.nd rfl (Or.inl rfl)) (pgs_cons (pg_name (i := 3) scList.nd rfl (Or.inr rfl)) (pgs_cons (pg_name (i := 4) scList.nd rfl (Or.inr rfl)) pgs_nil)))))
      (pss_cons (ps_while PassesOwn.never (pt_cmpR op_lt (pe_callB call_lenD (by rfl) m1 (by decide +kernel) (pa_cons (pv 3) pa_nil)) (pe_callB call_len_seq (by rfl) m1 (by decide +kernel) (pa_cons (pv 2) pa_nil)) (nomark _))
        (pss_cons (ps_for PassesOwn.never rfl (pi_tup (pv 2)) (pg_name (i := 5) scList.nd rfl (Or.inl rfl))
          (pss_one (ps_if (pw_and (pt_cmp (pc_dnotin (hu_of hr) (pv 5) (pv 3))) (pw_and1 (pt_val (pe_has cM (hr.mono (by decide)) (pa_cons (pv 0) (pa_cons (pv 1) (pa_cons (pv 3) (pa_cons (pv 5) (pa_cons (pv 4) pa_nil))))))))).pt (pss_one (ps_dput (hu_of hr) (pv 3) (pv 5) (pv 4) rfl)) pss_nil)))
        (pss_cons (ps_set (i := 6) scList.nd rfl (Or.inl rfl) (pe_op op_cat (pe_lock (pe_lc (own := [("name", 5)]) (g := gName 5) (tt := tYes) rfl scList.nd (pi_keys (pv 3)) (blkOk_by (own := [("name", 5)]) (N := nList) (sc := defScope sList) (by decide +kernel))
            (fun _ _ _ _ _ => pg_name (i := 5) scList.nd rfl (Or.inl rfl)) (fun _ _ _ _ _ => pts_nil) (fun _ _ _ _ _ => pe_has cE (hr.mono (by decide)) (pa_cons (pv 0) (pa_cons (pv 3) (pa_cons (pv 5) pa_nil))))))
          (pe_lc (own := [("job", 7)]) (g := gName 7) (tt := tYes) rfl scList.nd (pi_tup (pe_ix (r := rIxT K) ix_tup (pv 0) pe_int (fun _ _ => rfl))) (blkOk_by (own := [("job", 7)]) (N := nList) (sc := defScope sList) (by decide +kernel))
            (fun _ _ _ _ _ => pg_name (i := 7) scList.nd rfl (Or.inl rfl)) (fun _ _ _ _ _ => pts_nil) (fun _ _ _ _ _ => pe_ix (r := rIxT K) ix_tup (pv 7) pe_int (fun _ _ => rfl)))))
        (pss_cons (ps_setLc (i := 6) (own := [("one", 8)]) (g := gName 8) rfl scList.nd rfl rfl rfl (pi_list (pv 6)) (blkOk_by (own := [("one", 8)]) (N := nList) (sc := defScope sList) (by decide +kernel))
            (fun _ _ _ _ _ => pg_name (i := 8) scList.nd rfl (Or.inl rfl)) (fun _ _ _ _ _ => pts_one (pt_cmpR op_gt (pv 8) (pv 4) (nomark _))) (fun _ _ _ _ _ => pv 8))
        (pss_one (ps_set (i := 4) scList.nd rfl (Or.inr rfl) (pe_ifExp (pt_cmpR (op_neL hr.units) (pv 6) (pe_lst pa_nil) (nomark _)) (pe_callB (cr_min rfl) (by rfl) m2 (by decide +kernel) (pa_cons (pv 6) pa_nil)) (pv 4))))))))
      (pss_one (ps_ret (pe_has cD (hr.mono (by decide)) (pa_cons (pv 0) (pa_cons (pe_callTy call_tuple_of (by rfl) m3 (by decide +kernel) (pa_cons (pe_callB (cr_sortView rfl hr.units) (by rfl) m4 (by decide +kernel) (pa_cons (pe_bm0 PySem.F.plainAttrs_dict PySem.F.slot_dict_items PySem.F.type_dict_items mt_itemsK (pv 3)) pa_nil)) pa_nil)) pa_nil)))))), ?_⟩
    have R := hB.R
    have few := R.few
    refine ⟨.ref b, rfl, b, B, rfl, hB, hTs, fun H1 op o hE hT1 ho hperm => ?_⟩
    intro bg nbg
    refine ⟨(by show 3 ≤ sizeLine; decide), fun tt ntt => ⟨tt, [.ref op, .ref bg, .int 0], rfl, SqT.of upd_same, rfl, .ref op, _, rfl, .ref bg, _, rfl, .int 0, [], rfl, rfl, ?_⟩⟩
    have hB1 := bookE hE hB
    have sm1 := (same_new (o := .dK []) nbg).trans (same_new (o := .tup [.ref op, .ref bg, .int 0]) ntt)
    have hbg := same_new ntt (o := .tup [.ref op, .ref bg, .int 0]) bg _ (upd_same (H := H1) (o := .dK []))
    generalize upd (upd H1 bg (.dK [])) tt (.tup [.ref op, .ref bg, .int 0]) = H2 at sm1 hbg
    have om : ∀ x ∈ o, x ∈ B.names := fun x hx => hperm.mem_iff.mp hx
    have ol : o.length = B.jobs.length := by rw [hperm.length_eq, names_len]
    refine ⟨fun m' σ' H' => ∃ (bs : List (Str × Int)) (T : Int) (z5 z6 : Option V), m' = meas B bs T ∧ σ' = [some (.ref b), some (.int m), some (.ref op), some (.ref bg), some (.int T), z5, z6, none, none] ∧ Same H1 H' ∧ H' bg = some (.dK (dI bs)) ∧ Good B m bs ∧ ∀ p ∈ bs, p.2 ≤ T,
      ⟨_, [], 0, none, none, rfl, rfl, sm1, hbg, good_nil B m R hth, fun _ h => (nomatch h)⟩, fun m' σ' H' h => ?_⟩
    clear sm1 hbg ntt
    obtain ⟨bs, T, z5, z6, rfl, rfl, sm, hbg, g, late⟩ := h
    have gl := good_len g
    refine ⟨.ref bg, rfl, bg, _, rfl, hbg, .ref op, rfl, op, _, rfl, .inr (ho.mono (.of sm)).sq, _, _, rfl, rfl, _, rfl, ?_⟩
    rw [dF_length, List.length_map, ol]
    refine ite2 (fun e => ?_) (fun e => ?_)
    · have hlt : bs.length < B.jobs.length := by have := of_decide_eq_true e; omega
      refine ⟨_, fun _ _ h => h, ?_⟩
      refine ⟨.ref op, rfl, op, rfl, ⟨_, (ho.mono (.of sm)).sq⟩, ?_⟩
      refine for_it (walk_tup (xs := o.map V.str)) (fun i σ2 H2 => ∃ (bs2 : List (Str × Int)) (z5 : Option V), σ2 = [some (.ref b), some (.int m), some (.ref op), some (.ref bg), some (.int T), z5, z6, none, none] ∧ Same H1 H2 ∧ H2 bg = some (.dK (dI bs2)) ∧ Good B m bs2 ∧ (∀ p ∈ bs2, p.2 ≤ T) ∧
        ((bs2 = bs ∧ ∀ n ∈ o.take i, n ∉ bs.map (·.1) → ¬ May B m bs n T) ∨ bs.length < bs2.length)) ⟨bs, z5, rfl, sm, hbg, g, late, .inl ⟨rfl, fun n h => (by simp at h)⟩⟩ (fun i σ2 H2 _ h => ?_) (fun i x σ2 H2 H2' hi h y => ?_) (fun σ2 H2 h => ?_)
      · obtain ⟨_, _, _, s, _⟩ := h
        exact (ho.mono (.of s)).sq
      · clear sm hbg g late gl
        obtain ⟨bs2, z5, rfl, sm, hbg, g, late, hor⟩ := h
        obtain ⟨rfl, hx⟩ := y
        have hi' : i < o.length := by rw [List.length_map] at hi; exact hi
        have hln : o[i]? = some o[i] := List.getElem?_eq_getElem hi'
        rw [List.getElem?_map, hln] at hx; cases hx
        generalize o[i] = x at hln
        have xn := om x (List.mem_of_getElem? hln)
        have gl := good_len g
        refine ⟨.str x, rfl, .ref bg, rfl, bg, _, rfl, dget_dF (.inl hbg), _, rfl, ?_⟩
        rw [lk_dec]
        refine ite2 (fun e => ?_) (fun e => ?_)
        · have nx : x ∉ bs2.map (·.1) := by simpa using e
          refine ⟨.ref b, rfl, .int m, rfl, .ref bg, rfl, .str x, rfl, .int T, rfl, b, bg, m, B, bs2, x, T, rfl, hB1.same sm, ⟨hbg, g.nd, g.sub⟩, xn, fun H4 r s4 hr => ⟨r, rfl, ite2 (fun er => ?_) (fun er => ?_)⟩⟩
          · have my := hr.mp er
            refine ⟨.int T, rfl, .ref bg, rfl, .str x, rfl, bg, _, rfl, dput_dF (s4 _ _ hbg) nx (by omega), ?_⟩
            refine ⟨bs2 ++ [(x, T)], some (.str x), rfl, same_put (sm.trans s4) nbg, upd_same, g.stepList R xn nx my.st my.nds late my.fits, fun p hp => ?_, .inr ?_⟩
            · rcases List.mem_append.mp hp with hp | hp
              · exact late p hp
              · simp at hp; subst hp; exact Int.le_refl _
            · rw [List.length_append, List.length_singleton]
              rcases hor with ⟨h1, _⟩ | h1
              · rw [h1]; omega
              · omega
          · refine ⟨bs2, some (.str x), rfl, sm.trans s4, s4 _ _ hbg, g, late, ?_⟩
            rcases hor with ⟨h1, h2⟩ | h1
            · refine .inl ⟨h1, fun n hn hnk => ?_⟩
              rw [take_snoc hln] at hn
              rcases List.mem_append.mp hn with hn | hn
              · exact h2 n hn hnk
              · simp at hn; subst hn
                intro z; exact er (hr.mpr (by rw [h1]; exact z))
            · exact .inr h1
        · have nx : x ∈ bs2.map (·.1) := by
            apply Classical.byContradiction
            intro z; apply e; simp only [z, decide_false, Bool.not_false]
          refine iteF ⟨bs2, some (.str x), rfl, sm, hbg, g, late, ?_⟩
          rcases hor with ⟨h1, h2⟩ | h1
          · refine .inl ⟨h1, fun n hn hnk => ?_⟩
            rw [take_snoc hln] at hn
            rcases List.mem_append.mp hn with hn | hn
            · exact h2 n hn hnk
            · simp at hn; subst hn
              rw [h1] at nx; exact absurd nx hnk
          · exact .inr h1
      · clear sm hbg late
        obtain ⟨bs2, z5, rfl, sm, hbg, g2, late, hor⟩ := h
        rw [List.length_map, List.take_length] at hor
        have gl2 := good_len g2
        refine ⟨bg, .dK (dI bs2), hbg, trivial, fun od => ?_⟩
        refine ⟨.ref bg, rfl, bg, od, rfl, .inl ⟨_, upd_same, fun D nD => ?_⟩⟩
        have hB2 : BookAt (upd H2 bg (.frz od (.dK (dI bs2)))) b B := (hB1.same sm).mono (tupS_lock hbg)
        have hDb : D ≠ bg := fun z => by rw [z, upd_same] at nD; cases nD
        refine lc_std walk_keys bs2 (fun p => some (.int (p.2 + B.len p.1))) nD dF_length (by omega) (fun H7 s => s _ _ upd_same) (fun i x v H7 H7' Kt Kf hi s y kt kf => ?_) (fun H7 s e => ?_)
        · obtain ⟨rfl, k, u, hk, rfl⟩ := y
          unfold dI dF at hk
          rw [List.getElem?_map, hi] at hk; cases hk
          have hlk : lk bs2 x.1 = some x.2 := lk_of_mem g2.nd (List.mem_of_getElem? hi)
          exact ⟨rfl, .ref b, rfl, .ref bg, rfl, .str x.1, rfl, b, bg, B, bs2, x.1, x.2, rfl, hB2.same s, .inr ⟨od, s _ _ upd_same⟩, hlk, g2.sub _ (List.mem_of_getElem? hi), kt _ _ rfl (Same.refl _)⟩
        · rw [fm_all] at e
          refine ⟨s _ _ upd_same, ?_⟩
          have sm3 := same_unlock s hbg
          have hD : upd H7 bg (.dK (dI bs2)) D = some (.lst ((bs2.map fun p => p.2 + B.len p.1).map V.int)) := by rw [upd_ne hDb, e, List.map_map]; rfl
          have hbg3 : upd H7 bg (.dK (dI bs2)) bg = some (.dK (dI bs2)) := upd_same
          generalize upd H7 bg (.dK (dI bs2)) = H8 at sm3 hD hbg3
          have sm4 := sm.trans sm3
          obtain ⟨t, js, as, b1, b2, b3, b4⟩ := (hB1.same sm4).ex
          refine ⟨.ref b, rfl, b, _, 1, .ref js, rfl, rfl, SqT.of b1, atI_nat (j := 1) rfl, js, rfl, ⟨_, b3.sq⟩, fun D2 nD2 => ?_⟩
          refine lc_std (walk_tup (xs := as.map V.ref)) B.jobs (fun j => some (.int j.start)) nD2 (by rw [List.length_map, pair_len b4]) (by omega) (fun H' s => TupA.sq (b3.mono (.of s))) (fun i j v H1 H' Kt Kf hj s y kt kf => ?_) (fun H9 s9 e9 => ?_)
          · obtain ⟨rfl, hv⟩ := y
            obtain ⟨a, ha, hja⟩ := pair_get b4 hj
            rw [List.getElem?_map, ha] at hv; cases hv
            obtain ⟨n', u, mode, cmd, tries, e1, _⟩ := (hja.same s).ex
            exact ⟨rfl, .ref a, rfl, a, _, 7, .int j.start, rfl, rfl, SqT.of e1, atI_nat (j := 7) rfl, kt _ _ rfl (Same.refl _)⟩
          · rw [fm_all] at e9
            have e9' : H9 D2 = some (.lst ((B.jobs.map Job.start).map V.int)) := by rw [e9, List.map_map]; rfl
            refine ⟨D, D2, _, _, rfl, rfl, s9 _ _ hD, e9', Nat.le_of_lt (small (by simp; omega)), fun lt nlt => ?_⟩
            have sm5 := (sm4.trans s9).trans (same_new (o := .lst ((bs2.map fun p => p.2 + B.len p.1).map V.int ++ (B.jobs.map Job.start).map V.int)) nlt)
            have hbg5 := same_new nlt (o := .lst ((bs2.map fun p => p.2 + B.len p.1).map V.int ++ (B.jobs.map Job.start).map V.int)) _ _ (s9 _ _ hbg3)
            have hlt5 : upd H9 lt (.lst ((bs2.map fun p => p.2 + B.len p.1).map V.int ++ (B.jobs.map Job.start).map V.int)) lt = some (.lst (((bs2.map fun p => p.2 + B.len p.1) ++ B.jobs.map Job.start).map V.int)) := by rw [upd_same, ← List.map_append]
            generalize upd H9 lt (.lst ((bs2.map fun p => p.2 + B.len p.1).map V.int ++ (B.jobs.map Job.start).map V.int)) = H10 at sm5 hbg5 hlt5
            generalize hall : (bs2.map fun p => p.2 + B.len p.1) ++ B.jobs.map Job.start = al at hlt5
            have alL : al.length ≤ 16 := by rw [← hall]; simp; omega
            refine ⟨.ref lt, rfl, lt, rfl, ⟨_, SqL.of hlt5⟩, fun D3 nD3 => ?_⟩
            refine lc_std (walk_list (xs := al.map V.int)) al (fun y => if decide (y > T) = true then some (.int y) else none) nD3 (List.length_map _) (by omega) (fun H7 s => SqL.of (s _ _ hlt5)) (fun i x v H7 H7' Kt Kf hi s y kt kf => ?_) (fun H11 s11 e11 => ?_)
            · obtain ⟨rfl, hv⟩ := y
              rw [List.getElem?_map, hi] at hv; cases hv
              exact ⟨rfl, .int x, rfl, .int T, rfl, x, T, rfl, rfl, _, rfl, ite2 (fun e => ⟨.int x, rfl, kt _ _ (if_pos e) (Same.refl _)⟩) (fun e => kf _ (if_neg e) (Same.refl _))⟩
            · rw [fm_if] at e11
              have el : al.filter (fun y => decide (y > T)) = laters B bs2 T := by rw [← hall]; rfl
              rw [el] at e11
              have ll := laters_len B bs2 T
              refine ⟨.ref D3, rfl, Nat.zero_le _, fun ea nea => ⟨D3, ea, (laters B bs2 T).map V.int, [], rfl, rfl, SqL.of (same_new nea _ _ e11), SqL.of upd_same, okV_ints _, okV_nil, _, rfl, ite2 (fun e => ?_) (fun e => ?_)⟩⟩
              · have hne : laters B bs2 T ≠ [] := fun z => by rw [z] at e; simp at e
                refine ⟨.ref D3, rfl, D3, laters B bs2 T, rfl, SqL.of (same_new nea _ _ e11), List.length_pos_iff.mpr hne, fun U hU hmin => ?_⟩
                have hTU : T < U := by
                  unfold laters at hU
                  have := (List.mem_filter.mp hU).2
                  simpa using this
                refine ⟨meas B bs2 U, ?_, bs2, U, z5, some (.ref D3), rfl, rfl, (sm5.trans s11).trans (same_new nea), same_new nea _ _ (s11 _ _ hbg5), g2, fun p hp => by have := late p hp; omega⟩
                rcases hor with ⟨h1, _⟩ | h1
                · rw [h1] at hU ⊢; exact meas_same hU
                · exact meas_new g2 h1
              · have hz : laters B bs2 T = [] := by
                  apply Classical.byContradiction
                  intro z; apply e; simp [z]
                refine ⟨.int T, rfl, meas B bs2 T, ?_, bs2, T, z5, some (.ref D3), rfl, rfl, (sm5.trans s11).trans (same_new nea), same_new nea _ _ (s11 _ _ hbg5), g2, late⟩
                rcases hor with ⟨h1, h2⟩ | h1
                · exfalso
                  rw [h1] at hz
                  exact round_later R hm g (fun n hn hnk => h2 n (hperm.mem_iff.mpr hn) hnk) hlt hz
                · exact meas_new g2 h1
    · have hlen : B.names.length ≤ (bs.map (·.1)).length := by
        rw [names_len, List.length_map]
        apply Classical.byContradiction
        intro z; exact e (decide_eq_true (by omega))
      have all := nodup_full g.nd (fun x hx => by obtain ⟨p, hp, e⟩ := List.mem_map.mp hx; rw [← e]; exact g.sub p hp) hlen
      refine ⟨.ref b, rfl, .ref bg, rfl, .inr (.inr (.inl ⟨rfl, .inl ⟨_, hbg⟩⟩)), bg, _, rfl, rfl, hbg, fun v nv => ?_⟩
      refine ⟨v, bg, bs, rfl, upd_same, same_new nv _ _ hbg, by omega, fun H4 l as cs s4 nl hl hp hs hpr => ⟨l, _, rfl, .inl ⟨SqL.of hl, fun t nt => ?_⟩⟩⟩
      have sm6 := ((sm.trans (same_new nv)).trans s4).trans (same_new (o := .tup (as.map V.ref)) nt)
      refine ⟨b, t, m, B, cs, rfl, hB1.same sm6, ⟨as, TupA.of upd_same, pair_mono hpr fun a e h => same_new nt _ _ h⟩, g.perm hp, fun n hn => (hp.map _).mem_iff.mpr (all n hn), fun H5 p pl s5 hpl hok => ?_⟩
      exact q _ p pl (hE.trans (ExtN.of (sm6.trans s5))) (hT1.ext (sm6.trans s5)) hpl hok
end
end K45
set_option Elab.async false
set_option linter.all false
set_option maxRecDepth 100000
set_option maxHeartbeats 4000000
namespace K45
open PySem PySem.Spec PyProof.Rows L2 LamX
/-! plans.py: turn_plan -/
abbrev sTurn : Stmt := topS 26
abbrev nTurn : List Str := ["book", "m", "order", "begins", "name", "job", "time", "ends", "times", "one", "need", "other", "end"]
theorem scTurn : FnScope nTurn ["book", "m", "order"] (defScope sTurn) := ⟨rfl, rfl, rfl, by decide +kernel, rfl, by decide +kernel, by decide +kernel⟩
noncomputable def fitB (B : Bk) (m : Nat) (bs : List (Str × Int)) (n : Str) (t : Int) : Bool := @decide (FitsAt B m bs n t) (Classical.propDecidable _)
theorem fitB_iff {B : Bk} {m : Nat} {bs : List (Str × Int)} {n : Str} {t : Int} : fitB B m bs n t = true ↔ FitsAt B m bs n t := @decide_eq_true_iff _ (Classical.propDecidable _)
def spTurn : Sp := fun vs H Q _ => ∃ (b op : Addr) (m : Nat) (B : Bk) (o : List Str), vs = [.ref b, .int m, .ref op] ∧ BookAt H b B ∧ 1 ≤ m ∧ (∀ q ∈ B.things, 0 ≤ q.2) ∧ TupA H op (o.map V.str) ∧ OrdOk B o ∧ ∀ (H' : Hp) (p : Addr) (pl : List Ent), Same H H' → PlanAt H' p pl → PlanOk B m pl → Q (.ref p) H'
section
variable {P : Program} {w : World} {K : PySem.W.Frag} {mg : Str → Option Value} {base : Heap}
theorem ok_turn (d : Def K mg "turn_plan" sTurn ["book", "m", "order"]) (cJob : Has P w K mg base "job_of" ["book", "name"] 1 spJobOf) (cF : Has P w K mg base "fits_at" ["book", "m", "begins", "name", "time"] 4 spFits) (cE : Has P w K mg base "end_of" ["book", "begins", "name"] 2 spEnd)
    (cD : Has P w K mg base "dealt" ["book", "begins"] 2 spDealt) (m1 : mg "max" = none) (m3 : mg "tuple" = none) (m4 : mg "sorted" = none) : Has P w K mg base "turn_plan" ["book", "m", "order"] 5 spTurn := d.has fun f fd F => by
  refine F.ok scTurn (fun vs H Q E h => ?_) (fun cdv A outer s H vs Q E hr h => ?_)
  · obtain ⟨b, op, m, B, o, rfl, _⟩ := h; rfl
  · obtain ⟨b, op, m, B, o, rfl, hB, hm, hth, ho, hok, q⟩ := h
    refine ⟨_, pss_cons (ps_set (i := 3) scTurn.nd rfl (Or.inr rfl) pe_dnewK)
      (pss_cons (ps_for PassesOwn.never rfl (pi_tup (pv 2)) (pg_name (i := 4) scTurn.nd rfl (Or.inr rfl))
        (pss_cons (ps_set (i := 5) scTurn.nd rfl (Or.inl rfl) (pe_has cJob (hr.mono (by decide)) (pa_cons (pv 0) (pa_cons (pv 4) pa_nil))))
        (pss_cons (ps_set (i := 6) scTurn.nd rfl (Or.inr rfl) (pe_callB (cr_max rfl) (by rfl) m1 (by decide +kernel) (pa_cons (pe_op op_cat (pe_lst (pa_cons (pe_ix (r := rIxT K) ix_tup (pv 5) pe_int (fun _ _ => rfl)) pa_nil)) (pe_lc (own := [("need", 10)]) (g := gName 10) (tt := tYes) rfl scTurn.nd (pi_tup (pe_ix (r := rIxT K) ix_tup (pv 5) pe_int (fun _ _ => rfl))) (blkOk_by (own := [("need", 10)]) (N := nTurn) (sc := defScope sTurn) (by decide +kernel))
            (fun _ _ _ _ _ => pg_name (i := 10) scTurn.nd rfl (Or.inl rfl)) (fun _ _ _ _ _ => pts_nil) (fun _ _ _ _ _ => pe_has cE (hr.mono (by decide)) (pa_cons (pv 0) (pa_cons (pv 3) (pa_cons (pv 10) pa_nil)))))) pa_nil)))
        (pss_cons (ps_set (i := 7) scTurn.nd rfl (Or.inl rfl) (pe_callB (id := "sorted") (r := rSorted K) cr_sorted (by rfl) m4 (by decide +kernel) (pa_cons (pe_lock (pe_lc (own := [("other", 11)]) (g := gName 11) (tt := tYes) rfl scTurn.nd (pi_keys (pv 3)) (blkOk_by (own := [("other", 11)]) (N := nTurn) (sc := defScope sTurn) (by decide +kernel))
            (fun _ _ _ _ _ => pg_name (i := 11) scTurn.nd rfl (Or.inl rfl)) (fun _ _ _ _ _ => pts_nil) (fun _ _ _ _ _ => pe_has cE (hr.mono (by decide)) (pa_cons (pv 0) (pa_cons (pv 3) (pa_cons (pv 11) pa_nil)))))) pa_nil)))
        (pss_cons (ps_set (i := 8) scTurn.nd rfl (Or.inl rfl) (pe_op op_cat (pe_lst (pa_cons (pv 6) pa_nil)) (pe_lc (own := [("end", 12)]) (g := gName 12) rfl scTurn.nd (pi_list (pv 7)) (blkOk_by (own := [("end", 12)]) (N := nTurn) (sc := defScope sTurn) (by decide +kernel))
            (fun _ _ _ _ _ => pg_name (i := 12) scTurn.nd rfl (Or.inl rfl)) (fun _ _ _ _ _ => pts_one (pt_cmpR op_gt (pv 12) (pv 6) (nomark _))) (fun _ _ _ _ _ => pv 12))))
        (pss_one (ps_dput (hu_of hr) (pv 3) (pv 4) (pe_ix (r := rIxL K) ix_list (pe_lc (own := [("one", 9)]) (g := gName 9) rfl scTurn.nd (pi_list (pv 8)) (blkOk_by (own := [("one", 9)]) (N := nTurn) (sc := defScope sTurn) (by decide +kernel))
            (fun _ _ _ _ _ => pg_name (i := 9) scTurn.nd rfl (Or.inl rfl)) (fun _ _ _ _ _ => pts_one (pt_val (pe_has cF hr (pa_cons (pv 0) (pa_cons (pv 1) (pa_cons (pv 3) (pa_cons (pv 4) (pa_cons (pv 9) pa_nil)))))))) (fun _ _ _ _ _ => pv 9)) pe_int (fun _ _ => rfl)) rfl)))))))
      (pss_one (ps_ret (pe_has cD (hr.mono (by decide)) (pa_cons (pv 0) (pa_cons (pe_callTy call_tuple_of (by rfl) m3 (by decide +kernel) (pa_cons (pe_callB (cr_sortView rfl hr.units) (by rfl) m4 (by decide +kernel) (pa_cons (pe_bm0 PySem.F.plainAttrs_dict PySem.F.slot_dict_items PySem.F.type_dict_items mt_itemsK (pv 3)) pa_nil)) pa_nil)) pa_nil)))))), ?_⟩
    have R := hB.R
    have few := R.few
    have om : ∀ x ∈ o, x ∈ B.names := fun x hx => hok.perm.mem_iff.mp hx
    have ond : o.Nodup := hok.perm.nodup_iff.mpr R.nd
    have ol : o.length = B.jobs.length := by rw [hok.perm.length_eq, names_len]
    intro bg nbg
    have sm1 := same_new (o := .dK []) nbg
    have hbg : upd H bg (.dK []) bg = some (.dK (dI [])) := upd_same
    generalize upd H bg (.dK []) = H1 at sm1 hbg
    refine ⟨.ref op, rfl, op, rfl, ⟨_, (ho.mono (.of sm1)).sq⟩, ?_⟩
    refine for_it (walk_tup (xs := o.map V.str)) (fun i σ2 H2 => ∃ (bs : List (Str × Int)) (z4 z5 z6 z7 z8 : Option V), σ2 = [some (.ref b), some (.int m), some (.ref op), some (.ref bg), z4, z5, z6, z7, z8, none, none, none, none] ∧ Same H H2 ∧ H2 bg = some (.dK (dI bs)) ∧ Good B m bs ∧ bs.map (·.1) = o.take i)
      ⟨[], none, none, none, none, none, rfl, sm1, hbg, good_nil B m R hth, by simp⟩ (fun i σ2 H2 _ h => ?_) (fun i x σ2 H2 H2' hi h y => ?_) (fun σ2 H2 h => ?_)
    · obtain ⟨_, _, _, _, _, _, _, s, _⟩ := h
      exact (ho.mono (.of s)).sq
    · clear sm1 hbg
      obtain ⟨bs, z4, z5, z6, z7, z8, rfl, sm, hbg, g, hk⟩ := h
      obtain ⟨rfl, hx⟩ := y
      have hi' : i < o.length := by rw [List.length_map] at hi; exact hi
      have hln : o[i]? = some o[i] := List.getElem?_eq_getElem hi'
      rw [List.getElem?_map, hln] at hx; cases hx
      have hnt : o[i] ∉ (o.take i).map id := nd_take (f := id) (by rw [List.map_id]; exact ond) hln
      rw [List.map_id, ← hk] at hnt
      generalize o[i] = x at hln hnt
      have xn := om x (List.mem_of_getElem? hln)
      have gl := good_len g
      obtain ⟨j, hj⟩ := job_some xn
      have hB2 := hB.same sm
      have nl := R.nfew j (job_mem hj).1
      have ndb : ∀ k ∈ j.needs, ∃ t, lk bs k = some t := fun k hk' => by
        have := hok.ahead i x hln k (by rw [needs_at hj]; exact hk')
        rw [← hk] at this
        exact lk_isSome this
      refine ⟨.ref b, rfl, .str x, rfl, b, B, x, j, rfl, hB2, hj, fun a ha => ?_⟩
      obtain ⟨n', u, mode, cmd, tries, e1, e2, e3⟩ := ha.ex
      refine ⟨.ref a, rfl, a, _, 7, .int j.start, rfl, rfl, SqT.of e1, atI_nat (j := 7) rfl, (by show 1 ≤ sizeLine; decide), fun l1 nl1 => ?_⟩
      have s1 := same_new (o := .lst [.int j.start]) nl1
      have hl1 : upd H2' l1 (.lst [.int j.start]) l1 = some (.lst ([j.start].map V.int)) := upd_same
      generalize upd H2' l1 (.lst [.int j.start]) = H3 at s1 hl1
      refine ⟨.ref a, rfl, a, _, 2, .ref n', rfl, rfl, SqT.of (s1 _ _ e1), atI_nat (j := 2) rfl, n', rfl, ⟨_, (e2.mono (.of s1)).sq⟩, fun D nD => ?_⟩
      refine lc_std (walk_tup (xs := j.needs.map V.str)) j.needs (fun k => (lk bs k).map fun t => V.int (t + B.len k)) nD (List.length_map _) (by omega) (fun H7 s => TupA.sq (e2.mono (.of (s1.trans s)))) (fun i k v H7 H7' Kt Kf hi s y kt kf => ?_) (fun H7 s e => ?_)
      · obtain ⟨rfl, hv⟩ := y
        rw [List.getElem?_map, hi] at hv; cases hv
        obtain ⟨t, ht⟩ := ndb k (List.mem_of_getElem? hi)
        exact ⟨rfl, .ref b, rfl, .ref bg, rfl, .str k, rfl, b, bg, B, bs, k, t, rfl, hB2.same (s1.trans s), .inl (s _ _ (s1 _ _ hbg)), ht, g.sub _ (lk_mem ht), kt _ _ (by rw [ht]; rfl) (Same.refl _)⟩
      have eD : H7 D = some (.lst ((j.needs.filterMap fun k => (lk bs k).map fun t => t + B.len k).map V.int)) := by
        rw [e, List.map_filterMap]
        congr 3
        funext k
        rw [Option.map_map]; rfl
      have s2 := s1.trans s
      refine ⟨l1, D, _, _, rfl, rfl, s _ _ hl1, eD, Nat.le_of_lt (small ?_), fun l2 nl2 => ?_⟩
      · have := List.length_filterMap_le (fun k => (lk bs k).map fun t => t + B.len k) j.needs
        simp only [List.length_map, List.length_singleton]; omega
      generalize hns : (j.needs.filterMap fun k => (lk bs k).map fun t => t + B.len k) = ns at eD
      refine ⟨l2, j.start :: ns, rfl, SqL.of (by rw [upd_same]; rfl), by simp, fun T hT hmax => ?_⟩
      have hTs : j.start ≤ T := hmax _ List.mem_cons_self
      have hTn : ∀ k ∈ B.needs x, ∃ t, (k, t) ∈ bs ∧ t + B.len k ≤ T := fun k hk' => by
        rw [needs_at hj] at hk'
        obtain ⟨t, ht⟩ := ndb k hk'
        refine ⟨t, lk_mem ht, hmax _ (List.mem_cons_of_mem _ ?_)⟩
        rw [← hns]
        exact List.mem_filterMap.mpr ⟨k, hk', by rw [ht]; rfl⟩
      have s3 := s2.trans (same_new (o := .lst ([j.start].map V.int ++ ns.map V.int)) nl2)
      generalize upd H7 l2 (.lst ([j.start].map V.int ++ ns.map V.int)) = H4 at s3
      clear e eD s2 s1 hl1
      have hbg4 := s3 _ _ hbg
      refine ⟨bg, .dK (dI bs), hbg4, trivial, fun od => ?_⟩
      refine ⟨.ref bg, rfl, bg, od, rfl, .inl ⟨_, upd_same, fun D2 nD2 => ?_⟩⟩
      have hB4 : BookAt (upd H4 bg (.frz od (.dK (dI bs)))) b B := (hB2.same s3).mono (tupS_lock hbg4)
      have hDb : D2 ≠ bg := fun z => by rw [z, upd_same] at nD2; cases nD2
      refine lc_std walk_keys bs (fun p => some (.int (p.2 + B.len p.1))) nD2 dF_length (by omega) (fun H7 s => s _ _ upd_same) (fun i x v H7 H7' Kt Kf hi s y kt kf => ?_) (fun H8 s8 e8 => ?_)
      · obtain ⟨rfl, k, u, hk, rfl⟩ := y
        unfold dI dF at hk
        rw [List.getElem?_map, hi] at hk; cases hk
        have hlk : lk bs x.1 = some x.2 := lk_of_mem g.nd (List.mem_of_getElem? hi)
        exact ⟨rfl, .ref b, rfl, .ref bg, rfl, .str x.1, rfl, b, bg, B, bs, x.1, x.2, rfl, hB4.same s, .inr ⟨od, s _ _ upd_same⟩, hlk, g.sub _ (List.mem_of_getElem? hi), kt _ _ rfl (Same.refl _)⟩
      rw [fm_all] at e8
      refine ⟨s8 _ _ upd_same, ?_⟩
      have s5 := s3.trans (same_unlock s8 hbg4)
      have hD2 : upd H8 bg (.dK (dI bs)) D2 = some (.lst ((bs.map fun p => p.2 + B.len p.1).map V.int)) := by rw [upd_ne hDb, e8, List.map_map]; rfl
      generalize upd H8 bg (.dK (dI bs)) = H9 at s5 hD2
      refine ⟨D2, _, rfl, SqL.of hD2, by rw [List.length_map]; omega, fun es l4 hperm _ nl4 => ?_⟩
      have esl : es.length = bs.length := by rw [hperm.length_eq, List.length_map]
      have s6 := s5.trans (same_new (o := .lst (es.map V.int)) nl4)
      have hl4 : upd H9 l4 (.lst (es.map V.int)) l4 = some (.lst (es.map V.int)) := upd_same
      generalize upd H9 l4 (.lst (es.map V.int)) = H10 at s6 hl4
      refine ⟨.int T, rfl, (by show 1 ≤ sizeLine; decide), fun l5 nl5 => ?_⟩
      have s7 := s6.trans (same_new (o := .lst [.int T]) nl5)
      have hl4 := same_new nl5 (o := .lst [.int T]) _ _ hl4
      have hl5 : upd H10 l5 (.lst [.int T]) l5 = some (.lst ([T].map V.int)) := upd_same
      generalize upd H10 l5 (.lst [.int T]) = H11 at s7 hl4 hl5
      refine ⟨.ref l4, rfl, l4, rfl, ⟨_, SqL.of hl4⟩, fun D6 nD6 => ?_⟩
      refine lc_std (walk_list (xs := es.map V.int)) es (fun y => if decide (y > T) = true then some (.int y) else none) nD6 (List.length_map _) (by omega) (fun H7 s => SqL.of (s _ _ hl4)) (fun i y v H7 H7' Kt Kf hi s yy kt kf => ?_) (fun H12 s12 e12 => ?_)
      · obtain ⟨rfl, hv⟩ := yy
        rw [List.getElem?_map, hi] at hv; cases hv
        exact ⟨rfl, .int y, rfl, .int T, rfl, y, T, rfl, rfl, _, rfl, ite2 (fun e => ⟨.int y, rfl, kt _ _ (if_pos e) (Same.refl _)⟩) (fun e => kf _ (if_neg e) (Same.refl _))⟩
      rw [fm_if] at e12
      generalize hts : es.filter (fun y => decide (y > T)) = ts at e12
      have tsl : ts.length ≤ 8 := by rw [← hts]; have := List.length_filter_le (fun y => decide (y > T)) es; omega
      refine ⟨l5, D6, _, _, rfl, rfl, s12 _ _ hl5, e12, Nat.le_of_lt (small (by simp; omega)), fun l7 nl7 => ?_⟩
      have s13 := (s7.trans s12).trans (same_new (o := .lst ([T].map V.int ++ ts.map V.int)) nl7)
      have hl7 : upd H12 l7 (.lst ([T].map V.int ++ ts.map V.int)) l7 = some (.lst ((T :: ts).map V.int)) := by rw [upd_same]; rfl
      generalize upd H12 l7 (.lst ([T].map V.int ++ ts.map V.int)) = H13 at s13 hl7
      refine ⟨.ref l7, rfl, l7, rfl, ⟨_, SqL.of hl7⟩, fun D8 nD8 => ?_⟩
      refine lc_std (walk_list (xs := (T :: ts).map V.int)) (T :: ts) (fun y => if fitB B m bs x y = true then some (.int y) else none) nD8 (List.length_map _) (by simp; omega) (fun H7 s => SqL.of (s _ _ hl7)) (fun i y v H7 H7' Kt Kf hi s yy kt kf => ?_) (fun H14 s14 e14 => ?_)
      · obtain ⟨rfl, hv⟩ := yy
        rw [List.getElem?_map, hi] at hv; cases hv
        refine ⟨rfl, .ref b, rfl, .int m, rfl, .ref bg, rfl, .str x, rfl, .int y, rfl, b, bg, m, B, bs, x, y, rfl, hB2.same (s13.trans s), ⟨s _ _ (s13 _ _ hbg), g.nd, g.sub⟩, xn, fun H15 r s15 hr => ⟨r, rfl, ite2 (fun e => ?_) (fun e => ?_)⟩⟩
        · exact ⟨.int y, rfl, kt _ _ (if_pos (fitB_iff.mpr (hr.mp e))) s15⟩
        · exact kf _ (if_neg fun z => e (hr.mpr (fitB_iff.mp z))) s15
      rw [fm_if] at e14
      obtain ⟨t0, h1, h2, h3⟩ := turn_progress R hm (bs := bs) g.sub xn T
      have ht0 : t0 ∈ T :: ts := by
        rcases h2 with rfl | ⟨h2, p, hp, h4⟩
        · exact List.mem_cons_self
        · refine List.mem_cons_of_mem _ ?_
          rw [← hts]
          refine List.mem_filter.mpr ⟨hperm.mem_iff.mpr (List.mem_map.mpr ⟨p, hp, h4⟩), decide_eq_true h2⟩
      cases hf : (T :: ts).filter (fitB B m bs x) with
      | nil =>
        have : t0 ∈ (T :: ts).filter (fitB B m bs x) := List.mem_filter.mpr ⟨ht0, fitB_iff.mpr h3⟩
        rw [hf] at this; cases this
      | cons t1 rest =>
        have ht1 : t1 ∈ (T :: ts).filter (fitB B m bs x) := by rw [hf]; exact List.mem_cons_self
        obtain ⟨m1, f1⟩ := List.mem_filter.mp ht1
        have hTt : T ≤ t1 := by
          rcases List.mem_cons.mp m1 with rfl | m1
          · exact Int.le_refl _
          · rw [← hts] at m1
            have := of_decide_eq_true (List.mem_filter.mp m1).2
            omega
        rw [hf] at e14
        refine ⟨D8, _, 0, .int t1, rfl, rfl, SqL.of e14, atI_nat (j := 0) rfl, ?_⟩
        refine ⟨.ref bg, rfl, .str x, rfl, bg, _, rfl, dput_dF (s14 _ _ (s13 _ _ hbg)) hnt (by omega), ?_⟩
        refine ⟨bs ++ [(x, t1)], _, _, _, _, _, rfl, same_put (sm.trans (s13.trans s14)) nbg, upd_same, ?_, ?_⟩
        · refine g.stepTurn R xn hnt ?_ (fun k hk' => ?_) (fitB_iff.mp f1)
          · rw [start_at hj]; omega
          · obtain ⟨t, h5, h6⟩ := hTn k hk'
            exact ⟨t, h5, by omega⟩
        · rw [List.map_append, hk, take_snoc hln]; rfl
    · clear sm1 hbg
      obtain ⟨bs, z4, z5, z6, z7, z8, rfl, sm, hbg, g, hk⟩ := h
      rw [List.length_map, List.take_length] at hk
      have gl := good_len g
      refine ⟨.ref b, rfl, .ref bg, rfl, .inr (.inr (.inl ⟨rfl, .inl ⟨_, hbg⟩⟩)), bg, _, rfl, rfl, hbg, fun v nv => ?_⟩
      refine ⟨v, bg, bs, rfl, upd_same, same_new nv _ _ hbg, by omega, fun H4 l as cs s4 nl hl hp hs hpr => ⟨l, _, rfl, .inl ⟨SqL.of hl, fun t nt => ?_⟩⟩⟩
      have sm6 := ((sm.trans (same_new nv)).trans s4).trans (same_new (o := .tup (as.map V.ref)) nt)
      refine ⟨b, t, m, B, cs, rfl, hB.same sm6, ⟨as, TupA.of upd_same, pair_mono hpr fun a e h => same_new nt _ _ h⟩, g.perm hp, fun n hn => (hp.map _).mem_iff.mpr (by rw [hk]; exact hok.perm.mem_iff.mpr hn), fun H5 p pl s5 hpl hok => ?_⟩
      exact q _ p pl (sm6.trans s5) hpl hok
end
end K45
set_option Elab.async false
set_option linter.all false
set_option maxRecDepth 100000
set_option maxHeartbeats 4000000
namespace K45
open PySem PySem.Spec PyProof.Rows L2 LamX
/-! the law's draws -/
abbrev sOpen : Stmt := topS 28
abbrev sPick : Stmt := topS 29
abbrev sAny : Stmt := topS 30
abbrev sVal : Stmt := topS 31
abbrev nOpen : List Str := ["_law_script", "_law_stirred", "_law_cell", "_law_cells"]
abbrev nPick : List Str := ["_law_source", "_law_most", "_law_cells", "_law_others", "_law_lap", "_law_stirred"]
abbrev nAny : List Str := ["_law_source", "_law_things", "_law_others", "_law_lap"]
theorem scOpen : FnScope nOpen ["_law_script"] (defScope sOpen) := ⟨rfl, rfl, rfl, by decide +kernel, rfl, by decide +kernel, by decide +kernel⟩
theorem scPick : FnScope nPick ["_law_source", "_law_most"] (defScope sPick) := ⟨rfl, rfl, rfl, by decide +kernel, rfl, by decide +kernel, by decide +kernel⟩
theorem scAny : FnScope nAny ["_law_source", "_law_things"] (defScope sAny) := ⟨rfl, rfl, rfl, by decide +kernel, rfl, by decide +kernel, by decide +kernel⟩
theorem scVal : FnScope ["_law_source"] ["_law_source"] (defScope sVal) := ⟨rfl, rfl, rfl, by decide +kernel, rfl, by decide +kernel, by decide +kernel⟩
def srcK (cl : Addr) (l mi tu : Int) : List (Key × V) := [(Sum.inr "cells", .ref cl), (Sum.inr "left", .int l), (Sum.inr "mixed", .int mi), (Sum.inr "turn", .int tu)]
/-- the source of the draws -/
structure SrcAt (H : Hp) (src cl : Addr) : Prop where
  ex : ∃ (l mi tu : Int) (cs : List Int), H src = some (.dK (srcK cl l mi tu)) ∧ H cl = some (.lst (cs.map V.int)) ∧ cs.length ≤ 63
/-- a draw: all that was tracked is as it was, but the source -/
structure Mv (src cl : Addr) (H H' : Hp) : Prop where
  keep : ∀ b o, b ≠ src → b ≠ cl → H b = some o → H' b = some o
  src : SrcAt H src cl → SrcAt H' src cl
theorem Mv.refl (src cl : Addr) (H : Hp) : Mv src cl H H := ⟨fun _ _ _ _ h => h, id⟩
theorem Mv.trans {src cl : Addr} {H H1 H2 : Hp} (a : Mv src cl H H1) (b : Mv src cl H1 H2) : Mv src cl H H2 := ⟨fun c o h1 h2 h => b.keep c o h1 h2 (a.keep c o h1 h2 h), fun h => b.src (a.src h)⟩
theorem SrcAt.same {H H' : Hp} {src cl : Addr} (s : Same H H') (h : SrcAt H src cl) : SrcAt H' src cl := by
  obtain ⟨l, mi, tu, cs, h1, h2, h3⟩ := h.ex
  exact ⟨l, mi, tu, cs, s _ _ h1, s _ _ h2, h3⟩
theorem Mv.of {src cl : Addr} {H H' : Hp} (s : Same H H') : Mv src cl H H' := ⟨fun b o _ _ h => s b o h, fun h => h.same s⟩
theorem SrcAt.ne {H : Hp} {src cl b : Addr} (h : SrcAt H src cl) (n : H b = none) : b ≠ src ∧ b ≠ cl := by
  obtain ⟨l, mi, tu, cs, h1, h2, h3⟩ := h.ex
  exact ⟨ne_of_none' h1 n, ne_of_none' h2 n⟩
theorem SrcAt.off {H : Hp} {src cl b : Addr} {o : HO} (h : SrcAt H src cl) (e : H b = some o) (n1 : ∀ kvs, o ≠ .dK kvs) (n2 : ∀ xs, o ≠ .lst xs) : b ≠ src ∧ b ≠ cl := by
  obtain ⟨l, mi, tu, cs, h1, h2, h3⟩ := h.ex
  refine ⟨fun z => ?_, fun z => ?_⟩
  · rw [z, h1] at e; exact n1 _ (Option.some.inj e).symm
  · rw [z, h2] at e; exact n2 _ (Option.some.inj e).symm
theorem Mv.tupS {src cl : Addr} {H H' : Hp} (m : Mv src cl H H') (h : SrcAt H src cl) : TupS H H' := by
  refine ⟨fun b xs e => ?_, fun b o u e => ?_⟩
  · obtain ⟨h1, h2⟩ := h.off e (fun _ z => nomatch z) (fun _ z => nomatch z)
    exact m.keep _ _ h1 h2 e
  · obtain ⟨h1, h2⟩ := h.off e (fun _ z => nomatch z) (fun _ z => nomatch z)
    exact m.keep _ _ h1 h2 e
theorem Mv.tabs {src cl : Addr} {H H' : Hp} {T : List (Addr × Str)} (m : Mv src cl H H') (h : SrcAt H src cl) (t : Tabs T H) : Tabs T H' := fun p hp => by
  obtain ⟨ps, a1, a2, a3⟩ := t p hp
  obtain ⟨h1, h2⟩ := h.off a1 (fun _ z => nomatch z) (fun _ z => nomatch z)
  refine ⟨ps, m.keep _ _ h1 h2 a1, a2, fun pos cv hc => ?_⟩
  obtain ⟨c, e, hc'⟩ := a3 pos cv hc
  obtain ⟨h3, h4⟩ := h.off hc' (fun _ z => nomatch z) (fun _ z => nomatch z)
  exact ⟨c, e, m.keep _ _ h3 h4 hc'⟩
/-- a fresh object written on -/
theorem Mv.put {src cl p : Addr} {H H' : Hp} {o : HO} (m : Mv src cl H H') (h : SrcAt H src cl) (n : H p = none) : Mv src cl H (upd H' p o) := by
  obtain ⟨n1, n2⟩ := h.ne n
  refine ⟨fun b o' h1 h2 e => ?_, fun _ => ?_⟩
  · rw [upd_ne (ne_of_none e n)]; exact m.keep b o' h1 h2 e
  · obtain ⟨l, mi, tu, cs, e1, e2, e3⟩ := (m.src h).ex
    exact ⟨l, mi, tu, cs, by rw [upd_ne (Ne.symm n1)]; exact e1, by rw [upd_ne (Ne.symm n2)]; exact e2, e3⟩
theorem Mv.same {src cl : Addr} {H H1 H2 : Hp} (m : Mv src cl H H1) (s : Same H1 H2) : Mv src cl H H2 := m.trans (.of s)
theorem Mv.free {src cl b : Addr} {H H' : Hp} (m : Mv src cl H H') (h : SrcAt H src cl) (n : H' b = none) : H b = none := by
  obtain ⟨n1, n2⟩ := (m.src h).ne n
  cases e : H b with
  | none => rfl
  | some o => rw [m.keep b o n1 n2 e] at n; cases n
def spOpen : Sp := fun vs H Q _ => ∃ (K : PySem.W.Frag) (a : Addr) (ns : List Int), vs = [.ref a] ∧ SqL K H a (ns.map V.int) ∧ ns.length ≤ 63 ∧ ∀ (H' : Hp) (src cl : Addr), Same H H' → SrcAt H' src cl → Q (.ref src) H'
def spPick : Sp := fun vs H Q _ => ∃ (src cl : Addr) (most : Int), vs = [.ref src, .int most] ∧ SrcAt H src cl ∧ most ≤ 1000 ∧ ∀ (H' : Hp) (v : Int), Mv src cl H H' → 0 ≤ v → (v < most ∨ v = 0) → Q (.int v) H'
section
variable {P : Program} {w : World} {K : PySem.W.Frag} {mg : Str → Option Value} {base : Heap}
theorem ok_pick (d : Def K mg "_law_pick" sPick ["_law_source", "_law_most"]) (m1 : mg "len" = none) (m2 : mg "int" = none) : Has P w K mg base "_law_pick" ["_law_source", "_law_most"] 1 spPick := d.has fun f fd F => by
  refine F.ok scPick (fun vs H Q E h => ?_) (fun cdv A outer s H vs Q E hr h => ?_)
  · obtain ⟨src, cl, most, rfl, _⟩ := h; rfl
  · obtain ⟨src, cl, most, rfl, hs, hm, q⟩ := h
    refine ⟨_, pss_cons (ps_if (pt_cmpR op_lt (pv 1) pe_int (nomark _)) (pss_one (ps_ret pe_int)) pss_nil)
      (pss_cons (ps_set (i := 2) scPick.nd rfl (Or.inl rfl) (pe_dget (hu_of hr) (pv 0) pe_str (fun _ _ => rfl)))
      (pss_cons (ps_while PassesOwn.never (pw_and (pt_cmpR op_lt (pe_dget (hu_of hr) (pv 0) pe_str (fun _ _ => rfl)) pe_int (nomark _)) (pw_and1 (pt_cmpR op_gt (pe_callB call_len_seq (by rfl) m1 (by decide +kernel) (pa_cons (pv 2) pa_nil)) pe_int (nomark _)))).pt
        (pss_one (ps_dput (hu_of hr) (pv 0) pe_str (pe_bm0 PySem.F.plainAttrs_list PySem.F.slot_list_pop PySem.F.type_list_pop mt_pop (pv 2)) rfl)))
      (pss_cons (ps_set (i := 3) scPick.nd rfl (Or.inl rfl) (pe_dget (hu_of hr) (pv 0) pe_str (fun _ _ => rfl)))
      (pss_cons (ps_if (pt_cmpR op_gt (pv 3) pe_int (nomark _))
        (pss_cons (ps_dput (hu_of hr) (pv 0) pe_str (pe_op op_fdiv (pv 3) (pv 1)) rfl) (pss_one (ps_ret (pe_op op_mod (pe_callTy call_int1 (by rfl) m2 (by decide +kernel) (pa_cons (pv 3) pa_nil)) (pv 1))))) pss_nil)
      (pss_cons (ps_dput (hu_of hr) (pv 0) pe_str (pe_op op_add (pe_dget (hu_of hr) (pv 0) pe_str (fun _ _ => rfl)) pe_int) rfl)
      (pss_cons (ps_set (i := 4) scPick.nd rfl (Or.inl rfl) (pe_dget (hu_of hr) (pv 0) pe_str (fun _ _ => rfl)))
      (pss_cons (ps_set (i := 5) scPick.nd rfl (Or.inl rfl) (pe_op op_mod (pe_callTy call_int1 (by rfl) m2 (by decide +kernel) (pa_cons (pe_op op_add (pe_dget (hu_of hr) (pv 0) pe_str (fun _ _ => rfl)) (pe_op op_mul (pv 4) pe_int)) pa_nil)) pe_int))
      (pss_cons (ps_set (i := 5) scPick.nd rfl (Or.inl rfl) (pe_op op_mod (pe_callTy call_int1 (by rfl) m2 (by decide +kernel) (pa_cons (pe_op op_add (pe_op op_mul (pv 5) (pv 5)) (pe_op op_mul (pv 4) pe_int)) pa_nil)) pe_int))
      (pss_one (ps_ret (pe_op op_mod (pe_callTy call_int1 (by rfl) m2 (by decide +kernel) (pa_cons (pe_op op_fdiv (pv 5) pe_int) pa_nil)) (pv 1)))))))))))), ?_⟩
    obtain ⟨l, mi, tu, cs, h1, h2, h3⟩ := hs.ex
    have hne : src ≠ cl := fun z => by rw [z, h2] at h1; cases h1
    refine ⟨.int most, rfl, most, 2, rfl, rfl, _, rfl, ite2 (fun e => q H 0 (.refl _ _ _) (Int.le_refl _) (.inr rfl)) (fun e => ?_)⟩
    have hm2 : 2 ≤ most := by
      have : ¬ most < 2 := fun z => e (decide_eq_true z)
      omega
    refine ⟨.ref src, rfl, src, .ref cl, rfl, .inl ⟨_, Sum.inr "cells", .inl h1, rfl, rfl⟩, ?_⟩
    refine ⟨fun m σ' H' => ∃ (l : Int) (cs : List Int), m = cs.length ∧ σ' = [some (.ref src), some (.int most), some (.ref cl), none, none, none] ∧ H' src = some (.dK (srcK cl l mi tu)) ∧ H' cl = some (.lst (cs.map V.int)) ∧ cs.length ≤ 63 ∧ ∀ b o, b ≠ src → b ≠ cl → H b = some o → H' b = some o,
      ⟨_, l, cs, rfl, rfl, h1, h2, h3, fun _ _ _ _ h => h⟩, fun m σ' H' h => ?_⟩
    obtain ⟨l, cs, rfl, rfl, h1, h2, h3, hk⟩ := h
    refine (fun fin => ⟨.ref src, rfl, src, .int l, rfl, .inl ⟨_, Sum.inr "left", .inl h1, rfl, rfl⟩, l, 2, rfl, rfl, _, rfl, ite2 (fun e => ⟨.ref cl, rfl, cl, _, rfl, .inl (SqL.of h2), _, 0, rfl, rfl, _, rfl, ite2 (fun e2 => ?loop) (fun _ => fin)⟩) (fun _ => iteF fin)⟩) ?fin
    case loop =>
      rcases List.eq_nil_or_concat cs with e0 | ⟨cs', c, e0⟩
      · rw [e0] at e2; simp at e2
      · rw [List.concat_eq_append] at e0
        subst e0
        have h2' : H' cl = some (.lst (cs'.map V.int ++ [.int c])) := by rw [h2]; simp
        refine ⟨_, fun _ _ h => h, .ref cl, rfl, .inl ⟨rfl, _, SqL.of h2⟩, cl, _, .int c, rfl, rfl, h2', by simp, ?_⟩
        rw [List.dropLast_concat]
        refine ⟨.ref src, rfl, src, _, rfl, .inl ⟨_, Sum.inr "left", by rw [upd_ne hne]; exact h1, rfl, (by show 4 < sizeLine; decide), rfl⟩, ?_⟩
        refine ⟨cs'.length, by simp, c, cs', rfl, rfl, upd_same, ?_, ?_, fun b o n1 n2 h => ?_⟩
        · rw [upd_ne (Ne.symm hne), upd_same]
        · simp at h3; omega
        · rw [upd_ne n1, upd_ne n2]; exact hk b o n1 n2 h
    case fin =>
      have mv : ∀ {H2 : Hp} {l' tu' : Int}, H2 = upd H' src (.dK (srcK cl l' mi tu')) → Mv src cl H H2 := fun {H2 l' tu'} e => by
        subst e
        refine ⟨fun b o n1 n2 h => ?_, fun _ => ⟨l', mi, tu', cs, upd_same, ?_, h3⟩⟩
        · rw [upd_ne n1]; exact hk b o n1 n2 h
        · rw [upd_ne (Ne.symm hne)]; exact h2
      refine ⟨.ref src, rfl, src, .int l, rfl, .inl ⟨_, Sum.inr "left", .inl h1, rfl, rfl⟩, ?_⟩
      refine ⟨.int l, rfl, l, 1, rfl, rfl, _, rfl, ite2 (fun e => ?_) (fun e => ?_)⟩
      · refine ⟨.int l, rfl, .int most, rfl, l, most, rfl, rfl, ⟨by omega, by omega⟩, .ref src, rfl, src, _, rfl, .inl ⟨_, Sum.inr "left", h1, rfl, (by show 4 < sizeLine; decide), rfl⟩, ?_⟩
        refine ⟨.int l, rfl, .inl ⟨l, rfl, .int most, rfl, l, most, rfl, rfl, by omega, q _ _ (mv rfl) (Int.emod_nonneg _ (by omega)) (.inl (Int.emod_lt_of_pos _ (by omega)))⟩⟩
      · refine ⟨.ref src, rfl, src, .int tu, rfl, .inl ⟨_, Sum.inr "turn", .inl h1, rfl, rfl⟩, tu, 1, rfl, rfl, .ref src, rfl, src, _, rfl, .inl ⟨_, Sum.inr "turn", h1, rfl, (by show 4 < sizeLine; decide), rfl⟩, ?_⟩
        have h4 : upd H' src (.dK (srcK cl l mi (tu + 1))) src = some (.dK (srcK cl l mi (tu + 1))) := upd_same
        have hmv := mv (l' := l) (tu' := tu + 1) rfl
        show tSeq _ _ _ _ (upd H' src (.dK (srcK cl l mi (tu + 1))))
        generalize upd H' src (.dK (srcK cl l mi (tu + 1))) = H2 at h4 hmv
        refine ⟨.ref src, rfl, src, .int (tu + 1), rfl, .inl ⟨_, Sum.inr "turn", .inl h4, rfl, rfl⟩, ?_⟩
        refine ⟨.ref src, rfl, src, .int mi, rfl, .inl ⟨_, Sum.inr "mixed", .inl h4, rfl, rfl⟩, .int (tu + 1), rfl, tu + 1, 104729, rfl, rfl, .inr (by decide), mi, _, rfl, rfl, .inl ⟨_, rfl, _, 998244353, rfl, rfl, (by show (0:Int) < 998244353; decide), ?_⟩⟩
        obtain ⟨s1, hs1⟩ : ∃ s1, s1 = (mi + (tu + 1) * 104729) % 998244353 := ⟨_, rfl⟩
        have b1 : 0 ≤ s1 ∧ s1 < 998244353 := by rw [hs1]; exact ⟨Int.emod_nonneg _ (by decide), Int.emod_lt_of_pos _ (by decide)⟩
        refine ⟨.int s1, (by rw [hs1]; rfl), .int s1, (by rw [hs1]; rfl), s1, s1, rfl, rfl, .inl ⟨by omega, by omega⟩, .int (tu + 1), rfl, tu + 1, 17, rfl, rfl, .inr (by decide), _, _, rfl, rfl, .inl ⟨_, rfl, _, 2147483647, rfl, rfl, (by show (0:Int) < 2147483647; decide), ?_⟩⟩
        refine ⟨.int ((s1 * s1 + (tu + 1) * 17) % 2147483647), rfl, _, 16, rfl, rfl, ⟨by decide, by decide⟩, .inl ⟨_, rfl, .int most, rfl, _, most, rfl, rfl, by omega, q _ _ hmv (Int.emod_nonneg _ (by omega)) (.inl (Int.emod_lt_of_pos _ (by omega)))⟩⟩
theorem ok_open (d : Def K mg "_law_open_cells" sOpen ["_law_script"]) (m1 : mg "int" = none) (m2 : mg "abs" = none) : Has P w K mg base "_law_open_cells" ["_law_script"] 1 (fun vs H Q _ => ∃ (a : Addr) (ns : List Int), vs = [.ref a] ∧ SqL K H a (ns.map V.int) ∧ ns.length ≤ 63 ∧ ∀ (H' : Hp) (src cl : Addr), Same H H' → SrcAt H' src cl → Q (.ref src) H') := d.has fun f fd F => by
  refine F.ok scOpen (fun vs H Q E h => ?_) (fun cdv A outer s H vs Q E hr h => ?_)
  · obtain ⟨a, ns, rfl, _⟩ := h; rfl
  · obtain ⟨a, ns, rfl, ha, hl, q⟩ := h
    refine ⟨_, pss_cons (ps_set (i := 1) scOpen.nd rfl (Or.inl rfl) pe_int)
      (pss_cons (ps_for PassesOwn.never rfl (pi_list (pv 0)) (pg_name (i := 2) scOpen.nd rfl (Or.inl rfl))
        (pss_one (ps_set (i := 1) scOpen.nd rfl (Or.inl rfl) (pe_op op_mod (pe_callTy call_int1 (by rfl) m1 (by decide +kernel) (pa_cons (pe_op op_add (pe_op op_add (pe_op op_mul (pv 1) pe_int) (pe_op op_mul (pv 2) pe_int)) pe_int) pa_nil)) pe_int))))
      (pss_cons (ps_setLc (i := 3) (own := [("_law_cell", 2)]) (g := gName 2) (tt := tYes) rfl scOpen.nd rfl rfl rfl (pi_list (pv 0)) (blkOk_by (own := [("_law_cell", 2)]) (N := nOpen) (sc := defScope sOpen) (by decide +kernel))
            (fun _ _ _ _ _ => pg_name (i := 2) scOpen.nd rfl (Or.inl rfl)) (fun _ _ _ _ _ => pts_nil) (fun _ _ _ _ _ => pe_callB call_abs (by rfl) m2 (by decide +kernel) (pa_cons (pv 2) pa_nil)))
      (pss_one (ps_ret (pe_disp (pps_cons pe_str (pe_revL (pv 3)) (pps_cons pe_str pe_int (pps_cons pe_str (pv 1) (pps_cons pe_str pe_int pps_nil)))) rfl rfl (by decide) (by decide)))))), ?_⟩
    refine ⟨.ref a, rfl, a, rfl, ⟨_, ha⟩, ?_⟩
    refine for_it (walk_list (xs := ns.map V.int)) (fun i σ2 H2 => ∃ (z : Int) (z2 : Option V), σ2 = [some (.ref a), some (.int z), z2, none] ∧ H2 = H) ⟨11, none, rfl, rfl⟩ (fun i σ2 H2 _ h => ?_) (fun i x σ2 H2 H2' hi h y => ?_) (fun σ2 H2 h => ?_)
    · obtain ⟨_, _, _, rfl⟩ := h
      exact ha
    · obtain ⟨z, z2, rfl, rfl⟩ := h
      obtain ⟨rfl, hx⟩ := y
      have hi' : i < ns.length := by rw [List.length_map] at hi; exact hi
      rw [List.getElem?_map, List.getElem?_eq_getElem hi'] at hx; cases hx
      exact ⟨.int z, rfl, z, 69069, rfl, rfl, .inr (by decide), .int ns[i], rfl, ns[i], 31, rfl, rfl, .inr (by decide), _, _, rfl, rfl, _, 5, rfl, rfl, .inl ⟨_, rfl, _, 2147483629, rfl, rfl, (by show (0:Int) < 2147483629; decide), _, _, rfl, rfl⟩⟩
    · obtain ⟨z, z2, rfl, rfl⟩ := h
      refine ⟨.ref a, rfl, a, rfl, ⟨_, ha⟩, fun D nD => ?_⟩
      refine lc_std (walk_list (xs := ns.map V.int)) ns (fun y => some (.int (if y < 0 then -y else y))) nD (List.length_map _) (by omega) (fun H7 s => s.seq ha) (fun i y v H7 H7' Kt Kf hi s yy kt kf => ?_) (fun H7 s e => ?_)
      · obtain ⟨rfl, hv⟩ := yy
        rw [List.getElem?_map, hi] at hv; cases hv
        exact ⟨rfl, .int y, rfl, y, rfl, kt _ _ rfl (Same.refl _)⟩
      · rw [fm_all] at e
        have e' : H7 D = some (.lst ((ns.map fun y => if y < 0 then -y else y).map V.int)) := by rw [e, List.map_map]; rfl
        intro src nsrc
        refine ⟨.ref D, rfl, D, _, rfl, SqL.of (same_new nsrc _ _ e'), fun cl ncl => ?_⟩
        have hsc : cl ≠ src := fun z => by rw [z, upd_same] at ncl; cases ncl
        have nclH : H7 cl = none := by rw [upd_ne hsc] at ncl; exact ncl
        refine ⟨.int z, rfl, by rw [upd_ne (Ne.symm hsc), upd_same], srcK cl 1 z 0, rfl, (by show 4 ≤ 15; decide), ?_⟩
        refine q _ src cl ?_ ⟨1, z, 0, (ns.map fun y => if y < 0 then -y else y).reverse, upd_same, ?_, by simp; omega⟩
        · exact same_put (same_put (s.trans (same_new nsrc)) (s.free nclH)) (s.free nsrc)
        · rw [upd_ne hsc, upd_same, List.map_reverse]
end
end K45
set_option Elab.async false
set_option linter.all false
set_option maxRecDepth 100000
set_option maxHeartbeats 4000000
namespace K45
open PySem PySem.Spec PyProof.Rows L2 LamX
abbrev sCmd : Stmt := topS 32
abbrev nCmd : List Str := ["_law_source", "_law_needs_here", "_law_depth", "_law_road", "_law_name", "_law_one", "_law_other", "_law_word", "_law_lap"]
theorem scCmd : FnScope nCmd ["_law_source", "_law_needs_here", "_law_depth"] (defScope sCmd) := ⟨rfl, rfl, rfl, by decide +kernel, rfl, by decide +kernel, by decide +kernel⟩
def spAny : Sp := fun vs H Q _ => ∃ (src cl l : Addr) (xs : List Str), vs = [.ref src, .ref l] ∧ SrcAt H src cl ∧ H l = some (.lst (xs.map V.str)) ∧ xs.length ≤ 100 ∧ ∀ (H' : Hp) (p : Addr) (ys : List Str), Mv src cl H H' → H' p = some (.lst (ys.map V.str)) → H p = none → ys.Perm xs → Q (.ref p) H'
def spVal : Sp := fun vs H Q _ => ∃ (src cl : Addr), vs = [.ref src] ∧ SrcAt H src cl ∧ ∀ (H' : Hp) (v : V), Mv src cl H H' → Q v H'
def spCmd (d : Nat) : Sp := fun vs H Q _ => ∃ (src cl na : Addr) (ns : List Str) (z : Int), vs = [.ref src, .ref na, .int z] ∧ z = (d : Int) ∧ SrcAt H src cl ∧ TupA H na (ns.map V.str) ∧ ns.length ≤ 100 ∧ ∀ (H' : Hp) (v : V), Mv src cl H H' → Q v H'
def wordsL : List Str := ["plus", "less", "times", "is", "below", "and", "or", "joined", "not"]
def spRec : Nat → Sp
  | 0 => fun _ _ _ _ => False
  | d + 1 => spCmd d
theorem perm_erase {α : Type} {x : α} : ∀ {xs : List α} {k : Nat}, xs[k]? = some x → (x :: xs.eraseIdx k).Perm xs
  | [], k, h => by simp at h
  | y :: ys, 0, h => by simp at h; subst h; exact List.Perm.refl _
  | y :: ys, k + 1, h => by
    have h : ys[k]? = some x := by simpa using h
    rw [List.eraseIdx_cons_succ]
    exact (List.Perm.swap y x _).trans ((perm_erase h).cons y)
theorem erase_map {α β : Type} (f : α → β) : ∀ (xs : List α) (k : Nat), (xs.map f).eraseIdx k = (xs.eraseIdx k).map f
  | [], _ => rfl
  | _ :: _, 0 => rfl
  | x :: xs, k + 1 => by rw [List.map_cons, List.eraseIdx_cons_succ, List.eraseIdx_cons_succ, List.map_cons, erase_map f xs k]
theorem seq_ok {n : Nat} {v : Int} (h0 : 0 ≤ v) (h : v < n) : seqIndex? v n = some v.toNat := (ixN_seq (by unfold ixN; rw [if_pos h0, if_pos h])).1
section
variable {P : Program} {w : World} {K : PySem.W.Frag} {mg : Str → Option Value} {base : Heap}
theorem ok_any (d : Def K mg "_law_any_order" sAny ["_law_source", "_law_things"]) (cP : Has P w K mg base "_law_pick" ["_law_source", "_law_most"] 1 spPick) (m1 : mg "list" = none) (m2 : mg "len" = none) (m3 : mg "range" = none) : Has P w K mg base "_law_any_order" ["_law_source", "_law_things"] 2 spAny := d.has fun f fd F => by
  refine F.ok scAny (fun vs H Q E h => ?_) (fun cdv A outer s H vs Q E hr h => ?_)
  · obtain ⟨src, cl, l, xs, rfl, _⟩ := h; rfl
  · obtain ⟨src, cl, l, xs, rfl, hs, hl, hlen, q⟩ := h
    refine ⟨_, pss_cons (ps_set (i := 2) scAny.nd rfl (Or.inr rfl) (pe_callTy call_list_of (by rfl) m1 (by decide +kernel) (pa_cons (pv 1) pa_nil)))
      (pss_one (ps_ret (pe_lc (own := [("_law_lap", 3)]) (g := gName 3) (tt := tYes) (te := tBM K "list" rPopAt (tVar 2) (tCons (tCall spPick [] E0 (tCons (tVar 0) (tCons (tCB (fun xs H Q => ∃ p ys, xs = [.ref p] ∧ (SqL K H p ys ∨ SqT K H p ys) ∧ Q (.int ys.length) H) (tCons (tVar 2) tNil)) tNil))) tNil)) rfl scAny.nd (pi_range1 (by rfl) m3 (pa_cons (pe_callB call_len_seq (by rfl) m2 (by decide +kernel) (pa_cons (pv 2) pa_nil)) pa_nil)) (blkOk_by (own := [("_law_lap", 3)]) (N := nAny) (sc := defScope sAny) (by decide +kernel))
            (fun _ _ _ _ _ => pg_name (i := 3) scAny.nd rfl (Or.inl rfl)) (fun _ _ _ _ _ => pts_nil) (fun _ _ _ _ _ => pe_bm PySem.F.plainAttrs_list PySem.F.slot_list_pop PySem.F.type_list_pop mt_popAt (pv 2) (pa_cons (pe_has cP hr (pa_cons (pv 0) (pa_cons (pe_callB call_len_seq (by rfl) m2 (by decide +kernel) (pa_cons (pv 2) pa_nil)) pa_nil))) pa_nil))))), ?_⟩
    refine ⟨.ref l, rfl, l, _, rfl, .inl (SqL.of hl), fun oa noa => ?_⟩
    have sm1 := same_new (o := .lst (xs.map V.str)) noa
    have hoa : upd H oa (.lst (xs.map V.str)) oa = some (.lst (xs.map V.str)) := upd_same
    have hs1 := hs.same sm1
    generalize upd H oa (.lst (xs.map V.str)) = H1 at sm1 hoa hs1
    refine ⟨.ref oa, rfl, oa, _, rfl, .inl (SqL.of hoa), xs.length, by rw [List.length_map], by omega, by omega, fun D nD => ?_⟩
    have nDH : H D = none := sm1.free nD
    have hDo : D ≠ oa := ne_of_none' hoa nD
    have en : ((xs.length : Nat) : Int).toNat = xs.length := Int.toNat_natCast _
    rw [en]
    refine lc_it walk_range (fun i Hc => Mv src cl H Hc ∧ SrcAt Hc src cl ∧ ∃ (rest acc : List Str), Hc oa = some (.lst (rest.map V.str)) ∧ Hc D = some (.lst (acc.map V.str)) ∧ (acc ++ rest).Perm xs ∧ acc.length = i)
      ⟨(Mv.of sm1).put hs nDH, hs1.same (same_new nD), xs, [], by rw [upd_ne (Ne.symm hDo)]; exact hoa, upd_same, List.Perm.refl _, rfl⟩ (fun _ _ _ _ => trivial) (fun i x Hc Hc' hi h y => ?_) fun Hc h => ?_
    · obtain ⟨mv, hsc, rest, acc, hoc, hDc, hp, hi2⟩ := h
      obtain ⟨rfl, rfl⟩ := y
      have rl : rest.length = xs.length - i := by
        have := hp.length_eq
        rw [List.length_append] at this; omega
      refine ⟨rfl, ?_⟩
      refine ⟨.ref oa, rfl, .inl ⟨rfl, _, SqL.of hoc⟩, .ref src, rfl, .ref oa, rfl, oa, _, rfl, .inl (SqL.of hoc), src, cl, _, rfl, hsc, by rw [List.length_map]; omega, fun H4 v mv4 h0 hv => ?_⟩
      rw [List.length_map] at hv
      have hvl : v < rest.length := by rcases hv with h | h <;> omega
      obtain ⟨o1, o2⟩ := hs.ne noa
      obtain ⟨d1, d2⟩ := hs.ne nDH
      have hoc4 := mv4.keep _ _ o1 o2 hoc
      have hDc4 := mv4.keep _ _ d1 d2 hDc
      have hk : v.toNat < rest.length := by omega
      have hx : rest[v.toNat]? = some rest[v.toNat] := List.getElem?_eq_getElem hk
      refine ⟨oa, _, v, v.toNat, .str rest[v.toNat], rfl, rfl, hoc4, by omega, by omega, seq_ok h0 (by rw [List.length_map]; exact hvl), by rw [List.getElem?_map, hx]; rfl, ?_⟩
      have mv5 := (mv.trans mv4).put (o := .lst ((rest.map V.str).eraseIdx v.toNat)) hs noa
      refine ⟨acc.map V.str, by rw [upd_ne hDo]; exact hDc4, small (by rw [List.length_map]; omega), mv5.put hs nDH, (mv5.put hs nDH).src hs, rest.eraseIdx v.toNat, acc ++ [rest[v.toNat]], ?_, by rw [upd_same, List.map_append]; rfl, ?_, by rw [List.length_append, hi2]; rfl⟩
      · rw [upd_ne (Ne.symm hDo), upd_same, erase_map]
      · rw [List.append_assoc]
        exact ((perm_erase hx).append_left acc).trans hp
    · obtain ⟨mv, hsc, rest, acc, hoc, hDc, hp, hi2⟩ := h
      have rl : rest = [] := by
        have := hp.length_eq
        rw [List.length_append] at this
        exact List.length_eq_zero_iff.mp (by omega)
      rw [rl, List.append_nil] at hp
      exact q _ D acc mv hDc nDH hp
theorem ok_val (d : Def K mg "_law_draw_value" sVal ["_law_source"]) (cP : Has P w K mg base "_law_pick" ["_law_source", "_law_most"] 1 spPick) : Has P w K mg base "_law_draw_value" ["_law_source"] 2 spVal := d.has fun f fd F => by
  refine F.ok scVal (fun vs H Q E h => ?_) (fun cdv A outer s H vs Q E hr h => ?_)
  · obtain ⟨src, cl, rfl, _⟩ := h; rfl
  · obtain ⟨src, cl, rfl, hs, q⟩ := h
    refine ⟨_, pss_one (ps_ret (pe_ix (r := rIxL K) ix_list (pe_lst (pa_cons pe_non (pa_cons pe_int (pa_cons pe_int (pa_cons pe_int (pa_cons pe_int (pa_cons (pe_op op_sub pe_int pe_int) (pa_cons pe_int (pa_cons pe_str (pa_cons pe_str (pa_cons pe_str (pa_cons pe_str (pa_cons (pe_op op_pow pe_int pe_int) pa_nil)))))))))))))
      (pe_has cP hr (pa_cons (pv 0) (pa_cons pe_int pa_nil))) (fun _ _ => rfl))), ?_⟩
    refine ⟨0, 1, rfl, rfl, 10, 6, rfl, rfl, ⟨by decide, by decide, by decide⟩, (by show 12 ≤ sizeLine; decide), fun l nl => ?_⟩
    refine ⟨.ref src, rfl, src, cl, 12, rfl, hs.same (same_new nl), by decide, fun H' v mv h0 hv => ?_⟩
    have hvl : v < 12 := by rcases hv with h | h <;> omega
    have ho := (hs.same (same_new (o := .lst [V.non, .int 0, .int 1, .int 2, .int 3, .int (0 - 1), .int 7, .str "a", .str "b", .str "ab 1", .str "", .int (10 ^ (6:Int).toNat)]) nl))
    have hl : H' l = some (.lst [V.non, .int 0, .int 1, .int 2, .int 3, .int (0 - 1), .int 7, .str "a", .str "b", .str "ab 1", .str "", .int (10 ^ (6:Int).toNat)]) := by
      obtain ⟨n1, n2⟩ := hs.ne nl
      exact mv.keep _ _ n1 n2 upd_same
    have hk : v.toNat < [V.non, .int 0, .int 1, .int 2, .int 3, .int (0 - 1), .int 7, .str "a", .str "b", .str "ab 1", .str "", .int (10 ^ (6:Int).toNat)].length := by show v.toNat < 12; omega
    refine ⟨l, _, v, _, rfl, rfl, SqL.of hl, at_of (j := v.toNat) (by omega) (List.getElem?_eq_getElem hk), q _ _ ((Mv.of (same_new nl)).trans mv)⟩
theorem ok_cmd (n : Nat) {k : Nat} (hk : 2 ≤ k) (d : Def K mg "_law_draw_command" sCmd ["_law_source", "_law_needs_here", "_law_depth"]) (cP : Has P w K mg base "_law_pick" ["_law_source", "_law_most"] 1 spPick) (cV : Has P w K mg base "_law_draw_value" ["_law_source"] 2 spVal)
    (cC : Has P w K mg base "_law_draw_command" ["_law_source", "_law_needs_here", "_law_depth"] k (spRec n)) (m1 : mg "len" = none) (m2 : mg "range" = none) : Has P w K mg base "_law_draw_command" ["_law_source", "_law_needs_here", "_law_depth"] (k + 1) (spCmd n) := d.has fun f fd F => by
  refine F.ok scCmd (fun vs H Q E h => ?_) (fun cdv A outer s H vs Q E hr h => ?_)
  · obtain ⟨src, cl, na, ns, z, rfl, _⟩ := h; rfl
  · obtain ⟨src, cl, na, ns, z, rfl, hz, hs, hna, hl, q⟩ := h
    have hr1 := hr.mono (show 1 ≤ k by omega)
    have hr2 := hr.mono hk
    refine ⟨_, pss_cons (ps_set (i := 3) scCmd.nd rfl (Or.inl rfl) (pe_has cP hr1 (pa_cons (pv 0) (pa_cons (pe_ifExp (pt_cmpR op_gt (pv 2) pe_int (nomark _)) pe_int pe_int) pa_nil))))
      (pss_cons (ps_if (pt_cmpR op_eq (pv 3) pe_int (nomark _)) (pss_one (ps_ret (pe_tup (pa_cons pe_str (pa_cons (pe_has cV hr2 (pa_cons (pv 0) pa_nil)) pa_nil))))) pss_nil)
      (pss_cons (ps_if (pt_cmpR op_eq (pv 3) pe_int (nomark _)) (pss_one (ps_ret (pe_tup (pa_cons pe_str pa_nil)))) pss_nil)
      (pss_cons (ps_if (pt_cmpR op_lt (pv 3) pe_int (nomark _))
        (pss_cons (ps_set (i := 4) scCmd.nd rfl (Or.inl rfl) (pe_ifExp (pt_cmpR op_gt (pe_callB call_len_seq (by rfl) m1 (by decide +kernel) (pa_cons (pv 1) pa_nil)) pe_int (nomark _)) (pe_ix (r := rIxT K) ix_tup (pv 1) (pe_has cP hr1 (pa_cons (pv 0) (pa_cons (pe_callB call_len_seq (by rfl) m1 (by decide +kernel) (pa_cons (pv 1) pa_nil)) pa_nil))) (fun _ _ => rfl)) pe_non))
        (pss_one (ps_ret (pe_ifExp (pt_cmp (pc_notN (pv 4))) (pe_tup (pa_cons pe_str (pa_cons (pv 4) pa_nil))) (pe_tup (pa_cons pe_str (pa_cons (pe_has cV hr2 (pa_cons (pv 0) pa_nil)) pa_nil))))))) pss_nil)
      (pss_cons (ps_asg (pe_lc (own := [("_law_lap", 8)]) (g := gName 8) (tt := tYes) rfl scCmd.nd (pi_range1 (by rfl) m2 (pa_cons pe_int pa_nil)) (blkOk_by (own := [("_law_lap", 8)]) (N := nCmd) (sc := defScope sCmd) (by decide +kernel))
            (fun _ _ _ _ _ => pg_name (i := 8) scCmd.nd rfl (Or.inl rfl)) (fun _ _ _ _ _ => pts_nil) (fun _ _ _ _ _ => pe_has cC hr (pa_cons (pv 0) (pa_cons (pv 1) (pa_cons (pe_op op_sub (pv 2) pe_int) pa_nil))))) (pg_unl rfl (pgs_cons (pg_name (i := 5) scCmd.nd rfl (Or.inl rfl)) (pgs_cons (pg_name (i := 6) scCmd.nd rfl (Or.inl rfl)) pgs_nil))))
      (pss_cons (ps_if (pt_cmpR op_eq (pv 3) pe_int (nomark _)) (pss_one (ps_ret (pe_tup (pa_cons pe_str (pa_cons (pv 5) (pa_cons (pv 6) (pa_cons (pe_has cC hr (pa_cons (pv 0) (pa_cons (pv 1) (pa_cons (pe_op op_sub (pv 2) pe_int) pa_nil)))) pa_nil))))))) pss_nil)
      (pss_cons (ps_if (pt_cmpR op_eq (pv 3) pe_int (nomark _)) (pss_one (ps_ret (pe_tup (pa_cons pe_str (pa_cons (pe_tup (pa_cons pe_str (pa_cons (pe_tup (pa_cons pe_str (pa_cons (pe_has cP hr1 (pa_cons (pv 0) (pa_cons pe_int pa_nil))) pa_nil))) (pa_cons (pe_tup (pa_cons pe_str pa_nil)) pa_nil)))) (pa_cons (pv 6) pa_nil)))))) pss_nil)
      (pss_cons (ps_if (pt_cmpR op_eq (pv 3) pe_int (nomark _)) (pss_one (ps_ret (pe_tup (pa_cons pe_str (pa_cons (pv 5) (pa_cons (pv 6) pa_nil)))))) pss_nil)
      (pss_cons (ps_set (i := 7) scCmd.nd rfl (Or.inl rfl) (pe_ix (r := rIxL K) ix_list (pe_lst (pa_cons pe_str (pa_cons pe_str (pa_cons pe_str (pa_cons pe_str (pa_cons pe_str (pa_cons pe_str (pa_cons pe_str (pa_cons pe_str (pa_cons pe_str pa_nil)))))))))) (pe_has cP hr1 (pa_cons (pv 0) (pa_cons pe_int pa_nil))) (fun _ _ => rfl)))
      (pss_cons (ps_if (pt_cmpR op_eq (pv 7) pe_str (nomark _)) (pss_one (ps_ret (pe_tup (pa_cons (pv 7) (pa_cons (pv 5) (pa_cons (pe_tup (pa_cons pe_str (pa_cons (pe_has cP hr1 (pa_cons (pv 0) (pa_cons pe_int pa_nil))) pa_nil))) pa_nil)))))) pss_nil)
      (pss_one (ps_ret (pe_ifExp (pt_cmpR op_eq (pv 7) pe_str (nomark _)) (pe_tup (pa_cons (pv 7) (pa_cons (pv 5) pa_nil))) (pe_tup (pa_cons (pv 7) (pa_cons (pv 5) (pa_cons (pv 6) pa_nil)))))))))))))))), ?_⟩
    refine (fun (fin : ∀ (H1 : Hp) (v : Int), Mv src cl H H1 → 0 ≤ v → (n = 0 → v < 4) → _) => ⟨.ref src, rfl, .int z, rfl, z, 0, rfl, rfl, _, rfl, ite2 (fun e => ⟨src, cl, 9, rfl, hs, by decide, fun H1 v mv h0 hv => fin H1 v mv h0 fun hn => ?a⟩) (fun e => ⟨src, cl, 4, rfl, hs, by decide, fun H1 v mv h0 hv => fin H1 v mv h0 fun hn => ?b⟩)⟩) ?fin
    case a => have := of_decide_eq_true e; omega
    case b => rcases hv with h | h <;> omega
    case fin =>
      intro H1 v mv h0 hv4
      have hs1 := mv.src hs
      have one : ∀ (H2 : Hp), Mv src cl H H2 → SrcAt H2 src cl := fun H2 m => m.src hs
      have len2 : (2 : Nat) ≤ sizeLine := by decide
      refine ⟨.int v, rfl, rfl, _, rfl, ite2 (fun _ => ?_) (fun _ => ?_)⟩
      · refine ⟨.ref src, rfl, src, cl, rfl, hs1, fun H2 v2 mv2 => ⟨(by show 2 ≤ sizeLine; decide), fun p np => q _ _ ((mv.trans mv2).same (same_new np))⟩⟩
      refine ⟨.int v, rfl, rfl, _, rfl, ite2 (fun _ => ?_) (fun _ => ?_)⟩
      · exact ⟨(by show 1 ≤ sizeLine; decide), fun p np => q _ _ (mv.same (same_new np))⟩
      have hna1 := hna.mono (mv.tupS hs)
      refine ⟨.int v, rfl, v, 4, rfl, rfl, _, rfl, ite2 (fun e4 => ?_) (fun e4 => ?_)⟩
      · refine ⟨.ref na, rfl, na, _, rfl, .inr hna1.sq, _, 0, rfl, rfl, _, rfl, ite2 (fun e => ?_) (fun e => ?_)⟩
        · refine ⟨.ref na, rfl, .ref src, rfl, .ref na, rfl, na, _, rfl, .inr hna1.sq, src, cl, _, rfl, hs1, by rw [List.length_map]; omega, fun H2 y mv2 y0 hy => ?_⟩
          rw [List.length_map] at hy
          have hpos : 0 < ns.length := by have := of_decide_eq_true e; rw [List.length_map] at this; omega
          have hyl : y.toNat < ns.length := by rcases hy with h | h <;> omega
          refine ⟨na, _, y, .str ns[y.toNat], rfl, rfl, (hna1.mono (mv2.tupS hs1)).sq, at_of (j := y.toNat) (by omega) (by rw [List.getElem?_map, List.getElem?_eq_getElem hyl]; rfl), ?_⟩
          refine ⟨_, rfl, _, rfl, ite2 (fun _ => ⟨_, rfl, (by show 2 ≤ sizeLine; decide), fun p np => q _ _ ((mv.trans mv2).same (same_new np))⟩) (fun _ => ?_)⟩
          exact ⟨.ref src, rfl, src, cl, rfl, (mv.trans mv2).src hs, fun H3 v3 mv3 => ⟨(by show 2 ≤ sizeLine; decide), fun p np => q _ _ (((mv.trans mv2).trans mv3).same (same_new np))⟩⟩
        · refine ⟨_, rfl, _, rfl, ite2 (fun _ => ⟨_, rfl, (by show 2 ≤ sizeLine; decide), fun p np => q _ _ (mv.same (same_new np))⟩) (fun _ => ?_)⟩
          exact ⟨.ref src, rfl, src, cl, rfl, mv.src hs, fun H3 v3 mv3 => ⟨(by show 2 ≤ sizeLine; decide), fun p np => q _ _ ((mv.trans mv3).same (same_new np))⟩⟩
      · cases n with
        | zero => exact absurd (decide_eq_true (hv4 rfl)) e4
        | succ n =>
          refine ⟨2, rfl, by decide, by decide, fun D nD => ?_⟩
          have nDH := mv.free hs nD
          refine lc_it (n := 2) walk_range (fun i Hc => Mv src cl H Hc ∧ ∃ acc, Hc D = some (.lst acc) ∧ acc.length = i) ⟨mv.put hs nDH, [], upd_same, rfl⟩ (fun _ _ _ _ => trivial) (fun i x Hc Hc' hi h y => ?_) fun Hc h => ?_
          · obtain ⟨mvc, acc, hDc, ha⟩ := h
            obtain ⟨rfl, rfl⟩ := y
            refine ⟨rfl, .ref src, rfl, .ref na, rfl, .int z, rfl, z, 1, rfl, rfl, src, cl, na, ns, _, rfl, by omega, mvc.src hs, hna.mono (mvc.tupS hs), hl, fun H4 y mv4 => ?_⟩
            obtain ⟨d1, d2⟩ := hs.ne nDH
            exact ⟨acc, mv4.keep _ _ d1 d2 hDc, small (by omega), (mvc.trans mv4).put hs nDH, acc ++ [y], upd_same, by rw [List.length_append, ha]; rfl⟩
          · obtain ⟨mvc, acc, hDc, ha⟩ := h
            obtain ⟨x1, x2, rfl⟩ : ∃ x1 x2, acc = [x1, x2] := by
              match acc, ha with
              | [x1, x2], _ => exact ⟨x1, x2, rfl⟩
            clear e4 hs1 hna1 one
            have hsc := mvc.src hs
            have hnac := hna.mono (mvc.tupS hs)
            refine ⟨D, [x1, x2], rfl, SqL.of hDc, rfl, x1, [x2], rfl, x2, [], rfl, rfl, ?_⟩
            refine ⟨.int v, rfl, rfl, _, rfl, ite2 (fun _ => ?_) (fun _ => ?_)⟩
            · refine ⟨x1, rfl, x2, rfl, .ref src, rfl, .ref na, rfl, .int z, rfl, z, 1, rfl, rfl, src, cl, na, ns, _, rfl, by omega, hsc, hnac, hl, fun H4 y mv4 => ⟨(by show 4 ≤ sizeLine; decide), fun p np => q _ _ ((mvc.trans mv4).same (same_new np))⟩⟩
            refine ⟨.int v, rfl, rfl, _, rfl, ite2 (fun _ => ?_) (fun _ => ?_)⟩
            · refine ⟨.ref src, rfl, src, cl, 4, rfl, hsc, by decide, fun H4 y mv4 _ _ => ⟨(by show 2 ≤ sizeLine; decide), fun p1 np1 => ⟨(by show 1 ≤ sizeLine; decide), fun p2 np2 => ⟨(by show 3 ≤ sizeLine; decide), fun p3 np3 => ⟨x2, rfl, (by show 3 ≤ sizeLine; decide), fun p4 np4 => q _ _ (((((mvc.trans mv4).same (same_new np1)).same (same_new np2)).same (same_new np3)).same (same_new np4))⟩⟩⟩⟩⟩
            refine ⟨.int v, rfl, rfl, _, rfl, ite2 (fun _ => ?_) (fun _ => ?_)⟩
            · exact ⟨x1, rfl, x2, rfl, (by show 3 ≤ sizeLine; decide), fun p np => q _ _ (mvc.same (same_new np))⟩
            refine ⟨(by show 9 ≤ sizeLine; decide), fun lw nlw => ?_⟩
            refine ⟨.ref src, rfl, src, cl, 9, rfl, hsc.same (same_new nlw), by decide, fun H4 y mv4 y0 hy => ?_⟩
            have hyl : y.toNat < wordsL.length := by show y.toNat < 9; rcases hy with h | h <;> omega
            obtain ⟨w1, w2⟩ := hsc.ne nlw
            have hlw : H4 lw = some (.lst (wordsL.map V.str)) := mv4.keep _ _ w1 w2 upd_same
            have mv5 := (mvc.same (same_new nlw)).trans mv4
            refine ⟨lw, wordsL.map V.str, y, .str wordsL[y.toNat], rfl, rfl, SqL.of hlw, at_of (j := y.toNat) (by omega) (by rw [List.getElem?_map, List.getElem?_eq_getElem hyl]; rfl), ?_⟩
            refine ⟨_, rfl, rfl, _, rfl, ite2 (fun _ => ?_) (fun _ => ?_)⟩
            · refine ⟨_, rfl, x1, rfl, .ref src, rfl, src, cl, 4, rfl, mv5.src hs, by decide, fun H5 y5 mv6 _ _ => ⟨(by show 2 ≤ sizeLine; decide), fun p1 np1 => ⟨(by show 3 ≤ sizeLine; decide), fun p2 np2 => q _ _ (((mv5.trans mv6).same (same_new np1)).same (same_new np2))⟩⟩⟩
            refine ⟨_, rfl, rfl, _, rfl, ite2 (fun _ => ?_) (fun _ => ?_)⟩
            · exact ⟨_, rfl, x1, rfl, (by show 2 ≤ sizeLine; decide), fun p np => q _ _ (mv5.same (same_new np))⟩
            · exact ⟨_, rfl, x1, rfl, x2, rfl, (by show 3 ≤ sizeLine; decide), fun p np => q _ _ (mv5.same (same_new np))⟩
end
end K45
set_option Elab.async false
set_option linter.all false
set_option maxRecDepth 100000
set_option maxHeartbeats 1000000
namespace K45
open PySem PySem.Spec PyProof.Rows L2
/-! the drawn books are right (plain) -/
structure JobOk (names : List Str) (things : List (Str × Int)) (i : Nat) (j : Job) : Prop where
  nm : names[i]? = some j.name
  nds : ∀ k ∈ j.needs, k ∈ names.take i
  nfew : j.needs.length ≤ 8
  ufew : j.uses.length ≤ 8
  und : (j.uses.map (·.1)).Nodup
  uok : ∀ q ∈ j.uses, 0 ≤ q.2 ∧ ∃ u, lk things q.1 = some u ∧ q.2 ≤ u
  lpos : 1 ≤ j.len
  snn : 0 ≤ j.start
def JobsOk (names : List Str) (things : List (Str × Int)) (js : List Job) : Prop := ∀ (i : Nat) (j : Job), js[i]? = some j → JobOk names things i j
theorem JobsOk.names {names : List Str} {things : List (Str × Int)} {js : List Job} (h : JobsOk names things js) (hl : js.length ≤ names.length) : js.map Job.name = names.take js.length := by
  apply List.ext_getElem?
  intro i
  rw [List.getElem?_map, List.getElem?_take]
  by_cases hi : i < js.length
  · rw [if_pos hi, List.getElem?_eq_getElem hi]
    exact (h i _ (List.getElem?_eq_getElem hi)).nm.symm
  · rw [if_neg hi, List.getElem?_eq_none (by omega)]; rfl
theorem JobsOk.snoc {names : List Str} {things : List (Str × Int)} {js : List Job} (h : JobsOk names things js) {j : Job} (hj : JobOk names things js.length j) : JobsOk names things (js ++ [j]) := fun i k hk => by
  by_cases hi : i < js.length
  · rw [List.getElem?_append_left hi] at hk
    exact h i k hk
  · have : i = js.length := by
      have := (List.getElem?_eq_some_iff.mp hk).1
      rw [List.length_append, List.length_singleton] at this; omega
    subst this
    rw [List.getElem?_append_right (Nat.le_refl _), Nat.sub_self] at hk
    cases hk; exact hj
theorem idx_take : ∀ {names : List Str} {i : Nat} {k : Str}, k ∈ names.take i → names.idxOf k < i
  | [], i, k, h => by simp at h
  | n :: names, 0, k, h => by simp at h
  | n :: names, i + 1, k, h => by
    rw [List.take_succ_cons] at h
    rw [List.idxOf_cons]
    by_cases e : n = k
    · simp [e]
    · have h : k ∈ names.take i := (List.mem_cons.mp h).resolve_left (Ne.symm e)
      have := idx_take h
      have e' : (n == k) = false := by simpa using e
      rw [e']
      simp only [cond_false]
      omega
theorem idx_at : ∀ {names : List Str} {i : Nat} {k : Str}, names.Nodup → names[i]? = some k → names.idxOf k = i
  | [], i, k, _, h => by simp at h
  | n :: names, 0, k, _, h => by simp at h; subst h; simp
  | n :: names, i + 1, k, nd, h => by
    rw [List.nodup_cons] at nd
    have h : names[i]? = some k := by simpa using h
    have e : n ≠ k := fun z => nd.1 (by rw [z]; exact List.mem_of_getElem? h)
    have e' : (n == k) = false := by simpa using e
    rw [List.idxOf_cons, e', idx_at nd.2 h]
    rfl
theorem right_of {names : List Str} {things : List (Str × Int)} {js js' : List Job} (h : JobsOk names things js) (hl : js.length = names.length) (nd : names.Nodup) (ne : names ≠ []) (few : names.length ≤ 8) (tnd : (things.map (·.1)).Nodup) (tfew : things.length ≤ 8) (p : js'.Perm js) : Right ⟨things, js'⟩ := by
  have hn : js.map Job.name = names := by rw [h.names (by omega), hl, List.take_length]
  have pn : (js'.map Job.name).Perm names := by rw [← hn]; exact p.map _
  have at_ : ∀ j ∈ js', ∃ i, JobOk names things i j := fun j hj => by
    obtain ⟨i, hi⟩ := List.mem_iff_getElem?.mp (p.mem_iff.mp hj)
    exact ⟨i, h i j hi⟩
  refine ⟨pn.nodup_iff.mpr nd, fun z => ne ?_, ?_, fun j hj k hk => ?_, ⟨fun n => names.idxOf n, fun j hj k hk => ?_⟩, fun j hj => ?_, fun j hj => ?_, fun j hj => ?_, fun j hj => ?_, tnd, tfew, fun j hj => ?_, fun j hj => ?_⟩
  · have z : js' = [] := z
    subst z
    exact List.nil_perm.mp pn
  · have := pn.length_eq
    rw [List.length_map] at this; show js'.length ≤ 8; omega
  · obtain ⟨i, o⟩ := at_ j hj
    exact pn.mem_iff.mpr (List.mem_of_mem_take (o.nds k hk))
  · obtain ⟨i, o⟩ := at_ j hj
    show names.idxOf k < names.idxOf j.name
    rw [idx_at nd o.nm]; exact idx_take (o.nds k hk)
  · obtain ⟨i, o⟩ := at_ j hj; exact o.nfew
  · obtain ⟨i, o⟩ := at_ j hj; exact o.ufew
  · obtain ⟨i, o⟩ := at_ j hj; exact o.und
  · obtain ⟨i, o⟩ := at_ j hj; exact o.uok
  · obtain ⟨i, o⟩ := at_ j hj; exact o.lpos
  · obtain ⟨i, o⟩ := at_ j hj; exact o.snn
/-- what a filtering draw leaves: some of the things, in their order -/
theorem fmi_some {β : Type} (b : β) (os : List (Option β)) : (some b :: os).filterMap id = b :: os.filterMap id := rfl
theorem fmi_none {β : Type} (os : List (Option β)) : ((none : Option β) :: os).filterMap id = os.filterMap id := rfl
theorem opts_sub {α β : Type} {R : α → Option β → Prop} {f : α → Str} {g : β → Str} (hR : ∀ x b, R x (some b) → g b = f x) : ∀ {xs : List α} {os : List (Option β)}, Paired R xs os → List.Sublist ((os.filterMap id).map g) (xs.map f)
  | _, _, .nil => List.Sublist.slnil
  | _, _, .cons (a := x) (b := o) h t => by
    cases o with
    | none => exact (opts_sub hR t).cons _
    | some b =>
      rw [fmi_some, List.map_cons, List.map_cons, hR x b h]
      exact (opts_sub hR t).cons_cons _
theorem opts_mem {α β : Type} {R : α → Option β → Prop} {b : β} : ∀ {xs : List α} {os : List (Option β)}, Paired R xs os → b ∈ os.filterMap id → ∃ x ∈ xs, R x (some b)
  | _, _, .nil, h => by simp at h
  | _, _, .cons (a := x) (b := o) h t, hb => by
    cases o with
    | none =>
      rw [fmi_none] at hb
      obtain ⟨y, h1, h2⟩ := opts_mem t hb
      exact ⟨y, List.mem_cons_of_mem _ h1, h2⟩
    | some c =>
      rw [fmi_some] at hb
      rcases List.mem_cons.mp hb with e | hb
      · exact ⟨x, List.mem_cons_self, by rw [e]; exact h⟩
      · obtain ⟨y, h1, h2⟩ := opts_mem t hb
        exact ⟨y, List.mem_cons_of_mem _ h1, h2⟩
theorem opts_len {α β : Type} {R : α → Option β → Prop} : ∀ {xs : List α} {os : List (Option β)}, Paired R xs os → (os.filterMap id).length ≤ xs.length
  | _, _, .nil => Nat.le_refl _
  | _, _, .cons (b := o) h t => by
    have := opts_len t
    cases o with
    | none => rw [fmi_none, List.length_cons]; omega
    | some c => rw [fmi_some, List.length_cons, List.length_cons]; omega
end K45
set_option Elab.async false
set_option linter.all false
set_option maxRecDepth 100000
set_option maxHeartbeats 4000000
namespace K45
open PySem PySem.Spec PyProof.Rows L2 LamX
/-- a comprehension with draws in it: what is drawn for each item (or nothing), as Val lays it -/
theorem lc_draw {α β : Type} {J : It} {n : Nat} {G : Hp → Prop} {Y : Nat → Hp → V → Hp → Prop} (w : Walk J n G Y) {gt : TG} {tt : TT} {te : TE} {vs : List Nat} {σ : L2.St} {H1 : Hp} {D src cl : Addr} {Qd : Hp → Prop} (xs : List α) (R : α → Option β → Prop) (Val : Hp → V → β → Prop)
    (stay : ∀ H H' v b, TupS H H' → Val H v b → Val H' v b) (hs0 : SrcAt H1 src cl) (nD : H1 D = none) (hn : n = xs.length) (hz : xs.length ≤ 1000) (hG : ∀ H, Mv src cl H1 H → G H)
    (hs : ∀ (i : Nat) (x : α) (v : V) (H H' : Hp) (Kt : V → Hp → Prop) (Kf : Hp → Prop), xs[i]? = some x → Mv src cl H1 H → SrcAt H src cl → Y i H v H' → (∀ b y H4, R x (some b) → Mv src cl H H4 → Val H4 y b → Kt y H4) → (∀ H4, R x none → Mv src cl H H4 → Kf H4) →
      gt v (wipe σ vs) H' fun σ2 H2 => wipe σ2 vs = wipe σ vs ∧ tt σ2 H2 fun b H3 => if b = true then te σ2 H3 Kt else Kf H3)
    (hd : ∀ (H : Hp) (ys : List V) (os : List (Option β)), Mv src cl H1 H → H D = some (.lst ys) → Paired R xs os → Paired (Val H) ys (os.filterMap id) → Qd H) :
    ∃ W : Nat → Nat → Hp → Prop, (∃ m, W 0 m (upd H1 D (.lst []))) ∧ ∀ i m H, W i m H →
      (J.stop i H ∧ Qd H) ∨ (J.go i H ∧ ∃ Nx : Hp → Prop, (∀ H', Nx H' → ∃ m', m' < m ∧ W (i + 1) m' H') ∧ ∀ x H', J.yld i H x H' → gt x (wipe σ vs) H' fun σ2 H2 => wipe σ2 vs = wipe σ vs ∧ tt σ2 H2 fun b H3 =>
        if b = true then te σ2 H3 fun y H4 => ∃ acc, H4 D = some (.lst acc) ∧ acc.length < sizeLine ∧ Nx (upd H4 D (.lst (acc ++ [y]))) else Nx H3) := by
  obtain ⟨d1, d2⟩ := hs0.ne nD
  refine lc_it w (fun i H => Mv src cl H1 H ∧ ∃ (ys : List V) (os : List (Option β)), H D = some (.lst ys) ∧ Paired R (xs.take i) os ∧ Paired (Val H) ys (os.filterMap id)) ⟨(Mv.refl src cl H1).put hs0 nD, [], [], upd_same, .nil, .nil⟩ (fun i H _ h => hG H h.1) (fun i v H H' hi h y => ?_) fun H h => ?_
  · obtain ⟨mv, ys, os, e, hp, hv⟩ := h
    have hx : i < xs.length := by omega
    have hx' : xs[i]? = some xs[i] := List.getElem?_eq_getElem hx
    have lo := pair_len hp
    have ly := pair_len hv
    have lf := opts_len hp
    rw [List.length_take] at lo lf
    have sc := mv.src hs0
    refine hs i xs[i] v H H' _ _ hx' mv sc y (fun b z H4 hr m4 hz4 => ?_) (fun H4 hr m4 => ?_)
    · have e4 := m4.keep _ _ d1 d2 e
      have ts := m4.tupS sc
      have ts2 := tupS_put (v := .lst (ys ++ [z])) e4 (fun _ z => nomatch z) fun _ _ z => nomatch z
      refine ⟨ys, e4, small (by omega), (mv.trans m4).put hs0 nD, ys ++ [z], os ++ [some b], upd_same, by rw [take_snoc hx']; exact pair_snoc hr hp, ?_⟩
      rw [List.filterMap_append]
      exact pair_snoc (stay _ _ _ _ ts2 hz4) (pair_mono hv fun a c h => stay _ _ _ _ ts2 (stay _ _ _ _ ts h))
    · refine ⟨mv.trans m4, ys, os ++ [none], m4.keep _ _ d1 d2 e, by rw [take_snoc hx']; exact pair_snoc hr hp, ?_⟩
      rw [List.filterMap_append]
      simp only [List.filterMap_cons, List.filterMap_nil, id, List.append_nil]
      exact pair_mono hv fun a c h => stay _ _ _ _ (m4.tupS sc) h
  · obtain ⟨mv, ys, os, e, hp, hv⟩ := h
    rw [hn, List.take_length] at hp
    exact hd H ys os mv e hp hv
def ValT {β : Type} (c : β → List V) : Hp → V → β → Prop := fun H v b => ∃ a, v = .ref a ∧ H a = some (.tup (c b))
theorem ValT.stay {β : Type} {c : β → List V} (H H' : Hp) (v : V) (b : β) (t : TupS H H') (h : ValT c H v b) : ValT c H' v b := let ⟨a, e, h⟩ := h; ⟨a, e, t.tup _ _ h⟩
theorem valT_refs {β : Type} {c : β → List V} {H : Hp} : ∀ {ys : List V} {bs : List β}, Paired (ValT c H) ys bs → ∃ as : List Addr, ys = as.map V.ref ∧ Paired (fun a b => H a = some (.tup (c b))) as bs
  | _, _, .nil => ⟨[], rfl, .nil⟩
  | _, _, .cons h t => by
    obtain ⟨a, rfl, h⟩ := h
    obtain ⟨as, rfl, h2⟩ := valT_refs t
    exact ⟨a :: as, rfl, .cons h h2⟩
def ValS : Hp → V → Str → Prop := fun _ v b => v = .str b
theorem valS_strs {H : Hp} : ∀ {ys : List V} {bs : List Str}, Paired (ValS H) ys bs → ys = bs.map V.str
  | _, _, .nil => rfl
  | _, _, .cons h t => by rw [List.map_cons, ← valS_strs t]; congr 1
abbrev sBook : Stmt := topS 33
abbrev nBook : List Str := ["_law_source", "_law_most", "_law_names", "_law_things", "_law_jobs_here", "_law_j", "_law_name", "_law_needs_here", "_law_uses", "_law_mode", "_law_command", "_law_start", "_law_length", "_law_tries", "_law_urgency", "_law_thing", "_law_one", "_law_units"]
theorem scBook : FnScope nBook ["_law_source", "_law_most"] (defScope sBook) := ⟨rfl, rfl, rfl, by decide +kernel, rfl, by decide +kernel, by decide +kernel⟩
def spBook : Sp := fun vs H Q _ => ∃ (src cl : Addr), vs = [.ref src, .int 6] ∧ SrcAt H src cl ∧ ∀ (H' : Hp) (b : Addr) (B : Bk), Mv src cl H H' → BookAt H' b B → (∀ q ∈ B.things, 0 ≤ q.2) → Q (.ref b) H'
def lettersL : List Str := ["a", "b", "ca", "d", "eb", "f", "g", "hab"]
def twoL : List Str := ["x", "y"]
def modesL : List V := [.str "all", .str "all", .str "ended"]
def startsL : List Int := [0, 0, 0, 1, 2, 5]
theorem letters_nd : lettersL.Nodup := by decide +kernel
theorem letters_ok : ∀ n ∈ lettersL, (PyData.str n).canLay0 = true := by decide +kernel
theorem two_nd : twoL.Nodup := by decide +kernel
theorem starts_nn : ∀ z ∈ startsL, 0 ≤ z := by decide +kernel
theorem cut_take (xs : List V) (k : Int) (h : 0 ≤ k) : cutV xs none (some k) = xs.take k.toNat := by
  obtain ⟨n, rfl⟩ := Int.eq_ofNat_of_zero_le h
  unfold cutV
  rw [HT.sIx_nat, HT.sIx_none, List.drop_zero, Nat.sub_zero, Int.toNat_natCast]
  by_cases hl : n ≤ xs.length
  · rw [Nat.min_eq_left hl]
  · rw [Nat.min_eq_right (by omega), List.take_length, List.take_of_length_le (by omega)]
theorem perm_map_inv {α β : Type} {f : α → β} {l l' : List β} (h : l.Perm l') : ∀ zs : List α, l' = zs.map f → ∃ ys : List α, ys.Perm zs ∧ l = ys.map f := by
  induction h with
  | nil => intro zs e; exact ⟨zs, .refl _, e⟩
  | cons x h ih =>
    intro zs e
    cases zs with
    | nil => cases e
    | cons z zs =>
      rw [List.map_cons] at e
      injection e with e1 e2
      obtain ⟨ys, p, e3⟩ := ih zs e2
      exact ⟨z :: ys, p.cons z, by rw [List.map_cons, e3, e1]⟩
  | swap x y l =>
    intro zs e
    match zs, e with
    | z1 :: z2 :: zs, e =>
      rw [List.map_cons, List.map_cons] at e
      injection e with e1 e2
      injection e2 with e2 e3
      exact ⟨z2 :: z1 :: zs, List.Perm.swap _ _ _, by rw [List.map_cons, List.map_cons, e1, e2, e3]⟩
  | trans h1 h2 ih1 ih2 =>
    intro zs e
    obtain ⟨ys, p, e2⟩ := ih2 zs e
    obtain ⟨xs, p2, e3⟩ := ih1 ys e2
    exact ⟨xs, p2.trans p, e3⟩
theorem pair_zip {α β : Type} {F : α → β → Prop} : ∀ {xs : List α} {ys : List β}, Paired F xs ys → (xs.zip ys).map (·.1) = xs ∧ (xs.zip ys).map (·.2) = ys ∧ ∀ p ∈ xs.zip ys, F p.1 p.2
  | _, _, .nil => ⟨rfl, rfl, fun _ h => nomatch h⟩
  | _, _, .cons h t => by
    obtain ⟨a, b, c⟩ := pair_zip t
    refine ⟨by rw [List.zip_cons_cons, List.map_cons, a], by rw [List.zip_cons_cons, List.map_cons, b], fun p hp => ?_⟩
    rw [List.zip_cons_cons] at hp
    rcases List.mem_cons.mp hp with rfl | hp
    · exact h
    · exact c p hp
theorem pair_of {α β : Type} {F : α → β → Prop} : ∀ (zs : List (α × β)), (∀ p ∈ zs, F p.1 p.2) → Paired F (zs.map (·.1)) (zs.map (·.2))
  | [], _ => .nil
  | z :: zs, h => .cons (h z List.mem_cons_self) (pair_of zs fun p hp => h p (List.mem_cons_of_mem _ hp))
theorem nd_fst {H : Hp} : ∀ {zs : List (Addr × Job)}, (∀ p ∈ zs, JobAt H p.1 p.2) → (zs.map fun p => p.2.name).Nodup → (zs.map (·.1)).Nodup
  | [], _, _ => List.nodup_nil
  | z :: zs, h, nd => by
    rw [List.map_cons, List.nodup_cons] at nd ⊢
    refine ⟨fun m => nd.1 ?_, nd_fst (fun p hp => h p (List.mem_cons_of_mem _ hp)) nd.2⟩
    obtain ⟨p, hp, e⟩ := List.mem_map.mp m
    refine List.mem_map.mpr ⟨p, hp, ?_⟩
    obtain ⟨n, u, mode, cmd, tries, e1, _⟩ := (h p (List.mem_cons_of_mem _ hp)).ex
    obtain ⟨n', u', mode', cmd', tries', e2, _⟩ := (h z List.mem_cons_self).ex
    have e : p.1 = z.1 := e
    rw [e, e2] at e1
    have e3 := HO.tup.inj (Option.some.inj e1)
    injection e3 with e4
    exact (V.str.inj e4).symm
/-- the heap's part of the loop over the names -/
structure BkPt (src cl nl jl th : Addr) (names : List Str) (things : List (Str × Int)) (H H2 : Hp) (as : List Addr) (js : List Job) : Prop where
  mv : Mv src cl H H2
  nl : H2 nl = some (.lst (names.map V.str))
  jl : H2 jl = some (.lst (as.map V.ref))
  th : PrsAt H2 th things
  jb : Paired (JobAt H2) as js
  ok : JobsOk names things js
theorem BkPt.move {src cl nl jl th : Addr} {names : List Str} {things : List (Str × Int)} {H H2 H3 : Hp} {as : List Addr} {js : List Job} (hs : SrcAt H src cl) (n1 : H nl = none) (n2 : H jl = none) (b : BkPt src cl nl jl th names things H H2 as js) (m : Mv src cl H2 H3) : BkPt src cl nl jl th names things H H3 as js := by
  obtain ⟨a1, a2⟩ := hs.ne n1
  obtain ⟨b1, b2⟩ := hs.ne n2
  have ts := m.tupS (b.mv.src hs)
  exact ⟨b.mv.trans m, m.keep _ _ a1 a2 b.nl, m.keep _ _ b1 b2 b.jl, b.th.mono ts, pair_mono b.jb fun a j h => h.mono ts, b.ok⟩
section
variable {P : Program} {w : World} {K : PySem.W.Frag} {mg : Str → Option Value} {base : Heap}
theorem ok_book (d : Def K mg "_law_draw_book" sBook ["_law_source", "_law_most"]) (cP : Has P w K mg base "_law_pick" ["_law_source", "_law_most"] 1 spPick) (cA : Has P w K mg base "_law_any_order" ["_law_source", "_law_things"] 2 spAny) (cC : Has P w K mg base "_law_draw_command" ["_law_source", "_law_needs_here", "_law_depth"] 5 (spCmd 2))
    (m1 : mg "tuple" = none) (m2 : mg "enumerate" = none) (m3 : mg "sorted" = none) : Has P w K mg base "_law_draw_book" ["_law_source", "_law_most"] 6 spBook := d.has fun f fd F => by
  refine F.ok scBook (fun vs H Q E h => ?_) (fun cdv A outer s H vs Q E hr h => ?_)
  · obtain ⟨src, cl, rfl, _⟩ := h; rfl
  · obtain ⟨src, cl, rfl, hs, q⟩ := h
    have hr1 := hr.mono (show 1 ≤ 5 by decide)
    have hr2 := hr.mono (show 2 ≤ 5 by decide)
    refine ⟨_, pss_cons (ps_set (i := 2) scBook.nd rfl (Or.inl rfl) (pe_slice (r := rSlL K) sl_list (pe_has cA hr2 (pa_cons (pv 0) (pa_cons (pe_lst (pa_cons pe_str (pa_cons pe_str (pa_cons pe_str (pa_cons pe_str (pa_cons pe_str (pa_cons pe_str (pa_cons pe_str (pa_cons pe_str pa_nil))))))))) pa_nil))) po_none (po_some (pe_op op_add pe_int (pe_has cP hr1 (pa_cons (pv 0) (pa_cons (pv 1) pa_nil)))))))
      (pss_cons (ps_par (i := 3) (j := 4) rfl scBook.nd rfl rfl (by decide) rfl rfl (pa_cons (pe_callTy call_tuple_frz (by rfl) m1 (by decide +kernel) (pa_cons (pe_lc (own := [("_law_thing", 15)]) (g := gName 15) (tt := tYes) rfl scBook.nd (pi_list (pe_slice (r := rSlL K) sl_list (pe_lst (pa_cons pe_str (pa_cons pe_str pa_nil))) po_none (po_some (pe_has cP hr1 (pa_cons (pv 0) (pa_cons pe_int pa_nil)))))) (blkOk_by (own := [("_law_thing", 15)]) (N := nBook) (sc := defScope sBook) (by decide +kernel))
            (fun _ _ _ _ _ => pg_name (i := 15) scBook.nd rfl (Or.inl rfl)) (fun _ _ _ _ _ => pts_nil) (fun _ _ _ _ _ => pe_tup (pa_cons (pv 15) (pa_cons (pe_has cP hr1 (pa_cons (pv 0) (pa_cons pe_int pa_nil))) pa_nil)))) pa_nil)) (pa_cons (pe_lst pa_nil) pa_nil)) rfl)
      (pss_cons (ps_for PassesOwn.never rfl (pi_enum (by rfl) m2 (pa_cons (pv 2) pa_nil)) (pg_tup rfl (pgs_cons (pg_name (i := 5) scBook.nd rfl (Or.inl rfl)) (pgs_cons (pg_name (i := 6) scBook.nd rfl (Or.inl rfl)) pgs_nil)))
        (pss_cons (ps_set (i := 7) scBook.nd rfl (Or.inl rfl) (pe_callTy call_tuple_of (by rfl) m1 (by decide +kernel) (pa_cons (pe_callB (id := "sorted") (r := rSortedS K) cr_sortedS (by rfl) m3 (by decide +kernel) (pa_cons (pe_lc (own := [("_law_one", 16)]) (g := gName 16) rfl scBook.nd (pi_list (pe_slice (r := rSlL K) sl_list (pv 2) po_none (po_some (pv 5)))) (blkOk_by (own := [("_law_one", 16)]) (N := nBook) (sc := defScope sBook) (by decide +kernel))
            (fun _ _ _ _ _ => pg_name (i := 16) scBook.nd rfl (Or.inl rfl)) (fun _ _ _ _ _ => pts_one (pt_cmpR op_eq (pe_has cP hr1 (pa_cons (pv 0) (pa_cons pe_int pa_nil))) pe_int (nomark _))) (fun _ _ _ _ _ => pv 16)) pa_nil)) pa_nil)))
        (pss_cons (ps_setLc (i := 8) (own := [("_law_thing", 15), ("_law_units", 17)]) (g := gTup K 2 (gCons (gName 15) (gCons (gName 17) gNil))) rfl scBook.nd rfl rfl rfl (pi_tup (pv 3)) (blkOk_by (own := [("_law_thing", 15), ("_law_units", 17)]) (N := nBook) (sc := defScope sBook) (by decide +kernel))
            (fun _ _ _ _ _ => pg_tup rfl (pgs_cons (pg_name (i := 15) scBook.nd rfl (Or.inl rfl)) (pgs_cons (pg_name (i := 17) scBook.nd rfl (Or.inl rfl)) pgs_nil))) (fun _ _ _ _ _ => pts_one (pw_and (pt_cmpR op_gt (pv 17) pe_int (nomark _)) (pw_and1 (pt_cmpR op_eq (pe_has cP hr1 (pa_cons (pv 0) (pa_cons pe_int pa_nil))) pe_int (nomark _)))).pt) (fun _ _ _ _ _ => pe_tup (pa_cons (pv 15) (pa_cons (pv 17) pa_nil))))
        (pss_cons (ps_set (i := 8) scBook.nd rfl (Or.inl rfl) (pe_callTy call_tuple_frz (by rfl) m1 (by decide +kernel) (pa_cons (pe_lc (own := [("_law_thing", 15), ("_law_units", 17)]) (g := gTup K 2 (gCons (gName 15) (gCons (gName 17) gNil))) (tt := tYes) rfl scBook.nd (pi_list (pv 8)) (blkOk_by (own := [("_law_thing", 15), ("_law_units", 17)]) (N := nBook) (sc := defScope sBook) (by decide +kernel))
            (fun _ _ _ _ _ => pg_tup rfl (pgs_cons (pg_name (i := 15) scBook.nd rfl (Or.inl rfl)) (pgs_cons (pg_name (i := 17) scBook.nd rfl (Or.inl rfl)) pgs_nil))) (fun _ _ _ _ _ => pts_nil) (fun _ _ _ _ _ => pe_tup (pa_cons (pv 15) (pa_cons (pe_op op_add pe_int (pe_has cP hr1 (pa_cons (pv 0) (pa_cons (pv 17) pa_nil)))) pa_nil)))) pa_nil)))
        (pss_cons (ps_set (i := 9) scBook.nd rfl (Or.inl rfl) (pe_ix (r := rIxL K) ix_list (pe_lst (pa_cons pe_str (pa_cons pe_str (pa_cons pe_str pa_nil)))) (pe_has cP hr1 (pa_cons (pv 0) (pa_cons pe_int pa_nil))) (fun _ _ => rfl)))
        (pss_cons (ps_set (i := 10) scBook.nd rfl (Or.inl rfl) (pe_has cC hr (pa_cons (pv 0) (pa_cons (pv 7) (pa_cons pe_int pa_nil)))))
        (pss_cons (ps_set (i := 11) scBook.nd rfl (Or.inl rfl) (pe_ix (r := rIxL K) ix_list (pe_lst (pa_cons pe_int (pa_cons pe_int (pa_cons pe_int (pa_cons pe_int (pa_cons pe_int (pa_cons pe_int pa_nil))))))) (pe_has cP hr1 (pa_cons (pv 0) (pa_cons pe_int pa_nil))) (fun _ _ => rfl)))
        (pss_cons (ps_par3 (i := 12) (j := 13) (l := 14) rfl scBook.nd rfl rfl rfl (by decide) (by decide) (by decide) rfl rfl rfl (pa_cons (pe_op op_add pe_int (pe_has cP hr1 (pa_cons (pv 0) (pa_cons pe_int pa_nil)))) (pa_cons (pe_op op_add pe_int (pe_has cP hr1 (pa_cons (pv 0) (pa_cons pe_int pa_nil)))) (pa_cons (pe_op op_sub (pe_has cP hr1 (pa_cons (pv 0) (pa_cons pe_int pa_nil))) pe_int) pa_nil))) rfl)
        (pss_one (ps_expr (pe_bm PySem.F.plainAttrs_list PySem.F.slot_list_append PySem.F.type_list_append mt_append (pv 4) (pa_cons (pe_tup (pa_cons (pv 6) (pa_cons (pv 9) (pa_cons (pv 7) (pa_cons (pv 10) (pa_cons (pv 8) (pa_cons (pv 12) (pa_cons (pv 13) (pa_cons (pv 11) (pa_cons (pv 14) pa_nil)))))))))) pa_nil))))))))))))
      (pss_one (ps_ret (pe_tup (pa_cons (pv 3) (pa_cons (pe_callTy call_tuple_of (by rfl) m1 (by decide +kernel) (pa_cons (pe_callB (id := "sorted") (r := rSortNm K) cr_sortNm (by rfl) m3 (by decide +kernel) (pa_cons (pv 4) pa_nil)) pa_nil)) pa_nil))))))), ?_⟩
    refine ⟨.ref src, rfl, (by show 8 ≤ sizeLine; decide), fun l0 nl0 => ?_⟩
    refine ⟨src, cl, l0, lettersL, rfl, hs.same (same_new nl0), upd_same, by decide, fun H1 p0 ys mv1 hp0 np0 hperm => ?_⟩
    have mv1 := (Mv.of (src := src) (cl := cl) (same_new nl0)).trans mv1
    obtain ⟨p1, p2⟩ := (hs.same (same_new nl0)).ne np0
    refine ⟨.ref src, rfl, .int 6, rfl, src, cl, 6, rfl, mv1.src hs, by decide, fun H2 v mv2 h0 hv => ?_⟩
    have hv6 : v < 6 := by rcases hv with h | h <;> omega
    have mv2' := mv1.trans mv2
    refine ⟨1, v, rfl, rfl, 1 + v, rfl, p0, _, rfl, SqL.of (mv2.keep _ _ p1 p2 hp0), fun nl nnl => ?_⟩
    have ys8 : ys.length = 8 := hperm.length_eq
    rw [cut_take _ _ (by omega), ← List.map_take]
    generalize hnames : ys.take (1 + v).toNat = names
    have nnd : names.Nodup := by rw [← hnames]; exact (List.take_sublist _ _).nodup (hperm.nodup_iff.mpr letters_nd)
    have nmem : ∀ n ∈ names, n ∈ lettersL := fun n hn => by rw [← hnames] at hn; exact hperm.mem_iff.mp (List.mem_of_mem_take hn)
    have nlen : names.length = (1 + v).toNat := by rw [← hnames, List.length_take]; omega
    have nne : names ≠ [] := fun z => by rw [z] at nlen; simp at nlen; omega
    have nlH : H nl = none := mv2'.free hs nnl
    obtain ⟨nl1, nl2⟩ := hs.ne nlH
    have mv3 := mv2'.same (same_new (o := .lst (names.map V.str)) nnl)
    have hnl : upd H2 nl (.lst (names.map V.str)) nl = some (.lst (names.map V.str)) := upd_same
    generalize upd H2 nl (.lst (names.map V.str)) = H3 at mv3 hnl
    -- the things
    refine ⟨(by show 2 ≤ sizeLine; decide), fun lx nlx => ?_⟩
    have sc3 := mv3.src hs
    obtain ⟨x1, x2⟩ := sc3.ne nlx
    refine ⟨.ref src, rfl, src, cl, 3, rfl, sc3.same (same_new nlx), by decide, fun H4 v3 mv4 h03 hv3 => ?_⟩
    have hlx : H4 lx = some (.lst (twoL.map V.str)) := mv4.keep _ _ x1 x2 upd_same
    have m34 := (Mv.of (src := src) (cl := cl) (same_new nlx)).trans mv4
    have mv4 := mv3.trans m34
    have hnl := m34.keep _ _ nl1 nl2 hnl
    have sc4 := mv4.src hs
    refine ⟨v3, rfl, lx, _, rfl, SqL.of hlx, fun lt nlt => ?_⟩
    rw [cut_take _ _ h03, ← List.map_take]
    generalize htn : twoL.take v3.toNat = tn
    have tnd : tn.Nodup := by rw [← htn]; exact (List.take_sublist _ _).nodup two_nd
    have tnl : tn.length ≤ 2 := by rw [← htn, List.length_take]; exact Nat.min_le_right _ _
    have m45 := Mv.of (src := src) (cl := cl) (same_new (o := .lst (tn.map V.str)) nlt)
    have hlt : upd H4 lt (.lst (tn.map V.str)) lt = some (.lst (tn.map V.str)) := upd_same
    have mv5 := mv4.trans m45
    have hnl := m45.keep _ _ nl1 nl2 hnl
    have sc5 := mv5.src hs
    have ltH : H lt = none := mv4.free hs nlt
    obtain ⟨lt1, lt2⟩ := hs.ne ltH
    generalize upd H4 lt (.lst (tn.map V.str)) = H5 at hlt mv5 hnl sc5 m45
    refine ⟨lt, rfl, ⟨_, SqL.of hlt⟩, fun D nD => ?_⟩
    refine lc_draw (src := src) (cl := cl) (walk_list (xs := tn.map V.str)) tn (fun x o => ∃ v, o = some (x, v) ∧ 0 ≤ v ∧ v ≤ 1000) (ValT prI) (ValT.stay (c := prI)) sc5 nD (List.length_map _) (by omega) (fun H7 m => SqL.of (m.keep _ _ lt1 lt2 hlt)) (fun i x v H7 H7' Kt Kf hi m sc y kt kf => ?_) (fun H6 ys6 os m56 hD6 hpr hval => ?_)
    · obtain ⟨rfl, hv⟩ := y
      rw [List.getElem?_map, hi] at hv; cases hv
      refine ⟨rfl, .str x, rfl, .ref src, rfl, src, cl, 4, rfl, sc, by decide, fun H8 v8 m8 h08 hv8 => ⟨(by show 2 ≤ sizeLine; decide), fun p np => kt (x, v8) (.ref p) _ ⟨v8, rfl, h08, by rcases hv8 with h | h <;> omega⟩ (m8.same (same_new np)) ⟨p, rfl, upd_same⟩⟩⟩
    obtain ⟨tas, rfl, htp⟩ := valT_refs hval
    generalize hthg : os.filterMap id = things at htp
    have thsub : List.Sublist (things.map (·.1)) (tn.map id) := by rw [← hthg]; exact opts_sub (fun x b h => by obtain ⟨v, e, _⟩ := h; cases e; rfl) hpr
    rw [List.map_id] at thsub
    have thnd : (things.map (·.1)).Nodup := thsub.nodup tnd
    have thl : things.length ≤ 2 := by have := thsub.length_le; rw [List.length_map] at this; omega
    have thv : ∀ q ∈ things, 0 ≤ q.2 ∧ q.2 ≤ 1000 := fun q hq => by
      rw [← hthg] at hq
      obtain ⟨x, _, v, e, h⟩ := opts_mem hpr hq
      cases e; exact h
    have mv6 := mv5.trans m56
    have hnl := m56.keep _ _ nl1 nl2 hnl
    refine ⟨D, _, rfl, SqL.of hD6, fun th ob nth hob => ⟨Nat.zero_le _, fun jl njl => ?_⟩⟩
    have s67 := (same_new (o := .frz ob (.tup (tas.map V.ref))) nth).trans (same_new (o := .lst []) njl)
    have m67 := Mv.of (src := src) (cl := cl) s67
    have mv7 := mv6.trans m67
    have hnl := m67.keep _ _ nl1 nl2 hnl
    have jlH : H jl = none := (mv6.same (same_new (o := .frz ob (.tup (tas.map V.ref))) nth)).free hs njl
    obtain ⟨jl1, jl2⟩ := hs.ne jlH
    have hjl : upd (upd H6 th (.frz ob (.tup (tas.map V.ref)))) jl (.lst []) jl = some (.lst ((([] : List Addr)).map V.ref)) := upd_same
    have hth : PrsAt (upd (upd H6 th (.frz ob (.tup (tas.map V.ref)))) jl (.lst [])) th things :=
      ⟨tas, ⟨ob, same_new njl _ _ upd_same, hob⟩, pair_mono htp fun a c h => s67 _ _ h⟩
    generalize upd (upd H6 th (.frz ob (.tup (tas.map V.ref)))) jl (.lst []) = H7 at mv7 hnl hjl hth
    have hnj : nl ≠ jl := fun z => by
      rw [z, hjl] at hnl
      have := HO.lst.inj (Option.some.inj hnl)
      exact nne (List.map_eq_nil_iff.mp this.symm)
    clear hval hpr hD6 m67 s67 njl nth m56 mv6 hlt m45 mv5 nlt hlx nlx m34 mv4 mv3 mv2' mv2 mv1 nl0 nnl hp0 np0
    refine ⟨_, _, rfl, ?_⟩
    refine ⟨.ref nl, rfl, nl, _, rfl, SqL.of hnl, ?_⟩
    refine for_it (walk_enum (xs := names.map V.str)) (fun i σ2 H2 => ∃ (as : List Addr) (js : List Job) (z5 z6 z7 z8 z9 z10 z11 z12 z13 z14 : Option V), σ2 = [some (.ref src), some (.int 6), some (.ref nl), some (.ref th), some (.ref jl), z5, z6, z7, z8, z9, z10, z11, z12, z13, z14, none, none, none] ∧ BkPt src cl nl jl th names things H H2 as js ∧ js.length = i)
      ⟨[], [], none, none, none, none, none, none, none, none, none, none, rfl, ⟨mv7, hnl, hjl, hth, .nil, fun i j h => (by simp at h)⟩, rfl⟩ (fun i σ2 H2 _ h => ?_) (fun i xv σ2 H2 H2' hi h y => ?_) (fun σ2 H2 h => ?_)
    · obtain ⟨_, _, _, _, _, _, _, _, _, _, _, _, _, h, _⟩ := h
      exact SqL.of h.nl
    · clear mv7 hnl hjl hth
      obtain ⟨as, js, z5, z6, z7, z8, z9, z10, z11, z12, z13, z14, rfl, bk, hjs⟩ := h
      obtain ⟨Tt, x1, x2, rfl, nT, rfl, e1, e2⟩ := y
      cases e1
      have hi' : i < names.length := by rw [List.length_map] at hi; exact hi
      have hln : names[i]? = some names[i] := List.getElem?_eq_getElem hi'
      have e2 : (names.map V.str)[i]? = some x2 := e2
      rw [List.getElem?_map, hln] at e2; cases e2
      generalize names[i] = x at hln
      have bk := bk.move hs nlH jlH (.of (same_new (o := .tup [.int (i : Nat), .str x]) nT))
      refine ⟨Tt, [.int (i : Nat), .str x], rfl, SqT.of upd_same, rfl, .int (i : Nat), _, rfl, .str x, [], rfl, rfl, ?_⟩
      generalize upd H2 Tt (.tup [.int (i : Nat), .str x]) = Hs at bk
      clear nT
      -- what it needs
      refine ⟨.ref nl, rfl, .int (i : Nat), rfl, (i : Int), rfl, nl, _, rfl, SqL.of bk.nl, fun lp nlp => ?_⟩
      rw [cut_take _ _ (by omega), ← List.map_take, Int.toNat_natCast]
      obtain ⟨lp1, lp2⟩ := (bk.mv.src hs).ne nlp
      have bk := bk.move hs nlH jlH (.of (same_new (o := .lst ((names.take i).map V.str)) nlp))
      have hlp : upd Hs lp (.lst ((names.take i).map V.str)) lp = some (.lst ((names.take i).map V.str)) := upd_same
      generalize upd Hs lp (.lst ((names.take i).map V.str)) = Ha at bk hlp
      have sca := bk.mv.src hs
      refine ⟨lp, rfl, ⟨_, SqL.of hlp⟩, fun D1 nD1 => ?_⟩
      have til : (names.take i).length ≤ 6 := by rw [List.length_take]; omega
      refine lc_draw (src := src) (cl := cl) (walk_list (xs := (names.take i).map V.str)) (names.take i) (fun x o => o = none ∨ o = some x) ValS (fun _ _ _ _ _ h => h) sca nD1 (List.length_map _) (by omega) (fun H7 m => SqL.of (m.keep _ _ lp1 lp2 hlp)) (fun j y v H7 H7' Kt Kf hj m sc yy kt kf => ?_) (fun Hb ysb os mab hDb hpr hval => ?_)
      · obtain ⟨rfl, hv⟩ := yy
        rw [List.getElem?_map, hj] at hv; cases hv
        refine ⟨rfl, .ref src, rfl, src, cl, 3, rfl, sc, by decide, fun H8 v8 m8 h08 hv8 => ⟨rfl, _, rfl, ite2 (fun _ => ⟨.str y, rfl, kt y _ _ (.inr rfl) m8 rfl⟩) (fun _ => kf _ (.inl rfl) m8)⟩⟩
      have ey := valS_strs hval
      subst ey
      generalize hnsg : os.filterMap id = ns at hDb
      have nsub : ∀ k ∈ ns, k ∈ names.take i := fun k hk => by
        rw [← hnsg] at hk
        obtain ⟨y, hy, h⟩ := opts_mem hpr hk
        rcases h with h | h
        · cases h
        · cases h; exact hy
      have nsl : ns.length ≤ 6 := by rw [← hnsg]; exact Nat.le_trans (opts_len hpr) til
      have bk := bk.move hs nlH jlH mab
      clear hval hpr nD1
      refine ⟨D1, ns, rfl, SqL.of hDb, by omega, fun ns' ps hperm2 _ nps => ⟨ps, _, rfl, .inl ⟨SqL.of upd_same, fun na nna => ?_⟩⟩⟩
      have sbc := (same_new (o := .lst (ns'.map V.str)) nps).trans (same_new (o := .tup (ns'.map V.str)) nna)
      have bk := bk.move hs nlH jlH (.of sbc)
      have hna : TupA (upd (upd Hb ps (.lst (ns'.map V.str))) na (.tup (ns'.map V.str))) na (ns'.map V.str) := TupA.of upd_same
      generalize upd (upd Hb ps (.lst (ns'.map V.str))) na (.tup (ns'.map V.str)) = Hc at bk hna
      clear sbc nna nps hDb mab hlp
      have nsub' : ∀ k ∈ ns', k ∈ names.take i := fun k hk => nsub k (hperm2.mem_iff.mp hk)
      have nsl' : ns'.length ≤ 6 := by rw [hperm2.length_eq]; exact nsl
      -- what it uses
      obtain ⟨tas2, tt1, tt2⟩ := bk.th
      have scc := bk.mv.src hs
      refine ⟨.ref th, rfl, th, rfl, ⟨_, tt1.sq⟩, fun D2 nD2 => ?_⟩
      refine lc_draw (src := src) (cl := cl) (walk_tup (xs := tas2.map V.ref)) things (fun q o => o = none ∨ (o = some q ∧ 0 < q.2)) (ValT prI) (ValT.stay (c := prI)) scc nD2 (by rw [List.length_map, pair_len tt2]) (by omega) (fun H7 m => (tt1.mono (m.tupS scc)).sq) (fun j y v H7 H7' Kt Kf hj m sc yy kt kf => ?_) (fun Hd ysd os2 mcd hDd hpr2 hval2 => ?_)
      · obtain ⟨rfl, hv⟩ := yy
        obtain ⟨ca, hca, hya⟩ := pair_get tt2 hj
        rw [List.getElem?_map, hca] at hv; cases hv
        have hya := (m.tupS scc).tup _ _ hya
        refine ⟨ca, prI y, rfl, SqT.of hya, rfl, .str y.1, _, rfl, .int y.2, [], rfl, rfl, rfl, .int y.2, rfl, y.2, 0, rfl, rfl, _, rfl, ite2 (fun e => ⟨.ref src, rfl, src, cl, 2, rfl, sc, by decide, fun H8 v8 m8 h08 hv8 => ⟨rfl, _, rfl, ite2 (fun _ => ⟨.str y.1, rfl, .int y.2, rfl, (by show 2 ≤ sizeLine; decide), fun p np => kt y (.ref p) _ (.inr ⟨rfl, of_decide_eq_true e⟩) (m8.same (same_new np)) ⟨p, rfl, upd_same⟩⟩) (fun _ => kf _ (.inl rfl) m8)⟩⟩) (fun e => iteF (kf _ (.inl rfl) (.refl _ _ _)))⟩
      obtain ⟨uas, rfl, utp⟩ := valT_refs hval2
      generalize hu1g : os2.filterMap id = u1 at utp
      have u1sub : List.Sublist (u1.map (·.1)) (things.map (·.1)) := by rw [← hu1g]; exact opts_sub (fun x b h => by rcases h with h | ⟨h, _⟩ <;> cases h; rfl) hpr2
      have u1m : ∀ q ∈ u1, q ∈ things ∧ 0 < q.2 := fun q hq => by
        rw [← hu1g] at hq
        obtain ⟨y, hy, h⟩ := opts_mem hpr2 hq
        rcases h with h | ⟨h, h2⟩
        · cases h
        · cases h; exact ⟨hy, h2⟩
      have u1l : u1.length ≤ 2 := by have := u1sub.length_le; rw [List.length_map, List.length_map] at this; omega
      have bk := bk.move hs nlH jlH mcd
      have hna := hna.mono (mcd.tupS scc)
      have scd := bk.mv.src hs
      have D2off : D2 ≠ src ∧ D2 ≠ cl := scc.ne nD2
      clear hval2 hpr2 nD2 mcd
      refine ⟨.ref D2, rfl, D2, rfl, ⟨_, SqL.of hDd⟩, fun D3 nD3 => ?_⟩
      refine lc_draw (src := src) (cl := cl) (walk_list (xs := uas.map V.ref)) u1 (fun q o => ∃ v, o = some (q.1, v) ∧ 1 ≤ v ∧ v ≤ q.2) (ValT prI) (ValT.stay (c := prI)) scd nD3 (by rw [List.length_map, pair_len utp]) (by omega) (fun H7 m => SqL.of (m.keep _ _ D2off.1 D2off.2 hDd)) (fun j y v H7 H7' Kt Kf hj m sc yy kt kf => ?_) (fun He yse os3 mde hDe hpr3 hval3 => ?_)
      · obtain ⟨rfl, hv⟩ := yy
        obtain ⟨ca, hca, hya⟩ := pair_get utp hj
        rw [List.getElem?_map, hca] at hv; cases hv
        have hya := (m.tupS scd).tup _ _ hya
        obtain ⟨ym, y0⟩ := u1m y (List.mem_of_getElem? hj)
        have yb := (thv y ym).2
        refine ⟨ca, prI y, rfl, SqT.of hya, rfl, .str y.1, _, rfl, .int y.2, [], rfl, rfl, rfl, .str y.1, rfl, .ref src, rfl, .int y.2, rfl, src, cl, y.2, rfl, sc, yb, fun H8 v8 m8 h08 hv8 => ⟨1, v8, rfl, rfl, (by show 2 ≤ sizeLine; decide), fun p np => kt (y.1, 1 + v8) (.ref p) _ ⟨1 + v8, rfl, by omega, by rcases hv8 with h | h <;> omega⟩ (m8.same (same_new np)) ⟨p, rfl, upd_same⟩⟩⟩
      obtain ⟨vas, rfl, vtp⟩ := valT_refs hval3
      generalize hu2g : os3.filterMap id = u2 at vtp
      have u2sub : List.Sublist (u2.map (·.1)) (u1.map (·.1)) := by rw [← hu2g]; exact opts_sub (fun x b h => by obtain ⟨v, h, _⟩ := h; cases h; rfl) hpr3
      have u2nd : (u2.map (·.1)).Nodup := (u2sub.trans u1sub).nodup thnd
      have u2l : u2.length ≤ 2 := by have := u2sub.length_le; rw [List.length_map, List.length_map] at this; omega
      have u2ok : ∀ q ∈ u2, 0 ≤ q.2 ∧ ∃ u, lk things q.1 = some u ∧ q.2 ≤ u := fun q hq => by
        rw [← hu2g] at hq
        obtain ⟨y, hy, v, h, h1, h2⟩ := opts_mem hpr3 hq
        cases h
        exact ⟨by show 0 ≤ v; omega, y.2, lk_of_mem thnd (u1m y hy).1, h2⟩
      have bk := bk.move hs nlH jlH mde
      have hna := hna.mono (mde.tupS scd)
      refine ⟨D3, _, rfl, SqL.of hDe, fun ut ub nut hub => ?_⟩
      have sef := same_new (o := .frz ub (.tup (vas.map V.ref))) nut
      have bk := bk.move hs nlH jlH (.of sef)
      have hna := hna.mono (.of sef)
      have hut : PrsAt (upd He ut (.frz ub (.tup (vas.map V.ref)))) ut u2 := ⟨vas, ⟨ub, upd_same, hub⟩, pair_mono vtp fun a c h => sef _ _ h⟩
      generalize upd He ut (.frz ub (.tup (vas.map V.ref))) = Hf at bk hna hut
      clear hval3 hpr3 nD3 mde sef nut hDe hDd utp vtp tt1 tt2
      -- the rest of the job
      have scf := bk.mv.src hs
      refine ⟨(by show 3 ≤ sizeLine; decide), fun lm nlm => ?_⟩
      have lm12 := scf.ne nlm
      refine ⟨.ref src, rfl, src, cl, 3, rfl, scf.same (same_new nlm), by decide, fun Hg vg mfg h0g hvg => ?_⟩
      have hlm : Hg lm = some (.lst modesL) := mfg.keep _ _ lm12.1 lm12.2 upd_same
      have mfg := (Mv.of (src := src) (cl := cl) (same_new nlm)).trans mfg
      have bk := bk.move hs nlH jlH mfg
      have hna := hna.mono (mfg.tupS scf)
      have hut := hut.mono (mfg.tupS scf)
      have hvl : vg.toNat < modesL.length := by show vg.toNat < 3; rcases hvg with h | h <;> omega
      refine ⟨lm, modesL, vg, modesL[vg.toNat], rfl, rfl, SqL.of hlm, at_of (j := vg.toNat) (by omega) (List.getElem?_eq_getElem hvl), ?_⟩
      generalize modesL[vg.toNat] = mode
      clear hlm mfg nlm lm12 hvl h0g hvg
      have scg := bk.mv.src hs
      refine ⟨.ref src, rfl, .ref na, rfl, src, cl, na, ns', 2, rfl, rfl, scg, hna, by omega, fun Hh cmd mgh => ?_⟩
      have bk := bk.move hs nlH jlH mgh
      have hna := hna.mono (mgh.tupS scg)
      have hut := hut.mono (mgh.tupS scg)
      clear mgh scf scg
      have sch := bk.mv.src hs
      refine ⟨(by show 6 ≤ sizeLine; decide), fun lm nlm => ?_⟩
      have lm12 := sch.ne nlm
      refine ⟨.ref src, rfl, src, cl, 6, rfl, sch.same (same_new nlm), by decide, fun Hi vi mhi h0i hvi => ?_⟩
      have hlm : Hi lm = some (.lst (startsL.map V.int)) := mhi.keep _ _ lm12.1 lm12.2 upd_same
      have mhi := (Mv.of (src := src) (cl := cl) (same_new nlm)).trans mhi
      have bk := bk.move hs nlH jlH mhi
      have hna := hna.mono (mhi.tupS sch)
      have hut := hut.mono (mhi.tupS sch)
      have hvl : vi.toNat < startsL.length := by show vi.toNat < 6; rcases hvi with h | h <;> omega
      have hst := starts_nn _ (List.getElem_mem hvl)
      refine ⟨lm, startsL.map V.int, vi, .int startsL[vi.toNat], rfl, rfl, SqL.of hlm, at_of (j := vi.toNat) (by omega) (by rw [List.getElem?_map, List.getElem?_eq_getElem hvl]; rfl), ?_⟩
      generalize startsL[vi.toNat] = st at hst
      clear hlm mhi nlm lm12 hvl h0i hvi sch
      have sci := bk.mv.src hs
      refine ⟨.ref src, rfl, src, cl, 4, rfl, sci, by decide, fun Hj v12 mij h12 _ => ⟨1, v12, rfl, rfl, ?_⟩⟩
      have bk := bk.move hs nlH jlH mij
      have hna := hna.mono (mij.tupS sci)
      have hut := hut.mono (mij.tupS sci)
      clear mij sci
      have scj := bk.mv.src hs
      refine ⟨.ref src, rfl, src, cl, 3, rfl, scj, by decide, fun Hk v13 mjk h13 _ => ⟨1, v13, rfl, rfl, ?_⟩⟩
      have bk := bk.move hs nlH jlH mjk
      have hna := hna.mono (mjk.tupS scj)
      have hut := hut.mono (mjk.tupS scj)
      clear mjk scj
      have sck := bk.mv.src hs
      refine ⟨.ref src, rfl, src, cl, 7, rfl, sck, by decide, fun Hl v14 mkl _ _ => ⟨v14, 3, rfl, rfl, _, _, _, rfl, ?_⟩⟩
      have bk := bk.move hs nlH jlH mkl
      have hna := hna.mono (mkl.tupS sck)
      have hut := hut.mono (mkl.tupS sck)
      clear mkl sck
      refine ⟨.ref jl, rfl, .inl ⟨rfl, _, SqL.of bk.jl⟩, .str x, rfl, mode, rfl, .ref na, rfl, cmd, rfl, .ref ut, rfl, .int (1 + v12), rfl, .int (1 + v13), rfl, .int st, rfl, .int (v14 - 3), rfl, (by show 9 ≤ sizeLine; decide), fun ja nja => ?_⟩
      have slm := same_new (o := .tup [.str x, mode, .ref na, cmd, .ref ut, .int (1 + v12), .int (1 + v13), .int st, .int (v14 - 3)]) nja
      have bk := bk.move hs nlH jlH (.of slm)
      have hja : JobAt (upd Hl ja (.tup [.str x, mode, .ref na, cmd, .ref ut, .int (1 + v12), .int (1 + v13), .int st, .int (v14 - 3)])) ja ⟨x, ns', u2, 1 + v12, st, v14 - 3⟩ :=
        ⟨na, ut, mode, cmd, .int (1 + v13), upd_same, hna.mono (.of slm), hut.mono (.of slm)⟩
      generalize upd Hl ja (.tup [.str x, mode, .ref na, cmd, .ref ut, .int (1 + v12), .int (1 + v13), .int st, .int (v14 - 3)]) = Hm at bk hja
      have asl : as.length = i := by rw [pair_len bk.jb, hjs]
      refine ⟨jl, _, .ref ja, rfl, rfl, bk.jl, small (by rw [List.length_map]; omega), ?_⟩
      have ts := tupS_put (v := .lst (as.map V.ref ++ [.ref ja])) bk.jl (fun _ z => nomatch z) fun _ _ z => nomatch z
      refine ⟨as ++ [ja], js ++ [⟨x, ns', u2, 1 + v12, st, v14 - 3⟩], _, _, _, _, _, _, _, _, _, _, rfl, ⟨bk.mv.put hs jlH, by rw [upd_ne hnj]; exact bk.nl, by rw [upd_same, List.map_append]; rfl, bk.th.mono ts, pair_snoc (hja.mono ts) (pair_mono bk.jb fun a j h => h.mono ts), bk.ok.snoc ?_⟩, by rw [List.length_append, hjs]; rfl⟩
      rw [hjs]
      exact ⟨hln, nsub', by show ns'.length ≤ 8; omega, by show u2.length ≤ 8; omega, u2nd, u2ok, by show 1 ≤ 1 + v12; omega, hst⟩
    · clear mv7 hnl hjl hth
      obtain ⟨as, js, z5, z6, z7, z8, z9, z10, z11, z12, z13, z14, rfl, bk, hjs⟩ := h
      rw [List.length_map] at hjs
      have hnm : js.map Job.name = names := by rw [bk.ok.names (by omega), hjs, List.take_length]
      obtain ⟨q1, q2, q3⟩ := pair_zip bk.jb
      generalize as.zip js = zj at q1 q2 q3
      have nd2 : (zj.map fun p => p.2.name).Nodup := by
        have : (zj.map fun p => p.2.name) = (zj.map (·.2)).map Job.name := by rw [List.map_map]; rfl
        rw [this, q2, hnm]; exact nnd
      have zl : zj.length ≤ 8 := by have := congrArg List.length q2; rw [List.length_map] at this; omega
      refine ⟨.ref th, rfl, .ref jl, rfl, jl, zj.map (fun p => (p.1, p.2.name)), rfl, ?_, fun z hz => ?_, ?_, ?_, by rw [List.length_map]; omega, fun ys l hperm2 hpw nl' => ?_⟩
      · have : (zj.map fun p => (p.1, p.2.name)).map (fun z => V.ref z.1) = as.map V.ref := by rw [List.map_map, ← q1, List.map_map]; rfl
        rw [this]; exact SqL.of bk.jl
      · obtain ⟨p, hp, rfl⟩ := List.mem_map.mp hz
        obtain ⟨n', u, mode, cmd, tries, e1, _⟩ := (q3 p hp).ex
        exact ⟨_, SqT.of e1⟩
      · rw [List.map_map]; exact nd_fst q3 nd2
      · rw [List.map_map]; exact nd2
      obtain ⟨zs', hp3, rfl⟩ := perm_map_inv hperm2 zj rfl
      refine ⟨l, _, rfl, .inl ⟨SqL.of upd_same, fun t nt => ⟨(by show 2 ≤ sizeLine; decide), fun b nb => ?_⟩⟩⟩
      have s3 := ((same_new (o := .lst ((zs'.map (fun p : Addr × Job => (p.1, p.2.name))).map fun z => V.ref z.1)) nl').trans (same_new (o := .tup ((zs'.map (fun p : Addr × Job => (p.1, p.2.name))).map fun z => V.ref z.1)) nt)).trans (same_new (o := .tup [.ref th, .ref t]) nb)
      have js' : (zs'.map (·.2)).Perm js := by rw [← q2]; exact hp3.map _
      refine q _ b ⟨things, zs'.map (·.2)⟩ (bk.mv.same s3) ⟨⟨th, t, zs'.map (·.1), upd_same, bk.th.mono (.of s3), ?_, ?_⟩, fun n hn => ?_, ?_, ?_⟩ fun q hq => (thv q hq).1
      · refine TupA.of (same_new nb _ _ ?_)
        rw [upd_same, List.map_map, List.map_map]; rfl
      · exact pair_of zs' fun p hp => (q3 p (hp3.mem_iff.mp hp)).mono (.of s3)
      · have : n ∈ names := by rw [← hnm]; exact (js'.map _).mem_iff.mp hn
        exact letters_ok n (nmem n this)
      · refine sortedS_of_pairwise _ ?_
        show ((zs'.map (·.2)).map Job.name).Pairwise _
        rw [List.pairwise_map] at hpw
        rw [List.map_map, List.pairwise_map]
        refine hpw.imp fun {a b} h => ?_
        rw [ltCps_eq]; simpa using h
      · exact right_of bk.ok hjs nnd nne (by omega) thnd (by omega) js'
end
end K45
set_option Elab.async false
set_option linter.all false
set_option maxRecDepth 100000
set_option maxHeartbeats 4000000
namespace K45
open PySem PySem.Spec PyProof.Rows L2 LamX
/-! the law's tables -/
abbrev sLJobs : Stmt := topS 34
abbrev sLNeeds : Stmt := topS 35
abbrev sLRanks : Stmt := topS 36
abbrev sSome : Stmt := topS 37
abbrev nLRanks : List Str := ["_law_book", "_law_needs_here", "_law_found", "_law_lap", "_law_name", "_law_need"]
abbrev nSome : List Str := ["_law_source", "_law_book", "_law_needs_here", "_law_found", "_law_lap", "_law_left", "_law_ready", "_law_name", "_law_one"]
theorem scLJobs : FnScope ["_law_book", "_law_job"] ["_law_book"] (defScope sLJobs) := ⟨rfl, rfl, rfl, by decide +kernel, rfl, by decide +kernel, by decide +kernel⟩
theorem scLNeeds : FnScope ["_law_jobs_here", "_law_job"] ["_law_jobs_here"] (defScope sLNeeds) := ⟨rfl, rfl, rfl, by decide +kernel, rfl, by decide +kernel, by decide +kernel⟩
theorem scLRanks : FnScope nLRanks ["_law_book"] (defScope sLRanks) := ⟨rfl, rfl, rfl, by decide +kernel, rfl, by decide +kernel, by decide +kernel⟩
theorem scSome : FnScope nSome ["_law_source", "_law_book"] (defScope sSome) := ⟨rfl, rfl, rfl, by decide +kernel, rfl, by decide +kernel, by decide +kernel⟩
/-- the jobs by name -/
def JbAt (H : Hp) (d : Addr) (js : List Job) : Prop := ∃ l : List (Str × Addr), H d = some (.dK (dF V.ref l)) ∧ Paired (fun q (j : Job) => q.1 = j.name ∧ JobAt H q.2 j) l js
theorem JbAt.same {H H' : Hp} (s : Same H H') {d : Addr} {js : List Job} (h : JbAt H d js) : JbAt H' d js := by
  obtain ⟨l, h1, h2⟩ := h
  exact ⟨l, s _ _ h1, pair_mono h2 fun q j e => ⟨e.1, e.2.same s⟩⟩
theorem JbAt.at_ {H : Hp} {d : Addr} {B : Bk} {n : Str} {j : Job} (h : JbAt H d B.jobs) (hj : B.job n = some j) : ∃ a, DGet H d (.str n) (some (.ref a)) ∧ JobAt H a j := by
  obtain ⟨l, h1, h2⟩ := h
  obtain ⟨hm, hn⟩ := job_mem hj
  obtain ⟨q, j', e1, e2, e3⟩ := pair_lk (n := n) h2 (List.mem_map.mpr ⟨j, hm, hn⟩)
  have e2 : B.job n = some j' := e2
  rw [hj] at e2; cases e2
  exact ⟨q.2, dget_some (.inl h1) e1, e3⟩
def spLJobs : Sp := fun vs H Q _ => ∃ (b : Addr) (B : Bk), vs = [.ref b] ∧ BookAt H b B ∧ ∀ (H' : Hp) (p : Addr), Same H H' → H p = none → JbAt H' p B.jobs → Q (.ref p) H'
def spLNeeds : Sp := fun vs H Q _ => ∃ (a : Addr) (as : List Addr) (js : List Job), vs = [.ref a] ∧ TupA H a (as.map V.ref) ∧ Paired (JobAt H) as js ∧ (js.map Job.name).Nodup ∧ js.length ≤ 100 ∧ ∀ (H' : Hp) (p : Addr) (l : List (Str × Addr)), Same H H' → H p = none → H' p = some (.dK (dF V.ref l)) → Paired (fun q (j : Job) => q.1 = j.name ∧ TupA H' q.2 (j.needs.map V.str)) l js → Q (.ref p) H'
theorem pair_names2 {α : Type} {P : Str × α → Job → Prop} : ∀ {l : List (Str × α)} {js : List Job}, Paired (fun q j => q.1 = j.name ∧ P q j) l js → l.map (·.1) = js.map Job.name
  | _, _, .nil => rfl
  | _, _, .cons h t => by rw [List.map_cons, List.map_cons, h.1, pair_names2 t]
section
variable {P : Program} {w : World} {K : PySem.W.Frag} {mg : Str → Option Value} {base : Heap}
theorem ok_ljobs (d : Def K mg "_law_jobs" sLJobs ["_law_book"]) (m1 : mg "dict" = none) : Has P w K mg base "_law_jobs" ["_law_book"] 1 spLJobs := d.has fun f fd F => by
  refine F.ok scLJobs (fun vs H Q E h => ?_) (fun cdv A outer s H vs Q E hr h => ?_)
  · obtain ⟨b, B, rfl, _⟩ := h; rfl
  · obtain ⟨b, B, rfl, hB, q⟩ := h
    have R := hB.R
    have few := R.few
    obtain ⟨t, js, as, h1, h2, h3, h4⟩ := hB.ex
    refine ⟨_, pss_one (ps_ret (pe_callTy (call_dictP rfl) (by rfl) m1 (by decide +kernel) (pa_cons (pe_lc (own := [("_law_job", 1)]) (g := gName 1) (tt := tYes) rfl scLJobs.nd (pi_tup (pe_ix (r := rIxT K) ix_tup (pv 0) pe_int (fun _ _ => rfl))) (blkOk_by (own := [("_law_job", 1)]) (N := ["_law_book", "_law_job"]) (sc := defScope sLJobs) (by decide +kernel))
      (fun _ _ _ _ _ => pg_name (i := 1) scLJobs.nd rfl (Or.inl rfl)) (fun _ _ _ _ _ => pts_nil) (fun _ _ _ _ _ => pe_tup (pa_cons (pe_ix (r := rIxT K) ix_tup (pv 1) pe_int (fun _ _ => rfl)) (pa_cons (pv 1) pa_nil)))) pa_nil))), ?_⟩
    refine ⟨.ref b, rfl, b, _, 1, .ref js, rfl, rfl, SqT.of h1, atI_nat (j := 1) rfl, js, rfl, ⟨_, h3.sq⟩, fun D nD => ?_⟩
    obtain ⟨q1, q2, q3⟩ := pair_zip h4
    generalize hzj : as.zip B.jobs = zj at q1 q2 q3
    have zl : zj.length = as.length := by rw [← q1, List.length_map]
    have al : as.length = B.jobs.length := pair_len h4
    refine lc_new (walk_tup (xs := as.map V.ref)) zj (fun p => some [.str p.2.name, .ref p.1]) nD (by rw [List.length_map, zl]) (by omega) (fun H' s => TupA.sq (h3.mono (.of s))) (fun i p v H1 H' Kt Kf hp s y kt kf hD => ?_) (fun H' cs s e hpr hno => ?_)
    · obtain ⟨rfl, hv⟩ := y
      rw [← q1, List.map_map, List.getElem?_map, hp] at hv; cases hv
      obtain ⟨n', u, mode, cmd, tries, e1, _⟩ := ((q3 p (List.mem_of_getElem? hp)).same s).ex
      exact ⟨rfl, .ref p.1, rfl, p.1, _, 0, .str p.2.name, rfl, rfl, SqT.of e1, atI_nat (j := 0) rfl, .ref p.1, rfl, (by show 2 ≤ sizeLine; decide), fun y ny => kt _ y _ rfl (same_new ny) upd_same (s.free ny) fun z => hD (by rw [← z]; exact ny)⟩
    · rw [fm_all] at hpr
      have hpr := pair_unmap _ hpr
      refine ⟨D, cs, dF V.ref (zj.map fun p => (p.2.name, p.1)), rfl, SqL.of e, ?_, fun p np => ?_⟩
      · unfold dF
        rw [List.map_map]
        exact pair_mapR _ (pair_mono hpr fun a c h => SqT.of h)
      · have hk : ((zj.map fun p => (p.2.name, p.1)).map (·.1)).Nodup := by
          rw [List.map_map]
          have : zj.map ((fun x : Str × Addr => x.1) ∘ fun p : Addr × Job => (p.2.name, p.1)) = (zj.map (·.2)).map Job.name := by rw [List.map_map]; rfl
          rw [this, q2]; exact R.nd
        rw [merge0_dF hk]
        refine q _ p (s.trans (same_new np)) (s.free np) ⟨_, upd_same, ?_⟩
        rw [← q2]
        have : ∀ zs : List (Addr × Job), (∀ p ∈ zs, JobAt H p.1 p.2) → Paired (fun q (j : Job) => q.1 = j.name ∧ JobAt (upd H' p (.dK (dF V.ref (zj.map fun p => (p.2.name, p.1))))) q.2 j) (zs.map fun p => (p.2.name, p.1)) (zs.map (·.2)) := by
          intro zs
          induction zs with
          | nil => exact fun _ => .nil
          | cons z zs ih => exact fun h => .cons ⟨rfl, (h z List.mem_cons_self).same (s.trans (same_new np))⟩ (ih fun p hp => h p (List.mem_cons_of_mem _ hp))
        exact this zj q3
theorem ok_lneeds (d : Def K mg "_law_needs" sLNeeds ["_law_jobs_here"]) (m1 : mg "dict" = none) : Has P w K mg base "_law_needs" ["_law_jobs_here"] 1 spLNeeds := d.has fun f fd F => by
  refine F.ok scLNeeds (fun vs H Q E h => ?_) (fun cdv A outer s H vs Q E hr h => ?_)
  · obtain ⟨b, as, js, rfl, _⟩ := h; rfl
  · obtain ⟨b, as, js, rfl, hb, hp, nd, hl, q⟩ := h
    refine ⟨_, pss_one (ps_ret (pe_callTy (call_dictP rfl) (by rfl) m1 (by decide +kernel) (pa_cons (pe_lc (own := [("_law_job", 1)]) (g := gName 1) (tt := tYes) rfl scLNeeds.nd (pi_tup (pv 0)) (blkOk_by (own := [("_law_job", 1)]) (N := ["_law_jobs_here", "_law_job"]) (sc := defScope sLNeeds) (by decide +kernel))
      (fun _ _ _ _ _ => pg_name (i := 1) scLNeeds.nd rfl (Or.inl rfl)) (fun _ _ _ _ _ => pts_nil) (fun _ _ _ _ _ => pe_tup (pa_cons (pe_ix (r := rIxT K) ix_tup (pv 1) pe_int (fun _ _ => rfl)) (pa_cons (pe_ix (r := rIxT K) ix_tup (pv 1) pe_int (fun _ _ => rfl)) pa_nil)))) pa_nil))), ?_⟩
    have zip3 : ∀ {as : List Addr} {js : List Job}, Paired (JobAt H) as js → ∃ zn : List (Addr × Str × Addr), zn.map (·.1) = as ∧ Paired (fun q (j : Job) => q.1 = j.name ∧ TupA H q.2 (j.needs.map V.str)) (zn.map (·.2)) js ∧ ∀ p ∈ zn, ∃ (mode : V) (r : List V), H p.1 = some (.tup (.str p.2.1 :: mode :: .ref p.2.2 :: r)) := by
      intro as js h
      induction h with
      | nil => exact ⟨[], rfl, .nil, fun _ h => nomatch h⟩
      | cons h t ih =>
        rename_i a j as js
        obtain ⟨zn, z1, z2, z3⟩ := ih
        obtain ⟨n', u, mode, cmd, tries, e1, e2, _⟩ := h.ex
        refine ⟨(a, j.name, n') :: zn, by rw [List.map_cons, z1], .cons ⟨rfl, e2⟩ z2, fun p hp => ?_⟩
        rcases List.mem_cons.mp hp with rfl | hp
        · exact ⟨_, _, e1⟩
        · exact z3 p hp
    obtain ⟨zn, z1, z2, z3⟩ := zip3 hp
    have zl : zn.length = as.length := by rw [← z1, List.length_map]
    have al : as.length = js.length := pair_len hp
    refine ⟨.ref b, rfl, b, rfl, ⟨_, hb.sq⟩, fun D nD => ?_⟩
    refine lc_new (walk_tup (xs := as.map V.ref)) zn (fun p => some [.str p.2.1, .ref p.2.2]) nD (by rw [List.length_map, zl]) (by omega) (fun H' s => TupA.sq (hb.mono (.of s))) (fun i p v H1 H' Kt Kf hp s y kt kf hD => ?_) (fun H' cs s e hpr hno => ?_)
    · obtain ⟨rfl, hv⟩ := y
      rw [← z1, List.map_map, List.getElem?_map, hp] at hv; cases hv
      obtain ⟨mode, r, e1⟩ := z3 p (List.mem_of_getElem? hp)
      have e1 := s _ _ e1
      exact ⟨rfl, .ref p.1, rfl, p.1, _, 0, .str p.2.1, rfl, rfl, SqT.of e1, atI_nat (j := 0) rfl, .ref p.1, rfl, p.1, _, 2, .ref p.2.2, rfl, rfl, SqT.of e1, atI_nat (j := 2) rfl, (by show 2 ≤ sizeLine; decide), fun y ny => kt _ y _ rfl (same_new ny) upd_same (s.free ny) fun z => hD (by rw [← z]; exact ny)⟩
    · rw [fm_all] at hpr
      have hpr := pair_unmap _ hpr
      refine ⟨D, cs, dF V.ref (zn.map (·.2)), rfl, SqL.of e, ?_, fun p np => ?_⟩
      · unfold dF
        rw [List.map_map]
        exact pair_mapR _ (pair_mono hpr fun a c h => SqT.of h)
      · have hk : ((zn.map (·.2)).map (·.1)).Nodup := by rw [pair_names2 z2]; exact nd
        rw [merge0_dF hk]
        exact q _ p _ (s.trans (same_new np)) (s.free np) upd_same (pair_mono z2 fun q j h => ⟨h.1, h.2.mono (.of (s.trans (same_new np)))⟩)
end
end K45
set_option Elab.async false
set_option linter.all false
set_option maxRecDepth 100000
set_option maxHeartbeats 4000000
namespace K45
open PySem PySem.Spec PyProof.Rows L2 LamX
def spLRanks : Sp := fun vs H Q _ => ∃ (b : Addr) (B : Bk), vs = [.ref b] ∧ BookAt H b B ∧ ∀ (H' : Hp) (p : Addr) (f : List (Str × Int)), Same H H' → H p = none → H' p = some (.dK (dI f)) → RkOk B f → Q (.ref p) H'
def spSome : Sp := fun vs H Q _ => ∃ (src cl b : Addr) (B : Bk), vs = [.ref src, .ref b] ∧ SrcAt H src cl ∧ BookAt H b B ∧ ∀ (H' : Hp) (p : Addr) (o : List Str), Mv src cl H H' → TupA H' p (o.map V.str) → OrdOk B o → Q (.ref p) H'
theorem rk_max {g : List (Str × Int)} {needs : List Str} {m : Int} (hg : ∀ p ∈ g, 0 ≤ p.2) (hn : ∀ k ∈ needs, ∃ v, lk g k = some v) (hm : m ∈ (needs.filterMap fun k => lk g k) ++ [-1]) (hall : ∀ y ∈ (needs.filterMap fun k => lk g k) ++ [-1], y ≤ m) : RkAt (lk g) needs (m + 1) := by
  have h1 : -1 ≤ m := hall _ (by simp)
  refine ⟨by omega, fun k hk => ?_, ?_⟩
  · obtain ⟨v, hv⟩ := hn k hk
    have := hall v (List.mem_append_left _ (List.mem_filterMap.mpr ⟨k, hk, hv⟩))
    exact ⟨v, hv, by omega⟩
  · rcases List.mem_append.mp hm with h | h
    · obtain ⟨k, hk, e⟩ := List.mem_filterMap.mp h
      exact .inr ⟨k, hk, m, e, rfl⟩
    · simp at h; exact .inl (by omega)
theorem rk_few {B : Bk} {f : List (Str × Int)} (h : RkPart B f) : f.length ≤ B.jobs.length := by
  have := nodup_sub_len h.nd (ys := B.names) fun y hy => by
    obtain ⟨p, hp, e⟩ := List.mem_map.mp hy
    rw [← e]; exact h.sub p hp
  rw [names_len, List.length_map] at this; exact this
section
variable {P : Program} {w : World} {K : PySem.W.Frag} {mg : Str → Option Value} {base : Heap}
theorem ok_lranks (d : Def K mg "_law_ranks" sLRanks ["_law_book"]) (cN : Has P w K mg base "_law_needs" ["_law_jobs_here"] 1 spLNeeds) (m1 : mg "len" = none) (m2 : mg "range" = none) (m3 : mg "all" = none) (m4 : mg "max" = none) : Has P w K mg base "_law_ranks" ["_law_book"] 2 spLRanks := d.has fun f fd F => by
  refine F.ok scLRanks (fun vs H Q E h => ?_) (fun cdv A outer s H vs Q E hr h => ?_)
  · obtain ⟨b, B, rfl, _⟩ := h; rfl
  · obtain ⟨b, B, rfl, hB, q⟩ := h
    have R := hB.R
    have few := R.few
    obtain ⟨t, js, as, h1, h2, h3, h4⟩ := hB.ex
    refine ⟨_, pss_cons (ps_asg (pe_tup (pa_cons (pe_has cN hr (pa_cons (pe_ix (r := rIxT K) ix_tup (pv 0) pe_int (fun _ _ => rfl)) pa_nil)) (pa_cons pe_dnewK pa_nil))) (pg_tup rfl (pgs_cons (pg_name (i := 1) scLRanks.nd rfl (Or.inl rfl)) (pgs_cons (pg_name (i := 2) scLRanks.nd rfl (Or.inr rfl)) pgs_nil))))
      (pss_cons (ps_for PassesOwn.never rfl (pi_range1 (by rfl) m2 (pa_cons (pe_callB call_lenD (by rfl) m1 (by decide +kernel) (pa_cons (pv 1) pa_nil)) pa_nil)) (pg_name (i := 3) scLRanks.nd rfl (Or.inl rfl))
        (pss_one (ps_lock (ps_for PassesOwn.never rfl (pi_keys (pv 1)) (pg_name (i := 4) scLRanks.nd rfl (Or.inl rfl))
          (pss_one (ps_if (pw_and (pt_cmp (pc_dnotin (hu_of hr) (pv 4) (pv 2))) (pw_and1 (pt_val (pe_callB (id := "all") (r := rAll K) (cr_all rfl) (by rfl) m3 (by decide +kernel) (pa_cons (pe_lc (own := [("_law_need", 5)]) (g := gName 5) (tt := tYes) rfl scLRanks.nd (pi_tup (pe_dget (hu_of hr) (pv 1) (pv 4) (fun _ _ => rfl))) (blkOk_by (own := [("_law_need", 5)]) (N := nLRanks) (sc := defScope sLRanks) (by decide +kernel))
              (fun _ _ _ _ _ => pg_name (i := 5) scLRanks.nd rfl (Or.inl rfl)) (fun _ _ _ _ _ => pts_nil) (fun _ _ _ _ _ => pe_cmp (pc_din (hu_of hr) (pv 5) (pv 2)))) pa_nil))))).pt
            (pss_one (ps_dput (hu_of hr) (pv 2) (pv 4) (pe_op op_add (pe_callB (cr_max rfl) (by rfl) m4 (by decide +kernel) (pa_cons (pe_op op_cat (pe_lc (own := [("_law_need", 5)]) (g := gName 5) (tt := tYes) rfl scLRanks.nd (pi_tup (pe_dget (hu_of hr) (pv 1) (pv 4) (fun _ _ => rfl))) (blkOk_by (own := [("_law_need", 5)]) (N := nLRanks) (sc := defScope sLRanks) (by decide +kernel))
              (fun _ _ _ _ _ => pg_name (i := 5) scLRanks.nd rfl (Or.inl rfl)) (fun _ _ _ _ _ => pts_nil) (fun _ _ _ _ _ => pe_dget (hu_of hr) (pv 2) (pv 5) (fun _ _ => rfl))) (pe_lst (pa_cons (pe_op op_sub pe_int pe_int) pa_nil))) pa_nil)) pe_int) rfl)) pss_nil))))))
      (pss_one (ps_ret (pv 2)))), ?_⟩
    refine ⟨.ref b, rfl, b, _, 1, .ref js, rfl, rfl, SqT.of h1, atI_nat (j := 1) rfl, js, as, B.jobs, rfl, h3, h4, R.nd, by omega, fun H1 nd l s1 nnd hnd hl => ?_⟩
    intro fo nfo
    refine ⟨(by show 2 ≤ sizeLine; decide), fun tt ntt => ⟨tt, [.ref nd, .ref fo], rfl, SqT.of upd_same, rfl, .ref nd, _, rfl, .ref fo, [], rfl, rfl, ?_⟩⟩
    have hfn : fo ≠ nd := ne_of_none' hnd nfo
    have nfoH : H fo = none := s1.free nfo
    have s2 := (same_new (o := .dK []) nfo).trans (same_new (o := .tup [.ref nd, .ref fo]) ntt)
    have sm := s1.trans s2
    have hnd := s2 _ _ hnd
    have hfo := same_new ntt (o := .tup [.ref nd, .ref fo]) fo _ (upd_same (H := H1) (o := .dK []))
    have hl := pair_mono hl fun q j h => And.intro h.1 (h.2.mono (.of s2))
    generalize upd (upd H1 fo (.dK [])) tt (.tup [.ref nd, .ref fo]) = H2 at sm hnd hfo hl
    clear s1 s2 nfo ntt
    have ll : l.length = B.jobs.length := pair_len hl
    have lnm : l.map (·.1) = B.names := pair_names2 hl
    refine ⟨.ref nd, rfl, nd, _, rfl, hnd, (dF V.ref l).length, rfl, by rw [dF_length]; omega, by rw [dF_length]; omega, ?_⟩
    rw [dF_length, Int.toNat_natCast]
    refine for_it walk_range (fun i σ2 H3 => ∃ (f : List (Str × Int)) (z3 z4 : Option V), σ2 = [some (.ref b), some (.ref nd), some (.ref fo), z3, z4, none] ∧ Same H H3 ∧ Same (upd H2 fo (.dK (dI f))) H3 ∧ H3 nd = some (.dK (dF V.ref l)) ∧ H3 fo = some (.dK (dI f)) ∧ RkPart B f ∧ i ≤ f.length)
      ⟨[], none, none, rfl, sm, fun b o e => (by by_cases hb : b = fo
                                                 · subst hb; rw [upd_same] at e; rw [hfo]; exact e
                                                 · rw [upd_ne hb] at e; exact e), hnd, hfo, rk_nil B, Nat.zero_le _⟩ (fun _ _ _ _ _ => trivial) (fun i x σ2 H3 H3' hi h y => ?_) (fun σ2 H3 h => ?_)
    · obtain ⟨f, z3, z4, rfl, sm3, s23, hnd3, hfo3, rf, hif⟩ := h
      obtain ⟨rfl, rfl⟩ := y
      have hl3 : Paired (fun q (j : Job) => q.1 = j.name ∧ TupA H3' q.2 (j.needs.map V.str)) l B.jobs := pair_mono hl fun q j h => ⟨h.1, (h.2.mono (tupS_put hfo (fun _ z => nomatch z) fun _ _ z => nomatch z)).mono (.of s23)⟩
      refine ⟨nd, .dK (dF V.ref l), hnd3, trivial, fun od => ?_⟩
      have k4 : TupS H3' (upd H3' nd (.frz od (.dK (dF V.ref l)))) := tupS_lock hnd3
      have hl4 := pair_mono hl3 fun q j h => And.intro h.1 (h.2.mono k4)
      have hfo4 : upd H3' nd (.frz od (.dK (dF V.ref l))) fo = some (.dK (dI f)) := by rw [upd_ne hfn]; exact hfo3
      refine ⟨.ref nd, rfl, nd, od, rfl, .inl ⟨_, upd_same, ?_⟩⟩
      refine for_it walk_keys (fun k σ2 H5 => ∃ (g : List (Str × Int)) (z4 : Option V), σ2 = [some (.ref b), some (.ref nd), some (.ref fo), some (.int (0 + (i : Nat))), z4, none] ∧ Same (upd (upd H3' nd (.frz od (.dK (dF V.ref l)))) fo (.dK (dI g))) H5 ∧ RkPart B g ∧ (∀ n v, lk f n = some v → lk g n = some v) ∧ f.length ≤ g.length ∧ ∀ n ∈ B.names.take k, (∀ i ∈ B.needs n, i ∈ f.map (·.1)) → n ∈ g.map (·.1))
        ⟨f, z4, rfl, fun b o e => (by by_cases hb : b = fo
                                      · subst hb; rw [upd_same] at e; rw [hfo4]; exact e
                                      · rw [upd_ne hb] at e; exact e), rf, fun _ _ h => h, Nat.le_refl _, fun n h => (by simp at h)⟩ (fun k σ2 H5 _ h => ?_) (fun k x σ2 H5 H5' hk h y => ?_) (fun σ2 H5 h => ?_)
      · obtain ⟨g, z4, _, s5, _⟩ := h
        exact s5 _ _ (by rw [upd_ne (Ne.symm hfn), upd_same])
      · obtain ⟨g, z4, rfl, s5, rg, gl, glen, hgot⟩ := h
        obtain ⟨rfl, kk, u, hkk, rfl⟩ := y
        rw [dF_length] at hk
        unfold dF at hkk
        rw [List.getElem?_map, List.getElem?_eq_getElem hk] at hkk
        have hln : B.names[k]? = some l[k].1 := by rw [← lnm, List.getElem?_map, List.getElem?_eq_getElem hk]; rfl
        cases hkk
        generalize hx : l[k].1 = x at hln
        have xn : x ∈ B.names := List.mem_of_getElem? hln
        have hfo5 : H5' fo = some (.dK (dI g)) := s5 _ _ upd_same
        have hnd5 : Rd H5' nd (.dK (dF V.ref l)) := .inr ⟨od, s5 _ _ (by rw [upd_ne (Ne.symm hfn), upd_same])⟩
        have ts5 : TupS (upd H3' nd (.frz od (.dK (dF V.ref l)))) H5' := (tupS_put hfo4 (fun _ z => nomatch z) fun _ _ z => nomatch z).trans (.of s5)
        have nat5 : NdAt H5' nd B.jobs := ⟨l, hnd5, pair_mono hl4 fun q j h => ⟨h.1, h.2.mono ts5⟩⟩
        obtain ⟨na, hna1, hna2⟩ := nat5.at_ xn
        have nl := needs_len R x
        have gL := rk_few rg
        refine ⟨.str x, by rw [← hx]; rfl, .ref fo, rfl, fo, _, rfl, dget_dF (.inl hfo5), _, rfl, ?_⟩
        rw [lk_dec]
        refine ite2 (fun e => ?_) (fun e => ?_)
        · have nx : x ∉ g.map (·.1) := by simpa using e
          refine ⟨.ref nd, rfl, .str x, by rw [← hx]; rfl, nd, .ref na, rfl, hna1, na, rfl, ⟨_, hna2.sq⟩, fun D nD => ?_⟩
          refine lc_std (walk_tup (xs := (B.needs x).map V.str)) (B.needs x) (fun k => some (.bl (decide (k ∈ g.map (·.1))))) nD (List.length_map _) (by omega) (fun H8 s8 => TupA.sq (hna2.mono (.of s8))) (fun j k v H8 H8' Kt2 Kf2 hj s8 y kt2 kf2 => ?_) (fun H8 s8 e => ?_)
          · obtain ⟨rfl, hv⟩ := y
            rw [List.getElem?_map, hj] at hv; cases hv
            refine ⟨rfl, .str k, rfl, .ref fo, rfl, fo, _, rfl, dget_dF (.inl (s8 _ _ hfo5)), kt2 _ _ ?_ (Same.refl _)⟩
            rw [lk_dec]
          rw [fm_all] at e
          refine ⟨D, (B.needs x).map fun k => decide (k ∈ g.map (·.1)), rfl, SqL.of (by rw [e, List.map_map]; rfl), _, rfl, ite2 (fun e => ?_) (fun e => ?_)⟩
          · have hv : ∀ k ∈ B.needs x, ∃ v, lk g k = some v := fun k hk' => by
              rw [List.all_eq_true] at e
              exact lk_isSome (of_decide_eq_true (e _ (List.mem_map.mpr ⟨k, hk', rfl⟩)))
            have hfo8 := s8 _ _ hfo5
            have nat8 := nat5.same s8
            obtain ⟨na, hna1, hna2⟩ := nat8.at_ xn
            refine ⟨.ref nd, rfl, .str x, by rw [← hx]; rfl, nd, .ref na, rfl, hna1, na, rfl, ⟨_, hna2.sq⟩, fun D2 nD2 => ?_⟩
            refine lc_std (walk_tup (xs := (B.needs x).map V.str)) (B.needs x) (fun k => (lk g k).map V.int) nD2 (List.length_map _) (by omega) (fun H8 s8 => TupA.sq (hna2.mono (.of s8))) (fun j k v H8 H8' Kt2 Kf2 hj s8 y kt2 kf2 => ?_) (fun H9 s9 e9 => ?_)
            · obtain ⟨rfl, hv'⟩ := y
              rw [List.getElem?_map, hj] at hv'; cases hv'
              obtain ⟨v, hv⟩ := hv k (List.mem_of_getElem? hj)
              exact ⟨rfl, .ref fo, rfl, .str k, rfl, fo, _, rfl, dget_some (.inl (s8 _ _ hfo8)) hv, kt2 _ _ (by rw [hv]; rfl) (Same.refl _)⟩
            have e9' : H9 D2 = some (.lst (((B.needs x).filterMap fun k => lk g k).map V.int)) := by rw [e9, List.map_filterMap]
            refine ⟨0, 1, rfl, rfl, (by show 1 ≤ sizeLine; decide), fun l1 nl1 => ?_⟩
            refine ⟨D2, l1, _, [V.int (0 - 1)], rfl, rfl, same_new nl1 _ _ e9', upd_same, Nat.le_of_lt (small ?_), fun l2 nl2 => ?_⟩
            · have := List.length_filterMap_le (fun k => lk g k) (B.needs x)
              simp only [List.length_map, List.length_singleton]; omega
            refine ⟨l2, ((B.needs x).filterMap fun k => lk g k) ++ [-1], rfl, SqL.of (by rw [upd_same, List.map_append]; rfl), by simp, fun m hm hall => ⟨m, 1, rfl, rfl, ?_⟩⟩
            have rr := rk_max (fun p hp => (rg.at_ p hp).nn) hv hm hall
            have s10 := (s8.trans s9).trans ((same_new (o := .lst [V.int (0 - 1)]) nl1).trans (same_new (o := .lst (((B.needs x).filterMap fun k => lk g k).map V.int ++ [V.int (0 - 1)])) nl2))
            refine ⟨.ref fo, rfl, .str x, by rw [← hx]; rfl, fo, _, rfl, dput_dF (s10 _ _ hfo5) nx (by omega), ?_⟩
            refine ⟨g ++ [(x, m + 1)], some (.str x), by rw [← hx]; rfl, ?_, rg.step xn nx rr, fun n v hn => ?_, by rw [List.length_append]; omega, fun n hn hnd => ?_⟩
            · intro b' o' eb
              by_cases hb : b' = fo
              · subst hb; rw [upd_same] at eb ⊢; exact eb
              · rw [upd_ne hb] at eb ⊢
                exact s10 _ _ (s5 _ _ (by rw [upd_ne hb]; exact eb))
            · rw [lk_snoc nx, if_neg fun z => nx (by rw [← z]; exact lk_key (gl _ _ hn))]; exact gl _ _ hn
            · rw [List.map_append]
              rw [take_snoc hln] at hn
              rcases List.mem_append.mp hn with hn | hn
              · exact List.mem_append_left _ (hgot n hn hnd)
              · simp at hn; subst hn; simp
          · refine ⟨g, some (.str x), by rw [← hx]; rfl, s5.trans s8, rg, gl, glen, fun n hn hnd => ?_⟩
            rw [take_snoc hln] at hn
            rcases List.mem_append.mp hn with hn | hn
            · exact hgot n hn hnd
            · simp at hn; subst hn
              exfalso; apply e
              rw [List.all_eq_true]
              intro y hy
              obtain ⟨k, hk', rfl⟩ := List.mem_map.mp hy
              obtain ⟨v, hv⟩ := lk_isSome (hnd k hk')
              exact decide_eq_true (lk_key (gl _ _ hv))
        · have nx : x ∈ g.map (·.1) := by
            apply Classical.byContradiction
            intro z; apply e; simp only [z, decide_false, Bool.not_false]
          refine iteF ⟨g, some (.str x), by rw [← hx]; rfl, s5, rg, gl, glen, fun n hn hnd => ?_⟩
          rw [take_snoc hln] at hn
          rcases List.mem_append.mp hn with hn | hn
          · exact hgot n hn hnd
          · simp at hn; subst hn; exact nx
      · obtain ⟨g, z4, rfl, s5, rg, gl, glen, hgot⟩ := h
        have hlk5 : H5 nd = some (.frz od (.dK (dF V.ref l))) := s5 _ _ (by rw [upd_ne (Ne.symm hfn), upd_same])
        refine ⟨hlk5, g, _, z4, rfl, ?_, ?_, upd_same, by rw [upd_ne hfn]; exact s5 _ _ upd_same, rg, ?_⟩
        · intro b' o' eb
          by_cases h1 : b' = nd
          · subst h1
            have := sm3 _ _ eb
            rw [hnd3] at this; rw [upd_same]; exact this
          · have h2 : b' ≠ fo := fun z => by rw [z, nfoH] at eb; cases eb
            rw [upd_ne h1]; exact s5 _ _ (by rw [upd_ne h2, upd_ne h1]; exact sm3 _ _ eb)
        · intro b' o' eb
          by_cases h2 : b' = fo
          · subst h2; rw [upd_same] at eb; rw [upd_ne hfn, s5 _ _ upd_same]; exact eb
          · rw [upd_ne h2] at eb
            have e3 := s23 _ _ (by rw [upd_ne h2]; exact eb)
            by_cases h1 : b' = nd
            · subst h1; rw [hnd3] at e3; rw [upd_same]; exact e3
            · rw [upd_ne h1]; exact s5 _ _ (by rw [upd_ne h2, upd_ne h1]; exact e3)
        · rw [dF_length, ll, ← names_len, List.take_length] at hgot
          by_cases hf : f.length = B.jobs.length
          · omega
          · have hfl := rk_few rf
            have : ∃ n ∈ B.names, n ∉ f.map (·.1) := by
              apply Classical.byContradiction
              intro hno
              have := nodup_sub_len R.nd (ys := f.map (·.1)) fun n hn => by
                apply Classical.byContradiction
                intro z; exact hno ⟨n, hn, z⟩
              rw [names_len, List.length_map] at this; omega
            obtain ⟨n, hn, nn⟩ := this
            obtain ⟨k0, k1, k2, k3⟩ := R.ready (fun k => k ∈ f.map (·.1)) (fun k => Classical.em _) hn nn
            have hk0 := hgot k0 k1 k3
            have := nodup_sub_len (xs := k0 :: f.map (·.1)) (ys := g.map (·.1)) (List.nodup_cons.mpr ⟨k2, rf.nd⟩) fun y hy => by
              rcases List.mem_cons.mp hy with rfl | hy
              · exact hk0
              · obtain ⟨v, hv⟩ := lk_isSome hy
                exact lk_key (gl _ _ hv)
            rw [List.length_cons, List.length_map, List.length_map] at this
            omega
    · obtain ⟨f, z3, z4, rfl, sm3, s23, hnd3, hfo3, rf, hif⟩ := h
      have hfl := rk_few rf
      refine ⟨.ref fo, rfl, q _ fo f sm3 nfoH hfo3 ⟨rf, ?_⟩⟩
      intro n hn
      exact nodup_full rf.nd (fun x hx => by obtain ⟨p, hp, e⟩ := List.mem_map.mp hx; rw [← e]; exact rf.sub p hp) (by rw [names_len, List.length_map]; omega) n hn
end
end K45
set_option Elab.async false
set_option linter.all false
set_option maxRecDepth 100000
set_option maxHeartbeats 4000000
namespace K45
open PySem PySem.Spec PyProof.Rows L2 LamX
section
variable {P : Program} {w : World} {K : PySem.W.Frag} {mg : Str → Option Value} {base : Heap}
theorem ok_some (d : Def K mg "_law_some_order" sSome ["_law_source", "_law_book"]) (cN : Has P w K mg base "_law_needs" ["_law_jobs_here"] 1 spLNeeds) (cP : Has P w K mg base "_law_pick" ["_law_source", "_law_most"] 1 spPick) (m1 : mg "len" = none) (m2 : mg "range" = none) (m3 : mg "tuple" = none) : Has P w K mg base "_law_some_order" ["_law_source", "_law_book"] 2 spSome := d.has fun f fd F => by
  refine F.ok scSome (fun vs H Q E h => ?_) (fun cdv A outer s H vs Q E hr h => ?_)
  · obtain ⟨src, cl, b, B, rfl, _⟩ := h; rfl
  · obtain ⟨src, cl, b, B, rfl, hs, hB, q⟩ := h
    have R := hB.R
    have few := R.few
    obtain ⟨t, js, as, h1, h2, h3, h4⟩ := hB.ex
    refine ⟨_, pss_cons (ps_asg (pe_tup (pa_cons (pe_has cN hr (pa_cons (pe_ix (r := rIxT K) ix_tup (pv 1) pe_int (fun _ _ => rfl)) pa_nil)) (pa_cons (pe_lst pa_nil) pa_nil))) (pg_tup rfl (pgs_cons (pg_name (i := 2) scSome.nd rfl (Or.inr rfl)) (pgs_cons (pg_name (i := 3) scSome.nd rfl (Or.inr rfl)) pgs_nil))))
      (pss_cons (ps_for PassesOwn.never rfl (pi_range1 (by rfl) m2 (pa_cons (pe_callB call_lenD (by rfl) m1 (by decide +kernel) (pa_cons (pv 2) pa_nil)) pa_nil)) (pg_name (i := 4) scSome.nd rfl (Or.inl rfl))
        (pss_cons (ps_lock (ps_setLc (i := 5) (own := [("_law_name", 7)]) (g := gName 7) rfl scSome.nd rfl rfl rfl (pi_keys (pv 2)) (blkOk_by (own := [("_law_name", 7)]) (N := nSome) (sc := defScope sSome) (by decide +kernel))
              (fun _ _ _ _ _ => pg_name (i := 7) scSome.nd rfl (Or.inl rfl)) (fun _ _ _ _ _ => pts_one (pt_cmpR (r := rIn K true) op_notIn_seq (pv 7) (pv 3) (by rfl))) (fun _ _ _ _ _ => pv 7)))
        (pss_cons (ps_setLc (i := 6) (own := [("_law_name", 7)]) (g := gName 7) rfl scSome.nd rfl rfl rfl (pi_list (pv 5)) (blkOk_by (own := [("_law_name", 7)]) (N := nSome) (sc := defScope sSome) (by decide +kernel))
              (fun _ _ _ _ _ => pg_name (i := 7) scSome.nd rfl (Or.inl rfl)) (fun _ _ _ _ _ => pts_one (pt_cmpR (r := rEqL K) (op_eqL hr.units) (pe_lc (own := [("_law_one", 8)]) (g := gName 8) (wi := iTup K (tDGet (tVar 2) (tVar 7))) (tt := tTest (tOp (rIn K true) (tVar 8) (tVar 3))) rfl scSome.nd (pi_tup (pe_dget (hu_of hr) (pv 2) (pv 7) (fun _ _ => rfl))) (blkOk_by (own := [("_law_one", 8)]) (by rfl))
                (fun _ _ _ _ _ => pg_name (i := 8) scSome.nd rfl (Or.inl rfl)) (fun _ _ _ _ _ => pts_one (pt_cmpR (r := rIn K true) op_notIn_seq (pv 8) (pv 3) (by rfl))) (fun _ _ _ _ _ => pv 8)) (pe_lst pa_nil) (nomark _))) (fun _ _ _ _ _ => pv 7))
        (pss_one (ps_expr (pe_bm PySem.F.plainAttrs_list PySem.F.slot_list_append PySem.F.type_list_append mt_append (pv 3) (pa_cons (pe_ix (r := rIxL K) ix_list (pv 6) (pe_has cP hr (pa_cons (pv 0) (pa_cons (pe_callB call_len_seq (by rfl) m1 (by decide +kernel) (pa_cons (pv 6) pa_nil)) pa_nil))) (fun _ _ => rfl)) pa_nil)))))))
      (pss_one (ps_ret (pe_callTy call_tuple_of (by rfl) m3 (by decide +kernel) (pa_cons (pv 3) pa_nil))))), ?_⟩
    refine ⟨.ref b, rfl, b, _, 1, .ref js, rfl, rfl, SqT.of h1, atI_nat (j := 1) rfl, js, as, B.jobs, rfl, h3, h4, R.nd, by omega, fun H1 nd l s1 nnd hnd hl => ?_⟩
    refine ⟨Nat.zero_le _, fun fo nfo => ?_⟩
    refine ⟨(by show 2 ≤ sizeLine; decide), fun tt ntt => ⟨tt, [.ref nd, .ref fo], rfl, SqT.of upd_same, rfl, .ref nd, _, rfl, .ref fo, [], rfl, rfl, ?_⟩⟩
    have hfn : fo ≠ nd := ne_of_none' hnd nfo
    have nfoH : H fo = none := s1.free nfo
    have s2 := (same_new (o := .lst []) nfo).trans (same_new (o := .tup [.ref nd, .ref fo]) ntt)
    have sm := s1.trans s2
    have hnd := s2 _ _ hnd
    have hfo := same_new ntt (o := .tup [.ref nd, .ref fo]) fo _ (upd_same (H := H1) (o := .lst []))
    have hl := pair_mono hl fun q j h => And.intro h.1 (h.2.mono (.of s2))
    generalize upd (upd H1 fo (.lst [])) tt (.tup [.ref nd, .ref fo]) = H2 at sm hnd hfo hl
    clear s1 s2 nfo ntt
    obtain ⟨nd1, nd2⟩ := hs.ne nnd
    obtain ⟨fo1, fo2⟩ := hs.ne nfoH
    have ll : l.length = B.jobs.length := pair_len hl
    have lnm : l.map (·.1) = B.names := pair_names2 hl
    refine ⟨.ref nd, rfl, nd, _, rfl, hnd, (dF V.ref l).length, rfl, by rw [dF_length]; omega, by rw [dF_length]; omega, ?_⟩
    rw [dF_length, Int.toNat_natCast]
    refine for_it walk_range (fun i σ2 H3 => ∃ (o : List Str) (z4 z5 z6 : Option V), σ2 = [some (.ref src), some (.ref b), some (.ref nd), some (.ref fo), z4, z5, z6, none, none] ∧ Mv src cl H H3 ∧ TupS H2 H3 ∧ H3 nd = some (.dK (dF V.ref l)) ∧ H3 fo = some (.lst (o.map V.str)) ∧ o.length = i ∧ o.Nodup ∧ (∀ n ∈ o, n ∈ B.names) ∧ ∀ (k : Nat) (n : Str), o[k]? = some n → ∀ m ∈ B.needs n, m ∈ o.take k)
      ⟨[], none, none, none, rfl, .of sm, .refl _, hnd, hfo, rfl, List.nodup_nil, fun _ h => (nomatch h), fun k n h => (by simp at h)⟩ (fun _ _ _ _ _ => trivial) (fun i x σ2 H3 H3' hi h y => ?_) (fun σ2 H3 h => ?_)
    · obtain ⟨o, z4, z5, z6, rfl, mv, ts, hnd3, hfo3, ol, ond, om, oa⟩ := h
      obtain ⟨rfl, rfl⟩ := y
      refine ⟨nd, .dK (dF V.ref l), hnd3, trivial, fun od => ?_⟩
      refine ⟨.ref nd, rfl, nd, od, rfl, .inl ⟨_, upd_same, fun D nD => ?_⟩⟩
      have hfo4 : upd H3' nd (.frz od (.dK (dF V.ref l))) fo = some (.lst (o.map V.str)) := by rw [upd_ne hfn]; exact hfo3
      have hDb : D ≠ nd := fun z => by rw [z, upd_same] at nD; cases nD
      refine lc_std walk_keys l (fun p => if decide (p.1 ∉ o) = true then some (.str p.1) else none) nD dF_length (by omega) (fun H7 s => s _ _ upd_same) (fun j x v H7 H7' Kt Kf hj s y kt kf => ?_) (fun H7 s e => ?_)
      · obtain ⟨rfl, k, u, hk, rfl⟩ := y
        unfold dF at hk
        rw [List.getElem?_map, hj] at hk; cases hk
        refine ⟨rfl, .str x.1, rfl, .ref fo, rfl, fo, _, rfl, .inl (SqL.of (s _ _ hfo4)), rfl, strs_flatV _, _, rfl, ?_⟩
        rw [inV_strs]
        refine ite2 (fun e => ⟨.str x.1, rfl, kt _ _ (if_pos (by simpa using e)) (Same.refl _)⟩) (fun e => kf _ (if_neg (by simpa using e)) (Same.refl _))
      rw [fm_if] at e
      refine ⟨s _ _ upd_same, ?_⟩
      have s5 := same_unlock s hnd3
      have hD : upd H7 nd (.dK (dF V.ref l)) D = some (.lst ((B.names.filter fun n => decide (n ∉ o)).map V.str)) := by
        rw [upd_ne hDb, e, ← lnm]
        congr 2
        have : ∀ l : List (Str × Addr), (l.filter fun p => decide (p.1 ∉ o)).map (fun p => V.str p.1) = ((l.map (·.1)).filter fun n => decide (n ∉ o)).map V.str := by
          intro l
          induction l with
          | nil => rfl
          | cons p l ih =>
            rw [List.map_cons, List.filter_cons, List.filter_cons]
            by_cases h : p.1 ∈ o
            · simp only [h, not_true_eq_false, decide_false, Bool.false_eq_true, if_false]; exact ih
            · simp only [h, not_false_eq_true, decide_true, if_true, List.map_cons, ih]
        exact this l
      have mv5 := mv.same s5
      have ts5 := ts.trans (.of s5)
      have hnd5 := s5 _ _ hnd3
      have hfo5 := s5 _ _ hfo3
      generalize upd H7 nd (.dK (dF V.ref l)) = H8 at s5 hD mv5 ts5 hnd5 hfo5
      generalize hleft : (B.names.filter fun n => decide (n ∉ o)) = left at hD
      have leftL : left.length ≤ 8 := by
        rw [← hleft]; have := List.length_filter_le (fun n => decide (n ∉ o)) B.names; rw [names_len] at this; omega
      have leftM : ∀ n ∈ left, n ∈ B.names ∧ n ∉ o := fun n hn => by
        rw [← hleft, List.mem_filter] at hn
        exact ⟨hn.1, of_decide_eq_true hn.2⟩
      have nat8 : NdAt H8 nd B.jobs := ⟨l, .inl hnd5, pair_mono hl fun q j h => ⟨h.1, h.2.mono ts5⟩⟩
      clear e s nD
      refine ⟨.ref D, rfl, D, rfl, ⟨_, SqL.of hD⟩, fun D2 nD2 => ?_⟩
      refine lc_std (walk_list (xs := left.map V.str)) left (fun n => if decide (∀ k ∈ B.needs n, k ∈ o) = true then some (.str n) else none) nD2 (List.length_map _) (by omega) (fun H7 s => SqL.of (s _ _ hD)) (fun j x v H9 H9' Kt Kf hj s y kt kf => ?_) (fun H9 s e => ?_)
      · obtain ⟨rfl, hv⟩ := y
        rw [List.getElem?_map, hj] at hv; cases hv
        have xn := (leftM x (List.mem_of_getElem? hj)).1
        have nl := needs_len R x
        obtain ⟨na, hna1, hna2⟩ := (nat8.same s).at_ xn
        refine ⟨rfl, .ref nd, rfl, .str x, rfl, nd, .ref na, rfl, hna1, na, rfl, ⟨_, hna2.sq⟩, fun D3 nD3 => ?_⟩
        refine lc_std (walk_tup (xs := (B.needs x).map V.str)) (B.needs x) (fun k => if decide (k ∉ o) = true then some (.str k) else none) nD3 (List.length_map _) (by omega) (fun H8 s8 => TupA.sq (hna2.mono (.of s8))) (fun j k v H8 H8' Kt2 Kf2 hj s8 y kt2 kf2 => ?_) (fun H10 s10 e10 => ?_)
        · obtain ⟨rfl, hv⟩ := y
          rw [List.getElem?_map, hj] at hv; cases hv
          refine ⟨rfl, .str k, rfl, .ref fo, rfl, fo, _, rfl, .inl (SqL.of (s8 _ _ (s _ _ hfo5))), rfl, strs_flatV _, _, rfl, ?_⟩
          rw [inV_strs]
          refine ite2 (fun e => ⟨.str k, rfl, kt2 _ _ (if_pos (by simpa using e)) (Same.refl _)⟩) (fun e => kf2 _ (if_neg (by simpa using e)) (Same.refl _))
        · rw [fm_if] at e10
          refine ⟨Nat.zero_le _, fun ea nea => ⟨D3, ea, _, [], rfl, rfl, SqL.of (same_new nea _ _ e10), SqL.of upd_same, okV_strs hB.ok fun k hk => R.needMem (List.mem_filter.mp hk).1, okV_nil, _, rfl, ite2 (fun e => ?_) (fun e => ?_)⟩⟩
          · have e := of_decide_eq_true e
            refine ⟨.str x, rfl, kt _ _ (if_pos (decide_eq_true fun k hk => ?_)) (s10.trans (same_new nea))⟩
            apply Classical.byContradiction
            intro z
            have e2 := List.map_eq_nil_iff.mp e
            have : k ∈ (B.needs x).filter fun k => decide (k ∉ o) := List.mem_filter.mpr ⟨hk, decide_eq_true z⟩
            rw [e2] at this; cases this
          · refine kf _ (if_neg fun z => e (decide_eq_true ?_)) (s10.trans (same_new nea))
            have z := of_decide_eq_true z
            rw [List.map_eq_nil_iff, List.filter_eq_nil_iff]
            intro k hk q
            exact of_decide_eq_true q (z k hk)
      rw [fm_if] at e
      have mv9 := mv5.same s
      have sc9 := mv9.src hs
      have hnd9 := s _ _ hnd5
      have hfo9 := s _ _ hfo5
      have ts9 := ts5.trans (.of s)
      generalize hready : (left.filter fun n => decide (∀ k ∈ B.needs n, k ∈ o)) = ready at e
      have readyL : ready.length ≤ 8 := by rw [← hready]; exact Nat.le_trans (List.length_filter_le _ _) leftL
      have rne : 0 < ready.length := by
        have : ∃ n ∈ B.names, n ∉ o := by
          apply Classical.byContradiction
          intro hno
          have := nodup_sub_len R.nd (ys := o) fun n hn => by
            apply Classical.byContradiction
            intro z; exact hno ⟨n, hn, z⟩
          rw [names_len] at this; omega
        obtain ⟨n, hn, nn⟩ := this
        obtain ⟨k0, k1, k2, k3⟩ := R.ready (fun k => k ∈ o) (fun k => Classical.em _) hn nn
        refine List.length_pos_of_mem (a := k0) ?_
        rw [← hready]
        exact List.mem_filter.mpr ⟨by rw [← hleft]; exact List.mem_filter.mpr ⟨k1, decide_eq_true k2⟩, decide_eq_true k3⟩
      have D2off : D2 ≠ src ∧ D2 ≠ cl := (mv5.src hs).ne nD2
      refine ⟨.ref fo, rfl, .inl ⟨rfl, _, SqL.of hfo9⟩, .ref D2, rfl, .ref src, rfl, .ref D2, rfl, D2, _, rfl, .inl (SqL.of e), src, cl, _, rfl, sc9, by rw [List.length_map]; omega, fun H10 v mv10 v0 hv => ?_⟩
      rw [List.length_map] at hv
      have hvl : v.toNat < ready.length := by rcases hv with h | h <;> omega
      have e10 := mv10.keep _ _ D2off.1 D2off.2 e
      have hfo10 := mv10.keep _ _ fo1 fo2 hfo9
      have hnd10 := mv10.keep _ _ nd1 nd2 hnd9
      refine ⟨D2, _, v, .str ready[v.toNat], rfl, rfl, SqL.of e10, at_of (j := v.toNat) (by omega) (by rw [List.getElem?_map, List.getElem?_eq_getElem hvl]; rfl), ?_⟩
      have hxm : ready[v.toNat] ∈ ready := List.getElem_mem _
      generalize ready[v.toNat] = x at hxm
      rw [← hready, List.mem_filter] at hxm
      obtain ⟨xl, xr⟩ := hxm
      obtain ⟨xn, xo⟩ := leftM x xl
      have xr := of_decide_eq_true xr
      refine ⟨fo, _, .str x, rfl, rfl, hfo10, small (by rw [List.length_map]; omega), ?_⟩
      refine ⟨o ++ [x], _, _, _, rfl, (mv9.trans mv10).put hs nfoH, ?_, by rw [upd_ne (Ne.symm hfn)]; exact hnd10, by rw [upd_same, List.map_append]; rfl, by rw [List.length_append, ol]; rfl, ?_, fun n hn => ?_, ord_snoc_step oa xr⟩
      · exact (ts9.trans (mv10.tupS sc9)).trans (tupS_put hfo10 (fun _ z => nomatch z) fun _ _ z => nomatch z)
      · rw [List.nodup_append]; exact ⟨ond, by simp, fun a ha c hc z => by simp at hc; subst hc; subst z; exact xo ha⟩
      · rcases List.mem_append.mp hn with hn | hn
        · exact om n hn
        · simp at hn; subst hn; exact xn
    · obtain ⟨o, z4, z5, z6, rfl, mv, ts, hnd3, hfo3, ol, ond, om, oa⟩ := h
      refine ⟨.ref fo, rfl, fo, _, rfl, .inl ⟨SqL.of hfo3, fun p np => ?_⟩⟩
      refine q _ p o (mv.same (same_new np)) (TupA.of upd_same) ⟨perm_of_nodup ond R.nd fun a => ⟨om a, fun ha => ?_⟩, oa⟩
      exact nodup_full ond om (by rw [names_len]; omega) a ha
end
end K45
set_option Elab.async false
set_option linter.all false
set_option maxRecDepth 100000
set_option maxHeartbeats 4000000
namespace K45
open PySem PySem.Spec PyProof.Rows L2 LamX
abbrev sRight : Stmt := topS 38
abbrev nRight : List Str := ["_law_book", "_law_plan", "_law_m", "_law_jobs_here", "_law_begins", "_law_ends", "_law_name", "_law_machine", "_law_begin", "_law_beside", "_law_places", "_law_thing", "_law_units", "_law_need", "_law_other", "_law_place", "_law_late"]
theorem scRight : FnScope nRight ["_law_book", "_law_plan", "_law_m"] (defScope sRight) := ⟨rfl, rfl, rfl, by decide +kernel, rfl, by decide +kernel, by decide +kernel⟩
def spRight : Sp := fun vs H Q _ => ∃ (b p : Addr) (m : Nat) (B : Bk) (pl : List Ent), vs = [.ref b, .ref p, .int m] ∧ BookAt H b B ∧ PlanAt H p pl ∧ PlanOk B m pl ∧ ∀ (H' : Hp), Same H H' → Q (.bl true) H'
theorem mergeK_nd : ∀ {r l : List (Key × V)}, ((l ++ r).map (·.1)).Nodup → mergeK l r = l ++ r
  | [], l, _ => by rw [List.append_nil]; rfl
  | p :: r, l, h => by
    have hp : valV l p.1 = none := by
      cases e : valV l p.1 with
      | none => rfl
      | some v =>
        have hm := valV_in e
        rw [List.map_append, List.nodup_append] at h
        exact absurd rfl (h.2.2 _ hm p.1 (by simp))
    show mergeK (putK l p.1 p.2) r = _
    rw [putK_new _ (by rw [hp]; first | rfl | skip)]
    have e : l ++ p :: r = (l ++ [(p.1, p.2)]) ++ r := by simp
    rw [e] at h ⊢
    exact mergeK_nd h
def kvE (B : Bk) (e : Ent) : Str × Int := (e.1, e.2.2 + B.len e.1)
theorem dictOf {K : PySem.W.Frag} {H : Hp} {cs : List Addr} {qs : List (Str × Int)} (h : Paired (fun a (q : Str × Int) => H a = some (.tup [.str q.1, .int q.2])) cs qs) : Paired (fun (p : Addr) (kv : Key × V) => SqT K H p [kV kv.1, kv.2]) cs (dI qs) := by
  have := pair_mono h fun a q e => SqT.of (K := K) e
  exact pair_mapR _ this
section
variable {P : Program} {w : World} {K : PySem.W.Frag} {mg : Str → Option Value} {base : Heap}
set_option maxHeartbeats 16000000 in
theorem ok_right (d : Def K mg "_law_plan_right" sRight ["_law_book", "_law_plan", "_law_m"]) (cJ : Has P w K mg base "_law_jobs" ["_law_book"] 1 spLJobs) (m1 : mg "dict" = none) (m2 : mg "sorted" = none) (m3 : mg "list" = none) (m4 : mg "len" = none) (m5 : mg "sum" = none) : Has P w K mg base "_law_plan_right" ["_law_book", "_law_plan", "_law_m"] 2 spRight := d.has fun f fd F => by
  refine F.ok scRight (fun vs H Q E h => ?_) (fun cdv A outer s H vs Q E hr h => ?_)
  · obtain ⟨b, p, m, B, pl, rfl, _⟩ := h; rfl
  · obtain ⟨b, p, m, B, pl, rfl, hB, hp, ok, q⟩ := h
    have R := hB.R
    have few := R.few
    refine ⟨_, pss_cons (ps_asg (pe_tup (pa_cons (pe_has cJ hr (pa_cons (pv 0) pa_nil)) (pa_cons (pe_callTy (call_dictP rfl) (by rfl) m1 (by decide +kernel) (pa_cons (pe_lc (own := [("_law_name", 6), ("_law_machine", 7), ("_law_begin", 8)]) (g := gTup K 3 (gCons (gName 6) (gCons (gName 7) (gCons (gName 8) gNil)))) (tt := tYes) rfl scRight.nd (pi_tup (pv 1)) (blkOk_by (own := [("_law_name", 6), ("_law_machine", 7), ("_law_begin", 8)]) (N := nRight) (sc := defScope sRight) (by decide +kernel))
          (fun _ _ _ _ _ => pg_tup rfl (pgs_cons (pg_name (i := 6) scRight.nd rfl (Or.inl rfl)) (pgs_cons (pg_name (i := 7) scRight.nd rfl (Or.inl rfl)) (pgs_cons (pg_name (i := 8) scRight.nd rfl (Or.inl rfl)) pgs_nil)))) (fun _ _ _ _ _ => pts_nil) (fun _ _ _ _ _ => pe_tup (pa_cons (pv 6) (pa_cons (pv 8) pa_nil)))) pa_nil)) pa_nil))) (pg_tup rfl (pgs_cons (pg_name (i := 3) scRight.nd rfl (Or.inr rfl)) (pgs_cons (pg_name (i := 4) scRight.nd rfl (Or.inr rfl)) pgs_nil))))
      (pss_cons (ps_set (i := 5) scRight.nd rfl (Or.inr rfl) (pe_callTy (call_dictP rfl) (by rfl) m1 (by decide +kernel) (pa_cons (pe_lock (pe_lc (own := [("_law_name", 6)]) (g := gName 6) (tt := tYes) rfl scRight.nd (pi_keys (pv 4)) (blkOk_by (own := [("_law_name", 6)]) (N := nRight) (sc := defScope sRight) (by decide +kernel))
          (fun _ _ _ _ _ => pg_name (i := 6) scRight.nd rfl (Or.inl rfl)) (fun _ _ _ _ _ => pts_nil) (fun _ _ _ _ _ => pe_tup (pa_cons (pv 6) (pa_cons (pe_op op_add (pe_dget (hu_of hr) (pv 4) (pv 6) (fun _ _ => rfl)) (pe_ix (r := rIxT K) ix_tup (pe_dget (hu_of hr) (pv 3) (pv 6) (fun _ _ => rfl)) pe_int (fun _ _ => rfl))) pa_nil))))) pa_nil)))
      (pss_cons (ps_if (pt_cmpR (op_neL hr.units) (pe_callB (id := "sorted") (r := rSortedS K) cr_sortedS (by rfl) m2 (by decide +kernel) (pa_cons (pe_callTy (call_listD rfl) (by rfl) m3 (by decide +kernel) (pa_cons (pv 4) pa_nil)) pa_nil)) (pe_callB (id := "sorted") (r := rSortedS K) cr_sortedS (by rfl) m2 (by decide +kernel) (pa_cons (pe_callTy (call_listD rfl) (by rfl) m3 (by decide +kernel) (pa_cons (pv 3) pa_nil)) pa_nil)) (nomark _)) pss_never pss_nil)
      (pss_cons (ps_for PassesOwn.never rfl (pi_tup (pv 1)) (pg_tup rfl (pgs_cons (pg_name (i := 6) scRight.nd rfl (Or.inl rfl)) (pgs_cons (pg_name (i := 7) scRight.nd rfl (Or.inl rfl)) (pgs_cons (pg_name (i := 8) scRight.nd rfl (Or.inr rfl)) pgs_nil))))
        (pss_cons (ps_if (pw_or (pt_cmpR op_lt (pv 8) (pe_ix (r := rIxT K) ix_tup (pe_dget (hu_of hr) (pv 3) (pv 6) (fun _ _ => rfl)) pe_int (fun _ _ => rfl)) (nomark _)) (pw_or1 (pt_cmpR (op_neL hr.units) (pe_lc (own := [("_law_need", 13)]) (g := gName 13) rfl scRight.nd (pi_tup (pe_ix (r := rIxT K) ix_tup (pe_dget (hu_of hr) (pv 3) (pv 6) (fun _ _ => rfl)) pe_int (fun _ _ => rfl))) (blkOk_by (own := [("_law_need", 13)]) (N := nRight) (sc := defScope sRight) (by decide +kernel))
            (fun _ _ _ _ _ => pg_name (i := 13) scRight.nd rfl (Or.inl rfl)) (fun _ _ _ _ _ => pts_one (pt_cmpR op_gt (pe_dget (hu_of hr) (pv 5) (pv 13) (fun _ _ => rfl)) (pv 8) (nomark _))) (fun _ _ _ _ _ => pv 13)) (pe_lst pa_nil) (nomark _)))).pt pss_never pss_nil)
        (pss_cons (ps_setLc (i := 9) (own := [("_law_other", 14), ("_law_place", 15), ("_law_late", 16)]) (g := gTup K 3 (gCons (gName 14) (gCons (gName 15) (gCons (gName 16) gNil)))) rfl scRight.nd rfl rfl rfl (pi_tup (pv 1)) (blkOk_by (own := [("_law_other", 14), ("_law_place", 15), ("_law_late", 16)]) (N := nRight) (sc := defScope sRight) (by decide +kernel))
            (fun _ _ _ _ _ => pg_tup rfl (pgs_cons (pg_name (i := 14) scRight.nd rfl (Or.inl rfl)) (pgs_cons (pg_name (i := 15) scRight.nd rfl (Or.inl rfl)) (pgs_cons (pg_name (i := 16) scRight.nd rfl (Or.inl rfl)) pgs_nil)))) (fun _ _ _ _ _ => pts_one (pt_chain op_le op_lt (pv 16) (pv 8) (pe_dget (hu_of hr) (pv 5) (pv 14) (fun _ _ => rfl)))) (fun _ _ _ _ _ => pv 14))
        (pss_cons (ps_setLc (i := 10) (own := [("_law_other", 14), ("_law_place", 15), ("_law_late", 16)]) (g := gTup K 3 (gCons (gName 14) (gCons (gName 15) (gCons (gName 16) gNil)))) rfl scRight.nd rfl rfl rfl (pi_tup (pv 1)) (blkOk_by (own := [("_law_other", 14), ("_law_place", 15), ("_law_late", 16)]) (N := nRight) (sc := defScope sRight) (by decide +kernel))
            (fun _ _ _ _ _ => pg_tup rfl (pgs_cons (pg_name (i := 14) scRight.nd rfl (Or.inl rfl)) (pgs_cons (pg_name (i := 15) scRight.nd rfl (Or.inl rfl)) (pgs_cons (pg_name (i := 16) scRight.nd rfl (Or.inl rfl)) pgs_nil)))) (fun _ _ _ _ _ => pts_one (pt_chain op_le op_lt (pv 16) (pv 8) (pe_dget (hu_of hr) (pv 5) (pv 14) (fun _ _ => rfl)))) (fun _ _ _ _ _ => pv 15))
        (pss_cons (ps_if (pw_or (pt_cmpR op_ne (pe_callB call_lenD (by rfl) m4 (by decide +kernel) (pa_cons (pe_callTy (call_dictP rfl) (by rfl) m1 (by decide +kernel) (pa_cons (pe_lc (own := [("_law_place", 15)]) (g := gName 15) (tt := tYes) rfl scRight.nd (pi_list (pv 10)) (blkOk_by (own := [("_law_place", 15)]) (N := nRight) (sc := defScope sRight) (by decide +kernel))
            (fun _ _ _ _ _ => pg_name (i := 15) scRight.nd rfl (Or.inl rfl)) (fun _ _ _ _ _ => pts_nil) (fun _ _ _ _ _ => pe_tup (pa_cons (pv 15) (pa_cons pe_int pa_nil)))) pa_nil)) pa_nil)) (pe_callB call_len_seq (by rfl) m4 (by decide +kernel) (pa_cons (pv 9) pa_nil)) (nomark _)) (pw_or1 (pt_not (pt_chain op_le op_lt pe_int (pv 7) (pv 2))))).pt pss_never pss_nil)
        (pss_one (ps_for PassesOwn.never rfl (pi_tup (pe_ix (r := rIxT K) ix_tup (pv 0) pe_int (fun _ _ => rfl))) (pg_tup rfl (pgs_cons (pg_name (i := 11) scRight.nd rfl (Or.inr rfl)) (pgs_cons (pg_name (i := 12) scRight.nd rfl (Or.inl rfl)) pgs_nil)))
          (pss_one (ps_if (pt_cmpR op_gt (pe_callB (cr_sum rfl) (by rfl) m5 (by decide +kernel) (pa_cons (pe_lc (own := [("_law_other", 14)]) (g := gName 14) (tt := tYes) rfl scRight.nd (pi_list (pv 9)) (blkOk_by (own := [("_law_other", 14)]) (N := nRight) (sc := defScope sRight) (by decide +kernel))
            (fun _ _ _ _ _ => pg_name (i := 14) scRight.nd rfl (Or.inl rfl)) (fun _ _ _ _ _ => pts_nil) (fun _ _ _ _ _ => pe_dget2 (td := tCB (rDPT K) (tCons (tOp (rIxT K) (tDGet (tVar 3) (tVar 14)) (tC (.int 4))) tNil)) (hu_of hr) (pe_callTy (call_dictPT rfl) (by rfl) m1 (by decide +kernel) (pa_cons (pe_ix ix_tup (pe_dget (hu_of hr) (pv 3) (pv 14) (fun _ _ => rfl)) pe_int (fun _ _ => rfl)) pa_nil)) (pv 11) pe_int ⟨rfl, rfl, rfl, rfl⟩)) pa_nil)) (pv 12) (nomark _)) pss_never pss_nil)))))))))
      (pss_one (ps_ret pe_bl))))), ?_⟩
    have ndn : (pl.map (·.1)).Nodup := by rw [ok.nm]; exact R.nd
    have pll : pl.length = B.jobs.length := by have := congrArg List.length ok.nm; rw [List.length_map, names_len] at this; exact this
    have pnm : ∀ e ∈ pl, e.1 ∈ B.names := fun e he => by rw [← ok.nm]; exact List.mem_map.mpr ⟨e, he, rfl⟩
    have kb : (pl.map bn).map (·.1) = pl.map (·.1) := by rw [List.map_map]; rfl
    have ke : (pl.map (kvE B)).map (·.1) = pl.map (·.1) := by rw [List.map_map]; rfl
    have lkb : ∀ e ∈ pl, lk (pl.map bn) e.1 = some e.2.2 := fun e he => lk_of_mem (by rw [kb]; exact ndn) (List.mem_map.mpr ⟨e, he, rfl⟩)
    have lke : ∀ e ∈ pl, lk (pl.map (kvE B)) e.1 = some (e.2.2 + B.len e.1) := fun e he => lk_of_mem (by rw [ke]; exact ndn) (List.mem_map.mpr ⟨e, he, rfl⟩)
    obtain ⟨as, p1, p2⟩ := hp
    have al := pair_len p2
    refine ⟨.ref b, rfl, b, B, rfl, hB, fun H1 jd s1 njd hjd => ?_⟩
    -- begins
    refine ⟨.ref p, rfl, p, rfl, ⟨_, (p1.mono (.of s1)).sq⟩, fun D1 nD1 => ?_⟩
    refine lc_new (walk_tup (xs := as.map V.ref)) pl (fun e => some [.str e.1, .int e.2.2]) nD1 (by rw [List.length_map, al]) (by omega) (fun H' s => (p1.mono (.of (s1.trans s))).sq) (fun i e v H7 H7' Kt Kf he s y kt kf hD => ?_) (fun H2 cs1 s2 e2 hpr2 _ => ?_)
    · obtain ⟨rfl, hv⟩ := y
      obtain ⟨a, ha, hea⟩ := pair_get p2 he
      rw [List.getElem?_map, ha] at hv; cases hv
      exact ⟨a, entV e, rfl, SqT.of (s _ _ (s1 _ _ hea)), rfl, .str e.1, _, rfl, .int e.2.1, _, rfl, .int e.2.2, [], rfl, rfl, rfl, .str e.1, rfl, .int e.2.2, rfl, (by show 2 ≤ sizeLine; decide), fun y ny => kt _ y _ rfl (same_new ny) upd_same (s.free ny) fun z => hD (by rw [← z]; exact ny)⟩
    rw [fm_all] at hpr2
    have hpr2 := pair_mapR (F := fun (a : Addr) (q : Str × Int) => H2 a = some (.tup [.str q.1, .int q.2])) bn (pair_unmap (fun e : Ent => [V.str e.1, .int e.2.2]) hpr2)
    refine ⟨D1, cs1, dI (pl.map bn), rfl, SqL.of e2, dictOf hpr2, fun bd nbd => ?_⟩
    rw [merge0_dF (by rw [kb]; exact ndn)]
    refine ⟨(by show 2 ≤ sizeLine; decide), fun tt ntt => ⟨tt, [.ref jd, .ref bd], rfl, SqT.of upd_same, rfl, .ref jd, _, rfl, .ref bd, [], rfl, rfl, ?_⟩⟩
    have s3 := (s2.trans (same_new (o := .dK (dI (pl.map bn))) nbd)).trans (same_new (o := .tup [.ref jd, .ref bd]) ntt)
    have sA := s1.trans s3
    have hjd := hjd.same s3
    have hbd := same_new ntt (o := .tup [.ref jd, .ref bd]) bd _ (upd_same (H := H2) (o := .dK (dI (pl.map bn))))
    generalize upd (upd H2 bd (.dK (dI (pl.map bn)))) tt (.tup [.ref jd, .ref bd]) = H3 at sA hjd hbd
    clear s3 s2 s1 e2 hpr2 nD1 nbd ntt njd
    -- ends
    refine ⟨bd, .dK (dI (pl.map bn)), hbd, trivial, fun od => ?_⟩
    refine ⟨.ref bd, rfl, bd, od, rfl, .inl ⟨_, upd_same, fun D2 nD2 => ?_⟩⟩
    have k4 : TupS H3 (upd H3 bd (.frz od (.dK (dI (pl.map bn))))) := tupS_lock hbd
    have hD2b : D2 ≠ bd := fun z => by rw [z, upd_same] at nD2; cases nD2
    have hjb : jd ≠ bd := fun z => by
      obtain ⟨l, h, hl⟩ := hjd
      rw [z, hbd] at h
      have h := HO.dK.inj (Option.some.inj h)
      unfold dI dF at h
      cases pl with
      | nil => exact R.ne (List.length_eq_zero_iff.mp (by simpa using pll.symm))
      | cons e pl =>
        cases l with
        | nil => cases h
        | cons x l => injection h with h _; injection h with _ h; cases h
    have hjd4 : JbAt (upd H3 bd (.frz od (.dK (dI (pl.map bn))))) jd B.jobs := by
      obtain ⟨l, h, hl⟩ := hjd
      exact ⟨l, by rw [upd_ne hjb]; exact h, pair_mono hl fun q j h => ⟨h.1, h.2.mono k4⟩⟩
    refine lc_new walk_keys pl (fun e => some [.str e.1, .int (e.2.2 + B.len e.1)]) nD2 (by rw [dF_length, List.length_map]) (by omega) (fun H7 s => s _ _ upd_same) (fun i e v H7 H7' Kt Kf he s y kt kf hD => ?_) (fun H4 cs2 s4 e4 hpr4 _ => ?_)
    · obtain ⟨rfl, k, u, hk, rfl⟩ := y
      unfold dI dF at hk
      rw [List.getElem?_map, List.getElem?_map, he] at hk; cases hk
      have hem := List.mem_of_getElem? he
      obtain ⟨j, hj⟩ := job_some (pnm e hem)
      obtain ⟨ja, hja1, hja2⟩ := (hjd4.same s).at_ hj
      obtain ⟨n', u, mode, cmd, tries, e1, _⟩ := hja2.ex
      refine ⟨rfl, .str e.1, rfl, .ref bd, rfl, .str e.1, rfl, bd, _, rfl, dget_some (.inr ⟨od, s _ _ upd_same⟩) (lkb e hem), .ref jd, rfl, .str e.1, rfl, jd, .ref ja, rfl, hja1, ja, _, 5, .int j.len, rfl, rfl, SqT.of e1, atI_nat (j := 5) rfl, e.2.2, j.len, rfl, rfl, (by show 2 ≤ sizeLine; decide), fun y ny => kt _ y _ (by rw [len_at hj]) (same_new ny) upd_same (s.free ny) fun z => hD (by rw [← z]; exact ny)⟩
    rw [fm_all] at hpr4
    have hpr4 := pair_mapR (F := fun (a : Addr) (q : Str × Int) => H4 a = some (.tup [.str q.1, .int q.2])) (kvE B) (pair_unmap (fun e : Ent => [V.str e.1, .int (e.2.2 + B.len e.1)]) hpr4)
    refine ⟨s4 _ _ upd_same, ?_⟩
    have s5 := same_unlock s4 hbd
    have e4' : upd H4 bd (.dK (dI (pl.map bn))) D2 = some (.lst (cs2.map V.ref)) := by rw [upd_ne hD2b]; exact e4
    have hpr5 := pair_mono hpr4 fun a q h => (show upd H4 bd (.dK (dI (pl.map bn))) a = some (.tup [.str q.1, .int q.2]) by
      rw [upd_ne (fun z => by rw [z, s4 _ _ upd_same] at h; cases h)]; exact h)
    have hbd5 : upd H4 bd (.dK (dI (pl.map bn))) bd = some (.dK (dI (pl.map bn))) := upd_same
    generalize upd H4 bd (.dK (dI (pl.map bn))) = H5 at s5 e4' hpr5 hbd5
    refine ⟨D2, cs2, dI (pl.map (kvE B)), rfl, SqL.of e4', dictOf hpr5, fun ed ned => ?_⟩
    rw [merge0_dF (by rw [ke]; exact ndn)]
    have s6 := s5.trans (same_new (o := .dK (dI (pl.map (kvE B)))) ned)
    have sB := sA.trans s6
    have hjd := hjd.same s6
    have hbd := same_new ned (o := .dK (dI (pl.map (kvE B)))) _ _ hbd5
    have hed : upd H5 ed (.dK (dI (pl.map (kvE B)))) ed = some (.dK (dI (pl.map (kvE B)))) := upd_same
    generalize upd H5 ed (.dK (dI (pl.map (kvE B)))) = H6 at sB hjd hbd hed
    clear s6 s5 s4 e4 e4' hpr4 hpr5 nD2 ned hjd4 k4 hbd5 sA
    -- the names
    have eb : (dI (pl.map bn)).map (fun kv : Key × V => kV kv.1) = B.names.map V.str := by
      unfold dI dF
      rw [List.map_map, List.map_map, ← ok.nm, List.map_map]; rfl
    obtain ⟨jl, hjl1, hjl2⟩ := id hjd
    have ej : (dF V.ref jl).map (fun kv : Key × V => kV kv.1) = B.names.map V.str := by
      unfold dF
      rw [List.map_map, show B.names = jl.map (·.1) from (pair_names2 hjl2).symm, List.map_map]; rfl
    have nl : B.names.length = B.jobs.length := names_len B
    refine ⟨.ref bd, rfl, bd, _, rfl, .inl hbd, fun l1 nl1 => ⟨l1, B.names, rfl, SqL.of (by rw [upd_same, eb]), by omega, fun y1 q1 hp1 hs1 nq1 => ?_⟩⟩
    have s7 := (same_new (o := .lst ((dI (pl.map bn)).map fun kv => kV kv.1)) nl1).trans (same_new (o := .lst (y1.map V.str)) nq1)
    have hq1 : upd (upd H6 l1 (.lst ((dI (pl.map bn)).map fun kv => kV kv.1))) q1 (.lst (y1.map V.str)) q1 = some (.lst (y1.map V.str)) := upd_same
    generalize upd (upd H6 l1 (.lst ((dI (pl.map bn)).map fun kv => kV kv.1))) q1 (.lst (y1.map V.str)) = H7 at s7 hq1
    refine ⟨.ref jd, rfl, jd, _, rfl, .inl (s7 _ _ hjl1), fun l2 nl2 => ⟨l2, B.names, rfl, SqL.of (by rw [upd_same, ej]), by omega, fun y2 q2 hp2' hs2 nq2 => ?_⟩⟩
    have s8 := (same_new (o := .lst ((dF V.ref jl).map fun kv => kV kv.1)) nl2).trans (same_new (o := .lst (y2.map V.str)) nq2)
    have hq2 : upd (upd H7 l2 (.lst ((dF V.ref jl).map fun kv => kV kv.1))) q2 (.lst (y2.map V.str)) q2 = some (.lst (y2.map V.str)) := upd_same
    generalize upd (upd H7 l2 (.lst ((dF V.ref jl).map fun kv => kV kv.1))) q2 (.lst (y2.map V.str)) = H8 at s8 hq2
    have ey : y1 = y2 := sorted_unique (hp1.trans hp2'.symm) hs1 hs2
    refine ⟨q1, q2, _, _, rfl, rfl, SqL.of (s8 _ _ hq1), SqL.of hq2, okV_strs hB.ok fun x hx => hp1.mem_iff.mp hx, okV_strs hB.ok fun x hx => hp2'.mem_iff.mp hx, _, rfl, ?_⟩
    refine iteNS (by rw [ey]) ?_
    have sC := sB.trans (s7.trans s8)
    have hjd := (hjd.same s7).same s8
    have hbd := s8 _ _ (s7 _ _ hbd)
    have hed := s8 _ _ (s7 _ _ hed)
    clear s7 s8 hq1 hq2 sB nl1 nl2 nq1 nq2 hjl1 hjl2
    -- entry by entry
    refine ⟨.ref p, rfl, p, rfl, ⟨_, (p1.mono (.of sC)).sq⟩, ?_⟩
    refine for_it (walk_tup (xs := as.map V.ref)) (fun i σ2 H2 => ∃ (z6 z7 z8 z9 z10 z11 z12 : Option V), σ2 = [some (.ref b), some (.ref p), some (.int m), some (.ref jd), some (.ref bd), some (.ref ed), z6, z7, z8, z9, z10, z11, z12, none, none, none, none] ∧ Same H8 H2)
      ⟨none, none, none, none, none, none, none, rfl, .refl _⟩ (fun i σ2 H2 _ h => ?_) (fun i v σ2 H9 H9' hi h y => ?_) (fun σ2 H2 h => ?_)
    · obtain ⟨_, _, _, _, _, _, _, _, s⟩ := h
      exact (p1.mono (.of (sC.trans s))).sq
    · obtain ⟨z6, z7, z8, z9, z10, z11, z12, rfl, sl⟩ := h
      obtain ⟨rfl, hv⟩ := y
      have hi' : i < pl.length := by rw [List.length_map] at hi; omega
      have he : pl[i]? = some pl[i] := List.getElem?_eq_getElem hi'
      generalize pl[i] = e at he
      obtain ⟨a, ha, hea⟩ := pair_get p2 he
      rw [List.getElem?_map, ha] at hv; cases hv
      have hem := List.mem_of_getElem? he
      obtain ⟨j, hj⟩ := job_some (pnm e hem)
      have sD := sC.trans sl
      refine ⟨a, entV e, rfl, SqT.of (sD _ _ hea), rfl, .str e.1, _, rfl, .int e.2.1, _, rfl, .int e.2.2, [], rfl, rfl, ?_⟩
      obtain ⟨ja, hja1, hja2⟩ := (hjd.same sl).at_ hj
      obtain ⟨n', u, mode, cmd, tries, e1, e2, e3⟩ := hja2.ex
      have hst := ok.st e hem
      rw [start_at hj] at hst
      refine ⟨.int e.2.2, rfl, .ref jd, rfl, .str e.1, rfl, jd, .ref ja, rfl, hja1, ja, _, 7, .int j.start, rfl, rfl, SqT.of e1, atI_nat (j := 7) rfl, e.2.2, j.start, rfl, rfl, _, rfl, ?_⟩
      rw [decide_eq_false (by omega)]
      refine iteF ?_
      have hnd := R.nfew j (job_mem hj).1
      refine ⟨.ref jd, rfl, .str e.1, rfl, jd, .ref ja, rfl, hja1, ja, _, 2, .ref n', rfl, rfl, SqT.of e1, atI_nat (j := 2) rfl, n', rfl, ⟨_, e2.sq⟩, fun D3 nD3 => ?_⟩
      refine lc_std (walk_tup (xs := j.needs.map V.str)) j.needs (fun _ => (none : Option V)) nD3 (List.length_map _) (by omega) (fun H7 s => TupA.sq (e2.mono (.of s))) (fun x k v H7 H7' Kt Kf hk s y kt kf => ?_) (fun H10 s10 e10 => ?_)
      · obtain ⟨rfl, hv⟩ := y
        rw [List.getElem?_map, hk] at hv; cases hv
        obtain ⟨f, hf, ef, hle⟩ := ok.nds e hem k (by rw [needs_at hj]; exact List.mem_of_getElem? hk)
        have hlk := lke f hf
        rw [ef] at hlk
        refine ⟨rfl, .ref ed, rfl, .str k, rfl, ed, _, rfl, dget_some (.inl (s _ _ (sl _ _ hed))) hlk, .int e.2.2, rfl, _, e.2.2, rfl, rfl, _, rfl, ?_⟩
        rw [decide_eq_false (by omega)]
        exact iteF (kf _ rfl (Same.refl _))
      have e10 : H10 D3 = some (.lst ([] : List V)) := by rw [e10]; congr 2; exact List.filterMap_eq_nil_iff.mpr fun _ _ => rfl
      refine ⟨Nat.zero_le _, fun ea nea => ⟨D3, ea, [], [], rfl, rfl, SqL.of (same_new nea _ _ e10), SqL.of upd_same, okV_nil, okV_nil, _, rfl, ?_⟩⟩
      refine iteNS rfl ?_
      have sE := s10.trans (same_new (o := .lst []) nea)
      have sF := sD.trans sE
      have hjd := (hjd.same sl).same sE
      have hed := sE _ _ (sl _ _ hed)
      have slE := sl.trans sE
      generalize upd H10 ea (.lst []) = H11 at sE sF hjd hed slE
      clear sD s10 e10 nea nD3 e1 e2 e3 hja1 hja2 sl
      -- what runs beside it
      have cond : ∀ {τ : L2.St} {x : Ent} {H' : Hp} {Q : Bool → Hp → Prop}, True → True := fun _ => trivial
      refine ⟨.ref p, rfl, p, rfl, ⟨_, (p1.mono (.of sF)).sq⟩, fun D4 nD4 => ?_⟩
      refine lc_std (walk_tup (xs := as.map V.ref)) pl (fun x => if rnb B e.2.2 (bn x) = true then some (.str x.1) else none) nD4 (by rw [List.length_map, al]) (by omega) (fun H7 s => (p1.mono (.of (sF.trans s))).sq) (fun i x v H7 H7' Kt Kf hx s y kt kf => ?_) (fun H12 s12 e12 => ?_)
      · obtain ⟨rfl, hv⟩ := y
        obtain ⟨c, hc, hxc⟩ := pair_get p2 hx
        rw [List.getElem?_map, hc] at hv; cases hv
        have hlk := lke x (List.mem_of_getElem? hx)
        refine ⟨c, entV x, rfl, SqT.of (s _ _ (sF _ _ hxc)), rfl, .str x.1, _, rfl, .int x.2.1, _, rfl, .int x.2.2, [], rfl, rfl, rfl, .int x.2.2, rfl, .int e.2.2, rfl, x.2.2, e.2.2, rfl, rfl, _, rfl, ?_⟩
        by_cases h1 : x.2.2 ≤ e.2.2
        · rw [decide_eq_true h1]
          refine iteT ⟨.ref ed, rfl, .str x.1, rfl, ed, _, rfl, dget_some (.inl (s _ _ hed)) hlk, e.2.2, _, rfl, rfl, _, rfl, ite2 (fun h2 => ⟨.str x.1, rfl, kt _ _ (if_pos ?_) (Same.refl _)⟩) (fun h2 => kf _ (if_neg fun z => h2 ?_) (Same.refl _))⟩
          · exact decide_eq_true ⟨h1, of_decide_eq_true h2⟩
          · exact decide_eq_true (of_decide_eq_true z).2
        · rw [decide_eq_false h1]
          exact iteF ⟨_, rfl, iteF (kf _ (if_neg fun z => h1 (of_decide_eq_true z).1) (Same.refl _))⟩
      rw [fm_if] at e12
      have sG := sF.trans s12
      refine ⟨.ref p, rfl, p, rfl, ⟨_, (p1.mono (.of sG)).sq⟩, fun D5 nD5 => ?_⟩
      refine lc_std (walk_tup (xs := as.map V.ref)) pl (fun x => if rnb B e.2.2 (bn x) = true then some (.int x.2.1) else none) nD5 (by rw [List.length_map, al]) (by omega) (fun H7 s => (p1.mono (.of (sG.trans s))).sq) (fun i x v H7 H7' Kt Kf hx s y kt kf => ?_) (fun H13 s13 e13 => ?_)
      · obtain ⟨rfl, hv⟩ := y
        obtain ⟨c, hc, hxc⟩ := pair_get p2 hx
        rw [List.getElem?_map, hc] at hv; cases hv
        have hlk := lke x (List.mem_of_getElem? hx)
        refine ⟨c, entV x, rfl, SqT.of (s _ _ (sG _ _ hxc)), rfl, .str x.1, _, rfl, .int x.2.1, _, rfl, .int x.2.2, [], rfl, rfl, rfl, .int x.2.2, rfl, .int e.2.2, rfl, x.2.2, e.2.2, rfl, rfl, _, rfl, ?_⟩
        by_cases h1 : x.2.2 ≤ e.2.2
        · rw [decide_eq_true h1]
          refine iteT ⟨.ref ed, rfl, .str x.1, rfl, ed, _, rfl, dget_some (.inl (s _ _ (s12 _ _ hed))) hlk, e.2.2, _, rfl, rfl, _, rfl, ite2 (fun h2 => ⟨.int x.2.1, rfl, kt _ _ (if_pos ?_) (Same.refl _)⟩) (fun h2 => kf _ (if_neg fun z => h2 ?_) (Same.refl _))⟩
          · exact decide_eq_true ⟨h1, of_decide_eq_true h2⟩
          · exact decide_eq_true (of_decide_eq_true z).2
        · rw [decide_eq_false h1]
          exact iteF ⟨_, rfl, iteF (kf _ (if_neg fun z => h1 (of_decide_eq_true z).1) (Same.refl _))⟩
      rw [fm_if] at e13
      have sH := sG.trans s13
      have e12 := s13 _ _ e12
      have erun : (pl.filter fun x => rnb B e.2.2 (bn x)).map (fun x => V.str x.1) = (run B (pl.map bn) e.2.2).map V.str := by
        unfold run
        rw [List.filter_map, List.map_map, List.map_map]; rfl
      rw [erun] at e12
      have rlen : (run B (pl.map bn) e.2.2).length = (pl.filter fun x => rnb B e.2.2 (bn x)).length := by
        have := congrArg List.length erun
        rw [List.length_map, List.length_map] at this; exact this.symm
      generalize hpf : (pl.filter fun x => rnb B e.2.2 (bn x)) = pf at e13 rlen
      have pfl : pf.length ≤ 8 := by rw [← hpf]; have := List.length_filter_le (fun x => rnb B e.2.2 (bn x)) pl; omega
      have pnd : (pf.map fun x => x.2.1).Nodup := by
        rw [List.nodup_iff_pairwise_ne, List.pairwise_map]
        have h0 : pl.Pairwise fun a c => a.1 ≠ c.1 := by
          have := ndn
          rw [List.nodup_iff_pairwise_ne, List.pairwise_map] at this; exact this
        rw [← hpf]
        refine (h0.filter _).imp_of_mem fun {a c} ha hc hne hm => ?_
        obtain ⟨ha1, ha2⟩ := List.mem_filter.mp ha
        obtain ⟨hc1, hc2⟩ := List.mem_filter.mp hc
        exact ok.sep a ha1 c hc1 hne hm e.2.2 ha2 hc2
      -- the machines differ
      refine ⟨.ref D5, rfl, D5, rfl, ⟨_, SqL.of e13⟩, fun D6 nD6 => ?_⟩
      refine lc_new (walk_list (xs := pf.map fun x => V.int x.2.1)) pf (fun x => some [.int x.2.1, .int 0]) nD6 (List.length_map _) (by omega) (fun H' s => SqL.of (s _ _ e13)) (fun i x v H7 H7' Kt Kf hx s y kt kf hD => ?_) (fun H14 cs14 s14 e14 hpr14 _ => ?_)
      · obtain ⟨rfl, hv⟩ := y
        rw [List.getElem?_map, hx] at hv; cases hv
        exact ⟨rfl, .int x.2.1, rfl, (by show 2 ≤ sizeLine; decide), fun y ny => kt _ y _ rfl (same_new ny) upd_same (s.free ny) fun z => hD (by rw [← z]; exact ny)⟩
      rw [fm_all] at hpr14
      have hpr14 := pair_unmap (fun x : Ent => [V.int x.2.1, .int 0]) hpr14
      have hpr15 : Paired (fun a (c : Ent) => SqT K H14 a [kV (Sum.inl c.2.1 : Key), V.int 0]) cs14 pf := pair_mono hpr14 fun a c h => SqT.of h
      refine ⟨D6, cs14, pf.map (fun x : Ent => ((Sum.inl x.2.1 : Key), V.int 0)), rfl, SqL.of e14, pair_mapR (F := fun (p : Addr) (kv : Key × V) => SqT K H14 p [kV kv.1, kv.2]) (fun x : Ent => ((Sum.inl x.2.1 : Key), V.int 0)) hpr15, fun dd ndd => ?_⟩
      rw [mergeK_nd (l := []) (by rw [List.nil_append, List.map_map]; exact (by
        have : (pf.map ((fun x : Key × V => x.1) ∘ fun x : Ent => ((Sum.inl x.2.1 : Key), V.int 0))) = (pf.map fun x => x.2.1).map (Sum.inl : Int → Key) := by rw [List.map_map]; rfl
        rw [this, List.nodup_iff_pairwise_ne, List.pairwise_map]
        rw [List.nodup_iff_pairwise_ne] at pnd
        exact pnd.imp fun h z => h (Sum.inl.inj z)))]
      have s15 := s14.trans (same_new (o := .dK ([] ++ pf.map (fun x : Ent => ((Sum.inl x.2.1 : Key), V.int 0)))) ndd)
      refine ⟨dd, _, rfl, upd_same, .ref D4, rfl, D4, _, rfl, .inl (SqL.of (s15 _ _ e12)), rfl, _, rfl, ?_⟩
      have elen : decide (V.int (([] ++ pf.map (fun x : Ent => ((Sum.inl x.2.1 : Key), V.int 0))).length : Nat) = V.int (((run B (pl.map bn) e.2.2).map V.str).length : Nat)) = true := by
        refine decide_eq_true ?_
        rw [List.nil_append, List.length_map, List.length_map, rlen]
      rw [elen]
      refine iteF ?_
      obtain ⟨hm1, hm2⟩ := ok.mach e hem
      refine ⟨.int e.2.1, rfl, 0, e.2.1, rfl, rfl, _, rfl, ?_⟩
      rw [decide_eq_true hm1]
      refine iteT ⟨.int m, rfl, e.2.1, m, rfl, rfl, _, rfl, ?_⟩
      rw [decide_eq_true hm2]
      show (if false = true then _ else _)
      refine iteF ?_
      have sI := sH.trans s15
      have e12 := s15 _ _ e12
      have hjdI := ((hjd.same s12).same s13).same s15
      have slI := ((slE.trans s12).trans s13).trans s15
      generalize upd H14 dd (.dK ([] ++ pf.map (fun x : Ent => ((Sum.inl x.2.1 : Key), V.int 0)))) = H15 at sI e12 hjdI slI
      clear s15 s14 e14 hpr14 ndd nD6 e13 nD5 nD4 sH sG sF sE s12 s13
      -- what they use
      obtain ⟨t, js, bas, b1, b2, b3, b4⟩ := (hB.same sI).ex
      obtain ⟨tas, t1, t2⟩ := b2
      have tl := pair_len t2
      refine ⟨.ref b, rfl, b, _, 0, .ref t, rfl, rfl, SqT.of b1, atI_nat (j := 0) rfl, t, rfl, ⟨_, t1.sq⟩, ?_⟩
      refine for_it (walk_tup (xs := tas.map V.ref)) (fun i σ2 H2 => ∃ (z11 z12 : Option V), σ2 = [some (.ref b), some (.ref p), some (.int m), some (.ref jd), some (.ref bd), some (.ref ed), some (.str e.1), some (.int e.2.1), some (.int e.2.2), some (.ref D4), some (.ref D5), z11, z12, none, none, none, none] ∧ Same H15 H2)
        ⟨z11, z12, rfl, .refl _⟩ (fun i σ2 H2 _ h => ?_) (fun i v σ2 H16 H16' hi h y => ?_) (fun σ2 H2 h => ?_)
      · obtain ⟨_, _, _, s⟩ := h
        exact (t1.any.mono (.of s)).sq
      · obtain ⟨z11, z12, rfl, s16⟩ := h
        obtain ⟨rfl, hv⟩ := y
        have hi' : i < B.things.length := by rw [List.length_map] at hi; omega
        have hth : B.things[i]? = some B.things[i] := List.getElem?_eq_getElem hi'
        generalize B.things[i] = th at hth
        obtain ⟨c, hc, hxc⟩ := pair_get t2 hth
        rw [List.getElem?_map, hc] at hv; cases hv
        have hthm := List.mem_of_getElem? hth
        refine ⟨c, [.str th.1, .int th.2], rfl, SqT.of (s16 _ _ hxc), rfl, .str th.1, _, rfl, .int th.2, [], rfl, rfl, ?_⟩
        refine ⟨.ref D4, rfl, D4, rfl, ⟨_, SqL.of (s16 _ _ e12)⟩, fun D7 nD7 => ?_⟩
        have rl8 : (run B (pl.map bn) e.2.2).length ≤ 8 := by omega
        refine lc_std (walk_list (xs := (run B (pl.map bn) e.2.2).map V.str)) (run B (pl.map bn) e.2.2) (fun x => some (.int (B.useOf x th.1))) nD7 (List.length_map _) (by omega) (fun H7 s => SqL.of (s _ _ (s16 _ _ e12))) (fun i x v H7 H7' Kt Kf hx s y kt kf => ?_) (fun H17 s17 e17 => ?_)
        · obtain ⟨rfl, hv⟩ := y
          rw [List.getElem?_map, hx] at hv; cases hv
          have xn : x ∈ B.names := run_names (fun q hq => by obtain ⟨e', he', rfl⟩ := List.mem_map.mp hq; exact pnm e' he') _ x (List.mem_of_getElem? hx)
          obtain ⟨jx, hjx⟩ := job_some xn
          obtain ⟨ja, hja1, hja2⟩ := ((hjdI.same s16).same s).at_ hjx
          obtain ⟨n', u, mode, cmd, tries, e1, e2, e3⟩ := hja2.ex
          obtain ⟨us, u1, u2⟩ := prs_pairs (K := K) e3
          refine ⟨rfl, .ref jd, rfl, .str x, rfl, jd, .ref ja, rfl, hja1, ja, _, 4, .ref u, rfl, rfl, SqT.of e1, atI_nat (j := 4) rfl, u, us, _, rfl, u1, u2, fun p np => ?_⟩
          have hu := R.und jx (job_mem hjx).1
          rw [merge0_dF hu]
          refine ⟨p, rfl, .inl ⟨_, .inl upd_same⟩, .str th.1, rfl, _, dget_dF (.inl upd_same), kt _ _ ?_ (same_new np)⟩
          unfold Bk.useOf
          rw [uses_at hjx]
          cases lk jx.uses th.1 <;> rfl
        rw [fm_all] at e17
        refine ⟨D7, (run B (pl.map bn) e.2.2).map fun x => B.useOf x th.1, rfl, SqL.of (by rw [e17, List.map_map]; rfl), .int th.2, rfl, _, th.2, rfl, rfl, _, rfl, ?_⟩
        have hun := ok.un e.2.2 th hthm
        unfold used at hun
        rw [decide_eq_false (by omega)]
        exact iteF ⟨_, _, rfl, s16.trans s17⟩
      · obtain ⟨z11, z12, rfl, s16⟩ := h
        exact ⟨_, _, _, _, _, _, _, rfl, slI.trans s16⟩
    · obtain ⟨z6, z7, z8, z9, z10, z11, z12, rfl, sl⟩ := h
      exact q _ (sC.trans sl)
end
end K45
set_option Elab.async false
set_option linter.all false
set_option maxRecDepth 100000
set_option maxHeartbeats 4000000
namespace K45
open PySem PySem.Spec PyProof.Rows L2 LamX
abbrev sLaw : Stmt := topS 39
abbrev nLaw : List Str := ["_law_script", "_law_source", "_law_lap", "_law_book", "_law_m", "_law_jobs_here", "_law_order", "_law_plan", "_law_name", "_law_by_begin", "_law_other", "_law_chain", "_law_begins", "_law_table", "_law_machine", "_law_begin", "_law_one"]
theorem scLaw : FnScope nLaw ["_law_script"] (defScope sLaw) := ⟨rfl, rfl, rfl, by decide +kernel, rfl, by decide +kernel, by decide +kernel⟩
def spOpenK (K : PySem.W.Frag) : Sp := fun vs H Q _ => ∃ (a : Addr) (ns : List Int), vs = [.ref a] ∧ SqL K H a (ns.map V.int) ∧ ns.length ≤ 63 ∧ ∀ (H' : Hp) (src cl : Addr), Same H H' → SrcAt H' src cl → Q (.ref src) H'
def spLaw (K : PySem.W.Frag) (T : List (Addr × Str)) : Sp := fun vs H Q _ => ∃ (a : Addr) (ns : List Int), vs = [.ref a] ∧ SqL K H a (ns.map V.int) ∧ ns.length ≤ 63 ∧ Tabs T H ∧ ∀ H', Q (.bl true) H'
theorem SrcAt.ext {H H' : Hp} {src cl : Addr} (e : ExtN H H') (h : SrcAt H src cl) : SrcAt H' src cl := by
  obtain ⟨l, mi, tu, cs, h1, h2, h3⟩ := h.ex
  exact ⟨l, mi, tu, cs, e _ _ h1 (fun _ z => nomatch z), e _ _ h2 (fun _ z => nomatch z), h3⟩
theorem JbAt.ext {H H' : Hp} (e : ExtN H H') {d : Addr} {js : List Job} (h : JbAt H d js) : JbAt H' d js := by
  obtain ⟨l, h1, h2⟩ := h
  exact ⟨l, e _ _ h1 (fun _ z => nomatch z), pair_mono h2 fun q j h => ⟨h.1, h.2.mono (.ext e)⟩⟩
theorem cut_drop1 (xs : List V) (h : 1 ≤ xs.length) : cutV xs (some 1) none = xs.drop 1 := by
  unfold cutV
  have e : HT.sIx xs.length 0 (some ((1 : Nat) : Int)) = 1 := by rw [HT.sIx_nat]; omega
  have e : HT.sIx xs.length 0 (some (1 : Int)) = 1 := e
  rw [e, HT.sIx_none, List.take_of_length_le (by rw [List.length_drop]; omega)]
def begK (pl : List Ent) (f : List (Str × Int)) (n : Str) : List V := [.int ((lk (pl.map bn) n).getD 0), .int ((lk f n).getD 0), .str n]
/-- the calls that the law makes -/
structure Calls (P : Program) (w : World) (K : PySem.W.Frag) (mg : Str → Option Value) (base : Heap) (T : List (Addr × Str)) : Prop where
  opn : Has P w K mg base "_law_open_cells" ["_law_script"] 1 (spOpenK K)
  pick : Has P w K mg base "_law_pick" ["_law_source", "_law_most"] 1 spPick
  book : Has P w K mg base "_law_draw_book" ["_law_source", "_law_most"] 6 spBook
  lranks : Has P w K mg base "_law_ranks" ["_law_book"] 2 spLRanks
  ljobs : Has P w K mg base "_law_jobs" ["_law_book"] 1 spLJobs
  ranks : Has P w K mg base "ranks" ["book"] 4 spRanks
  some : Has P w K mg base "_law_some_order" ["_law_source", "_law_book"] 2 spSome
  list : Has P w K mg base "list_plan" ["book", "m"] 8 (spList T)
  turn : Has P w K mg base "turn_plan" ["book", "m", "order"] 5 spTurn
  inord : Has P w K mg base "in_order" ["book"] 6 (spInOrder T)
  right : Has P w K mg base "_law_plan_right" ["_law_book", "_law_plan", "_law_m"] 2 spRight
  judge : Has P w K mg base "judge_order" ["book", "value"] 3 spJudge
  plen : Has P w K mg base "plan_length" ["book", "plan"] 2 spPlen
  hangs : Has P w K mg base "hangs_on" ["book", "name"] 2 spHangs
  way : Has P w K mg base "way" ["book", "one", "other"] 3 spWay
section
variable {P : Program} {w : World} {K : PySem.W.Frag} {mg : Str → Option Value} {base : Heap}
set_option maxHeartbeats 1000000 in
theorem ok_law {T : List (Addr × Str)} {c Pt f : Addr} {fd : FuncData} (F : FunC K "law" "law" sLaw f fd c) (tb : TabB base mg c Pt) (hT : (Pt, lamQ "law") ∈ T) (hu : ∀ p ∈ T, p.1 = Pt → p.2 = lamQ "law") (C : Calls P w K mg base T)
    (m1 : mg "range" = none) (m2 : mg "dict" = none) (m3 : mg "tuple" = none) (m4 : mg "sorted" = none) (m5 : mg "list" = none) (m6 : mg "max" = none) (m7 : mg "sum" = none) : FnOk P w K mg base CX0 9 f fd ["_law_script"] (spLaw K T) := by
  refine F.ok scLaw (fun vs H Q E h => ?_) (fun A outer s H vs Q E hr h => ?_)
  · obtain ⟨a, ns, rfl, _⟩ := h; rfl
  · obtain ⟨a, ns, rfl, ha, hl, hTs, q⟩ := h
    refine ⟨_, pss_cons (ps_set (i := 1) scLaw.nd rfl (Or.inl rfl) (pe_has C.opn (hr.mono (by decide)) (pa_cons (pv 0) pa_nil)))
      (pss_cons (ps_for PassesOwn.never rfl (pi_range1 (by rfl) m1 (pa_cons pe_int pa_nil)) (pg_name (i := 2) scLaw.nd rfl (Or.inl rfl))
        (pss_cons (ps_par (i := 3) (j := 4) rfl scLaw.nd rfl rfl (by decide) rfl rfl (pa_cons (pe_has C.book (hr.mono (by decide)) (pa_cons (pv 1) (pa_cons pe_int pa_nil))) (pa_cons (pe_op op_add pe_int (pe_has C.pick (hr.mono (by decide)) (pa_cons (pv 1) (pa_cons pe_int pa_nil)))) pa_nil)) rfl)
        (pss_cons (ps_asg (pe_tup (pa_cons (pe_has C.lranks (hr.mono (by decide)) (pa_cons (pv 3) pa_nil)) (pa_cons (pe_has C.ljobs (hr.mono (by decide)) (pa_cons (pv 3) pa_nil)) pa_nil))) (pg_tup rfl (pgs_cons (pg_name (i := 13) scLaw.nd rfl (Or.inr rfl)) (pgs_cons (pg_name (i := 5) scLaw.nd rfl (Or.inr rfl)) pgs_nil))))
        (pss_cons (ps_if (pt_cmpR (op_ne_dictA hr.units0) (pe_callTy (call_dictPT rfl) (by rfl) m2 (by decide +kernel) (pa_cons (pe_has C.ranks (hr.mono (by decide)) (pa_cons (pv 3) pa_nil)) pa_nil)) (pv 13) (nomark _)) pss_never pss_nil)
        (pss_cons (ps_set (i := 6) scLaw.nd rfl (Or.inl rfl) (pe_has C.some (hr.mono (by decide)) (pa_cons (pv 1) (pa_cons (pv 3) pa_nil))))
        (pss_one (ps_for PassesOwn.never rfl (pi_tup (pe_tup (pa_cons (pe_has C.list hr (pa_cons (pv 3) (pa_cons (pv 4) pa_nil))) (pa_cons (pe_has C.turn (hr.mono (by decide)) (pa_cons (pv 3) (pa_cons (pv 4) (pa_cons (pv 6) pa_nil)))) (pa_cons (pe_has C.turn (hr.mono (by decide)) (pa_cons (pv 3) (pa_cons (pv 4) (pa_cons (pe_has C.inord (hr.mono (by decide)) (pa_cons (pv 3) pa_nil)) pa_nil)))) pa_nil))))) (pg_name (i := 7) scLaw.nd rfl (Or.inl rfl))
          (pss_cons (ps_if (pt_not (pt_val (pe_has C.right (hr.mono (by decide)) (pa_cons (pv 3) (pa_cons (pv 7) (pa_cons (pv 4) pa_nil)))))) pss_never pss_nil)
          (pss_cons (ps_set (i := 12) scLaw.nd rfl (Or.inr rfl) (pe_callTy (call_dictP rfl) (by rfl) m2 (by decide +kernel) (pa_cons (pe_lc (own := [("_law_name", 8), ("_law_machine", 14), ("_law_begin", 15)]) (g := gTup K 3 (gCons (gName 8) (gCons (gName 14) (gCons (gName 15) gNil)))) (tt := tYes) rfl scLaw.nd (pi_tup (pv 7)) (blkOk_by (own := [("_law_name", 8), ("_law_machine", 14), ("_law_begin", 15)]) (N := nLaw) (sc := defScope sLaw) (by decide +kernel))
              (fun _ _ _ _ _ => pg_tup rfl (pgs_cons (pg_name (i := 8) scLaw.nd rfl (Or.inl rfl)) (pgs_cons (pg_name (i := 14) scLaw.nd rfl (Or.inl rfl)) (pgs_cons (pg_name (i := 15) scLaw.nd rfl (Or.inl rfl)) pgs_nil)))) (fun _ _ _ _ _ => pts_nil) (fun _ _ _ _ _ => pe_tup (pa_cons (pv 8) (pa_cons (pv 15) pa_nil)))) pa_nil)))
          (pss_cons (ps_set (i := 9) scLaw.nd rfl (Or.inl rfl) (pe_callTy call_tuple_of (by rfl) m3 (by decide +kernel) (pa_cons (pe_sortLam (T := T) (i := 8) (k := 0) (x := "_law_name") (c := c) (P := Pt) (by rfl) m4 rfl scLaw.nd (hr.mono (by decide)) (pa_cons (pe_callTy (call_listD rfl) (by rfl) m5 (by decide +kernel) (pa_cons (pv 12) pa_nil)) pa_nil) tb rfl hT hu (lamP_by (by rfl)) rfl
              (fun A s H f c' hr' => pe_tup (pa_cons (pe_dget (hu_of hr') (pv 12) (pv 8) (fun _ _ => rfl)) (pa_cons (pe_dget (hu_of hr') (pv 13) (pv 8) (fun _ _ => rfl)) (pa_cons (pv 8) pa_nil))))) pa_nil)))
          (pss_cons (ps_if (pt_cmp (pc_notN (pe_has C.judge (hr.mono (by decide)) (pa_cons (pv 3) (pa_cons (pv 9) pa_nil))))) pss_never pss_nil)
          (pss_cons (ps_if (pt_cmpR op_ne (pe_has C.plen (hr.mono (by decide)) (pa_cons (pv 3) (pa_cons (pv 7) pa_nil))) (pe_callB (cr_max rfl) (by rfl) m6 (by decide +kernel) (pa_cons (pe_lock (pe_lc (own := [("_law_name", 8)]) (g := gName 8) (tt := tYes) rfl scLaw.nd (pi_keys (pv 12)) (blkOk_by (own := [("_law_name", 8)]) (N := nLaw) (sc := defScope sLaw) (by decide +kernel))
              (fun _ _ _ _ _ => pg_name (i := 8) scLaw.nd rfl (Or.inl rfl)) (fun _ _ _ _ _ => pts_nil) (fun _ _ _ _ _ => pe_op op_add (pe_dget (hu_of hr) (pv 12) (pv 8) (fun _ _ => rfl)) (pe_ix (r := rIxT K) ix_tup (pe_dget (hu_of hr) (pv 5) (pv 8) (fun _ _ => rfl)) pe_int (fun _ _ => rfl))))) pa_nil)) (nomark _)) pss_never pss_nil)
          (pss_one (ps_lock (ps_for PassesOwn.never rfl (pi_keys (pv 12)) (pg_name (i := 8) scLaw.nd rfl (Or.inl rfl))
            (pss_one (ps_for PassesOwn.never rfl (pi_tup (pe_has C.hangs (hr.mono (by decide)) (pa_cons (pv 3) (pa_cons (pv 8) pa_nil)))) (pg_name (i := 10) scLaw.nd rfl (Or.inl rfl))
              (pss_cons (ps_set (i := 11) scLaw.nd rfl (Or.inl rfl) (pe_has C.way (hr.mono (by decide)) (pa_cons (pv 3) (pa_cons (pv 8) (pa_cons (pv 10) pa_nil)))))
              (pss_one (ps_if (pt_cmpR op_gt (pe_op op_add (pe_dget (hu_of hr) (pv 12) (pv 10) (fun _ _ => rfl)) (pe_callB (cr_sum rfl) (by rfl) m7 (by decide +kernel) (pa_cons (pe_lc (own := [("_law_one", 16)]) (g := gName 16) (tt := tYes) rfl scLaw.nd (pi_tup (pe_slice (r := rSlT K) sl_tup (pv 11) (po_some pe_int) po_none)) (blkOk_by (own := [("_law_one", 16)]) (N := nLaw) (sc := defScope sLaw) (by decide +kernel))
                (fun _ _ _ _ _ => pg_name (i := 16) scLaw.nd rfl (Or.inl rfl)) (fun _ _ _ _ _ => pts_nil) (fun _ _ _ _ _ => pe_ix (r := rIxT K) ix_tup (pe_dget (hu_of hr) (pv 5) (pv 16) (fun _ _ => rfl)) pe_int (fun _ _ => rfl))) pa_nil))) (pe_dget (hu_of hr) (pv 12) (pv 8) (fun _ _ => rfl)) (nomark _)) pss_never pss_nil))))))))))))))))))))
      (pss_one (ps_ret pe_bl))), ?_⟩
    refine ⟨.ref a, rfl, a, ns, rfl, ha, hl, fun H1 src cl s1 hs1 => ?_⟩
    have hT1 := hTs.ext s1
    clear ha hTs
    refine ⟨3, rfl, by decide, by decide, ?_⟩
    refine for_it walk_range (fun i σ2 H2 => ∃ (z2 z3 z4 z5 z6 z7 z8 z9 z10 z11 z12 z13 : Option V), σ2 = [some (.ref a), some (.ref src), z2, z3, z4, z5, z6, z7, z8, z9, z10, z11, z12, z13, none, none, none] ∧ SrcAt H2 src cl ∧ Tabs T H2)
      ⟨none, none, none, none, none, none, none, none, none, none, none, none, rfl, hs1, hT1⟩ (fun _ _ _ _ _ => trivial) (fun lap x σ2 H2 H2' hlap h y => ?_) (fun σ2 H2 h => ?_)
    · clear hs1 hT1 s1
      obtain ⟨z2, z3, z4, z5, z6, z7, z8, z9, z10, z11, z12, z13, rfl, hs, hTs⟩ := h
      obtain ⟨rfl, rfl⟩ := y
      refine ⟨.ref src, rfl, src, cl, rfl, hs, fun H3 b B mv3 hB hth => ?_⟩
      have R := hB.R
      have few := R.few
      have hs3 := mv3.src hs
      have hT3 := mv3.tabs hs hTs
      refine ⟨.ref src, rfl, src, cl, 4, rfl, hs3, by decide, fun H4 v mv4 v0 hv => ⟨1, v, rfl, rfl, ?_⟩⟩
      have hB := hB.mono (mv4.tupS hs3)
      have hs4 := mv4.src hs3
      have hT4 := mv4.tabs hs3 hT3
      clear mv3 mv4 hs3 hT3 hTs hs
      obtain ⟨mn, hmn⟩ := Int.eq_ofNat_of_zero_le (show 0 ≤ 1 + v by omega)
      have hm1 : 1 ≤ mn := by omega
      refine ⟨.ref b, .int mn, (by show [V.ref b, V.int (1 + v)] = _; rw [hmn]), ?_⟩
      -- the tables
      refine ⟨.ref b, rfl, b, B, rfl, hB, fun H5 td ftab s5 _ htd hftab => ?_⟩
      refine ⟨.ref b, rfl, b, B, rfl, hB.same s5, fun H6 jd s6 njd hjd => ⟨(by show 2 ≤ sizeLine; decide), fun tt ntt => ⟨tt, [.ref td, .ref jd], rfl, SqT.of upd_same, rfl, .ref td, _, rfl, .ref jd, [], rfl, rfl, ?_⟩⟩⟩
      have s7 := (s5.trans s6).trans (same_new (o := .tup [.ref td, .ref jd]) ntt)
      have htd := same_new ntt (o := .tup [.ref td, .ref jd]) _ _ (s6 _ _ htd)
      have hjd := hjd.same (same_new (o := .tup [.ref td, .ref jd]) ntt)
      generalize upd H6 tt (.tup [.ref td, .ref jd]) = H7 at s7 htd hjd
      clear s5 s6 njd ntt
      have hB := hB.same s7
      have hs7 := hs4.same s7
      have hT7 := hT4.ext s7
      -- the ranks agree
      refine ⟨.ref b, rfl, b, B, rfl, hB, fun H8 rp fr ras s8 hrp hrpr hfr => ?_⟩
      obtain ⟨ras2, p1, p2⟩ := prs_pairs (K := K) (show PrsAt H8 rp fr from ⟨ras, hrp, hrpr⟩)
      refine ⟨rp, ras2, _, rfl, p1, p2, fun rd nrd => ?_⟩
      rw [merge0_dF hfr.nd]
      have s9 := s8.trans (same_new (o := .dK (dI fr)) nrd)
      refine ⟨.ref td, rfl, rd, td, dI fr, dI ftab, rfl, rfl, upd_same, s9 _ _ htd, ?_, ?_, false, rfl, ?_⟩
      · rw [dF_length, dF_length, rk_count R hfr, rk_count R hftab]
      · intro p hp
        unfold dI dF at hp
        obtain ⟨x, hx, rfl⟩ := List.mem_map.mp hp
        refine ⟨?_, rfl⟩
        show valV (dI ftab) (Sum.inr x.1) = some (V.int x.2)
        rw [valV_dF, ← rk_unique R hfr hftab (hfr.sub x hx), lk_of_mem hfr.nd hx]; rfl
      refine iteF ?_
      have hB := hB.same s9
      have htd := s9 _ _ htd
      have hjd := hjd.same s9
      have hs9 := hs7.same s9
      have hT9 := hT7.ext s9
      generalize upd H8 rd (.dK (dI fr)) = H9 at s9 hB htd hjd hs9 hT9
      clear s8 s9 hrp hrpr p1 p2 nrd hs7 hT7 s7 hs4 hT4
      -- the drawn order
      refine ⟨.ref src, rfl, .ref b, rfl, src, cl, b, B, rfl, hs9, hB, fun H10 op o mv10 hop hord => ?_⟩
      have hB := hB.mono (mv10.tupS hs9)
      have hs10 := mv10.src hs9
      have hT10 := mv10.tabs hs9 hT9
      have offd : ∀ {x : Addr} {kvs : List (Key × V)}, H9 x = some (.dK kvs) → (∀ l mi tu, kvs ≠ srcK cl l mi tu) → x ≠ src ∧ x ≠ cl := fun {x kvs} hx hne => by
        obtain ⟨l, mi, tu, cs, q1, q2, q3⟩ := hs9.ex
        refine ⟨fun z => ?_, fun z => ?_⟩
        · rw [z, q1] at hx; exact hne _ _ _ (HO.dK.inj (Option.some.inj hx)).symm
        · rw [z, q2] at hx; cases hx
      have htd : H10 td = some (.dK (dI ftab)) := by
        have := offd htd fun l mi tu z => by
          unfold dI dF srcK at z
          cases ftab with
          | nil => cases z
          | cons p r => rw [List.map_cons] at z; injection z with z _; injection z with _ z; cases z
        exact mv10.keep _ _ this.1 this.2 htd
      have hjd : JbAt H10 jd B.jobs := by
        obtain ⟨l, h1, h2⟩ := hjd
        have := offd h1 fun q mi tu z => by
          unfold dF srcK at z
          have z1 := congrArg (fun l : List (Key × V) => l[1]?) z
          simp only [List.getElem?_map] at z1
          cases hl1 : l[1]? with
          | none => rw [hl1] at z1; cases z1
          | some x1 =>
            rw [hl1] at z1
            have z2 := congrArg Prod.snd (Option.some.inj z1)
            cases z2
        exact ⟨l, mv10.keep _ _ this.1 this.2 h1, pair_mono h2 fun q j h => ⟨h.1, h.2.mono (mv10.tupS hs9)⟩⟩
      clear offd mv10 hs9 hT9
      -- the plans
      refine ⟨.ref b, rfl, .int mn, rfl, b, mn, B, rfl, hB, hm1, hth, hT10, fun H11 q1 pl1 e11 hT11 hq1 hok1 => ?_⟩
      refine ⟨.ref b, rfl, .int mn, rfl, .ref op, rfl, b, op, mn, B, o, rfl, bookE e11 hB, hm1, hth, hop.mono (.ext e11), hord, fun H12 q2 pl2 s12 hq2 hok2 => ?_⟩
      have e12 := e11.trans (ExtN.of s12)
      refine ⟨.ref b, rfl, .int mn, rfl, .ref b, rfl, b, B, rfl, bookE e12 hB, hT11.ext s12, fun H13 ip oi e13 hT13 hip hordi => ?_⟩
      have e13' := e12.trans e13
      refine ⟨b, ip, mn, B, oi, rfl, bookE e13' hB, hm1, hth, hip, hordi, fun H14 q3 pl3 s14 hq3 hok3 => ⟨(by show 3 ≤ sizeLine; decide), fun tp ntp => ⟨tp, rfl, ⟨_, SqT.of upd_same⟩, ?_⟩⟩⟩
      have s15 := s14.trans (same_new (o := .tup [.ref q1, .ref q2, .ref q3]) ntp)
      have e15 := e13'.trans (ExtN.of s15)
      have hB := bookE e15 hB
      have hs15 := hs10.ext e15
      have hT15 := hT13.ext s15
      have htd := e15 _ _ htd (fun _ z => nomatch z)
      have hjd := hjd.ext e15
      have htp : upd H14 tp (.tup [.ref q1, .ref q2, .ref q3]) tp = some (.tup [.ref q1, .ref q2, .ref q3]) := upd_same
      have plans : ∀ (i : Nat) (v : V), [V.ref q1, .ref q2, .ref q3][i]? = some v → ∃ (p : Addr) (pl : List Ent), v = .ref p ∧ PlanAt (upd H14 tp (.tup [.ref q1, .ref q2, .ref q3])) p pl ∧ PlanOk B mn pl := by
        have c1 : PlanAt (upd H14 tp (.tup [.ref q1, .ref q2, .ref q3])) q1 pl1 := hq1.mono (.ext (((ExtN.of s12).trans e13).trans (ExtN.of s15)))
        have c2 : PlanAt (upd H14 tp (.tup [.ref q1, .ref q2, .ref q3])) q2 pl2 := hq2.mono (.ext (e13.trans (ExtN.of s15)))
        have c3 : PlanAt (upd H14 tp (.tup [.ref q1, .ref q2, .ref q3])) q3 pl3 := hq3.mono (.of (same_new (o := .tup [.ref q1, .ref q2, .ref q3]) ntp))
        intro i v hv
        match i, hv with
        | 0, hv => cases hv; exact ⟨q1, pl1, rfl, c1, hok1⟩
        | 1, hv => cases hv; exact ⟨q2, pl2, rfl, c2, hok2⟩
        | 2, hv => cases hv; exact ⟨q3, pl3, rfl, c3, hok3⟩
      generalize upd H14 tp (.tup [.ref q1, .ref q2, .ref q3]) = Hs at hB hs15 hT15 htd hjd htp plans
      clear s15 e15 s14 e13' hip e13 hT13 s12 e12 hq1 hq2 hq3 e11 hT11 hs10 hT10 hop ntp
      refine for_it (walk_tup (xs := [V.ref q1, .ref q2, .ref q3])) (fun i σ2 H2 => ∃ (z7 z8 z9 z10 z11 z12 : Option V), σ2 = [some (.ref a), some (.ref src), some (.int (0 + (lap : Nat))), some (.ref b), some (.int mn), some (.ref jd), some (.ref op), z7, z8, z9, z10, z11, z12, some (.ref td), none, none, none] ∧ ExtN Hs H2 ∧ Tabs T H2)
        ⟨z7, z8, z9, z10, z11, z12, rfl, .refl _, hT15⟩ (fun i σ2 H2 _ h => ?_) (fun i v σ2 H16 H16' hi h y => ?_) (fun σ2 H2 h => ?_)
      · obtain ⟨_, _, _, _, _, _, _, e, _⟩ := h
        exact SqT.of (e _ _ htp (fun _ z => nomatch z))
      · obtain ⟨z7, z8, z9, z10, z11, z12, rfl, eX, hTX⟩ := h
        obtain ⟨rfl, hv⟩ := y
        obtain ⟨p, pl, rfl, hpl, hok⟩ := plans i v hv
        have hB := bookE eX hB
        have hpl := hpl.mono (.ext eX)
        have htd := eX _ _ htd (fun _ z => nomatch z)
        have hjd := hjd.ext eX
        have ndn : (pl.map (·.1)).Nodup := by rw [hok.nm]; exact R.nd
        have pll : pl.length = B.jobs.length := by have := congrArg List.length hok.nm; rw [List.length_map, names_len] at this; exact this
        have pnm : ∀ e ∈ pl, e.1 ∈ B.names := fun e he => by rw [← hok.nm]; exact List.mem_map.mpr ⟨e, he, rfl⟩
        have kb : (pl.map bn).map (·.1) = pl.map (·.1) := by rw [List.map_map]; rfl
        have lkb : ∀ e ∈ pl, lk (pl.map bn) e.1 = some e.2.2 := fun e he => lk_of_mem (by rw [kb]; exact ndn) (List.mem_map.mpr ⟨e, he, rfl⟩)
        have inpl : ∀ n ∈ B.names, ∃ e ∈ pl, e.1 = n := fun n hn => by rw [← hok.nm] at hn; exact List.mem_map.mp hn
        have nl : B.names.length = B.jobs.length := names_len B
        refine ⟨.ref b, rfl, .ref p, rfl, .int mn, rfl, b, p, mn, B, pl, rfl, hB, hpl, hok, fun H17 s17 => ⟨true, rfl, ?_⟩⟩
        refine iteF ?_
        -- the begins
        obtain ⟨as, p1, p2⟩ := hpl
        have al := pair_len p2
        refine ⟨.ref p, rfl, p, rfl, ⟨_, (p1.mono (.of s17)).sq⟩, fun D1 nD1 => ?_⟩
        refine lc_new (walk_tup (xs := as.map V.ref)) pl (fun e => some [.str e.1, .int e.2.2]) nD1 (by rw [List.length_map, al]) (by omega) (fun H' s => (p1.mono (.of (s17.trans s))).sq) (fun i e v H7 H7' Kt Kf he s y kt kf hD => ?_) (fun H18 cs1 s18 e18 hpr18 _ => ?_)
        · obtain ⟨rfl, hv⟩ := y
          obtain ⟨a, ha, hea⟩ := pair_get p2 he
          rw [List.getElem?_map, ha] at hv; cases hv
          exact ⟨a, entV e, rfl, SqT.of (s _ _ (s17 _ _ hea)), rfl, .str e.1, _, rfl, .int e.2.1, _, rfl, .int e.2.2, [], rfl, rfl, rfl, .str e.1, rfl, .int e.2.2, rfl, (by show 2 ≤ sizeLine; decide), fun y ny => kt _ y _ rfl (same_new ny) upd_same (s.free ny) fun z => hD (by rw [← z]; exact ny)⟩
        rw [fm_all] at hpr18
        have hpr18 := pair_mapR (F := fun (a : Addr) (q : Str × Int) => H18 a = some (.tup [.str q.1, .int q.2])) bn (pair_unmap (fun e : Ent => [V.str e.1, .int e.2.2]) hpr18)
        refine ⟨D1, cs1, dI (pl.map bn), rfl, SqL.of e18, dictOf hpr18, fun bd nbd => ?_⟩
        rw [merge0_dF (by rw [kb]; exact ndn)]
        have s19 := (s17.trans s18).trans (same_new (o := .dK (dI (pl.map bn))) nbd)
        have hbd : upd H18 bd (.dK (dI (pl.map bn))) bd = some (.dK (dI (pl.map bn))) := upd_same
        generalize upd H18 bd (.dK (dI (pl.map bn))) = H19 at s19 hbd
        clear s18 e18 hpr18 nD1 nbd s17
        -- by begin
        have eb : (dI (pl.map bn)).map (fun kv : Key × V => kV kv.1) = B.names.map V.str := by
          unfold dI dF
          rw [List.map_map, List.map_map, ← hok.nm, List.map_map]; rfl
        refine ⟨.ref bd, rfl, bd, _, rfl, .inl hbd, fun ll nll => ?_⟩
        have s20 := s19.trans (same_new (o := .lst ((dI (pl.map bn)).map fun kv => kV kv.1)) nll)
        refine ⟨ll, B.names, begK pl ftab, rfl, hTX.ext s20, fun H20 e20 hT20 => ?_⟩
        have hbd20 := e20 _ _ (same_new nll (o := .lst ((dI (pl.map bn)).map fun kv => kV kv.1)) _ _ hbd) (fun _ z => nomatch z)
        have htd20 := e20 _ _ (s20 _ _ htd) (fun _ z => nomatch z)
        refine ⟨.inl (SqL.of ?_), by omega, fun b x hx => ?_, fun b => by simp [begK], fun a b => by simp [begK, encT, flatP, PySem.W.alike, PySem.W.alikeAll], fun n hn H21 sm21 => ?_, fun ms H21 l hp hs sm21 nl' => ?_⟩
        · rw [← eb]; exact e20 _ _ upd_same (fun _ z => nomatch z)
        · unfold begK at hx
          rcases List.mem_cons.mp hx with rfl | hx
          · rfl
          · rcases List.mem_cons.mp hx with rfl | hx
            · rfl
            · rw [List.mem_singleton.mp hx]; rfl
        · obtain ⟨e, he, rfl⟩ := inpl n hn
          obtain ⟨u, hu⟩ := lk_isSome (hftab.all e.1 hn)
          refine ⟨.ref bd, rfl, .str e.1, rfl, bd, _, rfl, dget_some (.inl (sm21 _ _ hbd20)) (lkb e he), .ref td, rfl, .str e.1, rfl, td, _, rfl, dget_some (.inl (sm21 _ _ htd20)) hu, .str e.1, rfl, (by show 3 ≤ sizeLine; decide), fun y ny => ⟨same_new ny, y, rfl, SqT.of ?_⟩⟩
          rw [upd_same]
          show some (HO.tup [V.int e.2.2, V.int u, V.str e.1]) = some (HO.tup (begK pl ftab e.1))
          unfold begK
          rw [lkb e he, hu]; rfl
        refine ⟨l, _, rfl, .inl ⟨SqL.of upd_same, fun t nt => ?_⟩⟩
        have hord2 : OrdOk B ms := by
          refine ord_by R hp (fun n => (lk (pl.map bn) n).getD 0) (hs.imp fun h => le_first (g := fun n => (lk (pl.map bn) n).getD 0) (fun b => ⟨_, rfl⟩) h) fun n hn k hk => ?_
          obtain ⟨e, he, rfl⟩ := inpl n hn
          obtain ⟨f', hf', ef, hle⟩ := hok.nds e he k hk
          have h1 := lkb f' hf'
          rw [ef] at h1
          rw [lkb e he, h1]
          have h2 := R.lenPos (R.needMem hk)
          show f'.2.2 < e.2.2
          omega
        have s22 := (sm21.trans (same_new (o := .lst (ms.map V.str)) nl')).trans (same_new (o := .tup (ms.map V.str)) nt)
        have e22 := (eX.trans ((ExtN.of s20).trans e20)).trans (ExtN.of s22)
        have e22' := ((ExtN.of s20).trans e20).trans (ExtN.of s22)
        have hT22 := hT20.ext s22
        have hB := bookE e22' hB
        have p1 := p1.mono (.ext e22')
        have p2 := pair_mono p2 fun a e h => e22' _ _ h (fun _ z => nomatch z)
        have hjd := hjd.ext e22'
        have hbd := s22 _ _ hbd20
        have ht : upd (upd H21 l (.lst (ms.map V.str))) t (.tup (ms.map V.str)) t = some (.tup (ms.map V.str)) := upd_same
        generalize upd (upd H21 l (.lst (ms.map V.str))) t (.tup (ms.map V.str)) = H22 at s22 e22 e22' hT22 hB p1 p2 hjd hbd ht
        clear hbd20 htd20 s20 e20 hT20 sm21 nl' nt s22 e22' nll s19 hTX eX htd
        refine ⟨.ref b, rfl, .ref t, rfl, b, t, B, ms, rfl, hB, ht, hord2, fun H23 s23 => ⟨_, rfl, iteNS rfl ?_⟩⟩
        -- its length
        have hB := hB.same s23
        have hbd := s23 _ _ hbd
        have hjd := hjd.same s23
        have e23 := e22.trans (ExtN.of s23)
        have hT23 := hT22.ext s23
        refine ⟨.ref b, rfl, .ref p, rfl, b, p, B, pl, rfl, hB, ⟨as, p1.mono (.of s23), pair_mono p2 fun a e h => s23 _ _ h⟩, pnm, by omega, fun H24 m0 s24 hm0 hall0 => ?_⟩
        have hbd := s24 _ _ hbd
        have hjd := hjd.same s24
        have hB := hB.same s24
        have e24 := e23.trans (ExtN.of s24)
        have hT24 := hT23.ext s24
        refine ⟨bd, .dK (dI (pl.map bn)), hbd, trivial, fun od => ?_⟩
        refine ⟨.ref bd, rfl, bd, od, rfl, .inl ⟨_, upd_same, fun D2 nD2 => ?_⟩⟩
        have k4 : TupS H24 (upd H24 bd (.frz od (.dK (dI (pl.map bn))))) := tupS_lock hbd
        have hjb : jd ≠ bd := fun z => by
          obtain ⟨l, h, hl⟩ := hjd
          rw [z, hbd] at h
          have h := HO.dK.inj (Option.some.inj h)
          unfold dI dF at h
          cases pl with
          | nil => exact R.ne (List.length_eq_zero_iff.mp (by simpa using pll.symm))
          | cons e pl =>
            cases l with
            | nil => cases h
            | cons x l => injection h with h _; injection h with _ h; cases h
        have lockJ : ∀ {G : Hp} {o : Obj}, JbAt G jd B.jobs → G bd = some (.dK (dI (pl.map bn))) → JbAt (upd G bd (.frz o (.dK (dI (pl.map bn))))) jd B.jobs := fun {G o} hj hb => by
          obtain ⟨l, h, hl⟩ := hj
          exact ⟨l, by rw [upd_ne hjb]; exact h, pair_mono hl fun q j h => ⟨h.1, h.2.mono (tupS_lock hb)⟩⟩
        have hjd4 := lockJ (o := od) hjd hbd
        have hDb : D2 ≠ bd := fun z => by rw [z, upd_same] at nD2; cases nD2
        refine lc_std walk_keys pl (fun e => some (.int (e.2.2 + B.len e.1))) nD2 (by rw [dF_length, List.length_map]) (by omega) (fun H7 s => s _ _ upd_same) (fun i e v H7 H7' Kt Kf he s y kt kf => ?_) (fun H25 s25 e25 => ?_)
        · obtain ⟨rfl, k, u, hk, rfl⟩ := y
          unfold dI dF at hk
          rw [List.getElem?_map, List.getElem?_map, he] at hk; cases hk
          have hem := List.mem_of_getElem? he
          obtain ⟨j, hj⟩ := job_some (pnm e hem)
          obtain ⟨ja, hja1, hja2⟩ := (hjd4.same s).at_ hj
          obtain ⟨n', u, mode, cmd, tries, e1, _⟩ := hja2.ex
          exact ⟨rfl, .ref bd, rfl, .str e.1, rfl, bd, _, rfl, dget_some (.inr ⟨od, s _ _ upd_same⟩) (lkb e hem), .ref jd, rfl, .str e.1, rfl, jd, .ref ja, rfl, hja1, ja, _, 5, .int j.len, rfl, rfl, SqT.of e1, atI_nat (j := 5) rfl, e.2.2, j.len, rfl, rfl, kt _ _ (by rw [len_at hj]) (Same.refl _)⟩
        rw [fm_all] at e25
        refine ⟨s25 _ _ upd_same, ?_⟩
        have s26 := same_unlock s25 hbd
        have hD2 : upd H25 bd (.dK (dI (pl.map bn))) D2 = some (.lst ((pl.map fun e => e.2.2 + B.len e.1).map V.int)) := by rw [upd_ne hDb, e25, List.map_map]; rfl
        have hbd := s26 _ _ hbd
        have hjd := hjd.same s26
        have hB := hB.same s26
        have e26 := e24.trans (ExtN.of s26)
        have hT26 := hT24.ext s26
        generalize upd H25 bd (.dK (dI (pl.map bn))) = H26 at s26 hD2 hbd hjd hB e26 hT26
        clear s25 e25 nD2 hjd4 k4
        have ppos : 0 < pl.length := by
          have := R.ne
          rw [pll]; exact List.length_pos_iff.mpr this
        refine ⟨D2, pl.map (fun e => e.2.2 + B.len e.1), rfl, SqL.of hD2, by rw [List.length_map]; exact ppos, fun m1 hm1 hall1 => ⟨rfl, _, rfl, iteNS ?_ ?_⟩⟩
        · have h1 : m1 ≤ m0 := hall0 m1 (List.mem_cons_of_mem _ hm1)
          have h2 : 0 ≤ m1 := by
            obtain ⟨e, he, rfl⟩ := List.mem_map.mp hm1
            have := hok.st e he
            have := R.startNn (pnm e he)
            have := R.lenPos (pnm e he)
            omega
          have h3 : m0 ≤ m1 := by
            rcases List.mem_cons.mp hm0 with rfl | h
            · exact h2
            · exact hall1 m0 h
          have : m0 = m1 := by omega
          rw [this]
        -- what each hangs on
        refine ⟨bd, .dK (dI (pl.map bn)), hbd, trivial, fun od2 => ?_⟩
        have hjd7 := lockJ (o := od2) hjd hbd
        have hB7 : BookAt (upd H26 bd (.frz od2 (.dK (dI (pl.map bn))))) b B := hB.mono (tupS_lock hbd)
        refine ⟨.ref bd, rfl, bd, od2, rfl, .inl ⟨_, upd_same, ?_⟩⟩
        refine for_it walk_keys (fun k σ2 H2 => ∃ (z8 z10 z11 : Option V), σ2 = [some (.ref a), some (.ref src), some (.int (0 + (lap : Nat))), some (.ref b), some (.int mn), some (.ref jd), some (.ref op), some (.ref p), z8, some (.ref t), z10, z11, some (.ref bd), some (.ref td), none, none, none] ∧ Same (upd H26 bd (.frz od2 (.dK (dI (pl.map bn))))) H2)
          ⟨z8, z10, z11, rfl, .refl _⟩ (fun k σ2 H2 _ h => ?_) (fun k kv σ2 H27 H27' hk h y => ?_) (fun σ2 H2 h => ?_)
        · obtain ⟨_, _, _, _, s⟩ := h
          exact s _ _ upd_same
        · obtain ⟨z8, z10, z11, rfl, s27⟩ := h
          obtain ⟨rfl, kk, u, hkk, rfl⟩ := y
          rw [dF_length, List.length_map] at hk
          have he : pl[k]? = some pl[k] := List.getElem?_eq_getElem hk
          unfold dI dF at hkk
          rw [List.getElem?_map, List.getElem?_map, he] at hkk; cases hkk
          generalize pl[k] = e at he
          have hem := List.mem_of_getElem? he
          have en := pnm e hem
          refine ⟨.ref b, rfl, .str e.1, rfl, b, B, e.1, rfl, hB7.same s27, en, fun H28 hp2 xs s28 hxs hxl hxh => ⟨hp2, rfl, ⟨_, hxs.sq⟩, ?_⟩⟩
          have s278 := s27.trans s28
          refine for_it (walk_tup (xs := xs.map V.str)) (fun i2 σ2 H2 => ∃ (z10 z11 : Option V), σ2 = [some (.ref a), some (.ref src), some (.int (0 + (lap : Nat))), some (.ref b), some (.int mn), some (.ref jd), some (.ref op), some (.ref p), some (.str e.1), some (.ref t), z10, z11, some (.ref bd), some (.ref td), none, none, none] ∧ Same H28 H2)
            ⟨z10, z11, rfl, .refl _⟩ (fun i2 σ2 H2 _ h => ?_) (fun i2 xv σ2 H29 H29' hi2 h y => ?_) (fun σ2 H2 h => ?_)
          · obtain ⟨_, _, _, s⟩ := h
            exact (hxs.mono (.of s)).sq
          · obtain ⟨z10, z11, rfl, s29⟩ := h
            obtain ⟨rfl, hxv⟩ := y
            have hi2' : i2 < xs.length := by rw [List.length_map] at hi2; exact hi2
            rw [List.getElem?_map, List.getElem?_eq_getElem hi2'] at hxv; cases hxv
            have hxm : xs[i2] ∈ xs := List.getElem_mem _
            generalize xs[i2] = oth at hxm
            obtain ⟨hh, on⟩ := hxh oth hxm
            have s30 := s278.trans s29
            refine ⟨.ref b, rfl, .str e.1, rfl, .str oth, rfl, b, B, e.1, oth, rfl, hB7.same s30, en, hh, fun H31 cp ch s31 hcp hcl hw => ?_⟩
            have s32 := s30.trans s31
            have hbf : H31 bd = some (.frz od2 (.dK (dI (pl.map bn)))) := s32 _ _ upd_same
            obtain ⟨eo, heo, rfl⟩ := inpl oth on
            obtain ⟨rest, hrest⟩ := hw.head
            have chl : 1 ≤ ch.length := by rw [hrest]; simp
            have chm := hw.mem R en
            refine ⟨.ref bd, rfl, .str eo.1, rfl, bd, _, rfl, dget_some (.inr ⟨od2, hbf⟩) (lkb eo heo), ?_⟩
            refine ⟨.ref cp, rfl, 1, rfl, cp, _, rfl, hcp.sq, ?_, fun sp nsp => ?_⟩
            · intro z
              have z1 := z.1
              have e1 : HT.sIx (ch.map V.str).length 0 (some ((1 : Nat) : Int)) = 1 := by rw [HT.sIx_nat, List.length_map]; omega
              have e1 : HT.sIx (ch.map V.str).length 0 (some (1 : Int)) = 1 := e1
              rw [e1] at z1; omega
            rw [cut_drop1 _ (by rw [List.length_map]; exact chl), ← List.map_drop]
            refine ⟨sp, rfl, ⟨_, SqT.of upd_same⟩, fun D3 nD3 => ?_⟩
            have s33 := s32.trans (same_new (o := .tup ((ch.drop 1).map V.str)) nsp)
            have sx := s29.trans (s31.trans (same_new (o := .tup ((ch.drop 1).map V.str)) nsp))
            have hsp : upd H31 sp (.tup ((ch.drop 1).map V.str)) sp = some (.tup ((ch.drop 1).map V.str)) := upd_same
            generalize upd H31 sp (.tup ((ch.drop 1).map V.str)) = H33 at s33 hsp nD3 sx
            have dl : (ch.drop 1).length ≤ 8 := by rw [List.length_drop]; omega
            refine lc_std (walk_tup (xs := (ch.drop 1).map V.str)) (ch.drop 1) (fun x => some (.int (B.len x))) nD3 (List.length_map _) (by omega) (fun H7 s => SqT.of (s _ _ hsp)) (fun i x v H7 H7' Kt Kf hx s y kt kf => ?_) (fun H34 s34 e34 => ?_)
            · obtain ⟨rfl, hv⟩ := y
              rw [List.getElem?_map, hx] at hv; cases hv
              obtain ⟨j, hj⟩ := job_some (chm x (List.mem_of_mem_drop (List.mem_of_getElem? hx)))
              obtain ⟨ja, hja1, hja2⟩ := ((hjd7.same s33).same s).at_ hj
              obtain ⟨n', u, mode, cmd, tries, e1, _⟩ := hja2.ex
              exact ⟨rfl, .ref jd, rfl, .str x, rfl, jd, .ref ja, rfl, hja1, ja, _, 5, .int j.len, rfl, rfl, SqT.of e1, atI_nat (j := 5) rfl, kt _ _ (by rw [len_at hj]) (Same.refl _)⟩
            rw [fm_all] at e34
            have s35 := s33.trans s34
            refine ⟨D3, (ch.drop 1).map B.len, rfl, SqL.of (by rw [e34, List.map_map]; rfl), eo.2.2, _, rfl, rfl, .ref bd, rfl, .str e.1, rfl, bd, _, rfl, dget_some (.inr ⟨od2, s35 _ _ upd_same⟩) (lkb e hem), _, e.2.2, rfl, rfl, _, rfl, ?_⟩
            have hbg := hw.begins hok R (fun n => (lk (pl.map bn) n).getD 0) (fun e he => by rw [lkb e he]; rfl) en
            simp only [lkb e hem, lkb eo heo, Option.getD_some] at hbg
            rw [decide_eq_false (by omega)]
            refine iteF ⟨some (.str eo.1), some (.ref cp), rfl, ?_⟩
            exact sx.trans s34
          · obtain ⟨z10, z11, rfl, s29⟩ := h
            exact ⟨some (.str e.1), z10, z11, rfl, s278.trans s29⟩
        · obtain ⟨z8, z10, z11, rfl, s27⟩ := h
          refine ⟨s27 _ _ upd_same, some (.ref p), z8, some (.ref t), z10, z11, some (.ref bd), rfl, e26.trans (ExtN.of (same_unlock s27 hbd)), hT26.ext (same_unlock s27 hbd)⟩
      · obtain ⟨z7, z8, z9, z10, z11, z12, rfl, eX, hTX⟩ := h
        exact ⟨_, _, _, _, _, _, _, _, _, _, _, _, rfl, hs15.ext eX, hTX⟩
    · exact q _
end
end K45
set_option Elab.async false
set_option linter.all false
set_option maxRecDepth 100000
set_option maxHeartbeats 4000000
namespace K45
open PySem PySem.Spec PyProof.Rows L2 LamX
/-! the defs together -/
/-- what the top leaves -/
structure Tops (K : PySem.W.Frag) (mg : Str → Option Value) (c1 c2 : Addr) : Prop where
  d1 : Def K mg "names_of_jobs" sNames ["book"]
  d2 : Def K mg "job_of" sJobOf ["book", "name"]
  d4 : Def K mg "needs_by_name" sNbn ["jobs"]
  d5 : Def K mg "come_to" sCome ["known", "name"]
  d6 : Def K mg "needs_of" sNeedsOf ["book", "name"]
  d7 : Def K mg "needed_by" sNeededBy ["book", "name"]
  d8 : Def K mg "hangs_on" sHangs ["book", "name"]
  d9 : Def K mg "steps_down" sSteps ["book", "other"]
  d10 : Def K mg "way" sWay ["book", "one", "other"]
  d12 : Def K mg "rank_table" sRt ["book"]
  d13 : Def K mg "ranks" sRanks ["book"]
  d14 : DefC K mg "in_order" sInOrder ["book"] c1
  d15 : Def K mg "judge_order" sJudge ["book", "value"]
  d17 : Def K mg "end_of" sEnd ["book", "begins", "name"]
  d18 : Def K mg "run_at" sRun ["book", "begins", "time"]
  d19 : Def K mg "used_by" sUsed ["book", "names", "thing"]
  d20 : Def K mg "plan_length" sPlen ["book", "plan"]
  d21 : Def K mg "dealt" sDealt ["book", "begins"]
  d22 : DefC K mg "job_order" sJobOrder ["book"] c2
  d23 : Def K mg "may_begin" sMay ["book", "m", "begins", "name", "time"]
  d24 : Def K mg "list_plan" sList ["book", "m"]
  d25 : Def K mg "fits_at" sFits ["book", "m", "begins", "name", "time"]
  d26 : Def K mg "turn_plan" sTurn ["book", "m", "order"]
  d28 : Def K mg "_law_open_cells" sOpen ["_law_script"]
  d29 : Def K mg "_law_pick" sPick ["_law_source", "_law_most"]
  d30 : Def K mg "_law_any_order" sAny ["_law_source", "_law_things"]
  d31 : Def K mg "_law_draw_value" sVal ["_law_source"]
  d32 : Def K mg "_law_draw_command" sCmd ["_law_source", "_law_needs_here", "_law_depth"]
  d33 : Def K mg "_law_draw_book" sBook ["_law_source", "_law_most"]
  d34 : Def K mg "_law_jobs" sLJobs ["_law_book"]
  d35 : Def K mg "_law_needs" sLNeeds ["_law_jobs_here"]
  d36 : Def K mg "_law_ranks" sLRanks ["_law_book"]
  d37 : Def K mg "_law_some_order" sSome ["_law_source", "_law_book"]
  d38 : Def K mg "_law_plan_right" sRight ["_law_book", "_law_plan", "_law_m"]
  z_len : mg "len" = none
  z_list : mg "list" = none
  z_tuple : mg "tuple" = none
  z_sorted : mg "sorted" = none
  z_dict : mg "dict" = none
  z_sum : mg "sum" = none
  z_max : mg "max" = none
  z_min : mg "min" = none
  z_all : mg "all" = none
  z_range : mg "range" = none
  z_int : mg "int" = none
  z_abs : mg "abs" = none
  z_enumerate : mg "enumerate" = none
  z_isinstance : mg "isinstance" = none
  z_str : mg "str" = none
section
variable {P : Program} {w : World} {K : PySem.W.Frag} {mg : Str → Option Value} {base : Heap}
theorem cmd_zero (d : Def K mg "_law_draw_command" sCmd ["_law_source", "_law_needs_here", "_law_depth"]) : Has P w K mg base "_law_draw_command" ["_law_source", "_law_needs_here", "_law_depth"] 2 (spRec 0) := d.has fun f fd F =>
  F.ok scCmd (fun vs H Q E h => False.elim h) (fun cdv A outer s H vs Q E hr h => False.elim h)
theorem all_law {T : List (Addr × Str)} {c1 c2 c3 P1 P2 P3 f : Addr} {fd : FuncData} (t : Tops K mg c1 c2) (F : FunC K "law" "law" sLaw f fd c3) (b1 : TabB base mg c1 P1) (b2 : TabB base mg c2 P2) (b3 : TabB base mg c3 P3)
    (h1 : (P1, lamQ "in_order") ∈ T) (h2 : (P2, lamQ "job_order") ∈ T) (h3 : (P3, lamQ "law") ∈ T) (u1 : ∀ p ∈ T, p.1 = P1 → p.2 = lamQ "in_order") (u2 : ∀ p ∈ T, p.1 = P2 → p.2 = lamQ "job_order") (u3 : ∀ p ∈ T, p.1 = P3 → p.2 = lamQ "law") :
    FnOk P w K mg base CX0 9 f fd ["_law_script"] (spLaw K T) := by
  have g1 := ok_names (P := P) (w := w) (base := base) t.d1 t.z_tuple
  have g2 := ok_jobOf (P := P) (w := w) (base := base) t.d2
  have g4 := ok_nbn (P := P) (w := w) (base := base) t.d4
  have g5 := ok_come (P := P) (w := w) (base := base) t.d5 t.z_list t.z_tuple t.z_sorted
  have g6 := ok_needsOf t.d6 g2
  have g7 := ok_neededBy (P := P) (w := w) (base := base) t.d7 t.z_tuple
  have g8 := ok_hangs t.d8 g4 g5
  have g9 := ok_steps t.d9 g7
  have g10 := ok_way t.d10 g9 g6 t.z_tuple
  have g12 := ok_rt t.d12 g1 g6 t.z_list t.z_all t.z_max
  have g13 := ok_ranks t.d13 g12 t.z_tuple t.z_sorted
  have g14 := ok_inOrder t.d14 b1 h1 u1 g12 t.z_tuple t.z_sorted
  have g15 := ok_judge t.d15 g1 g6 t.z_list t.z_all t.z_sorted t.z_isinstance t.z_tuple t.z_str t.z_enumerate
  have g17 := ok_end t.d17 g2
  have g18 := ok_run t.d18 g17
  have g19 := ok_used t.d19 g2 t.z_sum t.z_dict
  have g20 := ok_plen t.d20 g2 t.z_max
  have g21 := ok_dealt t.d21 g2 g1 t.z_sorted t.z_len t.z_tuple
  have g22 := ok_jobOrder t.d22 b2 h2 u2 g13 g1 g2 t.z_tuple t.z_sorted t.z_dict
  have g23 := ok_may t.d23 g2 g17 g18 g19 t.z_all t.z_len t.z_dict
  have g24 := ok_list t.d24 g22 g23 g17 g21 t.z_len t.z_min t.z_tuple t.z_sorted
  have g25 := ok_fits t.d25 g2 g18 g19 t.z_all t.z_len t.z_dict
  have g26 := ok_turn t.d26 g2 g25 g17 g21 t.z_max t.z_tuple t.z_sorted
  have g28 := ok_open (P := P) (w := w) (base := base) t.d28 t.z_int t.z_abs
  have g29 := ok_pick (P := P) (w := w) (base := base) t.d29 t.z_len t.z_int
  have g30 := ok_any t.d30 g29 t.z_list t.z_len t.z_range
  have g31 := ok_val t.d31 g29
  have e0 := cmd_zero (P := P) (w := w) (base := base) t.d32
  have e1 := ok_cmd 0 (by decide) t.d32 g29 g31 e0 t.z_len t.z_range
  have e2 := ok_cmd 1 (by decide) t.d32 g29 g31 e1 t.z_len t.z_range
  have e3 := ok_cmd 2 (by decide) t.d32 g29 g31 e2 t.z_len t.z_range
  have g33 := ok_book t.d33 g29 g30 e3 t.z_tuple t.z_enumerate t.z_sorted
  have g34 := ok_ljobs (P := P) (w := w) (base := base) t.d34 t.z_dict
  have g35 := ok_lneeds (P := P) (w := w) (base := base) t.d35 t.z_dict
  have g36 := ok_lranks t.d36 g35 t.z_len t.z_range t.z_all t.z_max
  have g37 := ok_some t.d37 g35 g29 t.z_len t.z_range t.z_tuple
  have g38 := ok_right t.d38 g34 t.z_dict t.z_sorted t.z_list t.z_len t.z_sum
  exact ok_law F b3 h3 u3 ⟨g28, g29, g33, g36, g34, g13, g37, g24, g26, g14, g38, g15, g20, g8, g10⟩ t.z_range t.z_dict t.z_tuple t.z_sorted t.z_list t.z_max t.z_sum
end
end K45
set_option Elab.async false
set_option linter.all false
set_option maxRecDepth 100000
set_option maxHeartbeats 4000000
namespace K45
open PySem PySem.Spec PyProof.Rows L2 LamX
/-! the head: facts by names -/
def dOf (x : Str) (st : Stmt) : He.DefD := ⟨(x, none), x, x, defArgs st, defBody st, defScope st, [], []⟩
def hdFn : List He.DefD := [dOf "names_of_jobs" sNames, dOf "job_of" sJobOf, dOf "needs_by_name" sNbn, dOf "come_to" sCome, dOf "needs_of" sNeedsOf, dOf "needed_by" sNeededBy, dOf "hangs_on" sHangs, dOf "steps_down" sSteps, dOf "way" sWay, dOf "rank_table" sRt, dOf "ranks" sRanks, dOf "in_order" sInOrder, dOf "judge_order" sJudge, dOf "end_of" sEnd, dOf "run_at" sRun, dOf "used_by" sUsed, dOf "plan_length" sPlen, dOf "dealt" sDealt, dOf "job_order" sJobOrder, dOf "may_begin" sMay, dOf "list_plan" sList, dOf "fits_at" sFits, dOf "turn_plan" sTurn, dOf "_law_open_cells" sOpen, dOf "_law_pick" sPick, dOf "_law_any_order" sAny, dOf "_law_draw_value" sVal, dOf "_law_draw_command" sCmd, dOf "_law_draw_book" sBook, dOf "_law_jobs" sLJobs, dOf "_law_needs" sLNeeds, dOf "_law_ranks" sLRanks, dOf "_law_some_order" sSome, dOf "_law_plan_right" sRight, dOf "law" sLaw]
def hdFaA : List He.Fa := [.glo "names_of_jobs", .glo "job_of", .glo "needs_by_name", .glo "come_to", .glo "needs_of", .glo "needed_by", .glo "hangs_on", .glo "steps_down", .glo "way", .glo "rank_table", .glo "ranks", .glo "in_order", .glo "judge_order", .glo "end_of", .glo "run_at", .glo "used_by", .glo "plan_length", .glo "dealt", .glo "job_order", .glo "may_begin", .glo "list_plan", .glo "fits_at", .glo "turn_plan", .glo "_law_open_cells", .glo "_law_pick", .glo "_law_any_order", .glo "_law_draw_value", .glo "_law_draw_command", .glo "_law_draw_book", .glo "_law_jobs", .glo "_law_needs", .glo "_law_ranks", .glo "_law_some_order", .glo "_law_plan_right", .glo "law"]
def hdFaB : List He.Fa := [.free "len", .free "list", .free "tuple", .free "sorted", .free "dict", .free "sum", .free "max", .free "min", .free "all", .free "range", .free "int", .free "abs", .free "enumerate", .free "isinstance", .free "str"]
def hdFa : List He.Fa := hdFaA ++ hdFaB
def hdTf : List He.Defn := [("in_order", none), ("job_order", none), ("law", none)]
def hdEx (K : PySem.W.Frag) : Bool := decide ((He.cT K ("in_order", none)).2 ≠ (He.cT K ("job_order", none)).2) && (decide ((He.cT K ("in_order", none)).2 ≠ (He.cT K ("law", none)).2) && decide ((He.cT K ("job_order", none)).2 ≠ (He.cT K ("law", none)).2))
theorem def_of {K : PySem.W.Frag} {h : Heap} {mg : Str → Option Value} {x : Str} {st : Stmt} {ps : List Str} (X : K.In h) (G : h.Ns mainGlobals mg) (g : (He.Fa.glo x).ok K = true) (e : ∃ fd, FunD K x x (defArgs st) (defBody st) (defScope st) [] [] (He.ga K x) fd)
    (hb : ∀ (kV doc pm : Value) (an : Option Addr) (cdv ct : Value) (us : List Value), us.length = ps.length → bindArgs (PySem.W.fnOf x x (defArgs st) (defBody st) (defScope st) .none kV doc pm an cdv ct) ⟨us, []⟩ = pure (ps.zip us)) : Def K mg x st ps := by
  obtain ⟨fd, F⟩ := e
  have b := F.bindsN hb
  obtain ⟨⟨oc, od, dV, kV, doc, pm, an, cdv, ct, osl, rfl, lk, hc, hD, _⟩, kp⟩ := F
  obtain ⟨_, rfl⟩ : (([] : List V) = [] ∧ dV = .none) := hD.elim id fun z => absurd rfl z.1
  exact ⟨_, _, ⟨⟨oc, od, kV, doc, pm, an, cdv, ct, osl, rfl, lk, hc⟩, kp⟩, b, He.glo_ok X G g⟩
theorem func_of {K : PySem.W.Frag} {x : Str} {st : Stmt} {ps : List Str} (e : ∃ fd, FunD K x x (defArgs st) (defBody st) (defScope st) [] [] (He.ga K x) fd)
    (hb : ∀ (kV doc pm : Value) (an : Option Addr) (cdv ct : Value) (us : List Value), us.length = ps.length → bindArgs (PySem.W.fnOf x x (defArgs st) (defBody st) (defScope st) .none kV doc pm an cdv ct) ⟨us, []⟩ = pure (ps.zip us)) :
    ∃ fd, FunC K x x st (He.ga K x) fd (He.codeOf K (x, none)) ∧ Binds K fd ps [] ∧ ∀ (s : Shared) (us : List Value), us.length = ps.length → BindsTo s fd ⟨us, []⟩ (ps.zip us) := by
  obtain ⟨fd, F⟩ := e
  have b := F.bindsN hb
  have b2 := F.bindsA hb
  obtain ⟨⟨oc, od, dV, kV, doc, pm, an, cdv, ct, osl, rfl, lk, hc, hD, _⟩, kp⟩ := F
  obtain ⟨_, rfl⟩ : (([] : List V) = [] ∧ dV = .none) := hD.elim id fun z => absurd rfl z.1
  obtain ⟨c, rfl⟩ := He.codeIn_ref hc
  have ec : He.codeOf K (x, none) = c := He.codeOf_eq lk rfl
  rw [ec]
  exact ⟨_, ⟨⟨oc, od, kV, doc, pm, an, ct, osl, rfl, lk, hc⟩, kp⟩, b, b2⟩
theorem tops_of {K : PySem.W.Frag} {h : Heap} {mg : Str → Option Value} (X : K.In h) (G : h.Ns mainGlobals mg) (c : He.SaysD hdFa hdFn K) : Tops K mg (He.codeOf K ("in_order", none)) (He.codeOf K ("job_order", none)) where
  d1 := def_of X G (c.fact 0 (f := .glo "names_of_jobs") rfl) (c.def_ 0 (d := dOf "names_of_jobs" sNames) rfl) (fun _ _ _ _ _ _ us hl => match us, hl with | [_], _ => rfl)
  d2 := def_of X G (c.fact 1 (f := .glo "job_of") rfl) (c.def_ 1 (d := dOf "job_of" sJobOf) rfl) (fun _ _ _ _ _ _ us hl => match us, hl with | [_, _], _ => rfl)
  d4 := def_of X G (c.fact 2 (f := .glo "needs_by_name") rfl) (c.def_ 2 (d := dOf "needs_by_name" sNbn) rfl) (fun _ _ _ _ _ _ us hl => match us, hl with | [_], _ => rfl)
  d5 := def_of X G (c.fact 3 (f := .glo "come_to") rfl) (c.def_ 3 (d := dOf "come_to" sCome) rfl) (fun _ _ _ _ _ _ us hl => match us, hl with | [_, _], _ => rfl)
  d6 := def_of X G (c.fact 4 (f := .glo "needs_of") rfl) (c.def_ 4 (d := dOf "needs_of" sNeedsOf) rfl) (fun _ _ _ _ _ _ us hl => match us, hl with | [_, _], _ => rfl)
  d7 := def_of X G (c.fact 5 (f := .glo "needed_by") rfl) (c.def_ 5 (d := dOf "needed_by" sNeededBy) rfl) (fun _ _ _ _ _ _ us hl => match us, hl with | [_, _], _ => rfl)
  d8 := def_of X G (c.fact 6 (f := .glo "hangs_on") rfl) (c.def_ 6 (d := dOf "hangs_on" sHangs) rfl) (fun _ _ _ _ _ _ us hl => match us, hl with | [_, _], _ => rfl)
  d9 := def_of X G (c.fact 7 (f := .glo "steps_down") rfl) (c.def_ 7 (d := dOf "steps_down" sSteps) rfl) (fun _ _ _ _ _ _ us hl => match us, hl with | [_, _], _ => rfl)
  d10 := def_of X G (c.fact 8 (f := .glo "way") rfl) (c.def_ 8 (d := dOf "way" sWay) rfl) (fun _ _ _ _ _ _ us hl => match us, hl with | [_, _, _], _ => rfl)
  d12 := def_of X G (c.fact 9 (f := .glo "rank_table") rfl) (c.def_ 9 (d := dOf "rank_table" sRt) rfl) (fun _ _ _ _ _ _ us hl => match us, hl with | [_], _ => rfl)
  d13 := def_of X G (c.fact 10 (f := .glo "ranks") rfl) (c.def_ 10 (d := dOf "ranks" sRanks) rfl) (fun _ _ _ _ _ _ us hl => match us, hl with | [_], _ => rfl)
  d14 := by
    obtain ⟨fd, F, b, _⟩ := func_of (x := "in_order") (st := sInOrder) (ps := ["book"]) (c.def_ 11 (d := dOf "in_order" sInOrder) rfl) (fun _ _ _ _ _ _ us hl => match us, hl with | [_], _ => rfl)
    exact ⟨_, fd, F, b, He.glo_ok X G (c.fact 11 (f := .glo "in_order") rfl)⟩
  d15 := def_of X G (c.fact 12 (f := .glo "judge_order") rfl) (c.def_ 12 (d := dOf "judge_order" sJudge) rfl) (fun _ _ _ _ _ _ us hl => match us, hl with | [_, _], _ => rfl)
  d17 := def_of X G (c.fact 13 (f := .glo "end_of") rfl) (c.def_ 13 (d := dOf "end_of" sEnd) rfl) (fun _ _ _ _ _ _ us hl => match us, hl with | [_, _, _], _ => rfl)
  d18 := def_of X G (c.fact 14 (f := .glo "run_at") rfl) (c.def_ 14 (d := dOf "run_at" sRun) rfl) (fun _ _ _ _ _ _ us hl => match us, hl with | [_, _, _], _ => rfl)
  d19 := def_of X G (c.fact 15 (f := .glo "used_by") rfl) (c.def_ 15 (d := dOf "used_by" sUsed) rfl) (fun _ _ _ _ _ _ us hl => match us, hl with | [_, _, _], _ => rfl)
  d20 := def_of X G (c.fact 16 (f := .glo "plan_length") rfl) (c.def_ 16 (d := dOf "plan_length" sPlen) rfl) (fun _ _ _ _ _ _ us hl => match us, hl with | [_, _], _ => rfl)
  d21 := def_of X G (c.fact 17 (f := .glo "dealt") rfl) (c.def_ 17 (d := dOf "dealt" sDealt) rfl) (fun _ _ _ _ _ _ us hl => match us, hl with | [_, _], _ => rfl)
  d22 := by
    obtain ⟨fd, F, b, _⟩ := func_of (x := "job_order") (st := sJobOrder) (ps := ["book"]) (c.def_ 18 (d := dOf "job_order" sJobOrder) rfl) (fun _ _ _ _ _ _ us hl => match us, hl with | [_], _ => rfl)
    exact ⟨_, fd, F, b, He.glo_ok X G (c.fact 18 (f := .glo "job_order") rfl)⟩
  d23 := def_of X G (c.fact 19 (f := .glo "may_begin") rfl) (c.def_ 19 (d := dOf "may_begin" sMay) rfl) (fun _ _ _ _ _ _ us hl => match us, hl with | [_, _, _, _, _], _ => rfl)
  d24 := def_of X G (c.fact 20 (f := .glo "list_plan") rfl) (c.def_ 20 (d := dOf "list_plan" sList) rfl) (fun _ _ _ _ _ _ us hl => match us, hl with | [_, _], _ => rfl)
  d25 := def_of X G (c.fact 21 (f := .glo "fits_at") rfl) (c.def_ 21 (d := dOf "fits_at" sFits) rfl) (fun _ _ _ _ _ _ us hl => match us, hl with | [_, _, _, _, _], _ => rfl)
  d26 := def_of X G (c.fact 22 (f := .glo "turn_plan") rfl) (c.def_ 22 (d := dOf "turn_plan" sTurn) rfl) (fun _ _ _ _ _ _ us hl => match us, hl with | [_, _, _], _ => rfl)
  d28 := def_of X G (c.fact 23 (f := .glo "_law_open_cells") rfl) (c.def_ 23 (d := dOf "_law_open_cells" sOpen) rfl) (fun _ _ _ _ _ _ us hl => match us, hl with | [_], _ => rfl)
  d29 := def_of X G (c.fact 24 (f := .glo "_law_pick") rfl) (c.def_ 24 (d := dOf "_law_pick" sPick) rfl) (fun _ _ _ _ _ _ us hl => match us, hl with | [_, _], _ => rfl)
  d30 := def_of X G (c.fact 25 (f := .glo "_law_any_order") rfl) (c.def_ 25 (d := dOf "_law_any_order" sAny) rfl) (fun _ _ _ _ _ _ us hl => match us, hl with | [_, _], _ => rfl)
  d31 := def_of X G (c.fact 26 (f := .glo "_law_draw_value") rfl) (c.def_ 26 (d := dOf "_law_draw_value" sVal) rfl) (fun _ _ _ _ _ _ us hl => match us, hl with | [_], _ => rfl)
  d32 := def_of X G (c.fact 27 (f := .glo "_law_draw_command") rfl) (c.def_ 27 (d := dOf "_law_draw_command" sCmd) rfl) (fun _ _ _ _ _ _ us hl => match us, hl with | [_, _, _], _ => rfl)
  d33 := def_of X G (c.fact 28 (f := .glo "_law_draw_book") rfl) (c.def_ 28 (d := dOf "_law_draw_book" sBook) rfl) (fun _ _ _ _ _ _ us hl => match us, hl with | [_, _], _ => rfl)
  d34 := def_of X G (c.fact 29 (f := .glo "_law_jobs") rfl) (c.def_ 29 (d := dOf "_law_jobs" sLJobs) rfl) (fun _ _ _ _ _ _ us hl => match us, hl with | [_], _ => rfl)
  d35 := def_of X G (c.fact 30 (f := .glo "_law_needs") rfl) (c.def_ 30 (d := dOf "_law_needs" sLNeeds) rfl) (fun _ _ _ _ _ _ us hl => match us, hl with | [_], _ => rfl)
  d36 := def_of X G (c.fact 31 (f := .glo "_law_ranks") rfl) (c.def_ 31 (d := dOf "_law_ranks" sLRanks) rfl) (fun _ _ _ _ _ _ us hl => match us, hl with | [_], _ => rfl)
  d37 := def_of X G (c.fact 32 (f := .glo "_law_some_order") rfl) (c.def_ 32 (d := dOf "_law_some_order" sSome) rfl) (fun _ _ _ _ _ _ us hl => match us, hl with | [_, _], _ => rfl)
  d38 := def_of X G (c.fact 33 (f := .glo "_law_plan_right") rfl) (c.def_ 33 (d := dOf "_law_plan_right" sRight) rfl) (fun _ _ _ _ _ _ us hl => match us, hl with | [_, _, _], _ => rfl)
  z_len := He.free_ok X G (c.fact 35 (f := .free "len") rfl)
  z_list := He.free_ok X G (c.fact 36 (f := .free "list") rfl)
  z_tuple := He.free_ok X G (c.fact 37 (f := .free "tuple") rfl)
  z_sorted := He.free_ok X G (c.fact 38 (f := .free "sorted") rfl)
  z_dict := He.free_ok X G (c.fact 39 (f := .free "dict") rfl)
  z_sum := He.free_ok X G (c.fact 40 (f := .free "sum") rfl)
  z_max := He.free_ok X G (c.fact 41 (f := .free "max") rfl)
  z_min := He.free_ok X G (c.fact 42 (f := .free "min") rfl)
  z_all := He.free_ok X G (c.fact 43 (f := .free "all") rfl)
  z_range := He.free_ok X G (c.fact 44 (f := .free "range") rfl)
  z_int := He.free_ok X G (c.fact 45 (f := .free "int") rfl)
  z_abs := He.free_ok X G (c.fact 46 (f := .free "abs") rfl)
  z_enumerate := He.free_ok X G (c.fact 47 (f := .free "enumerate") rfl)
  z_isinstance := He.free_ok X G (c.fact 48 (f := .free "isinstance") rfl)
  z_str := He.free_ok X G (c.fact 49 (f := .free "str") rfl)
end K45
set_option Elab.async false
set_option linter.all false
set_option maxRecDepth 100000
set_option maxHeartbeats 400000
namespace K45
open PySem PySem.Spec PyProof.Rows L2 LamX
theorem law_at {w : World} {K : PySem.W.Frag} {h : Heap} {mg : Str → Option Value} {fa : Addr} (X : K.In h) (G : h.Ns mainGlobals mg) (hfa : mg ("law" : Str) = some (.ref fa)) (c : He.SaysX hdFa hdFn [] hdTf hdEx w h K) :
    LawAtS PySem.Challenge.rw_effectonce_k45_whole_plans_and_orders w K CX0 9 63 "_law_script" mg fa h := by
  have cd : He.SaysD hdFa hdFn K := c.t.d
  have t := tops_of X G cd
  obtain ⟨fd, F, _, b2⟩ := func_of (x := "law") (st := sLaw) (ps := ["_law_script"]) (cd.def_ 34 (d := dOf "law" sLaw) rfl) (fun _ _ _ _ _ _ us hl => match us, hl with | [_], _ => rfl)
  have e := hfa.symm.trans (He.glo_ok X G (cd.fact 34 (f := .glo "law") rfl))
  cases e
  obtain ⟨n12, n3⟩ := He.ba c.more
  obtain ⟨n13, n23⟩ := He.ba n3
  have n12 := of_decide_eq_true n12
  have n13 := of_decide_eq_true n13
  have n23 := of_decide_eq_true n23
  have m1 : (("in_order", none) : He.Defn) ∈ hdTf := List.mem_cons_self
  have m2 : (("job_order", none) : He.Defn) ∈ hdTf := List.mem_cons_of_mem _ List.mem_cons_self
  have m3 : (("law", none) : He.Defn) ∈ hdTf := List.mem_cons_of_mem _ (List.mem_cons_of_mem _ List.mem_cons_self)
  refine ⟨fd, hdTf.map (He.cT K), spLaw K [((He.cT K ("in_order", none)).2, lamQ "in_order"), ((He.cT K ("job_order", none)).2, lamQ "job_order"), ((He.cT K ("law", none)).2, lamQ "law")], fun p hp => ?_, fun p hp => ?_, fun p hp => ?_, fun s u => b2 s [u] rfl, fun H a ns hl _ hT hS => ⟨a, ns, rfl, hS, hl, fun p hp => ?_, fun _ => rfl⟩, fun base _ _ TB => ?_⟩
  · obtain ⟨q, hq, rfl⟩ := List.mem_map.mp hp
    exact c.empty q hq
  · obtain ⟨q, hq, rfl⟩ := List.mem_map.mp hp
    exact c.out q hq
  · obtain ⟨q, hq, rfl⟩ := List.mem_map.mp hp
    exact PySem.W.codeHd_of_K X (c.hd q hq)
  · rcases List.mem_cons.mp hp with rfl | hp
    · exact .nil (hT _ (List.mem_map.mpr ⟨_, m1, rfl⟩))
    · rcases List.mem_cons.mp hp with rfl | hp
      · exact .nil (hT _ (List.mem_map.mpr ⟨_, m2, rfl⟩))
      · rcases List.mem_cons.mp hp with rfl | hp
        · exact .nil (hT _ (List.mem_map.mpr ⟨_, m3, rfl⟩))
        · exact nomatch hp
  · refine all_law t F (TB _ (List.mem_map.mpr ⟨_, m1, rfl⟩)) (TB _ (List.mem_map.mpr ⟨_, m2, rfl⟩)) (TB _ (List.mem_map.mpr ⟨_, m3, rfl⟩)) List.mem_cons_self (List.mem_cons_of_mem _ List.mem_cons_self) (List.mem_cons_of_mem _ (List.mem_cons_of_mem _ List.mem_cons_self)) ?_ ?_ ?_
    · intro p hp ep
      rcases List.mem_cons.mp hp with rfl | hp
      · exact Eq.refl _
      · rcases List.mem_cons.mp hp with rfl | hp
        · exact (n12 ep.symm).elim
        · rcases List.mem_cons.mp hp with rfl | hp
          · exact (n13 ep.symm).elim
          · exact nomatch hp
    · intro p hp ep
      rcases List.mem_cons.mp hp with rfl | hp
      · exact (n12 ep).elim
      · rcases List.mem_cons.mp hp with rfl | hp
        · exact Eq.refl _
        · rcases List.mem_cons.mp hp with rfl | hp
          · exact (n23 ep.symm).elim
          · exact nomatch hp
    · intro p hp ep
      rcases List.mem_cons.mp hp with rfl | hp
      · exact (n13 ep).elim
      · rcases List.mem_cons.mp hp with rfl | hp
        · exact (n23 ep).elim
        · rcases List.mem_cons.mp hp with rfl | hp
          · exact Eq.refl _
          · exact nomatch hp
end K45
set_option Elab.async false
set_option linter.all false
set_option maxRecDepth 100000
set_option maxHeartbeats 0
namespace K45
open PySem PySem.Spec PyProof.Rows L2 LamX
/-! the head's run -/
abbrev hdR : PySem.W.OpenRow := PySem.W.OpenLaw.row PySem.Challenge.rw_effectonce_k45_whole_plans_and_orders
abbrev hdK : PySem.W.Hook := He.hookX 4 hdFa hdFn [] hdTf hdEx
def hdOb (s : PySem.W.SharedT) : He.AlX := He.obsX 4 hdFa hdFn [] hdTf hdEx (HandSHeadRun.getT s)
theorem hdOb_eq (s : PySem.W.SharedT) : hdOb s = hdK.obs s.abs := He.obsX_eq (HandSHeadRun.getT_eq s)
def hdLoose : List PySem.Str := (["names_of_jobs", "job_of", "needs_by_name", "come_to", "needs_of", "needed_by", "hangs_on", "steps_down", "way", "rank_table", "ranks", "in_order", "judge_order", "end_of", "run_at", "used_by", "plan_length"] : List PySem.Str) ++ (["dealt", "job_order", "may_begin", "list_plan", "fits_at", "turn_plan", "_law_open_cells", "_law_pick", "_law_any_order", "_law_draw_value", "_law_draw_command", "_law_draw_book", "_law_jobs", "_law_needs", "_law_ranks", "_law_some_order", "_law_plan_right"] : List PySem.Str)
theorem hd_run (w : World) : HandSHeadRun.RunEq hdR (PySem.W.view hdR.prog [39]) hdK hdOb 2000 hdLoose w := by
  intro os
  kernel_rfl
end K45
open PySem PySem.W PySem.Calls PyProof.Rows
theorem PySem.Challenge.cw_effectonce_k45_whole_plans_and_orders_holds : PySem.Challenge.rw_effectonce_k45_whole_plans_and_orders.Holds := by
  w_on; o_law
  refine HandSHeadRun.head_any (r := OpenLaw.row PySem.Challenge.rw_effectonce_k45_whole_plans_and_orders) (q := view (OpenLaw.row PySem.Challenge.rw_effectonce_k45_whole_plans_and_orders).prog [39]) (H := K45.hdK) (ob := K45.hdOb) (M := 2000) (loose := K45.hdLoose) (d := HandSHeadRun.topDef (OpenLaw.row PySem.Challenge.rw_effectonce_k45_whole_plans_and_orders).prog 39) (kwd := []) K45.hdOb_eq
    (by kernel_rfl) (fun s => by kernel_rfl) K45.hd_run (by kernel_rfl) (by kernel_rfl) (by kernel_rfl) (by rfl) (by first | assumption | decide +kernel) (by decide +kernel) ⟨rfl, rfl, rfl, rfl, rfl, by decide +kernel⟩ ?hw ?hc
  case hw => w_witness2
  case hc =>
    refine LamX.walk_ofTsE (l := PySem.Challenge.rw_effectonce_k45_whole_plans_and_orders) (n := 63) (k := 9) (x := "_law_script") (CX := fun _ => L2.CX0) rfl (by decide) (by kernel_rfl) ⟨rfl, by decide, by decide⟩ ?F (fun _ _ _ _ _ z => z)
    intro w mg fa h Y G hmg0
    obtain ⟨K, KX, c⟩ := Y
    have hmg : mg ("law" : PySem.Str) = some (.ref fa) := by
      have e : (HandSHeadRun.topDef (OpenLaw.row PySem.Challenge.rw_effectonce_k45_whole_plans_and_orders).prog 39).name = ("law" : PySem.Str) := by kernel_rfl
      rw [← e]
      exact hmg0
    exact ⟨K, KX, K45.law_at KX G hmg c⟩
