/- Graphs of edges in plain Lean: who waits for whom, through others too. -/
import Derived.Test.YtonpnkekcipmlaaSpanLaw
namespace Go.Proofs.Ytonpnkekcipmlaa.Sym
set_option linter.unusedVariables false
set_option linter.unusedSimpArgs false
structure DEdge where
  job : Int
  for_ : Int
  how : Int
@[reducible] def DEdge.cells (j : DEdge) : List Value := [.int .i64 j.job, .int .i64 j.for_, .int .i64 j.how]
@[reducible] def DEdge.v (j : DEdge) : Value := .agg (DEdge.cells j).toArray
instance : Inhabited DEdge := ⟨⟨0, 0, 0⟩⟩
inductive Rch (E : List DEdge) : Int → Int → Prop
  | refl (a : Int) : Rch E a a
  | step {e : DEdge} {b : Int} : e ∈ E → Rch E e.for_ b → Rch E e.job b
theorem Rch.trans {E : List DEdge} {a b c : Int} (h : Rch E a b) (k : Rch E b c) : Rch E a c := by
  induction h with
  | refl => exact k
  | step he _ ih => exact .step he (ih k)
theorem Rch.one {E : List DEdge} {e : DEdge} (he : e ∈ E) : Rch E e.job e.for_ := .step he (.refl _)
theorem Rch.mono {E E' : List DEdge} {a b : Int} (h : Rch E a b) (hs : ∀ e ∈ E, e ∈ E') : Rch E' a b := by
  induction h with
  | refl => exact .refl _
  | step he _ ih => exact .step (hs _ he) ih
/-- What is closed holds all that is reached. -/
theorem Rch.closed {E : List DEdge} {a b : Int} (h : Rch E a b) {p : Int → Prop} (ha : p a) (hc : ∀ e ∈ E, p e.job → p e.for_) : p b := by
  induction h with
  | refl => exact ha
  | step he _ ih => exact ih (hc _ he ha)
/-- The program's search. -/
structure Sch (E : List DEdge) (from_ to_ : Int) (seen todo : List Int) : Prop where
  sound : ∀ x, x ∈ seen ∨ x ∈ todo → Rch E from_ x
  no : to_ ∉ seen
  start : from_ ∈ seen ∨ from_ ∈ todo
  cl : ∀ e ∈ E, e.job ∈ seen → e.for_ ∈ seen ∨ e.for_ ∈ todo
theorem Sch.init {E : List DEdge} {from_ to_ : Int} : Sch E from_ to_ [] [from_] :=
  ⟨fun x h => (by
    rcases h with h | h
    · cases h
    · simp at h; subst h; exact .refl _), fun h => (by cases h), .inr (by simp), fun e _ h => (by cases h)⟩
theorem Sch.done {E : List DEdge} {from_ to_ : Int} {seen : List Int} (h : Sch E from_ to_ seen []) : ¬ Rch E from_ to_ := fun hr => by
  refine h.no (hr.closed (p := fun x => x ∈ seen) (h.start.resolve_right (by simp)) fun e he hj => (h.cl e he hj).resolve_right (by simp))
theorem Sch.skip {E : List DEdge} {from_ to_ x : Int} {seen todo : List Int} (h : Sch E from_ to_ seen (todo ++ [x])) (hx : x ∈ seen) : Sch E from_ to_ seen todo := by
  refine ⟨fun y hy => h.sound y (hy.imp id fun q => List.mem_append_left _ q), h.no, ?_, fun e he hj => ?_⟩
  · rcases h.start with q | q
    · exact .inl q
    · rw [List.mem_append] at q
      rcases q with q | q
      · exact .inr q
      · simp at q; subst q; exact .inl hx
  · rcases h.cl e he hj with q | q
    · exact .inl q
    · rw [List.mem_append] at q
      rcases q with q | q
      · exact .inr q
      · simp at q; rw [q]; exact .inl hx
def outs (E : List DEdge) (x : Int) : List Int := (E.filter (fun e => decide (e.job = x))).map DEdge.for_
theorem outs_take {E : List DEdge} {x : Int} {k : Nat} {e : DEdge} (he : E[k]? = some e) : outs (E.take (k + 1)) x = outs (E.take k) x ++ if e.job = x then [e.for_] else [] := by
  unfold outs
  rw [takeS he, List.filter_append, List.map_append]
  by_cases q : e.job = x
  · rw [if_pos q, List.filter_cons_of_pos (by simpa using q)]; rfl
  · rw [if_neg q, List.filter_cons_of_neg (by simpa using q)]; rfl
theorem outs_mem {E : List DEdge} {x y : Int} : y ∈ outs E x ↔ ∃ e ∈ E, e.job = x ∧ e.for_ = y := by
  unfold outs
  rw [List.mem_map]
  constructor
  · rintro ⟨e, he, rfl⟩
    rw [List.mem_filter] at he
    exact ⟨e, he.1, by simpa using he.2, rfl⟩
  · rintro ⟨e, he, h1, h2⟩
    exact ⟨e, List.mem_filter.2 ⟨he, by simpa using h1⟩, h2⟩
theorem outs_len (E : List DEdge) (x : Int) : (outs E x).length ≤ E.length := by
  unfold outs; rw [List.length_map]; exact List.length_filter_le _ _
theorem Sch.go {E : List DEdge} {from_ to_ x : Int} {seen todo : List Int} (h : Sch E from_ to_ seen (todo ++ [x])) (hx : x ≠ to_) : Sch E from_ to_ (x :: seen) (todo ++ outs E x) := by
  have hrx := h.sound x (.inr (by simp))
  refine ⟨fun y hy => ?_, fun q => ?_, ?_, fun e he hj => ?_⟩
  · rcases hy with hy | hy
    · rw [List.mem_cons] at hy
      rcases hy with rfl | hy
      · exact hrx
      · exact h.sound y (.inl hy)
    · rw [List.mem_append] at hy
      rcases hy with hy | hy
      · exact h.sound y (.inr (List.mem_append_left _ hy))
      · obtain ⟨e, he, rfl, rfl⟩ := outs_mem.1 hy
        exact hrx.trans (.one he)
  · rw [List.mem_cons] at q
    rcases q with rfl | q
    · exact hx rfl
    · exact h.no q
  · rcases h.start with q | q
    · exact .inl (List.mem_cons_of_mem _ q)
    · rw [List.mem_append] at q
      rcases q with q | q
      · exact .inr (List.mem_append_left _ q)
      · simp at q; rw [q]; exact .inl List.mem_cons_self
  · rw [List.mem_cons] at hj
    rcases hj with hj | hj
    · exact .inr (List.mem_append_right _ (outs_mem.2 ⟨e, he, hj, rfl⟩))
    · rcases h.cl e he hj with q | q
      · exact .inl (List.mem_cons_of_mem _ q)
      · rw [List.mem_append] at q
        rcases q with q | q
        · exact .inr (List.mem_append_left _ q)
        · simp at q; rw [q]; exact .inl List.mem_cons_self
/-- How many edges begin at what was not yet seen. -/
def unsn (E : List DEdge) (seen : List Int) : Nat := (E.filter (fun e => decide (e.job ∉ seen))).length
theorem unsn_go {E : List DEdge} {x : Int} {seen : List Int} (hx : x ∉ seen) : unsn E (x :: seen) + (outs E x).length = unsn E seen := by
  unfold unsn outs
  rw [List.length_map]
  induction E with
  | nil => rfl
  | cons e E ih =>
    by_cases h1 : e.job = x
    · have h2 : e.job ∉ seen := by rw [h1]; exact hx
      rw [List.filter_cons_of_neg (by simp [h1]), List.filter_cons_of_pos (p := fun e : DEdge => decide (e.job = x)) (by simpa using h1), List.filter_cons_of_pos (p := fun e : DEdge => decide (e.job ∉ seen)) (by simpa using h2), List.length_cons, List.length_cons]
      omega
    · by_cases h2 : e.job ∈ seen
      · rw [List.filter_cons_of_neg (by simp [h2]), List.filter_cons_of_neg (p := fun e : DEdge => decide (e.job = x)) (by simpa using h1), List.filter_cons_of_neg (p := fun e : DEdge => decide (e.job ∉ seen)) (by simpa using h2)]
        exact ih
      · rw [List.filter_cons_of_pos (by simp [h1, h2]), List.filter_cons_of_neg (p := fun e : DEdge => decide (e.job = x)) (by simpa using h1), List.filter_cons_of_pos (p := fun e : DEdge => decide (e.job ∉ seen)) (by simpa using h2), List.length_cons, List.length_cons]
        omega
/-- The law's rounds. -/
def cntF (E : List DEdge) (out : List Int) : Nat := (E.filter (fun e => decide (e.for_ ∉ out))).length
theorem cntF_push {E : List DEdge} {out : List Int} {e : DEdge} (he : e ∈ E) (hf : e.for_ ∉ out) : cntF E (out ++ [e.for_]) < cntF E out := by
  have le : ∀ l : List DEdge, (l.filter (fun x => decide (x.for_ ∉ out ++ [e.for_]))).length ≤ (l.filter (fun x => decide (x.for_ ∉ out))).length := by
    intro l
    induction l with
    | nil => exact Nat.le_refl _
    | cons x l ih =>
      by_cases h1 : x.for_ ∈ out
      · rw [List.filter_cons_of_neg (by simp [h1]), List.filter_cons_of_neg (by simp [h1])]; exact ih
      · by_cases h2 : x.for_ = e.for_
        · rw [List.filter_cons_of_neg (by simp [h2]), List.filter_cons_of_pos (by simp [h1]), List.length_cons]; omega
        · rw [List.filter_cons_of_pos (by simp [h1, h2]), List.filter_cons_of_pos (by simp [h1]), List.length_cons, List.length_cons]; omega
  unfold cntF
  induction E with
  | nil => cases he
  | cons x E ih =>
    rw [List.mem_cons] at he
    rcases he with rfl | he
    · rw [List.filter_cons_of_neg (p := fun x : DEdge => decide (x.for_ ∉ out ++ [e.for_])) (by simp), List.filter_cons_of_pos (p := fun x : DEdge => decide (x.for_ ∉ out)) (by simp [hf]), List.length_cons]
      have := le E
      omega
    · have := ih he
      by_cases h1 : x.for_ ∈ out
      · rw [List.filter_cons_of_neg (by simp [h1]), List.filter_cons_of_neg (by simp [h1])]; exact this
      · by_cases h2 : x.for_ = e.for_
        · rw [List.filter_cons_of_neg (by simp [h2]), List.filter_cons_of_pos (by simp [h1]), List.length_cons]; omega
        · rw [List.filter_cons_of_pos (by simp [h1, h2]), List.filter_cons_of_pos (by simp [h1]), List.length_cons, List.length_cons]; omega
def Clo (E : List DEdge) (out : List Int) (i : Nat) : Prop := ∀ j e, j < i → E[j]? = some e → e.job ∈ out → e.for_ ∈ out
structure RdI (E : List DEdge) (from_ : Int) (k : Nat) (out : List Int) : Prop where
  sound : ∀ x ∈ out, Rch E from_ x
  start : from_ ∈ out
  len : out.length + cntF E out ≤ E.length + 1
  prog : Clo E out E.length ∨ cntF E out + k ≤ E.length
theorem RdI.init {E : List DEdge} {from_ : Int} : RdI E from_ 0 [from_] :=
  ⟨fun x h => by simp at h; subst h; exact .refl _, by simp, by unfold cntF; have := List.length_filter_le (fun e : DEdge => decide (e.for_ ∉ [from_])) E; simp at *; omega, .inr (by unfold cntF; exact List.length_filter_le _ _)⟩
/-- Within a round: i edges looked at; what it began with was out0. -/
structure RnI (E : List DEdge) (from_ : Int) (k : Nat) (i : Nat) (out : List Int) : Prop where
  sound : ∀ x ∈ out, Rch E from_ x
  start : from_ ∈ out
  len : out.length + cntF E out ≤ E.length + 1
  prog : (Clo E out i ∧ (Clo E out E.length ∨ cntF E out + k ≤ E.length)) ∨ cntF E out + (k + 1) ≤ E.length
theorem RdI.round {E : List DEdge} {from_ : Int} {k : Nat} {out : List Int} (h : RdI E from_ k out) : RnI E from_ k 0 out := ⟨h.sound, h.start, h.len, .inl ⟨fun j e hj => by omega, h.prog⟩⟩
theorem RnI.fin {E : List DEdge} {from_ : Int} {k i : Nat} {out : List Int} (h : RnI E from_ k i out) (hi : E.length ≤ i) : RdI E from_ (k + 1) out := by
  refine ⟨h.sound, h.start, h.len, ?_⟩
  rcases h.prog with ⟨q, _⟩ | q
  · exact .inl fun j e hj => q j e (by omega)
  · exact .inr q
theorem RnI.skip {E : List DEdge} {from_ : Int} {k i : Nat} {out : List Int} {e : DEdge} (h : RnI E from_ k i out) (he : E[i]? = some e) (hn : ¬ (e.job ∈ out ∧ e.for_ ∉ out)) : RnI E from_ k (i + 1) out := by
  refine ⟨h.sound, h.start, h.len, h.prog.imp (fun ⟨q, q2⟩ => ⟨fun j x hj hx hjo => ?_, q2⟩) id⟩
  by_cases e2 : j = i
  · subst e2
    rw [he] at hx; cases hx
    exact Classical.not_not.1 fun q3 => hn ⟨hjo, q3⟩
  · exact q j x (by omega) hx hjo
theorem RnI.push {E : List DEdge} {from_ : Int} {k i : Nat} {out : List Int} {e : DEdge} (h : RnI E from_ k i out) (he : E[i]? = some e) (h1 : e.job ∈ out) (h2 : e.for_ ∉ out) : RnI E from_ k (i + 1) (out ++ [e.for_]) := by
  have hm := List.mem_of_getElem? he
  have hc := cntF_push hm h2
  have hl := h.len
  refine ⟨fun x hx => ?_, List.mem_append_left _ h.start, by rw [List.length_append]; simp; omega, .inr ?_⟩
  · rw [List.mem_append] at hx
    rcases hx with hx | hx
    · exact h.sound x hx
    · simp at hx; rw [hx]
      exact (h.sound _ h1).trans (.one hm)
  · rcases h.prog with ⟨_, q | q⟩ | q
    · exfalso
      exact h2 (q i e (get_lt he) he h1)
    · omega
    · omega
theorem RdI.all {E : List DEdge} {from_ : Int} {k : Nat} {out : List Int} (h : RdI E from_ k out) (hk : E.length < k) (x : Int) : x ∈ out ↔ Rch E from_ x := by
  have hc : Clo E out E.length := h.prog.resolve_right (by omega)
  refine ⟨h.sound x, fun hr => hr.closed (p := fun x => x ∈ out) h.start fun e he hj => ?_⟩
  obtain ⟨j, hj2⟩ := List.getElem?_of_mem he
  exact hc j e (get_lt hj2) hj2 hj
/-- What Add does. -/
inductive AddD (E : List DEdge) (e : DEdge) : Int → List DEdge → Prop
  | arg : (e.job < 1 ∨ e.for_ < 1 ∨ e.how < 1 ∨ 3 < e.how) → AddD E e 1 E
  | twice : ¬ (e.job < 1 ∨ e.for_ < 1 ∨ e.how < 1 ∨ 3 < e.how) → (∃ x ∈ E, x.job = e.job ∧ x.for_ = e.for_) → AddD E e 13 E
  | cyc : ¬ (e.job < 1 ∨ e.for_ < 1 ∨ e.how < 1 ∨ 3 < e.how) → (∀ x ∈ E, ¬ (x.job = e.job ∧ x.for_ = e.for_)) → Rch E e.for_ e.job → AddD E e 15 E
  | ok : ¬ (e.job < 1 ∨ e.for_ < 1 ∨ e.how < 1 ∨ 3 < e.how) → (∀ x ∈ E, ¬ (x.job = e.job ∧ x.for_ = e.for_)) → ¬ Rch E e.for_ e.job → AddD E e 0 (E ++ [e])
theorem AddD.uniq {E E1 E2 : List DEdge} {e : DEdge} {r s : Int} (h : AddD E e r E1) (k : AddD E e s E2) : r = s ∧ E1 = E2 := by
  have no : ∀ {x : DEdge}, (∀ x ∈ E, ¬ (x.job = e.job ∧ x.for_ = e.for_)) → x ∈ E → x.job = e.job ∧ x.for_ = e.for_ → False := fun h hx q => h _ hx q
  cases h with
  | arg h => cases k with
    | arg => exact ⟨rfl, rfl⟩
    | twice k => exact absurd h k
    | cyc k => exact absurd h k
    | ok k => exact absurd h k
  | twice h h2 => obtain ⟨x, hx, hxe⟩ := h2; cases k with
    | arg k => exact absurd k h
    | twice => exact ⟨rfl, rfl⟩
    | cyc k k2 => exact (no k2 hx hxe).elim
    | ok k k2 => exact (no k2 hx hxe).elim
  | cyc h h2 h3 => cases k with
    | arg k => exact absurd k h
    | twice k k2 => obtain ⟨x, hx, hxe⟩ := k2; exact (no h2 hx hxe).elim
    | cyc => exact ⟨rfl, rfl⟩
    | ok k k2 k3 => exact absurd h3 k3
  | ok h h2 h3 => cases k with
    | arg k => exact absurd k h
    | twice k k2 => obtain ⟨x, hx, hxe⟩ := k2; exact (no h2 hx hxe).elim
    | cyc k k2 k3 => exact absurd k3 h3
    | ok => exact ⟨rfl, rfl⟩
def Acy (E : List DEdge) : Prop := ∀ e ∈ E, ¬ Rch E e.for_ e.job
theorem rch_snoc {E : List DEdge} {e : DEdge} {a b : Int} (h : Rch (E ++ [e]) a b) : Rch E a b ∨ (Rch E a e.job ∧ Rch E e.for_ b) := by
  induction h with
  | refl => exact .inl (.refl _)
  | @step x b hx _ ih =>
    rw [List.mem_append] at hx
    rcases hx with hx | hx
    · exact ih.imp (fun q => .step hx q) fun q => ⟨.step hx q.1, q.2⟩
    · simp at hx
      subst hx
      rcases ih with q | q
      · exact .inr ⟨.refl _, q⟩
      · exact .inr ⟨.refl _, q.2⟩
/-- What a graph keeps. -/
structure DgI (E : List DEdge) : Prop where
  acy : Acy E
  one : E.Pairwise (fun a b => ¬ (a.job = b.job ∧ a.for_ = b.for_))
theorem DgI.nil : DgI [] := ⟨fun e h => (by cases h), List.Pairwise.nil⟩
theorem DgI.add {E E' : List DEdge} {e : DEdge} {r : Int} (h : DgI E) (hA : AddD E e r E') : DgI E' := by
  cases hA with
  | arg => exact h
  | twice => exact h
  | cyc => exact h
  | ok h1 h2 h3 =>
    refine ⟨fun x hx hr => ?_, ?_⟩
    · rw [List.mem_append] at hx
      rcases hx with hx | hx
      · rcases rch_snoc hr with q | q
        · exact h.acy x hx q
        · exact h3 (q.2.trans (.step hx q.1))
      · simp at hx
        subst hx
        rcases rch_snoc hr with q | q
        · exact h3 q
        · exact h3 q.1
    · rw [List.pairwise_append]
      refine ⟨h.one, by simp, fun a ha b hb => ?_⟩
      simp at hb
      subst hb
      exact h2 a ha
theorem AddD.len {E E' : List DEdge} {e : DEdge} {r : Int} (h : AddD E e r E') : E'.length ≤ E.length + 1 := by
  cases h with
  | ok => simp
  | _ => omega
/-- Those that a job waits for are told once each. -/
theorem outs_nodup {E : List DEdge} (h : DgI E) (x : Int) : (outs E x).Nodup := by
  unfold outs List.Nodup
  rw [List.pairwise_map, List.pairwise_filter]
  refine h.one.imp fun {a b} hab => ?_
  intro ha hb e
  simp at ha hb
  exact hab ⟨ha.trans hb.symm, e⟩
theorem asc_sorted {A W : List Int} (hn : A.Nodup) (hp : W.Perm A) (hs : W.Pairwise (· ≤ ·)) : Tms A W := by
  have hw : W.Nodup := hp.nodup_iff.2 hn
  refine ⟨?_, fun t => hp.mem_iff⟩
  have := hs.and hw
  exact this.imp fun {a b} h => by have := h.1; have := h.2; omega
end Go.Proofs.Ytonpnkekcipmlaa.Sym
