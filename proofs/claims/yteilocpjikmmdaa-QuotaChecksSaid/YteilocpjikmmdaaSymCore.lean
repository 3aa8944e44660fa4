/- A small separation logic over the model's walk calculus: what a call owns is a list of blocks, known whole; all that was there before the law began stays as it was. -/
import Derived.Below
import Derived.Orders
import Derived.KernelRfl
import Derived.Laws.Sem
namespace Go.Proofs.Yteilocpjikmmdaa.Sym
open Go.RowKit (Below)
set_option linter.unusedVariables false

abbrev SHeap := List (Nat × Obj)
def keys (H : SHeap) : List Nat := H.map (·.1)
theorem keys_nil : keys [] = [] := rfl
theorem keys_cons (b : Nat) (o : Obj) (H : SHeap) : keys ((b, o) :: H) = b :: keys H := rfl
theorem keys_append (H K : SHeap) : keys (H ++ K) = keys H ++ keys K := List.map_append
theorem mem_keys {b : Nat} {o : Obj} {H : SHeap} (h : (b, o) ∈ H) : b ∈ keys H := List.mem_map.2 ⟨(b, o), h, rfl⟩

def find (b : Nat) : SHeap → Option Obj
  | [] => none
  | (c, o) :: H => if c = b then some o else find b H
theorem find_mem {b : Nat} {o : Obj} : ∀ {H : SHeap}, find b H = some o → (b, o) ∈ H
  | (c, p) :: H, h => by
    unfold find at h
    split at h
    · next hc => subst hc; cases h; exact List.mem_cons_self
    · exact List.mem_cons_of_mem _ (find_mem h)
theorem find_of_mem {b : Nat} {o : Obj} : ∀ {H : SHeap}, (keys H).Nodup → (b, o) ∈ H → find b H = some o
  | (c, p) :: H, hn, h => by
    rw [keys_cons, List.nodup_cons] at hn
    unfold find
    rcases List.mem_cons.1 h with h | h
    · cases h; simp
    · have : c ≠ b := fun e => hn.1 (e ▸ mem_keys h)
      rw [if_neg this]; exact find_of_mem hn.2 h
theorem find_none {b : Nat} : ∀ {H : SHeap}, b ∉ keys H → find b H = none
  | [], _ => rfl
  | (c, p) :: H, h => by
    rw [keys_cons, List.mem_cons, not_or] at h
    unfold find; rw [if_neg (fun e => h.1 e.symm)]; exact find_none h.2

def upd (b : Nat) (o : Obj) : SHeap → SHeap
  | [] => []
  | (c, p) :: H => if c = b then (c, o) :: H else (c, p) :: upd b o H
theorem keys_upd (b : Nat) (o : Obj) : ∀ H : SHeap, keys (upd b o H) = keys H
  | [] => rfl
  | (c, p) :: H => by
    unfold upd; split
    · rfl
    · rw [keys_cons, keys_cons, keys_upd b o H]
theorem mem_upd {b c : Nat} {o p : Obj} : ∀ {H : SHeap}, (keys H).Nodup → (c, p) ∈ upd b o H → (c = b ∧ p = o) ∨ (c ≠ b ∧ (c, p) ∈ H)
  | (d, q) :: H, hn, h => by
    rw [keys_cons, List.nodup_cons] at hn
    unfold upd at h
    split at h
    · next hd =>
      subst hd
      rcases List.mem_cons.1 h with h | h
      · cases h; exact .inl ⟨rfl, rfl⟩
      · exact .inr ⟨fun e => hn.1 (e ▸ mem_keys h), List.mem_cons_of_mem _ h⟩
    · next hd =>
      rcases List.mem_cons.1 h with h | h
      · cases h; exact .inr ⟨hd, List.mem_cons_self⟩
      · rcases mem_upd hn.2 h with h | ⟨h1, h2⟩
        · exact .inl h
        · exact .inr ⟨h1, List.mem_cons_of_mem _ h2⟩

/-- What is owned of a world: each block of H, whole; and all that lay below W0's end is as in W0. -/
structure Own (W0 : World) (H : SHeap) (w : World) : Prop where
  below : Below W0.heap.size W0 w
  nd : (keys H).Nodup
  ge : ∀ b ∈ keys H, W0.heap.size ≤ b
  at_ : ∀ b o, (b, o) ∈ H → w.heap[b]? = some o

theorem Own.lt {W0 w : World} {H : SHeap} (h : Own W0 H w) {b : Nat} (hb : b ∈ keys H) : b < w.heap.size := by
  obtain ⟨⟨c, o⟩, hm, rfl⟩ := List.mem_map.1 hb
  have := h.at_ c o hm
  rcases Nat.lt_or_ge c w.heap.size with hl | hl
  · exact hl
  · rw [Array.getElem?_eq_none hl] at this; cases this

/-- Steps leave what is not owned as it was; what is newly owned is new. -/
structure Fr (H H' : SHeap) (w w' : World) : Prop where
  size : w.heap.size ≤ w'.heap.size
  keep : ∀ b, b < w.heap.size → b ∉ keys H → w'.heap[b]? = w.heap[b]?
  new : ∀ b ∈ keys H', b ∈ keys H ∨ w.heap.size ≤ b

theorem Fr.refl (H : SHeap) (w : World) : Fr H H w w := ⟨Nat.le_refl _, fun _ _ _ => rfl, fun _ h => .inl h⟩
theorem Fr.trans {H H1 H2 : SHeap} {w w1 w2 : World} (h : Fr H H1 w w1) (k : Fr H1 H2 w1 w2) : Fr H H2 w w2 := by
  refine ⟨Nat.le_trans h.size k.size, fun b hb hn => ?_, fun b hb => ?_⟩
  · rw [k.keep b (Nat.lt_of_lt_of_le hb h.size) (fun hc => ?_), h.keep b hb hn]
    rcases h.new b hc with hc | hc
    · exact hn hc
    · omega
  · rcases k.new b hb with hc | hc
    · exact h.new b hc
    · exact .inr (Nat.le_trans h.size hc)
theorem Fr.of_keys {H G H' G' : SHeap} {w w' : World} (h : Fr H H' w w') (h1 : ∀ b ∈ keys H, b ∈ keys G) (h2 : ∀ b ∈ keys G', b ∈ keys H' ∨ b ∈ keys G) : Fr G G' w w' :=
  ⟨h.size, fun b hb hn => h.keep b hb (fun hc => hn (h1 b hc)), fun b hb => (h2 b hb).elim (fun hc => (h.new b hc).imp (h1 b) id) .inl⟩

/-- One list of blocks is part of another. -/
def Part (G H : SHeap) : Prop := ∀ w W0, Own W0 H w → Own W0 G w
def Sub (G H : SHeap) : Prop := ∃ F, (G ++ F).Perm H
theorem Sub.refl (H : SHeap) : Sub H H := ⟨[], by simp⟩
theorem Sub.of_perm {G H : SHeap} (h : G.Perm H) : Sub G H := ⟨[], by simpa using h⟩
theorem Sub.trans {A B C : SHeap} (h : Sub A B) (k : Sub B C) : Sub A C := by
  obtain ⟨F, hF⟩ := h; obtain ⟨E, hE⟩ := k
  exact ⟨F ++ E, by rw [← List.append_assoc]; exact (hF.append_right E).trans hE⟩
theorem Sub.keys {G H : SHeap} (h : Sub G H) : ∀ b ∈ keys G, b ∈ Sym.keys H := by
  obtain ⟨F, hF⟩ := h
  intro b hb
  have : (Sym.keys (G ++ F)).Perm (Sym.keys H) := hF.map _
  exact this.mem_iff.1 (by rw [keys_append]; exact List.mem_append_left _ hb)
theorem Own.perm {W0 w : World} {H G : SHeap} (h : Own W0 H w) (hp : H.Perm G) : Own W0 G w :=
  ⟨h.below, (hp.map _).nodup_iff.1 h.nd, fun b hb => h.ge b ((hp.map _).mem_iff.2 hb), fun b o hm => h.at_ b o (hp.mem_iff.2 hm)⟩
theorem Own.left {W0 w : World} {H F : SHeap} (h : Own W0 (H ++ F) w) : Own W0 H w :=
  ⟨h.below, by have := h.nd; rw [keys_append, List.nodup_append] at this; exact this.1, fun b hb => h.ge b (by rw [keys_append]; exact List.mem_append_left _ hb), fun b o hm => h.at_ b o (List.mem_append_left _ hm)⟩
theorem Own.sub {W0 w : World} {H G : SHeap} (h : Own W0 H w) (hs : Sub G H) : Own W0 G w := by
  obtain ⟨F, hF⟩ := hs; exact (h.perm hF.symm).left

/-- Framing: a step on H gives a step on H ++ F. -/
theorem Own.frame {W0 w w' : World} {H F H' : SHeap} (h : Own W0 (H ++ F) w) (h' : Own W0 H' w') (f : Fr H H' w w') : Own W0 (H' ++ F) w' ∧ Fr (H ++ F) (H' ++ F) w w' := by
  have hdisj : ∀ b ∈ keys F, b ∉ keys H := fun b hb hc => by
    have := h.nd; rw [keys_append, List.nodup_append] at this; exact this.2.2 b hc b hb rfl
  have hF : ∀ b ∈ keys F, b < w.heap.size := fun b hb => h.lt (by rw [keys_append]; exact List.mem_append_right _ hb)
  have hndF : (keys F).Nodup := by have := h.nd; rw [keys_append, List.nodup_append] at this; exact this.2.1
  refine ⟨⟨h'.below, ?_, fun b hb => ?_, fun b o hm => ?_⟩, f.size, fun b hb hn => f.keep b hb (fun hc => hn (by rw [keys_append]; exact List.mem_append_left _ hc)), fun b hb => ?_⟩
  · rw [keys_append, List.nodup_append]
    refine ⟨h'.nd, hndF, fun b hb c hc e => ?_⟩
    subst e
    rcases f.new b hb with hb | hb
    · exact hdisj b hc hb
    · have := hF b hc; omega
  · rw [keys_append] at hb
    rcases List.mem_append.1 hb with hb | hb
    · exact h'.ge b hb
    · exact h.ge b (by rw [keys_append]; exact List.mem_append_right _ hb)
  · rcases List.mem_append.1 hm with hm | hm
    · exact h'.at_ b o hm
    · rw [f.keep b (hF b (mem_keys hm)) (hdisj b (mem_keys hm))]
      exact h.at_ b o (List.mem_append_right _ hm)
  · rw [keys_append] at hb
    rcases List.mem_append.1 hb with hb | hb
    · exact (f.new b hb).imp (fun hc => by rw [keys_append]; exact List.mem_append_left _ hc) id
    · exact .inl (by rw [keys_append]; exact List.mem_append_right _ hb)

def objAt (W0 : World) (H : SHeap) (b : Nat) : Option Obj := if b < W0.heap.size then W0.heap[b]? else find b H
theorem Own.obj {W0 w : World} {H : SHeap} (h : Own W0 H w) {b : Nat} {o : Obj} (ho : objAt W0 H b = some o) : w.heap[b]? = some o := by
  unfold objAt at ho
  split at ho
  · next hb => rw [h.below.block b hb]; exact ho
  · exact h.at_ b o (find_mem ho)

def cellOf (o : Obj) (a : Addr) : Option Value :=
  match o with
  | .cells c _ _ => if a.spot.isSome then none else c[a.off]?
  | _ => none
def frozenOf (o : Obj) (a : Addr) : Bool :=
  match o with
  | .cells _ _ (lo, hi) => lo ≤ a.off && a.off < hi
  | _ => false

theorem cell?_of {w : World} {a : Addr} {o : Obj} (h : w.heap[a.block]? = some o) : w.cell? a = cellOf o a := by
  unfold World.cell? cellOf; rw [h]; cases o <;> rfl
theorem frozen?_of {w : World} {a : Addr} {o : Obj} (h : w.heap[a.block]? = some o) : w.frozen? a = frozenOf o a := by
  unfold World.frozen? frozenOf; rw [h]; cases o <;> rfl

/-- The model's own computations, run on what is owned (and on W0 below its end). 'ro': the number of the one new block that may be made. -/
def oneCell : Value → Bool
  | .agg _ | .tuple _ => false
  | _ => true
def runSym (P : Program) (W0 : World) {α : Type} : Sem α → Option Nat → SHeap → Option (α × SHeap)
  | .pure a, _, H => some (a, H)
  | .load _ a k, ro, H =>
    match (objAt W0 H a.block).bind (cellOf · a) with
    | some v => runSym P W0 (k v) ro H
    | none => none
  | .store _ a v k, ro, H =>
    match find a.block H with
    | some (.cells c e fz) =>
      if a.block < W0.heap.size then none else
      if !oneCell v || (cellOf (.cells c e fz) a).isNone || frozenOf (.cells c e fz) a then none
      else runSym P W0 k ro (upd a.block (.cells (c.setIfInBounds a.off v) e fz) H)
    | _ => none
  | .new o k, ro, H =>
    match ro with
    | some r => runSym P W0 (k r) none ((r, o) :: H)
    | none => none
  | .shape b k, ro, H =>
    match objAt W0 H b with
    | some (.cells c e _) => runSym P W0 (k (some (e, c.size))) ro H
    | some _ => runSym P W0 (k none) ro H
    | none => none
  | .frozen a k, ro, H =>
    match objAt W0 H a.block with
    | some o => runSym P W0 (k (frozenOf o a)) ro H
    | none => none
  | .getObj b k, ro, H =>
    match objAt W0 H b with
    | some (.cells ..) => none
    | some o => runSym P W0 (k o) ro H
    | none => none
  | .setObj b o k, ro, H =>
    if b < W0.heap.size then none else
    match find b H with
    | some (.cells ..) => none
    | some _ => runSym P W0 k ro (upd b o H)
    | none => none
  | .program k, ro, H => runSym P W0 (k P) ro H
  | .mark _ k, ro, H => runSym P W0 k ro H
  | _, _, _ => none

theorem own_write {W0 w : World} {H : SHeap} (h : Own W0 H w) {b : Nat} {o o' : Obj} (hf : find b H = some o) (hb : W0.heap.size ≤ b) {w' : World}
    (hw : w'.heap.size = w.heap.size) (hk : ∀ c, c ≠ b → w'.heap[c]? = w.heap[c]?) (hv : w'.heap[b]? = some o') (hos : w'.os = w.os) (ht : w'.tape = w.tape) (hout : w'.output = w.output) :
    Own W0 (upd b o' H) w' ∧ Fr H (upd b o' H) w w' := by
  have hm := find_mem hf
  refine ⟨⟨?_, ?_, ?_, ?_⟩, ?_, ?_, ?_⟩
  · refine h.below.trans ⟨hos, ht, hout, by omega, fun k hk' => hk k ?_⟩
    omega
  · rw [keys_upd]; exact h.nd
  · rw [keys_upd]; exact h.ge
  · intro c p hcp
    rcases mem_upd h.nd hcp with ⟨rfl, rfl⟩ | ⟨h1, h2⟩
    · exact hv
    · rw [hk c h1]; exact h.at_ c p h2
  · omega
  · exact fun c _ hn => hk c (fun e => hn (e ▸ mem_keys hm))
  · rw [keys_upd]; exact fun c hc => .inl hc

theorem setCell_heap {w : World} {a : Addr} {v : Value} {c : Array Value} {e : TypeId} {fz : Nat × Nat} (h : w.heap[a.block]? = some (.cells c e fz)) (hs : a.spot.isSome = false) :
    (w.setCell a v).heap[a.block]? = some (.cells (c.setIfInBounds a.off v) e fz) := by
  unfold World.setCell
  simp only [Array.getElem?_modify, if_true, h, Option.map_some]
  rw [hs]; simp

theorem own_new {W0 w : World} {H : SHeap} (h : Own W0 H w) (o : Obj) :
    Own W0 ((w.heap.size, o) :: H) { w with heap := w.heap.push o } ∧ Fr H ((w.heap.size, o) :: H) w { w with heap := w.heap.push o } := by
  have hk : ∀ b, b < w.heap.size → (w.heap.push o)[b]? = w.heap[b]? := fun b hb => by rw [Array.getElem?_push, if_neg (by omega)]
  refine ⟨⟨?_, ?_, ?_, ?_⟩, ?_, ?_, ?_⟩
  · exact h.below.trans ⟨rfl, rfl, rfl, by simp, fun b hb => hk b (Nat.lt_of_lt_of_le hb h.below.size)⟩
  · rw [keys_cons, List.nodup_cons]; exact ⟨fun hc => Nat.lt_irrefl _ (h.lt hc), h.nd⟩
  · intro b hb; rw [keys_cons] at hb
    rcases List.mem_cons.1 hb with rfl | hb
    · exact h.below.size
    · exact h.ge b hb
  · intro b p hm
    rcases List.mem_cons.1 hm with hm | hm
    · cases hm; simp
    · show (w.heap.push o)[b]? = _
      rw [hk b (h.lt (mem_keys hm))]; exact h.at_ b p hm
  · simp
  · exact fun b hb _ => hk b hb
  · intro b hb; rw [keys_cons] at hb
    rcases List.mem_cons.1 hb with rfl | hb
    · exact .inr (Nat.le_refl _)
    · exact .inl hb

theorem runSym_sound {P : Program} {W0 : World} {α : Type} (s : Sem α) : ∀ {ro : Option Nat} {H H' : SHeap} {x : α} {w : World}, runSym P W0 s ro H = some (x, H') → Own W0 H w → (∀ r, ro = some r → r = w.heap.size) →
    ∃ w', s.run P w = .ok x w' ∧ Own W0 H' w' ∧ Fr H H' w w' := by
  induction s with
  | pure a => intro ro H H' x w h ho _; simp only [runSym, Option.some.injEq, Prod.mk.injEq] at h; obtain ⟨rfl, rfl⟩ := h; exact ⟨w, rfl, ho, Fr.refl _ _⟩
  | load m a k ih =>
    intro ro H H' x w h ho hr
    simp only [runSym] at h
    cases hc : (objAt W0 H a.block).bind (cellOf · a) with
    | none => rw [hc] at h; cases h
    | some v =>
      rw [hc] at h; simp only at h
      obtain ⟨o, h1, h2⟩ := Option.bind_eq_some_iff.1 hc
      obtain ⟨w', h3, h4, h5⟩ := ih v h ho hr
      refine ⟨w', ?_, h4, h5⟩
      simp only [Sem.run, cell?_of (ho.obj h1), h2]; exact h3
  | store m a v k ih =>
    intro ro H H' x w h ho hr
    have key := h
    simp only [runSym] at key
    cases hf : find a.block H with
    | none => rw [hf] at key; cases key
    | some o =>
      rw [hf] at key
      cases o <;> simp only at key <;> first | contradiction | skip
      rename_i c e fz
      split at key
      · cases key
      · next hlt =>
        split at key
        · cases key
        · next hcf =>
          simp only [Bool.or_eq_true, not_or, Bool.not_eq_true] at hcf
          obtain ⟨⟨hv1, hc1⟩, hc2⟩ := hcf
          have hat := ho.at_ _ _ (find_mem hf)
          have hcell : (w.cell? a) = cellOf (.cells c e fz) a := cell?_of hat
          obtain ⟨u, hu⟩ : ∃ u, cellOf (.cells c e fz) a = some u := by
            cases hx : cellOf (.cells c e fz) a with
            | none => simp [hx] at hc1
            | some u => exact ⟨u, rfl⟩
          have hs : a.spot.isSome = false := by
            unfold cellOf at hu; cases hb : a.spot.isSome with
            | false => rfl
            | true => simp [hb] at hu
          obtain ⟨ho2, hfr⟩ := own_write ho hf (by omega) (w' := w.setCell a v) (by simp [World.setCell]) (fun d hd => Go.RowKit.Below.heap_setCell w a v d hd) (setCell_heap hat hs) rfl rfl rfl
          obtain ⟨w', h3, h4, h5⟩ := ih key ho2 (fun r hr' => by rw [hr r hr']; simp [World.setCell])
          refine ⟨w', ?_, h4, hfr.trans h5⟩
          have hrun : (Sem.store m a v k).run P w = k.run P (w.setCell a v) := by
            cases v <;> first | (simp [oneCell] at hv1; done) | simp [Sem.run, hcell, hu, frozen?_of hat, hc2]
          rw [hrun]; exact h3
  | new o k ih =>
    intro ro H H' x w h ho hr
    cases ro with
    | none => simp [runSym] at h
    | some r =>
      simp only [runSym] at h
      have := hr r rfl; subst this
      obtain ⟨h1, h2⟩ := own_new ho o
      obtain ⟨w', h3, h4, h5⟩ := ih w.heap.size h h1 (by simp)
      exact ⟨w', by simp only [Sem.run]; exact h3, h4, h2.trans h5⟩
  | shape b k ih =>
    intro ro H H' x w h ho hr
    simp only [runSym] at h
    cases hobj : objAt W0 H b with
    | none => rw [hobj] at h; cases h
    | some o =>
      rw [hobj] at h
      have hat := ho.obj hobj
      have : ∃ s, runSym P W0 (k s) ro H = some (x, H') ∧ w.shape? b = s := by
        cases o <;> simp only at h <;> exact ⟨_, h, by simp [World.shape?, hat]⟩
      obtain ⟨s, hs, hw⟩ := this
      obtain ⟨w', h3, h4, h5⟩ := ih s hs ho hr
      exact ⟨w', by simp only [Sem.run, hw]; exact h3, h4, h5⟩
  | freeze a n k ih => intro ro H H' x w h ho hr; simp [runSym] at h
  | frozen a k ih =>
    intro ro H H' x w h ho hr
    simp only [runSym] at h
    cases hobj : objAt W0 H a.block with
    | none => rw [hobj] at h; cases h
    | some o =>
      rw [hobj] at h; simp only at h
      obtain ⟨w', h3, h4, h5⟩ := ih _ h ho hr
      exact ⟨w', by simp only [Sem.run, frozen?_of (ho.obj hobj)]; exact h3, h4, h5⟩
  | getObj b k ih =>
    intro ro H H' x w h ho hr
    simp only [runSym] at h
    cases hobj : objAt W0 H b with
    | none => rw [hobj] at h; cases h
    | some o =>
      rw [hobj] at h
      have hat := ho.obj hobj
      cases o <;> simp only at h <;> first | contradiction | skip
      all_goals
        obtain ⟨w', h3, h4, h5⟩ := ih _ h ho hr
        exact ⟨w', by simp only [Sem.run, hat]; exact h3, h4, h5⟩
  | setObj b o k ih =>
    intro ro H H' x w h ho hr
    simp only [runSym] at h
    split at h
    · cases h
    · next hlt =>
      cases hf : find b H with
      | none => rw [hf] at h; cases h
      | some p =>
        rw [hf] at h
        have hat := ho.at_ _ _ (find_mem hf)
        have hb : b < w.heap.size := ho.lt (mem_keys (find_mem hf))
        obtain ⟨ho2, hfr⟩ := own_write ho hf (by omega) (o' := o) (w' := { w with heap := w.heap.setIfInBounds b o }) (by simp) (fun d hd => by simp [Array.getElem?_setIfInBounds_ne (Ne.symm hd)]) (by simp [hb]) rfl rfl rfl
        cases p <;> simp only at h <;> first | contradiction | skip
        all_goals
          obtain ⟨w', h3, h4, h5⟩ := ih h ho2 (fun r hr' => by rw [hr r hr']; simp)
          exact ⟨w', by simp only [Sem.run, hat]; exact h3, h4, hfr.trans h5⟩
  | choose q k ih => intro ro H H' x w h ho hr; simp [runSym] at h
  | sys c k ih => intro ro H H' x w h ho hr; simp [runSym] at h
  | program k ih =>
    intro ro H H' x w h ho hr
    simp only [runSym] at h
    obtain ⟨w', h3, h4, h5⟩ := ih _ h ho hr
    exact ⟨w', by simp only [Sem.run]; exact h3, h4, h5⟩
  | mark m k ih =>
    intro ro H H' x w h ho hr
    simp only [runSym] at h
    obtain ⟨w', h3, h4, h5⟩ := ih h ho hr
    exact ⟨w', by simp only [Sem.run]; exact h3, h4, h5⟩
  | halt hl => intro ro H H' x w h ho hr; simp [runSym] at h

/-- The blocks' numbers are apart, and none lies below W0's end. -/
def Wf (W0 : World) (H : SHeap) : Prop := (keys H).Nodup ∧ ∀ b ∈ keys H, W0.heap.size ≤ b
theorem Own.wf {W0 w : World} {H : SHeap} (h : Own W0 H w) : Wf W0 H := ⟨h.nd, h.ge⟩
theorem Wf.obj {W0 : World} {H : SHeap} (h : Wf W0 H) {b : Nat} {o : Obj} (hm : (b, o) ∈ H) : objAt W0 H b = some o := by
  unfold objAt
  rw [if_neg (by have := h.2 b (mem_keys hm); omega)]
  exact find_of_mem h.1 hm

/-- One block turned into another, in its place. -/
inductive Repl (b : Nat) (o o' : Obj) : SHeap → SHeap → Prop
  | here {H : SHeap} : Repl b o o' ((b, o) :: H) ((b, o') :: H)
  | there {c : Nat} {p : Obj} {H H' : SHeap} : Repl b o o' H H' → Repl b o o' ((c, p) :: H) ((c, p) :: H')
theorem Repl.mem {b : Nat} {o o' : Obj} {H H' : SHeap} (h : Repl b o o' H H') : (b, o) ∈ H := by
  induction h with
  | here => exact List.mem_cons_self
  | there _ ih => exact List.mem_cons_of_mem _ ih
theorem Repl.upd {b : Nat} {o o' : Obj} {H H' : SHeap} (h : Repl b o o' H H') (hn : (keys H).Nodup) : upd b o' H = H' := by
  induction h with
  | here => simp [Sym.upd]
  | there h ih =>
    rename_i c p H H'
    rw [keys_cons, List.nodup_cons] at hn
    have hne : c ≠ b := fun e => hn.1 (e ▸ mem_keys h.mem)
    unfold Sym.upd
    rw [if_neg hne, ih hn.2]

theorem runSym_bind {P : Program} {W0 : World} {α β : Type} (s : Sem α) : ∀ {H H1 : SHeap} {x : α} {ro : Option Nat} {f : α → Sem β}, runSym P W0 s none H = some (x, H1) → runSym P W0 (s >>= f) ro H = runSym P W0 (f x) ro H1 := by
  show ∀ {H H1 : SHeap} {x : α} {ro : Option Nat} {f : α → Sem β}, runSym P W0 s none H = some (x, H1) → runSym P W0 (s.bind f) ro H = runSym P W0 (f x) ro H1
  induction s with
  | pure a => intro H H1 x ro f h; simp only [runSym, Option.some.injEq, Prod.mk.injEq] at h; obtain ⟨rfl, rfl⟩ := h; rfl
  | load m a k ih =>
    intro H H1 x ro f h
    simp only [runSym, Sem.bind] at h ⊢
    cases hc : (objAt W0 H a.block).bind (cellOf · a) with
    | none => rw [hc] at h; cases h
    | some v => rw [hc] at h; exact ih v h
  | store m a v k ih =>
    intro H H1 x ro f h
    simp only [runSym, Sem.bind] at h ⊢
    cases hf : find a.block H with
    | none => rw [hf] at h; cases h
    | some o =>
      rw [hf] at h
      cases o <;> simp only at h ⊢ <;> first | contradiction | skip
      split at h
      · cases h
      · next hlt =>
        split at h
        · cases h
        · next hc => rw [if_neg hlt, if_neg hc]; exact ih h
  | new o k ih => intro H H1 x ro f h; simp [runSym] at h
  | shape b k ih =>
    intro H H1 x ro f h
    simp only [runSym, Sem.bind] at h ⊢
    cases hobj : objAt W0 H b with
    | none => rw [hobj] at h; cases h
    | some o => rw [hobj] at h; cases o <;> exact ih _ h
  | freeze a n k ih => intro H H1 x ro f h; simp [runSym] at h
  | frozen a k ih =>
    intro H H1 x ro f h
    simp only [runSym, Sem.bind] at h ⊢
    cases hobj : objAt W0 H a.block with
    | none => rw [hobj] at h; cases h
    | some o => rw [hobj] at h; exact ih _ h
  | getObj b k ih =>
    intro H H1 x ro f h
    simp only [runSym, Sem.bind] at h ⊢
    cases hobj : objAt W0 H b with
    | none => rw [hobj] at h; cases h
    | some o => rw [hobj] at h; cases o <;> first | contradiction | exact ih _ h
  | setObj b o k ih =>
    intro H H1 x ro f h
    simp only [runSym, Sem.bind] at h ⊢
    split at h
    · cases h
    · next hlt =>
      rw [if_neg hlt]
      cases hf : find b H with
      | none => rw [hf] at h; cases h
      | some p => rw [hf] at h; cases p <;> first | contradiction | exact ih h
  | choose q k ih => intro H H1 x ro f h; simp [runSym] at h
  | sys c k ih => intro H H1 x ro f h; simp [runSym] at h
  | program k ih => intro H H1 x ro f h; simp only [runSym, Sem.bind] at h ⊢; exact ih _ h
  | mark m k ih => intro H H1 x ro f h; simp only [runSym, Sem.bind] at h ⊢; exact ih h
  | halt hl => intro H H1 x ro f h; simp [runSym] at h

def shapeOf : Obj → Option (TypeId × Nat)
  | .cells c e _ => some (e, c.size)
  | _ => none
/-- Computations that only read. -/
def rdSym (P : Program) (W0 : World) (H : SHeap) {α : Type} : Sem α → Option α
  | .pure a => some a
  | .load _ a k => ((objAt W0 H a.block).bind (cellOf · a)).bind fun v => rdSym P W0 H (k v)
  | .shape b k => (objAt W0 H b).bind fun o => rdSym P W0 H (k (shapeOf o))
  | .frozen a k => (objAt W0 H a.block).bind fun o => rdSym P W0 H (k (frozenOf o a))
  | .getObj b k => (objAt W0 H b).bind fun o => match o with
    | .cells .. => none
    | o => rdSym P W0 H (k o)
  | .program k => rdSym P W0 H (k P)
  | .mark _ k => rdSym P W0 H k
  | _ => none

section rd
variable {P : Program} {W0 : World} {H : SHeap} {α β : Type}
theorem rd_run (s : Sem α) : ∀ {x : α} {ro : Option Nat}, rdSym P W0 H s = some x → runSym P W0 s ro H = some (x, H) := by
  induction s with
  | pure a => intro x ro h; simp only [rdSym, Option.some.injEq] at h; subst h; rfl
  | load m a k ih =>
    intro x ro h
    simp only [rdSym] at h
    obtain ⟨v, h1, h2⟩ := Option.bind_eq_some_iff.1 h
    simp only [runSym, h1]; exact ih v h2
  | shape b k ih =>
    intro x ro h
    simp only [rdSym] at h
    obtain ⟨o, h1, h2⟩ := Option.bind_eq_some_iff.1 h
    simp only [runSym, h1]; cases o <;> exact ih _ h2
  | frozen a k ih =>
    intro x ro h
    simp only [rdSym] at h
    obtain ⟨o, h1, h2⟩ := Option.bind_eq_some_iff.1 h
    simp only [runSym, h1]; exact ih _ h2
  | getObj b k ih =>
    intro x ro h
    simp only [rdSym] at h
    obtain ⟨o, h1, h2⟩ := Option.bind_eq_some_iff.1 h
    simp only [runSym, h1]; cases o <;> first | (cases h2; done) | exact ih _ h2
  | program k ih => intro x ro h; exact ih _ h
  | mark m k ih => intro x ro h; exact ih h
  | _ => intros; simp [rdSym] at *
theorem rd_sound (s : Sem α) : ∀ {x : α} {w : World}, rdSym P W0 H s = some x → Own W0 H w → s.run P w = .ok x w := by
  induction s with
  | pure a => intro x w h ho; simp only [rdSym, Option.some.injEq] at h; subst h; rfl
  | load m a k ih =>
    intro x w h ho
    simp only [rdSym] at h
    obtain ⟨v, h1, h2⟩ := Option.bind_eq_some_iff.1 h
    obtain ⟨o, h3, h4⟩ := Option.bind_eq_some_iff.1 h1
    simp only [Sem.run, cell?_of (ho.obj h3), h4]; exact ih v h2 ho
  | shape b k ih =>
    intro x w h ho
    simp only [rdSym] at h
    obtain ⟨o, h1, h2⟩ := Option.bind_eq_some_iff.1 h
    have : w.shape? b = shapeOf o := by simp only [World.shape?, ho.obj h1]; cases o <;> rfl
    simp only [Sem.run, this]; exact ih _ h2 ho
  | frozen a k ih =>
    intro x w h ho
    simp only [rdSym] at h
    obtain ⟨o, h1, h2⟩ := Option.bind_eq_some_iff.1 h
    simp only [Sem.run, frozen?_of (ho.obj h1)]; exact ih _ h2 ho
  | getObj b k ih =>
    intro x w h ho
    simp only [rdSym] at h
    obtain ⟨o, h1, h2⟩ := Option.bind_eq_some_iff.1 h
    simp only [Sem.run, ho.obj h1]; cases o <;> first | (cases h2; done) | exact ih _ h2 ho
  | program k ih => intro x w h ho; exact ih _ h ho
  | mark m k ih => intro x w h ho; exact ih h ho
  | _ => intros; simp [rdSym] at *
theorem rd_bind (s : Sem α) (f : α → Sem β) : rdSym P W0 H (s >>= f) = (rdSym P W0 H s).bind fun x => rdSym P W0 H (f x) := by
  show rdSym P W0 H (s.bind f) = _
  induction s with
  | pure a => rfl
  | load m a k ih => simp only [Sem.bind, rdSym, ih, Option.bind_assoc]
  | shape b k ih => simp only [Sem.bind, rdSym, ih, Option.bind_assoc]
  | frozen a k ih => simp only [Sem.bind, rdSym, ih, Option.bind_assoc]
  | getObj b k ih =>
    simp only [Sem.bind, rdSym, ih, Option.bind_assoc]
    congr 1; funext o; cases o <;> rfl
  | program k ih => simp only [Sem.bind, rdSym, ih]
  | mark m k ih => simp only [Sem.bind, rdSym, ih]
  | _ => rfl
theorem rd_pure (a : α) : rdSym P W0 H (Pure.pure a : Sem α) = some a := rfl
end rd

theorem runSym_map {P : Program} {W0 : World} {α β : Type} (s : Sem α) (f : α → β) : ∀ {H H1 : SHeap} {x : α} {ro : Option Nat}, runSym P W0 s ro H = some (x, H1) → runSym P W0 (s >>= fun a => Pure.pure (f a)) ro H = some (f x, H1) := by
  show ∀ {H H1 : SHeap} {x : α} {ro : Option Nat}, runSym P W0 s ro H = some (x, H1) → runSym P W0 (s.bind fun a => .pure (f a)) ro H = some (f x, H1)
  induction s with
  | pure a => intro H H1 x ro h; simp only [runSym, Option.some.injEq, Prod.mk.injEq] at h; obtain ⟨rfl, rfl⟩ := h; rfl
  | load m a k ih =>
    intro H H1 x ro h
    simp only [runSym, Sem.bind] at h ⊢
    cases hc : (objAt W0 H a.block).bind (cellOf · a) with
    | none => rw [hc] at h; cases h
    | some v => rw [hc] at h; exact ih v h
  | store m a v k ih =>
    intro H H1 x ro h
    simp only [runSym, Sem.bind] at h ⊢
    cases hf : find a.block H with
    | none => rw [hf] at h; cases h
    | some o =>
      rw [hf] at h
      cases o <;> simp only at h ⊢ <;> first | contradiction | skip
      split at h
      · cases h
      · next hlt =>
        split at h
        · cases h
        · next hc => rw [if_neg hlt, if_neg hc]; exact ih h
  | new o k ih =>
    intro H H1 x ro h
    cases ro with
    | none => simp [runSym] at h
    | some r => simp only [runSym, Sem.bind] at h ⊢; exact ih r h
  | shape b k ih =>
    intro H H1 x ro h
    simp only [runSym, Sem.bind] at h ⊢
    cases hobj : objAt W0 H b with
    | none => rw [hobj] at h; cases h
    | some o => rw [hobj] at h; cases o <;> exact ih _ h
  | frozen a k ih =>
    intro H H1 x ro h
    simp only [runSym, Sem.bind] at h ⊢
    cases hobj : objAt W0 H a.block with
    | none => rw [hobj] at h; cases h
    | some o => rw [hobj] at h; exact ih _ h
  | getObj b k ih =>
    intro H H1 x ro h
    simp only [runSym, Sem.bind] at h ⊢
    cases hobj : objAt W0 H b with
    | none => rw [hobj] at h; cases h
    | some o => rw [hobj] at h; cases o <;> first | contradiction | exact ih _ h
  | setObj b o k ih =>
    intro H H1 x ro h
    simp only [runSym, Sem.bind] at h ⊢
    split at h
    · cases h
    · next hlt =>
      rw [if_neg hlt]
      cases hf : find b H with
      | none => rw [hf] at h; cases h
      | some p => rw [hf] at h; cases p <;> first | contradiction | exact ih h
  | program k ih => intro H H1 x ro h; simp only [runSym, Sem.bind] at h ⊢; exact ih _ h
  | mark m k ih => intro H H1 x ro h; simp only [runSym, Sem.bind] at h ⊢; exact ih h
  | _ => intros; simp [runSym] at *

end Go.Proofs.Yteilocpjikmmdaa.Sym
