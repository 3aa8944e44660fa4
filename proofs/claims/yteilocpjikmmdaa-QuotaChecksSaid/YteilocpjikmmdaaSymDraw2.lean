/- Regions that draw their order: from the text's order to all. -/
import Derived.Test.YteilocpjikmmdaaSymDraw
namespace Go.Proofs.Yteilocpjikmmdaa.Sym
open Go.RowKit (Below)
set_option linter.unusedVariables false
set_option linter.unusedSimpArgs false
section
variable {P : Program} {W0 : World} {R : Reg} {X : SHeap} {s : DS} {k : DS → Prop}

structure Good (R : Reg) : Prop where
  size : R.ops.size = R.n
  edges : ∀ i, i < R.n → ∀ e ∈ (R.op i).after, Region.binds .any e = true → e.on < i
  pr : ∀ i, i < R.n → ∀ j ∈ R.p i, j < i ∧ ∃ e ∈ (R.op i).after, Region.binds .any e = true ∧ (j = e.on ∨ j ∈ R.p e.on)
  pair : ∀ x y, x < y → y < R.n → x ∉ R.p y → Ok (R := R) x y ∧ ∀ bx b, CE R (ecOf (R.c x) bx) (ecOf (R.c y) b) x y
  loc : ∀ i, i < R.n → ∀ j, R.c i = .loc j → j ∈ R.p i
  dst : ∀ i, i < R.n → ∀ t, (R.op i).dst = some t → t < R.N

theorem Good.op (hg : Good R) {i : Nat} (hi : i < R.n) : R.ops[i]? = some (R.op i) := by
  have : i < R.ops.size := by rw [hg.size]; exact hi
  simp [Reg.op, Array.getD_eq_getD_getElem?, this]

theorem bubble (hg : Good R) {i : Nat} {l2 : List Nat} (hin : i < R.n) : ∀ (l1 : List Nat) (s : DS), Wf W0 (s.all R X) → (∀ j ∈ l1, s.N j = [] ∧ j < i) → s.N i = [] → (∀ x ∈ l1, x ∉ R.p i) → l1.Pairwise (· < ·) →
    DRun P W0 R X (l1 ++ i :: l2) s k → DRun P W0 R X (i :: (l1 ++ l2)) s k := by
  intro l1
  induction l1 with
  | nil => intro s _ _ _ _ _ h; exact h
  | cons x l1 ih =>
    intro s hw hN hi hp hs h
    obtain ⟨hx0, hxi⟩ := hN x List.mem_cons_self
    have hxn : x < R.n := by omega
    rw [List.pairwise_cons] at hs
    have h1 : Step P W0 R X x s fun s' => DRun P W0 R X (l1 ++ i :: l2) s' k := h
    have h2 : Step P W0 R X x s fun s' => Step P W0 R X i s' fun s'' => DRun P W0 R X (l1 ++ l2) s'' k := by
      obtain ⟨b, w, h3⟩ := h1
      refine ⟨b, w, stepE_mono hw hx0 hxn (fun j e => hg.loc x hxn j ?_) (fun s' _ hw' hN' hs' => ?_) h3⟩
      · cases b <;> cases hc : R.c x <;> rw [hc] at e <;> simp [ecOf] at e ⊢ <;> exact e
      · have hpx : ∀ j, x < j → j ∉ R.p x := fun j hj hm => by have := (hg.pr x hxn j hm).1; omega
        refine ih s' hw' (fun j hj => ⟨?_, (hN j (List.mem_cons_of_mem _ hj)).2⟩) ?_ (fun z hz => hp z (List.mem_cons_of_mem _ hz)) hs.2 hs'
        · have := hs.1 j hj
          rw [hN' j (by omega) (hpx j this)]; exact (hN j (List.mem_cons_of_mem _ hj)).1
        · rw [hN' i (by omega) (hpx i hxi)]; exact hi
    obtain ⟨ho, hc⟩ := hg.pair x i hxi hin (hp x List.mem_cons_self)
    exact swapS ho hw hx0 hi hxn hin (hg.loc x hxn) (hg.loc i hin) hc h2

theorem ExecF.real {o : Oper} {V V' A : SHeap} {v : Value} {ro : Option Nat} {f : Ff} {N : Nat} {a : Act} {w : World} (h : ExecF P W0 f V o ro v V') (hh : HasF N f a) (ho : Own W0 A w) (hr : ∀ r, ro = some r → r = w.heap.size) {F : SHeap} (hF : (V ++ F).Perm A)
    {next : Act → World → Prop} {Q : Exit → Act → World → Prop} (hn : ∀ w', Own W0 (V' ++ F) w' → Fr A (V' ++ F) w w' → next (a.put o.dst v) w') : o.wp P a w next Q := by
  have hA := ho.perm hF.symm
  unfold Oper.wp
  rw [h.eq hh]
  have fin : ∀ w', Own W0 V' w' → Fr V V' w w' → next (a.put o.dst v) w' := fun w' h1 h2 => by
    obtain ⟨g1, g2⟩ := hA.frame h1 h2
    exact hn w' g1 (g2.of_keys (fun b hb => (hF.map _).mem_iff.1 hb) fun b hb => .inl hb)
  rcases h.run hA.left.wf with h4 | ⟨h4, h5⟩
  · obtain ⟨w', h1, h2, h3⟩ := runSym_sound _ h4 hA.left hr
    rw [h1, Oper.upon_value]; exact fin w' h2 h3
  · obtain ⟨w', h1, h2, h3⟩ := runSym_sound _ h4 hA.left hr
    rw [h1, Oper.upon_skip, ← h5]; exact fin w' h2 h3

theorem step_real (hg : Good R) {i : Nat} (hi : i < R.n) (h0 : s.N i = []) {a : Act} {w : World} (hh : HasF R.N s.f a) (ho : Own W0 (s.all R X) w) (h : Step P W0 R X i s k) {next : Act → World → Prop} {Q : Exit → Act → World → Prop}
    (hnext : ∀ s' a' w', k s' → HasF R.N s'.f a' → Own W0 (s'.all R X) w' → Fr (s.all R X) (s'.all R X) w w' → (∀ j, j ≠ i → j ∉ R.p i → s'.N j = s.N j) → next a' w') : wpOp P R.ops Q i next a w := by
  obtain ⟨b, hb, h⟩ := h
  unfold wpOp
  rw [hg.op hi]; simp only [hb.wanted hh]
  have hput : ∀ v, HasF R.N (fput s.f (R.op i).dst v) (a.put (R.op i).dst v) := fun v => hh.put (hg.dst i hi) v
  have frk : ∀ {A B C : SHeap} {w w' : World}, Fr A B w w' → B.Perm C → Fr A C w w' := fun hf hp => hf.of_keys (fun _ h => h) fun b hb => .inl ((hp.map _).mem_iff.2 hb)
  cases b with
  | false =>
    simp only [Bool.false_eq_true, if_false]
    obtain ⟨v, N', h1, h2⟩ := h
    obtain ⟨rfl, rfl⟩ := h1
    exact hnext _ _ _ h2 (hput _) ho (Fr.refl _ _) fun _ _ _ => rfl
  | true =>
    simp only [if_true]
    left
    cases hc : R.c i with
    | light =>
      rw [hc] at h
      obtain ⟨v, N', ⟨h1, rfl⟩, h2⟩ := h
      obtain ⟨F, hF⟩ := fix_sub (R := R) (X := X) s
      exact h1.real hh ho (by simp) hF fun w' g1 g2 => hnext _ _ _ h2 (hput _) (g1.perm hF) (frk g2 hF) fun _ _ _ => rfl
    | mem =>
      rw [hc] at h
      obtain ⟨v, N', ⟨h1, rfl⟩, h2⟩ := h
      obtain ⟨F, hF⟩ := view_sub (R := R) (X := X) s i
      exact h1.real hh ho (by simp) hF fun w' g1 g2 => hnext _ _ _ h2 (hput _) (g1.perm hF) (frk g2 hF) fun _ _ _ => rfl
    | alloc =>
      rw [hc] at h
      obtain ⟨v, o, h1, h2⟩ := h
      have hp := all_up (R := R) (X := X) (s := s) (E := [(w.heap.size, o)]) (v := v w.heap.size) hi h0
      refine (h1 w.heap.size).real hh ho (by simp) (F := s.all R X) (List.Perm.refl _) fun w' g1 g2 => hnext _ _ _ (h2 w.heap.size ?_) (hput _) (g1.perm hp.symm) (frk g2 hp.symm) fun j hj hp => ?_
      · exact g1.wf
      · show upN s.N i _ j = _; simp only [upN]; rw [if_neg hj]
    | call =>
      rw [hc] at h
      obtain ⟨Φ, h1, h2, h3⟩ := h
      obtain ⟨F, hF⟩ := view_sub (R := R) (X := X) s i
      have hA := ho.perm hF.symm
      refine h1 R.N a w _ _ (fun x hx v hv => hh.val hv) hh.dfr hh.size hA.left fun v H' w' hR ho' hf' => ?_
      obtain ⟨E, hΦ, rfl⟩ := hR
      obtain ⟨g1, g2⟩ := hA.frame ho' hf'
      have hp := all_up (R := R) (X := X) (s := s) (E := E) (v := v) hi h0
      have hq : (E ++ s.view R i ++ F).Perm ((putS R s i v (upN s.N i E)).all R X) := by
        rw [List.append_assoc]; exact (List.Perm.append_left _ hF).trans hp.symm
      refine hnext _ _ _ (h3 v E hΦ ?_) (hput _) (g1.perm hq) (frk (g2.of_keys (fun b hb => (hF.map _).mem_iff.1 hb) fun b hb => .inl hb) hq) fun j hj hp => ?_
      · exact (wf_perm hp).1 (g1.perm hq).wf
      · show upN s.N i _ j = _; simp only [upN]; rw [if_neg hj]
    | eff =>
      rw [hc] at h
      obtain ⟨Φ, h1, h2, h3⟩ := h
      have hF : (s.view R i ++ ((List.range R.n).flatMap (clearN R i s.N) ++ X)).Perm (s.all R X) := List.perm_append_comm.trans (mid_perm.trans clear_perm)
      have hA := ho.perm hF.symm
      refine h1 R.N a w _ _ (fun x hx v hv => hh.val hv) hh.dfr hh.size hA.left fun v H' w' hΦ ho' hf' => ?_
      obtain ⟨g1, g2⟩ := hA.frame ho' hf'
      have hq : (H' ++ ((List.range R.n).flatMap (clearN R i s.N) ++ X)).Perm ((⟨fput s.f (R.op i).dst v, H', clearN R i s.N⟩ : DS).all R X) := List.perm_append_comm.trans mid_perm
      refine hnext _ _ _ (h3 v H' hΦ (g1.perm hq).wf) (hput _) (g1.perm hq) (frk (g2.of_keys (fun b hb => (hF.map _).mem_iff.1 hb) fun b hb => .inl hb) hq) fun j hj hp => ?_
      show clearN R i s.N j = _; simp only [clearN]; rw [if_neg hp]
    | loc m =>
      rw [hc] at h
      obtain ⟨v, N', ⟨E, h1, hk, rfl⟩, h2⟩ := h
      have hm : m ∈ R.p i := hg.loc i hi m hc
      have hmn : m < R.n := List.mem_range.1 (List.mem_filter.1 hm).1
      have hz : ∀ E, ((List.range R.n).flatMap (upN s.N m E)).Perm (E ++ (List.range R.n).flatMap (upN s.N m [])) := fun E => by
        have := flat_perm (N := upN s.N m []) (i := m) (E := E) (List.nodup_range (n := R.n)) (List.mem_range.2 hmn) (by simp [upN])
        rwa [show upN (upN s.N m []) m E = upN s.N m E from by funext k; simp only [upN]; split <;> rfl] at this
      have hF : (s.N m ++ ((List.range R.n).flatMap (upN s.N m []) ++ (s.H ++ X))).Perm (s.all R X) := by
        rw [← List.append_assoc]
        refine List.Perm.append_right _ ?_
        have := (hz (s.N m)).symm
        rwa [show upN s.N m (s.N m) = s.N from by funext k; simp only [upN]; split <;> simp_all] at this
      have hq : (E ++ ((List.range R.n).flatMap (upN s.N m []) ++ (s.H ++ X))).Perm ((putS R s i v (upN s.N m E)).all R X) := by
        rw [← List.append_assoc]
        exact List.Perm.append_right _ (hz E).symm
      refine h1.real hh ho (by simp) hF fun w' g1 g2 => hnext _ _ _ h2 (hput _) (g1.perm hq) (frk g2 hq) fun j hj hp => ?_
      show upN s.N m E j = _; simp only [upN]; rw [if_neg (fun e : j = m => hp (by rw [e]; exact hm))]

def rem (R : Reg) (listed : Array Bool) : List Nat := (List.range R.n).filter fun i => !listed.getD i true

theorem ready_mem {listed : Array Bool} (hg : Good R) {i : Nat} : i ∈ Region.ready .any R.ops listed ↔ i ∈ rem R listed ∧ ∀ e ∈ (R.op i).after, Region.binds .any e = true → listed.getD e.on false = true := by
  unfold Region.ready rem
  simp only [List.mem_filter, List.mem_range, hg.size, Bool.and_eq_true]
  constructor
  · rintro ⟨h1, h2, h3⟩
    rw [hg.op h1] at h3
    simp only [Option.map_some, Option.getD_some, Array.all_eq_true'] at h3
    refine ⟨⟨h1, h2⟩, fun e he hb => ?_⟩
    have := h3 e he
    simpa [hb] using this
  · rintro ⟨⟨h1, h2⟩, h3⟩
    refine ⟨h1, h2, ?_⟩
    rw [hg.op h1]
    simp only [Option.map_some, Option.getD_some, Array.all_eq_true']
    intro e he
    by_cases hb : Region.binds .any e = true
    · simp [hb, h3 e he hb]
    · simp [Bool.not_eq_true] at hb; simp [hb]

theorem draw_any (hg : Good R) {H0 : SHeap} {w0 : World} {Q : Exit → Act → World → Prop} (hQ : ∀ s a w, k s → HasF R.N s.f a → Own W0 (s.all R X) w → Fr H0 (s.all R X) w0 w → Q .normal a w) :
    ∀ (fuel : Nat) (listed : Array Bool) (s : DS) (a : Act) (w : World), listed.size = R.n → (rem R listed).length = fuel → (∀ i, i < R.n → listed.getD i true = true → ∀ j ∈ R.p i, listed.getD j true = true) → (∀ i ∈ rem R listed, s.N i = []) →
      HasF R.N s.f a → Own W0 (s.all R X) w → Fr H0 (s.all R X) w0 w → DRun P W0 R X (rem R listed) s k → wpAny P .any R.ops Q fuel listed a w := by
  intro fuel
  induction fuel with
  | zero =>
    intro listed s a w hsz hl hcl hN hh ho hf h
    have hnil : rem R listed = [] := List.eq_nil_of_length_eq_zero hl
    rw [hnil] at h
    refine ⟨?_, hQ s a w h hh ho hf⟩
    refine List.eq_nil_iff_forall_not_mem.2 fun i hi => ?_
    have := ((ready_mem hg).1 hi).1
    rw [hnil] at this; cases this
  | succ fuel ih =>
    intro listed s a w hsz hl hcl hN hh ho hf h
    have hsorted : (rem R listed).Pairwise (· < ·) := List.Pairwise.filter _ List.pairwise_lt_range
    refine ⟨fun hnr => ?_, fun i hi => ?_⟩
    · -- the first one that is left is ready
      exfalso
      cases hr : rem R listed with
      | nil => rw [hr] at hl; cases hl
      | cons i l =>
        have hi : i ∈ rem R listed := by rw [hr]; exact List.mem_cons_self
        have hin : i < R.n := List.mem_range.1 (List.mem_filter.1 hi).1
        have : i ∈ Region.ready .any R.ops listed := (ready_mem hg).2 ⟨hi, fun e he hb => by
          have hlt := hg.edges i hin e he hb
          have hen : e.on < R.n := by omega
          by_cases hle : listed.getD e.on true = true
          · have : e.on < listed.size := by omega
            simpa [Array.getD_eq_getD_getElem?, this] using hle
          · exfalso
            have hm : e.on ∈ rem R listed := List.mem_filter.2 ⟨List.mem_range.2 hen, by simpa using hle⟩
            rw [hr] at hm hsorted
            rcases List.mem_cons.1 hm with h | h
            · omega
            · have := (List.pairwise_cons.1 hsorted).1 _ h; omega⟩
        rw [hnr] at this; cases this
    · obtain ⟨hir, hpre⟩ := (ready_mem hg).1 hi
      have hin : i < R.n := List.mem_range.1 (List.mem_filter.1 hir).1
      obtain ⟨l1, l2, hsplit⟩ := List.append_of_mem hir
      have hpi : ∀ j ∈ R.p i, listed.getD j true = true := fun j hj => by
        obtain ⟨hji, e, he, hb, hje⟩ := hg.pr i hin j hj
        have hen : e.on < R.n := by have := hg.edges i hin e he hb; omega
        have hle : listed.getD e.on true = true := by
          have := hpre e he hb
          have hlt : e.on < listed.size := by omega
          simpa [Array.getD_eq_getD_getElem?, hlt] using this
        rcases hje with rfl | hje
        · exact hle
        · exact hcl _ hen hle j hje
      have hnl : ∀ j ∈ rem R listed, listed.getD j true = false := fun j hj => by simpa using (List.mem_filter.1 hj).2
      have hs2 : (l1 ++ i :: l2).Pairwise (· < ·) := by rw [← hsplit]; exact hsorted
      have hlt1 : ∀ x ∈ l1, x < i := fun x hx => (List.pairwise_append.1 hs2).2.2 x hx i List.mem_cons_self
      rw [hsplit] at h
      have hmem : ∀ x ∈ l1, x ∈ rem R listed := fun x hx => by rw [hsplit]; exact List.mem_append_left _ hx
      have h2 : Step P W0 R X i s fun s' => DRun P W0 R X (l1 ++ l2) s' k := bubble hg hin l1 s ho.wf (fun j hj => ⟨hN j (hmem j hj), hlt1 j hj⟩) (hN i hir)
        (fun x hx hp => by have := hpi x hp; rw [hnl x (hmem x hx)] at this; cases this) (List.pairwise_append.1 hs2).1 h
      refine step_real hg hin (hN i hir) hh ho h2 fun s' a' w' hk hh' ho' hf' hN' => ?_
      have hnd : (l1 ++ i :: l2).Nodup := hs2.imp (fun h => Nat.ne_of_lt h)
      have hrem : rem R (listed.setIfInBounds i true) = l1 ++ l2 := by
        have e1 : rem R (listed.setIfInBounds i true) = (rem R listed).filter (· != i) := by
          unfold rem
          rw [List.filter_filter]
          refine List.filter_congr fun j hj => ?_
          have hjn : j < listed.size := by have := List.mem_range.1 hj; omega
          by_cases e : i = j
          · subst e; simp [Array.getD_eq_getD_getElem?, hjn]
          · have e' : j ≠ i := Ne.symm e
            simp only [Array.getD_eq_getD_getElem?, Array.getElem?_setIfInBounds_ne e]
            simp [e']
        rw [e1, hsplit, List.filter_append, List.filter_cons]
        have hn1 : i ∉ l1 := fun hm => (List.nodup_append.1 hnd).2.2 i hm i List.mem_cons_self rfl
        have hn2 : i ∉ l2 := (List.nodup_cons.1 (List.nodup_append.1 hnd).2.1).1
        have f1 : ∀ l : List Nat, i ∉ l → l.filter (· != i) = l := fun l hl => List.filter_eq_self.2 fun j hj => by simp; exact fun e => hl (e ▸ hj)
        simp [f1 l1 hn1, f1 l2 hn2]
      refine ih _ s' a' w' (by simp [hsz]) ?_ ?_ ?_ hh' ho' (hf.trans hf') (by rw [hrem]; exact hk)
      · rw [hrem]; rw [hsplit] at hl; simp at hl ⊢; omega
      · intro j hjn hj m hm
        have hmn : m < listed.size := by have := List.mem_range.1 (List.mem_filter.1 hm).1; omega
        by_cases e : i = m
        · subst e; simp [Array.getD_eq_getD_getElem?, hmn]
        · have : listed.getD m true = true := by
            by_cases e2 : i = j
            · subst e2; exact hpi m hm
            · refine hcl j hjn ?_ m hm
              simpa [Array.getD_eq_getD_getElem?, Array.getElem?_setIfInBounds_ne e2] using hj
          simpa [Array.getD_eq_getD_getElem?, Array.getElem?_setIfInBounds_ne e] using this
      · intro j hj
        rw [hrem] at hj
        have hjr : j ∈ rem R listed := by
          rw [hsplit]
          rcases List.mem_append.1 hj with h | h
          · exact List.mem_append_left _ h
          · exact List.mem_append_right _ (List.mem_cons_of_mem _ h)
        have hne : j ≠ i := fun e => by
          subst e
          rcases List.mem_append.1 hj with h | h
          · exact (List.nodup_append.1 hnd).2.2 j h j List.mem_cons_self rfl
          · exact (List.nodup_cons.1 (List.nodup_append.1 hnd).2.1).1 h
        rw [hN' j hne (fun hp => by have := hpi j hp; rw [hnl j hjr] at this; cases this)]
        exact hN j hjr

theorem Own.drawn {H : SHeap} {w : World} (h : Own W0 H w) (n : Nat) : Own W0 H { w with drawn := n } :=
  ⟨h.below.trans ⟨rfl, rfl, rfl, Nat.le_refl _, fun _ _ => rfl⟩, h.nd, h.ge, h.at_⟩

/-- A region that draws its order. X: what stays as it is throughout. -/
theorem aw_draw {id N : Nat} {ops : Array Oper} {F : Fm} {H G X : SHeap} {K : Exit → Fm → SHeap → Prop} (R : Reg) (hg : Good R) (hops : R.ops = ops) (hN : R.N = N) (hm : P.follows .mixedOrders = true) (hsub : Sub (G ++ X) H)
    (h : DRun P W0 R X (List.range R.n) ⟨lk F, G, fun _ => []⟩ fun s => ∃ F' H', s.f = lk F' ∧ Sub H' (s.all R X) ∧ K .normal F' H') : AW P W0 N (.region id ops true) F H K := by
  refine aw_sub hsub ?_
  intro a w Q hh ho kk
  subst hops; subst hN
  refine wp_region_any hm ?_
  have hall : (⟨lk F, G, fun _ => []⟩ : DS).all R X = G ++ X := by
    show (List.range R.n).flatMap (fun _ => []) ++ (G ++ X) = G ++ X
    simp
  refine draw_any hg (X := X) (H0 := G ++ X) (w0 := w) (k := fun s => ∃ F' H', s.f = lk F' ∧ Sub H' (s.all R X) ∧ K .normal F' H') ?_ _ _ ⟨lk F, G, fun _ => []⟩ a _ (by simp [hg.size]) ?_ ?_ (fun _ _ => rfl) (hasF.2 hh) (by rw [hall]; exact ho.drawn _) (by rw [hall]; exact ⟨Nat.le_refl _, fun _ _ _ => rfl, fun _ h => .inl h⟩) ?_
  · rintro s a w' ⟨F', H', hf, hs, hK⟩ hh' ho' hf'
    rw [hf] at hh'
    exact kk _ _ _ _ _ hK (hasF.1 hh') (ho'.sub hs) (hf'.of_keys (fun _ h => h) fun b hb => .inl (hs.keys b hb))
  · have : rem R (Array.replicate R.ops.size false) = List.range R.n := by
      unfold rem
      refine List.filter_eq_self.2 fun j hj => ?_
      have : j < R.ops.size := by rw [hg.size]; exact List.mem_range.1 hj
      simp [Array.getD_eq_getD_getElem?, this]
    rw [this]; simp [hg.size]
  · intro i hi h
    have : i < R.ops.size := by rw [hg.size]; exact hi
    simp [Array.getD_eq_getD_getElem?, this] at h
  · have : rem R (Array.replicate R.ops.size false) = List.range R.n := by
      unfold rem
      refine List.filter_eq_self.2 fun j hj => ?_
      have : j < R.ops.size := by rw [hg.size]; exact List.mem_range.1 hj
      simp [Array.getD_eq_getD_getElem?, this]
    rw [this]; exact h
end
end Go.Proofs.Yteilocpjikmmdaa.Sym
