/- A profile and the document's, called side by side. -/
import Derived.Test.YtjkojdjjooangaaRef
import Derived.Test.YtjkojdjjooangaaSymData
import Derived.Test.YtjkojdjjooangaaSymMore
namespace Go.Proofs.Ytjkojdjjooangaa
open Go.Proofs.Ytjkojdjjooangaa.Sym
open Go.RowKit (Below)
set_option linter.unusedVariables false
set_option linter.unusedSimpArgs false
structure POp where
  kind : Int
  from_ : Int
  to_ : Int
  n : Int
@[reducible] def POp.cells (j : POp) : List Value := [.int .i64 j.kind, .int .i64 j.from_, .int .i64 j.to_, .int .i64 j.n]
@[reducible] def POp.v (j : POp) : Value := .agg (POp.cells j).toArray
def POp.Wf (j : POp) : Prop := IntKind.min .i64 ≤ j.kind ∧ j.kind ≤ IntKind.max .i64 ∧ IntKind.min .i64 ≤ j.from_ ∧ j.from_ ≤ IntKind.max .i64 ∧ IntKind.min .i64 ≤ j.to_ ∧ j.to_ ≤ IntKind.max .i64 ∧ IntKind.min .i64 ≤ j.n ∧ j.n ≤ IntKind.max .i64
structure P5 where
  k : Nat
  S : List PStep
  a : Option Addr
  c : Nat
  E : SHeap
  now : Int
  L : List PSpan
  b : Option Addr
  d : Nat
  EL : SHeap
  ver : Int
/-- A profile, and the document's, behind k calls. -/
structure StP (S : List PStep) (now free : Int) (L : List PSpan) (ver : Int) (k : Nat) : Prop where
  rep : Rep S now (atP free L)
  ok : ∀ s ∈ L, SpOk s
  rng : ∀ t, now ≤ t → 0 ≤ atP free L t ∧ atP free L t ≤ 64
  nw : 0 ≤ now ∧ now ≤ 1099511627776
  fr : 0 ≤ free ∧ free ≤ 64
  vr : 0 ≤ ver ∧ ver ≤ k
  ln : L.length ≤ k
  sl : S.length ≤ 2 * k + 1
theorem rep_new (n : Int) : Rep [⟨0, n⟩] 0 (fun _ => n) := ⟨⟨_, rfl, rfl⟩, List.pairwise_singleton _ _, trivial, fun _ _ => rfl, fun s hs => by simp at hs; subst hs; dsimp only; omega⟩
theorem StP.new {n : Int} (hn : 0 ≤ n ∧ n ≤ 64) : StP [⟨0, n⟩] 0 n [] 0 0 := ⟨rep_new n, fun s h => (by cases h), fun t _ => hn, by decide, hn, by decide, Nat.le_refl _, Nat.le_refl 1⟩
theorem StP.mono {S : List PStep} {now free ver : Int} {L : List PSpan} {k m : Nat} (h : StP S now free L ver k) (hk : k ≤ m) : StP S now free L ver m := ⟨h.rep, h.ok, h.rng, h.nw, h.fr, ⟨h.vr.1, by have := h.vr.2; omega⟩, by have := h.ln; omega, by have := h.sl; omega⟩
theorem StP.weak {S : List PStep} {now free ver : Int} {L : List PSpan} {k : Nat} (h : StP S now free L ver k) : StP S now free L ver (k + 1) := h.mono (Nat.le_succ _)
theorem Rep_high {S : List PStep} {now : Int} {f : Int → Int} (h : Rep S now f) (hn : now ≤ 1152921504606846975) {t : Int} (ht : 1152921504606846975 ≤ t) : f t = f 1152921504606846975 := by
  obtain ⟨i, hi⟩ := idx_ex (S := S) 1152921504606846975 (fun q => by subst q; obtain ⟨s, hs, _⟩ := h.head; simp at hs)
  have hi0 := hi
  obtain ⟨⟨s, h1, h2⟩, h3⟩ := hi
  rw [← h.fr t (by omega), ← h.fr 1152921504606846975 hn, frS_at h.ris hi0 h1, frS_at h.ris ⟨⟨s, h1, h2.imp id (by omega)⟩, fun s' hs' => ?_⟩ h1]
  have q1 := h3 s' hs'
  have q2 := h.lt s' (List.mem_of_getElem? hs')
  omega
theorem addF_rng {S : List PStep} {now from_ to_ d : Int} {f : Int → Int} (h : Rep S now f) (hn : 0 ≤ now ∧ now ≤ 1099511627776) (hr : ∀ t, now ≤ t → 0 ≤ f t ∧ f t ≤ 64) (h1 : ¬ (to_ ≤ from_ ∨ 1152921504606846976 < to_ ∨ d < -64 ∨ 64 < d)) (h2 : ¬ (to_ ≤ max from_ now ∨ d = 0)) (hok : ∀ t, max from_ now ≤ t → t < to_ → 0 ≤ f t + d ∧ f t + d ≤ 64) : ∀ t, now ≤ t → 0 ≤ addF f now from_ to_ d t ∧ addF f now from_ to_ d t ≤ 64 := fun t ht => by
  have q := hr t ht
  unfold addF
  by_cases c : max from_ now ≤ t ∧ (t < to_ ∨ to_ = 1152921504606846976)
  · rw [if_pos c]
    rcases Int.lt_or_le t to_ with e | e
    · exact hok t c.1 e
    · have e2 : to_ = 1152921504606846976 := by omega
      have e3 := Rep_high h (by omega) (t := t) (by omega)
      have e4 := hok 1152921504606846975 (by omega) (by omega)
      rw [e3]; exact e4
  · rw [if_neg c]; omega
theorem StP.add {S S' : List PStep} {now free ver from_ to_ d e : Int} {L L' : List PSpan} {k : Nat} {ch : Bool} (h : StP S now free L ver k) (hC : AddC (atP free L) now from_ to_ d e ch) (hR : Rep S' now (if ch = true then addF (atP free L) now from_ to_ d else atP free L)) (hl : S'.length ≤ S.length + 2) (hL' : L' = if ch = true then L ++ [⟨max from_ now, to_, d⟩] else L) : StP S' now free L' (if ch = true then ver + 1 else ver) (k + 1) := by
  have hs := h.sl
  have hv := h.vr
  have hln := h.ln
  cases ch with
  | false =>
    have e : L' = L := hL'
    subst e
    exact ⟨hR, h.ok, h.rng, h.nw, h.fr, by show 0 ≤ ver ∧ ver ≤ _; omega, by omega, by omega⟩
  | true =>
    have e : L' = L ++ [⟨max from_ now, to_, d⟩] := hL'
    subst e
    have hR2 : Rep S' now (addF (atP free L) now from_ to_ d) := hR
    have e2 : ∀ t, addF (atP free L) now from_ to_ d t = atP free (L ++ [⟨max from_ now, to_, d⟩]) t := fun t => add_atP (now := now)
    cases hC with
    | ok g1 g2 g3 =>
      have hn := h.nw
      refine ⟨hR2.congr fun t _ => e2 t, fun s hs => ?_, fun t ht => ?_, h.nw, h.fr, by show 0 ≤ ver + 1 ∧ ver + 1 ≤ _; omega, by rw [List.length_append]; simp; omega, by omega⟩
      · rw [List.mem_append] at hs
        rcases hs with hs | hs
        · exact h.ok s hs
        · simp at hs; subst hs; unfold SpOk; dsimp only; omega
      · rw [← e2]; exact addF_rng h.rep h.nw h.rng g1 g2 g3 t ht
theorem StP.adv {S S' : List PStep} {now free ver t e : Int} {L : List PSpan} {k : Nat} {ch : Bool} (h : StP S now free L ver k) (hC : AdvC now t e ch) (hR : Rep S' (if ch = true then t else now) (atP free L)) (hl : S'.length ≤ S.length) : StP S' (if ch = true then t else now) free L (if ch = true then ver + 1 else ver) (k + 1) := by
  have hs := h.sl
  have hv := h.vr
  have hln := h.ln
  have hn := h.nw
  cases ch with
  | false => exact ⟨hR, h.ok, h.rng, h.nw, h.fr, by show 0 ≤ ver ∧ ver ≤ _; omega, by omega, by omega⟩
  | true =>
    cases hC with
    | go g1 g2 => exact ⟨hR, h.ok, fun u hu => h.rng u (by have : t ≤ u := hu; omega), by show 0 ≤ t ∧ t ≤ _; omega, h.fr, by show 0 ≤ ver + 1 ∧ ver + 1 ≤ _; omega, by omega, by omega⟩
theorem rep_pos {S : List PStep} {now : Int} {f : Int → Int} (h : Rep S now f) : 0 < S.length := by
  obtain ⟨s, hs, _⟩ := h.head
  exact get_lt hs
theorem awC : AddC (fun _ => 4) 0 5 10 (0 - 3) 0 true := .ok (by decide) (by decide) (fun t _ _ => by decide)
theorem awV (t : Int) : addF (fun _ => 4) 0 5 10 (0 - 3) t = if 5 ≤ t ∧ t < 10 then 1 else 4 := by
  unfold addF
  by_cases h : 5 ≤ t ∧ t < 10
  · rw [if_pos h, if_pos (by omega)]; rfl
  · rw [if_neg h, if_neg (by omega)]; rfl
theorem awE : EarC (addF (fun _ => 4) 0 5 10 (0 - 3)) 0 0 6 2 10 0 := by
  refine .some (by decide) ⟨by decide, by decide, fun u h1 h2 => by rw [awV, if_neg (by omega)]; decide, fun t h1 h2 h3 => ?_⟩
  have h4 := h3 (max t 5) (by omega) (by omega)
  rw [awV, if_pos (by omega)] at h4
  omega
theorem ag39 : aggOf Try.prog 39 = some true := by kernel_rfl
theorem cells2 : Try.prog.cellsOf 2 = 1 := by kernel_rfl
theorem cells3 : Try.prog.cellsOf 3 = 1 := by kernel_rfl
theorem cells39 : Try.prog.cellsOf 39 = 4 := by kernel_rfl
theorem cells55 : Try.prog.cellsOf 55 = 3 := by kernel_rfl
theorem cl24 : Callable Try.prog 24 := ⟨Try.f24, Try.func24, by kernel_rfl, by kernel_rfl⟩
theorem cl26 : Callable Try.prog 26 := ⟨Try.f26, Try.func26, by kernel_rfl, by kernel_rfl⟩
theorem cl27 : Callable Try.prog 27 := ⟨Try.f27, Try.func27, by kernel_rfl, by kernel_rfl⟩
theorem cl34 : Callable Try.prog 34 := ⟨Try.f34, Try.func34, by kernel_rfl, by kernel_rfl⟩
theorem cl39 : Callable Try.prog 39 := ⟨Try.f39, Try.func39, by kernel_rfl, by kernel_rfl⟩
theorem cl40 : Callable Try.prog 40 := ⟨Try.f40, Try.func40, by kernel_rfl, by kernel_rfl⟩
theorem cl41 : Callable Try.prog 41 := ⟨Try.f41, Try.func41, by kernel_rfl, by kernel_rfl⟩
theorem cl86 : Callable Try.prog 86 := ⟨Try.f86, Try.func86, by kernel_rfl, by kernel_rfl⟩
theorem cl93 : Callable Try.prog 93 := ⟨Try.f93, Try.func93, by kernel_rfl, by kernel_rfl⟩
theorem fd39_0 : fldOf Try.prog 39 0 = some (0, 3, 1) := by kernel_rfl
theorem fd39_1 : fldOf Try.prog 39 1 = some (1, 2, 1) := by kernel_rfl
theorem fd39_2 : fldOf Try.prog 39 2 = some (2, 2, 1) := by kernel_rfl
theorem fd39_3 : fldOf Try.prog 39 3 = some (3, 3, 1) := by kernel_rfl
theorem fl36 : flds Try.prog 36 = some [(0, 1), (1, 1), (2, 1), (3, 1)] := by kernel_rfl
theorem sz39 : szOf Try.prog 39 = some 4 := by kernel_rfl
theorem zr36 : zeroOf Try.prog 36 = some (.agg #[.int .i64 0, .int .i64 0, .slice none 0 0, .int .i64 0]) := by kernel_rfl
section
variable {W0 : World}
set_option maxRecDepth 100000 in
set_option maxHeartbeats 8000000 in
theorem step05_s (p q : Nat) (free now : Int) (a : Option Addr) (cap : Nat) (S : List PStep) (b : Option Addr) (d : Nat) (L : List PSpan) (ver : Int) (E EL G : SHeap) (V : OffVec 2 76 (.slice a S.length cap) S.length (S.flatMap PStep.cells) E) (VL : OwnVec 3 55 (.slice b L.length d) L.length (L.flatMap PSpan.cells) EL) (k : Nat) (hst : StP S now free L ver k) (hk : k ≤ 1000) (o : POp) : AC Try.prog W0 27 [.pointer (some ⟨p, 0, none⟩), .pointer (some ⟨q, 0, none⟩), POp.v o] (prB p (.slice a S.length cap) ver :: (E ++ (plB q free now (.slice b L.length d) ver :: (EL ++ G)))) (fun v H' => ∃ (S1 : List PStep) (now1 : Int) (L1 : List PSpan) (ver1 : Int) (a1 : Option Addr) (c1 : Nat) (E1 : SHeap) (b1 : Option Addr) (d1 : Nat) (EL1 : SHeap), v = .bool true ∧ StP S1 now1 free L1 ver1 (k + 1) ∧ OffVec 2 76 (.slice a1 S1.length c1) S1.length (S1.flatMap PStep.cells) E1 ∧ OwnVec 3 55 (.slice b1 L1.length d1) L1.length (L1.flatMap PSpan.cells) EL1 ∧ H' = (prB p (.slice a1 S1.length c1) ver1 :: (E1 ++ (plB q free now1 (.slice b1 L1.length d1) ver1 :: (EL1 ++ G))))) := by
  have hvr := hst.vr
  have hln := hst.ln
  have hsl := hst.sl
  refine ac_of Try.func27 rfl rfl rfl ?_
  refine aw_seq_region ?_
  refine sr_new rfl (wtd_none rfl) rfl (x_box rfl rfl) ?_
  intro r0_0 hr0_0 gr0_0
  refine sr_x rfl (wtd_none rfl) rfl (Rd.x (x_assign rfl)) ?_
  refine sr_nil ?_
  refine aw_keep (keep_cons (t := 0) rfl (keep_cons (t := 1) rfl (keep_cons (t := 5) rfl (keep_cons (t := 6) rfl keep_nil)))) ?_
  refine aw_seq_region ?_
  refine sr_x rfl (wtd_none rfl) rfl (Rd.x (x_fieldAddr fd39_0 rfl)) ?_
  refine sr_x rfl (wtd_none rfl) rfl (Rd.x (x_load ag3 rfl (cells_ext (by repeat (first | exact List.mem_cons_self | apply List.mem_cons_of_mem | apply List.mem_append_right)) (by repeat (first | exact Ext.all _ | exact Ext.done | apply Ext.take | apply Ext.skip))))) ?_
  refine sr_nil ?_
  refine aw_keep (keep_cons (t := 0) rfl (keep_cons (t := 1) rfl (keep_cons (t := 5) rfl (keep_cons (t := 6) rfl (keep_cons (t := 8) rfl keep_nil))))) ?_
  refine aw_block ?_
  refine aw_seq ?_
  refine aw_seq_region ?_
  refine sr_cmp rfl (wtd_none rfl) rfl (Rd.x (x_eq rfl rfl)) (fun h1 => ?_) (fun h1 => ?_)
  · refine sr_x rfl (wtd_none rfl) rfl (Rd.x (x_assign rfl)) ?_
    refine sr_nil ?_
    refine aw_keep (keep_cons (t := 0) rfl (keep_cons (t := 1) rfl (keep_cons (t := 5) rfl (keep_cons (t := 6) rfl (keep_cons (t := 8) rfl (keep_cons (t := 18) rfl keep_nil)))))) ?_
    refine aw_true rfl ?_
    refine aw_skip ?_
    show AW _ _ _ _ _ _ _
    refine aw_true rfl ?_
    refine aw_seq ?_
    refine aw_seq_region ?_
    refine sr_x rfl (wtd_none rfl) rfl (Rd.x (x_fieldAddr fd39_3 rfl)) ?_
    refine sr_x rfl (wtd_none rfl) rfl (Rd.x (x_load ag3 rfl (cells_ext (by repeat (first | exact List.mem_cons_self | apply List.mem_cons_of_mem | apply List.mem_append_right)) (by repeat (first | exact Ext.all _ | exact Ext.done | apply Ext.take | apply Ext.skip))))) ?_
    refine sr_cmp rfl (wtd_none rfl) rfl (Rd.x (x_lt rfl rfl)) (fun h2 => ?_) (fun h2 => ?_)
    · refine sr_x rfl (wtd_none rfl) rfl (Rd.x (x_move rfl)) ?_
      refine sr_skip rfl (wtd_no rfl rfl rfl rfl) rfl ?_
      refine sr_skip rfl (wtd_no rfl rfl rfl rfl) rfl ?_
      refine sr_skip rfl (wtd_no rfl rfl rfl rfl) rfl ?_
      refine sr_x rfl (wtd_none rfl) rfl (Rd.x (x_pick_t rfl rfl rfl)) ?_
      refine sr_nil ?_
      refine aw_keep (keep_cons (t := 0) rfl (keep_cons (t := 1) rfl (keep_cons (t := 5) rfl (keep_cons (t := 6) rfl (keep_cons (t := 28) rfl keep_nil))))) ?_
      refine aw_true rfl ?_
      refine aw_seq_region ?_
      refine sr_x rfl (wtd_none rfl) rfl (Rd.x (x_assign rfl)) ?_
      refine sr_nil ?_
      refine aw_keep (keep_cons (t := 0) rfl (keep_cons (t := 1) rfl (keep_cons (t := 5) rfl (keep_cons (t := 6) rfl keep_nil)))) ?_
      refine aw_ret ?_
      show ∃ v H2, ResV _ _ _ _ _ _ v ∧ Sub H2 _ ∧ _
      first | exact ⟨_, (prB p (.slice a S.length cap) ver :: (E ++ (plB q free now (.slice b L.length d) ver :: (EL ++ G)))), resV rfl (.cons rfl .nil), Sub.autoD, S, now, L, ver, a, cap, E, b, d, EL, rfl, hst.weak, V, VL, rfl⟩ | exact ⟨_, (prB p (.slice a1 S1.length c1) (if ch = true then ver + 1 else ver) :: (E1 ++ (plB q free now (.slice b1 L1.length d1) (if ch = true then ver + 1 else ver) :: (EL1 ++ G)))), resV rfl (.cons rfl .nil), Sub.autoD, S1, now, L1, (if ch = true then ver + 1 else ver), a1, c1, E1, b1, d1, EL1, rfl, hst.add hC1 hR1 hl1 hL1, V1, VL1, rfl⟩ | exact ⟨_, (prB p (.slice a1 S1.length c1) (if ch = true then ver + 1 else ver) :: (E1 ++ (plB q free (if ch = true then o.from_ else now) (.slice b L.length d) (if ch = true then ver + 1 else ver) :: (EL ++ G)))), resV rfl (.cons rfl .nil), Sub.autoD, S1, (if ch = true then o.from_ else now), L, (if ch = true then ver + 1 else ver), a1, c1, E1, b, d, EL, rfl, hst.adv hC1 hR1 hl1, V1, VL, rfl⟩
    · refine sr_x rfl (wtd_none rfl) rfl (Rd.x (x_move rfl)) ?_
      refine sr_x rfl (wtd_yes rfl rfl rfl) rfl (Rd.x (x_fieldAddr fd39_3 rfl)) ?_
      refine sr_x rfl (wtd_yes rfl rfl rfl) rfl (Rd.x (x_load ag3 rfl (cells_ext (by repeat (first | exact List.mem_cons_self | apply List.mem_cons_of_mem | apply List.mem_append_right)) (by repeat (first | exact Ext.all _ | exact Ext.done | apply Ext.take | apply Ext.skip))))) ?_
      refine sr_cmp rfl (wtd_yes rfl rfl rfl) rfl (Rd.x (x_gt rfl rfl)) (fun h3 => ?_) (fun h3 => ?_)
      · refine sr_x rfl (wtd_none rfl) rfl (Rd.x (x_pick_f rfl rfl rfl)) ?_
        refine sr_nil ?_
        refine aw_keep (keep_cons (t := 0) rfl (keep_cons (t := 1) rfl (keep_cons (t := 5) rfl (keep_cons (t := 6) rfl (keep_cons (t := 28) rfl keep_nil))))) ?_
        refine aw_true rfl ?_
        refine aw_seq_region ?_
        refine sr_x rfl (wtd_none rfl) rfl (Rd.x (x_assign rfl)) ?_
        refine sr_nil ?_
        refine aw_keep (keep_cons (t := 0) rfl (keep_cons (t := 1) rfl (keep_cons (t := 5) rfl (keep_cons (t := 6) rfl keep_nil)))) ?_
        refine aw_ret ?_
        show ∃ v H2, ResV _ _ _ _ _ _ v ∧ Sub H2 _ ∧ _
        first | exact ⟨_, (prB p (.slice a S.length cap) ver :: (E ++ (plB q free now (.slice b L.length d) ver :: (EL ++ G)))), resV rfl (.cons rfl .nil), Sub.autoD, S, now, L, ver, a, cap, E, b, d, EL, rfl, hst.weak, V, VL, rfl⟩ | exact ⟨_, (prB p (.slice a1 S1.length c1) (if ch = true then ver + 1 else ver) :: (E1 ++ (plB q free now (.slice b1 L1.length d1) (if ch = true then ver + 1 else ver) :: (EL1 ++ G)))), resV rfl (.cons rfl .nil), Sub.autoD, S1, now, L1, (if ch = true then ver + 1 else ver), a1, c1, E1, b1, d1, EL1, rfl, hst.add hC1 hR1 hl1 hL1, V1, VL1, rfl⟩ | exact ⟨_, (prB p (.slice a1 S1.length c1) (if ch = true then ver + 1 else ver) :: (E1 ++ (plB q free (if ch = true then o.from_ else now) (.slice b L.length d) (if ch = true then ver + 1 else ver) :: (EL ++ G)))), resV rfl (.cons rfl .nil), Sub.autoD, S1, (if ch = true then o.from_ else now), L, (if ch = true then ver + 1 else ver), a1, c1, E1, b, d, EL, rfl, hst.adv hC1 hR1 hl1, V1, VL, rfl⟩
      · refine sr_x rfl (wtd_none rfl) rfl (Rd.x (x_pick_f rfl rfl rfl)) ?_
        refine sr_nil ?_
        refine aw_keep (keep_cons (t := 0) rfl (keep_cons (t := 1) rfl (keep_cons (t := 5) rfl (keep_cons (t := 6) rfl (keep_cons (t := 28) rfl keep_nil))))) ?_
        refine aw_false rfl ?_
        refine aw_skip ?_
        show AW _ _ _ _ _ _ _
        refine aw_seq_drX (G := (prB p (.slice a S.length cap) ver :: (E ++ (plB q free now (.slice b L.length d) ver :: (EL ++ G))))) (X := [(r0_0, .cells (POp.cells o).toArray 39 (0, 0))]) ⟨_, 20, 95, [[], [], [1], [], [3], [], [5], [1, 2, 3, 4, 5, 6], [0, 1, 2, 3, 4, 5, 6, 7], [], [], [10], [], [12], [], [14], [14, 15], [0, 1, 2, 3, 4, 5, 6, 7, 8, 9, 10, 11, 12, 13, 14, 15, 16], [0, 1, 2, 3, 4, 5, 6, 7, 8, 9, 10, 11, 12, 13, 14, 15, 16, 17], [0, 1, 2, 3, 4, 5, 6, 7, 8, 9, 10, 11, 12, 13, 14, 15, 16, 17, 18]], [.light, .light, .light, .light, .light, .light, .light, .light, .eff, .light, .light, .light, .light, .light, .light, .light, .light, .eff, .light, .light]⟩ (by kernel_rfl) rfl rfl mix (Sub.of_perm List.perm_append_comm) ?_
        refine dr_light rfl rfl (wtd_none rfl) (x_move rfl) ?_
        refine dr_light rfl rfl (wtd_none rfl) (x_fieldAddr fd39_1 rfl) ?_
        refine dr_fix rfl rfl (wtd_none rfl) (x_load ag2 rfl (cells_ext (by repeat (first | exact List.mem_cons_self | apply List.mem_cons_of_mem | apply List.mem_append_right)) (by repeat (first | exact Ext.all _ | exact Ext.done | apply Ext.take | apply Ext.skip)))) ?_
        refine dr_light rfl rfl (wtd_none rfl) (x_fieldAddr fd39_2 rfl) ?_
        refine dr_fix rfl rfl (wtd_none rfl) (x_load ag2 rfl (cells_ext (by repeat (first | exact List.mem_cons_self | apply List.mem_cons_of_mem | apply List.mem_append_right)) (by repeat (first | exact Ext.all _ | exact Ext.done | apply Ext.take | apply Ext.skip)))) ?_
        refine dr_light rfl rfl (wtd_none rfl) (x_fieldAddr fd39_3 rfl) ?_
        refine dr_fix rfl rfl (wtd_none rfl) (x_load ag3 rfl (cells_ext (by repeat (first | exact List.mem_cons_self | apply List.mem_cons_of_mem | apply List.mem_append_right)) (by repeat (first | exact Ext.all _ | exact Ext.done | apply Ext.take | apply Ext.skip)))) ?_
        refine dr_light rfl rfl (wtd_none rfl) (x_build zr55 rfl fl55 (by repeat (first | exact Parts.nil | (apply Parts.cons; rfl))) (by repeat (first | exact Fill.done | (apply Fill.part; rfl; rfl; rfl; focus (repeat (first | exact Spl.done | exact Spl.all rfl | apply Spl.put | apply Spl.skip)))))) ?_
        refine dr_effC rfl (V := []) rfl (L' := []) (clear_all rfl) rfl (wtd_none rfl) rfl rfl rfl rfl cl40 (AC.sub Sub.autoP (pres_s p a cap S.length S ver E (plB q free now (.slice b L.length d) ver :: (EL ++ G)) V rfl (by omega) now (atP free L) hst.rep hst.rng (by omega) (by omega) ⟨o.from_, o.to_, o.n⟩ (by dsimp only; omega))) ?_
        rintro _ _ ⟨e, ch, S1, a1, c1, E1, rfl, hC1, hR1, hl1, V1, rfl⟩
        refine dr_light rfl rfl (wtd_none rfl) (x_move rfl) ?_
        refine dr_light rfl rfl (wtd_none rfl) (x_fieldAddr fd39_1 rfl) ?_
        refine dr_fix rfl rfl (wtd_none rfl) (x_load ag2 rfl (cells_ext (by repeat (first | exact List.mem_cons_self | apply List.mem_cons_of_mem | apply List.mem_append_right)) (by repeat (first | exact Ext.all _ | exact Ext.done | apply Ext.take | apply Ext.skip)))) ?_
        refine dr_light rfl rfl (wtd_none rfl) (x_fieldAddr fd39_2 rfl) ?_
        refine dr_fix rfl rfl (wtd_none rfl) (x_load ag2 rfl (cells_ext (by repeat (first | exact List.mem_cons_self | apply List.mem_cons_of_mem | apply List.mem_append_right)) (by repeat (first | exact Ext.all _ | exact Ext.done | apply Ext.take | apply Ext.skip)))) ?_
        refine dr_light rfl rfl (wtd_none rfl) (x_fieldAddr fd39_3 rfl) ?_
        refine dr_fix rfl rfl (wtd_none rfl) (x_load ag3 rfl (cells_ext (by repeat (first | exact List.mem_cons_self | apply List.mem_cons_of_mem | apply List.mem_append_right)) (by repeat (first | exact Ext.all _ | exact Ext.done | apply Ext.take | apply Ext.skip)))) ?_
        refine dr_light rfl rfl (wtd_none rfl) (x_neg' rfl (i64w (by omega) (by omega))) ?_
        refine dr_effC rfl (V := []) rfl (L' := []) (clear_all rfl) rfl (wtd_none rfl) rfl rfl rfl rfl cl86 (AC.sub Sub.autoP (qadd_s q free now b d L ver EL (prB p (.slice a1 S1.length c1) (if ch = true then ver + 1 else ver) :: (E1 ++ G)) VL hst.ok hst.fr (by omega) hst.nw hst.rng (by omega) o.from_ o.to_ (0 - o.n))) ?_
        rintro _ _ ⟨e2, ch2, L1, b1, d1, EL1, rfl, hC2, hL1, VL1, rfl⟩
        obtain ⟨rfl, rfl⟩ := hC1.uniq hC2
        refine dr_cmp rfl rfl (wtd_none rfl) (x_eq rfl rfl) (fun h4 => ?_) (fun h4 => absurd (by first | omega | decide) h4)
        refine dr_light rfl rfl (wtd_none rfl) (x_assign rfl) ?_
        refine dr_nil0 ?_
        refine aw_keep (keep_cons (t := 6) rfl keep_nil) ?_
        refine aw_ret ?_
        show ∃ v H2, ResV _ _ _ _ _ _ v ∧ Sub H2 _ ∧ _
        first | exact ⟨_, (prB p (.slice a S.length cap) ver :: (E ++ (plB q free now (.slice b L.length d) ver :: (EL ++ G)))), resV rfl (.cons rfl .nil), Sub.autoD, S, now, L, ver, a, cap, E, b, d, EL, rfl, hst.weak, V, VL, rfl⟩ | exact ⟨_, (prB p (.slice a1 S1.length c1) (if ch = true then ver + 1 else ver) :: (E1 ++ (plB q free now (.slice b1 L1.length d1) (if ch = true then ver + 1 else ver) :: (EL1 ++ G)))), resV rfl (.cons rfl .nil), Sub.autoD, S1, now, L1, (if ch = true then ver + 1 else ver), a1, c1, E1, b1, d1, EL1, rfl, hst.add hC1 hR1 hl1 hL1, V1, VL1, rfl⟩ | exact ⟨_, (prB p (.slice a1 S1.length c1) (if ch = true then ver + 1 else ver) :: (E1 ++ (plB q free (if ch = true then o.from_ else now) (.slice b L.length d) (if ch = true then ver + 1 else ver) :: (EL ++ G)))), resV rfl (.cons rfl .nil), Sub.autoD, S1, (if ch = true then o.from_ else now), L, (if ch = true then ver + 1 else ver), a1, c1, E1, b, d, EL, rfl, hst.adv hC1 hR1 hl1, V1, VL, rfl⟩
  · refine sr_x rfl (wtd_none rfl) rfl (Rd.x (x_assign rfl)) ?_
    refine sr_nil ?_
    refine aw_keep (keep_cons (t := 0) rfl (keep_cons (t := 1) rfl (keep_cons (t := 5) rfl (keep_cons (t := 6) rfl (keep_cons (t := 8) rfl (keep_cons (t := 18) rfl keep_nil)))))) ?_
    refine aw_false rfl ?_
    refine aw_region ?_
    refine sr_cmp rfl (wtd_none rfl) rfl (Rd.x (x_eq rfl rfl)) (fun h5 => ?_) (fun h5 => ?_)
    · refine sr_x rfl (wtd_none rfl) rfl (Rd.x (x_assign rfl)) ?_
      refine sr_nil ?_
      show AW _ _ _ _ _ _ _
      refine aw_true rfl ?_
      refine aw_seq ?_
      refine aw_seq_region ?_
      refine sr_x rfl (wtd_none rfl) rfl (Rd.x (x_fieldAddr fd39_3 rfl)) ?_
      refine sr_x rfl (wtd_none rfl) rfl (Rd.x (x_load ag3 rfl (cells_ext (by repeat (first | exact List.mem_cons_self | apply List.mem_cons_of_mem | apply List.mem_append_right)) (by repeat (first | exact Ext.all _ | exact Ext.done | apply Ext.take | apply Ext.skip))))) ?_
      refine sr_cmp rfl (wtd_none rfl) rfl (Rd.x (x_lt rfl rfl)) (fun h6 => ?_) (fun h6 => ?_)
      · refine sr_x rfl (wtd_none rfl) rfl (Rd.x (x_move rfl)) ?_
        refine sr_skip rfl (wtd_no rfl rfl rfl rfl) rfl ?_
        refine sr_skip rfl (wtd_no rfl rfl rfl rfl) rfl ?_
        refine sr_skip rfl (wtd_no rfl rfl rfl rfl) rfl ?_
        refine sr_x rfl (wtd_none rfl) rfl (Rd.x (x_pick_t rfl rfl rfl)) ?_
        refine sr_nil ?_
        refine aw_keep (keep_cons (t := 0) rfl (keep_cons (t := 1) rfl (keep_cons (t := 5) rfl (keep_cons (t := 6) rfl (keep_cons (t := 28) rfl keep_nil))))) ?_
        refine aw_true rfl ?_
        refine aw_seq_region ?_
        refine sr_x rfl (wtd_none rfl) rfl (Rd.x (x_assign rfl)) ?_
        refine sr_nil ?_
        refine aw_keep (keep_cons (t := 0) rfl (keep_cons (t := 1) rfl (keep_cons (t := 5) rfl (keep_cons (t := 6) rfl keep_nil)))) ?_
        refine aw_ret ?_
        show ∃ v H2, ResV _ _ _ _ _ _ v ∧ Sub H2 _ ∧ _
        first | exact ⟨_, (prB p (.slice a S.length cap) ver :: (E ++ (plB q free now (.slice b L.length d) ver :: (EL ++ G)))), resV rfl (.cons rfl .nil), Sub.autoD, S, now, L, ver, a, cap, E, b, d, EL, rfl, hst.weak, V, VL, rfl⟩ | exact ⟨_, (prB p (.slice a1 S1.length c1) (if ch = true then ver + 1 else ver) :: (E1 ++ (plB q free now (.slice b1 L1.length d1) (if ch = true then ver + 1 else ver) :: (EL1 ++ G)))), resV rfl (.cons rfl .nil), Sub.autoD, S1, now, L1, (if ch = true then ver + 1 else ver), a1, c1, E1, b1, d1, EL1, rfl, hst.add hC1 hR1 hl1 hL1, V1, VL1, rfl⟩ | exact ⟨_, (prB p (.slice a1 S1.length c1) (if ch = true then ver + 1 else ver) :: (E1 ++ (plB q free (if ch = true then o.from_ else now) (.slice b L.length d) (if ch = true then ver + 1 else ver) :: (EL ++ G)))), resV rfl (.cons rfl .nil), Sub.autoD, S1, (if ch = true then o.from_ else now), L, (if ch = true then ver + 1 else ver), a1, c1, E1, b, d, EL, rfl, hst.adv hC1 hR1 hl1, V1, VL, rfl⟩
      · refine sr_x rfl (wtd_none rfl) rfl (Rd.x (x_move rfl)) ?_
        refine sr_x rfl (wtd_yes rfl rfl rfl) rfl (Rd.x (x_fieldAddr fd39_3 rfl)) ?_
        refine sr_x rfl (wtd_yes rfl rfl rfl) rfl (Rd.x (x_load ag3 rfl (cells_ext (by repeat (first | exact List.mem_cons_self | apply List.mem_cons_of_mem | apply List.mem_append_right)) (by repeat (first | exact Ext.all _ | exact Ext.done | apply Ext.take | apply Ext.skip))))) ?_
        refine sr_cmp rfl (wtd_yes rfl rfl rfl) rfl (Rd.x (x_gt rfl rfl)) (fun h7 => ?_) (fun h7 => ?_)
        · refine sr_x rfl (wtd_none rfl) rfl (Rd.x (x_pick_f rfl rfl rfl)) ?_
          refine sr_nil ?_
          refine aw_keep (keep_cons (t := 0) rfl (keep_cons (t := 1) rfl (keep_cons (t := 5) rfl (keep_cons (t := 6) rfl (keep_cons (t := 28) rfl keep_nil))))) ?_
          refine aw_true rfl ?_
          refine aw_seq_region ?_
          refine sr_x rfl (wtd_none rfl) rfl (Rd.x (x_assign rfl)) ?_
          refine sr_nil ?_
          refine aw_keep (keep_cons (t := 0) rfl (keep_cons (t := 1) rfl (keep_cons (t := 5) rfl (keep_cons (t := 6) rfl keep_nil)))) ?_
          refine aw_ret ?_
          show ∃ v H2, ResV _ _ _ _ _ _ v ∧ Sub H2 _ ∧ _
          first | exact ⟨_, (prB p (.slice a S.length cap) ver :: (E ++ (plB q free now (.slice b L.length d) ver :: (EL ++ G)))), resV rfl (.cons rfl .nil), Sub.autoD, S, now, L, ver, a, cap, E, b, d, EL, rfl, hst.weak, V, VL, rfl⟩ | exact ⟨_, (prB p (.slice a1 S1.length c1) (if ch = true then ver + 1 else ver) :: (E1 ++ (plB q free now (.slice b1 L1.length d1) (if ch = true then ver + 1 else ver) :: (EL1 ++ G)))), resV rfl (.cons rfl .nil), Sub.autoD, S1, now, L1, (if ch = true then ver + 1 else ver), a1, c1, E1, b1, d1, EL1, rfl, hst.add hC1 hR1 hl1 hL1, V1, VL1, rfl⟩ | exact ⟨_, (prB p (.slice a1 S1.length c1) (if ch = true then ver + 1 else ver) :: (E1 ++ (plB q free (if ch = true then o.from_ else now) (.slice b L.length d) (if ch = true then ver + 1 else ver) :: (EL ++ G)))), resV rfl (.cons rfl .nil), Sub.autoD, S1, (if ch = true then o.from_ else now), L, (if ch = true then ver + 1 else ver), a1, c1, E1, b, d, EL, rfl, hst.adv hC1 hR1 hl1, V1, VL, rfl⟩
        · refine sr_x rfl (wtd_none rfl) rfl (Rd.x (x_pick_f rfl rfl rfl)) ?_
          refine sr_nil ?_
          refine aw_keep (keep_cons (t := 0) rfl (keep_cons (t := 1) rfl (keep_cons (t := 5) rfl (keep_cons (t := 6) rfl (keep_cons (t := 28) rfl keep_nil))))) ?_
          refine aw_false rfl ?_
          refine aw_skip ?_
          show AW _ _ _ _ _ _ _
          refine aw_seq_drX (G := (prB p (.slice a S.length cap) ver :: (E ++ (plB q free now (.slice b L.length d) ver :: (EL ++ G))))) (X := [(r0_0, .cells (POp.cells o).toArray 39 (0, 0))]) ⟨_, 20, 95, [[], [], [1], [], [3], [], [5], [1, 2, 3, 4, 5, 6], [0, 1, 2, 3, 4, 5, 6, 7], [], [], [10], [], [12], [], [14], [14, 15], [0, 1, 2, 3, 4, 5, 6, 7, 8, 9, 10, 11, 12, 13, 14, 15, 16], [0, 1, 2, 3, 4, 5, 6, 7, 8, 9, 10, 11, 12, 13, 14, 15, 16, 17], [0, 1, 2, 3, 4, 5, 6, 7, 8, 9, 10, 11, 12, 13, 14, 15, 16, 17, 18]], [.light, .light, .light, .light, .light, .light, .light, .light, .eff, .light, .light, .light, .light, .light, .light, .light, .light, .eff, .light, .light]⟩ (by kernel_rfl) rfl rfl mix (Sub.of_perm List.perm_append_comm) ?_
          refine dr_light rfl rfl (wtd_none rfl) (x_move rfl) ?_
          refine dr_light rfl rfl (wtd_none rfl) (x_fieldAddr fd39_1 rfl) ?_
          refine dr_fix rfl rfl (wtd_none rfl) (x_load ag2 rfl (cells_ext (by repeat (first | exact List.mem_cons_self | apply List.mem_cons_of_mem | apply List.mem_append_right)) (by repeat (first | exact Ext.all _ | exact Ext.done | apply Ext.take | apply Ext.skip)))) ?_
          refine dr_light rfl rfl (wtd_none rfl) (x_fieldAddr fd39_2 rfl) ?_
          refine dr_fix rfl rfl (wtd_none rfl) (x_load ag2 rfl (cells_ext (by repeat (first | exact List.mem_cons_self | apply List.mem_cons_of_mem | apply List.mem_append_right)) (by repeat (first | exact Ext.all _ | exact Ext.done | apply Ext.take | apply Ext.skip)))) ?_
          refine dr_light rfl rfl (wtd_none rfl) (x_fieldAddr fd39_3 rfl) ?_
          refine dr_fix rfl rfl (wtd_none rfl) (x_load ag3 rfl (cells_ext (by repeat (first | exact List.mem_cons_self | apply List.mem_cons_of_mem | apply List.mem_append_right)) (by repeat (first | exact Ext.all _ | exact Ext.done | apply Ext.take | apply Ext.skip)))) ?_
          refine dr_light rfl rfl (wtd_none rfl) (x_build zr55 rfl fl55 (by repeat (first | exact Parts.nil | (apply Parts.cons; rfl))) (by repeat (first | exact Fill.done | (apply Fill.part; rfl; rfl; rfl; focus (repeat (first | exact Spl.done | exact Spl.all rfl | apply Spl.put | apply Spl.skip)))))) ?_
          refine dr_effC rfl (V := []) rfl (L' := []) (clear_all rfl) rfl (wtd_none rfl) rfl rfl rfl rfl cl40 (AC.sub Sub.autoP (pres_s p a cap S.length S ver E (plB q free now (.slice b L.length d) ver :: (EL ++ G)) V rfl (by omega) now (atP free L) hst.rep hst.rng (by omega) (by omega) ⟨o.from_, o.to_, o.n⟩ (by dsimp only; omega))) ?_
          rintro _ _ ⟨e, ch, S1, a1, c1, E1, rfl, hC1, hR1, hl1, V1, rfl⟩
          refine dr_light rfl rfl (wtd_none rfl) (x_move rfl) ?_
          refine dr_light rfl rfl (wtd_none rfl) (x_fieldAddr fd39_1 rfl) ?_
          refine dr_fix rfl rfl (wtd_none rfl) (x_load ag2 rfl (cells_ext (by repeat (first | exact List.mem_cons_self | apply List.mem_cons_of_mem | apply List.mem_append_right)) (by repeat (first | exact Ext.all _ | exact Ext.done | apply Ext.take | apply Ext.skip)))) ?_
          refine dr_light rfl rfl (wtd_none rfl) (x_fieldAddr fd39_2 rfl) ?_
          refine dr_fix rfl rfl (wtd_none rfl) (x_load ag2 rfl (cells_ext (by repeat (first | exact List.mem_cons_self | apply List.mem_cons_of_mem | apply List.mem_append_right)) (by repeat (first | exact Ext.all _ | exact Ext.done | apply Ext.take | apply Ext.skip)))) ?_
          refine dr_light rfl rfl (wtd_none rfl) (x_fieldAddr fd39_3 rfl) ?_
          refine dr_fix rfl rfl (wtd_none rfl) (x_load ag3 rfl (cells_ext (by repeat (first | exact List.mem_cons_self | apply List.mem_cons_of_mem | apply List.mem_append_right)) (by repeat (first | exact Ext.all _ | exact Ext.done | apply Ext.take | apply Ext.skip)))) ?_
          refine dr_light rfl rfl (wtd_none rfl) (x_neg' rfl (i64w (by omega) (by omega))) ?_
          refine dr_effC rfl (V := []) rfl (L' := []) (clear_all rfl) rfl (wtd_none rfl) rfl rfl rfl rfl cl86 (AC.sub Sub.autoP (qadd_s q free now b d L ver EL (prB p (.slice a1 S1.length c1) (if ch = true then ver + 1 else ver) :: (E1 ++ G)) VL hst.ok hst.fr (by omega) hst.nw hst.rng (by omega) o.from_ o.to_ (0 - o.n))) ?_
          rintro _ _ ⟨e2, ch2, L1, b1, d1, EL1, rfl, hC2, hL1, VL1, rfl⟩
          obtain ⟨rfl, rfl⟩ := hC1.uniq hC2
          refine dr_cmp rfl rfl (wtd_none rfl) (x_eq rfl rfl) (fun h8 => ?_) (fun h8 => absurd (by first | omega | decide) h8)
          refine dr_light rfl rfl (wtd_none rfl) (x_assign rfl) ?_
          refine dr_nil0 ?_
          refine aw_keep (keep_cons (t := 6) rfl keep_nil) ?_
          refine aw_ret ?_
          show ∃ v H2, ResV _ _ _ _ _ _ v ∧ Sub H2 _ ∧ _
          first | exact ⟨_, (prB p (.slice a S.length cap) ver :: (E ++ (plB q free now (.slice b L.length d) ver :: (EL ++ G)))), resV rfl (.cons rfl .nil), Sub.autoD, S, now, L, ver, a, cap, E, b, d, EL, rfl, hst.weak, V, VL, rfl⟩ | exact ⟨_, (prB p (.slice a1 S1.length c1) (if ch = true then ver + 1 else ver) :: (E1 ++ (plB q free now (.slice b1 L1.length d1) (if ch = true then ver + 1 else ver) :: (EL1 ++ G)))), resV rfl (.cons rfl .nil), Sub.autoD, S1, now, L1, (if ch = true then ver + 1 else ver), a1, c1, E1, b1, d1, EL1, rfl, hst.add hC1 hR1 hl1 hL1, V1, VL1, rfl⟩ | exact ⟨_, (prB p (.slice a1 S1.length c1) (if ch = true then ver + 1 else ver) :: (E1 ++ (plB q free (if ch = true then o.from_ else now) (.slice b L.length d) (if ch = true then ver + 1 else ver) :: (EL ++ G)))), resV rfl (.cons rfl .nil), Sub.autoD, S1, (if ch = true then o.from_ else now), L, (if ch = true then ver + 1 else ver), a1, c1, E1, b, d, EL, rfl, hst.adv hC1 hR1 hl1, V1, VL, rfl⟩
    · refine sr_x rfl (wtd_none rfl) rfl (Rd.x (x_assign rfl)) ?_
      refine sr_nil ?_
      show AW _ _ _ _ _ _ _
      refine aw_false rfl ?_
      refine aw_seq_region ?_
      refine sr_cmp rfl (wtd_none rfl) rfl (Rd.x (x_eq rfl rfl)) (fun h9 => ?_) (fun h9 => ?_)
      · refine sr_x rfl (wtd_none rfl) rfl (Rd.x (x_assign rfl)) ?_
        refine sr_nil ?_
        refine aw_keep (keep_cons (t := 0) rfl (keep_cons (t := 1) rfl (keep_cons (t := 5) rfl (keep_cons (t := 6) rfl (keep_cons (t := 8) rfl (keep_cons (t := 48) rfl keep_nil)))))) ?_
        refine aw_true rfl ?_
        refine aw_seq ?_
        refine aw_seq_region ?_
        refine sr_x rfl (wtd_none rfl) rfl (Rd.x (x_fieldAddr fd39_3 rfl)) ?_
        refine sr_x rfl (wtd_none rfl) rfl (Rd.x (x_load ag3 rfl (cells_ext (by repeat (first | exact List.mem_cons_self | apply List.mem_cons_of_mem | apply List.mem_append_right)) (by repeat (first | exact Ext.all _ | exact Ext.done | apply Ext.take | apply Ext.skip))))) ?_
        refine sr_cmp rfl (wtd_none rfl) rfl (Rd.x (x_lt rfl rfl)) (fun h10 => ?_) (fun h10 => ?_)
        · refine sr_x rfl (wtd_none rfl) rfl (Rd.x (x_move rfl)) ?_
          refine sr_skip rfl (wtd_no rfl rfl rfl rfl) rfl ?_
          refine sr_skip rfl (wtd_no rfl rfl rfl rfl) rfl ?_
          refine sr_skip rfl (wtd_no rfl rfl rfl rfl) rfl ?_
          refine sr_x rfl (wtd_none rfl) rfl (Rd.x (x_pick_t rfl rfl rfl)) ?_
          refine sr_nil ?_
          refine aw_keep (keep_cons (t := 0) rfl (keep_cons (t := 1) rfl (keep_cons (t := 5) rfl (keep_cons (t := 6) rfl (keep_cons (t := 57) rfl keep_nil))))) ?_
          refine aw_true rfl ?_
          refine aw_seq_region ?_
          refine sr_x rfl (wtd_none rfl) rfl (Rd.x (x_assign rfl)) ?_
          refine sr_nil ?_
          refine aw_keep (keep_cons (t := 0) rfl (keep_cons (t := 1) rfl (keep_cons (t := 5) rfl (keep_cons (t := 6) rfl keep_nil)))) ?_
          refine aw_ret ?_
          show ∃ v H2, ResV _ _ _ _ _ _ v ∧ Sub H2 _ ∧ _
          first | exact ⟨_, (prB p (.slice a S.length cap) ver :: (E ++ (plB q free now (.slice b L.length d) ver :: (EL ++ G)))), resV rfl (.cons rfl .nil), Sub.autoD, S, now, L, ver, a, cap, E, b, d, EL, rfl, hst.weak, V, VL, rfl⟩ | exact ⟨_, (prB p (.slice a1 S1.length c1) (if ch = true then ver + 1 else ver) :: (E1 ++ (plB q free now (.slice b1 L1.length d1) (if ch = true then ver + 1 else ver) :: (EL1 ++ G)))), resV rfl (.cons rfl .nil), Sub.autoD, S1, now, L1, (if ch = true then ver + 1 else ver), a1, c1, E1, b1, d1, EL1, rfl, hst.add hC1 hR1 hl1 hL1, V1, VL1, rfl⟩ | exact ⟨_, (prB p (.slice a1 S1.length c1) (if ch = true then ver + 1 else ver) :: (E1 ++ (plB q free (if ch = true then o.from_ else now) (.slice b L.length d) (if ch = true then ver + 1 else ver) :: (EL ++ G)))), resV rfl (.cons rfl .nil), Sub.autoD, S1, (if ch = true then o.from_ else now), L, (if ch = true then ver + 1 else ver), a1, c1, E1, b, d, EL, rfl, hst.adv hC1 hR1 hl1, V1, VL, rfl⟩
        · refine sr_x rfl (wtd_none rfl) rfl (Rd.x (x_move rfl)) ?_
          refine sr_x rfl (wtd_yes rfl rfl rfl) rfl (Rd.x (x_fieldAddr fd39_3 rfl)) ?_
          refine sr_x rfl (wtd_yes rfl rfl rfl) rfl (Rd.x (x_load ag3 rfl (cells_ext (by repeat (first | exact List.mem_cons_self | apply List.mem_cons_of_mem | apply List.mem_append_right)) (by repeat (first | exact Ext.all _ | exact Ext.done | apply Ext.take | apply Ext.skip))))) ?_
          refine sr_cmp rfl (wtd_yes rfl rfl rfl) rfl (Rd.x (x_gt rfl rfl)) (fun h11 => ?_) (fun h11 => ?_)
          · refine sr_x rfl (wtd_none rfl) rfl (Rd.x (x_pick_f rfl rfl rfl)) ?_
            refine sr_nil ?_
            refine aw_keep (keep_cons (t := 0) rfl (keep_cons (t := 1) rfl (keep_cons (t := 5) rfl (keep_cons (t := 6) rfl (keep_cons (t := 57) rfl keep_nil))))) ?_
            refine aw_true rfl ?_
            refine aw_seq_region ?_
            refine sr_x rfl (wtd_none rfl) rfl (Rd.x (x_assign rfl)) ?_
            refine sr_nil ?_
            refine aw_keep (keep_cons (t := 0) rfl (keep_cons (t := 1) rfl (keep_cons (t := 5) rfl (keep_cons (t := 6) rfl keep_nil)))) ?_
            refine aw_ret ?_
            show ∃ v H2, ResV _ _ _ _ _ _ v ∧ Sub H2 _ ∧ _
            first | exact ⟨_, (prB p (.slice a S.length cap) ver :: (E ++ (plB q free now (.slice b L.length d) ver :: (EL ++ G)))), resV rfl (.cons rfl .nil), Sub.autoD, S, now, L, ver, a, cap, E, b, d, EL, rfl, hst.weak, V, VL, rfl⟩ | exact ⟨_, (prB p (.slice a1 S1.length c1) (if ch = true then ver + 1 else ver) :: (E1 ++ (plB q free now (.slice b1 L1.length d1) (if ch = true then ver + 1 else ver) :: (EL1 ++ G)))), resV rfl (.cons rfl .nil), Sub.autoD, S1, now, L1, (if ch = true then ver + 1 else ver), a1, c1, E1, b1, d1, EL1, rfl, hst.add hC1 hR1 hl1 hL1, V1, VL1, rfl⟩ | exact ⟨_, (prB p (.slice a1 S1.length c1) (if ch = true then ver + 1 else ver) :: (E1 ++ (plB q free (if ch = true then o.from_ else now) (.slice b L.length d) (if ch = true then ver + 1 else ver) :: (EL ++ G)))), resV rfl (.cons rfl .nil), Sub.autoD, S1, (if ch = true then o.from_ else now), L, (if ch = true then ver + 1 else ver), a1, c1, E1, b, d, EL, rfl, hst.adv hC1 hR1 hl1, V1, VL, rfl⟩
          · refine sr_x rfl (wtd_none rfl) rfl (Rd.x (x_pick_f rfl rfl rfl)) ?_
            refine sr_nil ?_
            refine aw_keep (keep_cons (t := 0) rfl (keep_cons (t := 1) rfl (keep_cons (t := 5) rfl (keep_cons (t := 6) rfl (keep_cons (t := 57) rfl keep_nil))))) ?_
            refine aw_false rfl ?_
            refine aw_skip ?_
            show AW _ _ _ _ _ _ _
            refine aw_seq_drX (G := (prB p (.slice a S.length cap) ver :: (E ++ (plB q free now (.slice b L.length d) ver :: (EL ++ G))))) (X := [(r0_0, .cells (POp.cells o).toArray 39 (0, 0))]) ⟨_, 19, 95, [[], [], [1], [], [3], [], [5], [1, 2, 3, 4, 5, 6], [0, 1, 2, 3, 4, 5, 6, 7], [], [], [10], [], [12], [], [14], [0, 1, 2, 3, 4, 5, 6, 7, 8, 9, 10, 11, 12, 13, 14, 15], [0, 1, 2, 3, 4, 5, 6, 7, 8, 9, 10, 11, 12, 13, 14, 15, 16], [0, 1, 2, 3, 4, 5, 6, 7, 8, 9, 10, 11, 12, 13, 14, 15, 16, 17]], [.light, .light, .light, .light, .light, .light, .light, .light, .eff, .light, .light, .light, .light, .light, .light, .light, .eff, .light, .light]⟩ (by kernel_rfl) rfl rfl mix (Sub.of_perm List.perm_append_comm) ?_
            refine dr_light rfl rfl (wtd_none rfl) (x_move rfl) ?_
            refine dr_light rfl rfl (wtd_none rfl) (x_fieldAddr fd39_1 rfl) ?_
            refine dr_fix rfl rfl (wtd_none rfl) (x_load ag2 rfl (cells_ext (by repeat (first | exact List.mem_cons_self | apply List.mem_cons_of_mem | apply List.mem_append_right)) (by repeat (first | exact Ext.all _ | exact Ext.done | apply Ext.take | apply Ext.skip)))) ?_
            refine dr_light rfl rfl (wtd_none rfl) (x_fieldAddr fd39_2 rfl) ?_
            refine dr_fix rfl rfl (wtd_none rfl) (x_load ag2 rfl (cells_ext (by repeat (first | exact List.mem_cons_self | apply List.mem_cons_of_mem | apply List.mem_append_right)) (by repeat (first | exact Ext.all _ | exact Ext.done | apply Ext.take | apply Ext.skip)))) ?_
            refine dr_light rfl rfl (wtd_none rfl) (x_fieldAddr fd39_3 rfl) ?_
            refine dr_fix rfl rfl (wtd_none rfl) (x_load ag3 rfl (cells_ext (by repeat (first | exact List.mem_cons_self | apply List.mem_cons_of_mem | apply List.mem_append_right)) (by repeat (first | exact Ext.all _ | exact Ext.done | apply Ext.take | apply Ext.skip)))) ?_
            refine dr_light rfl rfl (wtd_none rfl) (x_build zr55 rfl fl55 (by repeat (first | exact Parts.nil | (apply Parts.cons; rfl))) (by repeat (first | exact Fill.done | (apply Fill.part; rfl; rfl; rfl; focus (repeat (first | exact Spl.done | exact Spl.all rfl | apply Spl.put | apply Spl.skip)))))) ?_
            refine dr_effC rfl (V := []) rfl (L' := []) (clear_all rfl) rfl (wtd_none rfl) rfl rfl rfl rfl cl41 (AC.sub Sub.autoP (prel_s p a cap S.length S ver E (plB q free now (.slice b L.length d) ver :: (EL ++ G)) V rfl (by omega) now (atP free L) hst.rep hst.rng (by omega) (by omega) ⟨o.from_, o.to_, o.n⟩ (by dsimp only; omega))) ?_
            rintro _ _ ⟨e, ch, S1, a1, c1, E1, rfl, hC1, hR1, hl1, V1, rfl⟩
            refine dr_light rfl rfl (wtd_none rfl) (x_move rfl) ?_
            refine dr_light rfl rfl (wtd_none rfl) (x_fieldAddr fd39_1 rfl) ?_
            refine dr_fix rfl rfl (wtd_none rfl) (x_load ag2 rfl (cells_ext (by repeat (first | exact List.mem_cons_self | apply List.mem_cons_of_mem | apply List.mem_append_right)) (by repeat (first | exact Ext.all _ | exact Ext.done | apply Ext.take | apply Ext.skip)))) ?_
            refine dr_light rfl rfl (wtd_none rfl) (x_fieldAddr fd39_2 rfl) ?_
            refine dr_fix rfl rfl (wtd_none rfl) (x_load ag2 rfl (cells_ext (by repeat (first | exact List.mem_cons_self | apply List.mem_cons_of_mem | apply List.mem_append_right)) (by repeat (first | exact Ext.all _ | exact Ext.done | apply Ext.take | apply Ext.skip)))) ?_
            refine dr_light rfl rfl (wtd_none rfl) (x_fieldAddr fd39_3 rfl) ?_
            refine dr_fix rfl rfl (wtd_none rfl) (x_load ag3 rfl (cells_ext (by repeat (first | exact List.mem_cons_self | apply List.mem_cons_of_mem | apply List.mem_append_right)) (by repeat (first | exact Ext.all _ | exact Ext.done | apply Ext.take | apply Ext.skip)))) ?_
            refine dr_effC rfl (V := []) rfl (L' := []) (clear_all rfl) rfl (wtd_none rfl) rfl rfl rfl rfl cl86 (AC.sub Sub.autoP (qadd_s q free now b d L ver EL (prB p (.slice a1 S1.length c1) (if ch = true then ver + 1 else ver) :: (E1 ++ G)) VL hst.ok hst.fr (by omega) hst.nw hst.rng (by omega) o.from_ o.to_ o.n)) ?_
            rintro _ _ ⟨e2, ch2, L1, b1, d1, EL1, rfl, hC2, hL1, VL1, rfl⟩
            obtain ⟨rfl, rfl⟩ := hC1.uniq hC2
            refine dr_cmp rfl rfl (wtd_none rfl) (x_eq rfl rfl) (fun h12 => ?_) (fun h12 => absurd (by first | omega | decide) h12)
            refine dr_light rfl rfl (wtd_none rfl) (x_assign rfl) ?_
            refine dr_nil0 ?_
            refine aw_keep (keep_cons (t := 6) rfl keep_nil) ?_
            refine aw_ret ?_
            show ∃ v H2, ResV _ _ _ _ _ _ v ∧ Sub H2 _ ∧ _
            first | exact ⟨_, (prB p (.slice a S.length cap) ver :: (E ++ (plB q free now (.slice b L.length d) ver :: (EL ++ G)))), resV rfl (.cons rfl .nil), Sub.autoD, S, now, L, ver, a, cap, E, b, d, EL, rfl, hst.weak, V, VL, rfl⟩ | exact ⟨_, (prB p (.slice a1 S1.length c1) (if ch = true then ver + 1 else ver) :: (E1 ++ (plB q free now (.slice b1 L1.length d1) (if ch = true then ver + 1 else ver) :: (EL1 ++ G)))), resV rfl (.cons rfl .nil), Sub.autoD, S1, now, L1, (if ch = true then ver + 1 else ver), a1, c1, E1, b1, d1, EL1, rfl, hst.add hC1 hR1 hl1 hL1, V1, VL1, rfl⟩ | exact ⟨_, (prB p (.slice a1 S1.length c1) (if ch = true then ver + 1 else ver) :: (E1 ++ (plB q free (if ch = true then o.from_ else now) (.slice b L.length d) (if ch = true then ver + 1 else ver) :: (EL ++ G)))), resV rfl (.cons rfl .nil), Sub.autoD, S1, (if ch = true then o.from_ else now), L, (if ch = true then ver + 1 else ver), a1, c1, E1, b, d, EL, rfl, hst.adv hC1 hR1 hl1, V1, VL, rfl⟩
      · refine sr_x rfl (wtd_none rfl) rfl (Rd.x (x_assign rfl)) ?_
        refine sr_nil ?_
        refine aw_keep (keep_cons (t := 0) rfl (keep_cons (t := 1) rfl (keep_cons (t := 5) rfl (keep_cons (t := 6) rfl (keep_cons (t := 8) rfl (keep_cons (t := 48) rfl keep_nil)))))) ?_
        refine aw_false rfl ?_
        refine aw_seq_region ?_
        refine sr_cmp rfl (wtd_none rfl) rfl (Rd.x (x_eq rfl rfl)) (fun h13 => ?_) (fun h13 => ?_)
        · refine sr_x rfl (wtd_none rfl) rfl (Rd.x (x_assign rfl)) ?_
          refine sr_nil ?_
          refine aw_keep (keep_cons (t := 0) rfl (keep_cons (t := 1) rfl (keep_cons (t := 5) rfl (keep_cons (t := 6) rfl (keep_cons (t := 76) rfl keep_nil))))) ?_
          refine aw_true rfl ?_
          refine aw_seq_drX (G := (prB p (.slice a S.length cap) ver :: (E ++ (plB q free now (.slice b L.length d) ver :: (EL ++ G))))) (X := [(r0_0, .cells (POp.cells o).toArray 39 (0, 0))]) ⟨_, 18, 95, [[], [], [1], [], [3], [], [5], [0, 1, 2, 3, 4, 5, 6], [], [], [9], [], [11], [], [13], [0, 1, 2, 3, 4, 5, 6, 7, 8, 9, 10, 11, 12, 13, 14], [0, 1, 2, 3, 4, 5, 6, 7, 8, 9, 10, 11, 12, 13, 14, 15], [0, 1, 2, 3, 4, 5, 6, 7, 8, 9, 10, 11, 12, 13, 14, 15, 16]], [.light, .light, .light, .light, .light, .light, .light, .eff, .light, .light, .light, .light, .light, .light, .light, .eff, .light, .light]⟩ (by kernel_rfl) rfl rfl mix (Sub.of_perm List.perm_append_comm) ?_
          refine dr_light rfl rfl (wtd_none rfl) (x_move rfl) ?_
          refine dr_light rfl rfl (wtd_none rfl) (x_fieldAddr fd39_1 rfl) ?_
          refine dr_fix rfl rfl (wtd_none rfl) (x_load ag2 rfl (cells_ext (by repeat (first | exact List.mem_cons_self | apply List.mem_cons_of_mem | apply List.mem_append_right)) (by repeat (first | exact Ext.all _ | exact Ext.done | apply Ext.take | apply Ext.skip)))) ?_
          refine dr_light rfl rfl (wtd_none rfl) (x_fieldAddr fd39_2 rfl) ?_
          refine dr_fix rfl rfl (wtd_none rfl) (x_load ag2 rfl (cells_ext (by repeat (first | exact List.mem_cons_self | apply List.mem_cons_of_mem | apply List.mem_append_right)) (by repeat (first | exact Ext.all _ | exact Ext.done | apply Ext.take | apply Ext.skip)))) ?_
          refine dr_light rfl rfl (wtd_none rfl) (x_fieldAddr fd39_3 rfl) ?_
          refine dr_fix rfl rfl (wtd_none rfl) (x_load ag3 rfl (cells_ext (by repeat (first | exact List.mem_cons_self | apply List.mem_cons_of_mem | apply List.mem_append_right)) (by repeat (first | exact Ext.all _ | exact Ext.done | apply Ext.take | apply Ext.skip)))) ?_
          refine dr_effC rfl (V := []) rfl (L' := []) (clear_all rfl) rfl (wtd_none rfl) rfl rfl rfl rfl cl38 (AC.sub Sub.autoP (padd_s p a cap S.length S ver E (plB q free now (.slice b L.length d) ver :: (EL ++ G)) V rfl (by omega) now (atP free L) hst.rep hst.rng (by omega) (by omega) o.from_ o.to_ o.n)) ?_
          rintro _ _ ⟨e, ch, S1, a1, c1, E1, rfl, hC1, hR1, hl1, V1, rfl⟩
          refine dr_light rfl rfl (wtd_none rfl) (x_move rfl) ?_
          refine dr_light rfl rfl (wtd_none rfl) (x_fieldAddr fd39_1 rfl) ?_
          refine dr_fix rfl rfl (wtd_none rfl) (x_load ag2 rfl (cells_ext (by repeat (first | exact List.mem_cons_self | apply List.mem_cons_of_mem | apply List.mem_append_right)) (by repeat (first | exact Ext.all _ | exact Ext.done | apply Ext.take | apply Ext.skip)))) ?_
          refine dr_light rfl rfl (wtd_none rfl) (x_fieldAddr fd39_2 rfl) ?_
          refine dr_fix rfl rfl (wtd_none rfl) (x_load ag2 rfl (cells_ext (by repeat (first | exact List.mem_cons_self | apply List.mem_cons_of_mem | apply List.mem_append_right)) (by repeat (first | exact Ext.all _ | exact Ext.done | apply Ext.take | apply Ext.skip)))) ?_
          refine dr_light rfl rfl (wtd_none rfl) (x_fieldAddr fd39_3 rfl) ?_
          refine dr_fix rfl rfl (wtd_none rfl) (x_load ag3 rfl (cells_ext (by repeat (first | exact List.mem_cons_self | apply List.mem_cons_of_mem | apply List.mem_append_right)) (by repeat (first | exact Ext.all _ | exact Ext.done | apply Ext.take | apply Ext.skip)))) ?_
          refine dr_effC rfl (V := []) rfl (L' := []) (clear_all rfl) rfl (wtd_none rfl) rfl rfl rfl rfl cl86 (AC.sub Sub.autoP (qadd_s q free now b d L ver EL (prB p (.slice a1 S1.length c1) (if ch = true then ver + 1 else ver) :: (E1 ++ G)) VL hst.ok hst.fr (by omega) hst.nw hst.rng (by omega) o.from_ o.to_ o.n)) ?_
          rintro _ _ ⟨e2, ch2, L1, b1, d1, EL1, rfl, hC2, hL1, VL1, rfl⟩
          obtain ⟨rfl, rfl⟩ := hC1.uniq hC2
          refine dr_cmp rfl rfl (wtd_none rfl) (x_eq rfl rfl) (fun h14 => ?_) (fun h14 => absurd (by first | omega | decide) h14)
          refine dr_light rfl rfl (wtd_none rfl) (x_assign rfl) ?_
          refine dr_nil0 ?_
          refine aw_keep (keep_cons (t := 6) rfl keep_nil) ?_
          refine aw_ret ?_
          show ∃ v H2, ResV _ _ _ _ _ _ v ∧ Sub H2 _ ∧ _
          first | exact ⟨_, (prB p (.slice a S.length cap) ver :: (E ++ (plB q free now (.slice b L.length d) ver :: (EL ++ G)))), resV rfl (.cons rfl .nil), Sub.autoD, S, now, L, ver, a, cap, E, b, d, EL, rfl, hst.weak, V, VL, rfl⟩ | exact ⟨_, (prB p (.slice a1 S1.length c1) (if ch = true then ver + 1 else ver) :: (E1 ++ (plB q free now (.slice b1 L1.length d1) (if ch = true then ver + 1 else ver) :: (EL1 ++ G)))), resV rfl (.cons rfl .nil), Sub.autoD, S1, now, L1, (if ch = true then ver + 1 else ver), a1, c1, E1, b1, d1, EL1, rfl, hst.add hC1 hR1 hl1 hL1, V1, VL1, rfl⟩ | exact ⟨_, (prB p (.slice a1 S1.length c1) (if ch = true then ver + 1 else ver) :: (E1 ++ (plB q free (if ch = true then o.from_ else now) (.slice b L.length d) (if ch = true then ver + 1 else ver) :: (EL ++ G)))), resV rfl (.cons rfl .nil), Sub.autoD, S1, (if ch = true then o.from_ else now), L, (if ch = true then ver + 1 else ver), a1, c1, E1, b, d, EL, rfl, hst.adv hC1 hR1 hl1, V1, VL, rfl⟩
        · refine sr_x rfl (wtd_none rfl) rfl (Rd.x (x_assign rfl)) ?_
          refine sr_nil ?_
          refine aw_keep (keep_cons (t := 0) rfl (keep_cons (t := 1) rfl (keep_cons (t := 5) rfl (keep_cons (t := 6) rfl (keep_cons (t := 76) rfl keep_nil))))) ?_
          refine aw_false rfl ?_
          refine aw_seq_drX (G := (prB p (.slice a S.length cap) ver :: (E ++ (plB q free now (.slice b L.length d) ver :: (EL ++ G))))) (X := [(r0_0, .cells (POp.cells o).toArray 39 (0, 0))]) ⟨_, 10, 95, [[], [], [1], [0, 1, 2], [], [], [5], [0, 1, 2, 3, 4, 5, 6], [0, 1, 2, 3, 4, 5, 6, 7], [0, 1, 2, 3, 4, 5, 6, 7, 8]], [.light, .light, .light, .eff, .light, .light, .light, .eff, .light, .light]⟩ (by kernel_rfl) rfl rfl mix (Sub.of_perm List.perm_append_comm) ?_
          refine dr_light rfl rfl (wtd_none rfl) (x_move rfl) ?_
          refine dr_light rfl rfl (wtd_none rfl) (x_fieldAddr fd39_1 rfl) ?_
          refine dr_fix rfl rfl (wtd_none rfl) (x_load ag2 rfl (cells_ext (by repeat (first | exact List.mem_cons_self | apply List.mem_cons_of_mem | apply List.mem_append_right)) (by repeat (first | exact Ext.all _ | exact Ext.done | apply Ext.take | apply Ext.skip)))) ?_
          refine dr_effC rfl (V := []) rfl (L' := []) (clear_all rfl) rfl (wtd_none rfl) rfl rfl rfl rfl cl39 (AC.sub Sub.autoP (padv_s p a cap S.length S ver E (plB q free now (.slice b L.length d) ver :: (EL ++ G)) V rfl (by omega) now (atP free L) hst.rep hst.rng (by omega) (by omega) o.from_)) ?_
          rintro _ _ ⟨e, ch, S1, a1, c1, E1, rfl, hC1, hR1, hl1, V1, rfl⟩
          refine dr_light rfl rfl (wtd_none rfl) (x_move rfl) ?_
          refine dr_light rfl rfl (wtd_none rfl) (x_fieldAddr fd39_1 rfl) ?_
          refine dr_fix rfl rfl (wtd_none rfl) (x_load ag2 rfl (cells_ext (by repeat (first | exact List.mem_cons_self | apply List.mem_cons_of_mem | apply List.mem_append_right)) (by repeat (first | exact Ext.all _ | exact Ext.done | apply Ext.take | apply Ext.skip)))) ?_
          refine dr_effC rfl (V := []) rfl (L' := []) (clear_all rfl) rfl (wtd_none rfl) rfl rfl rfl rfl cl93 (AC.sub Sub.autoP (qadv_s q free now (.slice b L.length d) ver (prB p (.slice a1 S1.length c1) (if ch = true then ver + 1 else ver) :: (E1 ++ (EL ++ G))) (by omega) o.from_ rfl)) ?_
          rintro _ _ ⟨e2, ch2, rfl, hC2, rfl⟩
          obtain ⟨rfl, rfl⟩ := hC1.uniq hC2
          refine dr_cmp rfl rfl (wtd_none rfl) (x_eq rfl rfl) (fun h15 => ?_) (fun h15 => absurd (by first | omega | decide) h15)
          refine dr_light rfl rfl (wtd_none rfl) (x_assign rfl) ?_
          refine dr_nil0 ?_
          refine aw_keep (keep_cons (t := 6) rfl keep_nil) ?_
          refine aw_ret ?_
          show ∃ v H2, ResV _ _ _ _ _ _ v ∧ Sub H2 _ ∧ _
          first | exact ⟨_, (prB p (.slice a S.length cap) ver :: (E ++ (plB q free now (.slice b L.length d) ver :: (EL ++ G)))), resV rfl (.cons rfl .nil), Sub.autoD, S, now, L, ver, a, cap, E, b, d, EL, rfl, hst.weak, V, VL, rfl⟩ | exact ⟨_, (prB p (.slice a1 S1.length c1) (if ch = true then ver + 1 else ver) :: (E1 ++ (plB q free now (.slice b1 L1.length d1) (if ch = true then ver + 1 else ver) :: (EL1 ++ G)))), resV rfl (.cons rfl .nil), Sub.autoD, S1, now, L1, (if ch = true then ver + 1 else ver), a1, c1, E1, b1, d1, EL1, rfl, hst.add hC1 hR1 hl1 hL1, V1, VL1, rfl⟩ | exact ⟨_, (prB p (.slice a1 S1.length c1) (if ch = true then ver + 1 else ver) :: (E1 ++ (plB q free (if ch = true then o.from_ else now) (.slice b L.length d) (if ch = true then ver + 1 else ver) :: (EL ++ G)))), resV rfl (.cons rfl .nil), Sub.autoD, S1, (if ch = true then o.from_ else now), L, (if ch = true then ver + 1 else ver), a1, c1, E1, b, d, EL, rfl, hst.adv hC1 hR1 hl1, V1, VL, rfl⟩
set_option maxRecDepth 100000 in
set_option maxHeartbeats 400000 in
theorem made05N_s (n : Int) (sa : Option Addr) (scap : Nat) (script : List POp) (hs0 : ∀ G, SlV W0 G 4 POp.cells sa scap script) (G : SHeap) (hn : ¬ (0 ≤ n ∧ n ≤ 64)) : AC Try.prog W0 22 [.int .i64 n, .slice sa script.length scap] G (fun v H' => v = .tuple #[.pointer none, .pointer none] ∧ H' = G) := by
  refine ac_of Try.func22 rfl rfl rfl ?_
  refine aw_seq_region ?_
  refine sr_x rfl (wtd_none rfl) rfl (Rd.x (x_assign rfl)) ?_
  refine sr_x rfl (wtd_none rfl) rfl (Rd.x (x_assign rfl)) ?_
  refine sr_nil ?_
  refine aw_keep (keep_cons (t := 0) rfl (keep_cons (t := 1) rfl (keep_cons (t := 4) rfl (keep_cons (t := 5) rfl keep_nil)))) ?_
  refine aw_seq_region ?_
  refine sr_x rfl (wtd_none rfl) rfl (Rd.x (x_move rfl)) ?_
  refine sr_d rfl (wtd_none rfl) rfl (opS_call rfl rfl rfl rfl cl26 (pnewBad_s n _ hn)) ?_
  rintro _ G ⟨rfl, rfl⟩
  refine sr_x rfl (wtd_none rfl) rfl (Rd.x (x_move rfl)) ?_
  refine sr_x rfl (wtd_none rfl) rfl (Rd.x (x_extract rfl rfl)) ?_
  refine sr_x rfl (wtd_none rfl) rfl (Rd.x (x_extract rfl rfl)) ?_
  refine sr_x rfl (wtd_none rfl) rfl (Rd.x (x_assign rfl)) ?_
  refine sr_x rfl (wtd_none rfl) rfl (Rd.x (x_assign rfl)) ?_
  refine sr_nil ?_
  refine aw_keep (keep_cons (t := 0) rfl (keep_cons (t := 1) rfl (keep_cons (t := 4) rfl (keep_cons (t := 5) rfl (keep_cons (t := 6) rfl (keep_cons (t := 7) rfl keep_nil)))))) ?_
  refine aw_seq ?_
  refine aw_seq_region ?_
  refine sr_x rfl (wtd_none rfl) rfl (Rd.x (x_move rfl)) ?_
  refine sr_cmp rfl (wtd_none rfl) rfl (Rd.x (x_ne rfl rfl)) (fun h1 => ?_) (fun h1 => absurd (by first | omega | decide) h1)
  refine sr_nil ?_
  refine aw_keep (keep_cons (t := 0) rfl (keep_cons (t := 1) rfl (keep_cons (t := 4) rfl (keep_cons (t := 5) rfl (keep_cons (t := 6) rfl (keep_cons (t := 16) rfl keep_nil)))))) ?_
  refine aw_true rfl ?_
  refine aw_seq_region ?_
  refine sr_x rfl (wtd_none rfl) rfl (Rd.x (x_assign rfl)) ?_
  refine sr_x rfl (wtd_none rfl) rfl (Rd.x (x_assign rfl)) ?_
  refine sr_nil ?_
  refine aw_keep (keep_cons (t := 0) rfl (keep_cons (t := 1) rfl (keep_cons (t := 4) rfl (keep_cons (t := 5) rfl (keep_cons (t := 6) rfl keep_nil))))) ?_
  refine aw_ret ?_
  show ∃ v H2, ResV _ _ _ _ _ _ v ∧ Sub H2 _ ∧ _
  exact ⟨_, G, resV rfl (.cons rfl (.cons rfl .nil)), (by repeat (first | exact Sub.refl _ | apply Sub.drop)), ⟨rfl, rfl⟩⟩
set_option maxRecDepth 100000 in
set_option maxHeartbeats 4000000 in
theorem made05_s (n : Int) (sa : Option Addr) (scap : Nat) (script : List POp) (hs0 : ∀ G, SlV W0 G 4 POp.cells sa scap script) (G : SHeap) (hn : 0 ≤ n ∧ n ≤ 64) : AC Try.prog W0 22 [.int .i64 n, .slice sa script.length scap] G (fun v H' => ∃ p q, ∃ (S1 : List PStep) (now1 : Int) (L1 : List PSpan) (ver1 : Int) (a1 : Option Addr) (c1 : Nat) (E1 : SHeap) (b1 : Option Addr) (d1 : Nat) (EL1 : SHeap), v = .tuple #[.pointer (some ⟨p, 0, none⟩), .pointer (some ⟨q, 0, none⟩)] ∧ StP S1 now1 n L1 ver1 31 ∧ OffVec 2 76 (.slice a1 S1.length c1) S1.length (S1.flatMap PStep.cells) E1 ∧ OwnVec 3 55 (.slice b1 L1.length d1) L1.length (L1.flatMap PSpan.cells) EL1 ∧ H' = (prB p (.slice a1 S1.length c1) ver1 :: (E1 ++ (plB q n now1 (.slice b1 L1.length d1) ver1 :: (EL1 ++ G))))) := by
  have hle := (hs0 []).le
  have hcb := (hs0 []).capb
  refine ac_of Try.func22 rfl rfl rfl ?_
  refine aw_seq_region ?_
  refine sr_x rfl (wtd_none rfl) rfl (Rd.x (x_assign rfl)) ?_
  refine sr_x rfl (wtd_none rfl) rfl (Rd.x (x_assign rfl)) ?_
  refine sr_nil ?_
  refine aw_keep (keep_cons (t := 0) rfl (keep_cons (t := 1) rfl (keep_cons (t := 4) rfl (keep_cons (t := 5) rfl keep_nil)))) ?_
  refine aw_seq_region ?_
  refine sr_x rfl (wtd_none rfl) rfl (Rd.x (x_move rfl)) ?_
  refine sr_d rfl (wtd_none rfl) rfl (opS_call rfl rfl rfl rfl cl26 (pnew_s n _ hn)) ?_
  rintro _ _ ⟨p, r, rfl, V0, rfl⟩
  refine sr_x rfl (wtd_none rfl) rfl (Rd.x (x_move rfl)) ?_
  refine sr_x rfl (wtd_none rfl) rfl (Rd.x (x_extract rfl rfl)) ?_
  refine sr_x rfl (wtd_none rfl) rfl (Rd.x (x_extract rfl rfl)) ?_
  refine sr_x rfl (wtd_none rfl) rfl (Rd.x (x_assign rfl)) ?_
  refine sr_x rfl (wtd_none rfl) rfl (Rd.x (x_assign rfl)) ?_
  refine sr_nil ?_
  refine aw_keep (keep_cons (t := 0) rfl (keep_cons (t := 1) rfl (keep_cons (t := 4) rfl (keep_cons (t := 5) rfl (keep_cons (t := 6) rfl (keep_cons (t := 7) rfl keep_nil)))))) ?_
  refine aw_seq ?_
  refine aw_seq_region ?_
  refine sr_x rfl (wtd_none rfl) rfl (Rd.x (x_move rfl)) ?_
  refine sr_cmp rfl (wtd_none rfl) rfl (Rd.x (x_ne rfl rfl)) (fun h1 => absurd h1 (by first | omega | decide)) (fun h1 => ?_)
  refine sr_nil ?_
  refine aw_keep (keep_cons (t := 0) rfl (keep_cons (t := 1) rfl (keep_cons (t := 4) rfl (keep_cons (t := 5) rfl (keep_cons (t := 6) rfl (keep_cons (t := 16) rfl keep_nil)))))) ?_
  refine aw_false rfl ?_
  refine aw_skip ?_
  show AW _ _ _ _ _ _ _
  refine aw_seq_region ?_
  refine sr_x rfl (wtd_none rfl) rfl (Rd.x (x_move rfl)) ?_
  refine sr_x rfl (wtd_none rfl) rfl (Rd.x (x_build zr36 rfl fl36 (by repeat (first | exact Parts.nil | (apply Parts.cons; rfl))) (by repeat (first | exact Fill.done | (apply Fill.part; rfl; rfl; rfl; focus (repeat (first | exact Spl.done | exact Spl.all rfl | apply Spl.put | apply Spl.skip))))))) ?_
  refine sr_new rfl (wtd_none rfl) rfl (x_box rfl rfl) ?_
  intro r4_2 hr4_2 gr4_2
  refine sr_x rfl (wtd_none rfl) rfl (Rd.x (x_assign rfl)) ?_
  refine sr_nil ?_
  refine aw_keep (keep_cons (t := 1) rfl (keep_cons (t := 4) rfl (keep_cons (t := 5) rfl (keep_cons (t := 6) rfl (keep_cons (t := 8) rfl keep_nil))))) ?_
  refine aw_seq ?_
  refine aw_seq_region ?_
  refine sr_x rfl (wtd_none rfl) rfl (Rd.x (x_assign rfl)) ?_
  refine sr_nil ?_
  refine aw_keep (keep_cons (t := 1) rfl (keep_cons (t := 4) rfl (keep_cons (t := 5) rfl (keep_cons (t := 6) rfl (keep_cons (t := 8) rfl (keep_cons (t := 9) rfl keep_nil)))))) ?_
  refine aw_block ?_
  refine aw_loop (ι := P5) (fun s => s.k ≤ script.length ∧ s.k ≤ 30 ∧ StP s.S s.now n s.L s.ver s.k ∧ OffVec 2 76 (.slice s.a s.S.length s.c) s.S.length (s.S.flatMap PStep.cells) s.E ∧ OwnVec 3 55 (.slice s.b s.L.length s.d) s.L.length (s.L.flatMap PSpan.cells) s.EL) (fun s => [(1, .slice sa script.length scap), (4, .pointer none), (5, .pointer none), (6, .pointer (some ⟨p, 0, none⟩)), (8, .pointer (some ⟨r4_2, 0, none⟩)), (9, .int .i64 s.k)]) (fun s => (prB p (.slice s.a s.S.length s.c) s.ver :: (s.E ++ (plB r4_2 n s.now (.slice s.b s.L.length s.d) s.ver :: (s.EL ++ G))))) (fun s => script.length - s.k) ⟨0, [⟨0, n⟩], some ⟨r, 0, none⟩, 1, [(r, .cells (PStep.cells ⟨0, n⟩).toArray 76 (0, 0))], 0, [], none, 0, [], 0⟩ (⟨Nat.zero_le _, Nat.zero_le _, StP.new hn, V0, .nil⟩) (by (repeat (first | exact keep_nil | refine keep_cons rfl ?_)); first | done | fail) Sub.autoP ?_
  intro s9 hs9
  obtain ⟨k, S, a1, c1, E, now, L, b1, d1, EL, ver⟩ := s9
  dsimp only at hs9 ⊢
  obtain ⟨hk, hk3, hst, V, VL⟩ := hs9
  refine aw_seq ?_
  refine aw_seq_region ?_
  refine sr_x rfl (wtd_none rfl) rfl (Rd.x (x_move rfl)) ?_
  refine sr_x rfl (wtd_none rfl) rfl (Rd.x (x_move rfl)) ?_
  refine sr_x rfl (wtd_none rfl) rfl (Rd.x (x_lenSlice Try.underlying22 rfl)) ?_
  refine sr_cmp rfl (wtd_none rfl) rfl (Rd.x (x_lt rfl rfl)) (fun h2 => ?_) (fun h2 => ?_)
  · refine sr_x rfl (wtd_none rfl) rfl (Rd.x (x_move rfl)) ?_
    refine sr_x rfl (wtd_yes rfl rfl rfl) rfl (Rd.x (x_move rfl)) ?_
    refine sr_cmp rfl (wtd_yes rfl rfl rfl) rfl (Rd.x (x_lt rfl rfl)) (fun h3 => ?_) (fun h3 => ?_)
    · refine sr_x rfl (wtd_none rfl) rfl (Rd.x (x_pick_t rfl rfl rfl)) ?_
      refine sr_nil ?_
      refine aw_keep (keep_cons (t := 1) rfl (keep_cons (t := 4) rfl (keep_cons (t := 5) rfl (keep_cons (t := 6) rfl (keep_cons (t := 8) rfl (keep_cons (t := 9) rfl (keep_cons (t := 20) rfl (keep_cons (t := 21) rfl (keep_cons (t := 22) rfl (keep_cons (t := 23) rfl (keep_cons (t := 24) rfl (keep_cons (t := 25) rfl (keep_cons (t := 26) rfl (keep_cons (t := 27) rfl keep_nil)))))))))))))) ?_
      refine aw_true rfl ?_
      refine aw_skip ?_
      show AW _ _ _ _ _ _ _
      refine aw_seq ?_
      refine aw_block ?_
      refine aw_region ?_
      obtain ⟨o, ho⟩ := get_ex (show k < script.length by omega)
      obtain ⟨bo, oo, hao, hco⟩ := (hs0 []).at_ _ _ ho
      refine sr_x rfl (wtd_none rfl) rfl (Rd.x (x_move rfl)) ?_
      refine sr_x rfl (wtd_none rfl) rfl (Rd.x (x_move rfl)) ?_
      refine sr_x rfl (wtd_none rfl) rfl (Rd.x (x_move rfl)) ?_
      refine sr_x rfl (wtd_none rfl) rfl (Rd.x (x_move rfl)) ?_
      refine sr_x rfl (wtd_none rfl) rfl (Rd.x (x_indexAddrN k Try.underlying22 sz39 rfl hao rfl (by omega) (by omega))) ?_
      refine sr_x rfl (wtd_none rfl) rfl (Rd.x (x_loadN ag39 sz39 rfl (Cells.mono hco (Sub.nil _)) rfl)) ?_
      refine sr_d rfl (wtd_none rfl) rfl (opS_call rfl rfl rfl rfl cl27 (AC.sub Sub.autoP (step05_s p r4_2 n now a1 c1 S b1 d1 L ver E EL G V VL k hst (by omega) o))) ?_
      rintro _ _ ⟨S2, now2, L2, ver2, a2, c2, E2, b2, d2, EL2, rfl, hst2, V2, VL2, rfl⟩
      refine sr_nil ?_
      show AW _ _ _ _ _ _ _
      refine aw_region ?_
      refine sr_x rfl (wtd_none rfl) rfl (Rd.x (x_move rfl)) ?_
      refine sr_x rfl (wtd_none rfl) rfl (Rd.x (x_add' rfl rfl (i64w (by omega) (by omega)))) ?_
      refine sr_x rfl (wtd_none rfl) rfl (Rd.x (x_assign rfl)) ?_
      refine sr_nil ?_
      show ∃ s', _ ∧ _ ∧ _ ∧ _
      exact ⟨⟨k + 1, S2, a2, c2, E2, now2, L2, b2, d2, EL2, ver2⟩, ⟨by dsimp only; omega, by dsimp only; omega, hst2, V2, VL2⟩, by dsimp only; omega, (by (repeat (first | exact keep_nil | refine keep_cons rfl ?_)); first | done | fail), Sub.autoP⟩
    · refine sr_x rfl (wtd_none rfl) rfl (Rd.x (x_pick_t rfl rfl rfl)) ?_
      refine sr_nil ?_
      refine aw_keep (keep_cons (t := 1) rfl (keep_cons (t := 4) rfl (keep_cons (t := 5) rfl (keep_cons (t := 6) rfl (keep_cons (t := 8) rfl (keep_cons (t := 9) rfl (keep_cons (t := 20) rfl (keep_cons (t := 21) rfl (keep_cons (t := 22) rfl (keep_cons (t := 23) rfl (keep_cons (t := 24) rfl (keep_cons (t := 25) rfl (keep_cons (t := 26) rfl (keep_cons (t := 27) rfl keep_nil)))))))))))))) ?_
      refine aw_false rfl ?_
      refine aw_exit ?_
      show AW _ _ _ _ _ _ _
      refine aw_seq_region ?_
      refine sr_x rfl (wtd_none rfl) rfl (Rd.x (x_move rfl)) ?_
      refine sr_x rfl (wtd_none rfl) rfl (Rd.x (x_move rfl)) ?_
      refine sr_x rfl (wtd_none rfl) rfl (Rd.x (x_assign rfl)) ?_
      refine sr_x rfl (wtd_none rfl) rfl (Rd.x (x_assign rfl)) ?_
      refine sr_nil ?_
      refine aw_keep (keep_cons (t := 4) rfl (keep_cons (t := 5) rfl keep_nil)) ?_
      refine aw_ret ?_
      show ∃ v H2, ResV _ _ _ _ _ _ v ∧ Sub H2 _ ∧ _
      exact ⟨_, (prB p (.slice a1 S.length c1) ver :: (E ++ (plB r4_2 n now (.slice b1 L.length d1) ver :: (EL ++ G)))), resV rfl (.cons rfl (.cons rfl .nil)), Sub.autoP, p, r4_2, S, now, L, ver, a1, c1, E, b1, d1, EL, rfl, hst.mono (by omega), V, VL, rfl⟩
  · refine sr_x rfl (wtd_none rfl) rfl (Rd.x (x_move rfl)) ?_
    refine sr_skip rfl (wtd_no rfl rfl rfl rfl) rfl ?_
    refine sr_skip rfl (wtd_no rfl rfl rfl rfl) rfl ?_
    refine sr_x rfl (wtd_none rfl) rfl (Rd.x (x_pick_f rfl rfl rfl)) ?_
    refine sr_nil ?_
    refine aw_keep (keep_cons (t := 1) rfl (keep_cons (t := 4) rfl (keep_cons (t := 5) rfl (keep_cons (t := 6) rfl (keep_cons (t := 8) rfl (keep_cons (t := 9) rfl (keep_cons (t := 20) rfl (keep_cons (t := 21) rfl (keep_cons (t := 22) rfl (keep_cons (t := 23) rfl (keep_cons (t := 24) rfl (keep_cons (t := 25) rfl (keep_cons (t := 26) rfl (keep_cons (t := 27) rfl keep_nil)))))))))))))) ?_
    refine aw_false rfl ?_
    refine aw_exit ?_
    show AW _ _ _ _ _ _ _
    refine aw_seq_region ?_
    refine sr_x rfl (wtd_none rfl) rfl (Rd.x (x_move rfl)) ?_
    refine sr_x rfl (wtd_none rfl) rfl (Rd.x (x_move rfl)) ?_
    refine sr_x rfl (wtd_none rfl) rfl (Rd.x (x_assign rfl)) ?_
    refine sr_x rfl (wtd_none rfl) rfl (Rd.x (x_assign rfl)) ?_
    refine sr_nil ?_
    refine aw_keep (keep_cons (t := 4) rfl (keep_cons (t := 5) rfl keep_nil)) ?_
    refine aw_ret ?_
    show ∃ v H2, ResV _ _ _ _ _ _ v ∧ Sub H2 _ ∧ _
    exact ⟨_, (prB p (.slice a1 S.length c1) ver :: (E ++ (plB r4_2 n now (.slice b1 L.length d1) ver :: (EL ++ G)))), resV rfl (.cons rfl (.cons rfl .nil)), Sub.autoP, p, r4_2, S, now, L, ver, a1, c1, E, b1, d1, EL, rfl, hst.mono (by omega), V, VL, rfl⟩
set_option maxRecDepth 100000 in
set_option maxHeartbeats 2000000 in
theorem awake05_s (H : SHeap) : AC Try.prog W0 23 [] H (fun v H' => v = .bool true ∧ H' = H) := by
  refine ac_of Try.func23 rfl rfl rfl ?_
  refine aw_seq_region ?_
  refine sr_x rfl (wtd_none rfl) rfl (Rd.x (x_assign rfl)) ?_
  refine sr_nil ?_
  refine aw_keep (keep_cons (t := 0) rfl keep_nil) ?_
  refine aw_seq_region ?_
  refine sr_d rfl (wtd_none rfl) rfl (opS_call rfl rfl rfl rfl cl26 (pnew_s 4 _ (by decide))) ?_
  rintro _ _ ⟨p, r, rfl, V0, rfl⟩
  refine sr_x rfl (wtd_none rfl) rfl (Rd.x (x_move rfl)) ?_
  refine sr_x rfl (wtd_none rfl) rfl (Rd.x (x_extract rfl rfl)) ?_
  refine sr_x rfl (wtd_none rfl) rfl (Rd.x (x_extract rfl rfl)) ?_
  refine sr_x rfl (wtd_none rfl) rfl (Rd.x (x_assign rfl)) ?_
  refine sr_x rfl (wtd_none rfl) rfl (Rd.x (x_assign rfl)) ?_
  refine sr_nil ?_
  refine aw_keep (keep_cons (t := 0) rfl (keep_cons (t := 1) rfl (keep_cons (t := 2) rfl keep_nil))) ?_
  refine aw_seq_region ?_
  refine sr_x rfl (wtd_none rfl) rfl (Rd.x (x_move rfl)) ?_
  refine sr_x rfl (wtd_none rfl) rfl (Rd.x (x_build zr55 rfl fl55 (by repeat (first | exact Parts.nil | (apply Parts.cons; rfl))) (by repeat (first | exact Fill.done | (apply Fill.part; rfl; rfl; rfl; focus (repeat (first | exact Spl.done | exact Spl.all rfl | apply Spl.put | apply Spl.skip))))))) ?_
  refine sr_d rfl (wtd_none rfl) rfl (opS_call rfl rfl rfl rfl cl40 (AC.sub Sub.autoP (pres_s p (some ⟨r, 0, none⟩) 1 1 [⟨0, 4⟩] 0 [(r, .cells (PStep.cells ⟨0, 4⟩).toArray 76 (0, 0))] H V0 rfl (by decide) 0 (fun _ => 4) (rep_new 4) (fun t _ => by decide) (by decide) (by decide) ⟨5, 10, 3⟩ (by decide)))) ?_
  rintro _ _ ⟨e, ch, S1, a1, c1, E1, rfl, hC1, hR1, hl1, V1, rfl⟩
  obtain ⟨rfl, rfl⟩ := hC1.uniq awC
  have hR2 : Rep S1 0 (addF (fun _ => 4) 0 5 10 (0 - 3)) := hR1
  have hs1 := V1.slv' (W0 := W0) (fun _ => rfl) rfl (Sub.refl _)
  have hl2 : S1.length ≤ 3 := hl1
  refine sr_x rfl (wtd_none rfl) rfl (Rd.x (x_assign rfl)) ?_
  refine sr_nil ?_
  refine aw_keep (keep_cons (t := 0) rfl (keep_cons (t := 1) rfl (keep_cons (t := 2) rfl (keep_cons (t := 3) rfl keep_nil)))) ?_
  refine aw_seq_region ?_
  refine sr_x rfl (wtd_none rfl) rfl (Rd.x (x_move rfl)) ?_
  refine sr_d rfl (wtd_none rfl) rfl (opS_call rfl rfl rfl rfl cl24 (pear_s p a1 c1 S1 _ _ (cells_ext (by repeat (first | exact List.mem_cons_self | apply List.mem_cons_of_mem | apply List.mem_append_right)) (by repeat (first | exact Ext.all _ | exact Ext.done | apply Ext.take | apply Ext.skip))) (hs1.mono (Sub.takeE0 (by repeat (first | exact TakeE.here | apply TakeE.there | apply TakeE.app)))) 0 (addF (fun _ => 4) 0 5 10 (0 - 3)) hR2 (by omega) (by decide) 0 6 2)) ?_
  rintro _ _ ⟨⟨t, e2, rfl, hE⟩, rfl⟩
  obtain ⟨rfl, rfl⟩ := hE.uniq awE
  refine sr_x rfl (wtd_none rfl) rfl (Rd.x (x_move rfl)) ?_
  refine sr_x rfl (wtd_none rfl) rfl (Rd.x (x_extract rfl rfl)) ?_
  refine sr_x rfl (wtd_none rfl) rfl (Rd.x (x_extract rfl rfl)) ?_
  refine sr_x rfl (wtd_none rfl) rfl (Rd.x (x_assign rfl)) ?_
  refine sr_x rfl (wtd_none rfl) rfl (Rd.x (x_assign rfl)) ?_
  refine sr_nil ?_
  refine aw_keep (keep_cons (t := 0) rfl (keep_cons (t := 1) rfl (keep_cons (t := 2) rfl (keep_cons (t := 3) rfl (keep_cons (t := 4) rfl (keep_cons (t := 5) rfl keep_nil)))))) ?_
  refine aw_seq_region ?_
  refine sr_x rfl (wtd_none rfl) rfl (Rd.x (x_move rfl)) ?_
  refine sr_cmp rfl (wtd_none rfl) rfl (Rd.x (x_eq rfl rfl)) (fun h1 => ?_) (fun h1 => absurd (by first | omega | decide) h1)
  refine sr_x rfl (wtd_none rfl) rfl (Rd.x (x_move rfl)) ?_
  refine sr_x rfl (wtd_yes rfl rfl rfl) rfl (Rd.x (x_move rfl)) ?_
  refine sr_cmp rfl (wtd_yes rfl rfl rfl) rfl (Rd.x (x_eq rfl rfl)) (fun h2 => ?_) (fun h2 => absurd (by first | omega | decide) h2)
  refine sr_x rfl (wtd_none rfl) rfl (Rd.x (x_pick_t rfl rfl rfl)) ?_
  refine sr_x rfl (wtd_none rfl) rfl (Rd.x (x_move rfl)) ?_
  refine sr_x rfl (wtd_yes rfl rfl rfl) rfl (Rd.x (x_move rfl)) ?_
  refine sr_cmp rfl (wtd_yes rfl rfl rfl) rfl (Rd.x (x_eq rfl rfl)) (fun h3 => ?_) (fun h3 => absurd (by first | omega | decide) h3)
  refine sr_x rfl (wtd_none rfl) rfl (Rd.x (x_pick_t rfl rfl rfl)) ?_
  refine sr_x rfl (wtd_none rfl) rfl (Rd.x (x_move rfl)) ?_
  refine sr_x rfl (wtd_yes rfl rfl rfl) rfl (Rd.x (x_move rfl)) ?_
  refine sr_cmp rfl (wtd_yes rfl rfl rfl) rfl (Rd.x (x_eq rfl rfl)) (fun h4 => ?_) (fun h4 => absurd (by first | omega | decide) h4)
  refine sr_x rfl (wtd_none rfl) rfl (Rd.x (x_pick_t rfl rfl rfl)) ?_
  refine sr_x rfl (wtd_none rfl) rfl (Rd.x (x_move rfl)) ?_
  refine sr_x rfl (wtd_yes rfl rfl rfl) rfl (Rd.x (x_move rfl)) ?_
  refine sr_d rfl (wtd_yes rfl rfl rfl) rfl (opS_call rfl rfl rfl rfl cl34 (pfree_s p a1 c1 S1 _ _ (cells_ext (by repeat (first | exact List.mem_cons_self | apply List.mem_cons_of_mem | apply List.mem_append_right)) (by repeat (first | exact Ext.all _ | exact Ext.done | apply Ext.take | apply Ext.skip))) (hs1.mono (Sub.takeE0 (by repeat (first | exact TakeE.here | apply TakeE.there | apply TakeE.app)))) 7 hR2.ris (rep_pos hR2) (by omega))) ?_
  rintro _ _ ⟨rfl, rfl⟩
  rw [show frS S1 7 = 1 from (hR2.fr 7 (by decide)).trans (by decide)]
  refine sr_cmp rfl (wtd_yes rfl rfl rfl) rfl (Rd.x (x_eq rfl rfl)) (fun h5 => ?_) (fun h5 => absurd (by first | omega | decide) h5)
  refine sr_x rfl (wtd_none rfl) rfl (Rd.x (x_pick_t rfl rfl rfl)) ?_
  refine sr_x rfl (wtd_none rfl) rfl (Rd.x (x_assign rfl)) ?_
  refine sr_nil ?_
  refine aw_keep (keep_cons (t := 0) rfl keep_nil) ?_
  refine aw_ret ?_
  show ∃ v H2, ResV _ _ _ _ _ _ v ∧ Sub H2 _ ∧ _
  exact ⟨_, H, resV rfl (.cons rfl .nil), (by repeat (first | exact Sub.refl _ | apply Sub.drop | apply Sub.dropE)), ⟨rfl, rfl⟩⟩
set_option maxRecDepth 100000 in
theorem read_POp {H : Type} {enc : TypeId × Value → H} {w : World} {base : Nat} {spare : Nat → Bool} {held : Bool} {fuel : Nat} {cs : List Value} {x : DataW H × List MemPlace} (h : DataW.trod enc Try.prog w base spare held fuel 39 cs = some x) : ∃ j : POp, cs = j.cells ∧ j.Wf := by
  obtain ⟨hlen, n, hf⟩ := read_struct Try.underlying39 h
  rw [cells39] at hlen
  obtain ⟨a0, e0, l0, u0⟩ := read_int Try.underlying3 cells3 (hf 0 _ rfl)
  obtain ⟨a1, e1, l1, u1⟩ := read_int Try.underlying2 cells2 (hf 1 _ rfl)
  obtain ⟨a2, e2, l2, u2⟩ := read_int Try.underlying2 cells2 (hf 2 _ rfl)
  obtain ⟨a3, e3, l3, u3⟩ := read_int Try.underlying3 cells3 (hf 3 _ rfl)
  refine ⟨⟨a0, a1, a2, a3⟩, ?_, ⟨l0, u0, l1, u1, l2, u2, l3, u3⟩⟩
  apply List.ext_getElem?
  intro i
  match i with
  | 0 => exact e0
  | 1 => exact e1
  | 2 => exact e2
  | 3 => exact e3
  | i + 4 => rw [List.getElem?_eq_none (by omega), List.getElem?_eq_none (by simp)]
set_option maxRecDepth 100000 in
theorem open_POp {H : Type} {enc : TypeId × Value → H} {w : World} {base b0 : Nat} {spare : Nat → Bool} {held : Bool} {v : Value} {d : DataW H} {p : List MemPlace} {r : Reach} (hv : Value.okWide Try.prog w r b0 39 v) (h : DataW.Trod enc Try.prog w base spare held 39 v d p) : ∃ j : POp, v = j.v ∧ j.Wf := by
  obtain ⟨cs, rfl, _⟩ := Go.WideShapes.okWide_struct Try.underlying39 hv
  obtain ⟨fuel, hf⟩ := h
  obtain ⟨j, h1, h2⟩ := read_POp hf
  refine ⟨j, ?_, h2⟩
  have : cs = j.cells.toArray := by apply Array.toList_inj.1; exact h1
  rw [this]
end
end Go.Proofs.Ytjkojdjjooangaa
