/- Planning as the document has it. -/
import Derived.Test.YtjkojdjjooangaaPlnAll
namespace Go.Proofs.Ytjkojdjjooangaa
open Go.Proofs.Ytjkojdjjooangaa.Sym
open Go.RowKit (Below)
set_option linter.unusedVariables false
set_option linter.unusedSimpArgs false
theorem AddC.congr {f g : Int → Int} {now from_ to_ d e : Int} {ch : Bool} (h : ∀ t, now ≤ t → f t = g t) (hC : AddC f now from_ to_ d e ch) : AddC g now from_ to_ d e ch := by
  cases hC with
  | arg h1 => exact .arg h1
  | zero h1 h2 => exact .zero h1 h2
  | range h1 h2 h3 => obtain ⟨t, q1, q2, q3⟩ := h3; exact .range h1 h2 ⟨t, q1, q2, by rw [← h t (by omega)]; exact q3⟩
  | ok h1 h2 h3 => exact .ok h1 h2 fun t q1 q2 => by rw [← h t (by omega)]; exact h3 t q1 q2
theorem Feas_congr {f g : Int → Int} {now long w t : Int} (h : ∀ t, now ≤ t → f t = g t) (ht : now ≤ t) (hf : Feas f long w t) : Feas g long w t := fun u q1 q2 => by rw [← h u (by omega)]; exact hf u q1 q2
theorem EarC.congr {f g : Int → Int} {now from_ long w t e : Int} (h : ∀ t, now ≤ t → f t = g t) (hC : EarC f now from_ long w t e) : EarC g now from_ long w t e := by
  have hs : ∀ t, now ≤ t → g t = f t := fun t q => (h t q).symm
  cases hC with
  | arg h1 => exact .arg h1
  | some h1 h2 => exact .some h1 ⟨h2.1, h2.2.1, Feas_congr h (by have := h2.1; omega) h2.2.2.1, fun t' q1 q2 q3 => h2.2.2.2 t' q1 q2 (Feas_congr hs (by omega) q3)⟩
  | none h1 h2 => exact .none h1 fun t' q1 q2 q3 => h2 t' q1 q2 (Feas_congr hs (by omega) q3)
/-- The document's profile, told as a function. -/
structure RfS (now free : Int) (f : Int → Int) (L : List PSpan) (ver : Int) (m : Nat) : Prop where
  eq : ∀ t, now ≤ t → atP free L t = f t
  ok : ∀ s ∈ L, SpOk s
  rng : ∀ t, now ≤ t → 0 ≤ atP free L t ∧ atP free L t ≤ 64
  nw : 0 ≤ now ∧ now ≤ 1099511627776
  fr : 0 ≤ free ∧ free ≤ 64
  vr : 0 ≤ ver ∧ ver ≤ m
  ln : L.length ≤ m
theorem RfS.mono {now free ver : Int} {f : Int → Int} {L : List PSpan} {m n : Nat} (h : RfS now free f L ver m) (hm : m ≤ n) : RfS now free f L ver n := ⟨h.eq, h.ok, h.rng, h.nw, h.fr, ⟨h.vr.1, by have := h.vr.2; omega⟩, by have := h.ln; omega⟩
theorem RfS.add {now free ver from_ to_ d e : Int} {f : Int → Int} {L L' : List PSpan} {m : Nat} {ch : Bool} (h : RfS now free f L ver m) (hto : to_ < 1152921504606846976) (hC : AddC (atP free L) now from_ to_ d e ch) (hL' : L' = if ch = true then L ++ [⟨max from_ now, to_, d⟩] else L) :
    RfS now free (aft ch f (addF f now from_ to_ d)) L' (if ch = true then ver + 1 else ver) (m + 1) ∧ AddC f now from_ to_ d e ch := by
  refine ⟨?_, hC.congr h.eq⟩
  have hv := h.vr
  have hln := h.ln
  have hn := h.nw
  cases ch with
  | false =>
    have e : L' = L := hL'
    subst e
    exact ⟨h.eq, h.ok, h.rng, h.nw, h.fr, by show 0 ≤ ver ∧ ver ≤ _; omega, by omega⟩
  | true =>
    have e : L' = L ++ [⟨max from_ now, to_, d⟩] := hL'
    subst e
    have e2 : ∀ t, addF (atP free L) now from_ to_ d t = atP free (L ++ [⟨max from_ now, to_, d⟩]) t := fun t => add_atP (now := now)
    cases hC with
    | ok g1 g2 g3 =>
      refine ⟨fun t ht => ?_, fun s hs => ?_, fun t ht => ?_, h.nw, h.fr, by show 0 ≤ ver + 1 ∧ ver + 1 ≤ _; omega, by rw [List.length_append]; simp; omega⟩
      · rw [← e2]; show addF _ _ _ _ _ t = addF f now from_ to_ d t; unfold addF; rw [h.eq t ht]
      · rw [List.mem_append] at hs
        rcases hs with hs | hs
        · exact h.ok s hs
        · simp at hs; subst hs; unfold SpOk; dsimp only; omega
      · rw [← e2]
        unfold addF
        have q := h.rng t ht
        by_cases c : max from_ now ≤ t ∧ (t < to_ ∨ to_ = 1152921504606846976)
        · rw [if_pos c]; exact g3 t c.1 (by omega)
        · rw [if_neg c]; omega
structure RkP where
  k : Nat
  f : Int → Int
  cs : List Choice
  L : List PSpan
  b : Option Addr
  d : Nat
  EL : SHeap
  ver : Int
  ao : Option Addr
  co : Nat
  EO : SHeap
theorem awf1 (t : Int) (ht : 0 ≤ t) : addF (fun _ => 4) 0 0 10 (0 - 3) t = if t < 10 then 1 else 4 := by
  unfold addF
  by_cases h : t < 10
  · rw [if_pos h, if_pos (by omega)]; rfl
  · rw [if_neg h, if_neg (by omega)]; rfl
theorem awf2 (t : Int) (ht : 0 ≤ t) : addF (addF (fun _ => 4) 0 0 10 (0 - 3)) 0 10 (10 + 10) (0 - 3) t = if t < 20 then 1 else 4 := by
  have h1 := awf1 t ht
  unfold addF at h1 ⊢
  rw [h1]
  by_cases h : t < 10
  · rw [if_pos h, if_neg (by omega), if_pos (by omega)]; rfl
  · by_cases h2 : t < 20
    · rw [if_neg h, if_pos (by omega), if_pos h2]; rfl
    · rw [if_neg h, if_neg (by omega), if_neg h2]; rfl
theorem awP : ∃ g, PlanK 0 [⟨1, 3, 10, -1⟩, ⟨2, 3, 10, -1⟩, ⟨3, 1, 10, -1⟩] 3 (fun _ => 4) [⟨1, 0⟩, ⟨2, 10⟩, ⟨3, 0⟩] g := by
  have s1 : OneC 0 (fun _ => 4) ⟨1, 3, 10, -1⟩ (addF (fun _ => 4) 0 0 (0 + 10) (0 - 3)) (some ⟨1, 0⟩) :=
    .take (ch := true) (e := 0) (by decide) (.some (by decide) ⟨by decide, by decide, fun u _ _ => by show (3 : Int) ≤ 4; decide, fun t h1 h2 => by omega⟩) (.ok (by decide) (by decide) fun t _ _ => by show 0 ≤ (4 : Int) + (0 - 3) ∧ (4 : Int) + (0 - 3) ≤ 64; decide)
  have s2 : OneC 0 (addF (fun _ => 4) 0 0 10 (0 - 3)) ⟨2, 3, 10, -1⟩ (addF (addF (fun _ => 4) 0 0 10 (0 - 3)) 0 10 (10 + 10) (0 - 3)) (some ⟨2, 10⟩) :=
    .take (ch := true) (e := 0) (by decide) (.some (by decide) ⟨by decide, by decide, fun u q1 q2 => by dsimp only at q1 q2 ⊢; rw [awf1 u (by omega), if_neg (by omega)]; decide, fun t h1 h2 h3 => by
      dsimp only at h1 h2 h3
      have q := h3 t (Int.le_refl _) (by omega)
      rw [awf1 t (by omega), if_pos h2] at q; omega⟩) (.ok (by decide) (by decide) fun t q1 q2 => by dsimp only at q1 q2 ⊢; rw [awf1 t (by omega), if_neg (by omega)]; decide)
  have s3 : OneC 0 (addF (addF (fun _ => 4) 0 0 10 (0 - 3)) 0 10 (10 + 10) (0 - 3)) ⟨3, 1, 10, -1⟩ (addF (addF (addF (fun _ => 4) 0 0 10 (0 - 3)) 0 10 (10 + 10) (0 - 3)) 0 0 (0 + 10) (0 - 1)) (some ⟨3, 0⟩) :=
    .take (ch := true) (e := 0) (by decide) (.some (by decide) ⟨by decide, by decide, fun u q1 q2 => by dsimp only at q1 q2 ⊢; rw [awf2 u (by omega), if_pos (by omega)]; decide, fun t h1 h2 => by omega⟩) (.ok (by decide) (by decide) fun t q1 q2 => by dsimp only at q1 q2 ⊢; rw [awf2 t (by omega), if_pos (by omega)]; decide)
  exact ⟨_, ⟨_, _, _, _, rfl, ⟨_, _, _, _, rfl, ⟨_, _, _, _, rfl, ⟨rfl, rfl⟩, s1, rfl⟩, s2, rfl⟩, s3, rfl⟩⟩
theorem PlanK.pre {now : Int} {items : List Item} {f : Int → Int} : ∀ {n : Nat} {cs : List Choice} {g : Int → Int}, PlanK now items n f cs g → ∀ i, i < n → ∃ x csi fi c csj fj, items[i]? = some x ∧ PlanK now items i f csi fi ∧ PlanK now items (i + 1) f csj fj ∧ OneC now fi x fj c ∧ csj = csi ++ c.toList ∧ csj <+: cs
  | 0, cs, g, h, i, hi => by omega
  | n + 1, cs, g, h, i, hi => by
    have hh := h
    obtain ⟨x, cs0, f0, c, h1, h2, h3, h4⟩ := h
    by_cases e : i = n
    · subst e
      exact ⟨x, cs0, f0, c, cs, g, h1, h2, hh, h3, h4, List.prefix_refl _⟩
    · obtain ⟨y, csi, fi, c', csj, fj, k1, k2, k3, k4, k5, k6⟩ := PlanK.pre h2 i (by omega)
      exact ⟨y, csi, fi, c', csj, fj, k1, k2, k3, k4, k5, k6.trans ⟨_, h4.symm⟩⟩
theorem OneC.choice {now : Int} {f g : Int → Int} {x : Item} {c : Choice} (h : OneC now f x g (some c)) : c.id = x.id ∧ (x.plan < 0 ∨ c.at_ < x.plan) ∧ now ≤ c.at_ := by
  cases h with
  | take h1 h2 h3 => exact ⟨rfl, .inl (by omega), (ear_bd h2).1⟩
  | move h1 h2 h3 h4 h5 => exact ⟨rfl, .inr (by dsimp only; omega), (ear_bd h3).1⟩
theorem ag80 : aggOf Try.prog 80 = some true := by kernel_rfl
theorem cl25 : Callable Try.prog 25 := ⟨Try.f25, Try.func25, by kernel_rfl, by kernel_rfl⟩
theorem ks80 : kindsOf Try.prog 80 = some [.int, .int] := by kernel_rfl
section
variable {W0 : World}
set_option maxRecDepth 100000 in
set_option maxHeartbeats 400000 in
theorem few12_s (a : Option Addr) (cap : Nat) (xs : List Item) (H : SHeap) (hle : xs.length ≤ cap) (hcb : cap ≤ 9223372036854775807) : AC Try.prog W0 42 [.slice a xs.length cap] H (fun v H' => v = .slice a (xs.take 12).length cap ∧ H' = H) := by
  refine ac_of Try.func42 rfl rfl rfl ?_
  refine aw_seq_region ?_
  refine sr_x rfl (wtd_none rfl) rfl (Rd.x (x_assign rfl)) ?_
  refine sr_nil ?_
  refine aw_keep (keep_cons (t := 0) rfl (keep_cons (t := 2) rfl keep_nil)) ?_
  refine aw_seq ?_
  refine aw_seq_region ?_
  refine sr_x rfl (wtd_none rfl) rfl (Rd.x (x_move rfl)) ?_
  refine sr_x rfl (wtd_none rfl) rfl (Rd.x (x_lenSlice Try.underlying58 rfl)) ?_
  refine sr_cmp rfl (wtd_none rfl) rfl (Rd.x (x_gt rfl rfl)) (fun h1 => ?_) (fun h1 => ?_)
  · refine sr_nil ?_
    refine aw_keep (keep_cons (t := 0) rfl (keep_cons (t := 2) rfl (keep_cons (t := 5) rfl keep_nil))) ?_
    refine aw_true rfl ?_
    refine aw_seq_region ?_
    refine sr_x rfl (wtd_none rfl) rfl (Rd.x (x_move rfl)) ?_
    refine sr_x rfl (wtd_none rfl) rfl (Rd.x (x_sliceHi Try.underlying58 sz66 rfl rfl (by omega) (by omega))) ?_
    refine sr_x rfl (wtd_none rfl) rfl (Rd.x (x_assign rfl)) ?_
    refine sr_nil ?_
    refine aw_keep (keep_cons (t := 0) rfl (keep_cons (t := 2) rfl keep_nil)) ?_
    refine aw_ret ?_
    show ∃ v H2, ResV _ _ _ _ _ _ v ∧ Sub H2 _ ∧ _
    exact ⟨_, H, resV rfl (.cons rfl .nil), (by repeat (first | exact Sub.refl _ | apply Sub.drop)), ⟨by simp only [pack, List.length_take]; congr 1; omega, rfl⟩⟩
  · refine sr_nil ?_
    refine aw_keep (keep_cons (t := 0) rfl (keep_cons (t := 2) rfl (keep_cons (t := 5) rfl keep_nil))) ?_
    refine aw_false rfl ?_
    refine aw_skip ?_
    show AW _ _ _ _ _ _ _
    refine aw_seq_region ?_
    refine sr_x rfl (wtd_none rfl) rfl (Rd.x (x_move rfl)) ?_
    refine sr_x rfl (wtd_none rfl) rfl (Rd.x (x_assign rfl)) ?_
    refine sr_nil ?_
    refine aw_keep (keep_cons (t := 2) rfl keep_nil) ?_
    refine aw_ret ?_
    show ∃ v H2, ResV _ _ _ _ _ _ v ∧ Sub H2 _ ∧ _
    exact ⟨_, H, resV rfl (.cons rfl .nil), (by repeat (first | exact Sub.refl _ | apply Sub.drop)), ⟨by simp only [pack, List.length_take]; congr 1; omega, rfl⟩⟩
set_option maxRecDepth 100000 in
set_option maxHeartbeats 400000 in
theorem same14_s (a b : Option Addr) (ca cb : Nat) (xs : List Choice) (H : SHeap) (ha : SlV W0 H 2 Choice.cells a ca xs) (hb : SlV W0 H 2 Choice.cells b cb xs) : AC Try.prog W0 48 [.slice a xs.length ca, .slice b xs.length cb] H (fun v H' => v = .bool true ∧ H' = H) := by
  have hla := ha.le
  have hlb := hb.le
  have hca := ha.capb
  have hcb := hb.capb
  refine ac_of Try.func48 rfl rfl rfl ?_
  refine aw_seq_region ?_
  refine sr_x rfl (wtd_none rfl) rfl (Rd.x (x_assign rfl)) ?_
  refine sr_nil ?_
  refine aw_keep (keep_cons (t := 0) rfl (keep_cons (t := 1) rfl (keep_cons (t := 4) rfl keep_nil))) ?_
  refine aw_seq ?_
  refine aw_seq_region ?_
  refine sr_x rfl (wtd_none rfl) rfl (Rd.x (x_move rfl)) ?_
  refine sr_x rfl (wtd_none rfl) rfl (Rd.x (x_lenSlice Try.underlying61 rfl)) ?_
  refine sr_x rfl (wtd_none rfl) rfl (Rd.x (x_move rfl)) ?_
  refine sr_x rfl (wtd_none rfl) rfl (Rd.x (x_lenSlice Try.underlying61 rfl)) ?_
  refine sr_cmp rfl (wtd_none rfl) rfl (Rd.x (x_ne rfl rfl)) (fun h1 => absurd h1 (by first | omega | decide)) (fun h1 => ?_)
  refine sr_nil ?_
  refine aw_keep (keep_cons (t := 0) rfl (keep_cons (t := 1) rfl (keep_cons (t := 4) rfl (keep_cons (t := 10) rfl keep_nil)))) ?_
  refine aw_false rfl ?_
  refine aw_skip ?_
  show AW _ _ _ _ _ _ _
  refine aw_seq ?_
  refine aw_seq_region ?_
  refine sr_x rfl (wtd_none rfl) rfl (Rd.x (x_assign rfl)) ?_
  refine sr_nil ?_
  refine aw_keep (keep_cons (t := 0) rfl (keep_cons (t := 1) rfl (keep_cons (t := 4) rfl (keep_cons (t := 5) rfl keep_nil)))) ?_
  refine aw_block ?_
  refine aw_loop (ι := Nat) (fun k => k ≤ xs.length) (fun k => [(0, .slice a xs.length ca), (1, .slice b xs.length cb), (4, .bool false), (5, .int .i64 k)]) (fun _ => H) (fun k => xs.length - k) 0 (Nat.zero_le _) (by (repeat (first | exact keep_nil | refine keep_cons rfl ?_)); first | done | fail) (by repeat (first | exact Sub.refl _ | apply Sub.drop)) ?_
  intro k hk
  refine aw_seq ?_
  refine aw_seq_region ?_
  refine sr_x rfl (wtd_none rfl) rfl (Rd.x (x_move rfl)) ?_
  refine sr_x rfl (wtd_none rfl) rfl (Rd.x (x_move rfl)) ?_
  refine sr_x rfl (wtd_none rfl) rfl (Rd.x (x_lenSlice Try.underlying61 rfl)) ?_
  refine sr_cmp rfl (wtd_none rfl) rfl (Rd.x (x_lt rfl rfl)) (fun h2 => ?_) (fun h2 => ?_)
  · refine sr_nil ?_
    refine aw_keep (keep_cons (t := 0) rfl (keep_cons (t := 1) rfl (keep_cons (t := 4) rfl (keep_cons (t := 5) rfl (keep_cons (t := 11) rfl (keep_cons (t := 12) rfl (keep_cons (t := 13) rfl (keep_cons (t := 14) rfl keep_nil)))))))) ?_
    refine aw_true rfl ?_
    refine aw_skip ?_
    show AW _ _ _ _ _ _ _
    refine aw_seq ?_
    refine aw_block ?_
    refine aw_seq_dr ⟨_, 9, 26, [[], [], [0, 1], [0, 1, 2], [], [], [4, 5], [4, 5, 6], [0, 1, 2, 3, 4, 5, 6, 7]], [.light, .light, .light, .mem, .light, .light, .light, .mem, .light]⟩ (by kernel_rfl) rfl rfl mix ?_
    obtain ⟨j, hj⟩ := get_ex (show k < xs.length by omega)
    obtain ⟨bj, oj, haj, hcj⟩ := ha.at_ k _ hj
    obtain ⟨bj', oj', haj', hcj'⟩ := hb.at_ k _ hj
    refine dr_light rfl rfl (wtd_none rfl) (x_move rfl) ?_
    refine dr_light rfl rfl (wtd_none rfl) (x_move rfl) ?_
    refine dr_light rfl rfl (wtd_none rfl) (x_indexAddrN (k) Try.underlying61 sz80 rfl haj rfl (by omega) (by omega)) ?_
    refine dr_mem0 rfl rfl (wtd_none rfl) (x_loadN ag80 sz80 rfl hcj rfl) ?_
    refine dr_light rfl rfl (wtd_none rfl) (x_move rfl) ?_
    refine dr_light rfl rfl (wtd_none rfl) (x_move rfl) ?_
    refine dr_light rfl rfl (wtd_none rfl) (x_indexAddrN (k) Try.underlying61 sz80 rfl haj' rfl (by omega) (by omega)) ?_
    refine dr_mem0 rfl rfl (wtd_none rfl) (x_loadN ag80 sz80 rfl hcj' rfl) ?_
    refine dr_cmp rfl rfl (wtd_none rfl) (x_neStruct Try.underlying80 ks80 rfl rfl rfl rfl rfl) (fun h3 => absurd h3 (by simp [eqC, sEq])) (fun h3 => ?_)
    refine dr_nil0 ?_
    refine aw_keep (keep_cons (t := 0) rfl (keep_cons (t := 1) rfl (keep_cons (t := 4) rfl (keep_cons (t := 5) rfl (keep_cons (t := 11) rfl (keep_cons (t := 12) rfl (keep_cons (t := 13) rfl (keep_cons (t := 14) rfl (keep_cons (t := 17) rfl (keep_cons (t := 18) rfl (keep_cons (t := 19) rfl (keep_cons (t := 20) rfl (keep_cons (t := 21) rfl (keep_cons (t := 22) rfl (keep_cons (t := 23) rfl (keep_cons (t := 24) rfl (keep_cons (t := 25) rfl keep_nil))))))))))))))))) ?_
    refine aw_false rfl ?_
    refine aw_skip ?_
    show AW _ _ _ _ _ _ _
    refine aw_region ?_
    refine sr_x rfl (wtd_none rfl) rfl (Rd.x (x_move rfl)) ?_
    refine sr_x rfl (wtd_none rfl) rfl (Rd.x (x_add' rfl rfl (i64w (by omega) (by omega)))) ?_
    refine sr_x rfl (wtd_none rfl) rfl (Rd.x (x_assign rfl)) ?_
    refine sr_nil ?_
    show ∃ s', _ ∧ _ ∧ _ ∧ _
    exact ⟨k + 1, by omega, by omega, (by (repeat (first | exact keep_nil | refine keep_cons rfl ?_)); first | done | fail), (by repeat (first | exact Sub.refl _ | apply Sub.drop))⟩
  · refine sr_nil ?_
    refine aw_keep (keep_cons (t := 0) rfl (keep_cons (t := 1) rfl (keep_cons (t := 4) rfl (keep_cons (t := 5) rfl (keep_cons (t := 11) rfl (keep_cons (t := 12) rfl (keep_cons (t := 13) rfl (keep_cons (t := 14) rfl keep_nil)))))))) ?_
    refine aw_false rfl ?_
    refine aw_exit ?_
    show AW _ _ _ _ _ _ _
    refine aw_seq_region ?_
    refine sr_x rfl (wtd_none rfl) rfl (Rd.x (x_assign rfl)) ?_
    refine sr_nil ?_
    refine aw_keep (keep_cons (t := 4) rfl keep_nil) ?_
    refine aw_ret ?_
    show ∃ v H2, ResV _ _ _ _ _ _ v ∧ Sub H2 _ ∧ _
    exact ⟨_, H, resV rfl (.cons rfl .nil), (by repeat (first | exact Sub.refl _ | apply Sub.drop)), ⟨rfl, rfl⟩⟩
set_option maxRecDepth 100000 in
set_option maxHeartbeats 400000 in
theorem made14N_s (n : Int) (sa : Option Addr) (scap : Nat) (sps : List PSpan) (hs0 : ∀ G, SlV W0 G 3 PSpan.cells sa scap sps) (G : SHeap) (hn : ¬ (0 ≤ n ∧ n ≤ 64)) : AC Try.prog W0 43 [.int .i64 n, .slice sa sps.length scap] G (fun v H' => v = .tuple #[.pointer none, .pointer none] ∧ H' = G) := by
  refine ac_of Try.func43 rfl rfl rfl ?_
  refine aw_seq_region ?_
  refine sr_x rfl (wtd_none rfl) rfl (Rd.x (x_assign rfl)) ?_
  refine sr_x rfl (wtd_none rfl) rfl (Rd.x (x_assign rfl)) ?_
  refine sr_nil ?_
  refine aw_keep (keep_cons (t := 0) rfl (keep_cons (t := 1) rfl (keep_cons (t := 4) rfl (keep_cons (t := 5) rfl keep_nil)))) ?_
  refine aw_seq_region ?_
  refine sr_x rfl (wtd_none rfl) rfl (Rd.x (x_move rfl)) ?_
  refine sr_d rfl (wtd_none rfl) rfl (opS_call rfl rfl rfl rfl cl26 (pnewBad_s n _ hn)) ?_
  rintro _ G ⟨rfl, rfl⟩
  refine sr_x rfl (wtd_none rfl) rfl (Rd.x (x_move rfl)) ?_
  refine sr_x rfl (wtd_none rfl) rfl (Rd.x (x_extract rfl rfl)) ?_
  refine sr_x rfl (wtd_none rfl) rfl (Rd.x (x_extract rfl rfl)) ?_
  refine sr_x rfl (wtd_none rfl) rfl (Rd.x (x_assign rfl)) ?_
  refine sr_x rfl (wtd_none rfl) rfl (Rd.x (x_assign rfl)) ?_
  refine sr_nil ?_
  refine aw_keep (keep_cons (t := 0) rfl (keep_cons (t := 1) rfl (keep_cons (t := 4) rfl (keep_cons (t := 5) rfl (keep_cons (t := 6) rfl (keep_cons (t := 7) rfl keep_nil)))))) ?_
  refine aw_seq ?_
  refine aw_seq_region ?_
  refine sr_x rfl (wtd_none rfl) rfl (Rd.x (x_move rfl)) ?_
  refine sr_cmp rfl (wtd_none rfl) rfl (Rd.x (x_ne rfl rfl)) (fun h1 => ?_) (fun h1 => absurd (by first | omega | decide) h1)
  refine sr_x rfl (wtd_none rfl) rfl (Rd.x (x_move rfl)) ?_
  refine sr_skip rfl (wtd_no rfl rfl rfl rfl) rfl ?_
  refine sr_skip rfl (wtd_no rfl rfl rfl rfl) rfl ?_
  refine sr_x rfl (wtd_none rfl) rfl (Rd.x (x_pick_t rfl rfl rfl)) ?_
  refine sr_nil ?_
  refine aw_keep (keep_cons (t := 0) rfl (keep_cons (t := 1) rfl (keep_cons (t := 4) rfl (keep_cons (t := 5) rfl (keep_cons (t := 6) rfl (keep_cons (t := 20) rfl keep_nil)))))) ?_
  refine aw_true rfl ?_
  refine aw_seq_region ?_
  refine sr_x rfl (wtd_none rfl) rfl (Rd.x (x_assign rfl)) ?_
  refine sr_x rfl (wtd_none rfl) rfl (Rd.x (x_assign rfl)) ?_
  refine sr_nil ?_
  refine aw_keep (keep_cons (t := 0) rfl (keep_cons (t := 1) rfl (keep_cons (t := 4) rfl (keep_cons (t := 5) rfl (keep_cons (t := 6) rfl keep_nil))))) ?_
  refine aw_ret ?_
  show ∃ v H2, ResV _ _ _ _ _ _ v ∧ Sub H2 _ ∧ _
  exact ⟨_, G, resV rfl (.cons rfl (.cons rfl .nil)), (by repeat (first | exact Sub.refl _ | apply Sub.drop)), ⟨rfl, rfl⟩⟩
set_option maxRecDepth 100000 in
set_option maxHeartbeats 4000000 in
theorem made14_s (n : Int) (sa : Option Addr) (scap : Nat) (sps : List PSpan) (hs0 : ∀ G, SlV W0 G 3 PSpan.cells sa scap sps) (G : SHeap) (hn : 0 ≤ n ∧ n ≤ 64) : AC Try.prog W0 43 [.int .i64 n, .slice sa sps.length scap] G (fun v H' => ∃ p q, ∃ (S1 : List PStep) (now1 : Int) (L1 : List PSpan) (ver1 : Int) (a1 : Option Addr) (c1 : Nat) (E1 : SHeap) (b1 : Option Addr) (d1 : Nat) (EL1 : SHeap), v = .tuple #[.pointer (some ⟨p, 0, none⟩), .pointer (some ⟨q, 0, none⟩)] ∧ StP S1 now1 n L1 ver1 16 ∧ OffVec 2 76 (.slice a1 S1.length c1) S1.length (S1.flatMap PStep.cells) E1 ∧ OwnVec 3 55 (.slice b1 L1.length d1) L1.length (L1.flatMap PSpan.cells) EL1 ∧ H' = (prB p (.slice a1 S1.length c1) ver1 :: (E1 ++ (plB q n now1 (.slice b1 L1.length d1) ver1 :: (EL1 ++ G))))) := by
  have hle := (hs0 []).le
  have hcb := (hs0 []).capb
  refine ac_of Try.func43 rfl rfl rfl ?_
  refine aw_seq_region ?_
  refine sr_x rfl (wtd_none rfl) rfl (Rd.x (x_assign rfl)) ?_
  refine sr_x rfl (wtd_none rfl) rfl (Rd.x (x_assign rfl)) ?_
  refine sr_nil ?_
  refine aw_keep (keep_cons (t := 0) rfl (keep_cons (t := 1) rfl (keep_cons (t := 4) rfl (keep_cons (t := 5) rfl keep_nil)))) ?_
  refine aw_seq_region ?_
  refine sr_x rfl (wtd_none rfl) rfl (Rd.x (x_move rfl)) ?_
  refine sr_d rfl (wtd_none rfl) rfl (opS_call rfl rfl rfl rfl cl26 (pnew_s n _ hn)) ?_
  rintro _ _ ⟨p, r, rfl, V0, rfl⟩
  refine sr_x rfl (wtd_none rfl) rfl (Rd.x (x_move rfl)) ?_
  refine sr_x rfl (wtd_none rfl) rfl (Rd.x (x_extract rfl rfl)) ?_
  refine sr_x rfl (wtd_none rfl) rfl (Rd.x (x_extract rfl rfl)) ?_
  refine sr_x rfl (wtd_none rfl) rfl (Rd.x (x_assign rfl)) ?_
  refine sr_x rfl (wtd_none rfl) rfl (Rd.x (x_assign rfl)) ?_
  refine sr_nil ?_
  refine aw_keep (keep_cons (t := 0) rfl (keep_cons (t := 1) rfl (keep_cons (t := 4) rfl (keep_cons (t := 5) rfl (keep_cons (t := 6) rfl (keep_cons (t := 7) rfl keep_nil)))))) ?_
  refine aw_seq ?_
  refine aw_seq_region ?_
  refine sr_x rfl (wtd_none rfl) rfl (Rd.x (x_move rfl)) ?_
  refine sr_cmp rfl (wtd_none rfl) rfl (Rd.x (x_ne rfl rfl)) (fun h1 => absurd h1 (by first | omega | decide)) (fun h1 => ?_)
  refine sr_x rfl (wtd_none rfl) rfl (Rd.x (x_move rfl)) ?_
  refine sr_x rfl (wtd_yes rfl rfl rfl) rfl (Rd.x (x_move rfl)) ?_
  refine sr_x rfl (wtd_yes rfl rfl rfl) rfl (Rd.x (x_eqnil Try.underlying23 rfl rfl)) ?_
  refine sr_x rfl (wtd_none rfl) rfl (Rd.x (x_pick_f rfl rfl rfl)) ?_
  refine sr_nil ?_
  refine aw_keep (keep_cons (t := 0) rfl (keep_cons (t := 1) rfl (keep_cons (t := 4) rfl (keep_cons (t := 5) rfl (keep_cons (t := 6) rfl (keep_cons (t := 20) rfl keep_nil)))))) ?_
  refine aw_false rfl ?_
  refine aw_skip ?_
  show AW _ _ _ _ _ _ _
  refine aw_seq_region ?_
  refine sr_x rfl (wtd_none rfl) rfl (Rd.x (x_move rfl)) ?_
  refine sr_x rfl (wtd_none rfl) rfl (Rd.x (x_build zr36 rfl fl36 (by repeat (first | exact Parts.nil | (apply Parts.cons; rfl))) (by repeat (first | exact Fill.done | (apply Fill.part; rfl; rfl; rfl; focus (repeat (first | exact Spl.done | exact Spl.all rfl | apply Spl.put | apply Spl.skip))))))) ?_
  refine sr_new rfl (wtd_none rfl) rfl (x_box rfl rfl) ?_
  intro r4_2 hr4_2 gr4_2
  refine sr_x rfl (wtd_none rfl) rfl (Rd.x (x_assign rfl)) ?_
  refine sr_nil ?_
  refine aw_keep (keep_cons (t := 1) rfl (keep_cons (t := 4) rfl (keep_cons (t := 5) rfl (keep_cons (t := 6) rfl (keep_cons (t := 8) rfl keep_nil))))) ?_
  refine aw_seq ?_
  refine aw_seq_region ?_
  refine sr_x rfl (wtd_none rfl) rfl (Rd.x (x_assign rfl)) ?_
  refine sr_nil ?_
  refine aw_keep (keep_cons (t := 1) rfl (keep_cons (t := 4) rfl (keep_cons (t := 5) rfl (keep_cons (t := 6) rfl (keep_cons (t := 8) rfl (keep_cons (t := 9) rfl keep_nil)))))) ?_
  refine aw_block ?_
  refine aw_loop (ι := P5) (fun s => s.k ≤ sps.length ∧ s.k ≤ 15 ∧ StP s.S s.now n s.L s.ver s.k ∧ OffVec 2 76 (.slice s.a s.S.length s.c) s.S.length (s.S.flatMap PStep.cells) s.E ∧ OwnVec 3 55 (.slice s.b s.L.length s.d) s.L.length (s.L.flatMap PSpan.cells) s.EL) (fun s => [(1, .slice sa sps.length scap), (4, .pointer none), (5, .pointer none), (6, .pointer (some ⟨p, 0, none⟩)), (8, .pointer (some ⟨r4_2, 0, none⟩)), (9, .int .i64 s.k)]) (fun s => (prB p (.slice s.a s.S.length s.c) s.ver :: (s.E ++ (plB r4_2 n s.now (.slice s.b s.L.length s.d) s.ver :: (s.EL ++ G))))) (fun s => sps.length - s.k) ⟨0, [⟨0, n⟩], some ⟨r, 0, none⟩, 1, [(r, .cells (PStep.cells ⟨0, n⟩).toArray 76 (0, 0))], 0, [], none, 0, [], 0⟩ (⟨Nat.zero_le _, Nat.zero_le _, StP.new hn, V0, .nil⟩) (by (repeat (first | exact keep_nil | refine keep_cons rfl ?_)); first | done | fail) Sub.autoP ?_
  intro s9 hs9
  obtain ⟨k, S, a1, c1, E, now, L, b1, d1, EL, ver⟩ := s9
  dsimp only at hs9 ⊢
  obtain ⟨hk, hk3, hst, V, VL⟩ := hs9
  have hvr := hst.vr
  have hln := hst.ln
  have hsl := hst.sl
  refine aw_seq ?_
  refine aw_seq_region ?_
  refine sr_x rfl (wtd_none rfl) rfl (Rd.x (x_move rfl)) ?_
  refine sr_x rfl (wtd_none rfl) rfl (Rd.x (x_move rfl)) ?_
  refine sr_x rfl (wtd_none rfl) rfl (Rd.x (x_lenSlice Try.underlying34 rfl)) ?_
  refine sr_cmp rfl (wtd_none rfl) rfl (Rd.x (x_lt rfl rfl)) (fun h2 => ?_) (fun h2 => ?_)
  · refine sr_x rfl (wtd_none rfl) rfl (Rd.x (x_move rfl)) ?_
    refine sr_x rfl (wtd_yes rfl rfl rfl) rfl (Rd.x (x_move rfl)) ?_
    refine sr_cmp rfl (wtd_yes rfl rfl rfl) rfl (Rd.x (x_lt rfl rfl)) (fun h3 => ?_) (fun h3 => ?_)
    · refine sr_x rfl (wtd_none rfl) rfl (Rd.x (x_pick_t rfl rfl rfl)) ?_
      refine sr_nil ?_
      refine aw_keep (keep_cons (t := 1) rfl (keep_cons (t := 4) rfl (keep_cons (t := 5) rfl (keep_cons (t := 6) rfl (keep_cons (t := 8) rfl (keep_cons (t := 9) rfl (keep_cons (t := 24) rfl (keep_cons (t := 25) rfl (keep_cons (t := 26) rfl (keep_cons (t := 27) rfl (keep_cons (t := 28) rfl (keep_cons (t := 29) rfl (keep_cons (t := 30) rfl (keep_cons (t := 31) rfl keep_nil)))))))))))))) ?_
      refine aw_true rfl ?_
      refine aw_skip ?_
      show AW _ _ _ _ _ _ _
      refine aw_seq ?_
      refine aw_block ?_
      refine aw_seq_region ?_
      obtain ⟨o, ho⟩ := get_ex (show k < sps.length by omega)
      obtain ⟨bo, oo, hao, hco⟩ := (hs0 []).at_ _ _ ho
      refine sr_x rfl (wtd_none rfl) rfl (Rd.x (x_move rfl)) ?_
      refine sr_x rfl (wtd_none rfl) rfl (Rd.x (x_move rfl)) ?_
      refine sr_x rfl (wtd_none rfl) rfl (Rd.x (x_indexAddrN (k) Try.underlying34 sz55 rfl hao rfl (by omega) (by omega))) ?_
      refine sr_x rfl (wtd_none rfl) rfl (Rd.x (x_fieldAddr fd55_2 rfl)) ?_
      refine sr_x rfl (wtd_none rfl) rfl (Rd.x (x_load ag3 rfl (cells_get (Cells.mono hco (Sub.nil _)) 2 rfl))) ?_
      refine sr_cmp rfl (wtd_none rfl) rfl (Rd.x (x_ge rfl rfl)) (fun h4 => ?_) (fun h4 => ?_)
      · refine sr_x rfl (wtd_none rfl) rfl (Rd.x (x_move rfl)) ?_
        refine sr_x rfl (wtd_yes rfl rfl rfl) rfl (Rd.x (x_move rfl)) ?_
        refine sr_x rfl (wtd_yes rfl rfl rfl) rfl (Rd.x (x_move rfl)) ?_
        refine sr_x rfl (wtd_yes rfl rfl rfl) rfl (Rd.x (x_indexAddrN (k) Try.underlying34 sz55 rfl hao rfl (by omega) (by omega))) ?_
        refine sr_x rfl (wtd_yes rfl rfl rfl) rfl (Rd.x (x_fieldAddr fd55_2 rfl)) ?_
        refine sr_x rfl (wtd_yes rfl rfl rfl) rfl (Rd.x (x_load ag3 rfl (cells_get (Cells.mono hco (Sub.nil _)) 2 rfl))) ?_
        refine sr_cmp rfl (wtd_yes rfl rfl rfl) rfl (Rd.x (x_le rfl rfl)) (fun h5 => ?_) (fun h5 => ?_)
        · refine sr_x rfl (wtd_none rfl) rfl (Rd.x (x_pick_t rfl rfl rfl)) ?_
          refine sr_nil ?_
          refine aw_keep (keep_cons (t := 1) rfl (keep_cons (t := 4) rfl (keep_cons (t := 5) rfl (keep_cons (t := 6) rfl (keep_cons (t := 8) rfl (keep_cons (t := 9) rfl (keep_cons (t := 24) rfl (keep_cons (t := 25) rfl (keep_cons (t := 26) rfl (keep_cons (t := 27) rfl (keep_cons (t := 28) rfl (keep_cons (t := 29) rfl (keep_cons (t := 30) rfl (keep_cons (t := 31) rfl (keep_cons (t := 34) rfl (keep_cons (t := 35) rfl (keep_cons (t := 36) rfl (keep_cons (t := 37) rfl (keep_cons (t := 38) rfl (keep_cons (t := 39) rfl (keep_cons (t := 40) rfl (keep_cons (t := 41) rfl (keep_cons (t := 42) rfl (keep_cons (t := 43) rfl (keep_cons (t := 44) rfl (keep_cons (t := 45) rfl (keep_cons (t := 46) rfl (keep_cons (t := 47) rfl keep_nil)))))))))))))))))))))))))))) ?_
          refine aw_true rfl ?_
          refine aw_seq_region ?_
          refine sr_x rfl (wtd_none rfl) rfl (Rd.x (x_move rfl)) ?_
          refine sr_x rfl (wtd_none rfl) rfl (Rd.x (x_move rfl)) ?_
          refine sr_x rfl (wtd_none rfl) rfl (Rd.x (x_move rfl)) ?_
          refine sr_x rfl (wtd_none rfl) rfl (Rd.x (x_indexAddrN (k) Try.underlying34 sz55 rfl hao rfl (by omega) (by omega))) ?_
          refine sr_x rfl (wtd_none rfl) rfl (Rd.x (x_loadN ag55 sz55 rfl (Cells.mono hco (Sub.nil _)) rfl)) ?_
          refine sr_d rfl (wtd_none rfl) rfl (opS_call rfl rfl rfl rfl cl40 (AC.sub Sub.autoP (pres_s p a1 c1 S.length S ver E (plB r4_2 n now (.slice b1 L.length d1) ver :: (EL ++ G)) V rfl (by omega) now (atP n L) hst.rep hst.rng (by omega) (by omega) o (by omega)))) ?_
          rintro _ _ ⟨e, ch, S2, a2, c2, E2, rfl, hC1, hR1, hl1, V2, rfl⟩
          refine sr_nil ?_
          refine aw_keep (keep_cons (t := 1) rfl (keep_cons (t := 4) rfl (keep_cons (t := 5) rfl (keep_cons (t := 6) rfl (keep_cons (t := 8) rfl (keep_cons (t := 9) rfl (keep_cons (t := 24) rfl (keep_cons (t := 25) rfl (keep_cons (t := 26) rfl (keep_cons (t := 27) rfl (keep_cons (t := 28) rfl (keep_cons (t := 29) rfl (keep_cons (t := 30) rfl (keep_cons (t := 31) rfl (keep_cons (t := 34) rfl (keep_cons (t := 35) rfl (keep_cons (t := 36) rfl (keep_cons (t := 37) rfl (keep_cons (t := 38) rfl (keep_cons (t := 39) rfl (keep_cons (t := 40) rfl (keep_cons (t := 41) rfl (keep_cons (t := 42) rfl (keep_cons (t := 43) rfl (keep_cons (t := 44) rfl (keep_cons (t := 45) rfl (keep_cons (t := 46) rfl (keep_cons (t := 47) rfl (keep_cons (t := 48) rfl (keep_cons (t := 49) rfl (keep_cons (t := 50) rfl (keep_cons (t := 51) rfl (keep_cons (t := 52) rfl keep_nil))))))))))))))))))))))))))))))))) ?_
          refine aw_dr ⟨_, 18, 74, [[], [], [], [1, 2], [1, 2, 3], [1, 2, 3, 4], [], [], [6, 7], [6, 7, 8], [6, 7, 8, 9], [], [], [11, 12], [11, 12, 13], [11, 12, 13, 14], [11, 12, 13, 14, 15], [0, 1, 2, 3, 4, 5, 6, 7, 8, 9, 10, 11, 12, 13, 14, 15, 16]], [.light, .light, .light, .light, .light, .mem, .light, .light, .light, .light, .mem, .light, .light, .light, .light, .mem, .light, .eff]⟩ (by kernel_rfl) rfl rfl mix ?_
          refine dr_light rfl rfl (wtd_none rfl) (x_move rfl) ?_
          refine dr_light rfl rfl (wtd_none rfl) (x_move rfl) ?_
          refine dr_light rfl rfl (wtd_none rfl) (x_move rfl) ?_
          refine dr_light rfl rfl (wtd_none rfl) (x_indexAddrN (k) Try.underlying34 sz55 rfl hao rfl (by omega) (by omega)) ?_
          refine dr_light rfl rfl (wtd_none rfl) (x_fieldAddr fd55_0 rfl) ?_
          refine dr_mem0 rfl rfl (wtd_none rfl) (x_load ag2 rfl (cells_get (Cells.mono hco (Sub.nil _)) 0 rfl)) ?_
          refine dr_light rfl rfl (wtd_none rfl) (x_move rfl) ?_
          refine dr_light rfl rfl (wtd_none rfl) (x_move rfl) ?_
          refine dr_light rfl rfl (wtd_none rfl) (x_indexAddrN (k) Try.underlying34 sz55 rfl hao rfl (by omega) (by omega)) ?_
          refine dr_light rfl rfl (wtd_none rfl) (x_fieldAddr fd55_1 rfl) ?_
          refine dr_mem0 rfl rfl (wtd_none rfl) (x_load ag2 rfl (cells_get (Cells.mono hco (Sub.nil _)) 1 rfl)) ?_
          refine dr_light rfl rfl (wtd_none rfl) (x_move rfl) ?_
          refine dr_light rfl rfl (wtd_none rfl) (x_move rfl) ?_
          refine dr_light rfl rfl (wtd_none rfl) (x_indexAddrN (k) Try.underlying34 sz55 rfl hao rfl (by omega) (by omega)) ?_
          refine dr_light rfl rfl (wtd_none rfl) (x_fieldAddr fd55_2 rfl) ?_
          refine dr_mem0 rfl rfl (wtd_none rfl) (x_load ag3 rfl (cells_get (Cells.mono hco (Sub.nil _)) 2 rfl)) ?_
          refine dr_light rfl rfl (wtd_none rfl) (x_neg' rfl (i64w (by omega) (by omega))) ?_
          refine dr_effC rfl (V := []) rfl (L' := []) (clear_all rfl) rfl (wtd_none rfl) rfl rfl rfl rfl cl86 (AC.sub Sub.autoP (qadd_s r4_2 n now b1 d1 L ver EL (prB p (.slice a2 S2.length c2) (if ch = true then ver + 1 else ver) :: (E2 ++ G)) VL hst.ok hst.fr (by omega) hst.nw hst.rng (by omega) o.from_ o.to_ (0 - o.width))) ?_
          rintro _ _ ⟨e2, ch2, L2, b2, d2, EL2, rfl, hC2, hL2, VL2, rfl⟩
          obtain ⟨rfl, rfl⟩ := hC1.uniq hC2
          refine dr_nil0 ?_
          show AW _ _ _ _ _ _ _
          refine aw_region ?_
          refine sr_x rfl (wtd_none rfl) rfl (Rd.x (x_move rfl)) ?_
          refine sr_x rfl (wtd_none rfl) rfl (Rd.x (x_add' rfl rfl (i64w (by omega) (by omega)))) ?_
          refine sr_x rfl (wtd_none rfl) rfl (Rd.x (x_assign rfl)) ?_
          refine sr_nil ?_
          show ∃ s', _ ∧ _ ∧ _ ∧ _
          first | exact ⟨⟨k + 1, S2, a2, c2, E2, now, L2, b2, d2, EL2, (if ch = true then ver + 1 else ver)⟩, ⟨by dsimp only; omega, by dsimp only; omega, hst.add hC1 hR1 hl1 hL2, V2, VL2⟩, by dsimp only; omega, (by (repeat (first | exact keep_nil | refine keep_cons rfl ?_)); first | done | fail), Sub.autoD⟩ | exact ⟨⟨k + 1, S, a1, c1, E, now, L, b1, d1, EL, ver⟩, ⟨by dsimp only; omega, by dsimp only; omega, hst.weak, V, VL⟩, by dsimp only; omega, (by (repeat (first | exact keep_nil | refine keep_cons rfl ?_)); first | done | fail), Sub.autoD⟩
        · refine sr_x rfl (wtd_none rfl) rfl (Rd.x (x_pick_t rfl rfl rfl)) ?_
          refine sr_nil ?_
          refine aw_keep (keep_cons (t := 1) rfl (keep_cons (t := 4) rfl (keep_cons (t := 5) rfl (keep_cons (t := 6) rfl (keep_cons (t := 8) rfl (keep_cons (t := 9) rfl (keep_cons (t := 24) rfl (keep_cons (t := 25) rfl (keep_cons (t := 26) rfl (keep_cons (t := 27) rfl (keep_cons (t := 28) rfl (keep_cons (t := 29) rfl (keep_cons (t := 30) rfl (keep_cons (t := 31) rfl (keep_cons (t := 34) rfl (keep_cons (t := 35) rfl (keep_cons (t := 36) rfl (keep_cons (t := 37) rfl (keep_cons (t := 38) rfl (keep_cons (t := 39) rfl (keep_cons (t := 40) rfl (keep_cons (t := 41) rfl (keep_cons (t := 42) rfl (keep_cons (t := 43) rfl (keep_cons (t := 44) rfl (keep_cons (t := 45) rfl (keep_cons (t := 46) rfl (keep_cons (t := 47) rfl keep_nil)))))))))))))))))))))))))))) ?_
          refine aw_false rfl ?_
          refine aw_skip ?_
          show AW _ _ _ _ _ _ _
          refine aw_region ?_
          refine sr_x rfl (wtd_none rfl) rfl (Rd.x (x_move rfl)) ?_
          refine sr_x rfl (wtd_none rfl) rfl (Rd.x (x_add' rfl rfl (i64w (by omega) (by omega)))) ?_
          refine sr_x rfl (wtd_none rfl) rfl (Rd.x (x_assign rfl)) ?_
          refine sr_nil ?_
          show ∃ s', _ ∧ _ ∧ _ ∧ _
          first | exact ⟨⟨k + 1, S2, a2, c2, E2, now, L2, b2, d2, EL2, (if ch = true then ver + 1 else ver)⟩, ⟨by dsimp only; omega, by dsimp only; omega, hst.add hC1 hR1 hl1 hL2, V2, VL2⟩, by dsimp only; omega, (by (repeat (first | exact keep_nil | refine keep_cons rfl ?_)); first | done | fail), Sub.autoD⟩ | exact ⟨⟨k + 1, S, a1, c1, E, now, L, b1, d1, EL, ver⟩, ⟨by dsimp only; omega, by dsimp only; omega, hst.weak, V, VL⟩, by dsimp only; omega, (by (repeat (first | exact keep_nil | refine keep_cons rfl ?_)); first | done | fail), Sub.autoD⟩
      · refine sr_x rfl (wtd_none rfl) rfl (Rd.x (x_move rfl)) ?_
        refine sr_skip rfl (wtd_no rfl rfl rfl rfl) rfl ?_
        refine sr_skip rfl (wtd_no rfl rfl rfl rfl) rfl ?_
        refine sr_skip rfl (wtd_no rfl rfl rfl rfl) rfl ?_
        refine sr_skip rfl (wtd_no rfl rfl rfl rfl) rfl ?_
        refine sr_skip rfl (wtd_no rfl rfl rfl rfl) rfl ?_
        refine sr_skip rfl (wtd_no rfl rfl rfl rfl) rfl ?_
        refine sr_x rfl (wtd_none rfl) rfl (Rd.x (x_pick_f rfl rfl rfl)) ?_
        refine sr_nil ?_
        refine aw_keep (keep_cons (t := 1) rfl (keep_cons (t := 4) rfl (keep_cons (t := 5) rfl (keep_cons (t := 6) rfl (keep_cons (t := 8) rfl (keep_cons (t := 9) rfl (keep_cons (t := 24) rfl (keep_cons (t := 25) rfl (keep_cons (t := 26) rfl (keep_cons (t := 27) rfl (keep_cons (t := 28) rfl (keep_cons (t := 29) rfl (keep_cons (t := 30) rfl (keep_cons (t := 31) rfl (keep_cons (t := 34) rfl (keep_cons (t := 35) rfl (keep_cons (t := 36) rfl (keep_cons (t := 37) rfl (keep_cons (t := 38) rfl (keep_cons (t := 39) rfl (keep_cons (t := 40) rfl (keep_cons (t := 41) rfl (keep_cons (t := 42) rfl (keep_cons (t := 43) rfl (keep_cons (t := 44) rfl (keep_cons (t := 45) rfl (keep_cons (t := 46) rfl (keep_cons (t := 47) rfl keep_nil)))))))))))))))))))))))))))) ?_
        refine aw_false rfl ?_
        refine aw_skip ?_
        show AW _ _ _ _ _ _ _
        refine aw_region ?_
        refine sr_x rfl (wtd_none rfl) rfl (Rd.x (x_move rfl)) ?_
        refine sr_x rfl (wtd_none rfl) rfl (Rd.x (x_add' rfl rfl (i64w (by omega) (by omega)))) ?_
        refine sr_x rfl (wtd_none rfl) rfl (Rd.x (x_assign rfl)) ?_
        refine sr_nil ?_
        show ∃ s', _ ∧ _ ∧ _ ∧ _
        first | exact ⟨⟨k + 1, S2, a2, c2, E2, now, L2, b2, d2, EL2, (if ch = true then ver + 1 else ver)⟩, ⟨by dsimp only; omega, by dsimp only; omega, hst.add hC1 hR1 hl1 hL2, V2, VL2⟩, by dsimp only; omega, (by (repeat (first | exact keep_nil | refine keep_cons rfl ?_)); first | done | fail), Sub.autoD⟩ | exact ⟨⟨k + 1, S, a1, c1, E, now, L, b1, d1, EL, ver⟩, ⟨by dsimp only; omega, by dsimp only; omega, hst.weak, V, VL⟩, by dsimp only; omega, (by (repeat (first | exact keep_nil | refine keep_cons rfl ?_)); first | done | fail), Sub.autoD⟩
    · refine sr_x rfl (wtd_none rfl) rfl (Rd.x (x_pick_t rfl rfl rfl)) ?_
      refine sr_nil ?_
      refine aw_keep (keep_cons (t := 1) rfl (keep_cons (t := 4) rfl (keep_cons (t := 5) rfl (keep_cons (t := 6) rfl (keep_cons (t := 8) rfl (keep_cons (t := 9) rfl (keep_cons (t := 24) rfl (keep_cons (t := 25) rfl (keep_cons (t := 26) rfl (keep_cons (t := 27) rfl (keep_cons (t := 28) rfl (keep_cons (t := 29) rfl (keep_cons (t := 30) rfl (keep_cons (t := 31) rfl keep_nil)))))))))))))) ?_
      refine aw_false rfl ?_
      refine aw_exit ?_
      show AW _ _ _ _ _ _ _
      refine aw_seq_region ?_
      refine sr_x rfl (wtd_none rfl) rfl (Rd.x (x_move rfl)) ?_
      refine sr_x rfl (wtd_none rfl) rfl (Rd.x (x_move rfl)) ?_
      refine sr_x rfl (wtd_none rfl) rfl (Rd.x (x_assign rfl)) ?_
      refine sr_x rfl (wtd_none rfl) rfl (Rd.x (x_assign rfl)) ?_
      refine sr_nil ?_
      refine aw_keep (keep_cons (t := 4) rfl (keep_cons (t := 5) rfl keep_nil)) ?_
      refine aw_ret ?_
      show ∃ v H2, ResV _ _ _ _ _ _ v ∧ Sub H2 _ ∧ _
      exact ⟨_, (prB p (.slice a1 S.length c1) ver :: (E ++ (plB r4_2 n now (.slice b1 L.length d1) ver :: (EL ++ G)))), resV rfl (.cons rfl (.cons rfl .nil)), Sub.autoP, p, r4_2, S, now, L, ver, a1, c1, E, b1, d1, EL, rfl, hst.mono (by omega), V, VL, rfl⟩
  · refine sr_x rfl (wtd_none rfl) rfl (Rd.x (x_move rfl)) ?_
    refine sr_skip rfl (wtd_no rfl rfl rfl rfl) rfl ?_
    refine sr_skip rfl (wtd_no rfl rfl rfl rfl) rfl ?_
    refine sr_x rfl (wtd_none rfl) rfl (Rd.x (x_pick_f rfl rfl rfl)) ?_
    refine sr_nil ?_
    refine aw_keep (keep_cons (t := 1) rfl (keep_cons (t := 4) rfl (keep_cons (t := 5) rfl (keep_cons (t := 6) rfl (keep_cons (t := 8) rfl (keep_cons (t := 9) rfl (keep_cons (t := 24) rfl (keep_cons (t := 25) rfl (keep_cons (t := 26) rfl (keep_cons (t := 27) rfl (keep_cons (t := 28) rfl (keep_cons (t := 29) rfl (keep_cons (t := 30) rfl (keep_cons (t := 31) rfl keep_nil)))))))))))))) ?_
    refine aw_false rfl ?_
    refine aw_exit ?_
    show AW _ _ _ _ _ _ _
    refine aw_seq_region ?_
    refine sr_x rfl (wtd_none rfl) rfl (Rd.x (x_move rfl)) ?_
    refine sr_x rfl (wtd_none rfl) rfl (Rd.x (x_move rfl)) ?_
    refine sr_x rfl (wtd_none rfl) rfl (Rd.x (x_assign rfl)) ?_
    refine sr_x rfl (wtd_none rfl) rfl (Rd.x (x_assign rfl)) ?_
    refine sr_nil ?_
    refine aw_keep (keep_cons (t := 4) rfl (keep_cons (t := 5) rfl keep_nil)) ?_
    refine aw_ret ?_
    show ∃ v H2, ResV _ _ _ _ _ _ v ∧ Sub H2 _ ∧ _
    exact ⟨_, (prB p (.slice a1 S.length c1) ver :: (E ++ (plB r4_2 n now (.slice b1 L.length d1) ver :: (EL ++ G)))), resV rfl (.cons rfl (.cons rfl .nil)), Sub.autoP, p, r4_2, S, now, L, ver, a1, c1, E, b1, d1, EL, rfl, hst.mono (by omega), V, VL, rfl⟩
set_option maxRecDepth 100000 in
set_option maxHeartbeats 8000000 in
theorem planned_s (q : Nat) (free now : Int) (b : Option Addr) (d : Nat) (L : List PSpan) (ver : Int) (EL G : SHeap) (VL : OwnVec 3 55 (.slice b L.length d) L.length (L.flatMap PSpan.cells) EL) (f0 : Int → Int) (hst0 : RfS now free f0 L ver 100) (ai : Option Addr) (ci : Nat) (xs : List Item) (hi : ∀ G, SlV W0 G 4 Item.cells ai ci xs) (hok : ∀ x ∈ xs, RightI x) (hxl : xs.length ≤ 64) : AC Try.prog W0 49 [.pointer (some ⟨q, 0, none⟩), .slice ai xs.length ci] (plB q free now (.slice b L.length d) ver :: (EL ++ G)) (fun v H' => ∃ (cs : List Choice) (f' : Int → Int) (L' : List PSpan) (ver' : Int) (b' : Option Addr) (d' : Nat) (EL' : SHeap) (ao : Option Addr) (co : Nat) (EO : SHeap), v = .slice ao cs.length co ∧ PlanK now xs xs.length f0 cs f' ∧ OwnVec 2 80 (.slice ao cs.length co) cs.length (cs.flatMap Choice.cells) EO ∧ cs.length ≤ 64 ∧ H' = (plB q free now (.slice b' L'.length d') ver' :: (EL' ++ (EO ++ G)))) := by
  have hil := (hi []).le
  have hic := (hi []).capb
  refine ac_of Try.func49 rfl rfl rfl ?_
  refine aw_seq_region ?_
  refine sr_x rfl (wtd_none rfl) rfl (Rd.x (x_assign rfl)) ?_
  refine sr_nil ?_
  refine aw_keep (keep_cons (t := 0) rfl (keep_cons (t := 1) rfl (keep_cons (t := 4) rfl keep_nil))) ?_
  refine aw_seq_region ?_
  refine sr_x rfl (wtd_none rfl) rfl (Rd.x (x_assign rfl)) ?_
  refine sr_nil ?_
  refine aw_keep (keep_cons (t := 0) rfl (keep_cons (t := 1) rfl (keep_cons (t := 4) rfl (keep_cons (t := 5) rfl keep_nil)))) ?_
  refine aw_seq ?_
  refine aw_seq_region ?_
  refine sr_x rfl (wtd_none rfl) rfl (Rd.x (x_assign rfl)) ?_
  refine sr_nil ?_
  refine aw_keep (keep_cons (t := 0) rfl (keep_cons (t := 1) rfl (keep_cons (t := 4) rfl (keep_cons (t := 5) rfl (keep_cons (t := 6) rfl keep_nil))))) ?_
  refine aw_block ?_
  refine aw_loop (ι := RkP) (fun s => s.k ≤ xs.length ∧ PlanK now xs s.k f0 s.cs s.f ∧ RfS now free s.f s.L s.ver (100 + 2 * s.k) ∧ s.cs.length ≤ s.k ∧ OwnVec 3 55 (.slice s.b s.L.length s.d) s.L.length (s.L.flatMap PSpan.cells) s.EL ∧ OwnVec 2 80 (.slice s.ao s.cs.length s.co) s.cs.length (s.cs.flatMap Choice.cells) s.EO) (fun s => [(0, .pointer (some ⟨q, 0, none⟩)), (1, .slice ai xs.length ci), (4, .slice none 0 0), (5, .slice s.ao s.cs.length s.co), (6, .int .i64 s.k)]) (fun s => (plB q free now (.slice s.b s.L.length s.d) s.ver :: (s.EL ++ (s.EO ++ G)))) (fun s => xs.length - s.k) ⟨0, f0, [], L, b, d, EL, ver, none, 0, []⟩ (⟨Nat.zero_le _, ⟨rfl, rfl⟩, hst0, Nat.le_refl _, VL, .nil⟩) (by (repeat (first | exact keep_nil | refine keep_cons rfl ?_)); first | done | fail) Sub.autoP ?_
  intro s9 hs9
  obtain ⟨k, f, cs, L, b, d, EL, ver, ao, co, EO⟩ := s9
  dsimp only at hs9 ⊢
  obtain ⟨hk, hpl, hst, hcl, VL, VO⟩ := hs9
  have hvr := hst.vr
  have hln := hst.ln
  have hnw := hst.nw
  refine aw_seq ?_
  refine aw_seq_region ?_
  refine sr_x rfl (wtd_none rfl) rfl (Rd.x (x_move rfl)) ?_
  refine sr_x rfl (wtd_none rfl) rfl (Rd.x (x_move rfl)) ?_
  refine sr_x rfl (wtd_none rfl) rfl (Rd.x (x_lenSlice Try.underlying58 rfl)) ?_
  refine sr_cmp rfl (wtd_none rfl) rfl (Rd.x (x_lt rfl rfl)) (fun h1 => ?_) (fun h1 => ?_)
  · refine sr_nil ?_
    refine aw_keep (keep_cons (t := 0) rfl (keep_cons (t := 1) rfl (keep_cons (t := 4) rfl (keep_cons (t := 5) rfl (keep_cons (t := 6) rfl (keep_cons (t := 10) rfl (keep_cons (t := 11) rfl (keep_cons (t := 12) rfl (keep_cons (t := 13) rfl keep_nil))))))))) ?_
    refine aw_true rfl ?_
    refine aw_skip ?_
    show AW _ _ _ _ _ _ _
    refine aw_seq ?_
    refine aw_block ?_
    refine aw_seq_region ?_
    obtain ⟨x, hx⟩ := get_ex (show k < xs.length by omega)
    obtain ⟨bx, ox, hax, hcx⟩ := (hi []).at_ _ _ hx
    have hxx := hok x (List.mem_of_getElem? hx)
    unfold RightI at hxx
    refine sr_x rfl (wtd_none rfl) rfl (Rd.x (x_move rfl)) ?_
    refine sr_x rfl (wtd_none rfl) rfl (Rd.x (x_move rfl)) ?_
    refine sr_x rfl (wtd_none rfl) rfl (Rd.x (x_indexAddrN (k) Try.underlying58 sz66 rfl hax rfl (by omega) (by omega))) ?_
    refine sr_x rfl (wtd_none rfl) rfl (Rd.x (x_loadN ag66 sz66 rfl (Cells.mono hcx (Sub.nil _)) rfl)) ?_
    refine sr_new rfl (wtd_none rfl) rfl (x_alloc zr66 rfl) ?_
    intro r5_4 hr5_4 gr5_4
    refine sr_x0 rfl (wtd_none rfl) (x_store sz66 rfl rfl rfl rfl rfl (by repeat (first | exact Repl.here | apply Repl.there | apply Repl.app)) (by repeat (first | exact Spl.done | exact Spl.all rfl | apply Spl.put | apply Spl.skip))) ?_
    refine sr_nil ?_
    refine aw_keep (keep_cons (t := 0) rfl (keep_cons (t := 1) rfl (keep_cons (t := 4) rfl (keep_cons (t := 5) rfl (keep_cons (t := 6) rfl (keep_cons (t := 7) rfl (keep_cons (t := 10) rfl (keep_cons (t := 11) rfl (keep_cons (t := 12) rfl (keep_cons (t := 13) rfl (keep_cons (t := 16) rfl (keep_cons (t := 17) rfl (keep_cons (t := 18) rfl (keep_cons (t := 19) rfl keep_nil)))))))))))))) ?_
    refine aw_seq ?_
    refine aw_seq_region ?_
    refine sr_x rfl (wtd_none rfl) rfl (Rd.x (x_fieldAddr fd66_3 rfl)) ?_
    refine sr_x rfl (wtd_none rfl) rfl (Rd.x (x_load ag2 rfl (cells_ext (by repeat (first | exact List.mem_cons_self | apply List.mem_cons_of_mem | apply List.mem_append_right)) (by repeat (first | exact Ext.all _ | exact Ext.done | apply Ext.take | apply Ext.skip))))) ?_
    refine sr_cmp rfl (wtd_none rfl) rfl (Rd.x (x_ge rfl rfl)) (fun h2 => ?_) (fun h2 => ?_)
    · refine sr_x rfl (wtd_none rfl) rfl (Rd.x (x_move rfl)) ?_
      refine sr_x rfl (wtd_yes rfl rfl rfl) rfl (Rd.x (x_move rfl)) ?_
      refine sr_x rfl (wtd_yes rfl rfl rfl) rfl (Rd.x (x_fieldAddr fd66_3 rfl)) ?_
      refine sr_x rfl (wtd_yes rfl rfl rfl) rfl (Rd.x (x_load ag2 rfl (cells_ext (by repeat (first | exact List.mem_cons_self | apply List.mem_cons_of_mem | apply List.mem_append_right)) (by repeat (first | exact Ext.all _ | exact Ext.done | apply Ext.take | apply Ext.skip))))) ?_
      refine sr_x rfl (wtd_yes rfl rfl rfl) rfl (Rd.x (x_fieldAddr fd66_3 rfl)) ?_
      refine sr_x rfl (wtd_yes rfl rfl rfl) rfl (Rd.x (x_load ag2 rfl (cells_ext (by repeat (first | exact List.mem_cons_self | apply List.mem_cons_of_mem | apply List.mem_append_right)) (by repeat (first | exact Ext.all _ | exact Ext.done | apply Ext.take | apply Ext.skip))))) ?_
      refine sr_x rfl (wtd_yes rfl rfl rfl) rfl (Rd.x (x_fieldAddr fd66_2 rfl)) ?_
      refine sr_x rfl (wtd_yes rfl rfl rfl) rfl (Rd.x (x_load ag2 rfl (cells_ext (by repeat (first | exact List.mem_cons_self | apply List.mem_cons_of_mem | apply List.mem_append_right)) (by repeat (first | exact Ext.all _ | exact Ext.done | apply Ext.take | apply Ext.skip))))) ?_
      refine sr_x rfl (wtd_yes rfl rfl rfl) rfl (Rd.x (x_add' rfl rfl (i64w (by omega) (by omega)))) ?_
      refine sr_x rfl (wtd_yes rfl rfl rfl) rfl (Rd.x (x_fieldAddr fd66_1 rfl)) ?_
      refine sr_x rfl (wtd_yes rfl rfl rfl) rfl (Rd.x (x_load ag3 rfl (cells_ext (by repeat (first | exact List.mem_cons_self | apply List.mem_cons_of_mem | apply List.mem_append_right)) (by repeat (first | exact Ext.all _ | exact Ext.done | apply Ext.take | apply Ext.skip))))) ?_
      refine sr_d rfl (wtd_yes rfl rfl rfl) rfl (opS_call rfl rfl rfl rfl cl86 (AC.sub Sub.autoP (qadd_s q free now b d L ver EL ((r5_4, .cells (Item.cells x).toArray 66 (0, 0)) :: (EO ++ G)) VL hst.ok hst.fr (by omega) hst.nw hst.rng (by omega) x.plan (x.plan + x.limit) x.width))) ?_
      rintro _ _ ⟨e1, c1, L1, b1, d1, EL1, rfl, hC1, hL1, VL1, rfl⟩
      obtain ⟨hs1, hA1⟩ := hst.add (by omega) hC1 hL1
      have hvr1 := hs1.vr
      have hln1 := hs1.ln
      refine sr_cmp rfl (wtd_yes rfl rfl rfl) rfl (Rd.x (x_ne rfl rfl)) (fun h3 => ?_) (fun h3 => ?_)
      · refine sr_x rfl (wtd_none rfl) rfl (Rd.x (x_pick_t rfl rfl rfl)) ?_
        refine sr_nil ?_
        refine aw_keep (keep_cons (t := 0) rfl (keep_cons (t := 1) rfl (keep_cons (t := 4) rfl (keep_cons (t := 5) rfl (keep_cons (t := 6) rfl (keep_cons (t := 7) rfl (keep_cons (t := 10) rfl (keep_cons (t := 11) rfl (keep_cons (t := 12) rfl (keep_cons (t := 13) rfl (keep_cons (t := 16) rfl (keep_cons (t := 17) rfl (keep_cons (t := 18) rfl (keep_cons (t := 19) rfl (keep_cons (t := 20) rfl (keep_cons (t := 21) rfl (keep_cons (t := 22) rfl (keep_cons (t := 23) rfl (keep_cons (t := 24) rfl (keep_cons (t := 25) rfl (keep_cons (t := 26) rfl (keep_cons (t := 27) rfl (keep_cons (t := 28) rfl (keep_cons (t := 29) rfl (keep_cons (t := 30) rfl (keep_cons (t := 31) rfl (keep_cons (t := 32) rfl (keep_cons (t := 33) rfl (keep_cons (t := 34) rfl (keep_cons (t := 35) rfl (keep_cons (t := 36) rfl keep_nil))))))))))))))))))))))))))))))) ?_
        refine aw_true rfl ?_
        refine aw_exit ?_
        show AW _ _ _ _ _ _ _
        refine aw_region ?_
        refine sr_x rfl (wtd_none rfl) rfl (Rd.x (x_move rfl)) ?_
        refine sr_x rfl (wtd_none rfl) rfl (Rd.x (x_add' rfl rfl (i64w (by omega) (by omega)))) ?_
        refine sr_x rfl (wtd_none rfl) rfl (Rd.x (x_assign rfl)) ?_
        refine sr_nil ?_
        show ∃ s', _ ∧ _ ∧ _ ∧ _
        first | exact ⟨⟨k + 1, f, cs, L, b, d, EL, ver, ao, co, EO⟩, ⟨by dsimp only; omega, ⟨x, cs, f, none, hx, hpl, .free (by omega) hE (by omega), by simp⟩, hst.mono (by dsimp only; omega), by (try rw [List.length_append]); (try simp); omega, VL, VO⟩, by dsimp only; omega, (by (try rw [List.length_append]); exact (by (repeat (first | exact keep_nil | refine keep_cons rfl ?_)); first | done | fail)), Sub.autoD⟩ | (obtain rfl : c1 = false := addC_bad hA1 (by assumption)); exact ⟨⟨k + 1, f, cs, L1, b1, d1, EL1, ver, ao, co, EO⟩, ⟨by dsimp only; omega, ⟨x, cs, f, none, hx, hpl, .stuck (by omega) hA1 (by assumption), by simp⟩, hs1.mono (by dsimp only; omega), by (try rw [List.length_append]); (try simp); omega, VL1, VO⟩, by dsimp only; omega, (by (try rw [List.length_append]); exact (by (repeat (first | exact keep_nil | refine keep_cons rfl ?_)); first | done | fail)), Sub.autoD⟩ | exact ⟨⟨k + 1, (aft c2 (aft c1 f (addF f now x.plan (x.plan + x.limit) x.width)) (addF (aft c1 f (addF f now x.plan (x.plan + x.limit) x.width)) now x.plan (x.plan + x.limit) (0 - x.width))), cs, L2, b2, d2, EL2, (if c2 = true then (if c1 = true then ver + 1 else ver) + 1 else (if c1 = true then ver + 1 else ver)), ao, co, EO⟩, ⟨by dsimp only; omega, ⟨x, cs, f, none, hx, hpl, .keep (by omega) hA1 hE (by omega) hA2, by simp⟩, hs2.mono (by dsimp only; omega), by (try rw [List.length_append]); (try simp); omega, VL2, VO⟩, by dsimp only; omega, (by (try rw [List.length_append]); exact (by (repeat (first | exact keep_nil | refine keep_cons rfl ?_)); first | done | fail)), Sub.autoD⟩ | exact ⟨⟨k + 1, (aft c2 (aft c1 f (addF f now x.plan (x.plan + x.limit) x.width)) (addF (aft c1 f (addF f now x.plan (x.plan + x.limit) x.width)) now t (t + x.limit) (0 - x.width))), (cs ++ [⟨x.id, t⟩]), L2, b2, d2, EL2, (if c2 = true then (if c1 = true then ver + 1 else ver) + 1 else (if c1 = true then ver + 1 else ver)), a79, cap79, E79⟩, ⟨by dsimp only; omega, ⟨x, cs, f, (some ⟨x.id, t⟩), hx, hpl, .move (by omega) hA1 hE (by omega) hA2, by simp⟩, hs2.mono (by dsimp only; omega), by (try rw [List.length_append]); (try simp); omega, VL2, OwnVec.snocS hV79⟩, by dsimp only; omega, (by (try rw [List.length_append]); exact (by (repeat (first | exact keep_nil | refine keep_cons rfl ?_)); first | done | fail)), Sub.autoD⟩ | exact ⟨⟨k + 1, (aft c2 f (addF f now t (t + x.limit) (0 - x.width))), (cs ++ [⟨x.id, t⟩]), L2, b2, d2, EL2, (if c2 = true then ver + 1 else ver), a79, cap79, E79⟩, ⟨by dsimp only; omega, ⟨x, cs, f, (some ⟨x.id, t⟩), hx, hpl, .take (by omega) hE hA2, by simp⟩, hs2.mono (by dsimp only; omega), by (try rw [List.length_append]); (try simp); omega, VL2, OwnVec.snocS hV79⟩, by dsimp only; omega, (by (try rw [List.length_append]); exact (by (repeat (first | exact keep_nil | refine keep_cons rfl ?_)); first | done | fail)), Sub.autoD⟩
      · refine sr_x rfl (wtd_none rfl) rfl (Rd.x (x_pick_t rfl rfl rfl)) ?_
        refine sr_nil ?_
        refine aw_keep (keep_cons (t := 0) rfl (keep_cons (t := 1) rfl (keep_cons (t := 4) rfl (keep_cons (t := 5) rfl (keep_cons (t := 6) rfl (keep_cons (t := 7) rfl (keep_cons (t := 10) rfl (keep_cons (t := 11) rfl (keep_cons (t := 12) rfl (keep_cons (t := 13) rfl (keep_cons (t := 16) rfl (keep_cons (t := 17) rfl (keep_cons (t := 18) rfl (keep_cons (t := 19) rfl (keep_cons (t := 20) rfl (keep_cons (t := 21) rfl (keep_cons (t := 22) rfl (keep_cons (t := 23) rfl (keep_cons (t := 24) rfl (keep_cons (t := 25) rfl (keep_cons (t := 26) rfl (keep_cons (t := 27) rfl (keep_cons (t := 28) rfl (keep_cons (t := 29) rfl (keep_cons (t := 30) rfl (keep_cons (t := 31) rfl (keep_cons (t := 32) rfl (keep_cons (t := 33) rfl (keep_cons (t := 34) rfl (keep_cons (t := 35) rfl (keep_cons (t := 36) rfl keep_nil))))))))))))))))))))))))))))))) ?_
        refine aw_false rfl ?_
        refine aw_skip ?_
        show AW _ _ _ _ _ _ _
        refine aw_seq_dr ⟨_, 15, 96, [[], [], [1], [1, 2], [1, 2, 3], [], [5], [], [7], [0, 1, 2, 3, 4, 5, 6, 7, 8], [0, 1, 2, 3, 4, 5, 6, 7, 8, 9], [0, 1, 2, 3, 4, 5, 6, 7, 8, 9, 10], [0, 1, 2, 3, 4, 5, 6, 7, 8, 9, 10], [0, 1, 2, 3, 4, 5, 6, 7, 8, 9, 10, 11], [0, 1, 2, 3, 4, 5, 6, 7, 8, 9, 10, 11, 12, 13]], [.light, .light, .light, .light, .mem, .light, .mem, .light, .mem, .eff, .light, .light, .light, .light, .light]⟩ (by kernel_rfl) rfl rfl mix ?_
        first | obtain rfl : e1 = 0 := by omega | skip
        refine dr_light rfl rfl (wtd_none rfl) (x_move rfl) ?_
        refine dr_light rfl rfl (wtd_none rfl) (x_move rfl) ?_
        refine dr_light rfl rfl (wtd_none rfl) (x_nilCheck rfl) ?_
        refine dr_light rfl rfl (wtd_none rfl) (x_fieldAddr fd36_1 rfl) ?_
        refine dr_mem0 rfl rfl (wtd_none rfl) (x_load ag2 rfl (cells_ext (by repeat (first | exact List.mem_cons_self | apply List.mem_cons_of_mem | apply List.mem_append_right)) (by repeat (first | exact Ext.all _ | exact Ext.done | apply Ext.take | apply Ext.skip)))) ?_
        refine dr_light rfl rfl (wtd_none rfl) (x_fieldAddr fd66_2 rfl) ?_
        refine dr_mem0 rfl rfl (wtd_none rfl) (x_load ag2 rfl (cells_ext (by repeat (first | exact List.mem_cons_self | apply List.mem_cons_of_mem | apply List.mem_append_right)) (by repeat (first | exact Ext.all _ | exact Ext.done | apply Ext.take | apply Ext.skip)))) ?_
        refine dr_light rfl rfl (wtd_none rfl) (x_fieldAddr fd66_1 rfl) ?_
        refine dr_mem0 rfl rfl (wtd_none rfl) (x_load ag3 rfl (cells_ext (by repeat (first | exact List.mem_cons_self | apply List.mem_cons_of_mem | apply List.mem_append_right)) (by repeat (first | exact Ext.all _ | exact Ext.done | apply Ext.take | apply Ext.skip)))) ?_
        refine dr_effC rfl (V := []) rfl (L' := []) (clear_all rfl) rfl (wtd_none rfl) rfl rfl rfl rfl cl25 (qear_s q free now b1 d1 L1 (if c1 = true then ver + 1 else ver) _ (cells_ext (by repeat (first | exact List.mem_cons_self | apply List.mem_cons_of_mem | apply List.mem_append_right)) (by repeat (first | exact Ext.all _ | exact Ext.done | apply Ext.take | apply Ext.skip))) ((VL1.slv' (fun _ => rfl) rfl (Sub.refl _)).mono (Sub.takeE0 (by repeat (first | exact TakeE.here | apply TakeE.there | apply TakeE.app)))) hs1.ok hs1.fr (by omega) hs1.nw now x.limit x.width) ?_
        rintro _ _ ⟨⟨t, e, rfl, hE0⟩, rfl⟩
        have hE := hE0.congr hs1.eq
        refine dr_light rfl rfl (wtd_none rfl) (x_move rfl) ?_
        refine dr_light rfl rfl (wtd_none rfl) (x_extract rfl rfl) ?_
        refine dr_light rfl rfl (wtd_none rfl) (x_extract rfl rfl) ?_
        refine dr_light rfl rfl (wtd_none rfl) (x_assign rfl) ?_
        refine dr_light rfl rfl (wtd_none rfl) (x_assign rfl) ?_
        refine dr_nil0 ?_
        refine aw_keep (keep_cons (t := 0) rfl (keep_cons (t := 1) rfl (keep_cons (t := 4) rfl (keep_cons (t := 5) rfl (keep_cons (t := 6) rfl (keep_cons (t := 7) rfl (keep_cons (t := 8) rfl (keep_cons (t := 9) rfl (keep_cons (t := 10) rfl (keep_cons (t := 11) rfl (keep_cons (t := 12) rfl (keep_cons (t := 13) rfl (keep_cons (t := 16) rfl (keep_cons (t := 17) rfl (keep_cons (t := 18) rfl (keep_cons (t := 19) rfl (keep_cons (t := 20) rfl (keep_cons (t := 21) rfl (keep_cons (t := 22) rfl (keep_cons (t := 23) rfl (keep_cons (t := 24) rfl (keep_cons (t := 25) rfl (keep_cons (t := 26) rfl (keep_cons (t := 27) rfl (keep_cons (t := 28) rfl (keep_cons (t := 29) rfl (keep_cons (t := 30) rfl (keep_cons (t := 31) rfl (keep_cons (t := 32) rfl (keep_cons (t := 33) rfl (keep_cons (t := 34) rfl (keep_cons (t := 35) rfl (keep_cons (t := 36) rfl (keep_cons (t := 37) rfl (keep_cons (t := 38) rfl (keep_cons (t := 39) rfl (keep_cons (t := 40) rfl (keep_cons (t := 41) rfl (keep_cons (t := 42) rfl (keep_cons (t := 43) rfl (keep_cons (t := 44) rfl (keep_cons (t := 45) rfl (keep_cons (t := 46) rfl (keep_cons (t := 47) rfl (keep_cons (t := 48) rfl (keep_cons (t := 49) rfl keep_nil)))))))))))))))))))))))))))))))))))))))))))))) ?_
        refine aw_seq_region ?_
        refine sr_x rfl (wtd_none rfl) rfl (Rd.x (x_move rfl)) ?_
        refine sr_cmp rfl (wtd_none rfl) rfl (Rd.x (x_eq rfl rfl)) (fun h4 => ?_) (fun h4 => ?_)
        · refine sr_x rfl (wtd_none rfl) rfl (Rd.x (x_move rfl)) ?_
          refine sr_x rfl (wtd_yes rfl rfl rfl) rfl (Rd.x (x_fieldAddr fd66_3 rfl)) ?_
          refine sr_x rfl (wtd_yes rfl rfl rfl) rfl (Rd.x (x_load ag2 rfl (cells_ext (by repeat (first | exact List.mem_cons_self | apply List.mem_cons_of_mem | apply List.mem_append_right)) (by repeat (first | exact Ext.all _ | exact Ext.done | apply Ext.take | apply Ext.skip))))) ?_
          refine sr_cmp rfl (wtd_yes rfl rfl rfl) rfl (Rd.x (x_lt rfl rfl)) (fun h5 => absurd h5 (by first | omega | decide)) (fun h5 => ?_)
          refine sr_x rfl (wtd_yes rfl rfl rfl) rfl (Rd.x (x_move rfl)) ?_
          refine sr_x rfl (wtd_yes rfl rfl rfl) rfl (Rd.x (x_move rfl)) ?_
          refine sr_x rfl (wtd_yes rfl rfl rfl) rfl (Rd.x (x_fieldAddr fd66_3 rfl)) ?_
          refine sr_x rfl (wtd_yes rfl rfl rfl) rfl (Rd.x (x_load ag2 rfl (cells_ext (by repeat (first | exact List.mem_cons_self | apply List.mem_cons_of_mem | apply List.mem_append_right)) (by repeat (first | exact Ext.all _ | exact Ext.done | apply Ext.take | apply Ext.skip))))) ?_
          refine sr_cmp rfl (wtd_yes rfl rfl rfl) rfl (Rd.x (x_lt rfl rfl)) (fun h6 => ?_) (fun h6 => ?_)
          · refine sr_x rfl (wtd_yes rfl rfl rfl) rfl (Rd.x (x_pick_f rfl rfl rfl)) ?_
            refine sr_x rfl (wtd_none rfl) rfl (Rd.x (x_pick_t rfl rfl rfl)) ?_
            refine sr_nil ?_
            refine aw_keep (keep_cons (t := 0) rfl (keep_cons (t := 1) rfl (keep_cons (t := 4) rfl (keep_cons (t := 5) rfl (keep_cons (t := 6) rfl (keep_cons (t := 7) rfl (keep_cons (t := 8) rfl (keep_cons (t := 9) rfl (keep_cons (t := 10) rfl (keep_cons (t := 11) rfl (keep_cons (t := 12) rfl (keep_cons (t := 13) rfl (keep_cons (t := 16) rfl (keep_cons (t := 17) rfl (keep_cons (t := 18) rfl (keep_cons (t := 19) rfl (keep_cons (t := 20) rfl (keep_cons (t := 21) rfl (keep_cons (t := 22) rfl (keep_cons (t := 23) rfl (keep_cons (t := 24) rfl (keep_cons (t := 25) rfl (keep_cons (t := 26) rfl (keep_cons (t := 27) rfl (keep_cons (t := 28) rfl (keep_cons (t := 29) rfl (keep_cons (t := 30) rfl (keep_cons (t := 31) rfl (keep_cons (t := 32) rfl (keep_cons (t := 33) rfl (keep_cons (t := 34) rfl (keep_cons (t := 35) rfl (keep_cons (t := 36) rfl (keep_cons (t := 37) rfl (keep_cons (t := 38) rfl (keep_cons (t := 39) rfl (keep_cons (t := 40) rfl (keep_cons (t := 41) rfl (keep_cons (t := 42) rfl (keep_cons (t := 43) rfl (keep_cons (t := 44) rfl (keep_cons (t := 45) rfl (keep_cons (t := 46) rfl (keep_cons (t := 47) rfl (keep_cons (t := 48) rfl (keep_cons (t := 49) rfl (keep_cons (t := 50) rfl (keep_cons (t := 51) rfl (keep_cons (t := 52) rfl (keep_cons (t := 53) rfl (keep_cons (t := 54) rfl (keep_cons (t := 55) rfl (keep_cons (t := 56) rfl (keep_cons (t := 57) rfl (keep_cons (t := 58) rfl (keep_cons (t := 59) rfl (keep_cons (t := 60) rfl (keep_cons (t := 61) rfl (keep_cons (t := 62) rfl keep_nil))))))))))))))))))))))))))))))))))))))))))))))))))))))))))) ?_
            refine aw_true rfl ?_
            refine aw_seq_region ?_
            obtain rfl : e = 0 := by omega
            have htb := ear_bd hE
            refine sr_x rfl (wtd_none rfl) rfl (Rd.x (x_move rfl)) ?_
            refine sr_x rfl (wtd_none rfl) rfl (Rd.x (x_move rfl)) ?_
            refine sr_x rfl (wtd_none rfl) rfl (Rd.x (x_move rfl)) ?_
            refine sr_x rfl (wtd_none rfl) rfl (Rd.x (x_fieldAddr fd66_2 rfl)) ?_
            refine sr_x rfl (wtd_none rfl) rfl (Rd.x (x_load ag2 rfl (cells_ext (by repeat (first | exact List.mem_cons_self | apply List.mem_cons_of_mem | apply List.mem_append_right)) (by repeat (first | exact Ext.all _ | exact Ext.done | apply Ext.take | apply Ext.skip))))) ?_
            refine sr_x rfl (wtd_none rfl) rfl (Rd.x (x_add' rfl rfl (i64w (by omega) (by omega)))) ?_
            refine sr_x rfl (wtd_none rfl) rfl (Rd.x (x_fieldAddr fd66_1 rfl)) ?_
            refine sr_x rfl (wtd_none rfl) rfl (Rd.x (x_load ag3 rfl (cells_ext (by repeat (first | exact List.mem_cons_self | apply List.mem_cons_of_mem | apply List.mem_append_right)) (by repeat (first | exact Ext.all _ | exact Ext.done | apply Ext.take | apply Ext.skip))))) ?_
            refine sr_x rfl (wtd_none rfl) rfl (Rd.x (x_neg' rfl (i64w (by omega) (by omega)))) ?_
            refine sr_d rfl (wtd_none rfl) rfl (opS_call rfl rfl rfl rfl cl86 (AC.sub Sub.autoP (qadd_s q free now b1 d1 L1 (if c1 = true then ver + 1 else ver) EL1 ((r5_4, .cells (Item.cells x).toArray 66 (0, 0)) :: (EO ++ G)) VL1 hs1.ok hs1.fr (by omega) hs1.nw hs1.rng (by omega) t (t + x.limit) (0 - x.width)))) ?_
            rintro _ _ ⟨e2, c2, L2, b2, d2, EL2, rfl, hC2, hL2, VL2, rfl⟩
            obtain ⟨hs2, hA2⟩ := hs1.add (by omega) hC2 hL2
            have hvr2 := hs2.vr
            have hln2 := hs2.ln
            refine sr_nil ?_
            refine aw_keep (keep_cons (t := 0) rfl (keep_cons (t := 1) rfl (keep_cons (t := 4) rfl (keep_cons (t := 5) rfl (keep_cons (t := 6) rfl (keep_cons (t := 7) rfl (keep_cons (t := 8) rfl (keep_cons (t := 9) rfl (keep_cons (t := 10) rfl (keep_cons (t := 11) rfl (keep_cons (t := 12) rfl (keep_cons (t := 13) rfl (keep_cons (t := 16) rfl (keep_cons (t := 17) rfl (keep_cons (t := 18) rfl (keep_cons (t := 19) rfl (keep_cons (t := 20) rfl (keep_cons (t := 21) rfl (keep_cons (t := 22) rfl (keep_cons (t := 23) rfl (keep_cons (t := 24) rfl (keep_cons (t := 25) rfl (keep_cons (t := 26) rfl (keep_cons (t := 27) rfl (keep_cons (t := 28) rfl (keep_cons (t := 29) rfl (keep_cons (t := 30) rfl (keep_cons (t := 31) rfl (keep_cons (t := 32) rfl (keep_cons (t := 33) rfl (keep_cons (t := 34) rfl (keep_cons (t := 35) rfl (keep_cons (t := 36) rfl (keep_cons (t := 37) rfl (keep_cons (t := 38) rfl (keep_cons (t := 39) rfl (keep_cons (t := 40) rfl (keep_cons (t := 41) rfl (keep_cons (t := 42) rfl (keep_cons (t := 43) rfl (keep_cons (t := 44) rfl (keep_cons (t := 45) rfl (keep_cons (t := 46) rfl (keep_cons (t := 47) rfl (keep_cons (t := 48) rfl (keep_cons (t := 49) rfl (keep_cons (t := 50) rfl (keep_cons (t := 51) rfl (keep_cons (t := 52) rfl (keep_cons (t := 53) rfl (keep_cons (t := 54) rfl (keep_cons (t := 55) rfl (keep_cons (t := 56) rfl (keep_cons (t := 57) rfl (keep_cons (t := 58) rfl (keep_cons (t := 59) rfl (keep_cons (t := 60) rfl (keep_cons (t := 61) rfl (keep_cons (t := 62) rfl (keep_cons (t := 63) rfl (keep_cons (t := 64) rfl (keep_cons (t := 65) rfl (keep_cons (t := 66) rfl (keep_cons (t := 67) rfl (keep_cons (t := 68) rfl (keep_cons (t := 69) rfl (keep_cons (t := 70) rfl (keep_cons (t := 71) rfl keep_nil)))))))))))))))))))))))))))))))))))))))))))))))))))))))))))))))))))) ?_
            refine aw_region ?_
            refine sr_x rfl (wtd_none rfl) rfl (Rd.x (x_move rfl)) ?_
            refine sr_x rfl (wtd_none rfl) rfl (Rd.x (x_fieldAddr fd66_0 rfl)) ?_
            refine sr_x rfl (wtd_none rfl) rfl (Rd.x (x_load ag3 rfl (cells_ext (by repeat (first | exact List.mem_cons_self | apply List.mem_cons_of_mem | apply List.mem_append_right)) (by repeat (first | exact Ext.all _ | exact Ext.done | apply Ext.take | apply Ext.skip))))) ?_
            refine sr_x rfl (wtd_none rfl) rfl (Rd.x (x_move rfl)) ?_
            refine sr_x rfl (wtd_none rfl) rfl (Rd.x (x_build zr80 rfl fl80 (by repeat (first | exact Parts.nil | (apply Parts.cons; rfl))) (by repeat (first | exact Fill.done | (apply Fill.part; rfl; rfl; rfl; focus (repeat (first | exact Spl.done | exact Spl.all rfl | apply Spl.put | apply Spl.skip))))))) ?_
            refine sr_new rfl (wtd_none rfl) rfl (x_buildSlice Try.underlying61 sz80 zr80 rfl rfl rfl rfl (by repeat (first | exact Parts.nil | (apply Parts.cons; rfl))) (by repeat (first | exact Fill.done | (apply Fill.part; rfl; rfl; rfl; focus (repeat (first | exact Spl.done | exact Spl.all rfl | apply Spl.put | apply Spl.skip)))))) ?_
            intro r10_5 hr10_5 gr10_5
            refine sr_d rfl (wtd_none rfl) rfl (opS_append (G := (r10_5, .cells (Choice.cells ⟨x.id, t⟩).toArray 80 (0, 0)) :: (r5_4, .cells (Item.cells x).toArray 66 (0, 0)) :: plB q free now (.slice b2 L2.length d2) (if c2 = true then (if c1 = true then ver + 1 else ver) + 1 else (if c1 = true then ver + 1 else ver)) :: (EL2 ++ G)) (N := (Choice.cells ⟨x.id, t⟩)) (m := 1) Try.underlying61 sz80 zr80 rfl by80 rfl rfl VO Sub.autoP (.inr ⟨_, _, rfl, (cells_ext (by repeat (first | exact List.mem_cons_self | apply List.mem_cons_of_mem | apply List.mem_append_right)) (by repeat (first | exact Ext.all _ | exact Ext.done | apply Ext.take | apply Ext.skip)))⟩) (rfl) rfl (by omega) (by omega)) ?_
            rintro v79 _ ⟨E79, hV79, rfl⟩
            obtain ⟨a79, cap79, rfl⟩ := hV79.isSl
            refine sr_x rfl (wtd_none rfl) rfl (Rd.x (x_assign rfl)) ?_
            refine sr_nil ?_
            show AW _ _ _ _ _ _ _
            refine aw_region ?_
            refine sr_x rfl (wtd_none rfl) rfl (Rd.x (x_move rfl)) ?_
            refine sr_x rfl (wtd_none rfl) rfl (Rd.x (x_add' rfl rfl (i64w (by omega) (by omega)))) ?_
            refine sr_x rfl (wtd_none rfl) rfl (Rd.x (x_assign rfl)) ?_
            refine sr_nil ?_
            show ∃ s', _ ∧ _ ∧ _ ∧ _
            first | exact ⟨⟨k + 1, f, cs, L, b, d, EL, ver, ao, co, EO⟩, ⟨by dsimp only; omega, ⟨x, cs, f, none, hx, hpl, .free (by omega) hE (by omega), by simp⟩, hst.mono (by dsimp only; omega), by (try rw [List.length_append]); (try simp); omega, VL, VO⟩, by dsimp only; omega, (by (try rw [List.length_append]); exact (by (repeat (first | exact keep_nil | refine keep_cons rfl ?_)); first | done | fail)), Sub.autoD⟩ | (obtain rfl : c1 = false := addC_bad hA1 (by assumption)); exact ⟨⟨k + 1, f, cs, L1, b1, d1, EL1, ver, ao, co, EO⟩, ⟨by dsimp only; omega, ⟨x, cs, f, none, hx, hpl, .stuck (by omega) hA1 (by assumption), by simp⟩, hs1.mono (by dsimp only; omega), by (try rw [List.length_append]); (try simp); omega, VL1, VO⟩, by dsimp only; omega, (by (try rw [List.length_append]); exact (by (repeat (first | exact keep_nil | refine keep_cons rfl ?_)); first | done | fail)), Sub.autoD⟩ | exact ⟨⟨k + 1, (aft c2 (aft c1 f (addF f now x.plan (x.plan + x.limit) x.width)) (addF (aft c1 f (addF f now x.plan (x.plan + x.limit) x.width)) now x.plan (x.plan + x.limit) (0 - x.width))), cs, L2, b2, d2, EL2, (if c2 = true then (if c1 = true then ver + 1 else ver) + 1 else (if c1 = true then ver + 1 else ver)), ao, co, EO⟩, ⟨by dsimp only; omega, ⟨x, cs, f, none, hx, hpl, .keep (by omega) hA1 hE (by omega) hA2, by simp⟩, hs2.mono (by dsimp only; omega), by (try rw [List.length_append]); (try simp); omega, VL2, VO⟩, by dsimp only; omega, (by (try rw [List.length_append]); exact (by (repeat (first | exact keep_nil | refine keep_cons rfl ?_)); first | done | fail)), Sub.autoD⟩ | exact ⟨⟨k + 1, (aft c2 (aft c1 f (addF f now x.plan (x.plan + x.limit) x.width)) (addF (aft c1 f (addF f now x.plan (x.plan + x.limit) x.width)) now t (t + x.limit) (0 - x.width))), (cs ++ [⟨x.id, t⟩]), L2, b2, d2, EL2, (if c2 = true then (if c1 = true then ver + 1 else ver) + 1 else (if c1 = true then ver + 1 else ver)), a79, cap79, E79⟩, ⟨by dsimp only; omega, ⟨x, cs, f, (some ⟨x.id, t⟩), hx, hpl, .move (by omega) hA1 hE (by omega) hA2, by simp⟩, hs2.mono (by dsimp only; omega), by (try rw [List.length_append]); (try simp); omega, VL2, OwnVec.snocS hV79⟩, by dsimp only; omega, (by (try rw [List.length_append]); exact (by (repeat (first | exact keep_nil | refine keep_cons rfl ?_)); first | done | fail)), Sub.autoD⟩ | exact ⟨⟨k + 1, (aft c2 f (addF f now t (t + x.limit) (0 - x.width))), (cs ++ [⟨x.id, t⟩]), L2, b2, d2, EL2, (if c2 = true then ver + 1 else ver), a79, cap79, E79⟩, ⟨by dsimp only; omega, ⟨x, cs, f, (some ⟨x.id, t⟩), hx, hpl, .take (by omega) hE hA2, by simp⟩, hs2.mono (by dsimp only; omega), by (try rw [List.length_append]); (try simp); omega, VL2, OwnVec.snocS hV79⟩, by dsimp only; omega, (by (try rw [List.length_append]); exact (by (repeat (first | exact keep_nil | refine keep_cons rfl ?_)); first | done | fail)), Sub.autoD⟩
          · refine sr_x rfl (wtd_yes rfl rfl rfl) rfl (Rd.x (x_pick_f rfl rfl rfl)) ?_
            refine sr_x rfl (wtd_none rfl) rfl (Rd.x (x_pick_t rfl rfl rfl)) ?_
            refine sr_nil ?_
            refine aw_keep (keep_cons (t := 0) rfl (keep_cons (t := 1) rfl (keep_cons (t := 4) rfl (keep_cons (t := 5) rfl (keep_cons (t := 6) rfl (keep_cons (t := 7) rfl (keep_cons (t := 8) rfl (keep_cons (t := 9) rfl (keep_cons (t := 10) rfl (keep_cons (t := 11) rfl (keep_cons (t := 12) rfl (keep_cons (t := 13) rfl (keep_cons (t := 16) rfl (keep_cons (t := 17) rfl (keep_cons (t := 18) rfl (keep_cons (t := 19) rfl (keep_cons (t := 20) rfl (keep_cons (t := 21) rfl (keep_cons (t := 22) rfl (keep_cons (t := 23) rfl (keep_cons (t := 24) rfl (keep_cons (t := 25) rfl (keep_cons (t := 26) rfl (keep_cons (t := 27) rfl (keep_cons (t := 28) rfl (keep_cons (t := 29) rfl (keep_cons (t := 30) rfl (keep_cons (t := 31) rfl (keep_cons (t := 32) rfl (keep_cons (t := 33) rfl (keep_cons (t := 34) rfl (keep_cons (t := 35) rfl (keep_cons (t := 36) rfl (keep_cons (t := 37) rfl (keep_cons (t := 38) rfl (keep_cons (t := 39) rfl (keep_cons (t := 40) rfl (keep_cons (t := 41) rfl (keep_cons (t := 42) rfl (keep_cons (t := 43) rfl (keep_cons (t := 44) rfl (keep_cons (t := 45) rfl (keep_cons (t := 46) rfl (keep_cons (t := 47) rfl (keep_cons (t := 48) rfl (keep_cons (t := 49) rfl (keep_cons (t := 50) rfl (keep_cons (t := 51) rfl (keep_cons (t := 52) rfl (keep_cons (t := 53) rfl (keep_cons (t := 54) rfl (keep_cons (t := 55) rfl (keep_cons (t := 56) rfl (keep_cons (t := 57) rfl (keep_cons (t := 58) rfl (keep_cons (t := 59) rfl (keep_cons (t := 60) rfl (keep_cons (t := 61) rfl (keep_cons (t := 62) rfl keep_nil))))))))))))))))))))))))))))))))))))))))))))))))))))))))))) ?_
            refine aw_false rfl ?_
            refine aw_seq_region ?_
            refine sr_x rfl (wtd_none rfl) rfl (Rd.x (x_fieldAddr fd66_3 rfl)) ?_
            refine sr_x rfl (wtd_none rfl) rfl (Rd.x (x_load ag2 rfl (cells_ext (by repeat (first | exact List.mem_cons_self | apply List.mem_cons_of_mem | apply List.mem_append_right)) (by repeat (first | exact Ext.all _ | exact Ext.done | apply Ext.take | apply Ext.skip))))) ?_
            refine sr_cmp rfl (wtd_none rfl) rfl (Rd.x (x_ge rfl rfl)) (fun h7 => ?_) (fun h7 => absurd (by first | omega | decide) h7)
            refine sr_nil ?_
            refine aw_keep (keep_cons (t := 0) rfl (keep_cons (t := 1) rfl (keep_cons (t := 4) rfl (keep_cons (t := 5) rfl (keep_cons (t := 6) rfl (keep_cons (t := 7) rfl (keep_cons (t := 8) rfl (keep_cons (t := 9) rfl (keep_cons (t := 10) rfl (keep_cons (t := 11) rfl (keep_cons (t := 12) rfl (keep_cons (t := 13) rfl (keep_cons (t := 16) rfl (keep_cons (t := 17) rfl (keep_cons (t := 18) rfl (keep_cons (t := 19) rfl (keep_cons (t := 20) rfl (keep_cons (t := 21) rfl (keep_cons (t := 22) rfl (keep_cons (t := 23) rfl (keep_cons (t := 24) rfl (keep_cons (t := 25) rfl (keep_cons (t := 26) rfl (keep_cons (t := 27) rfl (keep_cons (t := 28) rfl (keep_cons (t := 29) rfl (keep_cons (t := 30) rfl (keep_cons (t := 31) rfl (keep_cons (t := 32) rfl (keep_cons (t := 33) rfl (keep_cons (t := 34) rfl (keep_cons (t := 35) rfl (keep_cons (t := 36) rfl (keep_cons (t := 37) rfl (keep_cons (t := 38) rfl (keep_cons (t := 39) rfl (keep_cons (t := 40) rfl (keep_cons (t := 41) rfl (keep_cons (t := 42) rfl (keep_cons (t := 43) rfl (keep_cons (t := 44) rfl (keep_cons (t := 45) rfl (keep_cons (t := 46) rfl (keep_cons (t := 47) rfl (keep_cons (t := 48) rfl (keep_cons (t := 49) rfl (keep_cons (t := 50) rfl (keep_cons (t := 51) rfl (keep_cons (t := 52) rfl (keep_cons (t := 53) rfl (keep_cons (t := 54) rfl (keep_cons (t := 55) rfl (keep_cons (t := 56) rfl (keep_cons (t := 57) rfl (keep_cons (t := 58) rfl (keep_cons (t := 59) rfl (keep_cons (t := 60) rfl (keep_cons (t := 61) rfl (keep_cons (t := 62) rfl (keep_cons (t := 80) rfl (keep_cons (t := 81) rfl (keep_cons (t := 82) rfl keep_nil)))))))))))))))))))))))))))))))))))))))))))))))))))))))))))))) ?_
            refine aw_true rfl ?_
            refine aw_region ?_
            refine sr_x rfl (wtd_none rfl) rfl (Rd.x (x_move rfl)) ?_
            refine sr_x rfl (wtd_none rfl) rfl (Rd.x (x_fieldAddr fd66_3 rfl)) ?_
            refine sr_x rfl (wtd_none rfl) rfl (Rd.x (x_load ag2 rfl (cells_ext (by repeat (first | exact List.mem_cons_self | apply List.mem_cons_of_mem | apply List.mem_append_right)) (by repeat (first | exact Ext.all _ | exact Ext.done | apply Ext.take | apply Ext.skip))))) ?_
            refine sr_x rfl (wtd_none rfl) rfl (Rd.x (x_fieldAddr fd66_3 rfl)) ?_
            refine sr_x rfl (wtd_none rfl) rfl (Rd.x (x_load ag2 rfl (cells_ext (by repeat (first | exact List.mem_cons_self | apply List.mem_cons_of_mem | apply List.mem_append_right)) (by repeat (first | exact Ext.all _ | exact Ext.done | apply Ext.take | apply Ext.skip))))) ?_
            refine sr_x rfl (wtd_none rfl) rfl (Rd.x (x_fieldAddr fd66_2 rfl)) ?_
            refine sr_x rfl (wtd_none rfl) rfl (Rd.x (x_load ag2 rfl (cells_ext (by repeat (first | exact List.mem_cons_self | apply List.mem_cons_of_mem | apply List.mem_append_right)) (by repeat (first | exact Ext.all _ | exact Ext.done | apply Ext.take | apply Ext.skip))))) ?_
            refine sr_x rfl (wtd_none rfl) rfl (Rd.x (x_add' rfl rfl (i64w (by omega) (by omega)))) ?_
            refine sr_x rfl (wtd_none rfl) rfl (Rd.x (x_fieldAddr fd66_1 rfl)) ?_
            refine sr_x rfl (wtd_none rfl) rfl (Rd.x (x_load ag3 rfl (cells_ext (by repeat (first | exact List.mem_cons_self | apply List.mem_cons_of_mem | apply List.mem_append_right)) (by repeat (first | exact Ext.all _ | exact Ext.done | apply Ext.take | apply Ext.skip))))) ?_
            refine sr_x rfl (wtd_none rfl) rfl (Rd.x (x_neg' rfl (i64w (by omega) (by omega)))) ?_
            refine sr_d rfl (wtd_none rfl) rfl (opS_call rfl rfl rfl rfl cl86 (AC.sub Sub.autoP (qadd_s q free now b1 d1 L1 (if c1 = true then ver + 1 else ver) EL1 ((r5_4, .cells (Item.cells x).toArray 66 (0, 0)) :: (EO ++ G)) VL1 hs1.ok hs1.fr (by omega) hs1.nw hs1.rng (by omega) x.plan (x.plan + x.limit) (0 - x.width)))) ?_
            rintro _ _ ⟨e2, c2, L2, b2, d2, EL2, rfl, hC2, hL2, VL2, rfl⟩
            obtain ⟨hs2, hA2⟩ := hs1.add (by omega) hC2 hL2
            have hvr2 := hs2.vr
            have hln2 := hs2.ln
            refine sr_nil ?_
            show AW _ _ _ _ _ _ _
            refine aw_region ?_
            refine sr_x rfl (wtd_none rfl) rfl (Rd.x (x_move rfl)) ?_
            refine sr_x rfl (wtd_none rfl) rfl (Rd.x (x_add' rfl rfl (i64w (by omega) (by omega)))) ?_
            refine sr_x rfl (wtd_none rfl) rfl (Rd.x (x_assign rfl)) ?_
            refine sr_nil ?_
            show ∃ s', _ ∧ _ ∧ _ ∧ _
            first | exact ⟨⟨k + 1, f, cs, L, b, d, EL, ver, ao, co, EO⟩, ⟨by dsimp only; omega, ⟨x, cs, f, none, hx, hpl, .free (by omega) hE (by omega), by simp⟩, hst.mono (by dsimp only; omega), by (try rw [List.length_append]); (try simp); omega, VL, VO⟩, by dsimp only; omega, (by (try rw [List.length_append]); exact (by (repeat (first | exact keep_nil | refine keep_cons rfl ?_)); first | done | fail)), Sub.autoD⟩ | (obtain rfl : c1 = false := addC_bad hA1 (by assumption)); exact ⟨⟨k + 1, f, cs, L1, b1, d1, EL1, ver, ao, co, EO⟩, ⟨by dsimp only; omega, ⟨x, cs, f, none, hx, hpl, .stuck (by omega) hA1 (by assumption), by simp⟩, hs1.mono (by dsimp only; omega), by (try rw [List.length_append]); (try simp); omega, VL1, VO⟩, by dsimp only; omega, (by (try rw [List.length_append]); exact (by (repeat (first | exact keep_nil | refine keep_cons rfl ?_)); first | done | fail)), Sub.autoD⟩ | exact ⟨⟨k + 1, (aft c2 (aft c1 f (addF f now x.plan (x.plan + x.limit) x.width)) (addF (aft c1 f (addF f now x.plan (x.plan + x.limit) x.width)) now x.plan (x.plan + x.limit) (0 - x.width))), cs, L2, b2, d2, EL2, (if c2 = true then (if c1 = true then ver + 1 else ver) + 1 else (if c1 = true then ver + 1 else ver)), ao, co, EO⟩, ⟨by dsimp only; omega, ⟨x, cs, f, none, hx, hpl, .keep (by omega) hA1 hE (by omega) hA2, by simp⟩, hs2.mono (by dsimp only; omega), by (try rw [List.length_append]); (try simp); omega, VL2, VO⟩, by dsimp only; omega, (by (try rw [List.length_append]); exact (by (repeat (first | exact keep_nil | refine keep_cons rfl ?_)); first | done | fail)), Sub.autoD⟩ | exact ⟨⟨k + 1, (aft c2 (aft c1 f (addF f now x.plan (x.plan + x.limit) x.width)) (addF (aft c1 f (addF f now x.plan (x.plan + x.limit) x.width)) now t (t + x.limit) (0 - x.width))), (cs ++ [⟨x.id, t⟩]), L2, b2, d2, EL2, (if c2 = true then (if c1 = true then ver + 1 else ver) + 1 else (if c1 = true then ver + 1 else ver)), a79, cap79, E79⟩, ⟨by dsimp only; omega, ⟨x, cs, f, (some ⟨x.id, t⟩), hx, hpl, .move (by omega) hA1 hE (by omega) hA2, by simp⟩, hs2.mono (by dsimp only; omega), by (try rw [List.length_append]); (try simp); omega, VL2, OwnVec.snocS hV79⟩, by dsimp only; omega, (by (try rw [List.length_append]); exact (by (repeat (first | exact keep_nil | refine keep_cons rfl ?_)); first | done | fail)), Sub.autoD⟩ | exact ⟨⟨k + 1, (aft c2 f (addF f now t (t + x.limit) (0 - x.width))), (cs ++ [⟨x.id, t⟩]), L2, b2, d2, EL2, (if c2 = true then ver + 1 else ver), a79, cap79, E79⟩, ⟨by dsimp only; omega, ⟨x, cs, f, (some ⟨x.id, t⟩), hx, hpl, .take (by omega) hE hA2, by simp⟩, hs2.mono (by dsimp only; omega), by (try rw [List.length_append]); (try simp); omega, VL2, OwnVec.snocS hV79⟩, by dsimp only; omega, (by (try rw [List.length_append]); exact (by (repeat (first | exact keep_nil | refine keep_cons rfl ?_)); first | done | fail)), Sub.autoD⟩
        · refine sr_x rfl (wtd_none rfl) rfl (Rd.x (x_move rfl)) ?_
          refine sr_skip rfl (wtd_no rfl rfl rfl rfl) rfl ?_
          refine sr_skip rfl (wtd_no rfl rfl rfl rfl) rfl ?_
          refine sr_skip rfl (wtd_no rfl rfl rfl rfl) rfl ?_
          refine sr_skip rfl (wtd_no rfl rfl rfl rfl) rfl ?_
          refine sr_skip rfl (wtd_un rfl rfl rfl) rfl ?_
          refine sr_skip rfl (wtd_un rfl rfl rfl) rfl ?_
          refine sr_skip rfl (wtd_un rfl rfl rfl) rfl ?_
          refine sr_skip rfl (wtd_un rfl rfl rfl) rfl ?_
          refine sr_skip rfl (wtd_no rfl rfl rfl rfl) rfl ?_
          refine sr_x rfl (wtd_none rfl) rfl (Rd.x (x_pick_f rfl rfl rfl)) ?_
          refine sr_nil ?_
          refine aw_keep (keep_cons (t := 0) rfl (keep_cons (t := 1) rfl (keep_cons (t := 4) rfl (keep_cons (t := 5) rfl (keep_cons (t := 6) rfl (keep_cons (t := 7) rfl (keep_cons (t := 8) rfl (keep_cons (t := 9) rfl (keep_cons (t := 10) rfl (keep_cons (t := 11) rfl (keep_cons (t := 12) rfl (keep_cons (t := 13) rfl (keep_cons (t := 16) rfl (keep_cons (t := 17) rfl (keep_cons (t := 18) rfl (keep_cons (t := 19) rfl (keep_cons (t := 20) rfl (keep_cons (t := 21) rfl (keep_cons (t := 22) rfl (keep_cons (t := 23) rfl (keep_cons (t := 24) rfl (keep_cons (t := 25) rfl (keep_cons (t := 26) rfl (keep_cons (t := 27) rfl (keep_cons (t := 28) rfl (keep_cons (t := 29) rfl (keep_cons (t := 30) rfl (keep_cons (t := 31) rfl (keep_cons (t := 32) rfl (keep_cons (t := 33) rfl (keep_cons (t := 34) rfl (keep_cons (t := 35) rfl (keep_cons (t := 36) rfl (keep_cons (t := 37) rfl (keep_cons (t := 38) rfl (keep_cons (t := 39) rfl (keep_cons (t := 40) rfl (keep_cons (t := 41) rfl (keep_cons (t := 42) rfl (keep_cons (t := 43) rfl (keep_cons (t := 44) rfl (keep_cons (t := 45) rfl (keep_cons (t := 46) rfl (keep_cons (t := 47) rfl (keep_cons (t := 48) rfl (keep_cons (t := 49) rfl (keep_cons (t := 50) rfl (keep_cons (t := 51) rfl (keep_cons (t := 52) rfl (keep_cons (t := 53) rfl (keep_cons (t := 54) rfl (keep_cons (t := 55) rfl (keep_cons (t := 56) rfl (keep_cons (t := 57) rfl (keep_cons (t := 58) rfl (keep_cons (t := 59) rfl (keep_cons (t := 60) rfl (keep_cons (t := 61) rfl (keep_cons (t := 62) rfl keep_nil))))))))))))))))))))))))))))))))))))))))))))))))))))))))))) ?_
          refine aw_false rfl ?_
          refine aw_seq_region ?_
          refine sr_x rfl (wtd_none rfl) rfl (Rd.x (x_fieldAddr fd66_3 rfl)) ?_
          refine sr_x rfl (wtd_none rfl) rfl (Rd.x (x_load ag2 rfl (cells_ext (by repeat (first | exact List.mem_cons_self | apply List.mem_cons_of_mem | apply List.mem_append_right)) (by repeat (first | exact Ext.all _ | exact Ext.done | apply Ext.take | apply Ext.skip))))) ?_
          refine sr_cmp rfl (wtd_none rfl) rfl (Rd.x (x_ge rfl rfl)) (fun h8 => ?_) (fun h8 => absurd (by first | omega | decide) h8)
          refine sr_nil ?_
          refine aw_keep (keep_cons (t := 0) rfl (keep_cons (t := 1) rfl (keep_cons (t := 4) rfl (keep_cons (t := 5) rfl (keep_cons (t := 6) rfl (keep_cons (t := 7) rfl (keep_cons (t := 8) rfl (keep_cons (t := 9) rfl (keep_cons (t := 10) rfl (keep_cons (t := 11) rfl (keep_cons (t := 12) rfl (keep_cons (t := 13) rfl (keep_cons (t := 16) rfl (keep_cons (t := 17) rfl (keep_cons (t := 18) rfl (keep_cons (t := 19) rfl (keep_cons (t := 20) rfl (keep_cons (t := 21) rfl (keep_cons (t := 22) rfl (keep_cons (t := 23) rfl (keep_cons (t := 24) rfl (keep_cons (t := 25) rfl (keep_cons (t := 26) rfl (keep_cons (t := 27) rfl (keep_cons (t := 28) rfl (keep_cons (t := 29) rfl (keep_cons (t := 30) rfl (keep_cons (t := 31) rfl (keep_cons (t := 32) rfl (keep_cons (t := 33) rfl (keep_cons (t := 34) rfl (keep_cons (t := 35) rfl (keep_cons (t := 36) rfl (keep_cons (t := 37) rfl (keep_cons (t := 38) rfl (keep_cons (t := 39) rfl (keep_cons (t := 40) rfl (keep_cons (t := 41) rfl (keep_cons (t := 42) rfl (keep_cons (t := 43) rfl (keep_cons (t := 44) rfl (keep_cons (t := 45) rfl (keep_cons (t := 46) rfl (keep_cons (t := 47) rfl (keep_cons (t := 48) rfl (keep_cons (t := 49) rfl (keep_cons (t := 50) rfl (keep_cons (t := 51) rfl (keep_cons (t := 52) rfl (keep_cons (t := 53) rfl (keep_cons (t := 54) rfl (keep_cons (t := 55) rfl (keep_cons (t := 56) rfl (keep_cons (t := 57) rfl (keep_cons (t := 58) rfl (keep_cons (t := 59) rfl (keep_cons (t := 60) rfl (keep_cons (t := 61) rfl (keep_cons (t := 62) rfl (keep_cons (t := 80) rfl (keep_cons (t := 81) rfl (keep_cons (t := 82) rfl keep_nil)))))))))))))))))))))))))))))))))))))))))))))))))))))))))))))) ?_
          refine aw_true rfl ?_
          refine aw_region ?_
          refine sr_x rfl (wtd_none rfl) rfl (Rd.x (x_move rfl)) ?_
          refine sr_x rfl (wtd_none rfl) rfl (Rd.x (x_fieldAddr fd66_3 rfl)) ?_
          refine sr_x rfl (wtd_none rfl) rfl (Rd.x (x_load ag2 rfl (cells_ext (by repeat (first | exact List.mem_cons_self | apply List.mem_cons_of_mem | apply List.mem_append_right)) (by repeat (first | exact Ext.all _ | exact Ext.done | apply Ext.take | apply Ext.skip))))) ?_
          refine sr_x rfl (wtd_none rfl) rfl (Rd.x (x_fieldAddr fd66_3 rfl)) ?_
          refine sr_x rfl (wtd_none rfl) rfl (Rd.x (x_load ag2 rfl (cells_ext (by repeat (first | exact List.mem_cons_self | apply List.mem_cons_of_mem | apply List.mem_append_right)) (by repeat (first | exact Ext.all _ | exact Ext.done | apply Ext.take | apply Ext.skip))))) ?_
          refine sr_x rfl (wtd_none rfl) rfl (Rd.x (x_fieldAddr fd66_2 rfl)) ?_
          refine sr_x rfl (wtd_none rfl) rfl (Rd.x (x_load ag2 rfl (cells_ext (by repeat (first | exact List.mem_cons_self | apply List.mem_cons_of_mem | apply List.mem_append_right)) (by repeat (first | exact Ext.all _ | exact Ext.done | apply Ext.take | apply Ext.skip))))) ?_
          refine sr_x rfl (wtd_none rfl) rfl (Rd.x (x_add' rfl rfl (i64w (by omega) (by omega)))) ?_
          refine sr_x rfl (wtd_none rfl) rfl (Rd.x (x_fieldAddr fd66_1 rfl)) ?_
          refine sr_x rfl (wtd_none rfl) rfl (Rd.x (x_load ag3 rfl (cells_ext (by repeat (first | exact List.mem_cons_self | apply List.mem_cons_of_mem | apply List.mem_append_right)) (by repeat (first | exact Ext.all _ | exact Ext.done | apply Ext.take | apply Ext.skip))))) ?_
          refine sr_x rfl (wtd_none rfl) rfl (Rd.x (x_neg' rfl (i64w (by omega) (by omega)))) ?_
          refine sr_d rfl (wtd_none rfl) rfl (opS_call rfl rfl rfl rfl cl86 (AC.sub Sub.autoP (qadd_s q free now b1 d1 L1 (if c1 = true then ver + 1 else ver) EL1 ((r5_4, .cells (Item.cells x).toArray 66 (0, 0)) :: (EO ++ G)) VL1 hs1.ok hs1.fr (by omega) hs1.nw hs1.rng (by omega) x.plan (x.plan + x.limit) (0 - x.width)))) ?_
          rintro _ _ ⟨e2, c2, L2, b2, d2, EL2, rfl, hC2, hL2, VL2, rfl⟩
          obtain ⟨hs2, hA2⟩ := hs1.add (by omega) hC2 hL2
          have hvr2 := hs2.vr
          have hln2 := hs2.ln
          refine sr_nil ?_
          show AW _ _ _ _ _ _ _
          refine aw_region ?_
          refine sr_x rfl (wtd_none rfl) rfl (Rd.x (x_move rfl)) ?_
          refine sr_x rfl (wtd_none rfl) rfl (Rd.x (x_add' rfl rfl (i64w (by omega) (by omega)))) ?_
          refine sr_x rfl (wtd_none rfl) rfl (Rd.x (x_assign rfl)) ?_
          refine sr_nil ?_
          show ∃ s', _ ∧ _ ∧ _ ∧ _
          first | exact ⟨⟨k + 1, f, cs, L, b, d, EL, ver, ao, co, EO⟩, ⟨by dsimp only; omega, ⟨x, cs, f, none, hx, hpl, .free (by omega) hE (by omega), by simp⟩, hst.mono (by dsimp only; omega), by (try rw [List.length_append]); (try simp); omega, VL, VO⟩, by dsimp only; omega, (by (try rw [List.length_append]); exact (by (repeat (first | exact keep_nil | refine keep_cons rfl ?_)); first | done | fail)), Sub.autoD⟩ | (obtain rfl : c1 = false := addC_bad hA1 (by assumption)); exact ⟨⟨k + 1, f, cs, L1, b1, d1, EL1, ver, ao, co, EO⟩, ⟨by dsimp only; omega, ⟨x, cs, f, none, hx, hpl, .stuck (by omega) hA1 (by assumption), by simp⟩, hs1.mono (by dsimp only; omega), by (try rw [List.length_append]); (try simp); omega, VL1, VO⟩, by dsimp only; omega, (by (try rw [List.length_append]); exact (by (repeat (first | exact keep_nil | refine keep_cons rfl ?_)); first | done | fail)), Sub.autoD⟩ | exact ⟨⟨k + 1, (aft c2 (aft c1 f (addF f now x.plan (x.plan + x.limit) x.width)) (addF (aft c1 f (addF f now x.plan (x.plan + x.limit) x.width)) now x.plan (x.plan + x.limit) (0 - x.width))), cs, L2, b2, d2, EL2, (if c2 = true then (if c1 = true then ver + 1 else ver) + 1 else (if c1 = true then ver + 1 else ver)), ao, co, EO⟩, ⟨by dsimp only; omega, ⟨x, cs, f, none, hx, hpl, .keep (by omega) hA1 hE (by omega) hA2, by simp⟩, hs2.mono (by dsimp only; omega), by (try rw [List.length_append]); (try simp); omega, VL2, VO⟩, by dsimp only; omega, (by (try rw [List.length_append]); exact (by (repeat (first | exact keep_nil | refine keep_cons rfl ?_)); first | done | fail)), Sub.autoD⟩ | exact ⟨⟨k + 1, (aft c2 (aft c1 f (addF f now x.plan (x.plan + x.limit) x.width)) (addF (aft c1 f (addF f now x.plan (x.plan + x.limit) x.width)) now t (t + x.limit) (0 - x.width))), (cs ++ [⟨x.id, t⟩]), L2, b2, d2, EL2, (if c2 = true then (if c1 = true then ver + 1 else ver) + 1 else (if c1 = true then ver + 1 else ver)), a79, cap79, E79⟩, ⟨by dsimp only; omega, ⟨x, cs, f, (some ⟨x.id, t⟩), hx, hpl, .move (by omega) hA1 hE (by omega) hA2, by simp⟩, hs2.mono (by dsimp only; omega), by (try rw [List.length_append]); (try simp); omega, VL2, OwnVec.snocS hV79⟩, by dsimp only; omega, (by (try rw [List.length_append]); exact (by (repeat (first | exact keep_nil | refine keep_cons rfl ?_)); first | done | fail)), Sub.autoD⟩ | exact ⟨⟨k + 1, (aft c2 f (addF f now t (t + x.limit) (0 - x.width))), (cs ++ [⟨x.id, t⟩]), L2, b2, d2, EL2, (if c2 = true then ver + 1 else ver), a79, cap79, E79⟩, ⟨by dsimp only; omega, ⟨x, cs, f, (some ⟨x.id, t⟩), hx, hpl, .take (by omega) hE hA2, by simp⟩, hs2.mono (by dsimp only; omega), by (try rw [List.length_append]); (try simp); omega, VL2, OwnVec.snocS hV79⟩, by dsimp only; omega, (by (try rw [List.length_append]); exact (by (repeat (first | exact keep_nil | refine keep_cons rfl ?_)); first | done | fail)), Sub.autoD⟩
    · refine sr_x rfl (wtd_none rfl) rfl (Rd.x (x_move rfl)) ?_
      refine sr_skip rfl (wtd_no rfl rfl rfl rfl) rfl ?_
      refine sr_skip rfl (wtd_no rfl rfl rfl rfl) rfl ?_
      refine sr_skip rfl (wtd_no rfl rfl rfl rfl) rfl ?_
      refine sr_skip rfl (wtd_no rfl rfl rfl rfl) rfl ?_
      refine sr_skip rfl (wtd_no rfl rfl rfl rfl) rfl ?_
      refine sr_skip rfl (wtd_no rfl rfl rfl rfl) rfl ?_
      refine sr_skip rfl (wtd_no rfl rfl rfl rfl) rfl ?_
      refine sr_skip rfl (wtd_no rfl rfl rfl rfl) rfl ?_
      refine sr_skip rfl (wtd_no rfl rfl rfl rfl) rfl ?_
      refine sr_skip rfl (wtd_no rfl rfl rfl rfl) rfl ?_
      refine sr_skip rfl (wtd_no rfl rfl rfl rfl) rfl ?_
      refine sr_skip rfl (wtd_no rfl rfl rfl rfl) rfl ?_
      refine sr_x rfl (wtd_none rfl) rfl (Rd.x (x_pick_f rfl rfl rfl)) ?_
      refine sr_nil ?_
      refine aw_keep (keep_cons (t := 0) rfl (keep_cons (t := 1) rfl (keep_cons (t := 4) rfl (keep_cons (t := 5) rfl (keep_cons (t := 6) rfl (keep_cons (t := 7) rfl (keep_cons (t := 10) rfl (keep_cons (t := 11) rfl (keep_cons (t := 12) rfl (keep_cons (t := 13) rfl (keep_cons (t := 16) rfl (keep_cons (t := 17) rfl (keep_cons (t := 18) rfl (keep_cons (t := 19) rfl (keep_cons (t := 20) rfl (keep_cons (t := 21) rfl (keep_cons (t := 22) rfl (keep_cons (t := 23) rfl (keep_cons (t := 24) rfl (keep_cons (t := 25) rfl (keep_cons (t := 26) rfl (keep_cons (t := 27) rfl (keep_cons (t := 28) rfl (keep_cons (t := 29) rfl (keep_cons (t := 30) rfl (keep_cons (t := 31) rfl (keep_cons (t := 32) rfl (keep_cons (t := 33) rfl (keep_cons (t := 34) rfl (keep_cons (t := 35) rfl (keep_cons (t := 36) rfl keep_nil))))))))))))))))))))))))))))))) ?_
      refine aw_false rfl ?_
      refine aw_skip ?_
      show AW _ _ _ _ _ _ _
      refine aw_seq_dr ⟨_, 15, 96, [[], [], [1], [1, 2], [1, 2, 3], [], [5], [], [7], [0, 1, 2, 3, 4, 5, 6, 7, 8], [0, 1, 2, 3, 4, 5, 6, 7, 8, 9], [0, 1, 2, 3, 4, 5, 6, 7, 8, 9, 10], [0, 1, 2, 3, 4, 5, 6, 7, 8, 9, 10], [0, 1, 2, 3, 4, 5, 6, 7, 8, 9, 10, 11], [0, 1, 2, 3, 4, 5, 6, 7, 8, 9, 10, 11, 12, 13]], [.light, .light, .light, .light, .mem, .light, .mem, .light, .mem, .eff, .light, .light, .light, .light, .light]⟩ (by kernel_rfl) rfl rfl mix ?_
      first | obtain rfl : e1 = 0 := by omega | skip
      refine dr_light rfl rfl (wtd_none rfl) (x_move rfl) ?_
      refine dr_light rfl rfl (wtd_none rfl) (x_move rfl) ?_
      refine dr_light rfl rfl (wtd_none rfl) (x_nilCheck rfl) ?_
      refine dr_light rfl rfl (wtd_none rfl) (x_fieldAddr fd36_1 rfl) ?_
      refine dr_mem0 rfl rfl (wtd_none rfl) (x_load ag2 rfl (cells_ext (by repeat (first | exact List.mem_cons_self | apply List.mem_cons_of_mem | apply List.mem_append_right)) (by repeat (first | exact Ext.all _ | exact Ext.done | apply Ext.take | apply Ext.skip)))) ?_
      refine dr_light rfl rfl (wtd_none rfl) (x_fieldAddr fd66_2 rfl) ?_
      refine dr_mem0 rfl rfl (wtd_none rfl) (x_load ag2 rfl (cells_ext (by repeat (first | exact List.mem_cons_self | apply List.mem_cons_of_mem | apply List.mem_append_right)) (by repeat (first | exact Ext.all _ | exact Ext.done | apply Ext.take | apply Ext.skip)))) ?_
      refine dr_light rfl rfl (wtd_none rfl) (x_fieldAddr fd66_1 rfl) ?_
      refine dr_mem0 rfl rfl (wtd_none rfl) (x_load ag3 rfl (cells_ext (by repeat (first | exact List.mem_cons_self | apply List.mem_cons_of_mem | apply List.mem_append_right)) (by repeat (first | exact Ext.all _ | exact Ext.done | apply Ext.take | apply Ext.skip)))) ?_
      refine dr_effC rfl (V := []) rfl (L' := []) (clear_all rfl) rfl (wtd_none rfl) rfl rfl rfl rfl cl25 (qear_s q free now b d L ver _ (cells_ext (by repeat (first | exact List.mem_cons_self | apply List.mem_cons_of_mem | apply List.mem_append_right)) (by repeat (first | exact Ext.all _ | exact Ext.done | apply Ext.take | apply Ext.skip))) ((VL.slv' (fun _ => rfl) rfl (Sub.refl _)).mono (Sub.takeE0 (by repeat (first | exact TakeE.here | apply TakeE.there | apply TakeE.app)))) hst.ok hst.fr (by omega) hst.nw now x.limit x.width) ?_
      rintro _ _ ⟨⟨t, e, rfl, hE0⟩, rfl⟩
      have hE := hE0.congr hst.eq
      refine dr_light rfl rfl (wtd_none rfl) (x_move rfl) ?_
      refine dr_light rfl rfl (wtd_none rfl) (x_extract rfl rfl) ?_
      refine dr_light rfl rfl (wtd_none rfl) (x_extract rfl rfl) ?_
      refine dr_light rfl rfl (wtd_none rfl) (x_assign rfl) ?_
      refine dr_light rfl rfl (wtd_none rfl) (x_assign rfl) ?_
      refine dr_nil0 ?_
      refine aw_keep (keep_cons (t := 0) rfl (keep_cons (t := 1) rfl (keep_cons (t := 4) rfl (keep_cons (t := 5) rfl (keep_cons (t := 6) rfl (keep_cons (t := 7) rfl (keep_cons (t := 8) rfl (keep_cons (t := 9) rfl (keep_cons (t := 10) rfl (keep_cons (t := 11) rfl (keep_cons (t := 12) rfl (keep_cons (t := 13) rfl (keep_cons (t := 16) rfl (keep_cons (t := 17) rfl (keep_cons (t := 18) rfl (keep_cons (t := 19) rfl (keep_cons (t := 20) rfl (keep_cons (t := 21) rfl (keep_cons (t := 22) rfl (keep_cons (t := 23) rfl (keep_cons (t := 24) rfl (keep_cons (t := 25) rfl (keep_cons (t := 26) rfl (keep_cons (t := 27) rfl (keep_cons (t := 28) rfl (keep_cons (t := 29) rfl (keep_cons (t := 30) rfl (keep_cons (t := 31) rfl (keep_cons (t := 32) rfl (keep_cons (t := 33) rfl (keep_cons (t := 34) rfl (keep_cons (t := 35) rfl (keep_cons (t := 36) rfl (keep_cons (t := 37) rfl (keep_cons (t := 38) rfl (keep_cons (t := 39) rfl (keep_cons (t := 40) rfl (keep_cons (t := 41) rfl (keep_cons (t := 42) rfl (keep_cons (t := 43) rfl (keep_cons (t := 44) rfl (keep_cons (t := 45) rfl (keep_cons (t := 46) rfl (keep_cons (t := 47) rfl (keep_cons (t := 48) rfl (keep_cons (t := 49) rfl keep_nil)))))))))))))))))))))))))))))))))))))))))))))) ?_
      refine aw_seq_region ?_
      refine sr_x rfl (wtd_none rfl) rfl (Rd.x (x_move rfl)) ?_
      refine sr_cmp rfl (wtd_none rfl) rfl (Rd.x (x_eq rfl rfl)) (fun h9 => ?_) (fun h9 => ?_)
      · refine sr_x rfl (wtd_none rfl) rfl (Rd.x (x_move rfl)) ?_
        refine sr_x rfl (wtd_yes rfl rfl rfl) rfl (Rd.x (x_fieldAddr fd66_3 rfl)) ?_
        refine sr_x rfl (wtd_yes rfl rfl rfl) rfl (Rd.x (x_load ag2 rfl (cells_ext (by repeat (first | exact List.mem_cons_self | apply List.mem_cons_of_mem | apply List.mem_append_right)) (by repeat (first | exact Ext.all _ | exact Ext.done | apply Ext.take | apply Ext.skip))))) ?_
        refine sr_cmp rfl (wtd_yes rfl rfl rfl) rfl (Rd.x (x_lt rfl rfl)) (fun h10 => ?_) (fun h10 => absurd (by first | omega | decide) h10)
        refine sr_x rfl (wtd_yes rfl rfl rfl) rfl (Rd.x (x_move rfl)) ?_
        refine sr_skip rfl (wtd_no rfl rfl rfl rfl) rfl ?_
        refine sr_skip rfl (wtd_no rfl rfl rfl rfl) rfl ?_
        refine sr_skip rfl (wtd_no rfl rfl rfl rfl) rfl ?_
        refine sr_skip rfl (wtd_no rfl rfl rfl rfl) rfl ?_
        refine sr_x rfl (wtd_yes rfl rfl rfl) rfl (Rd.x (x_pick_t rfl rfl rfl)) ?_
        refine sr_x rfl (wtd_none rfl) rfl (Rd.x (x_pick_t rfl rfl rfl)) ?_
        refine sr_nil ?_
        refine aw_keep (keep_cons (t := 0) rfl (keep_cons (t := 1) rfl (keep_cons (t := 4) rfl (keep_cons (t := 5) rfl (keep_cons (t := 6) rfl (keep_cons (t := 7) rfl (keep_cons (t := 8) rfl (keep_cons (t := 9) rfl (keep_cons (t := 10) rfl (keep_cons (t := 11) rfl (keep_cons (t := 12) rfl (keep_cons (t := 13) rfl (keep_cons (t := 16) rfl (keep_cons (t := 17) rfl (keep_cons (t := 18) rfl (keep_cons (t := 19) rfl (keep_cons (t := 20) rfl (keep_cons (t := 21) rfl (keep_cons (t := 22) rfl (keep_cons (t := 23) rfl (keep_cons (t := 24) rfl (keep_cons (t := 25) rfl (keep_cons (t := 26) rfl (keep_cons (t := 27) rfl (keep_cons (t := 28) rfl (keep_cons (t := 29) rfl (keep_cons (t := 30) rfl (keep_cons (t := 31) rfl (keep_cons (t := 32) rfl (keep_cons (t := 33) rfl (keep_cons (t := 34) rfl (keep_cons (t := 35) rfl (keep_cons (t := 36) rfl (keep_cons (t := 37) rfl (keep_cons (t := 38) rfl (keep_cons (t := 39) rfl (keep_cons (t := 40) rfl (keep_cons (t := 41) rfl (keep_cons (t := 42) rfl (keep_cons (t := 43) rfl (keep_cons (t := 44) rfl (keep_cons (t := 45) rfl (keep_cons (t := 46) rfl (keep_cons (t := 47) rfl (keep_cons (t := 48) rfl (keep_cons (t := 49) rfl (keep_cons (t := 50) rfl (keep_cons (t := 51) rfl (keep_cons (t := 52) rfl (keep_cons (t := 53) rfl (keep_cons (t := 54) rfl (keep_cons (t := 55) rfl (keep_cons (t := 56) rfl (keep_cons (t := 57) rfl (keep_cons (t := 58) rfl (keep_cons (t := 59) rfl (keep_cons (t := 60) rfl (keep_cons (t := 61) rfl (keep_cons (t := 62) rfl keep_nil))))))))))))))))))))))))))))))))))))))))))))))))))))))))))) ?_
        refine aw_true rfl ?_
        refine aw_seq_region ?_
        obtain rfl : e = 0 := by omega
        have htb := ear_bd hE
        refine sr_x rfl (wtd_none rfl) rfl (Rd.x (x_move rfl)) ?_
        refine sr_x rfl (wtd_none rfl) rfl (Rd.x (x_move rfl)) ?_
        refine sr_x rfl (wtd_none rfl) rfl (Rd.x (x_move rfl)) ?_
        refine sr_x rfl (wtd_none rfl) rfl (Rd.x (x_fieldAddr fd66_2 rfl)) ?_
        refine sr_x rfl (wtd_none rfl) rfl (Rd.x (x_load ag2 rfl (cells_ext (by repeat (first | exact List.mem_cons_self | apply List.mem_cons_of_mem | apply List.mem_append_right)) (by repeat (first | exact Ext.all _ | exact Ext.done | apply Ext.take | apply Ext.skip))))) ?_
        refine sr_x rfl (wtd_none rfl) rfl (Rd.x (x_add' rfl rfl (i64w (by omega) (by omega)))) ?_
        refine sr_x rfl (wtd_none rfl) rfl (Rd.x (x_fieldAddr fd66_1 rfl)) ?_
        refine sr_x rfl (wtd_none rfl) rfl (Rd.x (x_load ag3 rfl (cells_ext (by repeat (first | exact List.mem_cons_self | apply List.mem_cons_of_mem | apply List.mem_append_right)) (by repeat (first | exact Ext.all _ | exact Ext.done | apply Ext.take | apply Ext.skip))))) ?_
        refine sr_x rfl (wtd_none rfl) rfl (Rd.x (x_neg' rfl (i64w (by omega) (by omega)))) ?_
        refine sr_d rfl (wtd_none rfl) rfl (opS_call rfl rfl rfl rfl cl86 (AC.sub Sub.autoP (qadd_s q free now b d L ver EL ((r5_4, .cells (Item.cells x).toArray 66 (0, 0)) :: (EO ++ G)) VL hst.ok hst.fr (by omega) hst.nw hst.rng (by omega) t (t + x.limit) (0 - x.width)))) ?_
        rintro _ _ ⟨e2, c2, L2, b2, d2, EL2, rfl, hC2, hL2, VL2, rfl⟩
        obtain ⟨hs2, hA2⟩ := hst.add (by omega) hC2 hL2
        have hvr2 := hs2.vr
        have hln2 := hs2.ln
        refine sr_nil ?_
        refine aw_keep (keep_cons (t := 0) rfl (keep_cons (t := 1) rfl (keep_cons (t := 4) rfl (keep_cons (t := 5) rfl (keep_cons (t := 6) rfl (keep_cons (t := 7) rfl (keep_cons (t := 8) rfl (keep_cons (t := 9) rfl (keep_cons (t := 10) rfl (keep_cons (t := 11) rfl (keep_cons (t := 12) rfl (keep_cons (t := 13) rfl (keep_cons (t := 16) rfl (keep_cons (t := 17) rfl (keep_cons (t := 18) rfl (keep_cons (t := 19) rfl (keep_cons (t := 20) rfl (keep_cons (t := 21) rfl (keep_cons (t := 22) rfl (keep_cons (t := 23) rfl (keep_cons (t := 24) rfl (keep_cons (t := 25) rfl (keep_cons (t := 26) rfl (keep_cons (t := 27) rfl (keep_cons (t := 28) rfl (keep_cons (t := 29) rfl (keep_cons (t := 30) rfl (keep_cons (t := 31) rfl (keep_cons (t := 32) rfl (keep_cons (t := 33) rfl (keep_cons (t := 34) rfl (keep_cons (t := 35) rfl (keep_cons (t := 36) rfl (keep_cons (t := 37) rfl (keep_cons (t := 38) rfl (keep_cons (t := 39) rfl (keep_cons (t := 40) rfl (keep_cons (t := 41) rfl (keep_cons (t := 42) rfl (keep_cons (t := 43) rfl (keep_cons (t := 44) rfl (keep_cons (t := 45) rfl (keep_cons (t := 46) rfl (keep_cons (t := 47) rfl (keep_cons (t := 48) rfl (keep_cons (t := 49) rfl (keep_cons (t := 50) rfl (keep_cons (t := 51) rfl (keep_cons (t := 52) rfl (keep_cons (t := 53) rfl (keep_cons (t := 54) rfl (keep_cons (t := 55) rfl (keep_cons (t := 56) rfl (keep_cons (t := 57) rfl (keep_cons (t := 58) rfl (keep_cons (t := 59) rfl (keep_cons (t := 60) rfl (keep_cons (t := 61) rfl (keep_cons (t := 62) rfl (keep_cons (t := 63) rfl (keep_cons (t := 64) rfl (keep_cons (t := 65) rfl (keep_cons (t := 66) rfl (keep_cons (t := 67) rfl (keep_cons (t := 68) rfl (keep_cons (t := 69) rfl (keep_cons (t := 70) rfl (keep_cons (t := 71) rfl keep_nil)))))))))))))))))))))))))))))))))))))))))))))))))))))))))))))))))))) ?_
        refine aw_region ?_
        refine sr_x rfl (wtd_none rfl) rfl (Rd.x (x_move rfl)) ?_
        refine sr_x rfl (wtd_none rfl) rfl (Rd.x (x_fieldAddr fd66_0 rfl)) ?_
        refine sr_x rfl (wtd_none rfl) rfl (Rd.x (x_load ag3 rfl (cells_ext (by repeat (first | exact List.mem_cons_self | apply List.mem_cons_of_mem | apply List.mem_append_right)) (by repeat (first | exact Ext.all _ | exact Ext.done | apply Ext.take | apply Ext.skip))))) ?_
        refine sr_x rfl (wtd_none rfl) rfl (Rd.x (x_move rfl)) ?_
        refine sr_x rfl (wtd_none rfl) rfl (Rd.x (x_build zr80 rfl fl80 (by repeat (first | exact Parts.nil | (apply Parts.cons; rfl))) (by repeat (first | exact Fill.done | (apply Fill.part; rfl; rfl; rfl; focus (repeat (first | exact Spl.done | exact Spl.all rfl | apply Spl.put | apply Spl.skip))))))) ?_
        refine sr_new rfl (wtd_none rfl) rfl (x_buildSlice Try.underlying61 sz80 zr80 rfl rfl rfl rfl (by repeat (first | exact Parts.nil | (apply Parts.cons; rfl))) (by repeat (first | exact Fill.done | (apply Fill.part; rfl; rfl; rfl; focus (repeat (first | exact Spl.done | exact Spl.all rfl | apply Spl.put | apply Spl.skip)))))) ?_
        intro r10_5 hr10_5 gr10_5
        refine sr_d rfl (wtd_none rfl) rfl (opS_append (G := (r10_5, .cells (Choice.cells ⟨x.id, t⟩).toArray 80 (0, 0)) :: (r5_4, .cells (Item.cells x).toArray 66 (0, 0)) :: plB q free now (.slice b2 L2.length d2) (if c2 = true then ver + 1 else ver) :: (EL2 ++ G)) (N := (Choice.cells ⟨x.id, t⟩)) (m := 1) Try.underlying61 sz80 zr80 rfl by80 rfl rfl VO Sub.autoP (.inr ⟨_, _, rfl, (cells_ext (by repeat (first | exact List.mem_cons_self | apply List.mem_cons_of_mem | apply List.mem_append_right)) (by repeat (first | exact Ext.all _ | exact Ext.done | apply Ext.take | apply Ext.skip)))⟩) (rfl) rfl (by omega) (by omega)) ?_
        rintro v79 _ ⟨E79, hV79, rfl⟩
        obtain ⟨a79, cap79, rfl⟩ := hV79.isSl
        refine sr_x rfl (wtd_none rfl) rfl (Rd.x (x_assign rfl)) ?_
        refine sr_nil ?_
        show AW _ _ _ _ _ _ _
        refine aw_region ?_
        refine sr_x rfl (wtd_none rfl) rfl (Rd.x (x_move rfl)) ?_
        refine sr_x rfl (wtd_none rfl) rfl (Rd.x (x_add' rfl rfl (i64w (by omega) (by omega)))) ?_
        refine sr_x rfl (wtd_none rfl) rfl (Rd.x (x_assign rfl)) ?_
        refine sr_nil ?_
        show ∃ s', _ ∧ _ ∧ _ ∧ _
        first | exact ⟨⟨k + 1, f, cs, L, b, d, EL, ver, ao, co, EO⟩, ⟨by dsimp only; omega, ⟨x, cs, f, none, hx, hpl, .free (by omega) hE (by omega), by simp⟩, hst.mono (by dsimp only; omega), by (try rw [List.length_append]); (try simp); omega, VL, VO⟩, by dsimp only; omega, (by (try rw [List.length_append]); exact (by (repeat (first | exact keep_nil | refine keep_cons rfl ?_)); first | done | fail)), Sub.autoD⟩ | (obtain rfl : c1 = false := addC_bad hA1 (by assumption)); exact ⟨⟨k + 1, f, cs, L1, b1, d1, EL1, ver, ao, co, EO⟩, ⟨by dsimp only; omega, ⟨x, cs, f, none, hx, hpl, .stuck (by omega) hA1 (by assumption), by simp⟩, hs1.mono (by dsimp only; omega), by (try rw [List.length_append]); (try simp); omega, VL1, VO⟩, by dsimp only; omega, (by (try rw [List.length_append]); exact (by (repeat (first | exact keep_nil | refine keep_cons rfl ?_)); first | done | fail)), Sub.autoD⟩ | exact ⟨⟨k + 1, (aft c2 (aft c1 f (addF f now x.plan (x.plan + x.limit) x.width)) (addF (aft c1 f (addF f now x.plan (x.plan + x.limit) x.width)) now x.plan (x.plan + x.limit) (0 - x.width))), cs, L2, b2, d2, EL2, (if c2 = true then (if c1 = true then ver + 1 else ver) + 1 else (if c1 = true then ver + 1 else ver)), ao, co, EO⟩, ⟨by dsimp only; omega, ⟨x, cs, f, none, hx, hpl, .keep (by omega) hA1 hE (by omega) hA2, by simp⟩, hs2.mono (by dsimp only; omega), by (try rw [List.length_append]); (try simp); omega, VL2, VO⟩, by dsimp only; omega, (by (try rw [List.length_append]); exact (by (repeat (first | exact keep_nil | refine keep_cons rfl ?_)); first | done | fail)), Sub.autoD⟩ | exact ⟨⟨k + 1, (aft c2 (aft c1 f (addF f now x.plan (x.plan + x.limit) x.width)) (addF (aft c1 f (addF f now x.plan (x.plan + x.limit) x.width)) now t (t + x.limit) (0 - x.width))), (cs ++ [⟨x.id, t⟩]), L2, b2, d2, EL2, (if c2 = true then (if c1 = true then ver + 1 else ver) + 1 else (if c1 = true then ver + 1 else ver)), a79, cap79, E79⟩, ⟨by dsimp only; omega, ⟨x, cs, f, (some ⟨x.id, t⟩), hx, hpl, .move (by omega) hA1 hE (by omega) hA2, by simp⟩, hs2.mono (by dsimp only; omega), by (try rw [List.length_append]); (try simp); omega, VL2, OwnVec.snocS hV79⟩, by dsimp only; omega, (by (try rw [List.length_append]); exact (by (repeat (first | exact keep_nil | refine keep_cons rfl ?_)); first | done | fail)), Sub.autoD⟩ | exact ⟨⟨k + 1, (aft c2 f (addF f now t (t + x.limit) (0 - x.width))), (cs ++ [⟨x.id, t⟩]), L2, b2, d2, EL2, (if c2 = true then ver + 1 else ver), a79, cap79, E79⟩, ⟨by dsimp only; omega, ⟨x, cs, f, (some ⟨x.id, t⟩), hx, hpl, .take (by omega) hE hA2, by simp⟩, hs2.mono (by dsimp only; omega), by (try rw [List.length_append]); (try simp); omega, VL2, OwnVec.snocS hV79⟩, by dsimp only; omega, (by (try rw [List.length_append]); exact (by (repeat (first | exact keep_nil | refine keep_cons rfl ?_)); first | done | fail)), Sub.autoD⟩
      · refine sr_x rfl (wtd_none rfl) rfl (Rd.x (x_move rfl)) ?_
        refine sr_skip rfl (wtd_no rfl rfl rfl rfl) rfl ?_
        refine sr_skip rfl (wtd_no rfl rfl rfl rfl) rfl ?_
        refine sr_skip rfl (wtd_no rfl rfl rfl rfl) rfl ?_
        refine sr_skip rfl (wtd_no rfl rfl rfl rfl) rfl ?_
        refine sr_skip rfl (wtd_un rfl rfl rfl) rfl ?_
        refine sr_skip rfl (wtd_un rfl rfl rfl) rfl ?_
        refine sr_skip rfl (wtd_un rfl rfl rfl) rfl ?_
        refine sr_skip rfl (wtd_un rfl rfl rfl) rfl ?_
        refine sr_skip rfl (wtd_no rfl rfl rfl rfl) rfl ?_
        refine sr_x rfl (wtd_none rfl) rfl (Rd.x (x_pick_f rfl rfl rfl)) ?_
        refine sr_nil ?_
        refine aw_keep (keep_cons (t := 0) rfl (keep_cons (t := 1) rfl (keep_cons (t := 4) rfl (keep_cons (t := 5) rfl (keep_cons (t := 6) rfl (keep_cons (t := 7) rfl (keep_cons (t := 8) rfl (keep_cons (t := 9) rfl (keep_cons (t := 10) rfl (keep_cons (t := 11) rfl (keep_cons (t := 12) rfl (keep_cons (t := 13) rfl (keep_cons (t := 16) rfl (keep_cons (t := 17) rfl (keep_cons (t := 18) rfl (keep_cons (t := 19) rfl (keep_cons (t := 20) rfl (keep_cons (t := 21) rfl (keep_cons (t := 22) rfl (keep_cons (t := 23) rfl (keep_cons (t := 24) rfl (keep_cons (t := 25) rfl (keep_cons (t := 26) rfl (keep_cons (t := 27) rfl (keep_cons (t := 28) rfl (keep_cons (t := 29) rfl (keep_cons (t := 30) rfl (keep_cons (t := 31) rfl (keep_cons (t := 32) rfl (keep_cons (t := 33) rfl (keep_cons (t := 34) rfl (keep_cons (t := 35) rfl (keep_cons (t := 36) rfl (keep_cons (t := 37) rfl (keep_cons (t := 38) rfl (keep_cons (t := 39) rfl (keep_cons (t := 40) rfl (keep_cons (t := 41) rfl (keep_cons (t := 42) rfl (keep_cons (t := 43) rfl (keep_cons (t := 44) rfl (keep_cons (t := 45) rfl (keep_cons (t := 46) rfl (keep_cons (t := 47) rfl (keep_cons (t := 48) rfl (keep_cons (t := 49) rfl (keep_cons (t := 50) rfl (keep_cons (t := 51) rfl (keep_cons (t := 52) rfl (keep_cons (t := 53) rfl (keep_cons (t := 54) rfl (keep_cons (t := 55) rfl (keep_cons (t := 56) rfl (keep_cons (t := 57) rfl (keep_cons (t := 58) rfl (keep_cons (t := 59) rfl (keep_cons (t := 60) rfl (keep_cons (t := 61) rfl (keep_cons (t := 62) rfl keep_nil))))))))))))))))))))))))))))))))))))))))))))))))))))))))))) ?_
        refine aw_false rfl ?_
        refine aw_seq_region ?_
        refine sr_x rfl (wtd_none rfl) rfl (Rd.x (x_fieldAddr fd66_3 rfl)) ?_
        refine sr_x rfl (wtd_none rfl) rfl (Rd.x (x_load ag2 rfl (cells_ext (by repeat (first | exact List.mem_cons_self | apply List.mem_cons_of_mem | apply List.mem_append_right)) (by repeat (first | exact Ext.all _ | exact Ext.done | apply Ext.take | apply Ext.skip))))) ?_
        refine sr_cmp rfl (wtd_none rfl) rfl (Rd.x (x_ge rfl rfl)) (fun h11 => absurd h11 (by first | omega | decide)) (fun h11 => ?_)
        refine sr_nil ?_
        refine aw_keep (keep_cons (t := 0) rfl (keep_cons (t := 1) rfl (keep_cons (t := 4) rfl (keep_cons (t := 5) rfl (keep_cons (t := 6) rfl (keep_cons (t := 7) rfl (keep_cons (t := 8) rfl (keep_cons (t := 9) rfl (keep_cons (t := 10) rfl (keep_cons (t := 11) rfl (keep_cons (t := 12) rfl (keep_cons (t := 13) rfl (keep_cons (t := 16) rfl (keep_cons (t := 17) rfl (keep_cons (t := 18) rfl (keep_cons (t := 19) rfl (keep_cons (t := 20) rfl (keep_cons (t := 21) rfl (keep_cons (t := 22) rfl (keep_cons (t := 23) rfl (keep_cons (t := 24) rfl (keep_cons (t := 25) rfl (keep_cons (t := 26) rfl (keep_cons (t := 27) rfl (keep_cons (t := 28) rfl (keep_cons (t := 29) rfl (keep_cons (t := 30) rfl (keep_cons (t := 31) rfl (keep_cons (t := 32) rfl (keep_cons (t := 33) rfl (keep_cons (t := 34) rfl (keep_cons (t := 35) rfl (keep_cons (t := 36) rfl (keep_cons (t := 37) rfl (keep_cons (t := 38) rfl (keep_cons (t := 39) rfl (keep_cons (t := 40) rfl (keep_cons (t := 41) rfl (keep_cons (t := 42) rfl (keep_cons (t := 43) rfl (keep_cons (t := 44) rfl (keep_cons (t := 45) rfl (keep_cons (t := 46) rfl (keep_cons (t := 47) rfl (keep_cons (t := 48) rfl (keep_cons (t := 49) rfl (keep_cons (t := 50) rfl (keep_cons (t := 51) rfl (keep_cons (t := 52) rfl (keep_cons (t := 53) rfl (keep_cons (t := 54) rfl (keep_cons (t := 55) rfl (keep_cons (t := 56) rfl (keep_cons (t := 57) rfl (keep_cons (t := 58) rfl (keep_cons (t := 59) rfl (keep_cons (t := 60) rfl (keep_cons (t := 61) rfl (keep_cons (t := 62) rfl (keep_cons (t := 80) rfl (keep_cons (t := 81) rfl (keep_cons (t := 82) rfl keep_nil)))))))))))))))))))))))))))))))))))))))))))))))))))))))))))))) ?_
        refine aw_false rfl ?_
        refine aw_skip ?_
        show AW _ _ _ _ _ _ _
        refine aw_region ?_
        refine sr_x rfl (wtd_none rfl) rfl (Rd.x (x_move rfl)) ?_
        refine sr_x rfl (wtd_none rfl) rfl (Rd.x (x_add' rfl rfl (i64w (by omega) (by omega)))) ?_
        refine sr_x rfl (wtd_none rfl) rfl (Rd.x (x_assign rfl)) ?_
        refine sr_nil ?_
        show ∃ s', _ ∧ _ ∧ _ ∧ _
        first | exact ⟨⟨k + 1, f, cs, L, b, d, EL, ver, ao, co, EO⟩, ⟨by dsimp only; omega, ⟨x, cs, f, none, hx, hpl, .free (by omega) hE (by omega), by simp⟩, hst.mono (by dsimp only; omega), by (try rw [List.length_append]); (try simp); omega, VL, VO⟩, by dsimp only; omega, (by (try rw [List.length_append]); exact (by (repeat (first | exact keep_nil | refine keep_cons rfl ?_)); first | done | fail)), Sub.autoD⟩ | (obtain rfl : c1 = false := addC_bad hA1 (by assumption)); exact ⟨⟨k + 1, f, cs, L1, b1, d1, EL1, ver, ao, co, EO⟩, ⟨by dsimp only; omega, ⟨x, cs, f, none, hx, hpl, .stuck (by omega) hA1 (by assumption), by simp⟩, hs1.mono (by dsimp only; omega), by (try rw [List.length_append]); (try simp); omega, VL1, VO⟩, by dsimp only; omega, (by (try rw [List.length_append]); exact (by (repeat (first | exact keep_nil | refine keep_cons rfl ?_)); first | done | fail)), Sub.autoD⟩ | exact ⟨⟨k + 1, (aft c2 (aft c1 f (addF f now x.plan (x.plan + x.limit) x.width)) (addF (aft c1 f (addF f now x.plan (x.plan + x.limit) x.width)) now x.plan (x.plan + x.limit) (0 - x.width))), cs, L2, b2, d2, EL2, (if c2 = true then (if c1 = true then ver + 1 else ver) + 1 else (if c1 = true then ver + 1 else ver)), ao, co, EO⟩, ⟨by dsimp only; omega, ⟨x, cs, f, none, hx, hpl, .keep (by omega) hA1 hE (by omega) hA2, by simp⟩, hs2.mono (by dsimp only; omega), by (try rw [List.length_append]); (try simp); omega, VL2, VO⟩, by dsimp only; omega, (by (try rw [List.length_append]); exact (by (repeat (first | exact keep_nil | refine keep_cons rfl ?_)); first | done | fail)), Sub.autoD⟩ | exact ⟨⟨k + 1, (aft c2 (aft c1 f (addF f now x.plan (x.plan + x.limit) x.width)) (addF (aft c1 f (addF f now x.plan (x.plan + x.limit) x.width)) now t (t + x.limit) (0 - x.width))), (cs ++ [⟨x.id, t⟩]), L2, b2, d2, EL2, (if c2 = true then (if c1 = true then ver + 1 else ver) + 1 else (if c1 = true then ver + 1 else ver)), a79, cap79, E79⟩, ⟨by dsimp only; omega, ⟨x, cs, f, (some ⟨x.id, t⟩), hx, hpl, .move (by omega) hA1 hE (by omega) hA2, by simp⟩, hs2.mono (by dsimp only; omega), by (try rw [List.length_append]); (try simp); omega, VL2, OwnVec.snocS hV79⟩, by dsimp only; omega, (by (try rw [List.length_append]); exact (by (repeat (first | exact keep_nil | refine keep_cons rfl ?_)); first | done | fail)), Sub.autoD⟩ | exact ⟨⟨k + 1, (aft c2 f (addF f now t (t + x.limit) (0 - x.width))), (cs ++ [⟨x.id, t⟩]), L2, b2, d2, EL2, (if c2 = true then ver + 1 else ver), a79, cap79, E79⟩, ⟨by dsimp only; omega, ⟨x, cs, f, (some ⟨x.id, t⟩), hx, hpl, .take (by omega) hE hA2, by simp⟩, hs2.mono (by dsimp only; omega), by (try rw [List.length_append]); (try simp); omega, VL2, OwnVec.snocS hV79⟩, by dsimp only; omega, (by (try rw [List.length_append]); exact (by (repeat (first | exact keep_nil | refine keep_cons rfl ?_)); first | done | fail)), Sub.autoD⟩
  · refine sr_nil ?_
    refine aw_keep (keep_cons (t := 0) rfl (keep_cons (t := 1) rfl (keep_cons (t := 4) rfl (keep_cons (t := 5) rfl (keep_cons (t := 6) rfl (keep_cons (t := 10) rfl (keep_cons (t := 11) rfl (keep_cons (t := 12) rfl (keep_cons (t := 13) rfl keep_nil))))))))) ?_
    refine aw_false rfl ?_
    refine aw_exit ?_
    show AW _ _ _ _ _ _ _
    refine aw_seq_region ?_
    refine sr_x rfl (wtd_none rfl) rfl (Rd.x (x_move rfl)) ?_
    refine sr_x rfl (wtd_none rfl) rfl (Rd.x (x_assign rfl)) ?_
    refine sr_nil ?_
    refine aw_keep (keep_cons (t := 4) rfl keep_nil) ?_
    refine aw_ret ?_
    show ∃ v H2, ResV _ _ _ _ _ _ v ∧ Sub H2 _ ∧ _
    (obtain rfl : k = xs.length := (by omega)); exact ⟨_, (plB q free now (.slice b L.length d) ver :: (EL ++ (EO ++ G))), resV rfl (.cons rfl .nil), Sub.autoP, cs, f, L, ver, b, d, EL, ao, co, EO, rfl, hpl, VO, by omega, rfl⟩
end
end Go.Proofs.Ytjkojdjjooangaa
