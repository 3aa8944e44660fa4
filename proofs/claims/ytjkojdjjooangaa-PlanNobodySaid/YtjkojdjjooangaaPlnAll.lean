/- Planning: New, Next, All. -/
import Derived.Test.YtjkojdjjooangaaPln
namespace Go.Proofs.Ytjkojdjjooangaa
open Go.Proofs.Ytjkojdjjooangaa.Sym
open Go.RowKit (Below)
set_option linter.unusedVariables false
set_option linter.unusedSimpArgs false
/-- A planner, j items in. -/
structure PlS (now : Int) (L : List Item) (f0 : Int → Int) (j : Nat) (f : Int → Int) (cs : List Choice) (S : List PStep) (ver : Int) : Prop where
  plan : PlanK now L j f0 cs f
  rep : Rep S now f
  rng : ∀ t, now ≤ t → 0 ≤ f t ∧ f t ≤ 64
  nw : 0 ≤ now ∧ now ≤ 1099511627776
  vr : 0 ≤ ver ∧ ver ≤ 200 + 2 * (j : Int)
  sl : S.length ≤ 200 + 4 * j
  cl : cs.length ≤ j
  jl : j ≤ L.length
  ll : L.length ≤ 64
theorem PlS.step {now ver ver' : Int} {L : List Item} {f0 f f' : Int → Int} {j : Nat} {cs cs' : List Choice} {S S' : List PStep} {x : Item} {c : Option Choice} (h : PlS now L f0 j f cs S ver) (hx : L[j]? = some x) (h1 : OneC now f x f' c) (h2 : Rep S' now f') (h3 : ∀ t, now ≤ t → 0 ≤ f' t ∧ f' t ≤ 64) (h4 : S'.length ≤ S.length + 4) (h5 : ver ≤ ver') (h6 : ver' ≤ ver + 2) (h7 : cs' = cs ++ c.toList) : PlS now L f0 (j + 1) f' cs' S' ver' := by
  have q1 := h.vr
  have q2 := h.sl
  have q3 := h.cl
  refine ⟨⟨x, cs, f, c, hx, h.plan, h1, h7⟩, h2, h3, h.nw, by omega, by omega, ?_, get_lt hx, h.ll⟩
  rw [h7, List.length_append]
  cases c with
  | none => simp; omega
  | some c => simp; omega
structure PlG where
  k : Nat
  f : Int → Int
  cs : List Choice
  S : List PStep
  a : Option Addr
  c : Nat
  E : SHeap
  ver : Int
  ao : Option Addr
  co : Nat
  EO : SHeap
theorem cl100 : Callable Try.prog 100 := ⟨Try.f100, Try.func100, by kernel_rfl, by kernel_rfl⟩
theorem cl102 : Callable Try.prog 102 := ⟨Try.f102, Try.func102, by kernel_rfl, by kernel_rfl⟩
theorem cl37 : Callable Try.prog 37 := ⟨Try.f37, Try.func37, by kernel_rfl, by kernel_rfl⟩
theorem cl50 : Callable Try.prog 50 := ⟨Try.f50, Try.func50, by kernel_rfl, by kernel_rfl⟩
theorem cl51 : Callable Try.prog 51 := ⟨Try.f51, Try.func51, by kernel_rfl, by kernel_rfl⟩
theorem cl52 : Callable Try.prog 52 := ⟨Try.f52, Try.func52, by kernel_rfl, by kernel_rfl⟩
theorem cl53 : Callable Try.prog 53 := ⟨Try.f53, Try.func53, by kernel_rfl, by kernel_rfl⟩
theorem cl98 : Callable Try.prog 98 := ⟨Try.f98, Try.func98, by kernel_rfl, by kernel_rfl⟩
theorem fl145 : flds Try.prog 145 = some [(0, 1), (1, 1), (2, 1), (3, 1)] := by kernel_rfl
theorem zr145 : zeroOf Try.prog 145 = some (.agg #[.pointer none, .slice none 0 0, .int .i64 0, .slice none 0 0]) := by kernel_rfl
section
variable {W0 : World}
set_option maxRecDepth 100000 in
set_option maxHeartbeats 400000 in
theorem ynewArg_s (p : Nat) (a : Option Addr) (cap : Nat) (S : List PStep) (ver : Int) (H : SHeap) (hc : Cells W0 H p 0 [.slice a S.length cap, .int .i64 ver]) (hs : SlV W0 H 2 PStep.cells a cap S) (hps : 0 < S.length) (hl : S.length ≤ 1000) (d : Int) (ai : Option Addr) (ci : Nat) (xs : List Item) (hi : SlV W0 H 4 Item.cells ai ci xs) (hd : ¬ (1 ≤ d ∧ d ≤ 64)) : AC Try.prog W0 50 [.pointer (some ⟨p, 0, none⟩), .int .i64 d, .slice ai xs.length ci] H (fun v H' => v = .tuple #[.pointer none, .int .i64 1] ∧ H' = H) := by
  have hxl := hi.le
  have hxc := hi.capb
  refine ac_of Try.func50 rfl rfl rfl ?_
  refine aw_seq_region ?_
  refine sr_x rfl (wtd_none rfl) rfl (Rd.x (x_assign rfl)) ?_
  refine sr_x rfl (wtd_none rfl) rfl (Rd.x (x_assign rfl)) ?_
  refine sr_nil ?_
  refine aw_keep (keep_cons (t := 0) rfl (keep_cons (t := 1) rfl (keep_cons (t := 2) rfl (keep_cons (t := 6) rfl (keep_cons (t := 7) rfl keep_nil))))) ?_
  refine aw_seq ?_
  refine aw_block ?_
  refine aw_seq_region ?_
  refine sr_x rfl (wtd_none rfl) rfl (Rd.x (x_move rfl)) ?_
  refine sr_d rfl (wtd_none rfl) rfl (opS_call rfl rfl rfl rfl cl37 (pcopy_s p a cap S ver _ (Cells.mono hc (by repeat (first | exact Sub.refl _ | apply Sub.drop | apply Sub.dropE))) (hs.mono (by repeat (first | exact Sub.refl _ | apply Sub.drop | apply Sub.dropE))) hps (by omega))) ?_
  rintro _ _ ⟨q1, a1, c1, E1, rfl, V1, rfl⟩
  refine sr_x rfl (wtd_none rfl) rfl (Rd.x (x_eqnil Try.underlying23 rfl rfl)) ?_
  refine sr_x rfl (wtd_none rfl) rfl (Rd.x (x_move rfl)) ?_
  refine sr_x rfl (wtd_yes rfl rfl rfl) rfl (Rd.x (x_move rfl)) ?_
  refine sr_cmp rfl (wtd_yes rfl rfl rfl) rfl (Rd.x (x_lt rfl rfl)) (fun h1 => ?_) (fun h1 => ?_)
  · refine sr_x rfl (wtd_none rfl) rfl (Rd.x (x_pick_f rfl rfl rfl)) ?_
    refine sr_x rfl (wtd_none rfl) rfl (Rd.x (x_move rfl)) ?_
    refine sr_skip rfl (wtd_no rfl rfl rfl rfl) rfl ?_
    refine sr_skip rfl (wtd_no rfl rfl rfl rfl) rfl ?_
    refine sr_x rfl (wtd_none rfl) rfl (Rd.x (x_pick_t rfl rfl rfl)) ?_
    refine sr_x rfl (wtd_none rfl) rfl (Rd.x (x_assign rfl)) ?_
    refine sr_nil ?_
    refine aw_keep (keep_cons (t := 0) rfl (keep_cons (t := 1) rfl (keep_cons (t := 2) rfl (keep_cons (t := 6) rfl (keep_cons (t := 7) rfl (keep_cons (t := 8) rfl keep_nil)))))) ?_
    refine aw_true rfl ?_
    refine aw_seq_region ?_
    refine sr_x rfl (wtd_none rfl) rfl (Rd.x (x_assign rfl)) ?_
    refine sr_x rfl (wtd_none rfl) rfl (Rd.x (x_assign rfl)) ?_
    refine sr_nil ?_
    refine aw_keep (keep_cons (t := 0) rfl (keep_cons (t := 1) rfl (keep_cons (t := 2) rfl (keep_cons (t := 6) rfl (keep_cons (t := 7) rfl keep_nil))))) ?_
    refine aw_ret ?_
    show ∃ v H2, ResV _ _ _ _ _ _ v ∧ Sub H2 _ ∧ _
    exact ⟨_, H, resV rfl (.cons rfl (.cons rfl .nil)), (by repeat (first | exact Sub.refl _ | apply Sub.drop | apply Sub.dropE)), ⟨rfl, rfl⟩⟩
  · refine sr_x rfl (wtd_none rfl) rfl (Rd.x (x_pick_f rfl rfl rfl)) ?_
    refine sr_x rfl (wtd_none rfl) rfl (Rd.x (x_move rfl)) ?_
    refine sr_x rfl (wtd_yes rfl rfl rfl) rfl (Rd.x (x_move rfl)) ?_
    refine sr_cmp rfl (wtd_yes rfl rfl rfl) rfl (Rd.x (x_gt rfl rfl)) (fun h2 => ?_) (fun h2 => absurd (by first | omega | decide) h2)
    refine sr_x rfl (wtd_none rfl) rfl (Rd.x (x_pick_f rfl rfl rfl)) ?_
    refine sr_x rfl (wtd_none rfl) rfl (Rd.x (x_assign rfl)) ?_
    refine sr_nil ?_
    refine aw_keep (keep_cons (t := 0) rfl (keep_cons (t := 1) rfl (keep_cons (t := 2) rfl (keep_cons (t := 6) rfl (keep_cons (t := 7) rfl (keep_cons (t := 8) rfl keep_nil)))))) ?_
    refine aw_true rfl ?_
    refine aw_seq_region ?_
    refine sr_x rfl (wtd_none rfl) rfl (Rd.x (x_assign rfl)) ?_
    refine sr_x rfl (wtd_none rfl) rfl (Rd.x (x_assign rfl)) ?_
    refine sr_nil ?_
    refine aw_keep (keep_cons (t := 0) rfl (keep_cons (t := 1) rfl (keep_cons (t := 2) rfl (keep_cons (t := 6) rfl (keep_cons (t := 7) rfl keep_nil))))) ?_
    refine aw_ret ?_
    show ∃ v H2, ResV _ _ _ _ _ _ v ∧ Sub H2 _ ∧ _
    exact ⟨_, H, resV rfl (.cons rfl (.cons rfl .nil)), (by repeat (first | exact Sub.refl _ | apply Sub.drop | apply Sub.dropE)), ⟨rfl, rfl⟩⟩
set_option maxRecDepth 100000 in
set_option maxHeartbeats 400000 in
theorem ynewRng_s (p : Nat) (a : Option Addr) (cap : Nat) (S : List PStep) (ver : Int) (H : SHeap) (hc : Cells W0 H p 0 [.slice a S.length cap, .int .i64 ver]) (hs : SlV W0 H 2 PStep.cells a cap S) (hps : 0 < S.length) (hl : S.length ≤ 1000) (d : Int) (ai : Option Addr) (ci : Nat) (xs : List Item) (hi : SlV W0 H 4 Item.cells ai ci xs) (hd : 1 ≤ d ∧ d ≤ 64) (hbad : ∃ x ∈ xs.take d.toNat, ¬ RightI x) : AC Try.prog W0 50 [.pointer (some ⟨p, 0, none⟩), .int .i64 d, .slice ai xs.length ci] H (fun v H' => v = .tuple #[.pointer none, .int .i64 5] ∧ H' = H) := by
  have hxl := hi.le
  have hxc := hi.capb
  refine ac_of Try.func50 rfl rfl rfl ?_
  refine aw_seq_region ?_
  refine sr_x rfl (wtd_none rfl) rfl (Rd.x (x_assign rfl)) ?_
  refine sr_x rfl (wtd_none rfl) rfl (Rd.x (x_assign rfl)) ?_
  refine sr_nil ?_
  refine aw_keep (keep_cons (t := 0) rfl (keep_cons (t := 1) rfl (keep_cons (t := 2) rfl (keep_cons (t := 6) rfl (keep_cons (t := 7) rfl keep_nil))))) ?_
  refine aw_seq ?_
  refine aw_block ?_
  refine aw_seq_region ?_
  refine sr_x rfl (wtd_none rfl) rfl (Rd.x (x_move rfl)) ?_
  refine sr_d rfl (wtd_none rfl) rfl (opS_call rfl rfl rfl rfl cl37 (pcopy_s p a cap S ver _ (Cells.mono hc (by repeat (first | exact Sub.refl _ | apply Sub.drop | apply Sub.dropE))) (hs.mono (by repeat (first | exact Sub.refl _ | apply Sub.drop | apply Sub.dropE))) hps (by omega))) ?_
  rintro _ _ ⟨q1, a1, c1, E1, rfl, V1, rfl⟩
  refine sr_x rfl (wtd_none rfl) rfl (Rd.x (x_eqnil Try.underlying23 rfl rfl)) ?_
  refine sr_x rfl (wtd_none rfl) rfl (Rd.x (x_move rfl)) ?_
  refine sr_x rfl (wtd_yes rfl rfl rfl) rfl (Rd.x (x_move rfl)) ?_
  refine sr_cmp rfl (wtd_yes rfl rfl rfl) rfl (Rd.x (x_lt rfl rfl)) (fun h1 => absurd h1 (by first | omega | decide)) (fun h1 => ?_)
  refine sr_x rfl (wtd_none rfl) rfl (Rd.x (x_pick_f rfl rfl rfl)) ?_
  refine sr_x rfl (wtd_none rfl) rfl (Rd.x (x_move rfl)) ?_
  refine sr_x rfl (wtd_yes rfl rfl rfl) rfl (Rd.x (x_move rfl)) ?_
  refine sr_cmp rfl (wtd_yes rfl rfl rfl) rfl (Rd.x (x_gt rfl rfl)) (fun h2 => absurd h2 (by first | omega | decide)) (fun h2 => ?_)
  refine sr_x rfl (wtd_none rfl) rfl (Rd.x (x_pick_f rfl rfl rfl)) ?_
  refine sr_x rfl (wtd_none rfl) rfl (Rd.x (x_assign rfl)) ?_
  refine sr_nil ?_
  refine aw_keep (keep_cons (t := 0) rfl (keep_cons (t := 1) rfl (keep_cons (t := 2) rfl (keep_cons (t := 6) rfl (keep_cons (t := 7) rfl (keep_cons (t := 8) rfl keep_nil)))))) ?_
  refine aw_false rfl ?_
  refine aw_skip ?_
  show AW _ _ _ _ _ _ _
  refine aw_seq_region ?_
  refine sr_x rfl (wtd_none rfl) rfl (Rd.x (x_move rfl)) ?_
  refine sr_x rfl (wtd_none rfl) rfl (Rd.x (x_move rfl)) ?_
  refine sr_x rfl (wtd_none rfl) rfl (Rd.x (x_lenSlice Try.underlying58 rfl)) ?_
  refine sr_x rfl (wtd_none rfl) rfl (Rd.x (x_move rfl)) ?_
  refine sr_x rfl (wtd_none rfl) rfl (Rd.x (x_min rfl rfl)) ?_
  refine sr_x rfl (wtd_none rfl) rfl (Rd.x (x_sliceHi Try.underlying58 sz66 rfl rfl (by omega) (by omega))) ?_
  refine sr_x rfl (wtd_none rfl) rfl (Rd.x (x_assign rfl)) ?_
  refine sr_nil ?_
  refine aw_keep (keep_cons (t := 0) rfl (keep_cons (t := 2) rfl (keep_cons (t := 6) rfl (keep_cons (t := 7) rfl keep_nil)))) ?_
  refine aw_seq ?_
  refine aw_seq_region ?_
  have e9 : (min (xs.length : Int) d).toNat = (xs.take d.toNat).length := by rw [List.length_take]; omega
  rw [e9]
  refine sr_x rfl (wtd_none rfl) rfl (Rd.x (x_move rfl)) ?_
  refine sr_d rfl (wtd_none rfl) rfl (opS_call rfl rfl rfl rfl cl98 (icon_s ai ci (xs.take d.toNat) _ ((hi.mono (by repeat (first | exact Sub.refl _ | apply Sub.drop | apply Sub.dropE))).take d.toNat))) ?_
  rintro _ H9 ⟨⟨b, rfl, hb⟩, rfl⟩
  obtain rfl : b = true := hb.2 hbad
  refine sr_nil ?_
  refine aw_keep (keep_cons (t := 0) rfl (keep_cons (t := 2) rfl (keep_cons (t := 6) rfl (keep_cons (t := 7) rfl (keep_cons (t := 27) rfl keep_nil))))) ?_
  refine aw_true rfl ?_
  refine aw_seq_region ?_
  refine sr_x rfl (wtd_none rfl) rfl (Rd.x (x_assign rfl)) ?_
  refine sr_x rfl (wtd_none rfl) rfl (Rd.x (x_assign rfl)) ?_
  refine sr_nil ?_
  refine aw_keep (keep_cons (t := 0) rfl (keep_cons (t := 2) rfl (keep_cons (t := 6) rfl (keep_cons (t := 7) rfl keep_nil)))) ?_
  refine aw_ret ?_
  show ∃ v H2, ResV _ _ _ _ _ _ v ∧ Sub H2 _ ∧ _
  exact ⟨_, H, resV rfl (.cons rfl (.cons rfl .nil)), (by repeat (first | exact Sub.refl _ | apply Sub.drop | apply Sub.dropE)), ⟨rfl, rfl⟩⟩
set_option maxRecDepth 100000 in
set_option maxHeartbeats 2000000 in
theorem ynew_s (p : Nat) (a : Option Addr) (cap : Nat) (S : List PStep) (ver : Int) (H : SHeap) (hc : Cells W0 H p 0 [.slice a S.length cap, .int .i64 ver]) (hs : SlV W0 H 2 PStep.cells a cap S) (hps : 0 < S.length) (hl : S.length ≤ 1000) (d : Int) (ai : Option Addr) (ci : Nat) (xs : List Item) (hi : SlV W0 H 4 Item.cells ai ci xs) (hd : 1 ≤ d ∧ d ≤ 64) (hok : ∀ x ∈ xs.take d.toNat, RightI x) : AC Try.prog W0 50 [.pointer (some ⟨p, 0, none⟩), .int .i64 d, .slice ai xs.length ci] H (fun v H' => ∃ y q a2 c2 E2 a3 c3 E3, v = .tuple #[.pointer (some ⟨y, 0, none⟩), .int .i64 0] ∧ OwnVec 2 76 (.slice a2 S.length c2) S.length (S.flatMap PStep.cells) E2 ∧ OwnVec 4 66 (.slice a3 (xs.take d.toNat).length c3) (xs.take d.toNat).length ((xs.take d.toNat).flatMap Item.cells) E3 ∧ H' = plnB y q (.slice a3 (xs.take d.toNat).length c3) 0 (.slice none 0 0) :: prB q (.slice a2 S.length c2) ver :: (E2 ++ (E3 ++ H))) := by
  have hxl := hi.le
  have hxc := hi.capb
  refine ac_of Try.func50 rfl rfl rfl ?_
  refine aw_seq_region ?_
  refine sr_x rfl (wtd_none rfl) rfl (Rd.x (x_assign rfl)) ?_
  refine sr_x rfl (wtd_none rfl) rfl (Rd.x (x_assign rfl)) ?_
  refine sr_nil ?_
  refine aw_keep (keep_cons (t := 0) rfl (keep_cons (t := 1) rfl (keep_cons (t := 2) rfl (keep_cons (t := 6) rfl (keep_cons (t := 7) rfl keep_nil))))) ?_
  refine aw_seq ?_
  refine aw_block ?_
  refine aw_seq_region ?_
  refine sr_x rfl (wtd_none rfl) rfl (Rd.x (x_move rfl)) ?_
  refine sr_d rfl (wtd_none rfl) rfl (opS_call rfl rfl rfl rfl cl37 (pcopy_s p a cap S ver _ (Cells.mono hc (by repeat (first | exact Sub.refl _ | apply Sub.drop | apply Sub.dropE))) (hs.mono (by repeat (first | exact Sub.refl _ | apply Sub.drop | apply Sub.dropE))) hps (by omega))) ?_
  rintro _ _ ⟨q1, a1, c1, E1, rfl, V1, rfl⟩
  refine sr_x rfl (wtd_none rfl) rfl (Rd.x (x_eqnil Try.underlying23 rfl rfl)) ?_
  refine sr_x rfl (wtd_none rfl) rfl (Rd.x (x_move rfl)) ?_
  refine sr_x rfl (wtd_yes rfl rfl rfl) rfl (Rd.x (x_move rfl)) ?_
  refine sr_cmp rfl (wtd_yes rfl rfl rfl) rfl (Rd.x (x_lt rfl rfl)) (fun h1 => absurd h1 (by first | omega | decide)) (fun h1 => ?_)
  refine sr_x rfl (wtd_none rfl) rfl (Rd.x (x_pick_f rfl rfl rfl)) ?_
  refine sr_x rfl (wtd_none rfl) rfl (Rd.x (x_move rfl)) ?_
  refine sr_x rfl (wtd_yes rfl rfl rfl) rfl (Rd.x (x_move rfl)) ?_
  refine sr_cmp rfl (wtd_yes rfl rfl rfl) rfl (Rd.x (x_gt rfl rfl)) (fun h2 => absurd h2 (by first | omega | decide)) (fun h2 => ?_)
  refine sr_x rfl (wtd_none rfl) rfl (Rd.x (x_pick_f rfl rfl rfl)) ?_
  refine sr_x rfl (wtd_none rfl) rfl (Rd.x (x_assign rfl)) ?_
  refine sr_nil ?_
  refine aw_keep (keep_cons (t := 0) rfl (keep_cons (t := 1) rfl (keep_cons (t := 2) rfl (keep_cons (t := 6) rfl (keep_cons (t := 7) rfl (keep_cons (t := 8) rfl keep_nil)))))) ?_
  refine aw_false rfl ?_
  refine aw_skip ?_
  show AW _ _ _ _ _ _ _
  refine aw_seq_region ?_
  refine sr_x rfl (wtd_none rfl) rfl (Rd.x (x_move rfl)) ?_
  refine sr_x rfl (wtd_none rfl) rfl (Rd.x (x_move rfl)) ?_
  refine sr_x rfl (wtd_none rfl) rfl (Rd.x (x_lenSlice Try.underlying58 rfl)) ?_
  refine sr_x rfl (wtd_none rfl) rfl (Rd.x (x_move rfl)) ?_
  refine sr_x rfl (wtd_none rfl) rfl (Rd.x (x_min rfl rfl)) ?_
  refine sr_x rfl (wtd_none rfl) rfl (Rd.x (x_sliceHi Try.underlying58 sz66 rfl rfl (by omega) (by omega))) ?_
  refine sr_x rfl (wtd_none rfl) rfl (Rd.x (x_assign rfl)) ?_
  refine sr_nil ?_
  refine aw_keep (keep_cons (t := 0) rfl (keep_cons (t := 2) rfl (keep_cons (t := 6) rfl (keep_cons (t := 7) rfl keep_nil)))) ?_
  refine aw_seq ?_
  refine aw_seq_region ?_
  have e9 : (min (xs.length : Int) d).toNat = (xs.take d.toNat).length := by rw [List.length_take]; omega
  rw [e9]
  refine sr_x rfl (wtd_none rfl) rfl (Rd.x (x_move rfl)) ?_
  refine sr_d rfl (wtd_none rfl) rfl (opS_call rfl rfl rfl rfl cl98 (icon_s ai ci (xs.take d.toNat) _ ((hi.mono (by repeat (first | exact Sub.refl _ | apply Sub.drop | apply Sub.dropE))).take d.toNat))) ?_
  rintro _ H9 ⟨⟨b, rfl, hb⟩, rfl⟩
  obtain rfl : b = false := (by cases b with | false => rfl | true => obtain ⟨x, h1, h2⟩ := hb.1 rfl; exact absurd (hok x h1) h2)
  refine sr_nil ?_
  refine aw_keep (keep_cons (t := 0) rfl (keep_cons (t := 2) rfl (keep_cons (t := 6) rfl (keep_cons (t := 7) rfl (keep_cons (t := 27) rfl keep_nil))))) ?_
  refine aw_false rfl ?_
  refine aw_skip ?_
  show AW _ _ _ _ _ _ _
  refine aw_seq_region ?_
  refine sr_x rfl (wtd_none rfl) rfl (Rd.x (x_move rfl)) ?_
  refine sr_d rfl (wtd_none rfl) rfl (opS_call rfl rfl rfl rfl cl37 (pcopy_s p a cap S ver _ (Cells.mono hc (by repeat (first | exact Sub.refl _ | apply Sub.drop | apply Sub.dropE))) (hs.mono (by repeat (first | exact Sub.refl _ | apply Sub.drop | apply Sub.dropE))) hps (by omega))) ?_
  rintro _ _ ⟨q2, a2, c2, E2, rfl, V2, rfl⟩
  refine sr_x rfl (wtd_none rfl) rfl (Rd.x (x_move rfl)) ?_
  refine sr_d rfl (wtd_none rfl) rfl (opS_call rfl rfl rfl rfl cl100 (iclone_s ai ci (xs.take d.toNat) _ ((hi.mono (by repeat (first | exact Sub.refl _ | apply Sub.drop | apply Sub.dropE))).take d.toNat) (by rw [List.length_take]; omega))) ?_
  rintro _ _ ⟨E3, ⟨a3, c3, V3, rfl⟩, rfl⟩
  refine sr_x rfl (wtd_none rfl) rfl (Rd.x (x_build zr145 rfl fl145 (by repeat (first | exact Parts.nil | (apply Parts.cons; rfl))) (by repeat (first | exact Fill.done | (apply Fill.part; rfl; rfl; rfl; focus (repeat (first | exact Spl.done | exact Spl.all rfl | apply Spl.put | apply Spl.skip))))))) ?_
  refine sr_new rfl (wtd_none rfl) rfl (x_box rfl rfl) ?_
  intro r6_5 hr6_5 gr6_5
  refine sr_x rfl (wtd_none rfl) rfl (Rd.x (x_assign rfl)) ?_
  refine sr_x rfl (wtd_none rfl) rfl (Rd.x (x_assign rfl)) ?_
  refine sr_nil ?_
  refine aw_keep (keep_cons (t := 6) rfl (keep_cons (t := 7) rfl keep_nil)) ?_
  refine aw_ret ?_
  show ∃ v H2, ResV _ _ _ _ _ _ v ∧ Sub H2 _ ∧ _
  exact ⟨_, plnB r6_5 q2 (.slice a3 (xs.take d.toNat).length c3) 0 (.slice none 0 0) :: prB q2 (.slice a2 S.length c2) ver :: (E2 ++ (E3 ++ H)), resV rfl (.cons rfl (.cons rfl .nil)), Sub.autoP, r6_5, q2, a2, c2, E2, a3, c3, E3, rfl, V2, V3, rfl⟩
set_option maxRecDepth 100000 in
set_option maxHeartbeats 400000 in
theorem ynewN_s (d : Int) (ai : Option Addr) (n ci : Nat) (H : SHeap) : AC Try.prog W0 50 [.pointer none, .int .i64 d, .slice ai n ci] H (fun v H' => v = .tuple #[.pointer none, .int .i64 1] ∧ H' = H) := by
  refine ac_of Try.func50 rfl rfl rfl ?_
  refine aw_seq_region ?_
  refine sr_x rfl (wtd_none rfl) rfl (Rd.x (x_assign rfl)) ?_
  refine sr_x rfl (wtd_none rfl) rfl (Rd.x (x_assign rfl)) ?_
  refine sr_nil ?_
  refine aw_keep (keep_cons (t := 0) rfl (keep_cons (t := 1) rfl (keep_cons (t := 2) rfl (keep_cons (t := 6) rfl (keep_cons (t := 7) rfl keep_nil))))) ?_
  refine aw_seq ?_
  refine aw_block ?_
  refine aw_seq_region ?_
  refine sr_x rfl (wtd_none rfl) rfl (Rd.x (x_move rfl)) ?_
  refine sr_d rfl (wtd_none rfl) rfl (opS_call rfl rfl rfl rfl cl37 (pcopyN_s _)) ?_
  rintro _ H ⟨rfl, rfl⟩
  refine sr_x rfl (wtd_none rfl) rfl (Rd.x (x_eqnil Try.underlying23 rfl rfl)) ?_
  refine sr_x rfl (wtd_none rfl) rfl (Rd.x (x_move rfl)) ?_
  refine sr_skip rfl (wtd_no rfl rfl rfl rfl) rfl ?_
  refine sr_skip rfl (wtd_no rfl rfl rfl rfl) rfl ?_
  refine sr_x rfl (wtd_none rfl) rfl (Rd.x (x_pick_t rfl rfl rfl)) ?_
  refine sr_x rfl (wtd_none rfl) rfl (Rd.x (x_move rfl)) ?_
  refine sr_skip rfl (wtd_no rfl rfl rfl rfl) rfl ?_
  refine sr_skip rfl (wtd_no rfl rfl rfl rfl) rfl ?_
  refine sr_x rfl (wtd_none rfl) rfl (Rd.x (x_pick_t rfl rfl rfl)) ?_
  refine sr_x rfl (wtd_none rfl) rfl (Rd.x (x_assign rfl)) ?_
  refine sr_nil ?_
  refine aw_keep (keep_cons (t := 0) rfl (keep_cons (t := 1) rfl (keep_cons (t := 2) rfl (keep_cons (t := 6) rfl (keep_cons (t := 7) rfl (keep_cons (t := 8) rfl keep_nil)))))) ?_
  refine aw_true rfl ?_
  refine aw_seq_region ?_
  refine sr_x rfl (wtd_none rfl) rfl (Rd.x (x_assign rfl)) ?_
  refine sr_x rfl (wtd_none rfl) rfl (Rd.x (x_assign rfl)) ?_
  refine sr_nil ?_
  refine aw_keep (keep_cons (t := 0) rfl (keep_cons (t := 1) rfl (keep_cons (t := 2) rfl (keep_cons (t := 6) rfl (keep_cons (t := 7) rfl keep_nil))))) ?_
  refine aw_ret ?_
  show ∃ v H2, ResV _ _ _ _ _ _ v ∧ Sub H2 _ ∧ _
  exact ⟨_, H, resV rfl (.cons rfl (.cons rfl .nil)), (by repeat (first | exact Sub.refl _ | apply Sub.drop)), ⟨rfl, rfl⟩⟩
set_option maxRecDepth 100000 in
set_option maxHeartbeats 400000 in
theorem ynewZ_s (d : Int) (ai : Option Addr) (n ci : Nat) (H : SHeap) (z : Nat) (hc : Cells W0 H z 0 [.slice none 0 0, .int .i64 0]) : AC Try.prog W0 50 [.pointer (some ⟨z, 0, none⟩), .int .i64 d, .slice ai n ci] H (fun v H' => v = .tuple #[.pointer none, .int .i64 1] ∧ H' = H) := by
  refine ac_of Try.func50 rfl rfl rfl ?_
  refine aw_seq_region ?_
  refine sr_x rfl (wtd_none rfl) rfl (Rd.x (x_assign rfl)) ?_
  refine sr_x rfl (wtd_none rfl) rfl (Rd.x (x_assign rfl)) ?_
  refine sr_nil ?_
  refine aw_keep (keep_cons (t := 0) rfl (keep_cons (t := 1) rfl (keep_cons (t := 2) rfl (keep_cons (t := 6) rfl (keep_cons (t := 7) rfl keep_nil))))) ?_
  refine aw_seq ?_
  refine aw_block ?_
  refine aw_seq_region ?_
  refine sr_x rfl (wtd_none rfl) rfl (Rd.x (x_move rfl)) ?_
  refine sr_d rfl (wtd_none rfl) rfl (opS_call rfl rfl rfl rfl cl37 (pcopyZ_s z _ (Cells.mono hc (by repeat (first | exact Sub.refl _ | apply Sub.drop | apply Sub.dropE))))) ?_
  rintro _ H ⟨rfl, rfl⟩
  refine sr_x rfl (wtd_none rfl) rfl (Rd.x (x_eqnil Try.underlying23 rfl rfl)) ?_
  refine sr_x rfl (wtd_none rfl) rfl (Rd.x (x_move rfl)) ?_
  refine sr_skip rfl (wtd_no rfl rfl rfl rfl) rfl ?_
  refine sr_skip rfl (wtd_no rfl rfl rfl rfl) rfl ?_
  refine sr_x rfl (wtd_none rfl) rfl (Rd.x (x_pick_t rfl rfl rfl)) ?_
  refine sr_x rfl (wtd_none rfl) rfl (Rd.x (x_move rfl)) ?_
  refine sr_skip rfl (wtd_no rfl rfl rfl rfl) rfl ?_
  refine sr_skip rfl (wtd_no rfl rfl rfl rfl) rfl ?_
  refine sr_x rfl (wtd_none rfl) rfl (Rd.x (x_pick_t rfl rfl rfl)) ?_
  refine sr_x rfl (wtd_none rfl) rfl (Rd.x (x_assign rfl)) ?_
  refine sr_nil ?_
  refine aw_keep (keep_cons (t := 0) rfl (keep_cons (t := 1) rfl (keep_cons (t := 2) rfl (keep_cons (t := 6) rfl (keep_cons (t := 7) rfl (keep_cons (t := 8) rfl keep_nil)))))) ?_
  refine aw_true rfl ?_
  refine aw_seq_region ?_
  refine sr_x rfl (wtd_none rfl) rfl (Rd.x (x_assign rfl)) ?_
  refine sr_x rfl (wtd_none rfl) rfl (Rd.x (x_assign rfl)) ?_
  refine sr_nil ?_
  refine aw_keep (keep_cons (t := 0) rfl (keep_cons (t := 1) rfl (keep_cons (t := 2) rfl (keep_cons (t := 6) rfl (keep_cons (t := 7) rfl keep_nil))))) ?_
  refine aw_ret ?_
  show ∃ v H2, ResV _ _ _ _ _ _ v ∧ Sub H2 _ ∧ _
  exact ⟨_, H, resV rfl (.cons rfl (.cons rfl .nil)), (by repeat (first | exact Sub.refl _ | apply Sub.drop)), ⟨rfl, rfl⟩⟩
set_option maxRecDepth 100000 in
set_option maxHeartbeats 4000000 in
theorem ynext_s (y p : Nat) (a : Option Addr) (cap : Nat) (S : List PStep) (ver : Int) (E : SHeap) (V : OffVec 2 76 (.slice a S.length cap) S.length (S.flatMap PStep.cells) E) (ai : Option Addr) (ci : Nat) (L : List Item) (EI : SHeap) (VI : OwnVec 4 66 (.slice ai L.length ci) L.length (L.flatMap Item.cells) EI) (ao : Option Addr) (co : Nat) (cs : List Choice) (EO G : SHeap) (VO : OwnVec 2 80 (.slice ao cs.length co) cs.length (cs.flatMap Choice.cells) EO) (now : Int) (f0 f : Int → Int) (j : Nat) (hst : PlS now L f0 j f cs S ver) (hok : ∀ x ∈ L, RightI x) (n : Int) : AC Try.prog W0 51 [.pointer (some ⟨y, 0, none⟩), .int .i64 n] (plnB y p (.slice ai L.length ci) (j : Nat) (.slice ao cs.length co) :: prB p (.slice a S.length cap) ver :: (E ++ (EO ++ (EI ++ G)))) (fun v H' => ∃ (f' : Int → Int) (S' : List PStep) (ver' : Int) (a' : Option Addr) (c' : Nat) (E' : SHeap) (cs' : List Choice) (ao' : Option Addr) (co' : Nat) (EO' : SHeap), v = .int .i64 (min n.toNat (L.length - j) : Nat) ∧ PlS now L f0 (j + min n.toNat (L.length - j)) f' cs' S' ver' ∧ OffVec 2 76 (.slice a' S'.length c') S'.length (S'.flatMap PStep.cells) E' ∧ OwnVec 2 80 (.slice ao' cs'.length co') cs'.length (cs'.flatMap Choice.cells) EO' ∧ H' = (plnB y p (.slice ai L.length ci) ((j + min n.toNat (L.length - j) : Nat) : Int) (.slice ao' cs'.length co') :: prB p (.slice a' S'.length c') ver' :: (E' ++ (EO' ++ (EI ++ G))))) := by
  have hsI := VI.slv' (W0 := W0) (fun _ => rfl) rfl (Sub.refl _)
  have hil := hsI.le
  have hic := hsI.capb
  have hjl := hst.jl
  have hll := hst.ll
  refine ac_of Try.func51 rfl rfl rfl ?_
  refine aw_seq_region ?_
  refine sr_x rfl (wtd_none rfl) rfl (Rd.x (x_assign rfl)) ?_
  refine sr_nil ?_
  refine aw_keep (keep_cons (t := 0) rfl (keep_cons (t := 1) rfl (keep_cons (t := 4) rfl keep_nil))) ?_
  refine aw_seq ?_
  refine aw_seq_region ?_
  refine sr_x rfl (wtd_none rfl) rfl (Rd.x (x_move rfl)) ?_
  refine sr_d rfl (wtd_none rfl) rfl (opS_call rfl rfl rfl rfl cl101 (ynone_s y p _ _ _ _ (cells_ext (by repeat (first | exact List.mem_cons_self | apply List.mem_cons_of_mem | apply List.mem_append_right)) (by repeat (first | exact Ext.all _ | exact Ext.done | apply Ext.take | apply Ext.skip))))) ?_
  rintro _ H9 ⟨rfl, rfl⟩
  refine sr_nil ?_
  refine aw_keep (keep_cons (t := 0) rfl (keep_cons (t := 1) rfl (keep_cons (t := 4) rfl (keep_cons (t := 7) rfl keep_nil)))) ?_
  refine aw_false rfl ?_
  refine aw_skip ?_
  show AW _ _ _ _ _ _ _
  refine aw_seq_region ?_
  refine sr_x rfl (wtd_none rfl) rfl (Rd.x (x_assign rfl)) ?_
  refine sr_nil ?_
  refine aw_keep (keep_cons (t := 0) rfl (keep_cons (t := 1) rfl (keep_cons (t := 4) rfl (keep_cons (t := 5) rfl keep_nil)))) ?_
  refine aw_seq ?_
  refine aw_block ?_
  refine aw_loop (ι := PlG) (fun s => j + s.k ≤ L.length ∧ (s.k : Int) ≤ max n 0 ∧ PlS now L f0 (j + s.k) s.f s.cs s.S s.ver ∧ OffVec 2 76 (.slice s.a s.S.length s.c) s.S.length (s.S.flatMap PStep.cells) s.E ∧ OwnVec 2 80 (.slice s.ao s.cs.length s.co) s.cs.length (s.cs.flatMap Choice.cells) s.EO) (fun s => [(0, .pointer (some ⟨y, 0, none⟩)), (1, .int .i64 n), (4, .int .i64 0), (5, .int .i64 s.k)]) (fun s => (plnB y p (.slice ai L.length ci) ((j + s.k : Nat) : Int) (.slice s.ao s.cs.length s.co) :: prB p (.slice s.a s.S.length s.c) s.ver :: (s.E ++ (s.EO ++ (EI ++ G))))) (fun s => L.length - s.k) ⟨0, f, cs, S, a, cap, E, ver, ao, co, EO⟩ (⟨by dsimp only; omega, by dsimp only; omega, hst, V, VO⟩) (by (repeat (first | exact keep_nil | refine keep_cons rfl ?_)); first | done | fail) Sub.autoP ?_
  intro s9 hs9
  obtain ⟨k, f1, cs1, S1, a1, c1, E1, ver1, ao1, co1, EO1⟩ := s9
  dsimp only at hs9 ⊢
  obtain ⟨hk, hkn, hs1, V1, VO1⟩ := hs9
  have hvr := hs1.vr
  have hsl := hs1.sl
  have hcl := hs1.cl
  refine aw_seq ?_
  refine aw_seq_dr ⟨_, 15, 45, [[], [], [0, 1], [0, 1, 2], [0, 1, 2, 3], [0, 1, 2, 3, 4], [0, 1, 2, 3, 4, 5], [0, 1, 2, 3, 4, 5, 6], [0, 1, 2, 3], [0, 1, 2, 3, 8], [0, 1, 2, 3, 8, 9], [0, 1, 2, 3, 8, 9, 10], [0, 1, 2, 3, 8, 9, 10, 11], [0, 1, 2, 3, 4, 5, 6, 7, 8, 9, 10, 11, 12], [0, 1, 2, 3, 4, 5, 6, 7, 8, 9, 10, 11, 12, 13]], [.light, .light, .light, .light, .light, .light, .light, .mem, .light, .light, .light, .mem, .light, .light, .light]⟩ (by kernel_rfl) rfl rfl mix ?_
  refine dr_light rfl rfl (wtd_none rfl) (x_move rfl) ?_
  refine dr_light rfl rfl (wtd_none rfl) (x_move rfl) ?_
  refine dr_cmp rfl rfl (wtd_none rfl) (x_lt rfl rfl) (fun h1 => ?_) (fun h1 => ?_)
  · refine dr_light rfl rfl (wtd_none rfl) (x_move rfl) ?_
    refine dr_light rfl rfl (wtd_yes rfl rfl rfl) (x_move rfl) ?_
    refine dr_light rfl rfl (wtd_yes rfl rfl rfl) (x_nilCheck rfl) ?_
    refine dr_light rfl rfl (wtd_yes rfl rfl rfl) (x_fieldAddr fd145_2 rfl) ?_
    refine dr_mem0 rfl rfl (wtd_yes rfl rfl rfl) (x_load ag3 rfl (cells_ext (by repeat (first | exact List.mem_cons_self | apply List.mem_cons_of_mem | apply List.mem_append_right)) (by repeat (first | exact Ext.all _ | exact Ext.done | apply Ext.take | apply Ext.skip)))) ?_
    refine dr_light rfl rfl (wtd_yes rfl rfl rfl) (x_move rfl) ?_
    refine dr_light rfl rfl (wtd_yes rfl rfl rfl) (x_nilCheck rfl) ?_
    refine dr_light rfl rfl (wtd_yes rfl rfl rfl) (x_fieldAddr fd145_1 rfl) ?_
    refine dr_mem0 rfl rfl (wtd_yes rfl rfl rfl) (x_load ag58 rfl (cells_ext (by repeat (first | exact List.mem_cons_self | apply List.mem_cons_of_mem | apply List.mem_append_right)) (by repeat (first | exact Ext.all _ | exact Ext.done | apply Ext.take | apply Ext.skip)))) ?_
    refine dr_light rfl rfl (wtd_yes rfl rfl rfl) (x_lenSlice Try.underlying58 rfl) ?_
    refine dr_cmp rfl rfl (wtd_yes rfl rfl rfl) (x_lt rfl rfl) (fun h2 => ?_) (fun h2 => ?_)
    · refine dr_light rfl rfl (wtd_none rfl) (x_pick_t rfl rfl rfl) ?_
      refine dr_nil0 ?_
      refine aw_keep (keep_cons (t := 0) rfl (keep_cons (t := 1) rfl (keep_cons (t := 4) rfl (keep_cons (t := 5) rfl (keep_cons (t := 8) rfl (keep_cons (t := 9) rfl (keep_cons (t := 10) rfl (keep_cons (t := 11) rfl (keep_cons (t := 12) rfl (keep_cons (t := 13) rfl (keep_cons (t := 14) rfl (keep_cons (t := 15) rfl (keep_cons (t := 16) rfl (keep_cons (t := 17) rfl (keep_cons (t := 18) rfl (keep_cons (t := 19) rfl (keep_cons (t := 20) rfl (keep_cons (t := 21) rfl (keep_cons (t := 22) rfl keep_nil))))))))))))))))))) ?_
      refine aw_true rfl ?_
      refine aw_skip ?_
      show AW _ _ _ _ _ _ _
      refine aw_seq ?_
      refine aw_block ?_
      refine aw_seq_dr ⟨_, 12, 45, [[], [], [1], [1, 2], [1, 2, 3], [], [5], [5, 6], [5, 6, 7], [1, 2, 3, 4, 5, 6, 7, 8], [1, 2, 3, 4, 5, 6, 7, 8, 9], [0, 1, 2, 3, 4, 5, 6, 7, 8, 9, 10]], [.light, .light, .light, .light, .mem, .light, .light, .light, .mem, .light, .mem, .eff]⟩ (by kernel_rfl) rfl rfl mix ?_
      obtain ⟨x, hx⟩ := get_ex (show j + k < L.length by omega)
      obtain ⟨bx, ox, hax, hcx⟩ := hsI.at_ _ _ hx
      refine dr_light rfl rfl (wtd_none rfl) (x_move rfl) ?_
      refine dr_light rfl rfl (wtd_none rfl) (x_move rfl) ?_
      refine dr_light rfl rfl (wtd_none rfl) (x_nilCheck rfl) ?_
      refine dr_light rfl rfl (wtd_none rfl) (x_fieldAddr fd145_1 rfl) ?_
      refine dr_mem0 rfl rfl (wtd_none rfl) (x_load ag58 rfl (cells_ext (by repeat (first | exact List.mem_cons_self | apply List.mem_cons_of_mem | apply List.mem_append_right)) (by repeat (first | exact Ext.all _ | exact Ext.done | apply Ext.take | apply Ext.skip)))) ?_
      refine dr_light rfl rfl (wtd_none rfl) (x_move rfl) ?_
      refine dr_light rfl rfl (wtd_none rfl) (x_nilCheck rfl) ?_
      refine dr_light rfl rfl (wtd_none rfl) (x_fieldAddr fd145_2 rfl) ?_
      refine dr_mem0 rfl rfl (wtd_none rfl) (x_load ag3 rfl (cells_ext (by repeat (first | exact List.mem_cons_self | apply List.mem_cons_of_mem | apply List.mem_append_right)) (by repeat (first | exact Ext.all _ | exact Ext.done | apply Ext.take | apply Ext.skip)))) ?_
      refine dr_light rfl rfl (wtd_none rfl) (x_indexAddrN (j + k) Try.underlying58 sz66 rfl hax rfl (by omega) (by omega)) ?_
      refine dr_mem0 rfl rfl (wtd_none rfl) (x_loadN ag66 sz66 rfl (Cells.mono hcx (Sub.takeE0 (by repeat (first | exact TakeE.here | apply TakeE.there | apply TakeE.app)))) rfl) ?_
      refine dr_effC rfl (V := []) rfl (L' := []) (clear_all rfl) rfl (wtd_none rfl) rfl rfl rfl rfl cl102 (AC.sub Sub.autoP (yone_s y p a1 c1 S1 ver1 E1 V1 (.slice ai L.length ci) ((j + k : Nat) : Int) ao1 co1 cs1 EO1 (EI ++ G) VO1 now f1 hs1.rep hs1.rng hs1.nw (by omega) (by omega) (by omega) x (hok x (List.mem_of_getElem? hx)))) ?_
      rintro _ _ ⟨f2, c2, S2, ver2, a2, cp2, E2, cs2, ao2, co2, EO2, rfl, hO, hR, hG, hL2, hv1, hv2, hc2, V2, VO2, rfl⟩
      refine dr_nil0 ?_
      refine aw_keep (keep_cons (t := 0) rfl (keep_cons (t := 1) rfl (keep_cons (t := 4) rfl (keep_cons (t := 5) rfl (keep_cons (t := 8) rfl (keep_cons (t := 9) rfl (keep_cons (t := 10) rfl (keep_cons (t := 11) rfl (keep_cons (t := 12) rfl (keep_cons (t := 13) rfl (keep_cons (t := 14) rfl (keep_cons (t := 15) rfl (keep_cons (t := 16) rfl (keep_cons (t := 17) rfl (keep_cons (t := 18) rfl (keep_cons (t := 19) rfl (keep_cons (t := 20) rfl (keep_cons (t := 21) rfl (keep_cons (t := 22) rfl (keep_cons (t := 25) rfl (keep_cons (t := 26) rfl (keep_cons (t := 27) rfl (keep_cons (t := 28) rfl (keep_cons (t := 29) rfl (keep_cons (t := 30) rfl (keep_cons (t := 31) rfl (keep_cons (t := 32) rfl (keep_cons (t := 33) rfl (keep_cons (t := 34) rfl (keep_cons (t := 35) rfl keep_nil)))))))))))))))))))))))))))))) ?_
      refine aw_region ?_
      refine sr_x rfl (wtd_none rfl) rfl (Rd.x (x_move rfl)) ?_
      refine sr_x rfl (wtd_none rfl) rfl (Rd.x (x_nilCheck rfl)) ?_
      refine sr_x rfl (wtd_none rfl) rfl (Rd.x (x_fieldAddr fd145_2 rfl)) ?_
      refine sr_x rfl (wtd_none rfl) rfl (Rd.x (x_load ag3 rfl (cells_ext (by repeat (first | exact List.mem_cons_self | apply List.mem_cons_of_mem | apply List.mem_append_right)) (by repeat (first | exact Ext.all _ | exact Ext.done | apply Ext.take | apply Ext.skip))))) ?_
      refine sr_x rfl (wtd_none rfl) rfl (Rd.x (x_cast (u := .int .i64 ((j + (k + 1) : Nat) : Int)) (x_add' rfl rfl (i64w (by omega) (by omega))) (by congr 1))) ?_
      refine sr_x rfl (wtd_none rfl) rfl (Rd.x (x_nilCheck rfl)) ?_
      refine sr_x rfl (wtd_none rfl) rfl (Rd.x (x_fieldAddr fd145_2 rfl)) ?_
      refine sr_x0 rfl (wtd_none rfl) (x_store sz3 rfl rfl rfl rfl rfl (by repeat (first | exact Repl.here | apply Repl.there | apply Repl.app)) (by repeat (first | exact Spl.done | exact Spl.all rfl | apply Spl.put | apply Spl.skip))) ?_
      refine sr_nil ?_
      show AW _ _ _ _ _ _ _
      refine aw_region ?_
      refine sr_x rfl (wtd_none rfl) rfl (Rd.x (x_move rfl)) ?_
      refine sr_x rfl (wtd_none rfl) rfl (Rd.x (x_add' rfl rfl (i64w (by omega) (by omega)))) ?_
      refine sr_x rfl (wtd_none rfl) rfl (Rd.x (x_assign rfl)) ?_
      refine sr_nil ?_
      show ∃ s', _ ∧ _ ∧ _ ∧ _
      exact ⟨⟨k + 1, f2, cs2, S2, a2, cp2, E2, ver2, ao2, co2, EO2⟩, ⟨by dsimp only; omega, by dsimp only; omega, hs1.step hx hO hR hG hL2 hv1 hv2 hc2, V2, VO2⟩, by dsimp only; omega, (by (repeat (first | exact keep_nil | refine keep_cons rfl ?_)); first | done | fail), Sub.autoP⟩
    · refine dr_light rfl rfl (wtd_none rfl) (x_pick_t rfl rfl rfl) ?_
      refine dr_nil0 ?_
      refine aw_keep (keep_cons (t := 0) rfl (keep_cons (t := 1) rfl (keep_cons (t := 4) rfl (keep_cons (t := 5) rfl (keep_cons (t := 8) rfl (keep_cons (t := 9) rfl (keep_cons (t := 10) rfl (keep_cons (t := 11) rfl (keep_cons (t := 12) rfl (keep_cons (t := 13) rfl (keep_cons (t := 14) rfl (keep_cons (t := 15) rfl (keep_cons (t := 16) rfl (keep_cons (t := 17) rfl (keep_cons (t := 18) rfl (keep_cons (t := 19) rfl (keep_cons (t := 20) rfl (keep_cons (t := 21) rfl (keep_cons (t := 22) rfl keep_nil))))))))))))))))))) ?_
      refine aw_false rfl ?_
      refine aw_exit ?_
      show AW _ _ _ _ _ _ _
      refine aw_seq_region ?_
      refine sr_x rfl (wtd_none rfl) rfl (Rd.x (x_move rfl)) ?_
      refine sr_x rfl (wtd_none rfl) rfl (Rd.x (x_assign rfl)) ?_
      refine sr_nil ?_
      refine aw_keep (keep_cons (t := 4) rfl keep_nil) ?_
      refine aw_ret ?_
      show ∃ v H2, ResV _ _ _ _ _ _ v ∧ Sub H2 _ ∧ _
      (obtain rfl : k = min n.toNat (L.length - j) := (by omega)); exact ⟨_, (plnB y p (.slice ai L.length ci) ((j + min n.toNat (L.length - j) : Nat) : Int) (.slice ao1 cs1.length co1) :: prB p (.slice a1 S1.length c1) ver1 :: (E1 ++ (EO1 ++ (EI ++ G)))), resV rfl (.cons rfl .nil), Sub.autoD, f1, S1, ver1, a1, c1, E1, cs1, ao1, co1, EO1, rfl, hs1, V1, VO1, rfl⟩
  · refine dr_light rfl rfl (wtd_none rfl) (x_move rfl) ?_
    refine dr_skip rfl (wtd_no rfl rfl rfl rfl) ?_
    refine dr_skip rfl (wtd_no rfl rfl rfl rfl) ?_
    refine dr_skip rfl (wtd_no rfl rfl rfl rfl) ?_
    refine dr_skip rfl (wtd_no rfl rfl rfl rfl) ?_
    refine dr_skip rfl (wtd_no rfl rfl rfl rfl) ?_
    refine dr_skip rfl (wtd_no rfl rfl rfl rfl) ?_
    refine dr_skip rfl (wtd_no rfl rfl rfl rfl) ?_
    refine dr_skip rfl (wtd_no rfl rfl rfl rfl) ?_
    refine dr_skip rfl (wtd_no rfl rfl rfl rfl) ?_
    refine dr_skip rfl (wtd_no rfl rfl rfl rfl) ?_
    refine dr_light rfl rfl (wtd_none rfl) (x_pick_f rfl rfl rfl) ?_
    refine dr_nil0 ?_
    refine aw_keep (keep_cons (t := 0) rfl (keep_cons (t := 1) rfl (keep_cons (t := 4) rfl (keep_cons (t := 5) rfl (keep_cons (t := 8) rfl (keep_cons (t := 9) rfl (keep_cons (t := 10) rfl (keep_cons (t := 11) rfl (keep_cons (t := 12) rfl (keep_cons (t := 13) rfl (keep_cons (t := 14) rfl (keep_cons (t := 15) rfl (keep_cons (t := 16) rfl (keep_cons (t := 17) rfl (keep_cons (t := 18) rfl (keep_cons (t := 19) rfl (keep_cons (t := 20) rfl (keep_cons (t := 21) rfl (keep_cons (t := 22) rfl keep_nil))))))))))))))))))) ?_
    refine aw_false rfl ?_
    refine aw_exit ?_
    show AW _ _ _ _ _ _ _
    refine aw_seq_region ?_
    refine sr_x rfl (wtd_none rfl) rfl (Rd.x (x_move rfl)) ?_
    refine sr_x rfl (wtd_none rfl) rfl (Rd.x (x_assign rfl)) ?_
    refine sr_nil ?_
    refine aw_keep (keep_cons (t := 4) rfl keep_nil) ?_
    refine aw_ret ?_
    show ∃ v H2, ResV _ _ _ _ _ _ v ∧ Sub H2 _ ∧ _
    (obtain rfl : k = min n.toNat (L.length - j) := (by omega)); exact ⟨_, (plnB y p (.slice ai L.length ci) ((j + min n.toNat (L.length - j) : Nat) : Int) (.slice ao1 cs1.length co1) :: prB p (.slice a1 S1.length c1) ver1 :: (E1 ++ (EO1 ++ (EI ++ G)))), resV rfl (.cons rfl .nil), Sub.autoD, f1, S1, ver1, a1, c1, E1, cs1, ao1, co1, EO1, rfl, hs1, V1, VO1, rfl⟩
set_option maxRecDepth 100000 in
set_option maxHeartbeats 400000 in
theorem ynextN_s (n : Int) (H : SHeap) : AC Try.prog W0 51 [.pointer none, .int .i64 n] H (fun v H' => v = .int .i64 0 ∧ H' = H) := by
  refine ac_of Try.func51 rfl rfl rfl ?_
  refine aw_seq_region ?_
  refine sr_x rfl (wtd_none rfl) rfl (Rd.x (x_assign rfl)) ?_
  refine sr_nil ?_
  refine aw_keep (keep_cons (t := 0) rfl (keep_cons (t := 1) rfl (keep_cons (t := 4) rfl keep_nil))) ?_
  refine aw_seq ?_
  refine aw_seq_region ?_
  refine sr_x rfl (wtd_none rfl) rfl (Rd.x (x_move rfl)) ?_
  refine sr_d rfl (wtd_none rfl) rfl (opS_call rfl rfl rfl rfl cl101 (ynoneN_s _)) ?_
  rintro _ H ⟨rfl, rfl⟩
  refine sr_nil ?_
  refine aw_keep (keep_cons (t := 0) rfl (keep_cons (t := 1) rfl (keep_cons (t := 4) rfl (keep_cons (t := 7) rfl keep_nil)))) ?_
  refine aw_true rfl ?_
  refine aw_seq_region ?_
  refine sr_x rfl (wtd_none rfl) rfl (Rd.x (x_assign rfl)) ?_
  refine sr_nil ?_
  refine aw_keep (keep_cons (t := 0) rfl (keep_cons (t := 1) rfl (keep_cons (t := 4) rfl keep_nil))) ?_
  refine aw_ret ?_
  show ∃ v H2, ResV _ _ _ _ _ _ v ∧ Sub H2 _ ∧ _
  exact ⟨_, H, resV rfl (.cons rfl .nil), (by repeat (first | exact Sub.refl _ | apply Sub.drop)), ⟨rfl, rfl⟩⟩
set_option maxRecDepth 100000 in
set_option maxHeartbeats 400000 in
theorem yallArg_s (p : Nat) (a : Option Addr) (cap : Nat) (S : List PStep) (ver : Int) (H : SHeap) (hc : Cells W0 H p 0 [.slice a S.length cap, .int .i64 ver]) (hs : SlV W0 H 2 PStep.cells a cap S) (hps : 0 < S.length) (hl : S.length ≤ 1000) (d : Int) (ai : Option Addr) (ci : Nat) (xs : List Item) (hi : SlV W0 H 4 Item.cells ai ci xs) (hd : ¬ (1 ≤ d ∧ d ≤ 64)) : AC Try.prog W0 45 [.pointer (some ⟨p, 0, none⟩), .int .i64 d, .slice ai xs.length ci] H (fun v H' => v = .tuple #[.slice none 0 0, .int .i64 1] ∧ H' = H) := by
  refine ac_of Try.func45 rfl rfl rfl ?_
  refine aw_seq_region ?_
  refine sr_x rfl (wtd_none rfl) rfl (Rd.x (x_assign rfl)) ?_
  refine sr_x rfl (wtd_none rfl) rfl (Rd.x (x_assign rfl)) ?_
  refine sr_nil ?_
  refine aw_keep (keep_cons (t := 0) rfl (keep_cons (t := 1) rfl (keep_cons (t := 2) rfl (keep_cons (t := 6) rfl (keep_cons (t := 7) rfl keep_nil))))) ?_
  refine aw_seq_region ?_
  refine sr_x rfl (wtd_none rfl) rfl (Rd.x (x_move rfl)) ?_
  refine sr_x rfl (wtd_none rfl) rfl (Rd.x (x_move rfl)) ?_
  refine sr_x rfl (wtd_none rfl) rfl (Rd.x (x_move rfl)) ?_
  refine sr_d rfl (wtd_none rfl) rfl (opS_call rfl rfl rfl rfl cl50 (ynewArg_s p a cap S ver H hc hs hps hl d ai ci xs hi hd)) ?_
  rintro _ H ⟨rfl, rfl⟩
  refine sr_x rfl (wtd_none rfl) rfl (Rd.x (x_move rfl)) ?_
  refine sr_x rfl (wtd_none rfl) rfl (Rd.x (x_extract rfl rfl)) ?_
  refine sr_x rfl (wtd_none rfl) rfl (Rd.x (x_extract rfl rfl)) ?_
  refine sr_x rfl (wtd_none rfl) rfl (Rd.x (x_assign rfl)) ?_
  refine sr_x rfl (wtd_none rfl) rfl (Rd.x (x_assign rfl)) ?_
  refine sr_nil ?_
  refine aw_keep (keep_cons (t := 6) rfl (keep_cons (t := 7) rfl (keep_cons (t := 8) rfl (keep_cons (t := 9) rfl keep_nil)))) ?_
  refine aw_seq ?_
  refine aw_seq_region ?_
  refine sr_x rfl (wtd_none rfl) rfl (Rd.x (x_move rfl)) ?_
  refine sr_cmp rfl (wtd_none rfl) rfl (Rd.x (x_ne rfl rfl)) (fun h1 => ?_) (fun h1 => absurd (by first | omega | decide) h1)
  refine sr_nil ?_
  refine aw_keep (keep_cons (t := 6) rfl (keep_cons (t := 7) rfl (keep_cons (t := 8) rfl (keep_cons (t := 9) rfl (keep_cons (t := 18) rfl keep_nil))))) ?_
  refine aw_true rfl ?_
  refine aw_seq_region ?_
  refine sr_x rfl (wtd_none rfl) rfl (Rd.x (x_move rfl)) ?_
  refine sr_x rfl (wtd_none rfl) rfl (Rd.x (x_assign rfl)) ?_
  refine sr_x rfl (wtd_none rfl) rfl (Rd.x (x_assign rfl)) ?_
  refine sr_nil ?_
  refine aw_keep (keep_cons (t := 6) rfl (keep_cons (t := 7) rfl (keep_cons (t := 8) rfl keep_nil))) ?_
  refine aw_ret ?_
  show ∃ v H2, ResV _ _ _ _ _ _ v ∧ Sub H2 _ ∧ _
  exact ⟨_, H, resV rfl (.cons rfl (.cons rfl .nil)), (by repeat (first | exact Sub.refl _ | apply Sub.drop)), ⟨rfl, rfl⟩⟩
set_option maxRecDepth 100000 in
set_option maxHeartbeats 400000 in
theorem yallRng_s (p : Nat) (a : Option Addr) (cap : Nat) (S : List PStep) (ver : Int) (H : SHeap) (hc : Cells W0 H p 0 [.slice a S.length cap, .int .i64 ver]) (hs : SlV W0 H 2 PStep.cells a cap S) (hps : 0 < S.length) (hl : S.length ≤ 1000) (d : Int) (ai : Option Addr) (ci : Nat) (xs : List Item) (hi : SlV W0 H 4 Item.cells ai ci xs) (hd : 1 ≤ d ∧ d ≤ 64) (hbad : ∃ x ∈ xs.take d.toNat, ¬ RightI x) : AC Try.prog W0 45 [.pointer (some ⟨p, 0, none⟩), .int .i64 d, .slice ai xs.length ci] H (fun v H' => v = .tuple #[.slice none 0 0, .int .i64 5] ∧ H' = H) := by
  refine ac_of Try.func45 rfl rfl rfl ?_
  refine aw_seq_region ?_
  refine sr_x rfl (wtd_none rfl) rfl (Rd.x (x_assign rfl)) ?_
  refine sr_x rfl (wtd_none rfl) rfl (Rd.x (x_assign rfl)) ?_
  refine sr_nil ?_
  refine aw_keep (keep_cons (t := 0) rfl (keep_cons (t := 1) rfl (keep_cons (t := 2) rfl (keep_cons (t := 6) rfl (keep_cons (t := 7) rfl keep_nil))))) ?_
  refine aw_seq_region ?_
  refine sr_x rfl (wtd_none rfl) rfl (Rd.x (x_move rfl)) ?_
  refine sr_x rfl (wtd_none rfl) rfl (Rd.x (x_move rfl)) ?_
  refine sr_x rfl (wtd_none rfl) rfl (Rd.x (x_move rfl)) ?_
  refine sr_d rfl (wtd_none rfl) rfl (opS_call rfl rfl rfl rfl cl50 (ynewRng_s p a cap S ver H hc hs hps hl d ai ci xs hi hd hbad)) ?_
  rintro _ H ⟨rfl, rfl⟩
  refine sr_x rfl (wtd_none rfl) rfl (Rd.x (x_move rfl)) ?_
  refine sr_x rfl (wtd_none rfl) rfl (Rd.x (x_extract rfl rfl)) ?_
  refine sr_x rfl (wtd_none rfl) rfl (Rd.x (x_extract rfl rfl)) ?_
  refine sr_x rfl (wtd_none rfl) rfl (Rd.x (x_assign rfl)) ?_
  refine sr_x rfl (wtd_none rfl) rfl (Rd.x (x_assign rfl)) ?_
  refine sr_nil ?_
  refine aw_keep (keep_cons (t := 6) rfl (keep_cons (t := 7) rfl (keep_cons (t := 8) rfl (keep_cons (t := 9) rfl keep_nil)))) ?_
  refine aw_seq ?_
  refine aw_seq_region ?_
  refine sr_x rfl (wtd_none rfl) rfl (Rd.x (x_move rfl)) ?_
  refine sr_cmp rfl (wtd_none rfl) rfl (Rd.x (x_ne rfl rfl)) (fun h1 => ?_) (fun h1 => absurd (by first | omega | decide) h1)
  refine sr_nil ?_
  refine aw_keep (keep_cons (t := 6) rfl (keep_cons (t := 7) rfl (keep_cons (t := 8) rfl (keep_cons (t := 9) rfl (keep_cons (t := 18) rfl keep_nil))))) ?_
  refine aw_true rfl ?_
  refine aw_seq_region ?_
  refine sr_x rfl (wtd_none rfl) rfl (Rd.x (x_move rfl)) ?_
  refine sr_x rfl (wtd_none rfl) rfl (Rd.x (x_assign rfl)) ?_
  refine sr_x rfl (wtd_none rfl) rfl (Rd.x (x_assign rfl)) ?_
  refine sr_nil ?_
  refine aw_keep (keep_cons (t := 6) rfl (keep_cons (t := 7) rfl (keep_cons (t := 8) rfl keep_nil))) ?_
  refine aw_ret ?_
  show ∃ v H2, ResV _ _ _ _ _ _ v ∧ Sub H2 _ ∧ _
  exact ⟨_, H, resV rfl (.cons rfl (.cons rfl .nil)), (by repeat (first | exact Sub.refl _ | apply Sub.drop)), ⟨rfl, rfl⟩⟩
set_option maxRecDepth 100000 in
set_option maxHeartbeats 4000000 in
theorem yall_s (p : Nat) (a : Option Addr) (cap : Nat) (S : List PStep) (ver : Int) (H : SHeap) (hc : Cells W0 H p 0 [.slice a S.length cap, .int .i64 ver]) (hs : SlV W0 H 2 PStep.cells a cap S) (hps : 0 < S.length) (hl : S.length ≤ 1000) (d : Int) (ai : Option Addr) (ci : Nat) (xs : List Item) (hi : SlV W0 H 4 Item.cells ai ci xs) (hd : 1 ≤ d ∧ d ≤ 64) (hok : ∀ x ∈ xs.take d.toNat, RightI x) (now : Int) (f : Int → Int) (hrep : Rep S now f) (hrng : ∀ t, now ≤ t → 0 ≤ f t ∧ f t ≤ 64) (hnw : 0 ≤ now ∧ now ≤ 1099511627776) (hv : 0 ≤ ver ∧ ver ≤ 200) (hl2 : S.length ≤ 200) : AC Try.prog W0 45 [.pointer (some ⟨p, 0, none⟩), .int .i64 d, .slice ai xs.length ci] H (fun v H' => ∃ (cs : List Choice) (f' : Int → Int) (E2 : SHeap) (a2 : Option Addr) (c2 : Nat), v = .tuple #[.slice a2 cs.length c2, .int .i64 0] ∧ PlanK now (xs.take d.toNat) (xs.take d.toNat).length f cs f' ∧ OwnVec 2 80 (.slice a2 cs.length c2) cs.length (cs.flatMap Choice.cells) E2 ∧ cs.length ≤ 64 ∧ H' = E2 ++ H) := by
  refine ac_of Try.func45 rfl rfl rfl ?_
  refine aw_seq_region ?_
  refine sr_x rfl (wtd_none rfl) rfl (Rd.x (x_assign rfl)) ?_
  refine sr_x rfl (wtd_none rfl) rfl (Rd.x (x_assign rfl)) ?_
  refine sr_nil ?_
  refine aw_keep (keep_cons (t := 0) rfl (keep_cons (t := 1) rfl (keep_cons (t := 2) rfl (keep_cons (t := 6) rfl (keep_cons (t := 7) rfl keep_nil))))) ?_
  refine aw_seq_region ?_
  refine sr_x rfl (wtd_none rfl) rfl (Rd.x (x_move rfl)) ?_
  refine sr_x rfl (wtd_none rfl) rfl (Rd.x (x_move rfl)) ?_
  refine sr_x rfl (wtd_none rfl) rfl (Rd.x (x_move rfl)) ?_
  refine sr_d rfl (wtd_none rfl) rfl (opS_call rfl rfl rfl rfl cl50 (ynew_s p a cap S ver H hc hs hps hl d ai ci xs hi hd hok)) ?_
  rintro _ _ ⟨y, q, a2, c2, E2, a3, c3, E3, rfl, V2, V3, rfl⟩
  have hLl : (xs.take d.toNat).length ≤ 64 := by rw [List.length_take]; omega
  have hp0 : PlS now (xs.take d.toNat) f 0 f [] S ver := ⟨⟨rfl, rfl⟩, hrep, hrng, hnw, by omega, by omega, Nat.le_refl _, Nat.zero_le _, hLl⟩
  refine sr_x rfl (wtd_none rfl) rfl (Rd.x (x_move rfl)) ?_
  refine sr_x rfl (wtd_none rfl) rfl (Rd.x (x_extract rfl rfl)) ?_
  refine sr_x rfl (wtd_none rfl) rfl (Rd.x (x_extract rfl rfl)) ?_
  refine sr_x rfl (wtd_none rfl) rfl (Rd.x (x_assign rfl)) ?_
  refine sr_x rfl (wtd_none rfl) rfl (Rd.x (x_assign rfl)) ?_
  refine sr_nil ?_
  refine aw_keep (keep_cons (t := 6) rfl (keep_cons (t := 7) rfl (keep_cons (t := 8) rfl (keep_cons (t := 9) rfl keep_nil)))) ?_
  refine aw_seq ?_
  refine aw_seq_region ?_
  refine sr_x rfl (wtd_none rfl) rfl (Rd.x (x_move rfl)) ?_
  refine sr_cmp rfl (wtd_none rfl) rfl (Rd.x (x_ne rfl rfl)) (fun h1 => absurd h1 (by first | omega | decide)) (fun h1 => ?_)
  refine sr_nil ?_
  refine aw_keep (keep_cons (t := 6) rfl (keep_cons (t := 7) rfl (keep_cons (t := 8) rfl (keep_cons (t := 9) rfl (keep_cons (t := 18) rfl keep_nil))))) ?_
  refine aw_false rfl ?_
  refine aw_skip ?_
  show AW _ _ _ _ _ _ _
  refine aw_seq_region ?_
  refine sr_x rfl (wtd_none rfl) rfl (Rd.x (x_move rfl)) ?_
  refine sr_x rfl (wtd_none rfl) rfl (Rd.x (x_move rfl)) ?_
  refine sr_d rfl (wtd_none rfl) rfl (opS_call rfl rfl rfl rfl cl52 (yleft_s y q a3 c3 (xs.take d.toNat).length 0 _ _ (cells_ext (by repeat (first | exact List.mem_cons_self | apply List.mem_cons_of_mem | apply List.mem_append_right)) (by repeat (first | exact Ext.all _ | exact Ext.done | apply Ext.take | apply Ext.skip))) (by omega) (Nat.zero_le _))) ?_
  rintro _ H9 ⟨rfl, rfl⟩
  refine sr_d rfl (wtd_none rfl) rfl (opS_call rfl rfl rfl rfl cl51 (AC.sub Sub.autoP (ynext_s y q a2 c2 S ver E2 V2.off a3 c3 (xs.take d.toNat) E3 V3 none 0 [] [] H .nil now f f 0 hp0 hok (((xs.take d.toNat).length - 0 : Nat) : Int)))) ?_
  rintro _ _ ⟨f4, S4, ver4, a4, c4, E4, cs4, ao4, co4, EO4, rfl, hp4, V4, VO4, rfl⟩
  have e4 : 0 + min ((((xs.take d.toNat).length - 0 : Nat) : Int)).toNat ((xs.take d.toNat).length - 0) = (xs.take d.toNat).length := by omega
  have hpl4 := hp4.plan
  rw [e4] at hpl4
  have hcl4 := hp4.cl
  refine sr_nil ?_
  refine aw_keep (keep_cons (t := 6) rfl (keep_cons (t := 7) rfl (keep_cons (t := 8) rfl keep_nil))) ?_
  refine aw_seq_region ?_
  refine sr_x rfl (wtd_none rfl) rfl (Rd.x (x_move rfl)) ?_
  refine sr_d rfl (wtd_none rfl) rfl (opS_call rfl rfl rfl rfl cl53 (ychoices_s y q _ _ ao4 co4 cs4 _ (cells_ext (by repeat (first | exact List.mem_cons_self | apply List.mem_cons_of_mem | apply List.mem_append_right)) (by repeat (first | exact Ext.all _ | exact Ext.done | apply Ext.take | apply Ext.skip))) (VO4.slv' (fun _ => rfl) rfl (Sub.takeE0 (by repeat (first | exact TakeE.here | apply TakeE.there | apply TakeE.app)))) (by omega))) ?_
  rintro _ _ ⟨E5, ⟨a5, c5, V5, rfl⟩, rfl⟩
  refine sr_x rfl (wtd_none rfl) rfl (Rd.x (x_assign rfl)) ?_
  refine sr_x rfl (wtd_none rfl) rfl (Rd.x (x_assign rfl)) ?_
  refine sr_nil ?_
  refine aw_keep (keep_cons (t := 6) rfl (keep_cons (t := 7) rfl keep_nil)) ?_
  refine aw_ret ?_
  show ∃ v H2, ResV _ _ _ _ _ _ v ∧ Sub H2 _ ∧ _
  exact ⟨_, E5 ++ H, resV rfl (.cons rfl (.cons rfl .nil)), Sub.autoP, cs4, f4, E5, a5, c5, rfl, hpl4, V5, by omega, rfl⟩
end
end Go.Proofs.Ytjkojdjjooangaa
