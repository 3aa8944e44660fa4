/- A text of too many lines is refused; no condition but that the listed variables lie as the program's text lays them. -/
import Derived.Test.YtbcajgkaepihfaaDoorSfg
import Derived.Test.YtbcajgkaepihfaaDoorSymLaid
import Derived.Test.YtbcajgkaepihfaaDoorRows
import Derived.Test.YtbcajgkaepihfaaDoorCards
import Derived.Test.YtbcajgkaepihfaaDoorTie
import Derived.Test.YtbcajgkaepihfaaDoorCut
import Derived.SevenTiedAt
namespace Go.Proofs.YtbcajgkaepihfaaDoor
open Go.Proofs.YtbcajgkaepihfaaDoor.Sym
open Go.RowKit (Below)
set_option linter.unusedVariables false
set_option linter.unusedSimpArgs false
theorem cl25 : Callable Tryd.prog 25 := ⟨Tryd.f25, Tryd.func25, by kernel_rfl, by kernel_rfl⟩
theorem cl33 : Callable Tryd.prog 33 := ⟨Tryd.f33, Tryd.func33, by kernel_rfl, by kernel_rfl⟩
section
variable {W0 : World}
set_option maxRecDepth 100000 in
set_option maxHeartbeats 2000000 in
theorem sayLong_s (n : Int) : AC Tryd.prog W0 9 [.int .i64 n] [] (fun v _ => v = .bool true) := by
  refine ac_of Tryd.func9 rfl rfl rfl ?_
  refine aw_seq_region ?_
  refine sr_as ?_
  refine sr_nil ?_
  refine aw_kp [0, 2] ?_
  refine aw_seq ?_
  refine aw_seq_region ?_
  refine sr_mv ?_
  refine sr_c (x_lt rfl rfl) (fun h1 => ?_) (fun h1 => ?_)
  · refine sr_mv ?_
    refine sr_sk ?_
    refine sr_sk ?_
    refine sr_rd (x_pick_t rfl rfl rfl) ?_
    refine sr_nil ?_
    refine aw_kp [0, 2, 13] ?_
    refine aw_true rfl ?_
    refine aw_seq_region ?_
    refine sr_d rfl (wtd_none rfl) rfl (opS_call rfl rfl rfl rfl cl25 (awake26_s _)) ?_
    rintro _ H9 ⟨rfl, rfl⟩
    refine sr_as ?_
    refine sr_nil ?_
    refine aw_kp [0, 2] ?_
    refine aw_ret ?_
    show ∃ v H2, ResV _ _ _ _ _ _ v ∧ Sub H2 _ ∧ _
    exact ⟨_, [], resV rfl (.cons rfl .nil), (Sub.nil _), rfl⟩
  · refine sr_mv ?_
    refine sr_ry (x_move rfl) ?_
    refine sr_cy (x_gt rfl rfl) (fun h2 => ?_) (fun h2 => ?_)
    · refine sr_rd (x_pick_f rfl rfl rfl) ?_
      refine sr_nil ?_
      refine aw_kp [0, 2, 13] ?_
      refine aw_true rfl ?_
      refine aw_seq_region ?_
      refine sr_d rfl (wtd_none rfl) rfl (opS_call rfl rfl rfl rfl cl25 (awake26_s _)) ?_
      rintro _ H9 ⟨rfl, rfl⟩
      refine sr_as ?_
      refine sr_nil ?_
      refine aw_kp [0, 2] ?_
      refine aw_ret ?_
      show ∃ v H2, ResV _ _ _ _ _ _ v ∧ Sub H2 _ ∧ _
      exact ⟨_, [], resV rfl (.cons rfl .nil), (Sub.nil _), rfl⟩
    · refine sr_rd (x_pick_f rfl rfl rfl) ?_
      refine sr_nil ?_
      refine aw_kp [0, 2, 13] ?_
      refine aw_false rfl ?_
      refine aw_skip ?_
      show AW _ _ _ _ _ _ _
      refine aw_seq_region ?_
      refine sr_as ?_
      refine sr_nil ?_
      refine aw_kp [0, 2, 3] ?_
      refine aw_seq ?_
      refine aw_seq_region ?_
      refine sr_as ?_
      refine sr_nil ?_
      refine aw_kp [0, 2, 3, 4] ?_
      refine aw_block ?_
      refine aw_loop (ι := FuG) (fun s => (s.i : Int) ≤ 4096 + n ∧ OwnVec 1 5 s.sl (repL (lnI ++ [10]) s.i).length (byC (repL (lnI ++ [10]) s.i)) s.E) (fun s => [(0, .int .i64 n), (2, .bool false), (3, s.sl), (4, .int .i64 s.i)]) (fun s => s.E ++ []) (fun s => (4096 + n).toNat - s.i) ⟨0, .slice none 0 0, []⟩ (⟨by dsimp only; omega, .nil⟩) KeepF.auto Sub.autoP ?_
      intro s hs9
      obtain ⟨i, sl, E⟩ := s
      dsimp only at hs9 ⊢
      obtain ⟨hi, V⟩ := hs9
      have hln : (lnI ++ [10]).length = 5 := rfl
      have hrl := repL_len (lnI ++ [10]) i
      rw [hln] at hrl
      obtain ⟨a0, c0, rfl⟩ := V.isSl
      refine aw_seq ?_
      refine aw_seq_region ?_
      refine sr_mv ?_
      refine sr_mv ?_
      refine sr_rd (x_add' rfl rfl (i64w (by omega) (by omega))) ?_
      refine sr_c (x_lt rfl rfl) (fun h3 => ?_) (fun h3 => ?_)
      · refine sr_nil ?_
        refine aw_kp [0, 2, 3, 4, 15, 16, 17, 18] ?_
        refine aw_true rfl ?_
        refine aw_skip ?_
        show AW _ _ _ _ _ _ _
        refine aw_seq ?_
        refine aw_block ?_
        refine aw_region ?_
        refine sr_mv ?_
        refine sr_d rfl (wtd_none rfl) rfl (opS_appendS (G := []) (l := lnI ++ [10]) Tryd.underlying23 Tryd.underlying9 sz5 zr5 by5 rfl rfl V Sub.autoP (by rw [hln]; omega)) ?_
        rintro v22 _ ⟨E22, hV22, rfl⟩
        obtain ⟨a22, cap22, rfl⟩ := hV22.isSl
        refine sr_as ?_
        refine sr_nil ?_
        show AW _ _ _ _ _ _ _
        refine aw_region ?_
        refine sr_mv ?_
        refine sr_rd (x_add' rfl rfl (i64w (by omega) (by omega))) ?_
        refine sr_as ?_
        refine sr_nil ?_
        show ∃ s', _ ∧ _ ∧ _ ∧ _
        exact ⟨⟨i + 1, _, E22⟩, ⟨by dsimp only; omega, (by dsimp only; rw [repL_succ, byC_app, List.length_append]; exact hV22)⟩, by dsimp only; omega, KeepF.auto, Sub.autoP⟩
      · refine sr_nil ?_
        refine aw_kp [0, 2, 3, 4, 15, 16, 17, 18] ?_
        refine aw_false rfl ?_
        refine aw_exit ?_
        show AW _ _ _ _ _ _ _
        refine aw_seq_region ?_
        have him : (i : Int) = 4096 + n := by omega
        obtain ⟨b0, rfl, hb0⟩ := V.pos (by omega)
        refine sr_mv ?_
        refine sr_rd (x_b2s (bs := (repL (lnI ++ [10]) i)) Tryd.underlying23 Tryd.underlying9 Tryd.underlying5 rfl (hb0 Sub.autoE) rfl) ?_
        refine sr_d rfl (wtd_none rfl) rfl (opS_call rfl rfl rfl rfl cl33 (sayread_s (repL (lnI ++ [10]) i) (by omega) _)) ?_
        rintro _ _ ⟨a9, c9, E9, rfl, V9, rfl⟩
        by_cases hm : i ≤ 4096
        · rw [sayR_IT (by omega) hm] at V9 ⊢
          refine sr_mv ?_
          refine sr_rd (x_extract rfl rfl) ?_
          refine sr_rd (x_extract rfl rfl) ?_
          refine sr_rd (x_extract rfl rfl) ?_
          refine sr_as ?_
          refine sr_as ?_
          refine sr_as ?_
          refine sr_nil ?_
          refine aw_kp [0, 2, 5, 6, 7] ?_
          refine aw_seq ?_
          refine aw_seq_region ?_
          refine sr_mv ?_
          refine sr_c (x_gt rfl rfl) (fun h4 => absurd h4 (by first | omega | decide)) (fun h4 => ?_)
          refine sr_nil ?_
          refine aw_kp [0, 2, 5, 6, 7, 31] ?_
          refine aw_false rfl ?_
          refine aw_skip ?_
          show AW _ _ _ _ _ _ _
          refine aw_seq_region ?_
          refine sr_mv ?_
          refine sr_rd (x_lenSlice Tryd.underlying53 rfl) ?_
          refine sr_mv ?_
          refine sr_rd (x_add' rfl rfl (i64w (by omega) (by omega))) ?_
          refine sr_c (x_eq rfl rfl) (fun h5 => ?_) (fun h5 => absurd (by first | rfl | omega | (rw [List.length_replicate]; omega) | (show ((List.replicate i reqI).length : Int) = _; rw [List.length_replicate]; omega)) h5)
          refine sr_mv ?_
          refine sr_ry (x_move rfl) ?_
          refine sr_cy (x_eq rfl rfl) (fun h6 => ?_) (fun h6 => absurd (by first | rfl | omega | (rw [List.length_replicate]; omega) | (show ((List.replicate i reqI).length : Int) = _; rw [List.length_replicate]; omega)) h6)
          refine sr_rd (x_pick_t rfl rfl rfl) ?_
          refine sr_mv ?_
          refine sr_d rfl (wtd_yes rfl rfl rfl) rfl (opS_call rfl rfl rfl rfl cl25 (awake26_s _)) ?_
          rintro _ H9 ⟨rfl, rfl⟩
          refine sr_rd (x_pick_t rfl rfl rfl) ?_
          refine sr_as ?_
          refine sr_nil ?_
          refine aw_kp [2] ?_
          refine aw_ret ?_
          show ∃ v H2, ResV _ _ _ _ _ _ v ∧ Sub H2 _ ∧ _
          exact ⟨_, [], resV rfl (.cons rfl .nil), (Sub.nil _), rfl⟩
        · rw [sayR_IF (by omega) hm] at V9 ⊢
          refine sr_mv ?_
          refine sr_rd (x_extract rfl rfl) ?_
          refine sr_rd (x_extract rfl rfl) ?_
          refine sr_rd (x_extract rfl rfl) ?_
          refine sr_as ?_
          refine sr_as ?_
          refine sr_as ?_
          refine sr_nil ?_
          refine aw_kp [0, 2, 5, 6, 7] ?_
          refine aw_seq ?_
          refine aw_seq_region ?_
          refine sr_mv ?_
          refine sr_c (x_gt rfl rfl) (fun h7 => ?_) (fun h7 => absurd (by first | omega | decide) h7)
          refine sr_nil ?_
          refine aw_kp [0, 2, 5, 6, 7, 31] ?_
          refine aw_true rfl ?_
          refine aw_seq_region ?_
          refine sr_mv ?_
          refine sr_rd (x_lenSlice Tryd.underlying53 rfl) ?_
          refine sr_c (x_eq rfl rfl) (fun h8 => ?_) (fun h8 => absurd (by first | rfl | omega | (rw [List.length_replicate]; omega) | (show ((List.replicate i reqI).length : Int) = _; rw [List.length_replicate]; omega)) h8)
          refine sr_mv ?_
          refine sr_ry (x_move rfl) ?_
          refine sr_cy (x_eq rfl rfl) (fun h9 => ?_) (fun h9 => absurd (by first | rfl | omega | (rw [List.length_replicate]; omega) | (show ((List.replicate i reqI).length : Int) = _; rw [List.length_replicate]; omega)) h9)
          refine sr_rd (x_pick_t rfl rfl rfl) ?_
          refine sr_mv ?_
          refine sr_ry (x_move rfl) ?_
          refine sr_cy (x_eq rfl rfl) (fun h10 => ?_) (fun h10 => absurd (by first | rfl | omega | (rw [List.length_replicate]; omega) | (show ((List.replicate i reqI).length : Int) = _; rw [List.length_replicate]; omega)) h10)
          refine sr_rd (x_pick_t rfl rfl rfl) ?_
          refine sr_mv ?_
          refine sr_d rfl (wtd_yes rfl rfl rfl) rfl (opS_call rfl rfl rfl rfl cl25 (awake26_s _)) ?_
          rintro _ H9 ⟨rfl, rfl⟩
          refine sr_rd (x_pick_t rfl rfl rfl) ?_
          refine sr_as ?_
          refine sr_nil ?_
          refine aw_kp [0, 2, 5, 7] ?_
          refine aw_ret ?_
          show ∃ v H2, ResV _ _ _ _ _ _ v ∧ Sub H2 _ ∧ _
          exact ⟨_, [], resV rfl (.cons rfl .nil), (Sub.nil _), rfl⟩
end
namespace SayLongRow
open Go.ChangeShapes Go.WideShapes Go.ChangeAt Go.RowKit
theorem own : ownKnob Tryd.prog.godebug = none := by kernel_rfl
theorem laidOut : laidOutB Tryd.prog = true := by kernel_rfl
def laid : List (String × DataW Unit) := [("unicode/utf8.acceptRanges", Rows.laid_unicode_utf8_acceptRanges), ("unicode/utf8.first", Rows.laid_unicode_utf8_first)]
set_option maxRecDepth 100000 in
theorem lifted (os : Os) (started : os.Started) (H : Type) (enc : TypeId × Value → H) :
    ReturnsInHanded {} Tryd.checked os 9 .any (fun w args => (Rows.sayLongSpec.pre enc Tryd.prog Tryd.f9 [] false w args ∧ laidMetH Tryd.prog laid w) ∧ sizedMet enc Tryd.prog Tryd.f9 (OpenSpec.ofChange Rows.sayLongSpec) false w args)
      (Rows.sayLongSpec.post enc Tryd.prog Tryd.f9 false true false false) := by
  refine law_lifted_laid (C := Tryd.checked) (tb := 4) (laid := laid) own started (by kernel_rfl) Tryd.func9
    (ChangeSpec.witness_shaped (enc := enc) (C := Tryd.checked) (os := os) (X := fun w _ => laidMetH Tryd.prog laid w) false (World.laidAll Tryd.prog os laid) #[.int .i64 0] 8 (World.laidAll_os _ _ _)
      (World.shaped_of_ZipB (by kernel_rfl) (by kernel_rfl)) (by kernel_rfl) (by kernel_rfl) (by kernel_rfl)
      (by rw [MakeChecks.laidMetH_plain _ _ _ (by kernel_rfl)]; exact laidMet_laidAll _ (by kernel_rfl) (by kernel_rfl)))
    (fun w => MakeChecks.laidMetH_plain _ _ _ (by kernel_rfl)) rfl Tryd.underlying4 rfl laidOut (by kernel_rfl) ?_ ?_
  · intro ds h
    match ds, h with
    | [a0], _ => rfl
  · intro W base args ds ps hval hA hlt hsz
    have hA' : DataW.TrodAll enc Tryd.prog W 0 (fun _ => true) true [3] args ds ps := hA
    clear hA
    obtain ⟨v0, vs0, d0, ds0, p0, q0, rfl, rfl, rfl, h0, r0⟩ := trodAll_cons hA'
    obtain ⟨rfl, rfl, rfl⟩ := trodAll_nil r0
    obtain ⟨n, rfl, _⟩ := opn_int Tryd.underlying3 (hval 0 3 v0 rfl rfl) h0
    exact sayLong_s n
theorem joined : joinedFacts Tryd.prog 9 Tryd.f9 Rows.sayLongSpec Rows.sayLongRow = true := by
  unfold joinedFacts
  rw [cutMay, cutLif, cutMk]
  kernel_rfl
theorem over : Rows.sayLongRow.holds Tryd.pinned (OpenSpec.ofChange Rows.sayLongSpec) :=
  OpenClaim.holds_of_wide 9 Tryd.f9 rfl rfl rfl rfl rfl rfl rfl ⟨rfl, rfl, rfl, rfl, rfl⟩ rfl rfl rfl rfl rfl (by kernel_rfl) Tryd.func9 joined
    (of_decide_eq_true (by kernel_rfl)) (by unfold Func.isWrapper; first | (rw [if_pos (by decide +kernel)]; kernel_rfl) | (rw [if_neg (by decide +kernel)]; exact ⟨rfl, rfl⟩))
    (fun os started H enc _ => lifted os started H enc)
theorem proved : Rows.SayLongCardSaid :=
  Claim7.holds_tied_plain_at .later [] [.data, .pinned] true (true, "426c9bee184f4b528ab0760080dc1cc7cd819b0490f5c9691bd34e83eb6dee88") false over (fun _ h => by cases h) (by kernel_rfl) (fun _ h => by cases h) sayLong_row_tie rfl ⟨rfl, rfl⟩ (by kernel_rfl) rfl
    (fun f fn hf hfn => by
      obtain rfl : f = 9 := Option.some.inj ((show Tryd.prog.funcNamed "berthage/berthagelaw26.SayLong" = some 9 by kernel_rfl).symm.trans hf) |>.symm
      obtain rfl : fn = Tryd.f9 := (Option.some.inj (Tryd.func9.symm.trans hfn)).symm
      exact ⟨by kernel_rfl, fun j t ht => by
        have ht' : (#[3] : Array TypeId)[j]? = some t := ht
        have hm : t ∈ [3] := by simpa using Array.mem_of_getElem? ht'
        have hall : ([3].all fun u => !Tryd.prog.wantsStandIn u) = true := by kernel_rfl
        exact (show Tryd.prog.wantsStandIn t = false by simpa using List.all_eq_true.1 hall t hm)⟩)
    (by kernel_rfl)
#print axioms proved
end SayLongRow
end Go.Proofs.YtbcajgkaepihfaaDoor
