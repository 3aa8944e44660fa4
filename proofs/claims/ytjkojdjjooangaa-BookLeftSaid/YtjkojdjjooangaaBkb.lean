/- Books: Add, Remove, Get, Prune, and the law's own book. -/
import Derived.Test.YtjkojdjjooangaaBka
namespace Go.Proofs.Ytjkojdjjooangaa
open Go.Proofs.Ytjkojdjjooangaa.Sym
open Go.RowKit (Below)
set_option linter.unusedVariables false
set_option linter.unusedSimpArgs false
theorem Sym.OwnVec.snoc2B {e : TypeId} {xs : List BEnt} {p q : BEnt} {a : Option Addr} {c : Nat} {E : SHeap} (h : OwnVec 4 e (.slice a (xs.length + 1 + 1) c) (xs.length + 1 + 1) (xs.flatMap BEnt.cells ++ BEnt.cells p ++ BEnt.cells q) E) : OwnVec 4 e (.slice a (xs ++ [p] ++ [q]).length c) (xs ++ [p] ++ [q]).length ((xs ++ [p] ++ [q]).flatMap BEnt.cells) E := by
  rw [List.length_append, List.length_append, List.flatMap_append, List.flatMap_append, show [p].flatMap BEnt.cells = BEnt.cells p from by simp, show [q].flatMap BEnt.cells = BEnt.cells q from by simp]; exact h
theorem atB_bd {B : List BEnt} (hB : ∀ e ∈ B, bR e) (t : Int) : 0 ≤ atB B t ∧ atB B t ≤ 64 * (B.length : Int) := by
  rw [atB_atS hB, ← List.length_map (f := BEnt.sp)]
  exact atS_bd _ t
theorem peak_bd {B : List BEnt} {m a b : Int} (h : ∀ X, Tms (tmL (B.map BEnt.sp)) X → m = peakS (B.map BEnt.sp) X a b) (hl : B.length ≤ 64) : -1000000 ≤ m ∧ m ≤ 1000000 := by
  obtain ⟨X, hX⟩ := tms_exB (tmL (B.map BEnt.sp))
  rw [h X hX]
  unfold peakS
  have hb := fun t => atS_bd (B.map BEnt.sp) t
  have hm : (B.map BEnt.sp).length = B.length := List.length_map _
  split
  · have key : ∀ (X : List Int) (n : Int), 0 ≤ n → n ≤ 10000 → 0 ≤ pkF (atS (B.map BEnt.sp)) a b X n ∧ pkF (atS (B.map BEnt.sp)) a b X n ≤ 10000 := by
      intro X
      induction X with
      | nil => intro n h1 h2; exact ⟨h1, h2⟩
      | cons x X ih =>
        intro n h1 h2
        have := hb x
        have e : pkF (atS (B.map BEnt.sp)) a b (x :: X) n = pkF (atS (B.map BEnt.sp)) a b X (if a < x ∧ x < b then max n (atS (B.map BEnt.sp) x) else n) := rfl
        rw [e]
        exact ih _ (by split <;> omega) (by split <;> omega)
    have h0 := hb a
    have := key X (atS (B.map BEnt.sp) a) (by omega) (by omega)
    omega
  · omega
theorem cl117 : Callable Try.prog 117 := ⟨Try.f117, Try.func117, by kernel_rfl, by kernel_rfl⟩
theorem cl118 : Callable Try.prog 118 := ⟨Try.f118, Try.func118, by kernel_rfl, by kernel_rfl⟩
theorem cl119 : Callable Try.prog 119 := ⟨Try.f119, Try.func119, by kernel_rfl, by kernel_rfl⟩
theorem cl121 : Callable Try.prog 121 := ⟨Try.f121, Try.func121, by kernel_rfl, by kernel_rfl⟩
theorem cl158 : Callable Try.prog 158 := ⟨Try.f158, Try.func158, by kernel_rfl, by kernel_rfl⟩
theorem cl159 : Callable Try.prog 159 := ⟨Try.f159, Try.func159, by kernel_rfl, by kernel_rfl⟩
theorem cl177 : Callable Try.prog 177 := ⟨Try.f177, Try.func177, by kernel_rfl, by kernel_rfl⟩
theorem cl57 : Callable Try.prog 57 := ⟨Try.f57, Try.func57, by kernel_rfl, by kernel_rfl⟩
theorem cl84 : Callable Try.prog 84 := ⟨Try.f84, Try.func84, by kernel_rfl, by kernel_rfl⟩
theorem fd124_0 : fldOf Try.prog 124 0 = some (0, 122, 1) := by kernel_rfl
theorem fd124_1 : fldOf Try.prog 124 1 = some (1, 3, 1) := by kernel_rfl
theorem fl128 : flds Try.prog 128 = some [(0, 1), (1, 3)] := by kernel_rfl
theorem sz122 : szOf Try.prog 122 = some 1 := by kernel_rfl
section
variable {W0 : World}
set_option maxRecDepth 100000 in
set_option maxHeartbeats 4000000 in
theorem badd_s (bk : Nat) (a : Option Addr) (cap : Nat) (B : List BEnt) (nodes : Int) (E G : SHeap) (V : OwnVec 4 128 (.slice a B.length cap) B.length (B.flatMap BEnt.cells) E) (hI : BkI B nodes) (hn : 1 ≤ nodes ∧ nodes ≤ 64) (e : BEnt) : AC Try.prog W0 82 [.pointer (some ⟨bk, 0, none⟩), BEnt.v e] (bkB bk (.slice a B.length cap) nodes :: (E ++ G)) (fun v H' => ∃ (r : Int) (B' : List BEnt) (a' : Option Addr) (c' : Nat) (E' : SHeap), v = .int .i64 r ∧ AddB B nodes e r B' ∧ OwnVec 4 128 (.slice a' B'.length c') B'.length (B'.flatMap BEnt.cells) E' ∧ H' = bkB bk (.slice a' B'.length c') nodes :: (E' ++ G)) := by
  have hs := V.slv' (W0 := W0) (fun _ => rfl) rfl (Sub.refl _)
  have hle := hs.le
  have hcb := hs.capb
  have hl := hI.len
  have hml : (B.map BEnt.sp).length = B.length := List.length_map _
  refine ac_of Try.func82 rfl rfl rfl ?_
  refine aw_seq_region ?_
  refine sr_new rfl (wtd_none rfl) rfl (x_box rfl rfl) ?_
  intro r0_0 hr0_0 gr0_0
  refine sr_as ?_
  refine sr_nil ?_
  refine aw_kp [0, 3, 4] ?_
  refine aw_seq ?_
  refine aw_block ?_
  refine aw_seq_region ?_
  refine sr_mv ?_
  refine sr_d rfl (wtd_none rfl) rfl (opS_call rfl rfl rfl rfl cl116 (bnone_s bk a cap B nodes _ (cells_ext mauto Ext.auto) (hs.mono Sub.autoE) hn hl)) ?_
  rintro _ H9 ⟨rfl, rfl⟩
  refine sr_as ?_
  refine sr_nil ?_
  refine aw_kp [0, 3, 4, 7] ?_
  refine aw_false rfl ?_
  refine aw_seq_region ?_
  refine sr_rd (x_fieldAddr fd128_0 rfl) ?_
  refine sr_rd (x_load ag9 rfl (cells_ext mauto Ext.auto)) ?_
  refine sr_c (x_eqS rfl rfl) (fun h1 => ?_) (fun h1 => ?_)
  · refine sr_mv ?_
    refine sr_sk ?_
    refine sr_sk ?_
    refine sr_sk ?_
    refine sr_sk ?_
    refine sr_rd (x_pick_t rfl rfl rfl) ?_
    refine sr_mv ?_
    refine sr_sk ?_
    refine sr_sk ?_
    refine sr_sk ?_
    refine sr_sk ?_
    refine sr_rd (x_pick_t rfl rfl rfl) ?_
    refine sr_mv ?_
    refine sr_sk ?_
    refine sr_sk ?_
    refine sr_sk ?_
    refine sr_sk ?_
    refine sr_rd (x_pick_t rfl rfl rfl) ?_
    refine sr_as ?_
    refine sr_nil ?_
    refine aw_kp [0, 3, 4, 10] ?_
    refine aw_true rfl ?_
    refine aw_seq_region ?_
    refine sr_as ?_
    refine sr_nil ?_
    refine aw_kp [0, 3, 4] ?_
    refine aw_ret ?_
    show ∃ v H2, ResV _ _ _ _ _ _ v ∧ Sub H2 _ ∧ _
    exact ⟨_, bkB bk (.slice a B.length cap) nodes :: (E ++ G), resV rfl (.cons rfl .nil), Sub.autoD, 1, B, a, cap, E, rfl, .arg (fun h9 => by (unfold bR at h9); (have q9 : e.name = ByteArray.empty := by assumption); rw [q9] at h9; exact absurd h9.1 (by decide)), V, rfl⟩
  · refine sr_mv ?_
    refine sr_ry (x_fieldAddr fd128_0 rfl) ?_
    refine sr_ry (x_load ag9 rfl (cells_ext mauto Ext.auto)) ?_
    refine sr_ry (x_lenStr Try.underlying9 rfl) ?_
    refine sr_cy (x_gt rfl rfl) (fun h2 => ?_) (fun h2 => ?_)
    · refine sr_rd (x_pick_f rfl rfl rfl) ?_
      refine sr_mv ?_
      refine sr_sk ?_
      refine sr_sk ?_
      refine sr_sk ?_
      refine sr_sk ?_
      refine sr_rd (x_pick_t rfl rfl rfl) ?_
      refine sr_mv ?_
      refine sr_sk ?_
      refine sr_sk ?_
      refine sr_sk ?_
      refine sr_sk ?_
      refine sr_rd (x_pick_t rfl rfl rfl) ?_
      refine sr_as ?_
      refine sr_nil ?_
      refine aw_kp [0, 3, 4, 10] ?_
      refine aw_true rfl ?_
      refine aw_seq_region ?_
      refine sr_as ?_
      refine sr_nil ?_
      refine aw_kp [0, 3, 4] ?_
      refine aw_ret ?_
      show ∃ v H2, ResV _ _ _ _ _ _ v ∧ Sub H2 _ ∧ _
      first | exact ⟨_, bkB bk (.slice a B.length cap) nodes :: (E ++ G), resV rfl (.cons rfl .nil), Sub.autoD, 13, B, a, cap, E, rfl, .twice hbR ⟨x9, List.mem_of_getElem? hx9, hxe9⟩, V, rfl⟩ | exact ⟨_, bkB bk (.slice a B.length cap) nodes :: (E ++ G), resV rfl (.cons rfl .nil), Sub.autoD, 3, B, a, cap, E, rfl, .long hbR hno (by omega), V, rfl⟩ | exact ⟨_, bkB bk (.slice a B.length cap) nodes :: (E ++ G), resV rfl (.cons rfl .nil), Sub.autoD, 6, B, a, cap, E, rfl, .full hbR hno (by omega) (fun h9 => by have := hrm.2 h9; omega), V, rfl⟩ | exact ⟨_, bkB bk (.slice a9 (insB e B).length c9) nodes :: (E9 ++ G), resV rfl (.cons rfl .nil), Sub.autoD, 0, insB e B, a9, c9, E9, rfl, .ok hbR hno (by omega) (hrm.1 (by omega)), V9, rfl⟩ | exact ⟨_, bkB bk (.slice a B.length cap) nodes :: (E ++ G), resV rfl (.cons rfl .nil), Sub.autoD, 1, B, a, cap, E, rfl, .arg (fun h9 => by (have q9 := h9.ok; unfold bR at h9); first | omega | (rw [hd] at q9; cases q9)), V, rfl⟩
    · refine sr_rd (x_pick_f rfl rfl rfl) ?_
      refine sr_mv ?_
      refine sr_ry (x_fieldAddr fd128_1 rfl) ?_
      refine sr_ry (x_loadN ag55 sz55 rfl (cells_ext (vs := PSpan.cells e.sp) (n := 3) mauto (by repeat (first | exact Ext.done | apply Ext.take | apply Ext.skip))) rfl) ?_
      refine sr_d rfl (wtd_yes rfl rfl rfl) rfl (opS_call rfl rfl rfl rfl cl59 (sright_s e.sp _)) ?_
      rintro _ H9 ⟨rfl, rfl⟩
      generalize hd : spR e.sp = d1
      cases d1
      · refine sr_ry (x_not rfl) ?_
        refine sr_rd (x_pick_f rfl rfl rfl) ?_
        refine sr_mv ?_
        refine sr_sk ?_
        refine sr_sk ?_
        refine sr_sk ?_
        refine sr_sk ?_
        refine sr_rd (x_pick_t rfl rfl rfl) ?_
        refine sr_as ?_
        refine sr_nil ?_
        refine aw_kp [0, 3, 4, 10] ?_
        refine aw_true rfl ?_
        refine aw_seq_region ?_
        refine sr_as ?_
        refine sr_nil ?_
        refine aw_kp [0, 3, 4] ?_
        refine aw_ret ?_
        show ∃ v H2, ResV _ _ _ _ _ _ v ∧ Sub H2 _ ∧ _
        first | exact ⟨_, bkB bk (.slice a B.length cap) nodes :: (E ++ G), resV rfl (.cons rfl .nil), Sub.autoD, 13, B, a, cap, E, rfl, .twice hbR ⟨x9, List.mem_of_getElem? hx9, hxe9⟩, V, rfl⟩ | exact ⟨_, bkB bk (.slice a B.length cap) nodes :: (E ++ G), resV rfl (.cons rfl .nil), Sub.autoD, 3, B, a, cap, E, rfl, .long hbR hno (by omega), V, rfl⟩ | exact ⟨_, bkB bk (.slice a B.length cap) nodes :: (E ++ G), resV rfl (.cons rfl .nil), Sub.autoD, 6, B, a, cap, E, rfl, .full hbR hno (by omega) (fun h9 => by have := hrm.2 h9; omega), V, rfl⟩ | exact ⟨_, bkB bk (.slice a9 (insB e B).length c9) nodes :: (E9 ++ G), resV rfl (.cons rfl .nil), Sub.autoD, 0, insB e B, a9, c9, E9, rfl, .ok hbR hno (by omega) (hrm.1 (by omega)), V9, rfl⟩ | exact ⟨_, bkB bk (.slice a B.length cap) nodes :: (E ++ G), resV rfl (.cons rfl .nil), Sub.autoD, 1, B, a, cap, E, rfl, .arg (fun h9 => by (have q9 := h9.ok; unfold bR at h9); first | omega | (rw [hd] at q9; cases q9)), V, rfl⟩
      · refine sr_ry (x_not rfl) ?_
        refine sr_rd (x_pick_f rfl rfl rfl) ?_
        refine sr_mv ?_
        refine sr_ry (x_fieldAddr fd128_1 rfl) ?_
        refine sr_ry (x_fieldAddr fd55_1 rfl) ?_
        refine sr_ry (x_load ag2 rfl (cells_ext mauto Ext.auto)) ?_
        refine sr_cy (x_gt rfl rfl) (fun h3 => ?_) (fun h3 => ?_)
        · refine sr_rd (x_pick_f rfl rfl rfl) ?_
          refine sr_as ?_
          refine sr_nil ?_
          refine aw_kp [0, 3, 4, 10] ?_
          refine aw_true rfl ?_
          refine aw_seq_region ?_
          refine sr_as ?_
          refine sr_nil ?_
          refine aw_kp [0, 3, 4] ?_
          refine aw_ret ?_
          show ∃ v H2, ResV _ _ _ _ _ _ v ∧ Sub H2 _ ∧ _
          first | exact ⟨_, bkB bk (.slice a B.length cap) nodes :: (E ++ G), resV rfl (.cons rfl .nil), Sub.autoD, 13, B, a, cap, E, rfl, .twice hbR ⟨x9, List.mem_of_getElem? hx9, hxe9⟩, V, rfl⟩ | exact ⟨_, bkB bk (.slice a B.length cap) nodes :: (E ++ G), resV rfl (.cons rfl .nil), Sub.autoD, 3, B, a, cap, E, rfl, .long hbR hno (by omega), V, rfl⟩ | exact ⟨_, bkB bk (.slice a B.length cap) nodes :: (E ++ G), resV rfl (.cons rfl .nil), Sub.autoD, 6, B, a, cap, E, rfl, .full hbR hno (by omega) (fun h9 => by have := hrm.2 h9; omega), V, rfl⟩ | exact ⟨_, bkB bk (.slice a9 (insB e B).length c9) nodes :: (E9 ++ G), resV rfl (.cons rfl .nil), Sub.autoD, 0, insB e B, a9, c9, E9, rfl, .ok hbR hno (by omega) (hrm.1 (by omega)), V9, rfl⟩ | exact ⟨_, bkB bk (.slice a B.length cap) nodes :: (E ++ G), resV rfl (.cons rfl .nil), Sub.autoD, 1, B, a, cap, E, rfl, .arg (fun h9 => by (have q9 := h9.ok; unfold bR at h9); first | omega | (rw [hd] at q9; cases q9)), V, rfl⟩
        · refine sr_rd (x_pick_f rfl rfl rfl) ?_
          refine sr_as ?_
          refine sr_nil ?_
          refine aw_kp [0, 3, 4, 10] ?_
          refine aw_false rfl ?_
          refine aw_skip ?_
          show AW _ _ _ _ _ _ _
          refine aw_seq_region ?_
          have hr9 := spR_iff.1 hd
          have hsz : e.name.size ≠ 0 := fun h => absurd (ba_empty h) (by assumption)
          have hbR : bR e := by unfold bR; omega
          refine sr_mv ?_
          refine sr_rd (x_fieldAddr fd128_0 rfl) ?_
          refine sr_rd (x_load ag9 rfl (cells_ext mauto Ext.auto)) ?_
          refine sr_d rfl (wtd_none rfl) rfl (opS_call rfl rfl rfl rfl cl117 (bfind_s bk a cap B nodes _ (cells_ext mauto Ext.auto) (hs.mono Sub.autoE) hn hl e.name)) ?_
          rintro _ H9 ⟨⟨i, b, rfl, hF⟩, rfl⟩
          cases b
          · have hno := hF.no hI.srt
            have hFle := hF.le
            refine sr_mv ?_
            refine sr_rd (x_extract rfl rfl) ?_
            refine sr_rd (x_extract rfl rfl) ?_
            refine sr_as ?_
            refine sr_as ?_
            refine sr_nil ?_
            refine aw_kp [0, 3, 4, 5, 6] ?_
            refine aw_seq ?_
            refine aw_block ?_
            refine aw_seq_region ?_
            refine sr_mv ?_
            refine sr_as ?_
            refine sr_nil ?_
            refine aw_kp [0, 3, 4, 5, 39] ?_
            refine aw_false rfl ?_
            refine aw_seq_region ?_
            refine sr_mv ?_
            refine sr_rd (x_nilCheck rfl) ?_
            refine sr_rd (x_fieldAddr fd139_0 rfl) ?_
            refine sr_rd (x_load ag122 rfl (cells_ext mauto Ext.auto)) ?_
            refine sr_rd (x_lenSlice Try.underlying122 rfl) ?_
            refine sr_c (x_ge rfl rfl) (fun h4 => ?_) (fun h4 => ?_)
            · refine sr_as ?_
              refine sr_nil ?_
              refine aw_kp [0, 3, 4, 5, 41] ?_
              refine aw_true rfl ?_
              refine aw_seq_region ?_
              refine sr_as ?_
              refine sr_nil ?_
              refine aw_kp [0, 3, 4, 5] ?_
              refine aw_ret ?_
              show ∃ v H2, ResV _ _ _ _ _ _ v ∧ Sub H2 _ ∧ _
              first | exact ⟨_, bkB bk (.slice a B.length cap) nodes :: (E ++ G), resV rfl (.cons rfl .nil), Sub.autoD, 13, B, a, cap, E, rfl, .twice hbR ⟨x9, List.mem_of_getElem? hx9, hxe9⟩, V, rfl⟩ | exact ⟨_, bkB bk (.slice a B.length cap) nodes :: (E ++ G), resV rfl (.cons rfl .nil), Sub.autoD, 3, B, a, cap, E, rfl, .long hbR hno (by omega), V, rfl⟩ | exact ⟨_, bkB bk (.slice a B.length cap) nodes :: (E ++ G), resV rfl (.cons rfl .nil), Sub.autoD, 6, B, a, cap, E, rfl, .full hbR hno (by omega) (fun h9 => by have := hrm.2 h9; omega), V, rfl⟩ | exact ⟨_, bkB bk (.slice a9 (insB e B).length c9) nodes :: (E9 ++ G), resV rfl (.cons rfl .nil), Sub.autoD, 0, insB e B, a9, c9, E9, rfl, .ok hbR hno (by omega) (hrm.1 (by omega)), V9, rfl⟩ | exact ⟨_, bkB bk (.slice a B.length cap) nodes :: (E ++ G), resV rfl (.cons rfl .nil), Sub.autoD, 1, B, a, cap, E, rfl, .arg (fun h9 => by (have q9 := h9.ok; unfold bR at h9); first | omega | (rw [hd] at q9; cases q9)), V, rfl⟩
            · refine sr_as ?_
              refine sr_nil ?_
              refine aw_kp [0, 3, 4, 5, 41] ?_
              refine aw_false rfl ?_
              refine aw_seq_dr ⟨_, 19, 78, [[], [0], [0, 1], [], [3], [3, 4], [], [6], [0, 1, 2, 3, 4, 5, 6, 7], [], [9], [9, 10], [9, 10, 11], [], [13], [13, 14], [9, 10, 11, 12, 13, 14, 15], [0, 1, 2, 3, 4, 5, 6, 7, 8, 9, 10, 11, 12, 13, 14, 15, 16], [0, 1, 2, 3, 4, 5, 6, 7, 8, 9, 10, 11, 12, 13, 14, 15, 16, 17]], [.light, .light, .mem, .light, .light, .mem, .light, .call, .call, .light, .light, .light, .mem, .light, .light, .mem, .light, .light, .light]⟩ (by kernel_rfl) rfl rfl mix ?_
              refine dr_l (x_fieldAddr fd128_1 rfl) ?_
              refine dr_l (x_fieldAddr fd55_0 rfl) ?_
              refine dr_mem0 rfl rfl (wtd_none rfl) (x_load ag2 rfl (cells_ext mauto Ext.auto)) ?_
              refine dr_l (x_fieldAddr fd128_1 rfl) ?_
              refine dr_l (x_fieldAddr fd55_1 rfl) ?_
              refine dr_mem0 rfl rfl (wtd_none rfl) (x_load ag2 rfl (cells_ext mauto Ext.auto)) ?_
              refine dr_l (x_move rfl) ?_
              refine dr_call rfl (V := []) rfl rfl (wtd_none rfl) (opS_F rfl rfl rfl rfl cl84 (bspans_s bk a cap B nodes _ (cells_ext mauto Ext.auto) (hs.mono Sub.autoE) hn hl)) (ownvec_freshE (by rw [flat_len (n := 3) (fun _ => rfl)]) (by omega)) ?_
              rintro _ EC ⟨aC, cC, VC, rfl⟩
              refine dr_callq rfl (V := (EC ++ [])) rfl rfl rfl (wtd_none rfl) (opS_F rfl rfl rfl rfl cl57 ((speak_s aC cC (B.map BEnt.sp) _ (VC.slv' (fun _ => rfl) rfl (by first | exact sub_one | exact Sub.autoE)) (by omega) e.sp.from_ e.sp.to_))) (peak_ne _ _ _) ?_
              rintro _ ⟨m, rfl, -, hm⟩
              have hrm : m ≤ nodes - e.sp.width ↔ RoomC B nodes e.sp := by (obtain ⟨X, hX⟩ := tms_exB (tmL (B.map BEnt.sp)); rw [hm X hX]; exact peak_room hI.ok hX (by omega))
              have hmb : -1000000 ≤ m ∧ m ≤ 1000000 := peak_bd hm (by omega)
              refine dr_l (x_move rfl) ?_
              refine dr_l (x_nilCheck rfl) ?_
              refine dr_l (x_fieldAddr fd139_1 rfl) ?_
              refine dr_mem rfl (V := []) rfl rfl (wtd_none rfl) (x_load ag3 rfl (cells_ext mauto Ext.auto)) ?_
              refine dr_l (x_fieldAddr fd128_1 rfl) ?_
              refine dr_l (x_fieldAddr fd55_2 rfl) ?_
              refine dr_mem rfl (V := []) rfl rfl (wtd_none rfl) (x_load ag3 rfl (cells_ext mauto Ext.auto)) ?_
              refine dr_l (x_sub' rfl rfl (i64w (by omega) (by omega))) ?_
              refine dr_cmp rfl rfl (wtd_none rfl) (x_gt rfl rfl) (fun h5 => ?_) (fun h5 => ?_)
              · refine dr_l (x_assign rfl) ?_
                refine dr_drop ?_
                refine aw_kp [0, 3, 4, 5, 48] ?_
                refine aw_true rfl ?_
                refine aw_seq_region ?_
                refine sr_as ?_
                refine sr_nil ?_
                refine aw_kp [0, 3, 4, 5] ?_
                refine aw_ret ?_
                show ∃ v H2, ResV _ _ _ _ _ _ v ∧ Sub H2 _ ∧ _
                first | exact ⟨_, bkB bk (.slice a B.length cap) nodes :: (E ++ G), resV rfl (.cons rfl .nil), Sub.autoD, 13, B, a, cap, E, rfl, .twice hbR ⟨x9, List.mem_of_getElem? hx9, hxe9⟩, V, rfl⟩ | exact ⟨_, bkB bk (.slice a B.length cap) nodes :: (E ++ G), resV rfl (.cons rfl .nil), Sub.autoD, 3, B, a, cap, E, rfl, .long hbR hno (by omega), V, rfl⟩ | exact ⟨_, bkB bk (.slice a B.length cap) nodes :: (E ++ G), resV rfl (.cons rfl .nil), Sub.autoD, 6, B, a, cap, E, rfl, .full hbR hno (by omega) (fun h9 => by have := hrm.2 h9; omega), V, rfl⟩ | exact ⟨_, bkB bk (.slice a9 (insB e B).length c9) nodes :: (E9 ++ G), resV rfl (.cons rfl .nil), Sub.autoD, 0, insB e B, a9, c9, E9, rfl, .ok hbR hno (by omega) (hrm.1 (by omega)), V9, rfl⟩ | exact ⟨_, bkB bk (.slice a B.length cap) nodes :: (E ++ G), resV rfl (.cons rfl .nil), Sub.autoD, 1, B, a, cap, E, rfl, .arg (fun h9 => by (have q9 := h9.ok; unfold bR at h9); first | omega | (rw [hd] at q9; cases q9)), V, rfl⟩
              · refine dr_l (x_assign rfl) ?_
                refine dr_drop ?_
                refine aw_kp [0, 3, 4, 5, 48] ?_
                refine aw_false rfl ?_
                refine aw_skip ?_
                show AW _ _ _ _ _ _ _
                refine aw_seq_dr ⟨_, 12, 78, [[], [], [1], [1, 2], [1, 2, 3], [], [], [6], [1, 2, 3, 4, 5, 6, 7], [0, 1, 2, 3, 4, 5, 6, 7, 8], [0, 1, 2, 3, 4, 5, 6, 7, 8, 9], [0, 1, 2, 3, 4, 5, 6, 7, 8, 9, 10]], [.light, .light, .light, .light, .mem, .light, .mem, .alloc, .eff, .light, .light, .eff]⟩ (by kernel_rfl) rfl rfl mix ?_
                refine dr_l (x_move rfl) ?_
                refine dr_l (x_move rfl) ?_
                refine dr_l (x_nilCheck rfl) ?_
                refine dr_l (x_fieldAddr fd139_0 rfl) ?_
                refine dr_mem0 rfl rfl (wtd_none rfl) (x_load ag122 rfl (cells_ext mauto Ext.auto)) ?_
                refine dr_l (x_move rfl) ?_
                refine dr_mem0 rfl rfl (wtd_none rfl) (x_loadN ag128 sz128 rfl (cells_ext mauto Ext.auto) rfl) ?_
                refine dr_alloc rfl rfl (wtd_none rfl) (x_buildSlice Try.underlying122 sz128 zr128 rfl rfl rfl rfl Parts.auto Fill.auto) ?_
                intro r12_7 hr12_7 gr12_7
                refine dr_effC rfl (V := [(r12_7, _)]) rfl (L' := []) (clear_all rfl) rfl (wtd_none rfl) rfl rfl rfl rfl cl119 (AC.sub Sub.autoP (bins_s (.slice a B.length cap) B.length i r12_7 (B.flatMap BEnt.cells) (BEnt.cells e) E (bkB bk (.slice a B.length cap) nodes :: ((r0_0, .cells (BEnt.cells e).toArray 128 (0, 0)) :: G)) V rfl rfl (all_oneB B) (by omega) (by omega))) ?_
                rintro _ _ ⟨a9, c9, E9, rfl, V9, rfl⟩
                rw [ent_cells (e := e) (by omega), ← hF.ins hI.srt, ← insB_len (e := e) (B := B)] at V9
                rw [← insB_len (e := e) (B := B)]
                refine dr_l (x_nilCheck rfl) ?_
                refine dr_l (x_fieldAddr fd139_0 rfl) ?_
                refine dr_store0 rfl rfl (wtd_none rfl) (x_store sz122 rfl rfl rfl rfl rfl Repl.auto Spl.auto) (by first | rfl | simp [keys_append, keys_cons]) ?_
                refine dr_nil0 ?_
                refine aw_kp [4] ?_
                refine aw_seq_region ?_
                refine sr_as ?_
                refine sr_nil ?_
                refine aw_kp [4] ?_
                refine aw_ret ?_
                show ∃ v H2, ResV _ _ _ _ _ _ v ∧ Sub H2 _ ∧ _
                first | exact ⟨_, bkB bk (.slice a B.length cap) nodes :: (E ++ G), resV rfl (.cons rfl .nil), Sub.autoD, 13, B, a, cap, E, rfl, .twice hbR ⟨x9, List.mem_of_getElem? hx9, hxe9⟩, V, rfl⟩ | exact ⟨_, bkB bk (.slice a B.length cap) nodes :: (E ++ G), resV rfl (.cons rfl .nil), Sub.autoD, 3, B, a, cap, E, rfl, .long hbR hno (by omega), V, rfl⟩ | exact ⟨_, bkB bk (.slice a B.length cap) nodes :: (E ++ G), resV rfl (.cons rfl .nil), Sub.autoD, 6, B, a, cap, E, rfl, .full hbR hno (by omega) (fun h9 => by have := hrm.2 h9; omega), V, rfl⟩ | exact ⟨_, bkB bk (.slice a9 (insB e B).length c9) nodes :: (E9 ++ G), resV rfl (.cons rfl .nil), Sub.autoD, 0, insB e B, a9, c9, E9, rfl, .ok hbR hno (by omega) (hrm.1 (by omega)), V9, rfl⟩ | exact ⟨_, bkB bk (.slice a B.length cap) nodes :: (E ++ G), resV rfl (.cons rfl .nil), Sub.autoD, 1, B, a, cap, E, rfl, .arg (fun h9 => by (have q9 := h9.ok; unfold bR at h9); first | omega | (rw [hd] at q9; cases q9)), V, rfl⟩
          · obtain ⟨x9, hx9, hxe9⟩ := hF.at_.1 rfl
            have hFle := get_lt hx9
            refine sr_mv ?_
            refine sr_rd (x_extract rfl rfl) ?_
            refine sr_rd (x_extract rfl rfl) ?_
            refine sr_as ?_
            refine sr_as ?_
            refine sr_nil ?_
            refine aw_kp [0, 3, 4, 5, 6] ?_
            refine aw_seq ?_
            refine aw_block ?_
            refine aw_seq_region ?_
            refine sr_mv ?_
            refine sr_as ?_
            refine sr_nil ?_
            refine aw_kp [0, 3, 4, 5, 39] ?_
            refine aw_true rfl ?_
            refine aw_seq_region ?_
            refine sr_as ?_
            refine sr_nil ?_
            refine aw_kp [0, 3, 4, 5] ?_
            refine aw_ret ?_
            show ∃ v H2, ResV _ _ _ _ _ _ v ∧ Sub H2 _ ∧ _
            first | exact ⟨_, bkB bk (.slice a B.length cap) nodes :: (E ++ G), resV rfl (.cons rfl .nil), Sub.autoD, 13, B, a, cap, E, rfl, .twice hbR ⟨x9, List.mem_of_getElem? hx9, hxe9⟩, V, rfl⟩ | exact ⟨_, bkB bk (.slice a B.length cap) nodes :: (E ++ G), resV rfl (.cons rfl .nil), Sub.autoD, 3, B, a, cap, E, rfl, .long hbR hno (by omega), V, rfl⟩ | exact ⟨_, bkB bk (.slice a B.length cap) nodes :: (E ++ G), resV rfl (.cons rfl .nil), Sub.autoD, 6, B, a, cap, E, rfl, .full hbR hno (by omega) (fun h9 => by have := hrm.2 h9; omega), V, rfl⟩ | exact ⟨_, bkB bk (.slice a9 (insB e B).length c9) nodes :: (E9 ++ G), resV rfl (.cons rfl .nil), Sub.autoD, 0, insB e B, a9, c9, E9, rfl, .ok hbR hno (by omega) (hrm.1 (by omega)), V9, rfl⟩ | exact ⟨_, bkB bk (.slice a B.length cap) nodes :: (E ++ G), resV rfl (.cons rfl .nil), Sub.autoD, 1, B, a, cap, E, rfl, .arg (fun h9 => by (have q9 := h9.ok; unfold bR at h9); first | omega | (rw [hd] at q9; cases q9)), V, rfl⟩
set_option maxRecDepth 100000 in
set_option maxHeartbeats 2000000 in
theorem brem_s (bk : Nat) (a : Option Addr) (cap : Nat) (B : List BEnt) (nodes : Int) (E G : SHeap) (V : OwnVec 4 128 (.slice a B.length cap) B.length (B.flatMap BEnt.cells) E) (hI : BkI B nodes) (hn : 1 ≤ nodes ∧ nodes ≤ 64) (nm : ByteArray) : AC Try.prog W0 81 [.pointer (some ⟨bk, 0, none⟩), .string nm] (bkB bk (.slice a B.length cap) nodes :: (E ++ G)) (fun v H' => ∃ (r : Int) (a' : Option Addr) (c' : Nat) (E' : SHeap), v = .int .i64 r ∧ ((r = 7 ∧ ∀ x ∈ B, x.name ≠ nm) ∨ (r = 0 ∧ ∃ x ∈ B, x.name = nm)) ∧ OwnVec 4 128 (.slice a' (gonL nm 0 false B).length c') (gonL nm 0 false B).length ((gonL nm 0 false B).flatMap BEnt.cells) E' ∧ H' = bkB bk (.slice a' (gonL nm 0 false B).length c') nodes :: (E' ++ G)) := by
  have hs := V.slv' (W0 := W0) (fun _ => rfl) rfl (Sub.refl _)
  have hle := hs.le
  have hcb := hs.capb
  have hl := hI.len
  refine ac_of Try.func81 rfl rfl rfl ?_
  refine aw_seq_region ?_
  refine sr_as ?_
  refine sr_nil ?_
  refine aw_kp [0, 1, 4] ?_
  refine aw_seq ?_
  refine aw_seq_region ?_
  refine sr_mv ?_
  refine sr_d rfl (wtd_none rfl) rfl (opS_call rfl rfl rfl rfl cl116 (bnone_s bk a cap B nodes _ (cells_ext mauto Ext.auto) (hs.mono Sub.autoE) hn hl)) ?_
  rintro _ H9 ⟨rfl, rfl⟩
  refine sr_nil ?_
  refine aw_kp [0, 1, 4, 8] ?_
  refine aw_false rfl ?_
  refine aw_skip ?_
  show AW _ _ _ _ _ _ _
  refine aw_seq_region ?_
  refine sr_mv ?_
  refine sr_mv ?_
  refine sr_d rfl (wtd_none rfl) rfl (opS_call rfl rfl rfl rfl cl117 (bfind_s bk a cap B nodes _ (cells_ext mauto Ext.auto) (hs.mono Sub.autoE) hn hl nm)) ?_
  rintro _ H9 ⟨⟨i, b, rfl, hF⟩, rfl⟩
  cases b
  · have hno := hF.no hI.srt
    have hFle := hF.le
    refine sr_mv ?_
    refine sr_rd (x_extract rfl rfl) ?_
    refine sr_rd (x_extract rfl rfl) ?_
    refine sr_as ?_
    refine sr_as ?_
    refine sr_nil ?_
    refine aw_kp [0, 4, 5, 6] ?_
    refine aw_seq ?_
    refine aw_seq_region ?_
    refine sr_mv ?_
    refine sr_rd (x_not rfl) ?_
    refine sr_nil ?_
    refine aw_kp [0, 4, 5, 16] ?_
    refine aw_true rfl ?_
    refine aw_seq_region ?_
    refine sr_as ?_
    refine sr_nil ?_
    refine aw_kp [0, 4, 5] ?_
    refine aw_ret ?_
    show ∃ v H2, ResV _ _ _ _ _ _ v ∧ Sub H2 _ ∧ _
    first | exact ⟨_, bkB bk (.slice a B.length cap) nodes :: (E ++ G), resV rfl (.cons rfl .nil), Sub.autoD, 7, a, cap, E, rfl, .inl ⟨rfl, hno⟩, (by rw [hF.del0 hI.srt]; exact V), (by rw [hF.del0 hI.srt])⟩ | (have hgl : (gonL nm 0 false B).length = B.length - 1 := by (rw [hdel.1, List.length_append, List.length_take, List.length_drop]; omega)); exact ⟨_, bkB bk (.slice (some ⟨bq, 0, none⟩) (B.length - 1) cap) nodes :: (bq, .cells ((B.take i ++ B.drop (i + 1)).flatMap BEnt.cells ++ post2).toArray 128 (0, 0)) :: G, resV rfl (.cons rfl .nil), Sub.autoD, 0, some ⟨bq, 0, none⟩, cap, [(bq, .cells ((gonL nm 0 false B).flatMap BEnt.cells ++ post2).toArray 128 (0, 0))], rfl, .inr ⟨rfl, x9, List.mem_of_getElem? hx9, hxe9⟩, own_set0 hgl hp2 (by omega) hc9, (by rw [hgl, hdel.1]; rfl)⟩
  · obtain ⟨x9, hx9, hxe9⟩ := hF.at_.1 rfl
    have hFle := get_lt hx9
    refine sr_mv ?_
    refine sr_rd (x_extract rfl rfl) ?_
    refine sr_rd (x_extract rfl rfl) ?_
    refine sr_as ?_
    refine sr_as ?_
    refine sr_nil ?_
    refine aw_kp [0, 4, 5, 6] ?_
    refine aw_seq ?_
    refine aw_seq_region ?_
    refine sr_mv ?_
    refine sr_rd (x_not rfl) ?_
    refine sr_nil ?_
    refine aw_kp [0, 4, 5, 16] ?_
    refine aw_false rfl ?_
    refine aw_skip ?_
    show AW _ _ _ _ _ _ _
    refine aw_seq_region ?_
    have hdel := hF.del hI.srt
    obtain ⟨bq, rfl, _⟩ := V.pos (by omega)
    obtain ⟨_, _, post, rfl, hL9, hp9, hn9, hc9⟩ := V.blk
    rw [List.singleton_append]
    refine sr_mv ?_
    refine sr_mv ?_
    refine sr_rd (x_nilCheck rfl) ?_
    refine sr_rd (x_fieldAddr fd139_0 rfl) ?_
    refine sr_rd (x_load ag122 rfl (cells_ext mauto Ext.auto)) ?_
    refine sr_mv ?_
    refine sr_mv ?_
    refine sr_rd (x_cast (u := .int .i64 ((i + 1 : Nat) : Int)) (x_add' rfl rfl (i64w (by omega) (by omega))) (by congr 1)) ?_
    refine sr_d rfl (wtd_none rfl) rfl (opS_call rfl rfl rfl rfl cl118 (AC.sub Sub.autoP (bDel_s bq cap B.length B post (bkB bk (.slice (some ⟨bq, 0, none⟩) B.length cap) nodes :: G) rfl hp9 hn9 hc9 i (by omega) (by omega)))) ?_
    rintro _ _ ⟨post2, hp2, rfl, rfl⟩
    refine sr_rd (x_nilCheck rfl) ?_
    refine sr_rd (x_fieldAddr fd139_0 rfl) ?_
    refine sr_x0 rfl (wtd_none rfl) (x_store sz122 rfl rfl rfl rfl rfl Repl.auto Spl.auto) ?_
    refine sr_nil ?_
    refine aw_kp [4] ?_
    refine aw_seq_region ?_
    refine sr_as ?_
    refine sr_nil ?_
    refine aw_kp [4] ?_
    refine aw_ret ?_
    show ∃ v H2, ResV _ _ _ _ _ _ v ∧ Sub H2 _ ∧ _
    first | exact ⟨_, bkB bk (.slice a B.length cap) nodes :: (E ++ G), resV rfl (.cons rfl .nil), Sub.autoD, 7, a, cap, E, rfl, .inl ⟨rfl, hno⟩, (by rw [hF.del0 hI.srt]; exact V), (by rw [hF.del0 hI.srt])⟩ | (have hgl : (gonL nm 0 false B).length = B.length - 1 := by (rw [hdel.1, List.length_append, List.length_take, List.length_drop]; omega)); exact ⟨_, bkB bk (.slice (some ⟨bq, 0, none⟩) (B.length - 1) cap) nodes :: (bq, .cells ((B.take i ++ B.drop (i + 1)).flatMap BEnt.cells ++ post2).toArray 128 (0, 0)) :: G, resV rfl (.cons rfl .nil), Sub.autoD, 0, some ⟨bq, 0, none⟩, cap, [(bq, .cells ((gonL nm 0 false B).flatMap BEnt.cells ++ post2).toArray 128 (0, 0))], rfl, .inr ⟨rfl, x9, List.mem_of_getElem? hx9, hxe9⟩, own_set0 hgl hp2 (by omega) hc9, (by rw [hgl, hdel.1]; rfl)⟩
set_option maxRecDepth 100000 in
set_option maxHeartbeats 400000 in
theorem bget_s (bk : Nat) (a : Option Addr) (cap : Nat) (B : List BEnt) (nodes : Int) (H : SHeap) (hc : Cells W0 H bk 0 [.slice a B.length cap, .int .i64 nodes]) (hs : SlV W0 H 4 BEnt.cells a cap B) (hI : BkI B nodes) (hn : 1 ≤ nodes ∧ nodes ≤ 64) (nm : ByteArray) : AC Try.prog W0 85 [.pointer (some ⟨bk, 0, none⟩), .string nm] H (fun v H' => (∃ (e : BEnt) (r : Int), v = .tuple #[BEnt.v e, .int .i64 r] ∧ ((r = 7 ∧ e = ⟨.empty, ⟨0, 0, 0⟩⟩ ∧ ∀ x ∈ B, x.name ≠ nm) ∨ (r = 0 ∧ e ∈ B ∧ e.name = nm))) ∧ H' = H) := by
  have hl := hI.len
  have hle := hs.le
  have hcb := hs.capb
  refine ac_of Try.func85 rfl rfl rfl ?_
  refine aw_seq_region ?_
  refine sr_new rfl (wtd_none rfl) rfl (x_alloc zr128 rfl) ?_
  intro r0_0 hr0_0 gr0_0
  refine sr_as ?_
  refine sr_nil ?_
  refine aw_kp [0, 1, 4, 5] ?_
  refine aw_seq ?_
  refine aw_seq_region ?_
  refine sr_mv ?_
  refine sr_d rfl (wtd_none rfl) rfl (opS_call rfl rfl rfl rfl cl116 (bnone_s bk a cap B nodes _ (Cells.mono hc Sub.autoR) (hs.mono Sub.autoR) hn hI.len)) ?_
  rintro _ H9 ⟨rfl, rfl⟩
  refine sr_nil ?_
  refine aw_kp [0, 1, 4, 5, 9] ?_
  refine aw_false rfl ?_
  refine aw_skip ?_
  show AW _ _ _ _ _ _ _
  refine aw_seq_region ?_
  refine sr_mv ?_
  refine sr_mv ?_
  refine sr_d rfl (wtd_none rfl) rfl (opS_call rfl rfl rfl rfl cl117 (bfind_s bk a cap B nodes _ (Cells.mono hc Sub.autoR) (hs.mono Sub.autoR) hn hI.len nm)) ?_
  rintro _ H9 ⟨⟨i, b, rfl, hF⟩, rfl⟩
  cases b
  · have hno := hF.no hI.srt
    have hFle := hF.le
    refine sr_mv ?_
    refine sr_rd (x_extract rfl rfl) ?_
    refine sr_rd (x_extract rfl rfl) ?_
    refine sr_as ?_
    refine sr_as ?_
    refine sr_nil ?_
    refine aw_kp [0, 4, 5, 6, 7] ?_
    refine aw_seq ?_
    refine aw_seq_region ?_
    refine sr_mv ?_
    refine sr_rd (x_not rfl) ?_
    refine sr_nil ?_
    refine aw_kp [0, 4, 5, 6, 18] ?_
    refine aw_true rfl ?_
    refine aw_seq_region ?_
    refine sr_rd (x_build zr128 rfl fl128 Parts.auto Fill.auto) ?_
    refine sr_x0 rfl (wtd_none rfl) (x_store sz128 rfl rfl rfl rfl rfl Repl.auto Spl.auto) ?_
    refine sr_as ?_
    refine sr_nil ?_
    refine aw_kp [0, 4, 5, 6] ?_
    refine aw_ret ?_
    show ∃ v H2, ResV _ _ _ _ _ _ v ∧ Sub H2 _ ∧ _
    first | exact ⟨_, H, resV rfl (.cons (⟨_, rfl, fun hw => rd_loadVarN ag128 sz128 hw (cells_ext mauto Ext.auto) rfl⟩) (.cons rfl .nil)), Sub.autoR, ⟨x9, 0, rfl, .inr ⟨rfl, List.mem_of_getElem? hx9, hxe9⟩⟩, rfl⟩ | exact ⟨_, H, resV rfl (.cons (⟨_, rfl, fun hw => rd_loadVarN ag128 sz128 hw (cells_ext mauto Ext.auto) rfl⟩) (.cons rfl .nil)), Sub.autoR, ⟨⟨.empty, ⟨0, 0, 0⟩⟩, 7, rfl, .inl ⟨rfl, rfl, hno⟩⟩, rfl⟩
  · obtain ⟨x9, hx9, hxe9⟩ := hF.at_.1 rfl
    have hFle := get_lt hx9
    refine sr_mv ?_
    refine sr_rd (x_extract rfl rfl) ?_
    refine sr_rd (x_extract rfl rfl) ?_
    refine sr_as ?_
    refine sr_as ?_
    refine sr_nil ?_
    refine aw_kp [0, 4, 5, 6, 7] ?_
    refine aw_seq ?_
    refine aw_seq_region ?_
    refine sr_mv ?_
    refine sr_rd (x_not rfl) ?_
    refine sr_nil ?_
    refine aw_kp [0, 4, 5, 6, 18] ?_
    refine aw_false rfl ?_
    refine aw_skip ?_
    show AW _ _ _ _ _ _ _
    refine aw_seq_region ?_
    obtain ⟨bx, ox, hax, hcx⟩ := hs.at_ _ _ hx9
    refine sr_mv ?_
    refine sr_rd (x_nilCheck rfl) ?_
    refine sr_rd (x_fieldAddr fd139_0 rfl) ?_
    refine sr_rd (x_load ag122 rfl (cells_get (Cells.mono hc Sub.autoR) 0 rfl)) ?_
    refine sr_mv ?_
    refine sr_rd (x_indexAddrN (i) Try.underlying122 sz128 rfl hax rfl (by omega) (by omega)) ?_
    refine sr_rd (x_loadN ag128 sz128 rfl (Cells.mono hcx Sub.autoR) rfl) ?_
    refine sr_x0 rfl (wtd_none rfl) (x_store sz128 rfl rfl rfl rfl rfl Repl.auto Spl.auto) ?_
    refine sr_as ?_
    refine sr_nil ?_
    refine aw_kp [4, 5] ?_
    refine aw_ret ?_
    show ∃ v H2, ResV _ _ _ _ _ _ v ∧ Sub H2 _ ∧ _
    first | exact ⟨_, H, resV rfl (.cons (⟨_, rfl, fun hw => rd_loadVarN ag128 sz128 hw (cells_ext mauto Ext.auto) rfl⟩) (.cons rfl .nil)), Sub.autoR, ⟨x9, 0, rfl, .inr ⟨rfl, List.mem_of_getElem? hx9, hxe9⟩⟩, rfl⟩ | exact ⟨_, H, resV rfl (.cons (⟨_, rfl, fun hw => rd_loadVarN ag128 sz128 hw (cells_ext mauto Ext.auto) rfl⟩) (.cons rfl .nil)), Sub.autoR, ⟨⟨.empty, ⟨0, 0, 0⟩⟩, 7, rfl, .inl ⟨rfl, rfl, hno⟩⟩, rfl⟩
set_option maxRecDepth 100000 in
set_option maxHeartbeats 400000 in
theorem bIdxN_s (H : SHeap) (qn : Nat) : AC Try.prog W0 142 [.slice none 0 0, .func (.func 122) #[] #[.pointer (some ⟨qn, 0, none⟩)]] H (fun v H' => v = .int .i64 (-1) ∧ H' = H) := by
  refine ac_of Try.func142 rfl rfl rfl ?_
  refine aw_seq_region ?_
  refine sr_as ?_
  refine sr_nil ?_
  refine aw_kp [0, 1, 4] ?_
  refine aw_seq ?_
  refine aw_seq_region ?_
  refine sr_mv ?_
  refine sr_rd (x_lenSlice Try.underlying122 rfl) ?_
  refine sr_mv ?_
  refine sr_nil ?_
  refine aw_kp [0, 1, 4, 7, 8] ?_
  refine aw_block ?_
  refine aw_loop (ι := Unit) (fun _ => True) (fun _ => [(7, .int .i64 ((0 : Nat) : Int)), (8, .int .i64 0)]) (fun _ => H) (fun _ => 0) () (trivial) KeepF.auto (by repeat (first | exact Sub.refl _ | apply Sub.drop)) ?_
  intro _ _
  refine aw_seq_region ?_
  refine sr_c (x_lt rfl rfl) (fun h1 => absurd h1 (by first | omega | decide)) (fun h1 => ?_)
  refine sr_nil ?_
  refine aw_kp [7, 8, 9] ?_
  refine aw_seq ?_
  refine aw_false rfl ?_
  refine aw_exit ?_
  show AW _ _ _ _ _ _ _
  refine aw_seq_region ?_
  refine sr_as ?_
  refine sr_nil ?_
  refine aw_kp [4] ?_
  refine aw_ret ?_
  show ∃ v H2, ResV _ _ _ _ _ _ v ∧ Sub H2 _ ∧ _
  exact ⟨_, H, resV rfl (.cons rfl .nil), (by repeat (first | exact Sub.refl _ | apply Sub.drop)), ⟨rfl, rfl⟩⟩
set_option maxRecDepth 100000 in
set_option maxHeartbeats 400000 in
theorem bDelN_s (H : SHeap) (qn : Nat) : AC Try.prog W0 121 [.slice none 0 0, .func (.func 122) #[] #[.pointer (some ⟨qn, 0, none⟩)]] H (fun v H' => v = .slice none 0 0 ∧ H' = H) := by
  refine ac_of Try.func121 rfl rfl rfl ?_
  refine aw_seq_region ?_
  refine sr_as ?_
  refine sr_nil ?_
  refine aw_kp [0, 1, 4] ?_
  refine aw_seq_region ?_
  refine sr_mv ?_
  refine sr_mv ?_
  refine sr_d rfl (wtd_none rfl) rfl (opS_call rfl rfl rfl rfl cl142 (bIdxN_s _ qn)) ?_
  rintro _ H ⟨rfl, rfl⟩
  refine sr_as ?_
  refine sr_nil ?_
  refine aw_kp [0, 1, 4, 5] ?_
  refine aw_seq ?_
  refine aw_seq_region ?_
  refine sr_mv ?_
  refine sr_c (x_eq rfl rfl) (fun h1 => ?_) (fun h1 => absurd (by first | omega | decide) h1)
  refine sr_nil ?_
  refine aw_kp [0, 1, 4, 5, 12] ?_
  refine aw_true rfl ?_
  refine aw_seq_region ?_
  refine sr_mv ?_
  refine sr_as ?_
  refine sr_nil ?_
  refine aw_kp [0, 1, 4, 5] ?_
  refine aw_ret ?_
  show ∃ v H2, ResV _ _ _ _ _ _ v ∧ Sub H2 _ ∧ _
  exact ⟨_, H, resV rfl (.cons rfl .nil), (by repeat (first | exact Sub.refl _ | apply Sub.drop)), ⟨rfl, rfl⟩⟩
theorem bDelV_s (a : Option Addr) (cap : Nat) (B : List BEnt) (E G : SHeap) (V : OwnVec 4 128 (.slice a B.length cap) B.length (B.flatMap BEnt.cells) E) (hn : B.length ≤ 1000) (qn : Nat) (now : Int) (hq : Cells W0 G qn 0 [.int .i64 now]) :
    AC Try.prog W0 121 [.slice a B.length cap, .func (.func 122) #[] #[.pointer (some ⟨qn, 0, none⟩)]] (E ++ G) (fun v H' => ∃ E', v = .slice a (gonL .empty now true B).length cap ∧ OwnVec 4 128 (.slice a (gonL .empty now true B).length cap) (gonL .empty now true B).length ((gonL .empty now true B).flatMap BEnt.cells) E' ∧ H' = E' ++ G) := by
  generalize hL : B.flatMap BEnt.cells = L at V
  generalize hk : B.length = n at V ⊢
  cases V with
  | nil =>
    obtain rfl : B = [] := List.length_eq_zero_iff.1 hk
    exact (bDelN_s G qn).mono fun v H' ⟨h1, h2⟩ => ⟨[], h1, .nil, h2⟩
  | @mk r n cap L post h1 h2 h3 h4 =>
    subst hL
    exact (bDelF_s r cap n B post G hk h2 h3 h4 (by omega) qn now hq).mono fun v H' ⟨post2, q1, q2, q3⟩ => ⟨_, q2, .mk (flat_len (n := 4) (enc := BEnt.cells) (fun _ => rfl) _) q1 (Nat.le_trans gonL_len (by omega)) h4, q3⟩
set_option maxRecDepth 100000 in
set_option maxHeartbeats 2000000 in
theorem bprune_s (bk : Nat) (a : Option Addr) (cap : Nat) (B : List BEnt) (nodes : Int) (E G : SHeap) (V : OwnVec 4 128 (.slice a B.length cap) B.length (B.flatMap BEnt.cells) E) (hI : BkI B nodes) (hn : 1 ≤ nodes ∧ nodes ≤ 64) (now : Int) : AC Try.prog W0 89 [.pointer (some ⟨bk, 0, none⟩), .int .i64 now] (bkB bk (.slice a B.length cap) nodes :: (E ++ G)) (fun v H' => ∃ (a' : Option Addr) (c' : Nat) (E' : SHeap), v = .int .i64 ((B.length : Int) - (gonL .empty now true B).length) ∧ OwnVec 4 128 (.slice a' (gonL .empty now true B).length c') (gonL .empty now true B).length ((gonL .empty now true B).flatMap BEnt.cells) E' ∧ H' = bkB bk (.slice a' (gonL .empty now true B).length c') nodes :: (E' ++ G)) := by
  have hs := V.slv' (W0 := W0) (fun _ => rfl) rfl (Sub.refl _)
  have hle := hs.le
  have hcb := hs.capb
  have hl := hI.len
  have hgl := gonL_len (nm := .empty) (now := now) (ended := true) (B := B)
  refine ac_of Try.func89 rfl rfl rfl ?_
  refine aw_seq_region ?_
  refine sr_new rfl (wtd_none rfl) rfl (x_box rfl rfl) ?_
  intro r0_0 hr0_0 gr0_0
  refine sr_as ?_
  refine sr_nil ?_
  refine aw_kp [0, 3, 4] ?_
  refine aw_seq ?_
  refine aw_seq_region ?_
  refine sr_mv ?_
  refine sr_d rfl (wtd_none rfl) rfl (opS_call rfl rfl rfl rfl cl116 (bnone_s bk a cap B nodes _ (cells_ext mauto Ext.auto) (hs.mono Sub.autoE) hn hl)) ?_
  rintro _ H9 ⟨rfl, rfl⟩
  refine sr_nil ?_
  refine aw_kp [0, 3, 4, 7] ?_
  refine aw_false rfl ?_
  refine aw_skip ?_
  show AW _ _ _ _ _ _ _
  refine aw_seq_region ?_
  refine sr_mv ?_
  refine sr_rd (x_nilCheck rfl) ?_
  refine sr_rd (x_fieldAddr fd139_0 rfl) ?_
  refine sr_rd (x_load ag122 rfl (cells_ext mauto Ext.auto)) ?_
  refine sr_rd (x_lenSlice Try.underlying122 rfl) ?_
  refine sr_as ?_
  refine sr_nil ?_
  refine aw_kp [0, 3, 4, 5] ?_
  refine aw_seq_region ?_
  refine sr_mv ?_
  refine sr_mv ?_
  refine sr_rd (x_nilCheck rfl) ?_
  refine sr_rd (x_fieldAddr fd139_0 rfl) ?_
  refine sr_rd (x_load ag122 rfl (cells_ext mauto Ext.auto)) ?_
  refine sr_rd (x_makeFunc rfl rfl) ?_
  refine sr_d rfl (wtd_none rfl) rfl (opS_call rfl rfl rfl rfl cl121 (AC.sub Sub.autoP (bDelV_s a cap B E (bkB bk (.slice a B.length cap) nodes :: ((r0_0, .cells [.int .i64 now].toArray 2 (0, 0)) :: G)) V (by omega) r0_0 now (cells_ext mauto Ext.auto)))) ?_
  rintro _ _ ⟨E9, rfl, V9, rfl⟩
  refine sr_rd (x_nilCheck rfl) ?_
  refine sr_rd (x_fieldAddr fd139_0 rfl) ?_
  refine sr_x0 rfl (wtd_none rfl) (x_store sz122 rfl rfl rfl rfl rfl Repl.auto Spl.auto) ?_
  refine sr_nil ?_
  refine aw_kp [0, 4, 5] ?_
  refine aw_seq_region ?_
  refine sr_mv ?_
  refine sr_mv ?_
  refine sr_rd (x_nilCheck rfl) ?_
  refine sr_rd (x_fieldAddr fd139_0 rfl) ?_
  refine sr_rd (x_load ag122 rfl (cells_ext mauto Ext.auto)) ?_
  refine sr_rd (x_lenSlice Try.underlying122 rfl) ?_
  refine sr_rd (x_sub' rfl rfl (i64w (by omega) (by omega))) ?_
  refine sr_as ?_
  refine sr_nil ?_
  refine aw_kp [4] ?_
  refine aw_ret ?_
  show ∃ v H2, ResV _ _ _ _ _ _ v ∧ Sub H2 _ ∧ _
  exact ⟨_, bkB bk (.slice a (gonL .empty now true B).length cap) nodes :: (E9 ++ G), resV rfl (.cons rfl .nil), Sub.autoD, a, cap, E9, rfl, V9, rfl⟩
set_option maxRecDepth 100000 in
set_option maxHeartbeats 1000000 in
theorem lat_s (bk : Nat) (a : Option Addr) (cap : Nat) (B : List BEnt) (nodes : Int) (H : SHeap) (hc : Cells W0 H bk 0 [.slice a B.length cap, .int .i64 nodes]) (hs : SlV W0 H 4 BEnt.cells a cap B) (hok : ∀ e ∈ B, bR e) (hl : B.length ≤ 64) (t : Int) : AC Try.prog W0 177 [.pointer (some ⟨bk, 0, none⟩), .int .i64 t] H (fun v H' => v = .int .i64 (atB B t) ∧ H' = H) := by
  have hle := hs.le
  have hcb := hs.capb
  refine ac_of Try.func177 rfl rfl rfl ?_
  refine aw_seq_region ?_
  refine sr_as ?_
  refine sr_nil ?_
  refine aw_kp [0, 1, 4] ?_
  refine aw_seq_region ?_
  refine sr_as ?_
  refine sr_nil ?_
  refine aw_kp [0, 1, 4, 5] ?_
  refine aw_seq ?_
  refine aw_seq_region ?_
  refine sr_as ?_
  refine sr_nil ?_
  refine aw_kp [0, 1, 4, 5, 6] ?_
  refine aw_block ?_
  refine aw_loop (ι := Nat) (fun k => k ≤ B.length) (fun k => [(0, .pointer (some ⟨bk, 0, none⟩)), (1, .int .i64 t), (5, .int .i64 (atB (B.take k) t)), (6, .int .i64 k)]) (fun _ => H) (fun k => B.length - k) 0 (Nat.zero_le _) KeepF.auto Sub.autoP ?_
  intro k hk
  have hb := atB_bd (B := B.take k) (fun e he => hok e (List.mem_of_mem_take he)) t
  rw [List.length_take] at hb
  refine aw_seq ?_
  refine aw_seq_region ?_
  refine sr_mv ?_
  refine sr_mv ?_
  refine sr_rd (x_nilCheck rfl) ?_
  refine sr_rd (x_fieldAddr fd124_0 rfl) ?_
  refine sr_rd (x_load ag122 rfl (cells_get (Cells.mono hc Sub.autoR) 0 rfl)) ?_
  refine sr_rd (x_lenSlice Try.underlying122 rfl) ?_
  refine sr_c (x_lt rfl rfl) (fun h1 => ?_) (fun h1 => ?_)
  · refine sr_nil ?_
    refine aw_kp [0, 1, 5, 6, 7, 8, 9, 10, 11, 12, 13] ?_
    refine aw_true rfl ?_
    refine aw_skip ?_
    show AW _ _ _ _ _ _ _
    refine aw_seq ?_
    refine aw_block ?_
    refine aw_seq_region ?_
    obtain ⟨x, hx⟩ := get_ex (show k < B.length by omega)
    obtain ⟨bx, ox, hax, hcx⟩ := hs.at_ _ _ hx
    have hxo := hok x (List.mem_of_getElem? hx)
    unfold bR at hxo
    refine sr_mv ?_
    refine sr_rd (x_nilCheck rfl) ?_
    refine sr_rd (x_fieldAddr fd124_0 rfl) ?_
    refine sr_rd (x_load ag122 rfl (cells_get (Cells.mono hc Sub.autoR) 0 rfl)) ?_
    refine sr_mv ?_
    refine sr_rd (x_indexAddrN (k) Try.underlying122 sz128 rfl hax rfl (by omega) (by omega)) ?_
    refine sr_rd (x_fieldAddr fd128_1 rfl) ?_
    refine sr_rd (x_fieldAddr fd55_0 rfl) ?_
    refine sr_rd (x_load ag2 rfl (cells_get (Cells.mono hcx Sub.autoR) 1 rfl)) ?_
    refine sr_mv ?_
    refine sr_c (x_le rfl rfl) (fun h2 => ?_) (fun h2 => ?_)
    · refine sr_mv ?_
      refine sr_ry (x_move rfl) ?_
      refine sr_ry (x_move rfl) ?_
      refine sr_ry (x_nilCheck rfl) ?_
      refine sr_ry (x_fieldAddr fd124_0 rfl) ?_
      refine sr_ry (x_load ag122 rfl (cells_get (Cells.mono hc Sub.autoR) 0 rfl)) ?_
      refine sr_ry (x_move rfl) ?_
      refine sr_ry (x_indexAddrN (k) Try.underlying122 sz128 rfl hax rfl (by omega) (by omega)) ?_
      refine sr_ry (x_fieldAddr fd128_1 rfl) ?_
      refine sr_ry (x_fieldAddr fd55_1 rfl) ?_
      refine sr_ry (x_load ag2 rfl (cells_get (Cells.mono hcx Sub.autoR) 2 rfl)) ?_
      refine sr_cy (x_lt rfl rfl) (fun h3 => ?_) (fun h3 => ?_)
      · refine sr_rd (x_pick_t rfl rfl rfl) ?_
        refine sr_nil ?_
        refine aw_kp [0, 1, 5, 6, 7, 8, 9, 10, 11, 12, 13, 16, 17, 18, 19, 20, 21, 22, 23, 24, 25, 26, 27, 28, 29, 30, 31, 32, 33, 34, 35, 36, 37, 38, 39] ?_
        refine aw_true rfl ?_
        refine aw_region ?_
        refine sr_mv ?_
        refine sr_mv ?_
        refine sr_rd (x_nilCheck rfl) ?_
        refine sr_rd (x_fieldAddr fd124_0 rfl) ?_
        refine sr_rd (x_load ag122 rfl (cells_get (Cells.mono hc Sub.autoR) 0 rfl)) ?_
        refine sr_mv ?_
        refine sr_rd (x_indexAddrN (k) Try.underlying122 sz128 rfl hax rfl (by omega) (by omega)) ?_
        refine sr_rd (x_fieldAddr fd128_1 rfl) ?_
        refine sr_rd (x_fieldAddr fd55_2 rfl) ?_
        refine sr_rd (x_load ag3 rfl (cells_get (Cells.mono hcx Sub.autoR) 3 rfl)) ?_
        refine sr_rd (x_add' rfl rfl (i64w (by omega) (by omega))) ?_
        refine sr_as ?_
        refine sr_nil ?_
        show AW _ _ _ _ _ _ _
        refine aw_region ?_
        refine sr_mv ?_
        refine sr_rd (x_add' rfl rfl (i64w (by omega) (by omega))) ?_
        refine sr_as ?_
        refine sr_nil ?_
        show ∃ s', _ ∧ _ ∧ _ ∧ _
        first | exact ⟨k + 1, by omega, by omega, (by rw [atB_take hx, if_pos (by omega)]; exact KeepF.auto), Sub.autoR⟩ | exact ⟨k + 1, by omega, by omega, (by rw [atB_take hx, if_neg (by omega)]; exact KeepF.auto), Sub.autoR⟩
      · refine sr_rd (x_pick_t rfl rfl rfl) ?_
        refine sr_nil ?_
        refine aw_kp [0, 1, 5, 6, 7, 8, 9, 10, 11, 12, 13, 16, 17, 18, 19, 20, 21, 22, 23, 24, 25, 26, 27, 28, 29, 30, 31, 32, 33, 34, 35, 36, 37, 38, 39] ?_
        refine aw_false rfl ?_
        refine aw_skip ?_
        show AW _ _ _ _ _ _ _
        refine aw_region ?_
        refine sr_mv ?_
        refine sr_rd (x_add' rfl rfl (i64w (by omega) (by omega))) ?_
        refine sr_as ?_
        refine sr_nil ?_
        show ∃ s', _ ∧ _ ∧ _ ∧ _
        first | exact ⟨k + 1, by omega, by omega, (by rw [atB_take hx, if_pos (by omega)]; exact KeepF.auto), Sub.autoR⟩ | exact ⟨k + 1, by omega, by omega, (by rw [atB_take hx, if_neg (by omega)]; exact KeepF.auto), Sub.autoR⟩
    · refine sr_mv ?_
      refine sr_sk ?_
      refine sr_sk ?_
      refine sr_sk ?_
      refine sr_sk ?_
      refine sr_sk ?_
      refine sr_sk ?_
      refine sr_sk ?_
      refine sr_sk ?_
      refine sr_sk ?_
      refine sr_sk ?_
      refine sr_sk ?_
      refine sr_rd (x_pick_f rfl rfl rfl) ?_
      refine sr_nil ?_
      refine aw_kp [0, 1, 5, 6, 7, 8, 9, 10, 11, 12, 13, 16, 17, 18, 19, 20, 21, 22, 23, 24, 25, 26, 27, 28, 29, 30, 31, 32, 33, 34, 35, 36, 37, 38, 39] ?_
      refine aw_false rfl ?_
      refine aw_skip ?_
      show AW _ _ _ _ _ _ _
      refine aw_region ?_
      refine sr_mv ?_
      refine sr_rd (x_add' rfl rfl (i64w (by omega) (by omega))) ?_
      refine sr_as ?_
      refine sr_nil ?_
      show ∃ s', _ ∧ _ ∧ _ ∧ _
      first | exact ⟨k + 1, by omega, by omega, (by rw [atB_take hx, if_pos (by omega)]; exact KeepF.auto), Sub.autoR⟩ | exact ⟨k + 1, by omega, by omega, (by rw [atB_take hx, if_neg (by omega)]; exact KeepF.auto), Sub.autoR⟩
  · refine sr_nil ?_
    refine aw_kp [0, 1, 5, 6, 7, 8, 9, 10, 11, 12, 13] ?_
    refine aw_false rfl ?_
    refine aw_exit ?_
    show AW _ _ _ _ _ _ _
    refine aw_seq_region ?_
    refine sr_mv ?_
    refine sr_as ?_
    refine sr_nil ?_
    refine aw_kp [4] ?_
    refine aw_ret ?_
    show ∃ v H2, ResV _ _ _ _ _ _ v ∧ Sub H2 _ ∧ _
    exact ⟨_, H, resV rfl (.cons rfl .nil), Sub.autoR, ⟨congrArg (Value.int .i64) (by rw [List.take_of_length_le (by omega)]), rfl⟩⟩
set_option maxRecDepth 100000 in
set_option maxHeartbeats 2000000 in
theorem lroom_s (bk : Nat) (a : Option Addr) (cap : Nat) (B : List BEnt) (nodes : Int) (H : SHeap) (hc : Cells W0 H bk 0 [.slice a B.length cap, .int .i64 nodes]) (hs : SlV W0 H 4 BEnt.cells a cap B) (hok : ∀ e ∈ B, bR e) (hl : B.length ≤ 64) (s : PSpan) (hs9 : s.from_ < s.to_) (hw : 1 ≤ s.width ∧ s.width ≤ 64) (hn : 1 ≤ nodes ∧ nodes ≤ 64) : AC Try.prog W0 159 [.pointer (some ⟨bk, 0, none⟩), PSpan.v s] H (fun v H' => (∃ b : Bool, v = .bool b ∧ (b = true ↔ RoomC B nodes s)) ∧ H' = H) := by
  have hle := hs.le
  have hcb := hs.capb
  refine ac_of Try.func159 rfl rfl rfl ?_
  refine aw_seq_region ?_
  refine sr_new rfl (wtd_none rfl) rfl (x_box rfl rfl) ?_
  intro r0_0 hr0_0 gr0_0
  refine sr_as ?_
  refine sr_nil ?_
  refine aw_kp [0, 3, 4] ?_
  refine aw_seq ?_
  refine aw_seq_dr ⟨_, 12, 60, [[], [], [1], [0, 1, 2], [], [4], [0, 1, 2, 3, 4, 5], [], [7], [7, 8], [7, 8, 9], [0, 1, 2, 3, 4, 5, 6, 7, 8, 9, 10]], [.light, .light, .mem, .call, .light, .mem, .light, .light, .light, .light, .mem, .light]⟩ (by kernel_rfl) rfl rfl mix ?_
  refine dr_l (x_move rfl) ?_
  refine dr_l (x_fieldAddr fd55_0 rfl) ?_
  refine dr_mem0 rfl rfl (wtd_none rfl) (x_load ag2 rfl (cells_ext mauto Ext.auto)) ?_
  refine dr_callq0 rfl rfl (wtd_none rfl) (opS_F rfl rfl rfl rfl cl177 ((lat_s bk a cap B nodes _ (Cells.mono hc Sub.autoR) (hs.mono Sub.autoR) hok hl (s.from_)))) (⟨_, rfl⟩) ?_
  rintro _ rfl
  have hb5 := atB_bd hok (s.from_)
  refine dr_l (x_fieldAddr fd55_2 rfl) ?_
  refine dr_mem0 rfl rfl (wtd_none rfl) (x_load ag3 rfl (cells_ext mauto Ext.auto)) ?_
  refine dr_l (x_add' rfl rfl (i64w (by omega) (by omega))) ?_
  refine dr_l (x_move rfl) ?_
  refine dr_l (x_nilCheck rfl) ?_
  refine dr_l (x_fieldAddr fd124_1 rfl) ?_
  refine dr_mem0 rfl rfl (wtd_none rfl) (x_load ag3 rfl (cells_get (Cells.mono hc Sub.autoR) 1 rfl)) ?_
  refine dr_cmp rfl rfl (wtd_none rfl) (x_gt rfl rfl) (fun h1 => ?_) (fun h1 => ?_)
  · refine dr_nil0 ?_
    refine aw_kp [0, 3, 4, 18] ?_
    refine aw_true rfl ?_
    refine aw_seq_region ?_
    refine sr_as ?_
    refine sr_nil ?_
    refine aw_kp [0, 3, 4] ?_
    refine aw_ret ?_
    show ∃ v H2, ResV _ _ _ _ _ _ v ∧ Sub H2 _ ∧ _
    first | exact ⟨_, H, resV rfl (.cons rfl .nil), Sub.autoR, ⟨true, rfl, ⟨fun _ => ⟨by omega, fun e he q1 q2 => by (obtain ⟨j, hj⟩ := List.getElem?_of_mem he); exact hall j e (by have := get_lt hj; omega) hj q1 q2⟩, fun _ => rfl⟩⟩, rfl⟩ | exact ⟨_, H, resV rfl (.cons rfl .nil), Sub.autoR, ⟨false, rfl, ⟨fun h => (by cases h), fun h => absurd (h.2 x (List.mem_of_getElem? hx) (by omega) (by omega)) (by omega)⟩⟩, rfl⟩ | exact ⟨_, H, resV rfl (.cons rfl .nil), Sub.autoR, ⟨false, rfl, ⟨fun h => (by cases h), fun h => absurd h.1 (by omega)⟩⟩, rfl⟩
  · refine dr_nil0 ?_
    refine aw_kp [0, 3, 4, 18] ?_
    refine aw_false rfl ?_
    refine aw_skip ?_
    show AW _ _ _ _ _ _ _
    refine aw_seq ?_
    refine aw_seq_region ?_
    refine sr_as ?_
    refine sr_nil ?_
    refine aw_kp [0, 3, 4, 5] ?_
    refine aw_block ?_
    refine aw_loop (ι := Nat) (fun k => k ≤ B.length ∧ ∀ j x, j < k → B[j]? = some x → s.from_ < x.sp.from_ → x.sp.from_ < s.to_ → atB B x.sp.from_ + s.width ≤ nodes) (fun k => [(0, .pointer (some ⟨bk, 0, none⟩)), (3, .pointer (some ⟨r0_0, 0, none⟩)), (5, .int .i64 k)]) (fun _ => (r0_0, .cells (PSpan.cells s).toArray 55 (0, 0)) :: H) (fun k => B.length - k) 0 (⟨Nat.zero_le _, fun j x h => by omega⟩) KeepF.auto Sub.autoP ?_
    intro k hk9
    obtain ⟨hk, hall⟩ := hk9
    refine aw_seq ?_
    refine aw_seq_region ?_
    refine sr_mv ?_
    refine sr_mv ?_
    refine sr_rd (x_nilCheck rfl) ?_
    refine sr_rd (x_fieldAddr fd124_0 rfl) ?_
    refine sr_rd (x_load ag122 rfl (cells_get (Cells.mono hc Sub.autoR) 0 rfl)) ?_
    refine sr_rd (x_lenSlice Try.underlying122 rfl) ?_
    refine sr_c (x_lt rfl rfl) (fun h2 => ?_) (fun h2 => ?_)
    · refine sr_nil ?_
      refine aw_kp [0, 3, 5, 19, 20, 21, 22, 23, 24, 25] ?_
      refine aw_true rfl ?_
      refine aw_skip ?_
      show AW _ _ _ _ _ _ _
      refine aw_seq ?_
      refine aw_block ?_
      refine aw_seq_region ?_
      obtain ⟨x, hx⟩ := get_ex (show k < B.length by omega)
      obtain ⟨bx, ox, hax, hcx⟩ := hs.at_ _ _ hx
      have hxo := hok x (List.mem_of_getElem? hx)
      unfold bR at hxo
      refine sr_mv ?_
      refine sr_rd (x_nilCheck rfl) ?_
      refine sr_rd (x_fieldAddr fd124_0 rfl) ?_
      refine sr_rd (x_load ag122 rfl (cells_get (Cells.mono hc Sub.autoR) 0 rfl)) ?_
      refine sr_mv ?_
      refine sr_rd (x_indexAddrN (k) Try.underlying122 sz128 rfl hax rfl (by omega) (by omega)) ?_
      refine sr_rd (x_fieldAddr fd128_1 rfl) ?_
      refine sr_rd (x_fieldAddr fd55_0 rfl) ?_
      refine sr_rd (x_load ag2 rfl (cells_get (Cells.mono hcx Sub.autoR) 1 rfl)) ?_
      refine sr_as ?_
      refine sr_nil ?_
      refine aw_kp [0, 3, 5, 6, 19, 20, 21, 22, 23, 24, 25, 28, 29, 30, 31, 32, 33, 34, 35, 36] ?_
      refine aw_seq_dr ⟨_, 23, 60, [[], [], [1], [0, 1, 2], [0, 1, 2, 3], [0, 1, 2, 3, 4], [0, 1, 2, 3, 4], [0, 1, 2, 3, 4, 6], [0, 1, 2, 3, 4, 5, 6, 7], [0, 1, 2, 3, 4, 5, 6, 7, 8], [0, 1, 2, 3, 4, 5, 6, 7, 8, 9], [0, 1, 2, 3, 4, 5, 6, 7, 8, 9, 10], [0, 1, 2, 3, 4, 5, 6, 7, 8, 9, 10], [0, 1, 2, 3, 4, 5, 6, 7, 8, 9, 10, 11, 12], [0, 1, 2, 3, 4, 5, 6, 7, 8, 9, 10], [0, 1, 2, 3, 4, 5, 6, 7, 8, 9, 10, 14], [0, 1, 2, 3, 4, 5, 6, 7, 8, 9, 10, 11, 12, 13, 14, 15], [0, 1, 2, 3, 4, 5, 6, 7, 8, 9, 10], [0, 1, 2, 3, 4, 5, 6, 7, 8, 9, 10, 17], [0, 1, 2, 3, 4, 5, 6, 7, 8, 9, 10, 17, 18], [0, 1, 2, 3, 4, 5, 6, 7, 8, 9, 10, 17, 18, 19], [0, 1, 2, 3, 4, 5, 6, 7, 8, 9, 10, 11, 12, 13, 14, 15, 16, 17, 18, 19, 20], [0, 1, 2, 3, 4, 5, 6, 7, 8, 9, 10, 11, 12, 13, 14, 15, 16, 17, 18, 19, 20, 21]], [.light, .light, .mem, .light, .light, .light, .light, .mem, .light, .light, .light, .light, .light, .call, .light, .mem, .light, .light, .light, .light, .mem, .light, .light]⟩ (by kernel_rfl) rfl rfl mix ?_
      refine dr_l (x_move rfl) ?_
      refine dr_l (x_fieldAddr fd55_0 rfl) ?_
      refine dr_mem0 rfl rfl (wtd_none rfl) (x_load ag2 rfl (cells_ext mauto Ext.auto)) ?_
      refine dr_cmp rfl rfl (wtd_none rfl) (x_gt rfl rfl) (fun h3 => ?_) (fun h3 => ?_)
      · refine dr_l (x_move rfl) ?_
        refine dr_y (x_move rfl) ?_
        refine dr_y (x_fieldAddr fd55_1 rfl) ?_
        refine dr_mem0 rfl rfl (wtd_yes rfl rfl rfl) (x_load ag2 rfl (cells_ext mauto Ext.auto)) ?_
        refine dr_cmp rfl rfl (wtd_yes rfl rfl rfl) (x_lt rfl rfl) (fun h4 => ?_) (fun h4 => ?_)
        · refine dr_l (x_pick_t rfl rfl rfl) ?_
          refine dr_l (x_move rfl) ?_
          refine dr_y (x_move rfl) ?_
          refine dr_y (x_move rfl) ?_
          refine dr_callq0 rfl rfl (wtd_yes rfl rfl rfl) (opS_F rfl rfl rfl rfl cl177 ((lat_s bk a cap B nodes _ (Cells.mono hc Sub.autoR) (hs.mono Sub.autoR) hok hl (x.sp.from_)))) (⟨_, rfl⟩) ?_
          rintro _ rfl
          have hb1 := atB_bd hok (x.sp.from_)
          refine dr_y (x_fieldAddr fd55_2 rfl) ?_
          refine dr_mem0 rfl rfl (wtd_yes rfl rfl rfl) (x_load ag3 rfl (cells_ext mauto Ext.auto)) ?_
          refine dr_y (x_add' rfl rfl (i64w (by omega) (by omega))) ?_
          refine dr_y (x_move rfl) ?_
          refine dr_y (x_nilCheck rfl) ?_
          refine dr_y (x_fieldAddr fd124_1 rfl) ?_
          refine dr_mem0 rfl rfl (wtd_yes rfl rfl rfl) (x_load ag3 rfl (cells_get (Cells.mono hc Sub.autoR) 1 rfl)) ?_
          refine dr_cmp rfl rfl (wtd_yes rfl rfl rfl) (x_gt rfl rfl) (fun h5 => ?_) (fun h5 => ?_)
          · refine dr_l (x_pick_t rfl rfl rfl) ?_
            refine dr_nil0 ?_
            refine aw_kp [0, 3, 5, 6, 19, 20, 21, 22, 23, 24, 25, 28, 29, 30, 31, 32, 33, 34, 35, 36, 37, 38, 39, 40, 41, 42, 43, 44, 45, 46, 47, 48, 49, 50, 51, 52, 53, 54, 55, 56, 57, 58, 59] ?_
            refine aw_true rfl ?_
            refine aw_seq_region ?_
            refine sr_as ?_
            refine sr_nil ?_
            refine aw_kp [0, 3, 4, 5, 6, 19, 20, 21, 22, 23, 24, 25, 28, 29, 30, 31, 32, 33, 34, 35, 36, 37, 38, 39, 40, 41, 42, 43, 44, 45, 46, 47, 48, 49, 50, 51, 52, 53, 54, 55, 56, 57, 58, 59] ?_
            refine aw_ret ?_
            show ∃ v H2, ResV _ _ _ _ _ _ v ∧ Sub H2 _ ∧ _
            first | exact ⟨_, H, resV rfl (.cons rfl .nil), Sub.autoR, ⟨true, rfl, ⟨fun _ => ⟨by omega, fun e he q1 q2 => by (obtain ⟨j, hj⟩ := List.getElem?_of_mem he); exact hall j e (by have := get_lt hj; omega) hj q1 q2⟩, fun _ => rfl⟩⟩, rfl⟩ | exact ⟨_, H, resV rfl (.cons rfl .nil), Sub.autoR, ⟨false, rfl, ⟨fun h => (by cases h), fun h => absurd (h.2 x (List.mem_of_getElem? hx) (by omega) (by omega)) (by omega)⟩⟩, rfl⟩ | exact ⟨_, H, resV rfl (.cons rfl .nil), Sub.autoR, ⟨false, rfl, ⟨fun h => (by cases h), fun h => absurd h.1 (by omega)⟩⟩, rfl⟩
          · refine dr_l (x_pick_t rfl rfl rfl) ?_
            refine dr_nil0 ?_
            refine aw_kp [0, 3, 5, 6, 19, 20, 21, 22, 23, 24, 25, 28, 29, 30, 31, 32, 33, 34, 35, 36, 37, 38, 39, 40, 41, 42, 43, 44, 45, 46, 47, 48, 49, 50, 51, 52, 53, 54, 55, 56, 57, 58, 59] ?_
            refine aw_false rfl ?_
            refine aw_skip ?_
            show AW _ _ _ _ _ _ _
            refine aw_region ?_
            refine sr_mv ?_
            refine sr_rd (x_add' rfl rfl (i64w (by omega) (by omega))) ?_
            refine sr_as ?_
            refine sr_nil ?_
            show ∃ s', _ ∧ _ ∧ _ ∧ _
            exact ⟨k + 1, ⟨by omega, fun j y h hy q1 q2 => by (rcases Nat.lt_or_eq_of_le (Nat.le_of_lt_succ h) with q | q); (exact hall j y q hy q1 q2); (subst q; rw [hx] at hy; cases hy; omega)⟩, by omega, KeepF.auto, Sub.autoP⟩
        · refine dr_l (x_pick_t rfl rfl rfl) ?_
          refine dr_l (x_move rfl) ?_
          refine dr_sk ?_
          refine dr_sk ?_
          refine dr_sk ?_
          refine dr_sk ?_
          refine dr_sk ?_
          refine dr_sk ?_
          refine dr_sk ?_
          refine dr_sk ?_
          refine dr_sk ?_
          refine dr_sk ?_
          refine dr_sk ?_
          refine dr_l (x_pick_f rfl rfl rfl) ?_
          refine dr_nil0 ?_
          refine aw_kp [0, 3, 5, 6, 19, 20, 21, 22, 23, 24, 25, 28, 29, 30, 31, 32, 33, 34, 35, 36, 37, 38, 39, 40, 41, 42, 43, 44, 45, 46, 47, 48, 49, 50, 51, 52, 53, 54, 55, 56, 57, 58, 59] ?_
          refine aw_false rfl ?_
          refine aw_skip ?_
          show AW _ _ _ _ _ _ _
          refine aw_region ?_
          refine sr_mv ?_
          refine sr_rd (x_add' rfl rfl (i64w (by omega) (by omega))) ?_
          refine sr_as ?_
          refine sr_nil ?_
          show ∃ s', _ ∧ _ ∧ _ ∧ _
          exact ⟨k + 1, ⟨by omega, fun j y h hy q1 q2 => by (rcases Nat.lt_or_eq_of_le (Nat.le_of_lt_succ h) with q | q); (exact hall j y q hy q1 q2); (subst q; rw [hx] at hy; cases hy; omega)⟩, by omega, KeepF.auto, Sub.autoP⟩
      · refine dr_l (x_move rfl) ?_
        refine dr_sk ?_
        refine dr_sk ?_
        refine dr_sk ?_
        refine dr_sk ?_
        refine dr_l (x_pick_f rfl rfl rfl) ?_
        refine dr_l (x_move rfl) ?_
        refine dr_sk ?_
        refine dr_sk ?_
        refine dr_sk ?_
        refine dr_sk ?_
        refine dr_sk ?_
        refine dr_sk ?_
        refine dr_sk ?_
        refine dr_sk ?_
        refine dr_sk ?_
        refine dr_sk ?_
        refine dr_sk ?_
        refine dr_l (x_pick_f rfl rfl rfl) ?_
        refine dr_nil0 ?_
        refine aw_kp [0, 3, 5, 6, 19, 20, 21, 22, 23, 24, 25, 28, 29, 30, 31, 32, 33, 34, 35, 36, 37, 38, 39, 40, 41, 42, 43, 44, 45, 46, 47, 48, 49, 50, 51, 52, 53, 54, 55, 56, 57, 58, 59] ?_
        refine aw_false rfl ?_
        refine aw_skip ?_
        show AW _ _ _ _ _ _ _
        refine aw_region ?_
        refine sr_mv ?_
        refine sr_rd (x_add' rfl rfl (i64w (by omega) (by omega))) ?_
        refine sr_as ?_
        refine sr_nil ?_
        show ∃ s', _ ∧ _ ∧ _ ∧ _
        exact ⟨k + 1, ⟨by omega, fun j y h hy q1 q2 => by (rcases Nat.lt_or_eq_of_le (Nat.le_of_lt_succ h) with q | q); (exact hall j y q hy q1 q2); (subst q; rw [hx] at hy; cases hy; omega)⟩, by omega, KeepF.auto, Sub.autoP⟩
    · refine sr_nil ?_
      refine aw_kp [0, 3, 5, 19, 20, 21, 22, 23, 24, 25] ?_
      refine aw_false rfl ?_
      refine aw_exit ?_
      show AW _ _ _ _ _ _ _
      refine aw_seq_region ?_
      refine sr_as ?_
      refine sr_nil ?_
      refine aw_kp [4] ?_
      refine aw_ret ?_
      show ∃ v H2, ResV _ _ _ _ _ _ v ∧ Sub H2 _ ∧ _
      first | exact ⟨_, H, resV rfl (.cons rfl .nil), Sub.autoR, ⟨true, rfl, ⟨fun _ => ⟨by omega, fun e he q1 q2 => by (obtain ⟨j, hj⟩ := List.getElem?_of_mem he); exact hall j e (by have := get_lt hj; omega) hj q1 q2⟩, fun _ => rfl⟩⟩, rfl⟩ | exact ⟨_, H, resV rfl (.cons rfl .nil), Sub.autoR, ⟨false, rfl, ⟨fun h => (by cases h), fun h => absurd (h.2 x (List.mem_of_getElem? hx) (by omega) (by omega)) (by omega)⟩⟩, rfl⟩ | exact ⟨_, H, resV rfl (.cons rfl .nil), Sub.autoR, ⟨false, rfl, ⟨fun h => (by cases h), fun h => absurd h.1 (by omega)⟩⟩, rfl⟩
set_option maxRecDepth 100000 in
set_option maxHeartbeats 400000 in
theorem lbright_s (e : BEnt) (H : SHeap) : AC Try.prog W0 158 [BEnt.v e] H (fun v H' => v = .bool (decide (bR e)) ∧ H' = H) := by
  refine ac_of Try.func158 rfl rfl rfl ?_
  refine aw_seq_region ?_
  refine sr_new rfl (wtd_none rfl) rfl (x_box rfl rfl) ?_
  intro r0_0 hr0_0 gr0_0
  refine sr_as ?_
  refine sr_nil ?_
  refine aw_kp [1, 2] ?_
  refine aw_seq_region ?_
  refine sr_rd (x_fieldAddr fd128_0 rfl) ?_
  refine sr_rd (x_load ag9 rfl (cells_ext mauto Ext.auto)) ?_
  refine sr_rd (x_lenStr Try.underlying9 rfl) ?_
  refine sr_c (x_ge rfl rfl) (fun h1 => ?_) (fun h1 => ?_)
  · refine sr_mv ?_
    refine sr_ry (x_fieldAddr fd128_0 rfl) ?_
    refine sr_ry (x_load ag9 rfl (cells_ext mauto Ext.auto)) ?_
    refine sr_ry (x_lenStr Try.underlying9 rfl) ?_
    refine sr_cy (x_le rfl rfl) (fun h2 => ?_) (fun h2 => ?_)
    · refine sr_rd (x_pick_t rfl rfl rfl) ?_
      refine sr_mv ?_
      refine sr_ry (x_fieldAddr fd128_1 rfl) ?_
      refine sr_ry (x_fieldAddr fd55_0 rfl) ?_
      refine sr_ry (x_load ag2 rfl (cells_ext mauto Ext.auto)) ?_
      refine sr_cy (x_ge rfl rfl) (fun h3 => ?_) (fun h3 => ?_)
      · refine sr_rd (x_pick_t rfl rfl rfl) ?_
        refine sr_mv ?_
        refine sr_ry (x_fieldAddr fd128_1 rfl) ?_
        refine sr_ry (x_fieldAddr fd55_0 rfl) ?_
        refine sr_ry (x_load ag2 rfl (cells_ext mauto Ext.auto)) ?_
        refine sr_ry (x_fieldAddr fd128_1 rfl) ?_
        refine sr_ry (x_fieldAddr fd55_1 rfl) ?_
        refine sr_ry (x_load ag2 rfl (cells_ext mauto Ext.auto)) ?_
        refine sr_cy (x_lt rfl rfl) (fun h4 => ?_) (fun h4 => ?_)
        · refine sr_rd (x_pick_t rfl rfl rfl) ?_
          refine sr_mv ?_
          refine sr_ry (x_fieldAddr fd128_1 rfl) ?_
          refine sr_ry (x_fieldAddr fd55_1 rfl) ?_
          refine sr_ry (x_load ag2 rfl (cells_ext mauto Ext.auto)) ?_
          refine sr_cy (x_le rfl rfl) (fun h5 => ?_) (fun h5 => ?_)
          · refine sr_rd (x_pick_t rfl rfl rfl) ?_
            refine sr_mv ?_
            refine sr_ry (x_fieldAddr fd128_1 rfl) ?_
            refine sr_ry (x_fieldAddr fd55_2 rfl) ?_
            refine sr_ry (x_load ag3 rfl (cells_ext mauto Ext.auto)) ?_
            refine sr_cy (x_ge rfl rfl) (fun h6 => ?_) (fun h6 => ?_)
            · refine sr_rd (x_pick_t rfl rfl rfl) ?_
              refine sr_mv ?_
              refine sr_ry (x_fieldAddr fd128_1 rfl) ?_
              refine sr_ry (x_fieldAddr fd55_2 rfl) ?_
              refine sr_ry (x_load ag3 rfl (cells_ext mauto Ext.auto)) ?_
              refine sr_cy (x_le rfl rfl) (fun h7 => ?_) (fun h7 => ?_)
              · refine sr_rd (x_pick_t rfl rfl rfl) ?_
                refine sr_as ?_
                refine sr_nil ?_
                refine aw_kp [2] ?_
                refine aw_ret ?_
                show ∃ v H2, ResV _ _ _ _ _ _ v ∧ Sub H2 _ ∧ _
                exact ⟨_, H, resV rfl (.cons rfl .nil), Sub.autoR, ⟨congrArg Value.bool (by first | exact (decide_eq_true (by unfold bR; omega)).symm | exact (decide_eq_false (by unfold bR; omega)).symm), rfl⟩⟩
              · refine sr_rd (x_pick_t rfl rfl rfl) ?_
                refine sr_as ?_
                refine sr_nil ?_
                refine aw_kp [2] ?_
                refine aw_ret ?_
                show ∃ v H2, ResV _ _ _ _ _ _ v ∧ Sub H2 _ ∧ _
                exact ⟨_, H, resV rfl (.cons rfl .nil), Sub.autoR, ⟨congrArg Value.bool (by first | exact (decide_eq_true (by unfold bR; omega)).symm | exact (decide_eq_false (by unfold bR; omega)).symm), rfl⟩⟩
            · refine sr_rd (x_pick_t rfl rfl rfl) ?_
              refine sr_mv ?_
              refine sr_sk ?_
              refine sr_sk ?_
              refine sr_sk ?_
              refine sr_sk ?_
              refine sr_rd (x_pick_f rfl rfl rfl) ?_
              refine sr_as ?_
              refine sr_nil ?_
              refine aw_kp [2] ?_
              refine aw_ret ?_
              show ∃ v H2, ResV _ _ _ _ _ _ v ∧ Sub H2 _ ∧ _
              exact ⟨_, H, resV rfl (.cons rfl .nil), Sub.autoR, ⟨congrArg Value.bool (by first | exact (decide_eq_true (by unfold bR; omega)).symm | exact (decide_eq_false (by unfold bR; omega)).symm), rfl⟩⟩
          · refine sr_rd (x_pick_t rfl rfl rfl) ?_
            refine sr_mv ?_
            refine sr_sk ?_
            refine sr_sk ?_
            refine sr_sk ?_
            refine sr_sk ?_
            refine sr_rd (x_pick_f rfl rfl rfl) ?_
            refine sr_mv ?_
            refine sr_sk ?_
            refine sr_sk ?_
            refine sr_sk ?_
            refine sr_sk ?_
            refine sr_rd (x_pick_f rfl rfl rfl) ?_
            refine sr_as ?_
            refine sr_nil ?_
            refine aw_kp [2] ?_
            refine aw_ret ?_
            show ∃ v H2, ResV _ _ _ _ _ _ v ∧ Sub H2 _ ∧ _
            exact ⟨_, H, resV rfl (.cons rfl .nil), Sub.autoR, ⟨congrArg Value.bool (by first | exact (decide_eq_true (by unfold bR; omega)).symm | exact (decide_eq_false (by unfold bR; omega)).symm), rfl⟩⟩
        · refine sr_rd (x_pick_t rfl rfl rfl) ?_
          refine sr_mv ?_
          refine sr_sk ?_
          refine sr_sk ?_
          refine sr_sk ?_
          refine sr_sk ?_
          refine sr_rd (x_pick_f rfl rfl rfl) ?_
          refine sr_mv ?_
          refine sr_sk ?_
          refine sr_sk ?_
          refine sr_sk ?_
          refine sr_sk ?_
          refine sr_rd (x_pick_f rfl rfl rfl) ?_
          refine sr_mv ?_
          refine sr_sk ?_
          refine sr_sk ?_
          refine sr_sk ?_
          refine sr_sk ?_
          refine sr_rd (x_pick_f rfl rfl rfl) ?_
          refine sr_as ?_
          refine sr_nil ?_
          refine aw_kp [2] ?_
          refine aw_ret ?_
          show ∃ v H2, ResV _ _ _ _ _ _ v ∧ Sub H2 _ ∧ _
          exact ⟨_, H, resV rfl (.cons rfl .nil), Sub.autoR, ⟨congrArg Value.bool (by first | exact (decide_eq_true (by unfold bR; omega)).symm | exact (decide_eq_false (by unfold bR; omega)).symm), rfl⟩⟩
      · refine sr_rd (x_pick_t rfl rfl rfl) ?_
        refine sr_mv ?_
        refine sr_sk ?_
        refine sr_sk ?_
        refine sr_sk ?_
        refine sr_sk ?_
        refine sr_sk ?_
        refine sr_sk ?_
        refine sr_sk ?_
        refine sr_rd (x_pick_f rfl rfl rfl) ?_
        refine sr_mv ?_
        refine sr_sk ?_
        refine sr_sk ?_
        refine sr_sk ?_
        refine sr_sk ?_
        refine sr_rd (x_pick_f rfl rfl rfl) ?_
        refine sr_mv ?_
        refine sr_sk ?_
        refine sr_sk ?_
        refine sr_sk ?_
        refine sr_sk ?_
        refine sr_rd (x_pick_f rfl rfl rfl) ?_
        refine sr_mv ?_
        refine sr_sk ?_
        refine sr_sk ?_
        refine sr_sk ?_
        refine sr_sk ?_
        refine sr_rd (x_pick_f rfl rfl rfl) ?_
        refine sr_as ?_
        refine sr_nil ?_
        refine aw_kp [2] ?_
        refine aw_ret ?_
        show ∃ v H2, ResV _ _ _ _ _ _ v ∧ Sub H2 _ ∧ _
        exact ⟨_, H, resV rfl (.cons rfl .nil), Sub.autoR, ⟨congrArg Value.bool (by first | exact (decide_eq_true (by unfold bR; omega)).symm | exact (decide_eq_false (by unfold bR; omega)).symm), rfl⟩⟩
    · refine sr_rd (x_pick_t rfl rfl rfl) ?_
      refine sr_mv ?_
      refine sr_sk ?_
      refine sr_sk ?_
      refine sr_sk ?_
      refine sr_sk ?_
      refine sr_rd (x_pick_f rfl rfl rfl) ?_
      refine sr_mv ?_
      refine sr_sk ?_
      refine sr_sk ?_
      refine sr_sk ?_
      refine sr_sk ?_
      refine sr_sk ?_
      refine sr_sk ?_
      refine sr_sk ?_
      refine sr_rd (x_pick_f rfl rfl rfl) ?_
      refine sr_mv ?_
      refine sr_sk ?_
      refine sr_sk ?_
      refine sr_sk ?_
      refine sr_sk ?_
      refine sr_rd (x_pick_f rfl rfl rfl) ?_
      refine sr_mv ?_
      refine sr_sk ?_
      refine sr_sk ?_
      refine sr_sk ?_
      refine sr_sk ?_
      refine sr_rd (x_pick_f rfl rfl rfl) ?_
      refine sr_mv ?_
      refine sr_sk ?_
      refine sr_sk ?_
      refine sr_sk ?_
      refine sr_sk ?_
      refine sr_rd (x_pick_f rfl rfl rfl) ?_
      refine sr_as ?_
      refine sr_nil ?_
      refine aw_kp [2] ?_
      refine aw_ret ?_
      show ∃ v H2, ResV _ _ _ _ _ _ v ∧ Sub H2 _ ∧ _
      exact ⟨_, H, resV rfl (.cons rfl .nil), Sub.autoR, ⟨congrArg Value.bool (by first | exact (decide_eq_true (by unfold bR; omega)).symm | exact (decide_eq_false (by unfold bR; omega)).symm), rfl⟩⟩
  · refine sr_mv ?_
    refine sr_sk ?_
    refine sr_sk ?_
    refine sr_sk ?_
    refine sr_sk ?_
    refine sr_rd (x_pick_f rfl rfl rfl) ?_
    refine sr_mv ?_
    refine sr_sk ?_
    refine sr_sk ?_
    refine sr_sk ?_
    refine sr_sk ?_
    refine sr_rd (x_pick_f rfl rfl rfl) ?_
    refine sr_mv ?_
    refine sr_sk ?_
    refine sr_sk ?_
    refine sr_sk ?_
    refine sr_sk ?_
    refine sr_sk ?_
    refine sr_sk ?_
    refine sr_sk ?_
    refine sr_rd (x_pick_f rfl rfl rfl) ?_
    refine sr_mv ?_
    refine sr_sk ?_
    refine sr_sk ?_
    refine sr_sk ?_
    refine sr_sk ?_
    refine sr_rd (x_pick_f rfl rfl rfl) ?_
    refine sr_mv ?_
    refine sr_sk ?_
    refine sr_sk ?_
    refine sr_sk ?_
    refine sr_sk ?_
    refine sr_rd (x_pick_f rfl rfl rfl) ?_
    refine sr_mv ?_
    refine sr_sk ?_
    refine sr_sk ?_
    refine sr_sk ?_
    refine sr_sk ?_
    refine sr_rd (x_pick_f rfl rfl rfl) ?_
    refine sr_as ?_
    refine sr_nil ?_
    refine aw_kp [2] ?_
    refine aw_ret ?_
    show ∃ v H2, ResV _ _ _ _ _ _ v ∧ Sub H2 _ ∧ _
    exact ⟨_, H, resV rfl (.cons rfl .nil), Sub.autoR, ⟨congrArg Value.bool (by first | exact (decide_eq_true (by unfold bR; omega)).symm | exact (decide_eq_false (by unfold bR; omega)).symm), rfl⟩⟩
set_option maxRecDepth 100000 in
set_option maxHeartbeats 8000000 in
theorem ladd_s (bk : Nat) (a : Option Addr) (cap : Nat) (B : List BEnt) (nodes : Int) (E G : SHeap) (V : OwnVec 4 128 (.slice a B.length cap) B.length (B.flatMap BEnt.cells) E) (hI : BkI B nodes) (hn : 1 ≤ nodes ∧ nodes ≤ 64) (e : BEnt) : AC Try.prog W0 139 [.pointer (some ⟨bk, 0, none⟩), BEnt.v e] (bpB bk (.slice a B.length cap) nodes :: (E ++ G)) (fun v H' => ∃ (r : Int) (B' : List BEnt) (a' : Option Addr) (c' : Nat) (E' : SHeap), v = .int .i64 r ∧ AddB B nodes e r B' ∧ OwnVec 4 128 (.slice a' B'.length c') B'.length (B'.flatMap BEnt.cells) E' ∧ H' = bpB bk (.slice a' B'.length c') nodes :: (E' ++ G)) := by
  have hs := V.slv' (W0 := W0) (fun _ => rfl) rfl (Sub.refl _)
  have hle := hs.le
  have hcb := hs.capb
  have hl := hI.len
  have hok := hI.ok
  refine ac_of Try.func139 rfl rfl rfl ?_
  refine aw_seq_region ?_
  refine sr_new rfl (wtd_none rfl) rfl (x_box rfl rfl) ?_
  intro r0_0 hr0_0 gr0_0
  refine sr_as ?_
  refine sr_nil ?_
  refine aw_kp [0, 3, 4] ?_
  refine aw_seq ?_
  refine aw_seq_region ?_
  refine sr_rd (x_loadN ag128 sz128 rfl (cells_ext mauto Ext.auto) rfl) ?_
  refine sr_d rfl (wtd_none rfl) rfl (opS_call rfl rfl rfl rfl cl158 (lbright_s e _)) ?_
  rintro _ H9 ⟨rfl, rfl⟩
  generalize hd : decide (bR e) = d1
  cases d1
  · refine sr_rd (x_not rfl) ?_
    refine sr_nil ?_
    refine aw_kp [0, 3, 4, 11] ?_
    refine aw_true rfl ?_
    refine aw_seq_region ?_
    refine sr_as ?_
    refine sr_nil ?_
    refine aw_kp [0, 3, 4] ?_
    refine aw_ret ?_
    show ∃ v H2, ResV _ _ _ _ _ _ v ∧ Sub H2 _ ∧ _
    first | exact ⟨_, bpB bk (.slice a B.length cap) nodes :: (E ++ G), resV rfl (.cons rfl .nil), Sub.autoD, 1, B, a, cap, E, rfl, .arg (of_decide_eq_false hd), V, rfl⟩ | exact ⟨_, bpB bk (.slice a B.length cap) nodes :: (E ++ G), resV rfl (.cons rfl .nil), Sub.autoD, 13, B, a, cap, E, rfl, .twice hbR ⟨x, List.mem_of_getElem? hx, by assumption⟩, V, rfl⟩ | exact ⟨_, bpB bk (.slice a B.length cap) nodes :: (E ++ G), resV rfl (.cons rfl .nil), Sub.autoD, 3, B, a, cap, E, rfl, .long hbR hno (by omega), V, rfl⟩ | exact ⟨_, bpB bk (.slice a B.length cap) nodes :: (E ++ G), resV rfl (.cons rfl .nil), Sub.autoD, 6, B, a, cap, E, rfl, .full hbR hno (by omega) (fun h9 => by have := hb.2 h9; cases this), V, rfl⟩ | (have hfin := hIn.fin (by omega); rw [if_pos rfl] at hfin; exact ⟨_, bpB bk (.slice a2 C.length c2) nodes :: (E2 ++ G), resV rfl (.cons rfl .nil), Sub.autoD, 0, C, a2, c2, E2, rfl, (by rw [hfin]; exact .ok hbR hno (by omega) (hb.1 rfl)), V2, rfl⟩) | (have hfin := hIn.fin (by omega); rw [if_neg (by decide)] at hfin; exact ⟨_, bpB bk (.slice a86 (C.length + 1) cap86) nodes :: (E86 ++ G), resV rfl (.cons rfl .nil), Sub.autoD, 0, insB e B, a86, cap86, E86, rfl, .ok hbR hno (by omega) (hb.1 rfl), (by rw [← hfin]; exact OwnVec.snocS hV86), (by rw [← hfin, List.length_append]; rfl)⟩)
  · refine sr_rd (x_not rfl) ?_
    refine sr_nil ?_
    refine aw_kp [0, 3, 4, 11] ?_
    refine aw_false rfl ?_
    refine aw_skip ?_
    show AW _ _ _ _ _ _ _
    refine aw_seq ?_
    refine aw_seq_region ?_
    have hbR := of_decide_eq_true hd
    have hbR2 := hbR
    unfold bR at hbR2
    refine sr_as ?_
    refine sr_nil ?_
    refine aw_kp [0, 3, 4, 5] ?_
    refine aw_block ?_
    refine aw_loop (ι := Nat) (fun k => k ≤ B.length ∧ ∀ j x, j < k → B[j]? = some x → x.name ≠ e.name) (fun k => [(0, .pointer (some ⟨bk, 0, none⟩)), (3, .pointer (some ⟨r0_0, 0, none⟩)), (5, .int .i64 k)]) (fun _ => (r0_0, .cells (BEnt.cells e).toArray 128 (0, 0)) :: (bpB bk (.slice a B.length cap) nodes :: (E ++ G))) (fun k => B.length - k) 0 (⟨Nat.zero_le _, fun j x h => by omega⟩) KeepF.auto Sub.autoP ?_
    intro k hk9
    obtain ⟨hk, hall⟩ := hk9
    refine aw_seq ?_
    refine aw_seq_region ?_
    refine sr_mv ?_
    refine sr_mv ?_
    refine sr_rd (x_nilCheck rfl) ?_
    refine sr_rd (x_fieldAddr fd124_0 rfl) ?_
    refine sr_rd (x_load ag122 rfl (cells_ext mauto Ext.auto)) ?_
    refine sr_rd (x_lenSlice Try.underlying122 rfl) ?_
    refine sr_c (x_lt rfl rfl) (fun h1 => ?_) (fun h1 => ?_)
    · refine sr_nil ?_
      refine aw_kp [0, 3, 5, 12, 13, 14, 15, 16, 17, 18] ?_
      refine aw_true rfl ?_
      refine aw_skip ?_
      show AW _ _ _ _ _ _ _
      refine aw_seq ?_
      refine aw_block ?_
      refine aw_seq_dr ⟨_, 11, 91, [[], [0], [0, 1], [0, 1, 2], [], [0, 1, 2, 3, 4], [0, 1, 2, 3, 4, 5], [0, 1, 2, 3, 4, 5, 6], [], [8], [0, 1, 2, 3, 4, 5, 6, 7, 8, 9]], [.light, .light, .light, .mem, .light, .light, .light, .mem, .light, .mem, .light]⟩ (by kernel_rfl) rfl rfl mix ?_
      obtain ⟨x, hx⟩ := get_ex (show k < B.length by omega)
      obtain ⟨bx, ox, hax, hcx⟩ := hs.at_ _ _ hx
      have hxo := hok x (List.mem_of_getElem? hx)
      unfold bR at hxo
      refine dr_l (x_move rfl) ?_
      refine dr_l (x_nilCheck rfl) ?_
      refine dr_l (x_fieldAddr fd124_0 rfl) ?_
      refine dr_mem0 rfl rfl (wtd_none rfl) (x_load ag122 rfl (cells_ext mauto Ext.auto)) ?_
      refine dr_l (x_move rfl) ?_
      refine dr_l (x_indexAddrN (k) Try.underlying122 sz128 rfl hax rfl (by omega) (by omega)) ?_
      refine dr_l (x_fieldAddr fd128_0 rfl) ?_
      refine dr_mem0 rfl rfl (wtd_none rfl) (x_load ag9 rfl (cells_get (Cells.mono hcx Sub.autoE) 0 rfl)) ?_
      refine dr_l (x_fieldAddr fd128_0 rfl) ?_
      refine dr_mem0 rfl rfl (wtd_none rfl) (x_load ag9 rfl (cells_ext mauto Ext.auto)) ?_
      refine dr_cmp rfl rfl (wtd_none rfl) (x_eqS rfl rfl) (fun h2 => ?_) (fun h2 => ?_)
      · refine dr_nil0 ?_
        refine aw_kp [0, 3, 5, 12, 13, 14, 15, 16, 17, 18, 21, 22, 23, 24, 25, 26, 27, 28, 29, 30, 31] ?_
        refine aw_true rfl ?_
        refine aw_seq_region ?_
        refine sr_as ?_
        refine sr_nil ?_
        refine aw_kp [0, 3, 4, 5, 12, 13, 14, 15, 16, 17, 18, 21, 22, 23, 24, 25, 26, 27, 28, 29, 30, 31] ?_
        refine aw_ret ?_
        show ∃ v H2, ResV _ _ _ _ _ _ v ∧ Sub H2 _ ∧ _
        first | exact ⟨_, bpB bk (.slice a B.length cap) nodes :: (E ++ G), resV rfl (.cons rfl .nil), Sub.autoD, 1, B, a, cap, E, rfl, .arg (of_decide_eq_false hd), V, rfl⟩ | exact ⟨_, bpB bk (.slice a B.length cap) nodes :: (E ++ G), resV rfl (.cons rfl .nil), Sub.autoD, 13, B, a, cap, E, rfl, .twice hbR ⟨x, List.mem_of_getElem? hx, by assumption⟩, V, rfl⟩ | exact ⟨_, bpB bk (.slice a B.length cap) nodes :: (E ++ G), resV rfl (.cons rfl .nil), Sub.autoD, 3, B, a, cap, E, rfl, .long hbR hno (by omega), V, rfl⟩ | exact ⟨_, bpB bk (.slice a B.length cap) nodes :: (E ++ G), resV rfl (.cons rfl .nil), Sub.autoD, 6, B, a, cap, E, rfl, .full hbR hno (by omega) (fun h9 => by have := hb.2 h9; cases this), V, rfl⟩ | (have hfin := hIn.fin (by omega); rw [if_pos rfl] at hfin; exact ⟨_, bpB bk (.slice a2 C.length c2) nodes :: (E2 ++ G), resV rfl (.cons rfl .nil), Sub.autoD, 0, C, a2, c2, E2, rfl, (by rw [hfin]; exact .ok hbR hno (by omega) (hb.1 rfl)), V2, rfl⟩) | (have hfin := hIn.fin (by omega); rw [if_neg (by decide)] at hfin; exact ⟨_, bpB bk (.slice a86 (C.length + 1) cap86) nodes :: (E86 ++ G), resV rfl (.cons rfl .nil), Sub.autoD, 0, insB e B, a86, cap86, E86, rfl, .ok hbR hno (by omega) (hb.1 rfl), (by rw [← hfin]; exact OwnVec.snocS hV86), (by rw [← hfin, List.length_append]; rfl)⟩)
      · refine dr_nil0 ?_
        refine aw_kp [0, 3, 5, 12, 13, 14, 15, 16, 17, 18, 21, 22, 23, 24, 25, 26, 27, 28, 29, 30, 31] ?_
        refine aw_false rfl ?_
        refine aw_skip ?_
        show AW _ _ _ _ _ _ _
        refine aw_region ?_
        refine sr_mv ?_
        refine sr_rd (x_add' rfl rfl (i64w (by omega) (by omega))) ?_
        refine sr_as ?_
        refine sr_nil ?_
        show ∃ s', _ ∧ _ ∧ _ ∧ _
        exact ⟨k + 1, ⟨by omega, fun j y h hy => by (rcases Nat.lt_or_eq_of_le (Nat.le_of_lt_succ h) with q | q); (exact hall j y q hy); (subst q; rw [hx] at hy; cases hy; assumption)⟩, by omega, KeepF.auto, Sub.autoP⟩
    · refine sr_nil ?_
      refine aw_kp [0, 3, 5, 12, 13, 14, 15, 16, 17, 18] ?_
      refine aw_false rfl ?_
      refine aw_exit ?_
      show AW _ _ _ _ _ _ _
      refine aw_seq ?_
      refine aw_seq_region ?_
      have hno : ∀ x ∈ B, x.name ≠ e.name := fun x hx => by (obtain ⟨j, hj⟩ := List.getElem?_of_mem hx); exact hall j x (by have := get_lt hj; omega) hj
      refine sr_mv ?_
      refine sr_rd (x_nilCheck rfl) ?_
      refine sr_rd (x_fieldAddr fd124_0 rfl) ?_
      refine sr_rd (x_load ag122 rfl (cells_ext mauto Ext.auto)) ?_
      refine sr_rd (x_lenSlice Try.underlying122 rfl) ?_
      refine sr_c (x_gt rfl rfl) (fun h3 => ?_) (fun h3 => ?_)
      · refine sr_nil ?_
        refine aw_kp [0, 3, 37] ?_
        refine aw_true rfl ?_
        refine aw_seq_region ?_
        refine sr_as ?_
        refine sr_nil ?_
        refine aw_kp [0, 3, 4] ?_
        refine aw_ret ?_
        show ∃ v H2, ResV _ _ _ _ _ _ v ∧ Sub H2 _ ∧ _
        first | exact ⟨_, bpB bk (.slice a B.length cap) nodes :: (E ++ G), resV rfl (.cons rfl .nil), Sub.autoD, 1, B, a, cap, E, rfl, .arg (of_decide_eq_false hd), V, rfl⟩ | exact ⟨_, bpB bk (.slice a B.length cap) nodes :: (E ++ G), resV rfl (.cons rfl .nil), Sub.autoD, 13, B, a, cap, E, rfl, .twice hbR ⟨x, List.mem_of_getElem? hx, by assumption⟩, V, rfl⟩ | exact ⟨_, bpB bk (.slice a B.length cap) nodes :: (E ++ G), resV rfl (.cons rfl .nil), Sub.autoD, 3, B, a, cap, E, rfl, .long hbR hno (by omega), V, rfl⟩ | exact ⟨_, bpB bk (.slice a B.length cap) nodes :: (E ++ G), resV rfl (.cons rfl .nil), Sub.autoD, 6, B, a, cap, E, rfl, .full hbR hno (by omega) (fun h9 => by have := hb.2 h9; cases this), V, rfl⟩ | (have hfin := hIn.fin (by omega); rw [if_pos rfl] at hfin; exact ⟨_, bpB bk (.slice a2 C.length c2) nodes :: (E2 ++ G), resV rfl (.cons rfl .nil), Sub.autoD, 0, C, a2, c2, E2, rfl, (by rw [hfin]; exact .ok hbR hno (by omega) (hb.1 rfl)), V2, rfl⟩) | (have hfin := hIn.fin (by omega); rw [if_neg (by decide)] at hfin; exact ⟨_, bpB bk (.slice a86 (C.length + 1) cap86) nodes :: (E86 ++ G), resV rfl (.cons rfl .nil), Sub.autoD, 0, insB e B, a86, cap86, E86, rfl, .ok hbR hno (by omega) (hb.1 rfl), (by rw [← hfin]; exact OwnVec.snocS hV86), (by rw [← hfin, List.length_append]; rfl)⟩)
      · refine sr_nil ?_
        refine aw_kp [0, 3, 37] ?_
        refine aw_false rfl ?_
        refine aw_skip ?_
        show AW _ _ _ _ _ _ _
        refine aw_seq ?_
        refine aw_seq_region ?_
        refine sr_mv ?_
        refine sr_rd (x_fieldAddr fd128_1 rfl) ?_
        refine sr_rd (x_loadN ag55 sz55 rfl (cells_ext (vs := PSpan.cells e.sp) (n := 3) mauto (by repeat (first | exact Ext.done | apply Ext.take | apply Ext.skip))) rfl) ?_
        refine sr_d rfl (wtd_none rfl) rfl (opS_call rfl rfl rfl rfl cl159 (lroom_s bk a cap B nodes _ (cells_ext mauto Ext.auto) (hs.mono Sub.autoE) hok hl e.sp (by omega) (by omega) hn)) ?_
        rintro _ H9 ⟨⟨b, rfl, hb⟩, rfl⟩
        cases b
        · refine sr_rd (x_not rfl) ?_
          refine sr_nil ?_
          refine aw_kp [0, 3, 42] ?_
          refine aw_true rfl ?_
          refine aw_seq_region ?_
          refine sr_as ?_
          refine sr_nil ?_
          refine aw_kp [0, 3, 4] ?_
          refine aw_ret ?_
          show ∃ v H2, ResV _ _ _ _ _ _ v ∧ Sub H2 _ ∧ _
          first | exact ⟨_, bpB bk (.slice a B.length cap) nodes :: (E ++ G), resV rfl (.cons rfl .nil), Sub.autoD, 1, B, a, cap, E, rfl, .arg (of_decide_eq_false hd), V, rfl⟩ | exact ⟨_, bpB bk (.slice a B.length cap) nodes :: (E ++ G), resV rfl (.cons rfl .nil), Sub.autoD, 13, B, a, cap, E, rfl, .twice hbR ⟨x, List.mem_of_getElem? hx, by assumption⟩, V, rfl⟩ | exact ⟨_, bpB bk (.slice a B.length cap) nodes :: (E ++ G), resV rfl (.cons rfl .nil), Sub.autoD, 3, B, a, cap, E, rfl, .long hbR hno (by omega), V, rfl⟩ | exact ⟨_, bpB bk (.slice a B.length cap) nodes :: (E ++ G), resV rfl (.cons rfl .nil), Sub.autoD, 6, B, a, cap, E, rfl, .full hbR hno (by omega) (fun h9 => by have := hb.2 h9; cases this), V, rfl⟩ | (have hfin := hIn.fin (by omega); rw [if_pos rfl] at hfin; exact ⟨_, bpB bk (.slice a2 C.length c2) nodes :: (E2 ++ G), resV rfl (.cons rfl .nil), Sub.autoD, 0, C, a2, c2, E2, rfl, (by rw [hfin]; exact .ok hbR hno (by omega) (hb.1 rfl)), V2, rfl⟩) | (have hfin := hIn.fin (by omega); rw [if_neg (by decide)] at hfin; exact ⟨_, bpB bk (.slice a86 (C.length + 1) cap86) nodes :: (E86 ++ G), resV rfl (.cons rfl .nil), Sub.autoD, 0, insB e B, a86, cap86, E86, rfl, .ok hbR hno (by omega) (hb.1 rfl), (by rw [← hfin]; exact OwnVec.snocS hV86), (by rw [← hfin, List.length_append]; rfl)⟩)
        · refine sr_rd (x_not rfl) ?_
          refine sr_nil ?_
          refine aw_kp [0, 3, 42] ?_
          refine aw_false rfl ?_
          refine aw_skip ?_
          show AW _ _ _ _ _ _ _
          refine aw_seq_region ?_
          refine sr_as ?_
          refine sr_nil ?_
          refine aw_kp [0, 3, 6] ?_
          refine aw_seq_region ?_
          refine sr_as ?_
          refine sr_nil ?_
          refine aw_kp [0, 3, 6, 7] ?_
          refine aw_seq ?_
          refine aw_seq_region ?_
          refine sr_as ?_
          refine sr_nil ?_
          refine aw_kp [0, 3, 6, 7, 8] ?_
          refine aw_block ?_
          refine aw_loop (ι := BfG) (fun s => s.k ≤ B.length ∧ InsI e B s.k s.put s.C ∧ OwnVec 4 128 (.slice s.a s.C.length s.c) s.C.length (s.C.flatMap BEnt.cells) s.E) (fun s => [(0, .pointer (some ⟨bk, 0, none⟩)), (3, .pointer (some ⟨r0_0, 0, none⟩)), (6, .slice s.a s.C.length s.c), (7, .bool s.put), (8, .int .i64 s.k)]) (fun s => s.E ++ ((r0_0, .cells (BEnt.cells e).toArray 128 (0, 0)) :: (bpB bk (.slice a B.length cap) nodes :: (E ++ G)))) (fun s => B.length - s.k) ⟨0, false, [], none, 0, []⟩ (⟨Nat.zero_le _, InsI.start, .nil⟩) KeepF.auto Sub.autoP ?_
          intro s9 hs9
          clear hk hall
          obtain ⟨k, put, C, a2, c2, E2⟩ := s9
          dsimp only at hs9 ⊢
          obtain ⟨hk, hIn, V2⟩ := hs9
          have hCl := hIn.len hk
          cases put
          · first | rw [if_pos rfl] at hCl | rw [if_neg (by decide)] at hCl
            refine aw_seq ?_
            refine aw_seq_region ?_
            refine sr_mv ?_
            refine sr_mv ?_
            refine sr_rd (x_nilCheck rfl) ?_
            refine sr_rd (x_fieldAddr fd124_0 rfl) ?_
            refine sr_rd (x_load ag122 rfl (cells_ext mauto Ext.auto)) ?_
            refine sr_rd (x_lenSlice Try.underlying122 rfl) ?_
            refine sr_c (x_lt rfl rfl) (fun h4 => ?_) (fun h4 => ?_)
            · refine sr_nil ?_
              refine aw_kp [0, 3, 6, 7, 8, 43, 44, 45, 46, 47, 48, 49] ?_
              refine aw_true rfl ?_
              refine aw_skip ?_
              show AW _ _ _ _ _ _ _
              refine aw_seq ?_
              refine aw_block ?_
              refine aw_seq ?_
              refine aw_seq_dr ⟨_, 15, 91, [[], [0], [0, 1], [0, 1, 2], [0, 1, 2, 3], [0, 1, 2, 3, 4], [0, 1, 2, 3, 4, 5], [0, 1, 2], [0, 1, 2, 3, 4, 5, 6, 7], [0, 1, 2, 3, 4, 5, 6, 7, 8], [0, 1, 2, 3, 4, 5, 6, 7, 8, 9], [0, 1, 2], [0, 1, 2, 11], [0, 1, 2, 3, 4, 5, 6, 7, 8, 9, 10, 11, 12], [0, 1, 2, 3, 4, 5, 6, 7, 8, 9, 10, 11, 12, 13]], [.light, .light, .light, .light, .light, .light, .mem, .light, .light, .light, .mem, .light, .mem, .light, .light]⟩ (by kernel_rfl) rfl rfl mix ?_
              obtain ⟨x, hx⟩ := get_ex (show k < B.length by omega)
              obtain ⟨bx, ox, hax, hcx⟩ := hs.at_ _ _ hx
              have hxo := hok x (List.mem_of_getElem? hx)
              unfold bR at hxo
              refine dr_l (x_move rfl) ?_
              refine dr_l (x_not rfl) ?_
              refine dr_l (x_move rfl) ?_
              refine dr_y (x_move rfl) ?_
              refine dr_y (x_nilCheck rfl) ?_
              refine dr_y (x_fieldAddr fd124_0 rfl) ?_
              refine dr_mem0 rfl rfl (wtd_yes rfl rfl rfl) (x_load ag122 rfl (cells_ext mauto Ext.auto)) ?_
              refine dr_y (x_move rfl) ?_
              refine dr_y (x_indexAddrN (k) Try.underlying122 sz128 rfl hax rfl (by omega) (by omega)) ?_
              refine dr_y (x_fieldAddr fd128_0 rfl) ?_
              refine dr_mem0 rfl rfl (wtd_yes rfl rfl rfl) (x_load ag9 rfl (cells_get (Cells.mono hcx Sub.autoE) 0 rfl)) ?_
              refine dr_y (x_fieldAddr fd128_0 rfl) ?_
              refine dr_mem0 rfl rfl (wtd_yes rfl rfl rfl) (x_load ag9 rfl (cells_ext mauto Ext.auto)) ?_
              refine dr_cmp rfl rfl (wtd_yes rfl rfl rfl) (x_gtS rfl rfl) (fun h5 => ?_) (fun h5 => ?_)
              · refine dr_l (x_pick_t rfl rfl rfl) ?_
                refine dr_nil0 ?_
                refine aw_kp [0, 3, 6, 7, 8, 43, 44, 45, 46, 47, 48, 49, 52, 53, 54, 55, 56, 57, 58, 59, 60, 61, 62, 63, 64, 65, 66] ?_
                refine aw_true rfl ?_
                refine aw_seq_region ?_
                refine sr_mv ?_
                refine sr_rd (x_loadN ag128 sz128 rfl (cells_ext mauto Ext.auto) rfl) ?_
                refine sr_new rfl (wtd_none rfl) rfl (x_buildSlice Try.underlying122 sz128 zr128 rfl rfl rfl rfl Parts.auto Fill.auto) ?_
                intro r18_2 hr18_2 gr18_2
                refine sr_d rfl (wtd_none rfl) rfl (opS_append (G := (r18_2, .cells (BEnt.cells e).toArray 128 (0, 0)) :: ((r0_0, .cells (BEnt.cells e).toArray 128 (0, 0)) :: (bpB bk (.slice a B.length cap) nodes :: (E ++ G)))) (N := (BEnt.cells e)) (m := 1) Try.underlying122 sz128 zr128 rfl by128 rfl rfl V2 Sub.autoP (.inr ⟨_, _, rfl, (cells_ext mauto Ext.auto)⟩) (rfl) rfl (by omega) (by omega)) ?_
                rintro v70 _ ⟨E70, hV70, rfl⟩
                obtain ⟨a70, cap70, rfl⟩ := hV70.isSl
                refine sr_as ?_
                refine sr_nil ?_
                refine aw_kp [0, 3, 6, 7, 8, 43, 44, 45, 46, 47, 48, 49, 52, 53, 54, 55, 56, 57, 58, 59, 60, 61, 62, 63, 64, 65, 66, 67, 68, 69, 70] ?_
                refine aw_region ?_
                refine sr_as ?_
                refine sr_nil ?_
                show AW _ _ _ _ _ _ _
                refine aw_region ?_
                refine sr_mv ?_
                refine sr_mv ?_
                refine sr_rd (x_nilCheck rfl) ?_
                refine sr_rd (x_fieldAddr fd124_0 rfl) ?_
                refine sr_rd (x_load ag122 rfl (cells_ext mauto Ext.auto)) ?_
                refine sr_mv ?_
                refine sr_rd (x_indexAddrN (k) Try.underlying122 sz128 rfl hax rfl (by omega) (by omega)) ?_
                refine sr_rd (x_loadN ag128 sz128 rfl (Cells.mono hcx Sub.autoE) rfl) ?_
                refine sr_new rfl (wtd_none rfl) rfl (x_buildSlice Try.underlying122 sz128 zr128 rfl rfl rfl rfl Parts.auto Fill.auto) ?_
                intro r20_8 hr20_8 gr20_8
                refine sr_d rfl (wtd_none rfl) rfl (opS_append (G := (r20_8, .cells (BEnt.cells x).toArray 128 (0, 0)) :: ((r18_2, .cells (BEnt.cells e).toArray 128 (0, 0)) :: (r0_0, .cells (BEnt.cells e).toArray 128 (0, 0)) :: (bpB bk (.slice a B.length cap) nodes :: (E ++ G)))) (N := (BEnt.cells x)) (m := 1) Try.underlying122 sz128 zr128 rfl by128 rfl rfl hV70 Sub.autoP (.inr ⟨_, _, rfl, (cells_ext mauto Ext.auto)⟩) (rfl) rfl (by omega) (by omega)) ?_
                rintro v80 _ ⟨E80, hV80, rfl⟩
                obtain ⟨a80, cap80, rfl⟩ := hV80.isSl
                refine sr_as ?_
                refine sr_nil ?_
                show AW _ _ _ _ _ _ _
                refine aw_region ?_
                refine sr_mv ?_
                refine sr_rd (x_add' rfl rfl (i64w (by omega) (by omega))) ?_
                refine sr_as ?_
                refine sr_nil ?_
                show ∃ s', _ ∧ _ ∧ _ ∧ _
                first | exact ⟨⟨k + 1, true, C ++ [e] ++ [x], a80, cap80, E80⟩, ⟨by dsimp only; omega, hIn.put hx (by assumption), OwnVec.snoc2B hV80⟩, by dsimp only; omega, (by rw [List.length_append, List.length_append]; exact KeepF.auto), Sub.autoD⟩ | exact ⟨⟨k + 1, true, C ++ [x], a80, cap80, E80⟩, ⟨by dsimp only; omega, hIn.keep hx, OwnVec.snocS hV80⟩, by dsimp only; omega, (by rw [List.length_append]; exact KeepF.auto), Sub.autoD⟩ | exact ⟨⟨k + 1, false, C ++ [x], a80, cap80, E80⟩, ⟨by dsimp only; omega, hIn.skip hx (by assumption), OwnVec.snocS hV80⟩, by dsimp only; omega, (by rw [List.length_append]; exact KeepF.auto), Sub.autoD⟩
              · refine dr_l (x_pick_t rfl rfl rfl) ?_
                refine dr_nil0 ?_
                refine aw_kp [0, 3, 6, 7, 8, 43, 44, 45, 46, 47, 48, 49, 52, 53, 54, 55, 56, 57, 58, 59, 60, 61, 62, 63, 64, 65, 66] ?_
                refine aw_false rfl ?_
                refine aw_skip ?_
                show AW _ _ _ _ _ _ _
                refine aw_region ?_
                refine sr_mv ?_
                refine sr_mv ?_
                refine sr_rd (x_nilCheck rfl) ?_
                refine sr_rd (x_fieldAddr fd124_0 rfl) ?_
                refine sr_rd (x_load ag122 rfl (cells_ext mauto Ext.auto)) ?_
                refine sr_mv ?_
                refine sr_rd (x_indexAddrN (k) Try.underlying122 sz128 rfl hax rfl (by omega) (by omega)) ?_
                refine sr_rd (x_loadN ag128 sz128 rfl (Cells.mono hcx Sub.autoE) rfl) ?_
                refine sr_new rfl (wtd_none rfl) rfl (x_buildSlice Try.underlying122 sz128 zr128 rfl rfl rfl rfl Parts.auto Fill.auto) ?_
                intro r20_8 hr20_8 gr20_8
                refine sr_d rfl (wtd_none rfl) rfl (opS_append (G := (r20_8, .cells (BEnt.cells x).toArray 128 (0, 0)) :: ((r0_0, .cells (BEnt.cells e).toArray 128 (0, 0)) :: (bpB bk (.slice a B.length cap) nodes :: (E ++ G)))) (N := (BEnt.cells x)) (m := 1) Try.underlying122 sz128 zr128 rfl by128 rfl rfl V2 Sub.autoP (.inr ⟨_, _, rfl, (cells_ext mauto Ext.auto)⟩) (rfl) rfl (by omega) (by omega)) ?_
                rintro v80 _ ⟨E80, hV80, rfl⟩
                obtain ⟨a80, cap80, rfl⟩ := hV80.isSl
                refine sr_as ?_
                refine sr_nil ?_
                show AW _ _ _ _ _ _ _
                refine aw_region ?_
                refine sr_mv ?_
                refine sr_rd (x_add' rfl rfl (i64w (by omega) (by omega))) ?_
                refine sr_as ?_
                refine sr_nil ?_
                show ∃ s', _ ∧ _ ∧ _ ∧ _
                first | exact ⟨⟨k + 1, true, C ++ [e] ++ [x], a80, cap80, E80⟩, ⟨by dsimp only; omega, hIn.put hx (by assumption), OwnVec.snoc2B hV80⟩, by dsimp only; omega, (by rw [List.length_append, List.length_append]; exact KeepF.auto), Sub.autoD⟩ | exact ⟨⟨k + 1, true, C ++ [x], a80, cap80, E80⟩, ⟨by dsimp only; omega, hIn.keep hx, OwnVec.snocS hV80⟩, by dsimp only; omega, (by rw [List.length_append]; exact KeepF.auto), Sub.autoD⟩ | exact ⟨⟨k + 1, false, C ++ [x], a80, cap80, E80⟩, ⟨by dsimp only; omega, hIn.skip hx (by assumption), OwnVec.snocS hV80⟩, by dsimp only; omega, (by rw [List.length_append]; exact KeepF.auto), Sub.autoD⟩
            · refine sr_nil ?_
              refine aw_kp [0, 3, 6, 7, 8, 43, 44, 45, 46, 47, 48, 49] ?_
              refine aw_false rfl ?_
              refine aw_exit ?_
              show AW _ _ _ _ _ _ _
              refine aw_seq ?_
              refine aw_seq_region ?_
              refine sr_mv ?_
              refine sr_rd (x_not rfl) ?_
              refine sr_nil ?_
              refine aw_kp [0, 3, 6, 82] ?_
              refine aw_true rfl ?_
              refine aw_region ?_
              refine sr_mv ?_
              refine sr_rd (x_loadN ag128 sz128 rfl (cells_ext mauto Ext.auto) rfl) ?_
              refine sr_new rfl (wtd_none rfl) rfl (x_buildSlice Try.underlying122 sz128 zr128 rfl rfl rfl rfl Parts.auto Fill.auto) ?_
              intro r22_2 hr22_2 gr22_2
              refine sr_d rfl (wtd_none rfl) rfl (opS_append (G := (r22_2, .cells (BEnt.cells e).toArray 128 (0, 0)) :: ((r0_0, .cells (BEnt.cells e).toArray 128 (0, 0)) :: (bpB bk (.slice a B.length cap) nodes :: (E ++ G)))) (N := (BEnt.cells e)) (m := 1) Try.underlying122 sz128 zr128 rfl by128 rfl rfl V2 Sub.autoP (.inr ⟨_, _, rfl, (cells_ext mauto Ext.auto)⟩) (rfl) rfl (by omega) (by omega)) ?_
              rintro v86 _ ⟨E86, hV86, rfl⟩
              obtain ⟨a86, cap86, rfl⟩ := hV86.isSl
              refine sr_as ?_
              refine sr_nil ?_
              show AW _ _ _ _ _ _ _
              refine aw_seq_region ?_
              refine sr_mv ?_
              refine sr_mv ?_
              refine sr_rd (x_nilCheck rfl) ?_
              refine sr_rd (x_fieldAddr fd124_0 rfl) ?_
              refine sr_x0 rfl (wtd_none rfl) (x_store sz122 rfl rfl rfl rfl rfl Repl.auto Spl.auto) ?_
              refine sr_nil ?_
              refine aw_kp [] ?_
              refine aw_seq_region ?_
              refine sr_as ?_
              refine sr_nil ?_
              refine aw_kp [4] ?_
              refine aw_ret ?_
              show ∃ v H2, ResV _ _ _ _ _ _ v ∧ Sub H2 _ ∧ _
              first | exact ⟨_, bpB bk (.slice a B.length cap) nodes :: (E ++ G), resV rfl (.cons rfl .nil), Sub.autoD, 1, B, a, cap, E, rfl, .arg (of_decide_eq_false hd), V, rfl⟩ | exact ⟨_, bpB bk (.slice a B.length cap) nodes :: (E ++ G), resV rfl (.cons rfl .nil), Sub.autoD, 13, B, a, cap, E, rfl, .twice hbR ⟨x, List.mem_of_getElem? hx, by assumption⟩, V, rfl⟩ | exact ⟨_, bpB bk (.slice a B.length cap) nodes :: (E ++ G), resV rfl (.cons rfl .nil), Sub.autoD, 3, B, a, cap, E, rfl, .long hbR hno (by omega), V, rfl⟩ | exact ⟨_, bpB bk (.slice a B.length cap) nodes :: (E ++ G), resV rfl (.cons rfl .nil), Sub.autoD, 6, B, a, cap, E, rfl, .full hbR hno (by omega) (fun h9 => by have := hb.2 h9; cases this), V, rfl⟩ | (have hfin := hIn.fin (by omega); rw [if_pos rfl] at hfin; exact ⟨_, bpB bk (.slice a2 C.length c2) nodes :: (E2 ++ G), resV rfl (.cons rfl .nil), Sub.autoD, 0, C, a2, c2, E2, rfl, (by rw [hfin]; exact .ok hbR hno (by omega) (hb.1 rfl)), V2, rfl⟩) | (have hfin := hIn.fin (by omega); rw [if_neg (by decide)] at hfin; exact ⟨_, bpB bk (.slice a86 (C.length + 1) cap86) nodes :: (E86 ++ G), resV rfl (.cons rfl .nil), Sub.autoD, 0, insB e B, a86, cap86, E86, rfl, .ok hbR hno (by omega) (hb.1 rfl), (by rw [← hfin]; exact OwnVec.snocS hV86), (by rw [← hfin, List.length_append]; rfl)⟩)
          · first | rw [if_pos rfl] at hCl | rw [if_neg (by decide)] at hCl
            refine aw_seq ?_
            refine aw_seq_region ?_
            refine sr_mv ?_
            refine sr_mv ?_
            refine sr_rd (x_nilCheck rfl) ?_
            refine sr_rd (x_fieldAddr fd124_0 rfl) ?_
            refine sr_rd (x_load ag122 rfl (cells_ext mauto Ext.auto)) ?_
            refine sr_rd (x_lenSlice Try.underlying122 rfl) ?_
            refine sr_c (x_lt rfl rfl) (fun h6 => ?_) (fun h6 => ?_)
            · refine sr_nil ?_
              refine aw_kp [0, 3, 6, 7, 8, 43, 44, 45, 46, 47, 48, 49] ?_
              refine aw_true rfl ?_
              refine aw_skip ?_
              show AW _ _ _ _ _ _ _
              refine aw_seq ?_
              refine aw_block ?_
              refine aw_seq ?_
              refine aw_seq_dr ⟨_, 15, 91, [[], [0], [0, 1], [0, 1, 2], [0, 1, 2, 3], [0, 1, 2, 3, 4], [0, 1, 2, 3, 4, 5], [0, 1, 2], [0, 1, 2, 3, 4, 5, 6, 7], [0, 1, 2, 3, 4, 5, 6, 7, 8], [0, 1, 2, 3, 4, 5, 6, 7, 8, 9], [0, 1, 2], [0, 1, 2, 11], [0, 1, 2, 3, 4, 5, 6, 7, 8, 9, 10, 11, 12], [0, 1, 2, 3, 4, 5, 6, 7, 8, 9, 10, 11, 12, 13]], [.light, .light, .light, .light, .light, .light, .mem, .light, .light, .light, .mem, .light, .mem, .light, .light]⟩ (by kernel_rfl) rfl rfl mix ?_
              obtain ⟨x, hx⟩ := get_ex (show k < B.length by omega)
              obtain ⟨bx, ox, hax, hcx⟩ := hs.at_ _ _ hx
              have hxo := hok x (List.mem_of_getElem? hx)
              unfold bR at hxo
              refine dr_l (x_move rfl) ?_
              refine dr_l (x_not rfl) ?_
              refine dr_l (x_move rfl) ?_
              refine dr_sk ?_
              refine dr_sk ?_
              refine dr_sk ?_
              refine dr_sk ?_
              refine dr_sk ?_
              refine dr_sk ?_
              refine dr_sk ?_
              refine dr_sk ?_
              refine dr_sk ?_
              refine dr_sk ?_
              refine dr_sk ?_
              refine dr_l (x_pick_f rfl rfl rfl) ?_
              refine dr_nil0 ?_
              refine aw_kp [0, 3, 6, 7, 8, 43, 44, 45, 46, 47, 48, 49, 52, 53, 54, 55, 56, 57, 58, 59, 60, 61, 62, 63, 64, 65, 66] ?_
              refine aw_false rfl ?_
              refine aw_skip ?_
              show AW _ _ _ _ _ _ _
              refine aw_region ?_
              refine sr_mv ?_
              refine sr_mv ?_
              refine sr_rd (x_nilCheck rfl) ?_
              refine sr_rd (x_fieldAddr fd124_0 rfl) ?_
              refine sr_rd (x_load ag122 rfl (cells_ext mauto Ext.auto)) ?_
              refine sr_mv ?_
              refine sr_rd (x_indexAddrN (k) Try.underlying122 sz128 rfl hax rfl (by omega) (by omega)) ?_
              refine sr_rd (x_loadN ag128 sz128 rfl (Cells.mono hcx Sub.autoE) rfl) ?_
              refine sr_new rfl (wtd_none rfl) rfl (x_buildSlice Try.underlying122 sz128 zr128 rfl rfl rfl rfl Parts.auto Fill.auto) ?_
              intro r20_8 hr20_8 gr20_8
              refine sr_d rfl (wtd_none rfl) rfl (opS_append (G := (r20_8, .cells (BEnt.cells x).toArray 128 (0, 0)) :: ((r0_0, .cells (BEnt.cells e).toArray 128 (0, 0)) :: (bpB bk (.slice a B.length cap) nodes :: (E ++ G)))) (N := (BEnt.cells x)) (m := 1) Try.underlying122 sz128 zr128 rfl by128 rfl rfl V2 Sub.autoP (.inr ⟨_, _, rfl, (cells_ext mauto Ext.auto)⟩) (rfl) rfl (by omega) (by omega)) ?_
              rintro v80 _ ⟨E80, hV80, rfl⟩
              obtain ⟨a80, cap80, rfl⟩ := hV80.isSl
              refine sr_as ?_
              refine sr_nil ?_
              show AW _ _ _ _ _ _ _
              refine aw_region ?_
              refine sr_mv ?_
              refine sr_rd (x_add' rfl rfl (i64w (by omega) (by omega))) ?_
              refine sr_as ?_
              refine sr_nil ?_
              show ∃ s', _ ∧ _ ∧ _ ∧ _
              first | exact ⟨⟨k + 1, true, C ++ [e] ++ [x], a80, cap80, E80⟩, ⟨by dsimp only; omega, hIn.put hx (by assumption), OwnVec.snoc2B hV80⟩, by dsimp only; omega, (by rw [List.length_append, List.length_append]; exact KeepF.auto), Sub.autoD⟩ | exact ⟨⟨k + 1, true, C ++ [x], a80, cap80, E80⟩, ⟨by dsimp only; omega, hIn.keep hx, OwnVec.snocS hV80⟩, by dsimp only; omega, (by rw [List.length_append]; exact KeepF.auto), Sub.autoD⟩ | exact ⟨⟨k + 1, false, C ++ [x], a80, cap80, E80⟩, ⟨by dsimp only; omega, hIn.skip hx (by assumption), OwnVec.snocS hV80⟩, by dsimp only; omega, (by rw [List.length_append]; exact KeepF.auto), Sub.autoD⟩
            · refine sr_nil ?_
              refine aw_kp [0, 3, 6, 7, 8, 43, 44, 45, 46, 47, 48, 49] ?_
              refine aw_false rfl ?_
              refine aw_exit ?_
              show AW _ _ _ _ _ _ _
              refine aw_seq ?_
              refine aw_seq_region ?_
              refine sr_mv ?_
              refine sr_rd (x_not rfl) ?_
              refine sr_nil ?_
              refine aw_kp [0, 3, 6, 82] ?_
              refine aw_false rfl ?_
              refine aw_skip ?_
              show AW _ _ _ _ _ _ _
              refine aw_seq_region ?_
              refine sr_mv ?_
              refine sr_mv ?_
              refine sr_rd (x_nilCheck rfl) ?_
              refine sr_rd (x_fieldAddr fd124_0 rfl) ?_
              refine sr_x0 rfl (wtd_none rfl) (x_store sz122 rfl rfl rfl rfl rfl Repl.auto Spl.auto) ?_
              refine sr_nil ?_
              refine aw_kp [] ?_
              refine aw_seq_region ?_
              refine sr_as ?_
              refine sr_nil ?_
              refine aw_kp [4] ?_
              refine aw_ret ?_
              show ∃ v H2, ResV _ _ _ _ _ _ v ∧ Sub H2 _ ∧ _
              first | exact ⟨_, bpB bk (.slice a B.length cap) nodes :: (E ++ G), resV rfl (.cons rfl .nil), Sub.autoD, 1, B, a, cap, E, rfl, .arg (of_decide_eq_false hd), V, rfl⟩ | exact ⟨_, bpB bk (.slice a B.length cap) nodes :: (E ++ G), resV rfl (.cons rfl .nil), Sub.autoD, 13, B, a, cap, E, rfl, .twice hbR ⟨x, List.mem_of_getElem? hx, by assumption⟩, V, rfl⟩ | exact ⟨_, bpB bk (.slice a B.length cap) nodes :: (E ++ G), resV rfl (.cons rfl .nil), Sub.autoD, 3, B, a, cap, E, rfl, .long hbR hno (by omega), V, rfl⟩ | exact ⟨_, bpB bk (.slice a B.length cap) nodes :: (E ++ G), resV rfl (.cons rfl .nil), Sub.autoD, 6, B, a, cap, E, rfl, .full hbR hno (by omega) (fun h9 => by have := hb.2 h9; cases this), V, rfl⟩ | (have hfin := hIn.fin (by omega); rw [if_pos rfl] at hfin; exact ⟨_, bpB bk (.slice a2 C.length c2) nodes :: (E2 ++ G), resV rfl (.cons rfl .nil), Sub.autoD, 0, C, a2, c2, E2, rfl, (by rw [hfin]; exact .ok hbR hno (by omega) (hb.1 rfl)), V2, rfl⟩) | (have hfin := hIn.fin (by omega); rw [if_neg (by decide)] at hfin; exact ⟨_, bpB bk (.slice a86 (C.length + 1) cap86) nodes :: (E86 ++ G), resV rfl (.cons rfl .nil), Sub.autoD, 0, insB e B, a86, cap86, E86, rfl, .ok hbR hno (by omega) (hb.1 rfl), (by rw [← hfin]; exact OwnVec.snocS hV86), (by rw [← hfin, List.length_append]; rfl)⟩)
set_option maxRecDepth 100000 in
set_option maxHeartbeats 4000000 in
theorem lgone_true (bk : Nat) (a : Option Addr) (cap : Nat) (B : List BEnt) (nodes : Int) (E G : SHeap) (V : OwnVec 4 128 (.slice a B.length cap) B.length (B.flatMap BEnt.cells) E) (hI : BkI B nodes) (hn : 1 ≤ nodes ∧ nodes ≤ 64) (nm : ByteArray) (now : Int) : AC Try.prog W0 138 [.pointer (some ⟨bk, 0, none⟩), .string nm, .int .i64 now, .bool true] (bpB bk (.slice a B.length cap) nodes :: (E ++ G)) (fun v H' => ∃ (a' : Option Addr) (c' : Nat) (E' : SHeap), v = .int .i64 ((B.length : Int) - (gonL nm now true B).length) ∧ OwnVec 4 128 (.slice a' (gonL nm now true B).length c') (gonL nm now true B).length ((gonL nm now true B).flatMap BEnt.cells) E' ∧ H' = bpB bk (.slice a' (gonL nm now true B).length c') nodes :: (E' ++ G)) := by
  have hs := V.slv' (W0 := W0) (fun _ => rfl) rfl (Sub.refl _)
  have hle := hs.le
  have hcb := hs.capb
  have hl := hI.len
  refine ac_of Try.func138 rfl rfl rfl ?_
  refine aw_seq_region ?_
  refine sr_as ?_
  refine sr_nil ?_
  refine aw_kp [0, 1, 2, 3, 8] ?_
  refine aw_seq_region ?_
  refine sr_as ?_
  refine sr_nil ?_
  refine aw_kp [0, 1, 2, 3, 8, 9] ?_
  refine aw_seq_region ?_
  refine sr_as ?_
  refine sr_nil ?_
  refine aw_kp [0, 1, 2, 3, 8, 9, 10] ?_
  refine aw_seq ?_
  refine aw_seq_region ?_
  refine sr_as ?_
  refine sr_nil ?_
  refine aw_kp [0, 1, 2, 3, 8, 9, 10, 11] ?_
  refine aw_block ?_
  refine aw_loop (ι := BeG) (fun s => s.k ≤ B.length ∧ s.C = gonL nm now true (B.take s.k) ∧ s.C.length ≤ s.k ∧ OwnVec 4 128 (.slice s.a s.C.length s.c) s.C.length (s.C.flatMap BEnt.cells) s.E) (fun s => [(0, .pointer (some ⟨bk, 0, none⟩)), (1, .string nm), (2, .int .i64 now), (3, .bool true), (9, .slice s.a s.C.length s.c), (10, .int .i64 ((s.k : Int) - s.C.length)), (11, .int .i64 s.k)]) (fun s => s.E ++ (bpB bk (.slice a B.length cap) nodes :: (E ++ G))) (fun s => B.length - s.k) ⟨0, [], none, 0, []⟩ (⟨Nat.zero_le _, rfl, Nat.le_refl _, .nil⟩) KeepF.auto Sub.autoP ?_
  intro s9 hs9
  obtain ⟨k, C, a2, c2, E2⟩ := s9
  dsimp only at hs9 ⊢
  obtain ⟨hk, hC, hCl, V2⟩ := hs9
  refine aw_seq ?_
  refine aw_seq_region ?_
  refine sr_mv ?_
  refine sr_mv ?_
  refine sr_rd (x_nilCheck rfl) ?_
  refine sr_rd (x_fieldAddr fd124_0 rfl) ?_
  refine sr_rd (x_load ag122 rfl (cells_ext mauto Ext.auto)) ?_
  refine sr_rd (x_lenSlice Try.underlying122 rfl) ?_
  refine sr_c (x_lt rfl rfl) (fun h1 => ?_) (fun h1 => ?_)
  · refine sr_nil ?_
    refine aw_kp [0, 1, 2, 3, 9, 10, 11, 13, 14, 15, 16, 17, 18, 19] ?_
    refine aw_true rfl ?_
    refine aw_skip ?_
    show AW _ _ _ _ _ _ _
    refine aw_seq ?_
    refine aw_block ?_
    refine aw_seq_region ?_
    obtain ⟨x, hx⟩ := get_ex (show k < B.length by omega)
    obtain ⟨bx, ox, hax, hcx⟩ := hs.at_ _ _ hx
    refine sr_mv ?_
    refine sr_rd (x_nilCheck rfl) ?_
    refine sr_rd (x_fieldAddr fd124_0 rfl) ?_
    refine sr_rd (x_load ag122 rfl (cells_ext mauto Ext.auto)) ?_
    refine sr_mv ?_
    refine sr_rd (x_indexAddrN (k) Try.underlying122 sz128 rfl hax rfl (by omega) (by omega)) ?_
    refine sr_rd (x_loadN ag128 sz128 rfl (Cells.mono hcx Sub.autoE) rfl) ?_
    refine sr_new rfl (wtd_none rfl) rfl (x_alloc zr128 rfl) ?_
    intro r6_7 hr6_7 gr6_7
    refine sr_x0 rfl (wtd_none rfl) (x_store sz128 rfl rfl rfl rfl rfl Repl.auto Spl.auto) ?_
    refine sr_nil ?_
    refine aw_kp [0, 1, 2, 3, 9, 10, 11, 12, 13, 14, 15, 16, 17, 18, 19, 22, 23, 24, 25, 26, 27, 28] ?_
    refine aw_seq_region ?_
    refine sr_mv ?_
    refine sr_mv ?_
    refine sr_ry (x_fieldAddr fd128_1 rfl) ?_
    refine sr_ry (x_fieldAddr fd55_1 rfl) ?_
    refine sr_ry (x_load ag2 rfl (cells_ext mauto Ext.auto)) ?_
    refine sr_ry (x_move rfl) ?_
    refine sr_cy (x_le rfl rfl) (fun h2 => ?_) (fun h2 => ?_)
    · refine sr_rd (x_pick_t rfl rfl rfl) ?_
      refine sr_mv ?_
      refine sr_sk ?_
      refine sr_sk ?_
      refine sr_sk ?_
      refine sr_skip rfl (wtd_un rfl rfl rfl) rfl ?_
      refine sr_skip rfl (wtd_un rfl rfl rfl) rfl ?_
      refine sr_skip rfl (wtd_un rfl rfl rfl) rfl ?_
      refine sr_skip rfl (wtd_un rfl rfl rfl) rfl ?_
      refine sr_sk ?_
      refine sr_rd (x_pick_t rfl rfl rfl) ?_
      refine sr_nil ?_
      refine aw_kp [0, 1, 2, 3, 9, 10, 11, 12, 13, 14, 15, 16, 17, 18, 19, 22, 23, 24, 25, 26, 27, 28, 29, 30, 31, 32, 33, 34, 35, 36, 37, 38, 39, 40, 41, 42, 43, 44, 45, 46] ?_
      refine aw_true rfl ?_
      refine aw_region ?_
      refine sr_mv ?_
      refine sr_rd (x_add' rfl rfl (i64w (by omega) (by omega))) ?_
      refine sr_as ?_
      refine sr_nil ?_
      show AW _ _ _ _ _ _ _
      refine aw_region ?_
      refine sr_mv ?_
      refine sr_rd (x_add' rfl rfl (i64w (by omega) (by omega))) ?_
      refine sr_as ?_
      refine sr_nil ?_
      show ∃ s', _ ∧ _ ∧ _ ∧ _
      first | exact ⟨⟨k + 1, C, a2, c2, E2⟩, ⟨by dsimp only; omega, (by dsimp only; rw [gonL_take hx, if_pos (by unfold gonP; simp; assumption), List.append_nil]; exact hC), by dsimp only; omega, V2⟩, by dsimp only; omega, (by rw [show (((k + 1 : Nat) : Int) - C.length) = (k : Int) - C.length + 1 by omega]; exact KeepF.auto), Sub.autoD⟩ | exact ⟨⟨k + 1, C ++ [x], a52, cap52, E52⟩, ⟨by dsimp only; omega, (by dsimp only; rw [gonL_take hx, if_neg (by unfold gonP; simp; first | assumption | omega), hC]), (by simp; omega), OwnVec.snocS hV52⟩, by dsimp only; omega, (by rw [List.length_append, show (((k + 1 : Nat) : Int) - ((C.length + [x].length : Nat) : Int)) = (k : Int) - C.length by simp; omega]; exact KeepF.auto), Sub.autoD⟩
    · refine sr_rd (x_pick_t rfl rfl rfl) ?_
      refine sr_mv ?_
      refine sr_ry (x_move rfl) ?_
      refine sr_ry (x_not rfl) ?_
      refine sr_ry (x_move rfl) ?_
      refine sr_sk ?_
      refine sr_sk ?_
      refine sr_sk ?_
      refine sr_sk ?_
      refine sr_ry (x_pick_f rfl rfl rfl) ?_
      refine sr_rd (x_pick_f rfl rfl rfl) ?_
      refine sr_nil ?_
      refine aw_kp [0, 1, 2, 3, 9, 10, 11, 12, 13, 14, 15, 16, 17, 18, 19, 22, 23, 24, 25, 26, 27, 28, 29, 30, 31, 32, 33, 34, 35, 36, 37, 38, 39, 40, 41, 42, 43, 44, 45, 46] ?_
      refine aw_false rfl ?_
      refine aw_region ?_
      refine sr_mv ?_
      refine sr_rd (x_loadN ag128 sz128 rfl (cells_ext mauto Ext.auto) rfl) ?_
      refine sr_new rfl (wtd_none rfl) rfl (x_buildSlice Try.underlying122 sz128 zr128 rfl rfl rfl rfl Parts.auto Fill.auto) ?_
      intro r9_2 hr9_2 gr9_2
      refine sr_d rfl (wtd_none rfl) rfl (opS_append (G := (r9_2, .cells (BEnt.cells x).toArray 128 (0, 0)) :: ((r6_7, .cells (BEnt.cells x).toArray 128 (0, 0)) :: (bpB bk (.slice a B.length cap) nodes :: (E ++ G)))) (N := (BEnt.cells x)) (m := 1) Try.underlying122 sz128 zr128 rfl by128 rfl rfl V2 Sub.autoP (.inr ⟨_, _, rfl, (cells_ext mauto Ext.auto)⟩) (rfl) rfl (by omega) (by omega)) ?_
      rintro v52 _ ⟨E52, hV52, rfl⟩
      obtain ⟨a52, cap52, rfl⟩ := hV52.isSl
      refine sr_as ?_
      refine sr_nil ?_
      show AW _ _ _ _ _ _ _
      refine aw_region ?_
      refine sr_mv ?_
      refine sr_rd (x_add' rfl rfl (i64w (by omega) (by omega))) ?_
      refine sr_as ?_
      refine sr_nil ?_
      show ∃ s', _ ∧ _ ∧ _ ∧ _
      first | exact ⟨⟨k + 1, C, a2, c2, E2⟩, ⟨by dsimp only; omega, (by dsimp only; rw [gonL_take hx, if_pos (by unfold gonP; simp; assumption), List.append_nil]; exact hC), by dsimp only; omega, V2⟩, by dsimp only; omega, (by rw [show (((k + 1 : Nat) : Int) - C.length) = (k : Int) - C.length + 1 by omega]; exact KeepF.auto), Sub.autoD⟩ | exact ⟨⟨k + 1, C ++ [x], a52, cap52, E52⟩, ⟨by dsimp only; omega, (by dsimp only; rw [gonL_take hx, if_neg (by unfold gonP; simp; first | assumption | omega), hC]), (by simp; omega), OwnVec.snocS hV52⟩, by dsimp only; omega, (by rw [List.length_append, show (((k + 1 : Nat) : Int) - ((C.length + [x].length : Nat) : Int)) = (k : Int) - C.length by simp; omega]; exact KeepF.auto), Sub.autoD⟩
  · refine sr_nil ?_
    refine aw_kp [0, 1, 2, 3, 9, 10, 11, 13, 14, 15, 16, 17, 18, 19] ?_
    refine aw_false rfl ?_
    refine aw_exit ?_
    show AW _ _ _ _ _ _ _
    refine aw_seq_region ?_
    rw [List.take_of_length_le (by omega)] at hC
    subst hC
    obtain rfl : k = B.length := by omega
    refine sr_mv ?_
    refine sr_mv ?_
    refine sr_rd (x_nilCheck rfl) ?_
    refine sr_rd (x_fieldAddr fd124_0 rfl) ?_
    refine sr_x0 rfl (wtd_none rfl) (x_store sz122 rfl rfl rfl rfl rfl Repl.auto Spl.auto) ?_
    refine sr_nil ?_
    refine aw_kp [10] ?_
    refine aw_seq_region ?_
    refine sr_mv ?_
    refine sr_as ?_
    refine sr_nil ?_
    refine aw_kp [8] ?_
    refine aw_ret ?_
    show ∃ v H2, ResV _ _ _ _ _ _ v ∧ Sub H2 _ ∧ _
    exact ⟨_, bpB bk (.slice a2 (gonL nm now true B).length c2) nodes :: (E2 ++ G), resV rfl (.cons rfl .nil), Sub.autoD, a2, c2, E2, rfl, V2, rfl⟩
set_option maxRecDepth 100000 in
set_option maxHeartbeats 4000000 in
theorem lgone_false (bk : Nat) (a : Option Addr) (cap : Nat) (B : List BEnt) (nodes : Int) (E G : SHeap) (V : OwnVec 4 128 (.slice a B.length cap) B.length (B.flatMap BEnt.cells) E) (hI : BkI B nodes) (hn : 1 ≤ nodes ∧ nodes ≤ 64) (nm : ByteArray) (now : Int) : AC Try.prog W0 138 [.pointer (some ⟨bk, 0, none⟩), .string nm, .int .i64 now, .bool false] (bpB bk (.slice a B.length cap) nodes :: (E ++ G)) (fun v H' => ∃ (a' : Option Addr) (c' : Nat) (E' : SHeap), v = .int .i64 ((B.length : Int) - (gonL nm now false B).length) ∧ OwnVec 4 128 (.slice a' (gonL nm now false B).length c') (gonL nm now false B).length ((gonL nm now false B).flatMap BEnt.cells) E' ∧ H' = bpB bk (.slice a' (gonL nm now false B).length c') nodes :: (E' ++ G)) := by
  have hs := V.slv' (W0 := W0) (fun _ => rfl) rfl (Sub.refl _)
  have hle := hs.le
  have hcb := hs.capb
  have hl := hI.len
  refine ac_of Try.func138 rfl rfl rfl ?_
  refine aw_seq_region ?_
  refine sr_as ?_
  refine sr_nil ?_
  refine aw_kp [0, 1, 2, 3, 8] ?_
  refine aw_seq_region ?_
  refine sr_as ?_
  refine sr_nil ?_
  refine aw_kp [0, 1, 2, 3, 8, 9] ?_
  refine aw_seq_region ?_
  refine sr_as ?_
  refine sr_nil ?_
  refine aw_kp [0, 1, 2, 3, 8, 9, 10] ?_
  refine aw_seq ?_
  refine aw_seq_region ?_
  refine sr_as ?_
  refine sr_nil ?_
  refine aw_kp [0, 1, 2, 3, 8, 9, 10, 11] ?_
  refine aw_block ?_
  refine aw_loop (ι := BeG) (fun s => s.k ≤ B.length ∧ s.C = gonL nm now false (B.take s.k) ∧ s.C.length ≤ s.k ∧ OwnVec 4 128 (.slice s.a s.C.length s.c) s.C.length (s.C.flatMap BEnt.cells) s.E) (fun s => [(0, .pointer (some ⟨bk, 0, none⟩)), (1, .string nm), (2, .int .i64 now), (3, .bool false), (9, .slice s.a s.C.length s.c), (10, .int .i64 ((s.k : Int) - s.C.length)), (11, .int .i64 s.k)]) (fun s => s.E ++ (bpB bk (.slice a B.length cap) nodes :: (E ++ G))) (fun s => B.length - s.k) ⟨0, [], none, 0, []⟩ (⟨Nat.zero_le _, rfl, Nat.le_refl _, .nil⟩) KeepF.auto Sub.autoP ?_
  intro s9 hs9
  obtain ⟨k, C, a2, c2, E2⟩ := s9
  dsimp only at hs9 ⊢
  obtain ⟨hk, hC, hCl, V2⟩ := hs9
  refine aw_seq ?_
  refine aw_seq_region ?_
  refine sr_mv ?_
  refine sr_mv ?_
  refine sr_rd (x_nilCheck rfl) ?_
  refine sr_rd (x_fieldAddr fd124_0 rfl) ?_
  refine sr_rd (x_load ag122 rfl (cells_ext mauto Ext.auto)) ?_
  refine sr_rd (x_lenSlice Try.underlying122 rfl) ?_
  refine sr_c (x_lt rfl rfl) (fun h1 => ?_) (fun h1 => ?_)
  · refine sr_nil ?_
    refine aw_kp [0, 1, 2, 3, 9, 10, 11, 13, 14, 15, 16, 17, 18, 19] ?_
    refine aw_true rfl ?_
    refine aw_skip ?_
    show AW _ _ _ _ _ _ _
    refine aw_seq ?_
    refine aw_block ?_
    refine aw_seq_region ?_
    obtain ⟨x, hx⟩ := get_ex (show k < B.length by omega)
    obtain ⟨bx, ox, hax, hcx⟩ := hs.at_ _ _ hx
    refine sr_mv ?_
    refine sr_rd (x_nilCheck rfl) ?_
    refine sr_rd (x_fieldAddr fd124_0 rfl) ?_
    refine sr_rd (x_load ag122 rfl (cells_ext mauto Ext.auto)) ?_
    refine sr_mv ?_
    refine sr_rd (x_indexAddrN (k) Try.underlying122 sz128 rfl hax rfl (by omega) (by omega)) ?_
    refine sr_rd (x_loadN ag128 sz128 rfl (Cells.mono hcx Sub.autoE) rfl) ?_
    refine sr_new rfl (wtd_none rfl) rfl (x_alloc zr128 rfl) ?_
    intro r6_7 hr6_7 gr6_7
    refine sr_x0 rfl (wtd_none rfl) (x_store sz128 rfl rfl rfl rfl rfl Repl.auto Spl.auto) ?_
    refine sr_nil ?_
    refine aw_kp [0, 1, 2, 3, 9, 10, 11, 12, 13, 14, 15, 16, 17, 18, 19, 22, 23, 24, 25, 26, 27, 28] ?_
    refine aw_seq_region ?_
    refine sr_mv ?_
    refine sr_mv ?_
    refine sr_sk ?_
    refine sr_sk ?_
    refine sr_sk ?_
    refine sr_sk ?_
    refine sr_sk ?_
    refine sr_rd (x_pick_f rfl rfl rfl) ?_
    refine sr_mv ?_
    refine sr_ry (x_move rfl) ?_
    refine sr_ry (x_not rfl) ?_
    refine sr_ry (x_move rfl) ?_
    refine sr_ry (x_fieldAddr fd128_0 rfl) ?_
    refine sr_ry (x_load ag9 rfl (cells_ext mauto Ext.auto)) ?_
    refine sr_ry (x_move rfl) ?_
    refine sr_cy (x_eqS rfl rfl) (fun h2 => ?_) (fun h2 => ?_)
    · refine sr_ry (x_pick_t rfl rfl rfl) ?_
      refine sr_rd (x_pick_f rfl rfl rfl) ?_
      refine sr_nil ?_
      refine aw_kp [0, 1, 2, 3, 9, 10, 11, 12, 13, 14, 15, 16, 17, 18, 19, 22, 23, 24, 25, 26, 27, 28, 29, 30, 31, 32, 33, 34, 35, 36, 37, 38, 39, 40, 41, 42, 43, 44, 45, 46] ?_
      refine aw_true rfl ?_
      refine aw_region ?_
      refine sr_mv ?_
      refine sr_rd (x_add' rfl rfl (i64w (by omega) (by omega))) ?_
      refine sr_as ?_
      refine sr_nil ?_
      show AW _ _ _ _ _ _ _
      refine aw_region ?_
      refine sr_mv ?_
      refine sr_rd (x_add' rfl rfl (i64w (by omega) (by omega))) ?_
      refine sr_as ?_
      refine sr_nil ?_
      show ∃ s', _ ∧ _ ∧ _ ∧ _
      first | exact ⟨⟨k + 1, C, a2, c2, E2⟩, ⟨by dsimp only; omega, (by dsimp only; rw [gonL_take hx, if_pos (by unfold gonP; simp; assumption), List.append_nil]; exact hC), by dsimp only; omega, V2⟩, by dsimp only; omega, (by rw [show (((k + 1 : Nat) : Int) - C.length) = (k : Int) - C.length + 1 by omega]; exact KeepF.auto), Sub.autoD⟩ | exact ⟨⟨k + 1, C ++ [x], a52, cap52, E52⟩, ⟨by dsimp only; omega, (by dsimp only; rw [gonL_take hx, if_neg (by unfold gonP; simp; first | assumption | omega), hC]), (by simp; omega), OwnVec.snocS hV52⟩, by dsimp only; omega, (by rw [List.length_append, show (((k + 1 : Nat) : Int) - ((C.length + [x].length : Nat) : Int)) = (k : Int) - C.length by simp; omega]; exact KeepF.auto), Sub.autoD⟩
    · refine sr_ry (x_pick_t rfl rfl rfl) ?_
      refine sr_rd (x_pick_f rfl rfl rfl) ?_
      refine sr_nil ?_
      refine aw_kp [0, 1, 2, 3, 9, 10, 11, 12, 13, 14, 15, 16, 17, 18, 19, 22, 23, 24, 25, 26, 27, 28, 29, 30, 31, 32, 33, 34, 35, 36, 37, 38, 39, 40, 41, 42, 43, 44, 45, 46] ?_
      refine aw_false rfl ?_
      refine aw_region ?_
      refine sr_mv ?_
      refine sr_rd (x_loadN ag128 sz128 rfl (cells_ext mauto Ext.auto) rfl) ?_
      refine sr_new rfl (wtd_none rfl) rfl (x_buildSlice Try.underlying122 sz128 zr128 rfl rfl rfl rfl Parts.auto Fill.auto) ?_
      intro r9_2 hr9_2 gr9_2
      refine sr_d rfl (wtd_none rfl) rfl (opS_append (G := (r9_2, .cells (BEnt.cells x).toArray 128 (0, 0)) :: ((r6_7, .cells (BEnt.cells x).toArray 128 (0, 0)) :: (bpB bk (.slice a B.length cap) nodes :: (E ++ G)))) (N := (BEnt.cells x)) (m := 1) Try.underlying122 sz128 zr128 rfl by128 rfl rfl V2 Sub.autoP (.inr ⟨_, _, rfl, (cells_ext mauto Ext.auto)⟩) (rfl) rfl (by omega) (by omega)) ?_
      rintro v52 _ ⟨E52, hV52, rfl⟩
      obtain ⟨a52, cap52, rfl⟩ := hV52.isSl
      refine sr_as ?_
      refine sr_nil ?_
      show AW _ _ _ _ _ _ _
      refine aw_region ?_
      refine sr_mv ?_
      refine sr_rd (x_add' rfl rfl (i64w (by omega) (by omega))) ?_
      refine sr_as ?_
      refine sr_nil ?_
      show ∃ s', _ ∧ _ ∧ _ ∧ _
      first | exact ⟨⟨k + 1, C, a2, c2, E2⟩, ⟨by dsimp only; omega, (by dsimp only; rw [gonL_take hx, if_pos (by unfold gonP; simp; assumption), List.append_nil]; exact hC), by dsimp only; omega, V2⟩, by dsimp only; omega, (by rw [show (((k + 1 : Nat) : Int) - C.length) = (k : Int) - C.length + 1 by omega]; exact KeepF.auto), Sub.autoD⟩ | exact ⟨⟨k + 1, C ++ [x], a52, cap52, E52⟩, ⟨by dsimp only; omega, (by dsimp only; rw [gonL_take hx, if_neg (by unfold gonP; simp; first | assumption | omega), hC]), (by simp; omega), OwnVec.snocS hV52⟩, by dsimp only; omega, (by rw [List.length_append, show (((k + 1 : Nat) : Int) - ((C.length + [x].length : Nat) : Int)) = (k : Int) - C.length by simp; omega]; exact KeepF.auto), Sub.autoD⟩
  · refine sr_nil ?_
    refine aw_kp [0, 1, 2, 3, 9, 10, 11, 13, 14, 15, 16, 17, 18, 19] ?_
    refine aw_false rfl ?_
    refine aw_exit ?_
    show AW _ _ _ _ _ _ _
    refine aw_seq_region ?_
    rw [List.take_of_length_le (by omega)] at hC
    subst hC
    obtain rfl : k = B.length := by omega
    refine sr_mv ?_
    refine sr_mv ?_
    refine sr_rd (x_nilCheck rfl) ?_
    refine sr_rd (x_fieldAddr fd124_0 rfl) ?_
    refine sr_x0 rfl (wtd_none rfl) (x_store sz122 rfl rfl rfl rfl rfl Repl.auto Spl.auto) ?_
    refine sr_nil ?_
    refine aw_kp [10] ?_
    refine aw_seq_region ?_
    refine sr_mv ?_
    refine sr_as ?_
    refine sr_nil ?_
    refine aw_kp [8] ?_
    refine aw_ret ?_
    show ∃ v H2, ResV _ _ _ _ _ _ v ∧ Sub H2 _ ∧ _
    exact ⟨_, bpB bk (.slice a2 (gonL nm now false B).length c2) nodes :: (E2 ++ G), resV rfl (.cons rfl .nil), Sub.autoD, a2, c2, E2, rfl, V2, rfl⟩
end
end Go.Proofs.Ytjkojdjjooangaa
