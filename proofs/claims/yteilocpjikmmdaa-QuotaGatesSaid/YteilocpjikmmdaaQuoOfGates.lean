/- Which limit any user has, and who has one of their own, behind any calls; no condition. -/
import Derived.Test.YteilocpjikmmdaaQga
import Derived.Test.YteilocpjikmmdaaRows
import Derived.Test.YteilocpjikmmdaaCut
namespace Go.Proofs.Yteilocpjikmmdaa
open Go.Proofs.Yteilocpjikmmdaa.Sym
open Go.RowKit (Below)
set_option linter.unusedVariables false
set_option linter.unusedSimpArgs false
section
variable {P : Program} {W0 : World} {F : Fm} {H : SHeap} {d : Option Tmp} {ty : TypeId} {pos : String} {af : Array Edge} {g : Option (Nat × Bool)} {t e : TypeId} {x y : Operand}
theorem x_indexAddrAN {b off len n : Nat} {k : IntKind} (i : Nat) (h : P.underlying t = some (.array len e)) (hs : szOf P e = some n) (hx : val F x = some (.pointer (some ⟨b, off, none⟩))) (hy : val F y = some (.int k (i : Nat))) (h0 : 0 ≤ i) (hi : i < len) :
    Rd P W0 F H ⟨d, .indexAddr t x y, ty, pos, af, g⟩ (.pointer (some ⟨b, off + i * n, none⟩)) := by
  have := x_indexAddrA (P := P) (W0 := W0) (F := F) (H := H) (d := d) (ty := ty) (pos := pos) (af := af) (g := g) h hs hx hy (by omega) (by omega)
  rwa [Int.toNat_natCast] at this
end
theorem cells194 : Try.prog.cellsOf 194 = 5 := by kernel_rfl
theorem cl88 : Callable Try.prog 88 := ⟨Try.f88, Try.func88, by kernel_rfl, by kernel_rfl⟩
theorem cl90 : Callable Try.prog 90 := ⟨Try.f90, Try.func90, by kernel_rfl, by kernel_rfl⟩
theorem cl91 : Callable Try.prog 91 := ⟨Try.f91, Try.func91, by kernel_rfl, by kernel_rfl⟩
theorem ks24 : kindsOf Try.prog 24 = some [.int, .int, .int] := by kernel_rfl
section
variable {W0 : World}
set_option maxRecDepth 100000 in
theorem read_QOp {H : Type} {enc : TypeId × Value → H} {w : World} {base : Nat} {spare : Nat → Bool} {held : Bool} {fuel : Nat} {cs : List Value} {x : DataW H × List MemPlace} (h : DataW.trod enc Try.prog w base spare held fuel 194 cs = some x) : ∃ j : QOp, cs = j.cells ∧ j.Wf := by
  obtain ⟨hlen, n, hf⟩ := read_struct Try.underlying194 h
  rw [cells194] at hlen
  obtain ⟨a0, e0, l0, u0⟩ := read_int Try.underlying3 cells3 (hf 0 _ rfl)
  obtain ⟨a1, e1, l1, u1⟩ := read_int Try.underlying3 cells3 (hf 1 _ rfl)
  obtain ⟨y2, k2⟩ : ∃ y, DataW.trod enc Try.prog w base spare held n 24 ((cs.drop 2).take (Try.prog.cellsOf 24)) = some y := hf 2 _ rfl
  obtain ⟨a2, e2, w2⟩ := read_QLimit k2
  rw [cells24] at e2
  refine ⟨⟨a0, a1, a2⟩, ?_, ⟨⟨l0, u0⟩, ⟨l1, u1⟩, w2⟩⟩
  apply List.ext_getElem?
  intro i
  match i with
  | 0 => exact e0
  | 1 => exact e1
  | 2 => exact get_nest e2 0 (by decide)
  | 3 => exact get_nest e2 1 (by decide)
  | 4 => exact get_nest e2 2 (by decide)
  | i + 5 => rw [List.getElem?_eq_none (by omega), List.getElem?_eq_none (by simp)]
set_option maxRecDepth 100000 in
theorem open_QOp {H : Type} {enc : TypeId × Value → H} {w : World} {base b0 : Nat} {spare : Nat → Bool} {held : Bool} {v : Value} {d : DataW H} {p : List MemPlace} {r : Reach} (hv : Value.okWide Try.prog w r b0 194 v) (h : DataW.Trod enc Try.prog w base spare held 194 v d p) : ∃ j : QOp, v = j.v ∧ j.Wf := by
  obtain ⟨cs, rfl, _⟩ := Go.WideShapes.okWide_struct Try.underlying194 hv
  obtain ⟨fuel, hf⟩ := h
  obtain ⟨j, h1, h2⟩ := read_QOp hf
  refine ⟨j, ?_, h2⟩
  have : cs = j.cells.toArray := by apply Array.toList_inj.1; exact h1
  rw [this]
set_option maxRecDepth 100000 in
set_option maxHeartbeats 2000000 in
theorem quotaGates_s (all : QLimit) (sa : Option Addr) (scap : Nat) (ops : List QOp) (user : Int) (hs : ∀ G, SlV W0 G 5 QOp.cells sa scap ops) : AC Try.prog W0 16 [all.v, .slice sa ops.length scap, .int .i64 user] [] (fun v _ => v = .bool true) := by
  refine ac_of Try.func16 rfl rfl rfl ?_
  refine aw_seq_region ?_
  refine sr_new rfl (wtd_none rfl) rfl (x_box rfl rfl) ?_
  intro r0_0 hr0_0 gr0_0
  refine sr_as ?_
  refine sr_nil ?_
  refine aw_kp [1, 2, 3, 6] ?_
  refine aw_seq_region ?_
  refine sr_rd (x_loadN ag24 sz24 rfl (cells_ext mauto Ext.auto) rfl) ?_
  refine sr_mv ?_
  refine sr_d rfl (wtd_none rfl) rfl (opS_call rfl rfl rfl rfl cl88 (qmade_s all sa scap ops _ hs)) ?_
  rintro _ _ hmade
  obtain ⟨hn, rfl, rfl⟩ | ⟨hy, g9, m9, p, es, clk, f, h, rfl, hG, hel, rfl⟩ := hmade
  · refine sr_mv ?_
    refine sr_rd (x_extract rfl rfl) ?_
    refine sr_rd (x_extract rfl rfl) ?_
    refine sr_rd (x_extract rfl rfl) ?_
    refine sr_as ?_
    refine sr_as ?_
    refine sr_as ?_
    refine sr_nil ?_
    refine aw_kp [2, 3, 6, 7, 8, 9] ?_
    refine aw_seq ?_
    refine aw_seq_region ?_
    refine sr_rd (x_loadN ag24 sz24 rfl (cells_ext mauto Ext.auto) rfl) ?_
    refine sr_d rfl (wtd_none rfl) rfl (opS_call rfl rfl rfl rfl cl23 (right23_s all _)) ?_
    rintro _ _ ⟨rfl, rfl⟩
    rw [decide_eq_false hn]
    refine sr_rd (x_not rfl) ?_
    refine sr_nil ?_
    refine aw_kp [2, 3, 6, 7, 8, 9, 22] ?_
    refine aw_true rfl ?_
    refine aw_seq_region ?_
    refine sr_mv ?_
    refine sr_rd (x_eqnil Try.underlying144 rfl rfl) ?_
    refine sr_mv ?_
    refine sr_d rfl (wtd_yes rfl rfl rfl) rfl (opS_call rfl rfl rfl rfl cl28 (awake33_s _)) ?_
    rintro _ _ ⟨rfl, rfl⟩
    refine sr_rd (x_pick_t rfl rfl rfl) ?_
    refine sr_as ?_
    refine sr_nil ?_
    refine aw_kp [2, 3, 6, 7, 8, 9] ?_
    refine aw_ret ?_
    show ∃ v H2, ResV _ _ _ _ _ _ v ∧ Sub H2 _ ∧ _
    exact ⟨_, [], resV rfl (.cons rfl .nil), (Sub.nil _), rfl⟩
  · refine sr_mv ?_
    refine sr_rd (x_extract rfl rfl) ?_
    refine sr_rd (x_extract rfl rfl) ?_
    refine sr_rd (x_extract rfl rfl) ?_
    refine sr_as ?_
    refine sr_as ?_
    refine sr_as ?_
    refine sr_nil ?_
    refine aw_kp [2, 3, 6, 7, 8, 9] ?_
    refine aw_seq ?_
    refine aw_seq_region ?_
    refine sr_rd (x_loadN ag24 sz24 rfl (cells_ext mauto Ext.auto) rfl) ?_
    refine sr_d rfl (wtd_none rfl) rfl (opS_call rfl rfl rfl rfl cl23 (right23_s all _)) ?_
    rintro _ _ ⟨rfl, rfl⟩
    rw [decide_eq_true hy]
    refine sr_rd (x_not rfl) ?_
    refine sr_nil ?_
    refine aw_kp [2, 3, 6, 7, 8, 9, 22] ?_
    refine aw_false rfl ?_
    refine aw_skip ?_
    show AW _ _ _ _ _ _ _
    refine aw_seq ?_
    refine aw_seq_dr ⟨_, 27, 88, [[], [0], [0, 1], [0, 1, 2], [0, 1, 2, 3], [0, 1, 2, 3, 4], [0, 1, 2, 3, 4, 5], [0, 1, 2, 3, 4, 5, 6], [0, 1, 2, 3, 4, 5, 6, 7], [0, 1, 2, 3, 4, 5, 6, 7, 8], [0, 1, 2, 3, 4, 5, 6, 7, 8, 9], [0, 1, 2, 3, 4, 5, 6, 7, 8, 9, 10], [0, 1, 2, 3, 4, 5, 6, 7, 8, 9, 10], [0, 1, 2, 3, 4, 5, 6, 7, 8, 9, 10, 11, 12], [0, 1, 2, 3, 4, 5, 6, 7, 8, 9, 10], [0, 1, 2, 3, 4, 5, 6, 7, 8, 9, 10], [0, 1, 2, 3, 4, 5, 6, 7, 8, 9, 10, 11, 12, 13, 14, 15], [0, 1, 2, 3, 4, 5, 6, 7, 8, 9, 10, 11, 12, 13, 14, 15, 16], [0, 1, 2, 3, 4, 5, 6, 7, 8, 9, 10, 11, 12, 13, 14, 15, 16, 17], [0, 1, 2, 3, 4, 5, 6, 7, 8, 9, 10, 11, 12, 13, 14, 15, 16, 17, 18], [0, 1, 2, 3, 4, 5, 6, 7, 8, 9, 10, 11, 12, 13, 14, 15, 16, 17, 18, 19], [0, 1, 2, 3, 4, 5, 6, 7, 8, 9, 10, 11, 12, 13, 14, 15, 16, 17, 18, 19, 20], [0, 1, 2, 3, 4, 5, 6, 7, 8, 9, 10, 11, 12, 13, 14, 15, 16, 17, 18, 19, 20, 21], [0, 1, 2, 3, 4, 5, 6, 7, 8, 9, 10, 11, 12, 13, 14, 15, 16, 17, 18, 19, 20, 21, 22], [0, 1, 2, 3, 4, 5, 6, 7, 8, 9, 10, 11, 12, 13, 14, 15, 16, 17, 18, 19], [0, 1, 2, 3, 4, 5, 6, 7, 8, 9, 10, 11, 12, 13, 14, 15, 16, 17, 18, 19, 20, 21, 22, 23, 24], [0, 1, 2, 3, 4, 5, 6, 7, 8, 9, 10, 11, 12, 13, 14, 15, 16, 17, 18, 19, 20, 21, 22, 23, 24, 25]], [.light, .light, .light, .light, .light, .light, .light, .light, .light, .light, .light, .light, .light, .call, .light, .light, .call, .light, .light, .light, .light, .light, .light, .mem, .mem, .light, .light]⟩ (by kernel_rfl) rfl rfl mix ?_
    refine dr_l (x_move rfl) ?_
    refine dr_l (x_eqnil Try.underlying144 rfl rfl) ?_
    refine dr_l (x_move rfl) ?_
    refine dr_y (x_move rfl) ?_
    refine dr_y (x_eqnil Try.underlying145 rfl rfl) ?_
    refine dr_l (x_pick_f rfl rfl rfl) ?_
    refine dr_l (x_move rfl) ?_
    refine dr_y (x_move rfl) ?_
    refine dr_y (x_not rfl) ?_
    refine dr_l (x_pick_f rfl rfl rfl) ?_
    refine dr_l (x_move rfl) ?_
    refine dr_y (x_move rfl) ?_
    refine dr_y (x_move rfl) ?_
    refine dr_callq0 rfl rfl (wtd_yes rfl rfl rfl) (opS_F rfl rfl rfl rfl cl89 ((gofU_s g9 m9 all _ (cells_ext mauto Ext.auto) user es clk f h (map_at mauto) hG))) (⟨_, rfl⟩) ?_
    rintro _ rfl
    refine dr_y (x_move rfl) ?_
    refine dr_y (x_move rfl) ?_
    refine dr_callq0 rfl rfl (wtd_yes rfl rfl rfl) (opS_F rfl rfl rfl rfl cl90 ((pof_s p all f h user _ mauto))) (⟨_, rfl⟩) ?_
    rintro _ rfl
    refine dr_cmp rfl rfl (wtd_yes rfl rfl rfl) (x_neStruct Try.underlying24 ks24 rfl rfl rfl rfl rfl) (fun h1 => absurd h1 (by exact fun h => Bool.noConfusion ((eqC_lim _).symm.trans h))) (fun h1 => ?_)
    refine dr_l (x_pick_f rfl rfl rfl) ?_
    refine dr_l (x_move rfl) ?_
    refine dr_y (x_move rfl) ?_
    refine dr_y (x_nilCheck rfl) ?_
    refine dr_y (x_fieldAddr fd151_0 rfl) ?_
    refine dr_mem0 rfl rfl (wtd_yes rfl rfl rfl) (x_loadN ag24 sz24 rfl (cells_pre (vs := all.cells) (n := 3) (cells_ext mauto Ext.auto)) rfl) ?_
    refine dr_mem0 rfl rfl (wtd_yes rfl rfl rfl) (x_loadN ag24 sz24 rfl (cells_ext mauto Ext.auto) rfl) ?_
    refine dr_cmp rfl rfl (wtd_yes rfl rfl rfl) (x_neStruct Try.underlying24 ks24 rfl rfl rfl rfl rfl) (fun h2 => absurd h2 (by exact fun h => Bool.noConfusion ((eqC_lim _).symm.trans h))) (fun h2 => ?_)
    refine dr_l (x_pick_f rfl rfl rfl) ?_
    refine dr_nil0 ?_
    refine aw_kp [6, 7, 8, 54] ?_
    refine aw_false rfl ?_
    refine aw_skip ?_
    show AW _ _ _ _ _ _ _
    refine aw_seq_region ?_
    refine sr_mv ?_
    refine sr_d rfl (wtd_none rfl) rfl (opS_call rfl rfl rfl rfl cl91 (gusers_s g9 m9 all es clk f h (pl p all f h :: (r0_0, .cells all.cells.toArray 24 (0, 0)) :: []) hG (by omega))) ?_
    rintro _ _ ⟨Z, a6, c6, E6, rfl, hZ, hZm, V6, rfl⟩
    have hV6 := V6.slv' (W0 := W0) (xs := Z) (fun _ => rfl) rfl (Sub.refl _)
    have hle6 := hV6.le
    have hcb6 := hV6.capb
    refine sr_as ?_
    refine sr_nil ?_
    refine aw_kp [6, 8, 10] ?_
    refine aw_seq_region ?_
    refine sr_as ?_
    refine sr_nil ?_
    refine aw_kp [6, 8, 10, 11] ?_
    refine aw_seq ?_
    refine aw_seq_region ?_
    refine sr_as ?_
    refine sr_nil ?_
    refine aw_kp [6, 8, 10, 11, 12] ?_
    refine aw_block ?_
    refine aw_loop (ι := Nat × Nat) (fun s => s.1 ≤ 256 ∧ UpTo Z s.1 s.2) (fun s => [(6, .bool false), (8, .pointer (some ⟨p, 0, none⟩)), (10, .slice a6 Z.length c6), (11, .int .i64 (s.2 : Nat)), (12, .int .i64 (s.1 : Nat))]) (fun _ => E6 ++ (gate g9 all m9 :: gmap m9 es clk :: pl p all f h :: (r0_0, .cells all.cells.toArray 24 (0, 0)) :: [])) (fun s => 256 - s.1) (0, 0) (⟨Nat.zero_le _, UpTo.zero (fun z hz => (hG.in_ z ((hZm z).1 hz)).1)⟩) KeepF.auto Sub.autoP ?_
    intro s hs9
    obtain ⟨i, k⟩ := s
    dsimp only at hs9 ⊢
    obtain ⟨hi, hup⟩ := hs9
    have hukl := hup.1
    refine aw_seq ?_
    refine aw_seq_region ?_
    refine sr_mv ?_
    refine sr_c (x_lt rfl rfl) (fun h3 => ?_) (fun h3 => ?_)
    · refine sr_nil ?_
      refine aw_kp [6, 8, 10, 11, 12, 57, 58] ?_
      refine aw_true rfl ?_
      refine aw_skip ?_
      show AW _ _ _ _ _ _ _
      refine aw_seq ?_
      refine aw_block ?_
      refine aw_seq_region ?_
      refine sr_mv ?_
      refine sr_mv ?_
      refine sr_rd (x_nilCheck rfl) ?_
      refine sr_rd (x_fieldAddr fd155_2 rfl) ?_
      refine sr_rd (x_indexAddrAN i Try.underlying153 sz4 rfl rfl (by omega) (by omega)) ?_
      refine sr_rd (x_load ag4 rfl (cells_has mauto (by omega))) ?_
      refine sr_nil ?_
      refine aw_kp [6, 8, 10, 11, 12, 57, 58, 61, 62, 63, 64, 65, 66] ?_
      refine aw_cond rfl (fun hb4 => ?_) (fun hb4 => ?_)
      · refine aw_seq ?_
        refine aw_seq_region ?_
        obtain ⟨hz, hup2⟩ := hup.yes hZ ((hZm _).2 (by rw [hG.get i (by omega), if_pos (by assumption)]; rfl))
        have hkl := get_lt hz
        obtain ⟨bz, oz, hax, hcz⟩ := hV6.at_ k _ hz
        refine sr_mv ?_
        refine sr_mv ?_
        refine sr_rd (x_lenSlice Try.underlying134 rfl) ?_
        refine sr_c (x_ge rfl rfl) (fun h5 => absurd h5 (by omega)) (fun h5 => ?_)
        refine sr_mv ?_
        refine sr_ry (x_move rfl) ?_
        refine sr_ry (x_move rfl) ?_
        refine sr_ry (x_indexAddrN k Try.underlying134 sz3 rfl hax rfl (by omega) (by omega)) ?_
        refine sr_ry (x_load ag3 rfl (Cells.mono hcz Sub.autoE)) ?_
        refine sr_ry (x_move rfl) ?_
        refine sr_cy (x_ne rfl rfl) (fun h6 => absurd h6 (by exact fun h => h rfl)) (fun h6 => ?_)
        refine sr_rd (x_pick_f rfl rfl rfl) ?_
        refine sr_nil ?_
        refine aw_kp [6, 8, 10, 11, 12, 57, 58, 61, 62, 63, 64, 65, 66, 67, 68, 69, 70, 71, 72, 73, 74, 75, 76, 77, 78] ?_
        refine aw_false rfl ?_
        refine aw_skip ?_
        show AW _ _ _ _ _ _ _
        refine aw_region ?_
        refine sr_mv ?_
        refine sr_rd (x_add' rfl rfl (i64w (by omega) (by omega))) ?_
        refine sr_as ?_
        refine sr_nil ?_
        show AW _ _ _ _ _ _ _
        refine aw_region ?_
        refine sr_mv ?_
        refine sr_rd (x_add' rfl rfl (i64w (by omega) (by omega))) ?_
        refine sr_as ?_
        refine sr_nil ?_
        show ∃ s', _ ∧ _ ∧ _ ∧ _
        exact ⟨(i + 1, k + 1), ⟨by dsimp only; omega, hup2⟩, by dsimp only; omega, KeepF.auto, Sub.autoP⟩
      · refine aw_skip ?_
        show AW _ _ _ _ _ _ _
        refine aw_region ?_
        refine sr_mv ?_
        refine sr_rd (x_add' rfl rfl (i64w (by omega) (by omega))) ?_
        refine sr_as ?_
        refine sr_nil ?_
        show ∃ s', _ ∧ _ ∧ _ ∧ _
        exact ⟨(i + 1, k), ⟨by dsimp only; omega, hup.no (fun q => by have q2 := (hZm _).1 q; rw [hG.get i (by omega), if_neg (by simp_all)] at q2; cases q2)⟩, by dsimp only; omega, KeepF.auto, Sub.autoP⟩
    · refine sr_nil ?_
      refine aw_kp [6, 8, 10, 11, 12, 57, 58] ?_
      refine aw_false rfl ?_
      refine aw_exit ?_
      show AW _ _ _ _ _ _ _
      refine aw_seq_region ?_
      obtain rfl : i = 256 := by omega
      have hkz := hup.fin (fun z hz => by have := hG.in_ z ((hZm z).1 hz); omega)
      refine sr_mv ?_
      refine sr_mv ?_
      refine sr_rd (x_lenSlice Try.underlying134 rfl) ?_
      refine sr_c (x_eq rfl rfl) (fun h7 => ?_) (fun h7 => absurd (by omega) h7)
      refine sr_mv ?_
      refine sr_d rfl (wtd_yes rfl rfl rfl) rfl (opS_call rfl rfl rfl rfl cl28 (awake33_s _)) ?_
      rintro _ _ ⟨rfl, rfl⟩
      refine sr_rd (x_pick_t rfl rfl rfl) ?_
      refine sr_as ?_
      refine sr_nil ?_
      refine aw_kp [6] ?_
      refine aw_ret ?_
      show ∃ v H2, ResV _ _ _ _ _ _ v ∧ Sub H2 _ ∧ _
      exact ⟨_, [], resV rfl (.cons rfl .nil), (Sub.nil _), rfl⟩
end
namespace QuotaGatesRow
open Go.ChangeShapes Go.WideShapes Go.ChangeAt Go.RowKit
theorem own : ownKnob Try.prog.godebug = none := by kernel_rfl
theorem laid : laidOutB Try.prog = true := by kernel_rfl
set_option maxRecDepth 100000 in
theorem lifted (os : Os) (started : os.Started) (H : Type) (enc : TypeId × Value → H) :
    ReturnsInHanded {} Try.checked os 16 .any (Rows.quotaGatesSpec.pre6 enc Try.prog Try.f16 Rows.quotaGatesRow.domain false) (Rows.quotaGatesSpec.post enc Try.prog Try.f16 false true false false) := by
  refine law_lifted (C := Try.checked) (tb := 4) own started (by kernel_rfl) Try.func16 (ChangeSpec.witness6 (enc := enc) (C := Try.checked) false ⟨#[], #[.agg #[.int .i64 0, .int .i64 0, .int .i64 0], .slice none 0 0, .int .i64 0], []⟩ 8 (by kernel_rfl) (by kernel_rfl) (by kernel_rfl) (by kernel_rfl)) rfl Try.underlying4 rfl laid (by kernel_rfl) ?_ ?_
  · intro ds h
    match ds, h with
    | [a0, a1, a2], _ => rfl
  · intro W base args ds ps hval hA hlt hsz
    have hA' : DataW.TrodAll enc Try.prog W 0 (fun _ => true) true [24, 143, 3] args ds ps := hA
    clear hA
    obtain ⟨v0, vs0, d0, ds0, p0, q0, rfl, rfl, rfl, h0, r0⟩ := trodAll_cons hA'
    obtain ⟨v1, vs1, d1, ds1, p1, q1, rfl, rfl, rfl, h1, r1⟩ := trodAll_cons r0
    obtain ⟨v2, vs2, d2, ds2, p2, q2, rfl, rfl, rfl, h2, r2⟩ := trodAll_cons r1
    obtain ⟨rfl, rfl, rfl⟩ := trodAll_nil r2
    obtain ⟨all, rfl, _⟩ := open_QLimit (hval 0 24 v0 rfl rfl) h0
    obtain ⟨a, cap, xs, rfl, hs, _⟩ := opn_slice Try.underlying143 cells194 (by decide) (fun fuel cs x h => read_QOp h) (hval 1 143 v1 rfl rfl) h1
    obtain ⟨user, rfl, _⟩ := opn_int Try.underlying3 (hval 2 3 v2 rfl rfl) h2
    exact quotaGates_s all a cap xs user hs
theorem joined : joinedFacts Try.prog 16 Try.f16 Rows.quotaGatesSpec Rows.quotaGatesRow = true := by
  unfold joinedFacts
  rw [cutMay, cutLif, cutMk]
  kernel_rfl
theorem over : Rows.quotaGatesRow.holds Try.pinned (OpenSpec.ofChange Rows.quotaGatesSpec) :=
  OpenClaim.holds_of_wide 16 Try.f16 rfl rfl rfl rfl rfl rfl rfl ⟨rfl, rfl, rfl, rfl, rfl⟩ rfl rfl rfl rfl rfl (by kernel_rfl) Try.func16 joined
    (of_decide_eq_true (by kernel_rfl)) (by unfold Func.isWrapper; first | (rw [if_pos (by decide +kernel)]; kernel_rfl) | (rw [if_neg (by decide +kernel)]; exact ⟨rfl, rfl⟩))
    (fun os started H enc _ => lifted os started H enc)
theorem proved : Rows.QuotaGatesSaid := over
#print axioms proved
end QuotaGatesRow
end Go.Proofs.Yteilocpjikmmdaa
