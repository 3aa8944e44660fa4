/- Any text is read as the request whose line it is, or as none; no condition but that the listed variables lie as the program's text lays them. -/
import Derived.Test.YtbcajgkaepihfaaDoorSde
import Derived.Test.YtbcajgkaepihfaaDoorSymLaid
import Derived.Test.YtbcajgkaepihfaaDoorRows
import Derived.Test.YtbcajgkaepihfaaDoorCards
import Derived.Test.YtbcajgkaepihfaaDoorTie
import Derived.Test.YtbcajgkaepihfaaDoorCut
import Derived.SevenTiedAt
namespace Go.Proofs.YtbcajgkaepihfaaDoor
open Go.Proofs.YtbcajgkaepihfaaDoor.Sym
open Go.RowKit (Below)
set_option linter.unusedVariables false
set_option linter.unusedSimpArgs false
theorem cells2 : Tryd.prog.cellsOf 2 = 1 := by kernel_rfl
theorem cells3 : Tryd.prog.cellsOf 3 = 1 := by kernel_rfl
theorem cells35 : Tryd.prog.cellsOf 35 = 9 := by kernel_rfl
theorem cells4 : Tryd.prog.cellsOf 4 = 1 := by kernel_rfl
theorem cl22 : Callable Tryd.prog 22 := ⟨Tryd.f22, Tryd.func22, by kernel_rfl, by kernel_rfl⟩
theorem cl24 : Callable Tryd.prog 24 := ⟨Tryd.f24, Tryd.func24, by kernel_rfl, by kernel_rfl⟩
theorem cl25 : Callable Tryd.prog 25 := ⟨Tryd.f25, Tryd.func25, by kernel_rfl, by kernel_rfl⟩
section
variable {W0 : World}
set_option maxRecDepth 100000 in
theorem read_Req {H : Type} {enc : TypeId × Value → H} {w : World} {base : Nat} {spare : Nat → Bool} {held : Bool} {fuel : Nat} {cs : List Value} {x : DataW H × List MemPlace} (h : DataW.trod enc Tryd.prog w base spare held fuel 35 cs = some x) : ∃ j : Req, cs = j.cells ∧ j.Wf := by
  obtain ⟨hlen, n, hf⟩ := read_struct Tryd.underlying35 h
  rw [cells35] at hlen
  obtain ⟨a0, e0, l0, u0⟩ := read_int Tryd.underlying3 cells3 (hf 0 _ rfl)
  obtain ⟨a1, e1, l1, u1⟩ := read_int Tryd.underlying3 cells3 (hf 1 _ rfl)
  obtain ⟨a2, e2, l2, u2⟩ := read_int Tryd.underlying3 cells3 (hf 2 _ rfl)
  obtain ⟨a3, e3, l3, u3⟩ := read_int Tryd.underlying3 cells3 (hf 3 _ rfl)
  obtain ⟨a4, e4, l4, u4⟩ := read_int Tryd.underlying2 cells2 (hf 4 _ rfl)
  obtain ⟨a5, e5, l5, u5⟩ := read_int Tryd.underlying3 cells3 (hf 5 _ rfl)
  obtain ⟨a6, e6⟩ := read_bool Tryd.underlying4 cells4 (hf 6 _ rfl)
  obtain ⟨a7, e7, l7, u7⟩ := read_int Tryd.underlying3 cells3 (hf 7 _ rfl)
  obtain ⟨a8, e8, l8, u8⟩ := read_int Tryd.underlying2 cells2 (hf 8 _ rfl)
  refine ⟨⟨a0, a1, a2, a3, a4, a5, a6, a7, a8⟩, ?_, ⟨l0, u0, l1, u1, l2, u2, l3, u3, l4, u4, l5, u5, l7, u7, l8, u8⟩⟩
  apply List.ext_getElem?
  intro i
  match i with
  | 0 => exact e0
  | 1 => exact e1
  | 2 => exact e2
  | 3 => exact e3
  | 4 => exact e4
  | 5 => exact e5
  | 6 => exact e6
  | 7 => exact e7
  | 8 => exact e8
  | i + 9 => rw [List.getElem?_eq_none (by omega), List.getElem?_eq_none (by simp)]
set_option maxRecDepth 100000 in
theorem open_Req {H : Type} {enc : TypeId × Value → H} {w : World} {base b0 : Nat} {spare : Nat → Bool} {held : Bool} {v : Value} {d : DataW H} {p : List MemPlace} {r : Reach} (hv : Value.okWide Tryd.prog w r b0 35 v) (h : DataW.Trod enc Tryd.prog w base spare held 35 v d p) : ∃ j : Req, v = j.v ∧ j.Wf := by
  obtain ⟨cs, rfl, _⟩ := Go.WideShapes.okWide_struct Tryd.underlying35 hv
  obtain ⟨fuel, hf⟩ := h
  obtain ⟨j, h1, h2⟩ := read_Req hf
  refine ⟨j, ?_, h2⟩
  have : cs = j.cells.toArray := by apply Array.toList_inj.1; exact h1
  rw [this]
end

section
variable {W0 : World}
set_option maxRecDepth 100000 in
set_option maxHeartbeats 400000 in
theorem sayParses_s (l : List UInt8) (r : Req) (hw : WfR r) : AC Tryd.prog W0 5 [.string (bs l), r.v] [] (fun v _ => v = .bool true) := by
  refine ac_of Tryd.func5 rfl rfl rfl ?_
  refine aw_seq_region ?_
  refine sr_new rfl (wtd_none rfl) rfl (x_box rfl rfl) ?_
  intro r0_0 hr0_0 gr0_0
  refine sr_as ?_
  refine sr_nil ?_
  refine aw_kp [0, 3, 4] ?_
  refine aw_seq_region ?_
  refine sr_mv ?_
  refine sr_d rfl (wtd_none rfl) rfl (opS_call rfl rfl rfl rfl cl22 (cut26_s l _)) ?_
  rintro _ H9 ⟨rfl, rfl⟩
  have hsl : (l.take 150).length ≤ 150 := by rw [List.length_take]; omega
  generalize l.take 150 = s at hsl ⊢
  refine sr_as ?_
  refine sr_nil ?_
  refine aw_kp [0, 3, 4] ?_
  refine aw_seq_region ?_
  refine sr_mv ?_
  refine sr_d rfl (wtd_none rfl) rfl (opS_call rfl rfl rfl rfl cl23 (parse_s s (by omega) _)) ?_
  rintro _ H9 ⟨rfl, rfl⟩
  cases hp : parseB s
  · refine sr_mv ?_
    refine sr_rd (x_extract rfl rfl) ?_
    refine sr_rd (x_extract rfl rfl) ?_
    refine sr_new rfl (wtd_none rfl) rfl (x_alloc zr35 rfl) ?_
    intro r2_5 hr2_5 gr2_5
    refine sr_x0 rfl (wtd_none rfl) (x_store sz35 rfl rfl rfl rfl rfl Repl.auto Spl.auto) ?_
    refine sr_as ?_
    refine sr_nil ?_
    refine aw_kp [0, 3, 4, 5, 6] ?_
    refine aw_seq ?_
    refine aw_seq_region ?_
    refine sr_mv ?_
    refine sr_c (x_ne rfl rfl) (fun h1 => ?_) (fun h1 => absurd (by first | exact fun h => h rfl | decide) h1)
    refine sr_nil ?_
    refine aw_kp [0, 3, 4, 5, 6, 15] ?_
    refine aw_true rfl ?_
    refine aw_seq_region ?_
    refine sr_rd (x_loadN ag35 sz35 rfl (cells_ext mauto Ext.auto) rfl) ?_
    refine sr_rd (x_build zr35 rfl fl35 Parts.auto Fill.auto) ?_
    refine sr_c (x_eqStruct Tryd.underlying35 ks35 rfl rfl rfl rfl rfl) (fun h2 => ?_) (fun h2 => absurd (by rfl) h2)
    refine sr_mv ?_
    refine sr_ry (x_move rfl) ?_
    refine sr_cy (x_eq rfl rfl) (fun h3 => ?_) (fun h3 => absurd (by rfl) h3)
    refine sr_rd (x_pick_t rfl rfl rfl) ?_
    refine sr_mv ?_
    refine sr_ry (x_move rfl) ?_
    refine sr_cy (x_eqB rfl rfl) (fun h4 => ?_) (fun h4 => ?_)
    · refine sr_ry (x_move rfl) ?_
      refine sr_sk ?_
      refine sr_sk ?_
      refine sr_sk ?_
      refine sr_sk ?_
      refine sr_ry (x_pick_t rfl rfl rfl) ?_
      refine sr_rd (x_pick_t rfl rfl rfl) ?_
      refine sr_mv ?_
      refine sr_d rfl (wtd_yes rfl rfl rfl) rfl (opS_call rfl rfl rfl rfl cl25 (awake26_s _)) ?_
      rintro _ H9 ⟨rfl, rfl⟩
      refine sr_rd (x_pick_t rfl rfl rfl) ?_
      refine sr_as ?_
      refine sr_nil ?_
      refine aw_kp [0, 4, 5] ?_
      refine aw_ret ?_
      show ∃ v H2, ResV _ _ _ _ _ _ v ∧ Sub H2 _ ∧ _
      exact ⟨_, [], resV rfl (.cons rfl .nil), (Sub.nil _), rfl⟩
    · refine sr_ry (x_move rfl) ?_
      refine sr_ry (x_move rfl) ?_
      refine sr_ry (x_loadN ag35 sz35 rfl (cells_ext mauto Ext.auto) rfl) ?_
      refine sr_d rfl (wtd_yes rfl rfl rfl) rfl (opS_call rfl rfl rfl rfl cl24 (line_s r hw _)) ?_
      rintro _ H9 ⟨rfl, rfl⟩
      refine sr_cy (x_neB rfl rfl) (fun h5 => ?_) (fun h5 => absurd (by exact parse_none hp (by assumption) hw) h5)
      refine sr_ry (x_pick_f rfl rfl rfl) ?_
      refine sr_rd (x_pick_t rfl rfl rfl) ?_
      refine sr_mv ?_
      refine sr_d rfl (wtd_yes rfl rfl rfl) rfl (opS_call rfl rfl rfl rfl cl25 (awake26_s _)) ?_
      rintro _ H9 ⟨rfl, rfl⟩
      refine sr_rd (x_pick_t rfl rfl rfl) ?_
      refine sr_as ?_
      refine sr_nil ?_
      refine aw_kp [0, 4, 5] ?_
      refine aw_ret ?_
      show ∃ v H2, ResV _ _ _ _ _ _ v ∧ Sub H2 _ ∧ _
      exact ⟨_, [], resV rfl (.cons rfl .nil), (Sub.nil _), rfl⟩
  · rename_i x
    obtain ⟨hgx, hlx, hbx⟩ := parse_inv hp
    have hwx := wf_of hgx.2 hbx
    refine sr_mv ?_
    refine sr_rd (x_extract rfl rfl) ?_
    refine sr_rd (x_extract rfl rfl) ?_
    refine sr_new rfl (wtd_none rfl) rfl (x_alloc zr35 rfl) ?_
    intro r2_5 hr2_5 gr2_5
    refine sr_x0 rfl (wtd_none rfl) (x_store sz35 rfl rfl rfl rfl rfl Repl.auto Spl.auto) ?_
    refine sr_as ?_
    refine sr_nil ?_
    refine aw_kp [0, 3, 4, 5, 6] ?_
    refine aw_seq ?_
    refine aw_seq_region ?_
    refine sr_mv ?_
    refine sr_c (x_ne rfl rfl) (fun h6 => absurd h6 (by first | exact fun h => h rfl | decide)) (fun h6 => ?_)
    refine sr_nil ?_
    refine aw_kp [0, 3, 4, 5, 6, 15] ?_
    refine aw_false rfl ?_
    refine aw_skip ?_
    show AW _ _ _ _ _ _ _
    refine aw_seq_region ?_
    refine sr_mv ?_
    refine sr_c (x_neB rfl rfl) (fun h7 => ?_) (fun h7 => absurd (by rw [← hlx]; exact line_ne hgx) h7)
    refine sr_mv ?_
    refine sr_ry (x_loadN ag35 sz35 rfl (cells_ext mauto Ext.auto) rfl) ?_
    refine sr_d rfl (wtd_yes rfl rfl rfl) rfl (opS_call rfl rfl rfl rfl cl24 (line_s x hwx _)) ?_
    rintro _ H9 ⟨rfl, rfl⟩
    rw [lineB_g hgx, hlx]
    refine sr_ry (x_move rfl) ?_
    refine sr_cy (x_eqB rfl rfl) (fun h8 => ?_) (fun h8 => absurd (by rfl) h8)
    refine sr_rd (x_pick_t rfl rfl rfl) ?_
    refine sr_mv ?_
    refine sr_d rfl (wtd_yes rfl rfl rfl) rfl (opS_call rfl rfl rfl rfl cl25 (awake26_s _)) ?_
    rintro _ H9 ⟨rfl, rfl⟩
    refine sr_rd (x_pick_t rfl rfl rfl) ?_
    refine sr_as ?_
    refine sr_nil ?_
    refine aw_kp [4] ?_
    refine aw_ret ?_
    show ∃ v H2, ResV _ _ _ _ _ _ v ∧ Sub H2 _ ∧ _
    exact ⟨_, [], resV rfl (.cons rfl .nil), (Sub.nil _), rfl⟩
end
namespace SayParsesRow
open Go.ChangeShapes Go.WideShapes Go.ChangeAt Go.RowKit
theorem own : ownKnob Tryd.prog.godebug = none := by kernel_rfl
theorem laidOut : laidOutB Tryd.prog = true := by kernel_rfl
def laid : List (String × DataW Unit) := [("unicode/utf8.acceptRanges", Rows.laid_unicode_utf8_acceptRanges), ("unicode/utf8.first", Rows.laid_unicode_utf8_first)]
set_option maxRecDepth 100000 in
theorem lifted (os : Os) (started : os.Started) (H : Type) (enc : TypeId × Value → H) :
    ReturnsInHanded {} Tryd.checked os 5 .any (fun w args => (Rows.sayParsesSpec.pre enc Tryd.prog Tryd.f5 [] false w args ∧ laidMetH Tryd.prog laid w) ∧ sizedMet enc Tryd.prog Tryd.f5 (OpenSpec.ofChange Rows.sayParsesSpec) false w args)
      (Rows.sayParsesSpec.post enc Tryd.prog Tryd.f5 false true false false) := by
  refine law_lifted_laid (C := Tryd.checked) (tb := 4) (laid := laid) own started (by kernel_rfl) Tryd.func5
    (ChangeSpec.witness_shaped (enc := enc) (C := Tryd.checked) (os := os) (X := fun w _ => laidMetH Tryd.prog laid w) false (World.laidAll Tryd.prog os laid) #[.string .empty, .agg #[.int .i64 0, .int .i64 0, .int .i64 0, .int .i64 0, .int .i64 0, .int .i64 0, .bool false, .int .i64 0, .int .i64 0]] 8 (World.laidAll_os _ _ _)
      (World.shaped_of_ZipB (by kernel_rfl) (by kernel_rfl)) (by kernel_rfl) (by kernel_rfl) (by kernel_rfl)
      (by rw [MakeChecks.laidMetH_plain _ _ _ (by kernel_rfl)]; exact laidMet_laidAll _ (by kernel_rfl) (by kernel_rfl)))
    (fun w => MakeChecks.laidMetH_plain _ _ _ (by kernel_rfl)) rfl Tryd.underlying4 rfl laidOut (by kernel_rfl) ?_ ?_
  · intro ds h
    match ds, h with
    | [a0, a1], _ => rfl
  · intro W base args ds ps hval hA hlt hsz
    have hA' : DataW.TrodAll enc Tryd.prog W 0 (fun _ => true) true [9, 35] args ds ps := hA
    clear hA
    obtain ⟨v0, vs0, d0, ds0, p0, q0, rfl, rfl, rfl, h0, r0⟩ := trodAll_cons hA'
    obtain ⟨v1, vs1, d1, ds1, p1, q1, rfl, rfl, rfl, h1, r1⟩ := trodAll_cons r0
    obtain ⟨rfl, rfl, rfl⟩ := trodAll_nil r1
    obtain ⟨s, rfl, _⟩ := opn_str Tryd.underlying9 (hval 0 9 v0 rfl rfl) h0
    obtain ⟨r, rfl, hr⟩ := open_Req (hval 1 35 v1 rfl rfl) h1
    rw [bs_all s]
    exact sayParses_s _ r hr.w
theorem joined : joinedFacts Tryd.prog 5 Tryd.f5 Rows.sayParsesSpec Rows.sayParsesRow = true := by
  unfold joinedFacts
  rw [cutMay, cutLif, cutMk]
  kernel_rfl
theorem over : Rows.sayParsesRow.holds Tryd.pinned (OpenSpec.ofChange Rows.sayParsesSpec) :=
  OpenClaim.holds_of_wide 5 Tryd.f5 rfl rfl rfl rfl rfl rfl rfl ⟨rfl, rfl, rfl, rfl, rfl⟩ rfl rfl rfl rfl rfl (by kernel_rfl) Tryd.func5 joined
    (of_decide_eq_true (by kernel_rfl)) (by unfold Func.isWrapper; first | (rw [if_pos (by decide +kernel)]; kernel_rfl) | (rw [if_neg (by decide +kernel)]; exact ⟨rfl, rfl⟩))
    (fun os started H enc _ => lifted os started H enc)
theorem proved : Rows.SayParsesCardSaid :=
  Claim7.holds_tied_plain_at .later [] [.data, .pinned] true (true, "426c9bee184f4b528ab0760080dc1cc7cd819b0490f5c9691bd34e83eb6dee88") false over (fun _ h => by cases h) (by kernel_rfl) (fun _ h => by cases h) sayParses_row_tie rfl ⟨rfl, rfl⟩ (by kernel_rfl) rfl
    (fun f fn hf hfn => by
      obtain rfl : f = 5 := Option.some.inj ((show Tryd.prog.funcNamed "berthage/berthagelaw26.SayParses" = some 5 by kernel_rfl).symm.trans hf) |>.symm
      obtain rfl : fn = Tryd.f5 := (Option.some.inj (Tryd.func5.symm.trans hfn)).symm
      exact ⟨by kernel_rfl, fun j t ht => by
        have ht' : (#[9, 35] : Array TypeId)[j]? = some t := ht
        have hm : t ∈ [9, 35] := by simpa using Array.mem_of_getElem? ht'
        have hall : ([9, 35].all fun u => !Tryd.prog.wantsStandIn u) = true := by kernel_rfl
        exact (show Tryd.prog.wantsStandIn t = false by simpa using List.all_eq_true.1 hall t hm)⟩)
    (by kernel_rfl)
#print axioms proved
end SayParsesRow
end Go.Proofs.YtbcajgkaepihfaaDoor
