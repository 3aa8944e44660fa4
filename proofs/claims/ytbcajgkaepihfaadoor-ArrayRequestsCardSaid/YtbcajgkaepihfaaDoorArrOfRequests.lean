/- What any array asks for; no condition but that the listed variables lie as the program's text lays them. -/
import Derived.Test.YtbcajgkaepihfaaDoorSgd
import Derived.Test.YtbcajgkaepihfaaDoorSymLaid
import Derived.Test.YtbcajgkaepihfaaDoorRows
import Derived.Test.YtbcajgkaepihfaaDoorCards
import Derived.Test.YtbcajgkaepihfaaDoorTie
import Derived.Test.YtbcajgkaepihfaaDoorCut
import Derived.SevenTiedAt
namespace Go.Proofs.YtbcajgkaepihfaaDoor
open Go.Proofs.YtbcajgkaepihfaaDoor.Sym
open Go.RowKit (Below)
set_option linter.unusedVariables false
set_option linter.unusedSimpArgs false
theorem cells2 : Tryd.prog.cellsOf 2 = 1 := by kernel_rfl
theorem cells3 : Tryd.prog.cellsOf 3 = 1 := by kernel_rfl
theorem cells35 : Tryd.prog.cellsOf 35 = 9 := by kernel_rfl
theorem cells4 : Tryd.prog.cellsOf 4 = 1 := by kernel_rfl
theorem cells67 : Tryd.prog.cellsOf 67 = 3 := by kernel_rfl
theorem cl38 : Callable Tryd.prog 38 := ⟨Tryd.f38, Tryd.func38, by kernel_rfl, by kernel_rfl⟩
theorem cl43 : Callable Tryd.prog 43 := ⟨Tryd.f43, Tryd.func43, by kernel_rfl, by kernel_rfl⟩
theorem cl49 : Callable Tryd.prog 49 := ⟨Tryd.f49, Tryd.func49, by kernel_rfl, by kernel_rfl⟩
theorem ks35 : kindsOf Tryd.prog 35 = some [.int, .int, .int, .int, .int, .int, .bool, .int, .int] := by kernel_rfl
section
variable {W0 : World}
set_option maxRecDepth 100000 in
theorem read_Part {H : Type} {enc : TypeId × Value → H} {w : World} {base : Nat} {spare : Nat → Bool} {held : Bool} {fuel : Nat} {cs : List Value} {x : DataW H × List MemPlace} (h : DataW.trod enc Tryd.prog w base spare held fuel 67 cs = some x) : ∃ j : Part, cs = j.cells ∧ j.Wf := by
  obtain ⟨hlen, n, hf⟩ := read_struct Tryd.underlying67 h
  rw [cells67] at hlen
  obtain ⟨a0, e0, l0, u0⟩ := read_int Tryd.underlying3 cells3 (hf 0 _ rfl)
  obtain ⟨a1, e1, l1, u1⟩ := read_int Tryd.underlying3 cells3 (hf 1 _ rfl)
  obtain ⟨a2, e2, l2, u2⟩ := read_int Tryd.underlying3 cells3 (hf 2 _ rfl)
  refine ⟨⟨a0, a1, a2⟩, ?_, ⟨l0, u0, l1, u1, l2, u2⟩⟩
  apply List.ext_getElem?
  intro i
  match i with
  | 0 => exact e0
  | 1 => exact e1
  | 2 => exact e2
  | i + 3 => rw [List.getElem?_eq_none (by omega), List.getElem?_eq_none (by simp)]
set_option maxRecDepth 100000 in
theorem open_Part {H : Type} {enc : TypeId × Value → H} {w : World} {base b0 : Nat} {spare : Nat → Bool} {held : Bool} {v : Value} {d : DataW H} {p : List MemPlace} {r : Reach} (hv : Value.okWide Tryd.prog w r b0 67 v) (h : DataW.Trod enc Tryd.prog w base spare held 67 v d p) : ∃ j : Part, v = j.v ∧ j.Wf := by
  obtain ⟨cs, rfl, _⟩ := Go.WideShapes.okWide_struct Tryd.underlying67 hv
  obtain ⟨fuel, hf⟩ := h
  obtain ⟨j, h1, h2⟩ := read_Part hf
  refine ⟨j, ?_, h2⟩
  have : cs = j.cells.toArray := by apply Array.toList_inj.1; exact h1
  rw [this]
set_option maxRecDepth 100000 in
theorem read_Req {H : Type} {enc : TypeId × Value → H} {w : World} {base : Nat} {spare : Nat → Bool} {held : Bool} {fuel : Nat} {cs : List Value} {x : DataW H × List MemPlace} (h : DataW.trod enc Tryd.prog w base spare held fuel 35 cs = some x) : ∃ j : Req, cs = j.cells ∧ j.Wf := by
  obtain ⟨hlen, n, hf⟩ := read_struct Tryd.underlying35 h
  rw [cells35] at hlen
  obtain ⟨a0, e0, l0, u0⟩ := read_int Tryd.underlying3 cells3 (hf 0 _ rfl)
  obtain ⟨a1, e1, l1, u1⟩ := read_int Tryd.underlying3 cells3 (hf 1 _ rfl)
  obtain ⟨a2, e2, l2, u2⟩ := read_int Tryd.underlying3 cells3 (hf 2 _ rfl)
  obtain ⟨a3, e3, l3, u3⟩ := read_int Tryd.underlying3 cells3 (hf 3 _ rfl)
  obtain ⟨a4, e4, l4, u4⟩ := read_int Tryd.underlying2 cells2 (hf 4 _ rfl)
  obtain ⟨a5, e5, l5, u5⟩ := read_int Tryd.underlying3 cells3 (hf 5 _ rfl)
  obtain ⟨a6, e6⟩ := read_bool Tryd.underlying4 cells4 (hf 6 _ rfl)
  obtain ⟨a7, e7, l7, u7⟩ := read_int Tryd.underlying3 cells3 (hf 7 _ rfl)
  obtain ⟨a8, e8, l8, u8⟩ := read_int Tryd.underlying2 cells2 (hf 8 _ rfl)
  refine ⟨⟨a0, a1, a2, a3, a4, a5, a6, a7, a8⟩, ?_, ⟨l0, u0, l1, u1, l2, u2, l3, u3, l4, u4, l5, u5, l7, u7, l8, u8⟩⟩
  apply List.ext_getElem?
  intro i
  match i with
  | 0 => exact e0
  | 1 => exact e1
  | 2 => exact e2
  | 3 => exact e3
  | 4 => exact e4
  | 5 => exact e5
  | 6 => exact e6
  | 7 => exact e7
  | 8 => exact e8
  | i + 9 => rw [List.getElem?_eq_none (by omega), List.getElem?_eq_none (by simp)]
set_option maxRecDepth 100000 in
theorem open_Req {H : Type} {enc : TypeId × Value → H} {w : World} {base b0 : Nat} {spare : Nat → Bool} {held : Bool} {v : Value} {d : DataW H} {p : List MemPlace} {r : Reach} (hv : Value.okWide Tryd.prog w r b0 35 v) (h : DataW.Trod enc Tryd.prog w base spare held 35 v d p) : ∃ j : Req, v = j.v ∧ j.Wf := by
  obtain ⟨cs, rfl, _⟩ := Go.WideShapes.okWide_struct Tryd.underlying35 hv
  obtain ⟨fuel, hf⟩ := h
  obtain ⟨j, h1, h2⟩ := read_Req hf
  refine ⟨j, ?_, h2⟩
  have : cs = j.cells.toArray := by apply Array.toList_inj.1; exact h1
  rw [this]
end

section
variable {W0 : World}
set_option maxRecDepth 100000 in
set_option maxHeartbeats 4000000 in
theorem arrayRequests_s (r : Req) (sa : Option Addr) (scap : Nat) (l : List Part) (hs0 : ∀ G, SlV W0 G 3 Part.cells sa scap l) : AC Tryd.prog W0 16 [r.v, .slice sa l.length scap] [] (fun v _ => v = .bool true) := by
  have hle0 := (hs0 []).le
  have hcb0 := (hs0 []).capb
  refine ac_of Tryd.func16 rfl rfl rfl ?_
  refine aw_seq_region ?_
  refine sr_new rfl (wtd_none rfl) rfl (x_box rfl rfl) ?_
  intro r0_0 hr0_0 gr0_0
  refine sr_as ?_
  refine sr_nil ?_
  refine aw_kp [1, 2, 4] ?_
  refine aw_seq_region ?_
  refine sr_mv ?_
  refine sr_d rfl (wtd_none rfl) rfl (opS_call rfl rfl rfl rfl cl38 (fewp_s sa scap l _ (by omega) (by omega))) ?_
  rintro _ _ ⟨rfl, rfl⟩
  obtain ⟨xs, hxs⟩ : ∃ xs, xs = l.take 20 := ⟨_, rfl⟩
  have hs : ∀ G, SlV W0 G 3 Part.cells sa scap xs := fun G => hxs ▸ (hs0 G).take 20
  rw [← hxs]
  refine sr_as ?_
  refine sr_nil ?_
  refine aw_kp [1, 2, 4] ?_
  refine aw_seq_region ?_
  refine sr_mv ?_
  refine sr_d rfl (wtd_none rfl) rfl (opS_call rfl rfl rfl rfl cl42 (numbers_s sa scap xs _ (hs _))) ?_
  rintro _ _ ⟨ys, d, a9, c9, E9, rfl, hN, V9, rfl⟩
  have hyl := num_len hN
  refine sr_mv ?_
  refine sr_rd (x_extract rfl rfl) ?_
  refine sr_rd (x_extract rfl rfl) ?_
  refine sr_as ?_
  refine sr_as ?_
  refine sr_nil ?_
  refine aw_kp [1, 2, 4, 5, 6] ?_
  refine aw_seq_region ?_
  refine sr_rd (x_loadN ag35 sz35 rfl (cells_ext mauto Ext.auto) rfl) ?_
  refine sr_mv ?_
  refine sr_d rfl (wtd_none rfl) rfl (opS_call rfl rfl rfl rfl cl49 (requests_s r sa scap xs _ hs)) ?_
  rintro _ _ ⟨ys2, d2, zs, e, a8, c8, E8, rfl, hN2, hO, V8, rfl⟩
  obtain ⟨e1, e2⟩ := hN2.uniq hN
  rw [e1, e2] at hO
  obtain ⟨q1, rfl, rfl⟩ | ⟨q1, q2, rfl, rfl⟩ | ⟨q1, q2, rfl, rfl⟩ := hO
  · refine sr_mv ?_
    refine sr_rd (x_extract rfl rfl) ?_
    refine sr_rd (x_extract rfl rfl) ?_
    refine sr_as ?_
    refine sr_as ?_
    refine sr_nil ?_
    refine aw_kp [2, 4, 5, 6, 7, 8] ?_
    refine aw_seq ?_
    refine aw_seq_region ?_
    refine sr_mv ?_
    refine sr_c (x_ne rfl rfl) (fun h1 => ?_) (fun h1 => absurd (by first | assumption | omega) h1)
    refine sr_nil ?_
    refine aw_kp [2, 4, 5, 6, 7, 8, 24] ?_
    refine aw_true rfl ?_
    refine aw_seq_region ?_
    refine sr_mv ?_
    refine sr_rd (x_lenSlice Tryd.underlying53 rfl) ?_
    refine sr_c (x_eq rfl rfl) (fun h2 => ?_) (fun h2 => absurd (by rfl) h2)
    refine sr_mv ?_
    refine sr_ry (x_move rfl) ?_
    refine sr_ry (x_move rfl) ?_
    refine sr_cy (x_eq rfl rfl) (fun h3 => ?_) (fun h3 => absurd (by rfl) h3)
    refine sr_rd (x_pick_t rfl rfl rfl) ?_
    refine sr_mv ?_
    refine sr_d rfl (wtd_yes rfl rfl rfl) rfl (opS_call rfl rfl rfl rfl cl43 (awake35_s _)) ?_
    rintro _ H9 ⟨rfl, rfl⟩
    refine sr_rd (x_pick_t rfl rfl rfl) ?_
    refine sr_as ?_
    refine sr_nil ?_
    refine aw_kp [2, 4, 5, 7, 8] ?_
    refine aw_ret ?_
    show ∃ v H2, ResV _ _ _ _ _ _ v ∧ Sub H2 _ ∧ _
    exact ⟨_, [], resV rfl (.cons rfl .nil), (Sub.nil _), rfl⟩
  · refine sr_mv ?_
    refine sr_rd (x_extract rfl rfl) ?_
    refine sr_rd (x_extract rfl rfl) ?_
    refine sr_as ?_
    refine sr_as ?_
    refine sr_nil ?_
    refine aw_kp [2, 4, 5, 6, 7, 8] ?_
    refine aw_seq ?_
    refine aw_seq_region ?_
    refine sr_mv ?_
    refine sr_c (x_ne rfl rfl) (fun h4 => absurd h4 (by first | assumption | omega)) (fun h4 => ?_)
    refine sr_nil ?_
    refine aw_kp [2, 4, 5, 6, 7, 8, 24] ?_
    refine aw_false rfl ?_
    refine aw_skip ?_
    show AW _ _ _ _ _ _ _
    refine aw_seq ?_
    refine aw_seq_region ?_
    refine sr_rd (x_fieldAddr fd35_0 rfl) ?_
    refine sr_rd (x_load ag3 rfl (cells_ext mauto Ext.auto)) ?_
    refine sr_c (x_ne rfl rfl) (fun h5 => ?_) (fun h5 => absurd (by first | assumption | omega) h5)
    refine sr_nil ?_
    refine aw_kp [2, 4, 5, 7, 8, 38] ?_
    refine aw_true rfl ?_
    refine aw_seq_region ?_
    refine sr_mv ?_
    refine sr_rd (x_lenSlice Tryd.underlying53 rfl) ?_
    refine sr_c (x_eq rfl rfl) (fun h6 => ?_) (fun h6 => absurd (by rfl) h6)
    refine sr_mv ?_
    refine sr_ry (x_move rfl) ?_
    refine sr_cy (x_eq rfl rfl) (fun h7 => ?_) (fun h7 => absurd (by rfl) h7)
    refine sr_rd (x_pick_t rfl rfl rfl) ?_
    refine sr_mv ?_
    refine sr_d rfl (wtd_yes rfl rfl rfl) rfl (opS_call rfl rfl rfl rfl cl43 (awake35_s _)) ?_
    rintro _ H9 ⟨rfl, rfl⟩
    refine sr_rd (x_pick_t rfl rfl rfl) ?_
    refine sr_as ?_
    refine sr_nil ?_
    refine aw_kp [2, 4, 5, 7, 8] ?_
    refine aw_ret ?_
    show ∃ v H2, ResV _ _ _ _ _ _ v ∧ Sub H2 _ ∧ _
    exact ⟨_, [], resV rfl (.cons rfl .nil), (Sub.nil _), rfl⟩
  · have hV8 := V8.slv' (W0 := W0) (xs := List.replicate ys.length r) (fun _ => rfl) rfl (Sub.refl _)
    have hle8 := hV8.le
    have hcb8 := hV8.capb
    have hzl : (List.replicate ys.length r).length = ys.length := List.length_replicate
    refine sr_mv ?_
    refine sr_rd (x_extract rfl rfl) ?_
    refine sr_rd (x_extract rfl rfl) ?_
    refine sr_as ?_
    refine sr_as ?_
    refine sr_nil ?_
    refine aw_kp [2, 4, 5, 6, 7, 8] ?_
    refine aw_seq ?_
    refine aw_seq_region ?_
    refine sr_mv ?_
    refine sr_c (x_ne rfl rfl) (fun h8 => absurd h8 (by first | assumption | omega)) (fun h8 => ?_)
    refine sr_nil ?_
    refine aw_kp [2, 4, 5, 6, 7, 8, 24] ?_
    refine aw_false rfl ?_
    refine aw_skip ?_
    show AW _ _ _ _ _ _ _
    refine aw_seq ?_
    refine aw_seq_region ?_
    refine sr_rd (x_fieldAddr fd35_0 rfl) ?_
    refine sr_rd (x_load ag3 rfl (cells_ext mauto Ext.auto)) ?_
    refine sr_c (x_ne rfl rfl) (fun h9 => absurd h9 (by first | assumption | omega)) (fun h9 => ?_)
    refine sr_nil ?_
    refine aw_kp [2, 4, 5, 7, 8, 38] ?_
    refine aw_false rfl ?_
    refine aw_skip ?_
    show AW _ _ _ _ _ _ _
    refine aw_seq ?_
    refine aw_seq_region ?_
    refine sr_mv ?_
    refine sr_c (x_ne rfl rfl) (fun h10 => absurd h10 (by exact fun h => h rfl)) (fun h10 => ?_)
    refine sr_mv ?_
    refine sr_ry (x_move rfl) ?_
    refine sr_ry (x_lenSlice Tryd.underlying53 rfl) ?_
    refine sr_ry (x_move rfl) ?_
    refine sr_ry (x_lenSlice Tryd.underlying69 rfl) ?_
    refine sr_cy (x_ne rfl rfl) (fun h11 => absurd h11 (by omega)) (fun h11 => ?_)
    refine sr_rd (x_pick_f rfl rfl rfl) ?_
    refine sr_nil ?_
    refine aw_kp [2, 4, 7, 57] ?_
    refine aw_false rfl ?_
    refine aw_skip ?_
    show AW _ _ _ _ _ _ _
    refine aw_seq ?_
    refine aw_seq_region ?_
    refine sr_as ?_
    refine sr_nil ?_
    refine aw_kp [2, 4, 7, 9] ?_
    refine aw_block ?_
    refine aw_loop (ι := Nat) (fun k => k ≤ ys.length) (fun k => [(2, .pointer (some ⟨r0_0, 0, none⟩)), (4, .bool false), (7, .slice a8 (List.replicate ys.length r).length c8), (9, .int .i64 k)]) (fun _ => E8 ++ (E9 ++ [(r0_0, .cells r.cells.toArray 35 (0, 0))])) (fun k => ys.length - k) 0 (Nat.zero_le _) KeepF.auto Sub.autoP ?_
    intro k hk
    refine aw_seq ?_
    refine aw_seq_region ?_
    refine sr_mv ?_
    refine sr_mv ?_
    refine sr_rd (x_lenSlice Tryd.underlying53 rfl) ?_
    refine sr_c (x_lt rfl rfl) (fun h12 => ?_) (fun h12 => ?_)
    · refine sr_nil ?_
      refine aw_kp [2, 4, 7, 9, 58, 59, 60, 61] ?_
      refine aw_true rfl ?_
      refine aw_skip ?_
      show AW _ _ _ _ _ _ _
      refine aw_seq ?_
      refine aw_block ?_
      refine aw_seq_dr ⟨_, 6, 73, [[], [], [0, 1], [0, 1, 2], [], [0, 1, 2, 3, 4]], [.light, .light, .light, .mem, .mem, .light]⟩ (by kernel_rfl) rfl rfl mix ?_
      have hx : (List.replicate ys.length r)[k]? = some r := by rw [List.getElem?_replicate, if_pos (by omega)]
      obtain ⟨bx, ox, hax, hcx⟩ := hV8.at_ k _ hx
      refine dr_l (x_move rfl) ?_
      refine dr_l (x_move rfl) ?_
      refine dr_l (x_indexAddrN k Tryd.underlying53 sz35 rfl hax rfl (by omega) (by omega)) ?_
      refine dr_mem0 rfl rfl (wtd_none rfl) (x_loadN ag35 sz35 rfl (Cells.mono hcx Sub.autoE) rfl) ?_
      refine dr_mem0 rfl rfl (wtd_none rfl) (x_loadN ag35 sz35 rfl (cells_ext mauto Ext.auto) rfl) ?_
      refine dr_cmp rfl rfl (wtd_none rfl) (x_neStruct Tryd.underlying35 ks35 rfl rfl rfl rfl rfl) (fun h13 => absurd h13 (by exact fun h => Bool.noConfusion (((eqC_req (a := r) (b := r)).2 rfl).symm.trans h))) (fun h13 => ?_)
      refine dr_nil0 ?_
      refine aw_kp [2, 4, 7, 9, 58, 59, 60, 61, 64, 65, 66, 67, 68, 69] ?_
      refine aw_false rfl ?_
      refine aw_skip ?_
      show AW _ _ _ _ _ _ _
      refine aw_region ?_
      refine sr_mv ?_
      refine sr_rd (x_add' rfl rfl (i64w (by omega) (by omega))) ?_
      refine sr_as ?_
      refine sr_nil ?_
      show ∃ s', _ ∧ _ ∧ _ ∧ _
      exact ⟨k + 1, by omega, by omega, KeepF.auto, Sub.autoP⟩
    · refine sr_nil ?_
      refine aw_kp [2, 4, 7, 9, 58, 59, 60, 61] ?_
      refine aw_false rfl ?_
      refine aw_exit ?_
      show AW _ _ _ _ _ _ _
      refine aw_seq_region ?_
      refine sr_mv ?_
      refine sr_d rfl (wtd_yes rfl rfl rfl) rfl (opS_call rfl rfl rfl rfl cl43 (awake35_s _)) ?_
      rintro _ H9 ⟨rfl, rfl⟩
      refine sr_rd (x_pick_t rfl rfl rfl) ?_
      refine sr_as ?_
      refine sr_nil ?_
      refine aw_kp [4] ?_
      refine aw_ret ?_
      show ∃ v H2, ResV _ _ _ _ _ _ v ∧ Sub H2 _ ∧ _
      exact ⟨_, [], resV rfl (.cons rfl .nil), (Sub.nil _), rfl⟩
end
namespace ArrayRequestsRow
open Go.ChangeShapes Go.WideShapes Go.ChangeAt Go.RowKit
theorem own : ownKnob Tryd.prog.godebug = none := by kernel_rfl
theorem laidOut : laidOutB Tryd.prog = true := by kernel_rfl
def laid : List (String × DataW Unit) := [("unicode/utf8.acceptRanges", Rows.laid_unicode_utf8_acceptRanges), ("unicode/utf8.first", Rows.laid_unicode_utf8_first)]
set_option maxRecDepth 100000 in
theorem lifted (os : Os) (started : os.Started) (H : Type) (enc : TypeId × Value → H) :
    ReturnsInHanded {} Tryd.checked os 16 .any (fun w args => (Rows.arrayRequestsSpec.pre enc Tryd.prog Tryd.f16 [] false w args ∧ laidMetH Tryd.prog laid w) ∧ sizedMet enc Tryd.prog Tryd.f16 (OpenSpec.ofChange Rows.arrayRequestsSpec) false w args)
      (Rows.arrayRequestsSpec.post enc Tryd.prog Tryd.f16 false true false false) := by
  refine law_lifted_laid (C := Tryd.checked) (tb := 4) (laid := laid) own started (by kernel_rfl) Tryd.func16
    (ChangeSpec.witness_shaped (enc := enc) (C := Tryd.checked) (os := os) (X := fun w _ => laidMetH Tryd.prog laid w) false (World.laidAll Tryd.prog os laid) #[.agg #[.int .i64 0, .int .i64 0, .int .i64 0, .int .i64 0, .int .i64 0, .int .i64 0, .bool false, .int .i64 0, .int .i64 0], .slice none 0 0] 8 (World.laidAll_os _ _ _)
      (World.shaped_of_ZipB (by kernel_rfl) (by kernel_rfl)) (by kernel_rfl) (by kernel_rfl) (by kernel_rfl)
      (by rw [MakeChecks.laidMetH_plain _ _ _ (by kernel_rfl)]; exact laidMet_laidAll _ (by kernel_rfl) (by kernel_rfl)))
    (fun w => MakeChecks.laidMetH_plain _ _ _ (by kernel_rfl)) rfl Tryd.underlying4 rfl laidOut (by kernel_rfl) ?_ ?_
  · intro ds h
    match ds, h with
    | [a0, a1], _ => rfl
  · intro W base args ds ps hval hA hlt hsz
    have hA' : DataW.TrodAll enc Tryd.prog W 0 (fun _ => true) true [35, 62] args ds ps := hA
    clear hA
    obtain ⟨v0, vs0, d0, ds0, p0, q0, rfl, rfl, rfl, h0, r0⟩ := trodAll_cons hA'
    obtain ⟨v1, vs1, d1, ds1, p1, q1, rfl, rfl, rfl, h1, r1⟩ := trodAll_cons r0
    obtain ⟨rfl, rfl, rfl⟩ := trodAll_nil r1
    obtain ⟨r, rfl, hr⟩ := open_Req (hval 0 35 v0 rfl rfl) h0
    obtain ⟨a, cap, xs, rfl, hs, hw⟩ := opn_slice Tryd.underlying62 cells67 (by decide) (fun fuel cs x h => read_Part h) (hval 1 62 v1 rfl rfl) h1
    exact arrayRequests_s r a cap xs hs
theorem joined : joinedFacts Tryd.prog 16 Tryd.f16 Rows.arrayRequestsSpec Rows.arrayRequestsRow = true := by
  unfold joinedFacts
  rw [cutMay, cutLif, cutMk]
  kernel_rfl
theorem over : Rows.arrayRequestsRow.holds Tryd.pinned (OpenSpec.ofChange Rows.arrayRequestsSpec) :=
  OpenClaim.holds_of_wide 16 Tryd.f16 rfl rfl rfl rfl rfl rfl rfl ⟨rfl, rfl, rfl, rfl, rfl⟩ rfl rfl rfl rfl rfl (by kernel_rfl) Tryd.func16 joined
    (of_decide_eq_true (by kernel_rfl)) (by unfold Func.isWrapper; first | (rw [if_pos (by decide +kernel)]; kernel_rfl) | (rw [if_neg (by decide +kernel)]; exact ⟨rfl, rfl⟩))
    (fun os started H enc _ => lifted os started H enc)
theorem proved : Rows.ArrayRequestsCardSaid :=
  Claim7.holds_tied_plain_at .later [] [.data, .pinned] true (true, "426c9bee184f4b528ab0760080dc1cc7cd819b0490f5c9691bd34e83eb6dee88") false over (fun _ h => by cases h) (by kernel_rfl) (fun _ h => by cases h) arrayRequests_row_tie rfl ⟨rfl, rfl⟩ (by kernel_rfl) rfl
    (fun f fn hf hfn => by
      obtain rfl : f = 16 := Option.some.inj ((show Tryd.prog.funcNamed "berthage/berthagelaw35.ArrayRequests" = some 16 by kernel_rfl).symm.trans hf) |>.symm
      obtain rfl : fn = Tryd.f16 := (Option.some.inj (Tryd.func16.symm.trans hfn)).symm
      exact ⟨by kernel_rfl, fun j t ht => by
        have ht' : (#[35, 62] : Array TypeId)[j]? = some t := ht
        have hm : t ∈ [35, 62] := by simpa using Array.mem_of_getElem? ht'
        have hall : ([35, 62].all fun u => !Tryd.prog.wantsStandIn u) = true := by kernel_rfl
        exact (show Tryd.prog.wantsStandIn t = false by simpa using List.all_eq_true.1 hall t hm)⟩)
    (by kernel_rfl)
#print axioms proved
end ArrayRequestsRow
end Go.Proofs.YtbcajgkaepihfaaDoor
