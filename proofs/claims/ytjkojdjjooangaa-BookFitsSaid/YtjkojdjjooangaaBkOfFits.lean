/- What could be booked is booked; no condition. -/
import Derived.Test.YtjkojdjjooangaaBkd
import Derived.Test.YtjkojdjjooangaaCut
import Derived.Test.YtjkojdjjooangaaRows
namespace Go.Proofs.Ytjkojdjjooangaa
open Go.Proofs.Ytjkojdjjooangaa.Sym
open Go.RowKit (Below)
set_option linter.unusedVariables false
set_option linter.unusedSimpArgs false
theorem cells165 : Try.prog.cellsOf 165 = 5 := by kernel_rfl
theorem cells2 : Try.prog.cellsOf 2 = 1 := by kernel_rfl
theorem cells3 : Try.prog.cellsOf 3 = 1 := by kernel_rfl
theorem cells55 : Try.prog.cellsOf 55 = 3 := by kernel_rfl
theorem cells9 : Try.prog.cellsOf 9 = 1 := by kernel_rfl
theorem cl78 : Callable Try.prog 78 := ⟨Try.f78, Try.func78, by kernel_rfl, by kernel_rfl⟩
theorem cl79 : Callable Try.prog 79 := ⟨Try.f79, Try.func79, by kernel_rfl, by kernel_rfl⟩
def Sym.PSpan.Wf (j : PSpan) : Prop := (IntKind.min .i64 ≤ j.from_ ∧ j.from_ ≤ IntKind.max .i64) ∧ (IntKind.min .i64 ≤ j.to_ ∧ j.to_ ≤ IntKind.max .i64) ∧ (IntKind.min .i64 ≤ j.width ∧ j.width ≤ IntKind.max .i64)
set_option maxRecDepth 100000 in
theorem read_PSpan {H : Type} {enc : TypeId × Value → H} {w : World} {base : Nat} {spare : Nat → Bool} {held : Bool} {fuel : Nat} {cs : List Value} {x : DataW H × List MemPlace} (h : DataW.trod enc Try.prog w base spare held fuel 55 cs = some x) : ∃ j : PSpan, cs = j.cells ∧ j.Wf := by
  obtain ⟨hlen, n, hf⟩ := read_struct Try.underlying55 h
  rw [cells55] at hlen
  obtain ⟨a0, e0, l0, u0⟩ := read_int Try.underlying2 cells2 (hf 0 _ rfl)
  obtain ⟨a1, e1, l1, u1⟩ := read_int Try.underlying2 cells2 (hf 1 _ rfl)
  obtain ⟨a2, e2, l2, u2⟩ := read_int Try.underlying3 cells3 (hf 2 _ rfl)
  refine ⟨⟨a0, a1, a2⟩, ?_, ⟨⟨l0, u0⟩, ⟨l1, u1⟩, ⟨l2, u2⟩⟩⟩
  apply List.ext_getElem?
  intro i
  match i with
  | 0 => exact e0
  | 1 => exact e1
  | 2 => exact e2
  | i + 3 => rw [List.getElem?_eq_none (by omega), List.getElem?_eq_none (by simp)]
set_option maxRecDepth 100000 in
theorem open_PSpan {H : Type} {enc : TypeId × Value → H} {w : World} {base b0 : Nat} {spare : Nat → Bool} {held : Bool} {v : Value} {d : DataW H} {p : List MemPlace} {r : Reach} (hv : Value.okWide Try.prog w r b0 55 v) (h : DataW.Trod enc Try.prog w base spare held 55 v d p) : ∃ j : PSpan, v = j.v ∧ j.Wf := by
  obtain ⟨cs, rfl, _⟩ := Go.WideShapes.okWide_struct Try.underlying55 hv
  obtain ⟨fuel, hf⟩ := h
  obtain ⟨j, h1, h2⟩ := read_PSpan hf
  refine ⟨j, ?_, h2⟩
  have : cs = j.cells.toArray := by apply Array.toList_inj.1; exact h1
  rw [this]
def BOp.Wf (j : BOp) : Prop := (IntKind.min .i64 ≤ j.kind ∧ j.kind ≤ IntKind.max .i64) ∧ j.name.size ≤ maxLen ∧ j.sp.Wf
set_option maxRecDepth 100000 in
theorem read_BOp {H : Type} {enc : TypeId × Value → H} {w : World} {base : Nat} {spare : Nat → Bool} {held : Bool} {fuel : Nat} {cs : List Value} {x : DataW H × List MemPlace} (h : DataW.trod enc Try.prog w base spare held fuel 165 cs = some x) : ∃ j : BOp, cs = j.cells ∧ j.Wf := by
  obtain ⟨hlen, n, hf⟩ := read_struct Try.underlying165 h
  rw [cells165] at hlen
  obtain ⟨a0, e0, l0, u0⟩ := read_int Try.underlying3 cells3 (hf 0 _ rfl)
  obtain ⟨a1, e1, l1⟩ := read_str Try.underlying9 cells9 (hf 1 _ rfl)
  obtain ⟨y2, k2⟩ : ∃ y, DataW.trod enc Try.prog w base spare held n 55 ((cs.drop 2).take (Try.prog.cellsOf 55)) = some y := hf 2 _ rfl
  obtain ⟨a2, e2, w2⟩ := read_PSpan k2
  rw [cells55] at e2
  refine ⟨⟨a0, a1, a2⟩, ?_, ⟨⟨l0, u0⟩, l1, w2⟩⟩
  apply List.ext_getElem?
  intro i
  match i with
  | 0 => exact e0
  | 1 => exact e1
  | 2 => exact get_nest e2 0 (by decide)
  | 3 => exact get_nest e2 1 (by decide)
  | 4 => exact get_nest e2 2 (by decide)
  | i + 5 => rw [List.getElem?_eq_none (by omega), List.getElem?_eq_none (by simp)]
set_option maxRecDepth 100000 in
theorem open_BOp {H : Type} {enc : TypeId × Value → H} {w : World} {base b0 : Nat} {spare : Nat → Bool} {held : Bool} {v : Value} {d : DataW H} {p : List MemPlace} {r : Reach} (hv : Value.okWide Try.prog w r b0 165 v) (h : DataW.Trod enc Try.prog w base spare held 165 v d p) : ∃ j : BOp, v = j.v ∧ j.Wf := by
  obtain ⟨cs, rfl, _⟩ := Go.WideShapes.okWide_struct Try.underlying165 hv
  obtain ⟨fuel, hf⟩ := h
  obtain ⟨j, h1, h2⟩ := read_BOp hf
  refine ⟨j, ?_, h2⟩
  have : cs = j.cells.toArray := by apply Array.toList_inj.1; exact h1
  rw [this]
theorem ear_some {f : Int → Int} {long w t e : Int} (he : e = 0) (h : EarC f 0 (max 0 0) long w t e) : ¬ (long < 1 ∨ 1048576 < long ∨ w < 1 ∨ 64 < w) ∧ FirstOk f 0 long w (some t) := by
  cases h with
  | arg => omega
  | some h1 h2 => exact ⟨h1, h2⟩
  | none => omega
theorem fits_ok {B B' : List BEnt} {n long w t r : Int} (hI : BkI B n) (h1 : ¬ (long < 1 ∨ 1048576 < long ∨ w < 1 ∨ 64 < w)) (h2 : FirstOk (fun t => n - atB B t) 0 long w (some t)) (hl : B.length ≤ 60) (hA : AddB (gonL ⟨#[33]⟩ 0 false B) n ⟨⟨#[33]⟩, ⟨t, t + long, w⟩⟩ r B') : r = 0 := by
  have ht := h2.1
  have ht2 := h2.2.1
  have hf := h2.2.2.1
  have hb : bR ⟨⟨#[33]⟩, ⟨t, t + long, w⟩⟩ := ⟨by show 1 ≤ ByteArray.size ⟨#[33]⟩; decide, by show ByteArray.size ⟨#[33]⟩ ≤ 32; decide, ht, by show t < t + long; omega, by show t + long ≤ _; omega, by show 1 ≤ w; omega, by show w ≤ 64; omega⟩
  have hgl := gonL_len (nm := ⟨#[33]⟩) (now := 0) (ended := false) (B := B)
  refine (hA.uniq (.ok hb (fun x hx => ?_) (by omega) ((room_iff hI.gon.ok (by show t < t + long; omega)).2 fun u q1 q2 => ?_))).1
  · have := (List.mem_filter.1 hx).2
    unfold gonP at this
    simpa using this
  · have h3 : w ≤ n - atB B u := hf u q1 q2
    have h4 := atB_gon (nm := ⟨#[33]⟩) (now := 0) (ended := false) (t := u) hI.ok
    show atB (gonL ⟨#[33]⟩ 0 false B) u + w ≤ n
    omega

section
variable {W0 : World}
set_option maxRecDepth 100000 in
set_option maxHeartbeats 400000 in
theorem bookFits_bad (n : Int) (sa : Option Addr) (scap : Nat) (script : List BOp) (hs0 : ∀ G, SlV W0 G 5 BOp.cells sa scap script) (long w : Int) (hn : ¬ (1 ≤ n ∧ n ≤ 64)) : AC Try.prog W0 18 [.int .i64 n, .slice sa script.length scap, .int .i64 long, .int .i64 w] [] (fun v _ => v = .bool true) := by
  refine ac_of Try.func18 rfl rfl rfl ?_
  refine aw_seq_region ?_
  refine sr_as ?_
  refine sr_nil ?_
  refine aw_kp [0, 1, 2, 3, 8] ?_
  refine aw_seq_region ?_
  refine sr_mv ?_
  refine sr_mv ?_
  refine sr_d rfl (wtd_none rfl) rfl (opS_call rfl rfl rfl rfl cl78 (bmadeN_s n sa scap script hs0 _ hn)) ?_
  rintro _ H9 ⟨rfl, rfl⟩
  refine sr_mv ?_
  refine sr_rd (x_extract rfl rfl) ?_
  refine sr_rd (x_extract rfl rfl) ?_
  refine sr_rd (x_extract rfl rfl) ?_
  refine sr_as ?_
  refine sr_as ?_
  refine sr_as ?_
  refine sr_nil ?_
  refine aw_kp [2, 3, 8, 9, 10, 11] ?_
  refine aw_seq ?_
  refine aw_seq_region ?_
  refine sr_mv ?_
  refine sr_rd (x_eqnil Try.underlying118 rfl rfl) ?_
  refine sr_mv ?_
  refine sr_skip rfl (wtd_no rfl rfl rfl rfl) rfl ?_
  refine sr_skip rfl (wtd_no rfl rfl rfl rfl) rfl ?_
  refine sr_rd (x_pick_t rfl rfl rfl) ?_
  refine sr_mv ?_
  refine sr_skip rfl (wtd_no rfl rfl rfl rfl) rfl ?_
  refine sr_skip rfl (wtd_no rfl rfl rfl rfl) rfl ?_
  refine sr_rd (x_pick_t rfl rfl rfl) ?_
  refine sr_mv ?_
  refine sr_skip rfl (wtd_no rfl rfl rfl rfl) rfl ?_
  refine sr_skip rfl (wtd_no rfl rfl rfl rfl) rfl ?_
  refine sr_skip rfl (wtd_no rfl rfl rfl rfl) rfl ?_
  refine sr_skip rfl (wtd_no rfl rfl rfl rfl) rfl ?_
  refine sr_skip rfl (wtd_no rfl rfl rfl rfl) rfl ?_
  refine sr_skip rfl (wtd_no rfl rfl rfl rfl) rfl ?_
  refine sr_rd (x_pick_t rfl rfl rfl) ?_
  refine sr_nil ?_
  refine aw_kp [2, 3, 8, 9, 38] ?_
  refine aw_true rfl ?_
  refine aw_seq_region ?_
  refine sr_d rfl (wtd_none rfl) rfl (opS_call rfl rfl rfl rfl cl79 (awake36_s _)) ?_
  rintro _ H9 ⟨rfl, rfl⟩
  refine sr_as ?_
  refine sr_nil ?_
  refine aw_kp [2, 3, 8, 9] ?_
  refine aw_ret ?_
  show ∃ v H2, ResV _ _ _ _ _ _ v ∧ Sub H2 _ ∧ _
  exact ⟨_, [], resV rfl (.cons rfl .nil), (Sub.nil _), rfl⟩
set_option maxRecDepth 100000 in
set_option maxHeartbeats 8000000 in
theorem bookFits_ok (n : Int) (sa : Option Addr) (scap : Nat) (script : List BOp) (hs0 : ∀ G, SlV W0 G 5 BOp.cells sa scap script) (long w : Int) (hn : 1 ≤ n ∧ n ≤ 64) : AC Try.prog W0 18 [.int .i64 n, .slice sa script.length scap, .int .i64 long, .int .i64 w] [] (fun v _ => v = .bool true) := by
  refine ac_of Try.func18 rfl rfl rfl ?_
  refine aw_seq_region ?_
  refine sr_as ?_
  refine sr_nil ?_
  refine aw_kp [0, 1, 2, 3, 8] ?_
  refine aw_seq_region ?_
  refine sr_mv ?_
  refine sr_mv ?_
  refine sr_d rfl (wtd_none rfl) rfl (opS_call rfl rfl rfl rfl cl78 (bmade_s n sa scap script hs0 _ hn)) ?_
  rintro _ _ ⟨bk, qk, B, a, cap, E, a2, c2, E2, rfl, hI, V, V2, rfl⟩
  have hs := V.slv' (W0 := W0) (fun _ => rfl) rfl (Sub.refl _)
  have hq := V2.slv' (W0 := W0) (fun _ => rfl) rfl (Sub.refl _)
  have hle := hs.le
  have hcb := hs.capb
  have hle2 := hq.le
  have hcb2 := hq.capb
  have hBl := hI.len
  have hml : (B.map BEnt.sp).length = B.length := List.length_map _
  refine sr_mv ?_
  refine sr_rd (x_extract rfl rfl) ?_
  refine sr_rd (x_extract rfl rfl) ?_
  refine sr_rd (x_extract rfl rfl) ?_
  refine sr_as ?_
  refine sr_as ?_
  refine sr_as ?_
  refine sr_nil ?_
  refine aw_kp [2, 3, 8, 9, 10, 11] ?_
  refine aw_seq ?_
  refine aw_seq_region ?_
  refine sr_mv ?_
  refine sr_rd (x_eqnil Try.underlying118 rfl rfl) ?_
  refine sr_mv ?_
  refine sr_ry (x_move rfl) ?_
  refine sr_ry (x_eqnil Try.underlying119 rfl rfl) ?_
  refine sr_rd (x_pick_f rfl rfl rfl) ?_
  refine sr_mv ?_
  refine sr_ry (x_move rfl) ?_
  refine sr_ry (x_not rfl) ?_
  refine sr_rd (x_pick_f rfl rfl rfl) ?_
  refine sr_mv ?_
  refine sr_ry (x_move rfl) ?_
  refine sr_ry (x_nilCheck rfl) ?_
  refine sr_ry (x_fieldAddr fd124_0 rfl) ?_
  refine sr_ry (x_load ag122 rfl (cells_ext mauto Ext.auto)) ?_
  refine sr_ry (x_lenSlice Try.underlying122 rfl) ?_
  refine sr_cmp rfl (wtd_yes rfl rfl rfl) rfl (Rd.x (x_gt rfl rfl)) (fun h1 => ?_) (fun h1 => ?_)
  · refine sr_rd (x_pick_f rfl rfl rfl) ?_
    refine sr_nil ?_
    refine aw_kp [2, 3, 8, 9, 38] ?_
    refine aw_true rfl ?_
    refine aw_seq_region ?_
    refine sr_d rfl (wtd_none rfl) rfl (opS_call rfl rfl rfl rfl cl79 (awake36_s _)) ?_
    rintro _ H9 ⟨rfl, rfl⟩
    refine sr_as ?_
    refine sr_nil ?_
    refine aw_kp [2, 3, 8, 9] ?_
    refine aw_ret ?_
    show ∃ v H2, ResV _ _ _ _ _ _ v ∧ Sub H2 _ ∧ _
    exact ⟨_, [], resV rfl (.cons rfl .nil), (Sub.nil _), rfl⟩
  · refine sr_rd (x_pick_f rfl rfl rfl) ?_
    refine sr_nil ?_
    refine aw_kp [2, 3, 8, 9, 38] ?_
    refine aw_false rfl ?_
    refine aw_skip ?_
    show AW _ _ _ _ _ _ _
    refine aw_seq_region ?_
    refine sr_mv ?_
    refine sr_mv ?_
    refine sr_mv ?_
    refine sr_d rfl (wtd_none rfl) rfl (opS_call rfl rfl rfl rfl cl80 (bwhen_s bk a cap B n _ (cells_ext mauto Ext.auto) (hs.mono Sub.autoE) hI hn 0 long w)) ?_
    rintro _ _ ⟨⟨t, e, rfl, hE⟩, rfl⟩
    refine sr_mv ?_
    refine sr_rd (x_extract rfl rfl) ?_
    refine sr_rd (x_extract rfl rfl) ?_
    refine sr_as ?_
    refine sr_as ?_
    refine sr_nil ?_
    refine aw_kp [2, 3, 8, 9, 12, 13] ?_
    refine aw_seq ?_
    refine aw_seq_region ?_
    refine sr_mv ?_
    refine sr_cmp rfl (wtd_none rfl) rfl (Rd.x (x_ne rfl rfl)) (fun h2 => ?_) (fun h2 => ?_)
    · refine sr_nil ?_
      refine aw_kp [2, 3, 8, 9, 12, 48] ?_
      refine aw_true rfl ?_
      refine aw_seq_region ?_
      refine sr_d rfl (wtd_none rfl) rfl (opS_call rfl rfl rfl rfl cl79 (awake36_s _)) ?_
      rintro _ H9 ⟨rfl, rfl⟩
      refine sr_as ?_
      refine sr_nil ?_
      refine aw_kp [2, 3, 8, 9, 12] ?_
      refine aw_ret ?_
      show ∃ v H2, ResV _ _ _ _ _ _ v ∧ Sub H2 _ ∧ _
      exact ⟨_, [], resV rfl (.cons rfl .nil), (Sub.nil _), rfl⟩
    · refine sr_nil ?_
      refine aw_kp [2, 3, 8, 9, 12, 48] ?_
      refine aw_false rfl ?_
      refine aw_skip ?_
      show AW _ _ _ _ _ _ _
      refine aw_seq_region ?_
      obtain ⟨hF1, hF2⟩ := ear_some (show e = 0 by omega) hE
      have hFt := hF2.1
      have hFt2 := hF2.2.1
      refine sr_mv ?_
      refine sr_d rfl (wtd_none rfl) rfl (opS_call rfl rfl rfl rfl cl81 (AC.sub Sub.autoP (brem_s bk a cap B n E (bpB qk (.slice a2 B.length c2) n :: (E2 ++ [])) V hI hn ⟨#[33]⟩))) ?_
      rintro _ _ ⟨r7, a7, c7, E7, rfl, -, V7, rfl⟩
      refine sr_nil ?_
      refine aw_kp [2, 3, 8, 9, 12] ?_
      refine aw_seq_region ?_
      refine sr_mv ?_
      refine sr_mv ?_
      refine sr_mv ?_
      refine sr_mv ?_
      refine sr_rd (x_add' rfl rfl (i64w (by omega) (by omega))) ?_
      refine sr_mv ?_
      refine sr_rd (x_build zr55 rfl fl55 Parts.auto Fill.auto) ?_
      refine sr_rd (x_build zr128 rfl fl128 Parts.auto Fill.auto) ?_
      refine sr_d rfl (wtd_none rfl) rfl (opS_call rfl rfl rfl rfl cl82 (AC.sub Sub.autoP (badd_s bk a7 c7 (gonL ⟨#[33]⟩ 0 false B) n E7 (bpB qk (.slice a2 B.length c2) n :: (E2 ++ [])) V7 hI.gon hn ⟨⟨#[33]⟩, ⟨t, t + long, w⟩⟩))) ?_
      rintro _ _ ⟨r8, B8, a8, c8, E8, rfl, hA, V8, rfl⟩
      obtain rfl := fits_ok hI hF1 hF2 (by omega) hA
      refine sr_cmp rfl (wtd_none rfl) rfl (Rd.x (x_eq rfl rfl)) (fun h3 => ?_) (fun h3 => absurd (by first | omega | decide) h3)
      refine sr_mv ?_
      refine sr_d rfl (wtd_yes rfl rfl rfl) rfl (opS_call rfl rfl rfl rfl cl79 (awake36_s _)) ?_
      rintro _ H9 ⟨rfl, rfl⟩
      refine sr_rd (x_pick_t rfl rfl rfl) ?_
      refine sr_as ?_
      refine sr_nil ?_
      refine aw_kp [8] ?_
      refine aw_ret ?_
      show ∃ v H2, ResV _ _ _ _ _ _ v ∧ Sub H2 _ ∧ _
      exact ⟨_, [], resV rfl (.cons rfl .nil), (Sub.nil _), rfl⟩
end
namespace BookFitsRow
open Go.ChangeShapes Go.WideShapes Go.ChangeAt Go.RowKit
theorem own : ownKnob Try.prog.godebug = none := by kernel_rfl
theorem laid : laidOutB Try.prog = true := by kernel_rfl
set_option maxRecDepth 100000 in
theorem lifted (os : Os) (started : os.Started) (H : Type) (enc : TypeId × Value → H) :
    ReturnsInHanded {} Try.checked os 18 .any (Rows.bookFitsSpec.pre6 enc Try.prog Try.f18 Rows.bookFitsRow.domain false) (Rows.bookFitsSpec.post enc Try.prog Try.f18 false true false false) := by
  refine law_lifted (C := Try.checked) (tb := 4) own started (by kernel_rfl) Try.func18 (ChangeSpec.witness6 (enc := enc) (C := Try.checked) false ⟨#[], #[.int .i64 0, .slice none 0 0, .int .i64 0, .int .i64 0], []⟩ 8 (by kernel_rfl) (by kernel_rfl) (by kernel_rfl) (by kernel_rfl)) rfl Try.underlying4 rfl laid (by kernel_rfl) ?_ ?_
  · intro ds h
    match ds, h with
    | [a0, a1, a2, a3], _ => rfl
  · intro W base args ds ps hval hA hlt hsz
    have hA' : DataW.TrodAll enc Try.prog W 0 (fun _ => true) true [3, 117, 2, 3] args ds ps := hA
    clear hA
    obtain ⟨v0, vs0, d0, ds0, p0, q0, rfl, rfl, rfl, h0, r0⟩ := trodAll_cons hA'
    obtain ⟨v1, vs1, d1, ds1, p1, q1, rfl, rfl, rfl, h1, r1⟩ := trodAll_cons r0
    obtain ⟨v2, vs2, d2, ds2, p2, q2, rfl, rfl, rfl, h2, r2⟩ := trodAll_cons r1
    obtain ⟨v3, vs3, d3, ds3, p3, q3, rfl, rfl, rfl, h3, r3⟩ := trodAll_cons r2
    obtain ⟨rfl, rfl, rfl⟩ := trodAll_nil r3
    obtain ⟨n, rfl, _⟩ := opn_int Try.underlying3 (hval 0 3 v0 rfl rfl) h0
    obtain ⟨sa, scap, script, rfl, hs, _⟩ := opn_slice (en := BOp.cells) (Ok := fun j => j.Wf) Try.underlying117 cells165 (by decide) (fun fuel cs x h => read_BOp h) (hval 1 117 v1 rfl rfl) h1
    obtain ⟨long, rfl, hw2⟩ := opn_int Try.underlying2 (hval 2 2 v2 rfl rfl) h2
    obtain ⟨w, rfl, hw3⟩ := opn_int Try.underlying3 (hval 3 3 v3 rfl rfl) h3
    by_cases hn : 1 ≤ n ∧ n ≤ 64
    · exact bookFits_ok n sa scap script hs long w hn
    · exact bookFits_bad n sa scap script hs long w hn
theorem joined : joinedFacts Try.prog 18 Try.f18 Rows.bookFitsSpec Rows.bookFitsRow = true := by
  unfold joinedFacts
  rw [cutMay, cutLif, cutMk]
  kernel_rfl
theorem over : Rows.bookFitsRow.holds Try.pinned (OpenSpec.ofChange Rows.bookFitsSpec) :=
  OpenClaim.holds_of_wide 18 Try.f18 rfl rfl rfl rfl rfl rfl rfl ⟨rfl, rfl, rfl, rfl, rfl⟩ rfl rfl rfl rfl rfl (by kernel_rfl) Try.func18 joined
    (of_decide_eq_true (by kernel_rfl)) (by unfold Func.isWrapper; first | (rw [if_pos (by decide +kernel)]; kernel_rfl) | (rw [if_neg (by decide +kernel)]; exact ⟨rfl, rfl⟩))
    (fun os started H enc _ => lifted os started H enc)
theorem proved : Rows.BookFitsSaid := over
#print axioms proved
end BookFitsRow
end Go.Proofs.Ytjkojdjjooangaa
