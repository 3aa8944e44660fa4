/- What is left at any time, when so many nodes could be booked, and which entry is next, are what the document's profile and the law's own loop tell; no condition. -/
import Derived.Test.YtjkojdjjooangaaRfb
import Derived.Test.YtjkojdjjooangaaCut
import Derived.Test.YtjkojdjjooangaaRows
namespace Go.Proofs.Ytjkojdjjooangaa
open Go.Proofs.Ytjkojdjjooangaa.Sym
open Go.RowKit (Below)
set_option linter.unusedVariables false
set_option linter.unusedSimpArgs false
theorem cells165 : Try.prog.cellsOf 165 = 5 := by kernel_rfl
theorem cells2 : Try.prog.cellsOf 2 = 1 := by kernel_rfl
theorem cells3 : Try.prog.cellsOf 3 = 1 := by kernel_rfl
theorem cells55 : Try.prog.cellsOf 55 = 3 := by kernel_rfl
theorem cells9 : Try.prog.cellsOf 9 = 1 := by kernel_rfl
theorem cl25 : Callable Try.prog 25 := ⟨Try.f25, Try.func25, by kernel_rfl, by kernel_rfl⟩
theorem cl32 : Callable Try.prog 32 := ⟨Try.f32, Try.func32, by kernel_rfl, by kernel_rfl⟩
theorem cl78 : Callable Try.prog 78 := ⟨Try.f78, Try.func78, by kernel_rfl, by kernel_rfl⟩
theorem cl79 : Callable Try.prog 79 := ⟨Try.f79, Try.func79, by kernel_rfl, by kernel_rfl⟩
theorem cl86 : Callable Try.prog 86 := ⟨Try.f86, Try.func86, by kernel_rfl, by kernel_rfl⟩
theorem cl88 : Callable Try.prog 88 := ⟨Try.f88, Try.func88, by kernel_rfl, by kernel_rfl⟩
theorem fl36 : flds Try.prog 36 = some [(0, 1), (1, 1), (2, 1), (3, 1)] := by kernel_rfl
theorem kn128 : kindsOfN Try.prog 100 128 = some [.str, .int, .int, .int] := by kernel_rfl
theorem ks76 : kindsOf Try.prog 76 = some [.int, .int] := by kernel_rfl
theorem zr36 : zeroOf Try.prog 36 = some (.agg #[.int .i64 0, .int .i64 0, .slice none 0 0, .int .i64 0]) := by kernel_rfl
def Sym.PSpan.Wf (j : PSpan) : Prop := (IntKind.min .i64 ≤ j.from_ ∧ j.from_ ≤ IntKind.max .i64) ∧ (IntKind.min .i64 ≤ j.to_ ∧ j.to_ ≤ IntKind.max .i64) ∧ (IntKind.min .i64 ≤ j.width ∧ j.width ≤ IntKind.max .i64)
set_option maxRecDepth 100000 in
theorem read_PSpan {H : Type} {enc : TypeId × Value → H} {w : World} {base : Nat} {spare : Nat → Bool} {held : Bool} {fuel : Nat} {cs : List Value} {x : DataW H × List MemPlace} (h : DataW.trod enc Try.prog w base spare held fuel 55 cs = some x) : ∃ j : PSpan, cs = j.cells ∧ j.Wf := by
  obtain ⟨hlen, n, hf⟩ := read_struct Try.underlying55 h
  rw [cells55] at hlen
  obtain ⟨a0, e0, l0, u0⟩ := read_int Try.underlying2 cells2 (hf 0 _ rfl)
  obtain ⟨a1, e1, l1, u1⟩ := read_int Try.underlying2 cells2 (hf 1 _ rfl)
  obtain ⟨a2, e2, l2, u2⟩ := read_int Try.underlying3 cells3 (hf 2 _ rfl)
  refine ⟨⟨a0, a1, a2⟩, ?_, ⟨⟨l0, u0⟩, ⟨l1, u1⟩, ⟨l2, u2⟩⟩⟩
  apply List.ext_getElem?
  intro i
  match i with
  | 0 => exact e0
  | 1 => exact e1
  | 2 => exact e2
  | i + 3 => rw [List.getElem?_eq_none (by omega), List.getElem?_eq_none (by simp)]
set_option maxRecDepth 100000 in
theorem open_PSpan {H : Type} {enc : TypeId × Value → H} {w : World} {base b0 : Nat} {spare : Nat → Bool} {held : Bool} {v : Value} {d : DataW H} {p : List MemPlace} {r : Reach} (hv : Value.okWide Try.prog w r b0 55 v) (h : DataW.Trod enc Try.prog w base spare held 55 v d p) : ∃ j : PSpan, v = j.v ∧ j.Wf := by
  obtain ⟨cs, rfl, _⟩ := Go.WideShapes.okWide_struct Try.underlying55 hv
  obtain ⟨fuel, hf⟩ := h
  obtain ⟨j, h1, h2⟩ := read_PSpan hf
  refine ⟨j, ?_, h2⟩
  have : cs = j.cells.toArray := by apply Array.toList_inj.1; exact h1
  rw [this]
def BOp.Wf (j : BOp) : Prop := (IntKind.min .i64 ≤ j.kind ∧ j.kind ≤ IntKind.max .i64) ∧ j.name.size ≤ maxLen ∧ j.sp.Wf
set_option maxRecDepth 100000 in
theorem read_BOp {H : Type} {enc : TypeId × Value → H} {w : World} {base : Nat} {spare : Nat → Bool} {held : Bool} {fuel : Nat} {cs : List Value} {x : DataW H × List MemPlace} (h : DataW.trod enc Try.prog w base spare held fuel 165 cs = some x) : ∃ j : BOp, cs = j.cells ∧ j.Wf := by
  obtain ⟨hlen, n, hf⟩ := read_struct Try.underlying165 h
  rw [cells165] at hlen
  obtain ⟨a0, e0, l0, u0⟩ := read_int Try.underlying3 cells3 (hf 0 _ rfl)
  obtain ⟨a1, e1, l1⟩ := read_str Try.underlying9 cells9 (hf 1 _ rfl)
  obtain ⟨y2, k2⟩ : ∃ y, DataW.trod enc Try.prog w base spare held n 55 ((cs.drop 2).take (Try.prog.cellsOf 55)) = some y := hf 2 _ rfl
  obtain ⟨a2, e2, w2⟩ := read_PSpan k2
  rw [cells55] at e2
  refine ⟨⟨a0, a1, a2⟩, ?_, ⟨⟨l0, u0⟩, l1, w2⟩⟩
  apply List.ext_getElem?
  intro i
  match i with
  | 0 => exact e0
  | 1 => exact e1
  | 2 => exact get_nest e2 0 (by decide)
  | 3 => exact get_nest e2 1 (by decide)
  | 4 => exact get_nest e2 2 (by decide)
  | i + 5 => rw [List.getElem?_eq_none (by omega), List.getElem?_eq_none (by simp)]
set_option maxRecDepth 100000 in
theorem open_BOp {H : Type} {enc : TypeId × Value → H} {w : World} {base b0 : Nat} {spare : Nat → Bool} {held : Bool} {v : Value} {d : DataW H} {p : List MemPlace} {r : Reach} (hv : Value.okWide Try.prog w r b0 165 v) (h : DataW.Trod enc Try.prog w base spare held 165 v d p) : ∃ j : BOp, v = j.v ∧ j.Wf := by
  obtain ⟨cs, rfl, _⟩ := Go.WideShapes.okWide_struct Try.underlying165 hv
  obtain ⟨fuel, hf⟩ := h
  obtain ⟨j, h1, h2⟩ := read_BOp hf
  refine ⟨j, ?_, h2⟩
  have : cs = j.cells.toArray := by apply Array.toList_inj.1; exact h1
  rw [this]
structure BqG where
  k : Nat
  e : BEnt
  has : Bool
  b : Option Addr
  d : Nat
  EL : SHeap
def mS (e : BEnt) : PSpan := ⟨e.sp.from_, e.sp.to_, 0 - e.sp.width⟩
theorem mS_spok {e : BEnt} (h : bR e) : SpOk (mS e) := by
  unfold bR at h
  unfold SpOk mS
  dsimp only
  omega
theorem mL_spok {B : List BEnt} (hok : ∀ e ∈ B, bR e) (k : Nat) : ∀ s ∈ (B.take k).map mS, SpOk s := fun s hs => by
  obtain ⟨e, he, rfl⟩ := List.mem_map.1 hs
  exact mS_spok (hok e (List.mem_of_mem_take he))
theorem atP_mS (t : Int) : ∀ (B : List BEnt) (n : Int), (∀ e ∈ B, bR e) → atP n (B.map mS) t = n - atB B t
  | [], n, _ => by show n = n - 0; omega
  | e :: B, n, h => by
    have he := h e List.mem_cons_self
    unfold bR at he
    have e1 : atP n ((e :: B).map mS) t = atP (if spOn (mS e) t = true then n + (mS e).width else n) (B.map mS) t := rfl
    rw [e1, atP_mS t B _ fun x hx => h x (List.mem_cons_of_mem _ hx), atB_cons]
    by_cases q : e.sp.from_ ≤ t ∧ t < e.sp.to_
    · have q2 : spOn (mS e) t = true := by unfold spOn mS; simp only [Bool.and_eq_true, Bool.or_eq_true, decide_eq_true_eq]; omega
      rw [if_pos q2, if_pos q]
      show n + (0 - e.sp.width) - atB B t = _
      omega
    · have q2 : ¬ spOn (mS e) t = true := by unfold spOn mS; simp only [Bool.and_eq_true, Bool.or_eq_true, decide_eq_true_eq]; omega
      rw [if_neg q2, if_neg q]; omega
theorem atB_take_le {B : List BEnt} (hok : ∀ e ∈ B, bR e) (k : Nat) (t : Int) : 0 ≤ atB (B.take k) t ∧ atB (B.take k) t ≤ atB B t := by
  have h1 : ∀ e ∈ B.take k, bR e := fun e he => hok e (List.mem_of_mem_take he)
  rw [atB_atS h1, atB_atS hok, List.map_take]
  exact ⟨(atS_bd _ t).1, atS_take_le _ t k⟩
theorem mL_rng {B : List BEnt} {n : Int} (hI : BkI B n) (hn : 1 ≤ n ∧ n ≤ 64) (k : Nat) (t : Int) : 0 ≤ atP n ((B.take k).map mS) t ∧ atP n ((B.take k).map mS) t ≤ 64 := by
  rw [atP_mS t _ n fun e he => hI.ok e (List.mem_of_mem_take he)]
  have h1 := atB_take_le hI.ok k t
  have h2 := hI.room t
  omega
theorem mL_step {B : List BEnt} {n r : Int} {ch : Bool} {k : Nat} {x : BEnt} {L2 : List PSpan} (hI : BkI B n) (hn : 1 ≤ n ∧ n ≤ 64) (hx : B[k]? = some x) (hC : AddC (atP n ((B.take k).map mS)) 0 x.sp.from_ x.sp.to_ (0 - x.sp.width) r ch) (hL : L2 = if ch = true then (B.take k).map mS ++ [⟨max x.sp.from_ 0, x.sp.to_, 0 - x.sp.width⟩] else (B.take k).map mS) : ch = true ∧ L2 = (B.take (k + 1)).map mS := by
  have hb := hI.ok x (List.mem_of_getElem? hx)
  unfold bR at hb
  have ok : AddC (atP n ((B.take k).map mS)) 0 x.sp.from_ x.sp.to_ (0 - x.sp.width) 0 true := by
    refine .ok (by omega) (by omega) fun t q1 q2 => ?_
    have h1 := mL_rng hI hn (k + 1) t
    have h2 := mL_rng hI hn k t
    rw [atP_mS t _ n fun e he => hI.ok e (List.mem_of_mem_take he)] at h1 h2 ⊢
    rw [atB_take hx, if_pos (by omega)] at h1
    omega
  obtain ⟨-, rfl⟩ := hC.uniq ok
  refine ⟨rfl, ?_⟩
  rw [hL, if_pos rfl, takeS hx, List.map_append, Int.max_eq_left (by omega)]
  rfl

section
variable {W0 : World}
set_option maxRecDepth 100000 in
set_option maxHeartbeats 400000 in
theorem bookLeft_bad (n : Int) (sa : Option Addr) (scap : Nat) (script : List BOp) (hs0 : ∀ G, SlV W0 G 5 BOp.cells sa scap script) (at_ long w : Int) (hn : ¬ (1 ≤ n ∧ n ≤ 64)) : AC Try.prog W0 20 [.int .i64 n, .slice sa script.length scap, .int .i64 at_, .int .i64 long, .int .i64 w] [] (fun v _ => v = .bool true) := by
  refine ac_of Try.func20 rfl rfl rfl ?_
  refine aw_seq_region ?_
  refine sr_as ?_
  refine sr_nil ?_
  refine aw_kp [0, 1, 2, 3, 4, 10] ?_
  refine aw_seq_region ?_
  refine sr_mv ?_
  refine sr_mv ?_
  refine sr_d rfl (wtd_none rfl) rfl (opS_call rfl rfl rfl rfl cl78 (bmadeN_s n sa scap script hs0 _ hn)) ?_
  rintro _ H9 ⟨rfl, rfl⟩
  refine sr_mv ?_
  refine sr_rd (x_extract rfl rfl) ?_
  refine sr_rd (x_extract rfl rfl) ?_
  refine sr_rd (x_extract rfl rfl) ?_
  refine sr_as ?_
  refine sr_as ?_
  refine sr_as ?_
  refine sr_nil ?_
  refine aw_kp [0, 2, 3, 4, 10, 11, 12, 13] ?_
  refine aw_seq ?_
  refine aw_seq_region ?_
  refine sr_mv ?_
  refine sr_rd (x_eqnil Try.underlying118 rfl rfl) ?_
  refine sr_mv ?_
  refine sr_sk ?_
  refine sr_sk ?_
  refine sr_rd (x_pick_t rfl rfl rfl) ?_
  refine sr_mv ?_
  refine sr_sk ?_
  refine sr_sk ?_
  refine sr_rd (x_pick_t rfl rfl rfl) ?_
  refine sr_nil ?_
  refine aw_kp [0, 2, 3, 4, 10, 11, 12, 45] ?_
  refine aw_true rfl ?_
  refine aw_seq_region ?_
  refine sr_mv ?_
  refine sr_c (x_lt rfl rfl) (fun h1 => ?_) (fun h1 => ?_)
  · refine sr_mv ?_
    refine sr_sk ?_
    refine sr_sk ?_
    refine sr_rd (x_pick_t rfl rfl rfl) ?_
    refine sr_mv ?_
    refine sr_d rfl (wtd_yes rfl rfl rfl) rfl (opS_call rfl rfl rfl rfl cl79 (awake36_s _)) ?_
    rintro _ H9 ⟨rfl, rfl⟩
    refine sr_rd (x_pick_t rfl rfl rfl) ?_
    refine sr_as ?_
    refine sr_nil ?_
    refine aw_kp [0, 2, 3, 4, 10, 11, 12] ?_
    refine aw_ret ?_
    show ∃ v H2, ResV _ _ _ _ _ _ v ∧ Sub H2 _ ∧ _
    exact ⟨_, [], resV rfl (.cons rfl .nil), (Sub.nil _), rfl⟩
  · refine sr_mv ?_
    refine sr_ry (x_move rfl) ?_
    refine sr_cy (x_gt rfl rfl) (fun h2 => ?_) (fun h2 => absurd (by first | omega | decide) h2)
    refine sr_rd (x_pick_f rfl rfl rfl) ?_
    refine sr_mv ?_
    refine sr_d rfl (wtd_yes rfl rfl rfl) rfl (opS_call rfl rfl rfl rfl cl79 (awake36_s _)) ?_
    rintro _ H9 ⟨rfl, rfl⟩
    refine sr_rd (x_pick_t rfl rfl rfl) ?_
    refine sr_as ?_
    refine sr_nil ?_
    refine aw_kp [0, 2, 3, 4, 10, 11, 12] ?_
    refine aw_ret ?_
    show ∃ v H2, ResV _ _ _ _ _ _ v ∧ Sub H2 _ ∧ _
    exact ⟨_, [], resV rfl (.cons rfl .nil), (Sub.nil _), rfl⟩
set_option maxRecDepth 100000 in
set_option maxHeartbeats 16000000 in
theorem bookLeft_ok (n : Int) (sa : Option Addr) (scap : Nat) (script : List BOp) (hs0 : ∀ G, SlV W0 G 5 BOp.cells sa scap script) (at_ long w : Int) (hn : 1 ≤ n ∧ n ≤ 64) : AC Try.prog W0 20 [.int .i64 n, .slice sa script.length scap, .int .i64 at_, .int .i64 long, .int .i64 w] [] (fun v _ => v = .bool true) := by
  refine ac_of Try.func20 rfl rfl rfl ?_
  refine aw_seq_region ?_
  refine sr_as ?_
  refine sr_nil ?_
  refine aw_kp [0, 1, 2, 3, 4, 10] ?_
  refine aw_seq_region ?_
  refine sr_mv ?_
  refine sr_mv ?_
  refine sr_d rfl (wtd_none rfl) rfl (opS_call rfl rfl rfl rfl cl78 (bmade_s n sa scap script hs0 _ hn)) ?_
  rintro _ _ ⟨bk, qk, B, a, cap, E, a2, c2, E2, rfl, hI, V, V2, rfl⟩
  have hs := V.slv' (W0 := W0) (fun _ => rfl) rfl (Sub.refl _)
  have hq := V2.slv' (W0 := W0) (fun _ => rfl) rfl (Sub.refl _)
  have hle := hs.le
  have hcb := hs.capb
  have hle2 := hq.le
  have hcb2 := hq.capb
  have hBl := hI.len
  refine sr_mv ?_
  refine sr_rd (x_extract rfl rfl) ?_
  refine sr_rd (x_extract rfl rfl) ?_
  refine sr_rd (x_extract rfl rfl) ?_
  refine sr_as ?_
  refine sr_as ?_
  refine sr_as ?_
  refine sr_nil ?_
  refine aw_kp [0, 2, 3, 4, 10, 11, 12, 13] ?_
  refine aw_seq ?_
  refine aw_seq_region ?_
  refine sr_mv ?_
  refine sr_rd (x_eqnil Try.underlying118 rfl rfl) ?_
  refine sr_mv ?_
  refine sr_ry (x_move rfl) ?_
  refine sr_ry (x_eqnil Try.underlying119 rfl rfl) ?_
  refine sr_rd (x_pick_f rfl rfl rfl) ?_
  refine sr_mv ?_
  refine sr_ry (x_move rfl) ?_
  refine sr_ry (x_not rfl) ?_
  refine sr_rd (x_pick_f rfl rfl rfl) ?_
  refine sr_nil ?_
  refine aw_kp [0, 2, 3, 4, 10, 11, 12, 45] ?_
  refine aw_false rfl ?_
  refine aw_skip ?_
  show AW _ _ _ _ _ _ _
  refine aw_seq_region ?_
  refine sr_mv ?_
  refine sr_rd (x_build zr36 rfl fl36 Parts.auto Fill.auto) ?_
  refine sr_new rfl (wtd_none rfl) rfl (x_box rfl rfl) ?_
  intro r4_2 hr4_2 gr4_2
  refine sr_as ?_
  refine sr_nil ?_
  refine aw_kp [2, 3, 4, 10, 11, 12, 14] ?_
  refine aw_seq_region ?_
  refine sr_rd (x_build zr128 rfl fl128 Parts.auto Fill.auto) ?_
  refine sr_new rfl (wtd_none rfl) rfl (x_alloc zr128 rfl) ?_
  intro r5_1 hr5_1 gr5_1
  refine sr_x0 rfl (wtd_none rfl) (x_store sz128 rfl rfl rfl rfl rfl Repl.auto Spl.auto) ?_
  refine sr_nil ?_
  refine aw_kp [2, 3, 4, 10, 11, 12, 14, 15] ?_
  refine aw_seq_region ?_
  refine sr_as ?_
  refine sr_nil ?_
  refine aw_kp [2, 3, 4, 10, 11, 12, 14, 15, 16] ?_
  refine aw_seq ?_
  refine aw_seq_region ?_
  refine sr_as ?_
  refine sr_nil ?_
  refine aw_kp [2, 3, 4, 10, 11, 12, 14, 15, 16, 17] ?_
  refine aw_block ?_
  refine aw_loop (ι := BqG) (fun s => s.k ≤ B.length ∧ (s.e, s.has) = nxF at_ (B.take s.k) ∧ OwnVec 3 55 (.slice s.b ((B.take s.k).map mS).length s.d) ((B.take s.k).map mS).length (((B.take s.k).map mS).flatMap PSpan.cells) s.EL) (fun s => [(2, .int .i64 at_), (3, .int .i64 long), (4, .int .i64 w), (10, .bool false), (11, .pointer (some ⟨bk, 0, none⟩)), (12, .pointer (some ⟨qk, 0, none⟩)), (14, .pointer (some ⟨r4_2, 0, none⟩)), (15, .pointer (some ⟨r5_1, 0, none⟩)), (16, .bool s.has), (17, .int .i64 s.k)]) (fun s => (r5_1, .cells (BEnt.cells s.e).toArray 128 (0, 0)) :: (plB r4_2 n 0 (.slice s.b ((B.take s.k).map mS).length s.d) (s.k : Int) :: (s.EL ++ (bkB bk (.slice a B.length cap) n :: (E ++ (bpB qk (.slice a2 B.length c2) n :: (E2 ++ []))))))) (fun s => B.length - s.k) ⟨0, ⟨.empty, ⟨0, 0, 0⟩⟩, false, none, 0, []⟩ (⟨Nat.zero_le _, rfl, .nil⟩) KeepF.auto Sub.autoP ?_
  intro s9 hs9
  obtain ⟨k, e, has, b, d, EL⟩ := s9
  dsimp only at hs9 ⊢
  obtain ⟨hk, hnx, VL⟩ := hs9
  cases has
  · refine aw_seq ?_
    refine aw_seq_region ?_
    refine sr_mv ?_
    refine sr_mv ?_
    refine sr_rd (x_nilCheck rfl) ?_
    refine sr_rd (x_fieldAddr fd124_0 rfl) ?_
    refine sr_rd (x_load ag122 rfl (cells_ext mauto Ext.auto)) ?_
    refine sr_rd (x_lenSlice Try.underlying122 rfl) ?_
    refine sr_c (x_lt rfl rfl) (fun h1 => ?_) (fun h1 => ?_)
    · refine sr_nil ?_
      refine aw_kp [2, 3, 4, 10, 11, 12, 14, 15, 16, 17, 59, 60, 61, 62, 63, 64, 65] ?_
      refine aw_true rfl ?_
      refine aw_skip ?_
      show AW _ _ _ _ _ _ _
      refine aw_seq ?_
      refine aw_block ?_
      refine aw_seq_region ?_
      obtain ⟨x, hx⟩ := get_ex (show k < B.length by omega)
      obtain ⟨bx, ox, hax, hcx⟩ := hq.at_ _ _ hx
      have hxo := hI.ok x (List.mem_of_getElem? hx)
      unfold bR at hxo
      refine sr_mv ?_
      refine sr_rd (x_nilCheck rfl) ?_
      refine sr_rd (x_fieldAddr fd124_0 rfl) ?_
      refine sr_rd (x_load ag122 rfl (cells_ext mauto Ext.auto)) ?_
      refine sr_mv ?_
      refine sr_rd (x_indexAddrN (k) Try.underlying122 sz128 rfl hax rfl (by omega) (by omega)) ?_
      refine sr_rd (x_loadN ag128 sz128 rfl (Cells.mono hcx Sub.autoE) rfl) ?_
      refine sr_new rfl (wtd_none rfl) rfl (x_alloc zr128 rfl) ?_
      intro r10_7 hr10_7 gr10_7
      refine sr_x0 rfl (wtd_none rfl) (x_store sz128 rfl rfl rfl rfl rfl Repl.auto Spl.auto) ?_
      refine sr_nil ?_
      refine aw_kp [2, 3, 4, 10, 11, 12, 14, 15, 16, 17, 18, 59, 60, 61, 62, 63, 64, 65, 68, 69, 70, 71, 72, 73, 74] ?_
      refine aw_seq_region ?_
      refine sr_mv ?_
      refine sr_rd (x_fieldAddr fd128_1 rfl) ?_
      refine sr_rd (x_fieldAddr fd55_0 rfl) ?_
      refine sr_rd (x_load ag2 rfl (cells_ext mauto Ext.auto)) ?_
      refine sr_rd (x_fieldAddr fd128_1 rfl) ?_
      refine sr_rd (x_fieldAddr fd55_1 rfl) ?_
      refine sr_rd (x_load ag2 rfl (cells_ext mauto Ext.auto)) ?_
      refine sr_rd (x_fieldAddr fd128_1 rfl) ?_
      refine sr_rd (x_fieldAddr fd55_2 rfl) ?_
      refine sr_rd (x_load ag3 rfl (cells_ext mauto Ext.auto)) ?_
      refine sr_rd (x_neg' rfl (i64w (by omega) (by omega))) ?_
      refine sr_d rfl (wtd_none rfl) rfl (opS_call rfl rfl rfl rfl cl86 (AC.sub Sub.autoP (qadd_s r4_2 n 0 b d ((B.take k).map mS) (k : Int) EL ((r10_7, .cells (BEnt.cells x).toArray 128 (0, 0)) :: ((r5_1, .cells (BEnt.cells e).toArray 128 (0, 0)) :: (bkB bk (.slice a B.length cap) n :: (E ++ (bpB qk (.slice a2 B.length c2) n :: (E2 ++ [])))))) VL (mL_spok hI.ok k) (by omega) (by rw [List.length_map, List.length_take]; omega) (by decide) (fun t _ => mL_rng hI hn k t) (by omega) x.sp.from_ x.sp.to_ (0 - x.sp.width)))) ?_
      rintro _ _ ⟨e2, ch2, L2, b3, d3, EL3, rfl, hC2, hL2, VL3, rfl⟩
      obtain ⟨rfl, rfl⟩ := mL_step hI hn hx hC2 hL2
      rw [if_pos rfl, show (k : Int) + 1 = ((k + 1 : Nat) : Int) by omega]
      refine sr_nil ?_
      refine aw_kp [2, 3, 4, 10, 11, 12, 14, 15, 16, 17, 18, 59, 60, 61, 62, 63, 64, 65, 68, 69, 70, 71, 72, 73, 74, 75, 76, 77, 78, 79, 80, 81, 82, 83, 84, 85] ?_
      refine aw_seq_region ?_
      refine sr_rd (x_fieldAddr fd128_1 rfl) ?_
      refine sr_rd (x_fieldAddr fd55_0 rfl) ?_
      refine sr_rd (x_load ag2 rfl (cells_ext mauto Ext.auto)) ?_
      refine sr_mv ?_
      refine sr_c (x_ge rfl rfl) (fun h2 => ?_) (fun h2 => ?_)
      · refine sr_mv ?_
        refine sr_ry (x_move rfl) ?_
        refine sr_ry (x_not rfl) ?_
        refine sr_ry (x_move rfl) ?_
        refine sr_sk ?_
        refine sr_sk ?_
        refine sr_sk ?_
        refine sr_sk ?_
        refine sr_sk ?_
        refine sr_sk ?_
        refine sr_sk ?_
        refine sr_ry (x_pick_t rfl rfl rfl) ?_
        refine sr_rd (x_pick_t rfl rfl rfl) ?_
        refine sr_nil ?_
        refine aw_kp [2, 3, 4, 10, 11, 12, 14, 15, 16, 17, 18, 59, 60, 61, 62, 63, 64, 65, 68, 69, 70, 71, 72, 73, 74, 75, 76, 77, 78, 79, 80, 81, 82, 83, 84, 85, 87, 88, 89, 90, 91, 92, 93, 94, 95, 96, 97, 98, 99, 100, 101, 102, 103, 104] ?_
        refine aw_true rfl ?_
        refine aw_seq_region ?_
        refine sr_rd (x_loadN ag128 sz128 rfl (cells_ext mauto Ext.auto) rfl) ?_
        refine sr_x0 rfl (wtd_none rfl) (x_store sz128 rfl rfl rfl rfl rfl Repl.auto Spl.auto) ?_
        refine sr_nil ?_
        refine aw_kp [2, 3, 4, 10, 11, 12, 14, 15, 16, 17, 18, 59, 60, 61, 62, 63, 64, 65, 68, 69, 70, 71, 72, 73, 74, 75, 76, 77, 78, 79, 80, 81, 82, 83, 84, 85, 87, 88, 89, 90, 91, 92, 93, 94, 95, 96, 97, 98, 99, 100, 101, 102, 103, 104, 105] ?_
        refine aw_region ?_
        refine sr_as ?_
        refine sr_nil ?_
        show AW _ _ _ _ _ _ _
        refine aw_region ?_
        refine sr_mv ?_
        refine sr_rd (x_add' rfl rfl (i64w (by omega) (by omega))) ?_
        refine sr_as ?_
        refine sr_nil ?_
        show ∃ s', _ ∧ _ ∧ _ ∧ _
        first | exact ⟨⟨k + 1, x, true, b3, d3, EL3⟩, ⟨by dsimp only; omega, (by rw [nxF_take hx, ← hnx]; dsimp only; first | (rw [if_pos (by simp; omega)]; done) | (rw [if_neg (by simp; omega)]; done) | fail), VL3⟩, by dsimp only; omega, KeepF.auto, Sub.autoD⟩ | exact ⟨⟨k + 1, e, true, b3, d3, EL3⟩, ⟨by dsimp only; omega, (by rw [nxF_take hx, ← hnx]; dsimp only; first | (rw [if_pos (by simp; omega)]; done) | (rw [if_neg (by simp; omega)]; done) | fail), VL3⟩, by dsimp only; omega, KeepF.auto, Sub.autoD⟩ | exact ⟨⟨k + 1, e, false, b3, d3, EL3⟩, ⟨by dsimp only; omega, (by rw [nxF_take hx, ← hnx]; dsimp only; first | (rw [if_pos (by simp; omega)]; done) | (rw [if_neg (by simp; omega)]; done) | fail), VL3⟩, by dsimp only; omega, KeepF.auto, Sub.autoD⟩
      · refine sr_mv ?_
        refine sr_sk ?_
        refine sr_sk ?_
        refine sr_sk ?_
        refine sr_skip rfl (wtd_un rfl rfl rfl) rfl ?_
        refine sr_skip rfl (wtd_un rfl rfl rfl) rfl ?_
        refine sr_skip rfl (wtd_un rfl rfl rfl) rfl ?_
        refine sr_skip rfl (wtd_un rfl rfl rfl) rfl ?_
        refine sr_skip rfl (wtd_un rfl rfl rfl) rfl ?_
        refine sr_skip rfl (wtd_un rfl rfl rfl) rfl ?_
        refine sr_skip rfl (wtd_un rfl rfl rfl) rfl ?_
        refine sr_sk ?_
        refine sr_rd (x_pick_f rfl rfl rfl) ?_
        refine sr_nil ?_
        refine aw_kp [2, 3, 4, 10, 11, 12, 14, 15, 16, 17, 18, 59, 60, 61, 62, 63, 64, 65, 68, 69, 70, 71, 72, 73, 74, 75, 76, 77, 78, 79, 80, 81, 82, 83, 84, 85, 87, 88, 89, 90, 91, 92, 93, 94, 95, 96, 97, 98, 99, 100, 101, 102, 103, 104] ?_
        refine aw_false rfl ?_
        refine aw_skip ?_
        show AW _ _ _ _ _ _ _
        refine aw_region ?_
        refine sr_mv ?_
        refine sr_rd (x_add' rfl rfl (i64w (by omega) (by omega))) ?_
        refine sr_as ?_
        refine sr_nil ?_
        show ∃ s', _ ∧ _ ∧ _ ∧ _
        first | exact ⟨⟨k + 1, x, true, b3, d3, EL3⟩, ⟨by dsimp only; omega, (by rw [nxF_take hx, ← hnx]; dsimp only; first | (rw [if_pos (by simp; omega)]; done) | (rw [if_neg (by simp; omega)]; done) | fail), VL3⟩, by dsimp only; omega, KeepF.auto, Sub.autoD⟩ | exact ⟨⟨k + 1, e, true, b3, d3, EL3⟩, ⟨by dsimp only; omega, (by rw [nxF_take hx, ← hnx]; dsimp only; first | (rw [if_pos (by simp; omega)]; done) | (rw [if_neg (by simp; omega)]; done) | fail), VL3⟩, by dsimp only; omega, KeepF.auto, Sub.autoD⟩ | exact ⟨⟨k + 1, e, false, b3, d3, EL3⟩, ⟨by dsimp only; omega, (by rw [nxF_take hx, ← hnx]; dsimp only; first | (rw [if_pos (by simp; omega)]; done) | (rw [if_neg (by simp; omega)]; done) | fail), VL3⟩, by dsimp only; omega, KeepF.auto, Sub.autoD⟩
    · refine sr_nil ?_
      refine aw_kp [2, 3, 4, 10, 11, 12, 14, 15, 16, 17, 59, 60, 61, 62, 63, 64, 65] ?_
      refine aw_false rfl ?_
      refine aw_exit ?_
      show AW _ _ _ _ _ _ _
      refine aw_seq_region ?_
      rw [List.take_of_length_le (by omega)] at hnx
      (obtain rfl : k = B.length := (by omega))
      rw [List.take_of_length_le (Nat.le_refl _)] at VL ⊢
      have hsL := VL.slv' (W0 := W0) (fun _ => rfl) rfl (Sub.refl _)
      have hLok := fun s hs => mL_spok hI.ok B.length s (by rw [List.take_of_length_le (Nat.le_refl _)]; exact hs)
      have hfun : (fun t => n - atB B t) = atP n (B.map mS) := funext fun t => (atP_mS t B n hI.ok).symm
      refine sr_mv ?_
      refine sr_d rfl (wtd_none rfl) rfl (opS_call rfl rfl rfl rfl cl87 (bleft_s bk a cap B n _ (cells_ext mauto Ext.auto) (hs.mono Sub.autoE) hI hn)) ?_
      rintro _ _ ⟨p, S, ver, a3, c3, E3, rfl, hR, hSl, hver, V3, rfl⟩
      have hsS := V3.slv' (W0 := W0) (fun _ => rfl) rfl (Sub.refl _)
      have hps : 0 < S.length := by (obtain ⟨s0, hs0, _⟩ := hR.head); exact get_lt hs0
      refine sr_d rfl (wtd_none rfl) rfl (opS_call rfl rfl rfl rfl cl31 (psteps_s p a3 c3 S ver _ (cells_ext mauto Ext.auto) (hsS.mono Sub.autoE) hps (by omega))) ?_
      rintro _ _ ⟨EC, ⟨aC, cC, VC, rfl⟩, rfl⟩
      have hsC := VC.slv' (W0 := W0) (fun _ => rfl) rfl (Sub.refl _)
      have hsCl := hsC.le
      have hsCc := hsC.capb
      refine sr_as ?_
      refine sr_nil ?_
      refine aw_kp [2, 3, 4, 10, 11, 14, 15, 16, 19] ?_
      refine aw_seq_region ?_
      refine sr_mv ?_
      refine sr_d rfl (wtd_none rfl) rfl (opS_call rfl rfl rfl rfl cl32 (qsteps_s r4_2 n 0 b d (B.map mS) (B.length : Int) _ (cells_ext mauto Ext.auto) (hsL.mono Sub.autoE) hLok (by omega) (by rw [List.length_map]; omega) (by decide) S (hfun ▸ hR))) ?_
      rintro _ _ ⟨ED, ⟨aD, cD, VD, rfl⟩, rfl⟩
      have hsD := VD.slv' (W0 := W0) (fun _ => rfl) rfl (Sub.refl _)
      have hsDl := hsD.le
      have hsDc := hsD.capb
      refine sr_as ?_
      refine sr_nil ?_
      refine aw_kp [2, 3, 4, 10, 11, 14, 15, 16, 19, 20] ?_
      refine aw_seq ?_
      refine aw_seq_region ?_
      refine sr_mv ?_
      refine sr_rd (x_lenSlice Try.underlying43 rfl) ?_
      refine sr_mv ?_
      refine sr_rd (x_lenSlice Try.underlying43 rfl) ?_
      refine sr_c (x_ne rfl rfl) (fun h3 => absurd h3 (by first | omega | decide)) (fun h3 => ?_)
      refine sr_nil ?_
      refine aw_kp [2, 3, 4, 10, 11, 14, 15, 16, 19, 20, 115] ?_
      refine aw_false rfl ?_
      refine aw_skip ?_
      show AW _ _ _ _ _ _ _
      refine aw_seq ?_
      refine aw_seq_region ?_
      refine sr_as ?_
      refine sr_nil ?_
      refine aw_kp [2, 3, 4, 10, 11, 14, 15, 16, 19, 20, 21] ?_
      refine aw_block ?_
      refine aw_loop (ι := Nat) (fun i => i ≤ S.length) (fun i => [(2, .int .i64 at_), (3, .int .i64 long), (4, .int .i64 w), (10, .bool false), (11, .pointer (some ⟨bk, 0, none⟩)), (14, .pointer (some ⟨r4_2, 0, none⟩)), (15, .pointer (some ⟨r5_1, 0, none⟩)), (16, .bool false), (19, .slice aC S.length cC), (20, .slice aD S.length cD), (21, .int .i64 i)]) (fun _ => ED ++ (EC ++ ((r5_1, .cells (BEnt.cells e).toArray 128 (0, 0)) :: (plB r4_2 n 0 (.slice b (B.map mS).length d) (B.length : Int) :: (EL ++ (bkB bk (.slice a B.length cap) n :: (E ++ (bpB qk (.slice a2 B.length c2) n :: (E2 ++ []))))))))) (fun i => S.length - i) 0 (Nat.zero_le _) KeepF.auto Sub.autoP ?_
      intro i hi
      refine aw_seq ?_
      refine aw_seq_region ?_
      refine sr_mv ?_
      refine sr_mv ?_
      refine sr_rd (x_lenSlice Try.underlying43 rfl) ?_
      refine sr_c (x_lt rfl rfl) (fun h4 => ?_) (fun h4 => ?_)
      · refine sr_nil ?_
        refine aw_kp [2, 3, 4, 10, 11, 14, 15, 16, 19, 20, 21, 116, 117, 118, 119] ?_
        refine aw_true rfl ?_
        refine aw_skip ?_
        show AW _ _ _ _ _ _ _
        refine aw_seq ?_
        refine aw_block ?_
        refine aw_seq_dr ⟨_, 9, 177, [[], [], [0, 1], [0, 1, 2], [], [], [4, 5], [4, 5, 6], [0, 1, 2, 3, 4, 5, 6, 7]], [.light, .light, .light, .mem, .light, .light, .light, .mem, .light]⟩ (by kernel_rfl) rfl rfl mix ?_
        obtain ⟨y, hy⟩ := get_ex (show i < S.length by omega)
        obtain ⟨bC, oC, haC, hcC⟩ := hsC.at_ _ _ hy
        obtain ⟨bD, oD, haD, hcD⟩ := hsD.at_ _ _ hy
        refine dr_l (x_move rfl) ?_
        refine dr_l (x_move rfl) ?_
        refine dr_l (x_indexAddrN (i) Try.underlying43 sz76 rfl haC rfl (by omega) (by omega)) ?_
        refine dr_mem0 rfl rfl (wtd_none rfl) (x_loadN ag76 sz76 rfl (Cells.mono hcC Sub.autoE) rfl) ?_
        refine dr_l (x_move rfl) ?_
        refine dr_l (x_move rfl) ?_
        refine dr_l (x_indexAddrN (i) Try.underlying43 sz76 rfl haD rfl (by omega) (by omega)) ?_
        refine dr_mem0 rfl rfl (wtd_none rfl) (x_loadN ag76 sz76 rfl (Cells.mono hcD Sub.autoE) rfl) ?_
        refine dr_cmp rfl rfl (wtd_none rfl) (x_neStruct Try.underlying76 ks76 rfl rfl rfl rfl rfl) (fun h5 => absurd h5 (by simp [eqC, sEq])) (fun h5 => ?_)
        refine dr_nil0 ?_
        refine aw_kp [2, 3, 4, 10, 11, 14, 15, 16, 19, 20, 21, 116, 117, 118, 119, 122, 123, 124, 125, 126, 127, 128, 129, 130] ?_
        refine aw_false rfl ?_
        refine aw_skip ?_
        show AW _ _ _ _ _ _ _
        refine aw_region ?_
        refine sr_mv ?_
        refine sr_rd (x_add' rfl rfl (i64w (by omega) (by omega))) ?_
        refine sr_as ?_
        refine sr_nil ?_
        show ∃ s', _ ∧ _ ∧ _ ∧ _
        exact ⟨i + 1, by omega, by omega, KeepF.auto, Sub.autoP⟩
      · refine sr_nil ?_
        refine aw_kp [2, 3, 4, 10, 11, 14, 15, 16, 19, 20, 21, 116, 117, 118, 119] ?_
        refine aw_false rfl ?_
        refine aw_exit ?_
        show AW _ _ _ _ _ _ _
        refine aw_seq_region ?_
        refine sr_mv ?_
        refine sr_mv ?_
        refine sr_d rfl (wtd_none rfl) rfl (opS_call rfl rfl rfl rfl cl88 (bnext_s bk a cap B n _ (cells_ext mauto Ext.auto) (hs.mono Sub.autoE) hI hn at_)) ?_
        rintro _ H9 ⟨rfl, rfl⟩
        rw [← hnx]
        dsimp only
        refine sr_mv ?_
        refine sr_rd (x_extract rfl rfl) ?_
        refine sr_rd (x_extract rfl rfl) ?_
        refine sr_new rfl (wtd_none rfl) rfl (x_alloc zr128 rfl) ?_
        intro r24_6 hr24_6 gr24_6
        refine sr_x0 rfl (wtd_none rfl) (x_store sz128 rfl rfl rfl rfl rfl Repl.auto Spl.auto) ?_
        refine sr_as ?_
        refine sr_nil ?_
        refine aw_kp [2, 3, 4, 10, 11, 14, 15, 16, 22, 23] ?_
        refine aw_seq_region ?_
        refine sr_mv ?_
        refine sr_as ?_
        refine sr_nil ?_
        refine aw_kp [2, 3, 4, 10, 11, 14, 15, 16, 22, 23, 24] ?_
        refine aw_join (ι := Unit) (fun _ => True) (fun _ => [(2, .int .i64 at_), (3, .int .i64 long), (4, .int .i64 w), (10, .bool false), (11, .pointer (some ⟨bk, 0, none⟩)), (14, .pointer (some ⟨r4_2, 0, none⟩)), (15, .pointer (some ⟨r5_1, 0, none⟩)), (16, .bool false), (22, .pointer (some ⟨r24_6, 0, none⟩)), (23, .bool false), (24, .int .i64 (max at_ 0))]) (fun _ => (r24_6, .cells (BEnt.cells e).toArray 128 (0, 0)) :: (ED ++ (EC ++ ((r5_1, .cells (BEnt.cells e).toArray 128 (0, 0)) :: (plB r4_2 n 0 (.slice b (B.map mS).length d) (B.length : Int) :: (EL ++ (bkB bk (.slice a B.length cap) n :: (E ++ (bpB qk (.slice a2 B.length c2) n :: (E2 ++ [])))))))))) ?_ ?_
        · refine aw_seq_region ?_
          refine sr_mv ?_
          refine sr_c (x_lt rfl rfl) (fun h6 => ?_) (fun h6 => ?_)
          · refine sr_nil ?_
            refine aw_kp [2, 3, 4, 10, 11, 14, 15, 16, 22, 23, 24, 139] ?_
            refine aw_true rfl ?_
            refine aw_region ?_
            refine sr_as ?_
            refine sr_nil ?_
            show ∃ s', _ ∧ _ ∧ _
            exact ⟨(), trivial, (by first | (rw [Int.max_eq_left (by omega)]; exact KeepF.auto) | (rw [Int.max_eq_right (by omega)]; exact KeepF.auto)), Sub.autoP⟩
          · refine sr_nil ?_
            refine aw_kp [2, 3, 4, 10, 11, 14, 15, 16, 22, 23, 24, 139] ?_
            refine aw_false rfl ?_
            refine aw_skip ?_
            show ∃ s', _ ∧ _ ∧ _
            exact ⟨(), trivial, (by first | (rw [Int.max_eq_left (by omega)]; exact KeepF.auto) | (rw [Int.max_eq_right (by omega)]; exact KeepF.auto)), Sub.autoP⟩
        · intro _ _
          refine aw_seq_region ?_
          refine sr_mv ?_
          refine sr_mv ?_
          refine sr_mv ?_
          refine sr_mv ?_
          refine sr_d rfl (wtd_none rfl) rfl (opS_call rfl rfl rfl rfl cl80 (bwhen_s bk a cap B n _ (cells_ext mauto Ext.auto) (hs.mono Sub.autoE) hI hn at_ long w)) ?_
          rintro _ H9 ⟨⟨t, e5, rfl, hE⟩, rfl⟩
          refine sr_mv ?_
          refine sr_rd (x_extract rfl rfl) ?_
          refine sr_rd (x_extract rfl rfl) ?_
          refine sr_as ?_
          refine sr_as ?_
          refine sr_nil ?_
          refine aw_kp [3, 4, 10, 14, 15, 16, 22, 23, 24, 25, 26] ?_
          refine aw_seq_region ?_
          refine sr_mv ?_
          refine sr_mv ?_
          refine sr_mv ?_
          refine sr_mv ?_
          refine sr_d rfl (wtd_none rfl) rfl (opS_call rfl rfl rfl rfl cl25 (qear_s r4_2 n 0 b d (B.map mS) (B.length : Int) _ (cells_ext mauto Ext.auto) (hsL.mono Sub.autoE) hLok (by omega) (by rw [List.length_map]; omega) (by decide) (max at_ 0) long w)) ?_
          rintro _ H9 ⟨⟨t2, e6, rfl, hE2⟩, rfl⟩
          rw [← hfun] at hE2
          obtain ⟨rfl, rfl⟩ := hE.uniq hE2
          refine sr_mv ?_
          refine sr_rd (x_extract rfl rfl) ?_
          refine sr_rd (x_extract rfl rfl) ?_
          refine sr_as ?_
          refine sr_as ?_
          refine sr_nil ?_
          refine aw_kp [10, 15, 16, 22, 23, 25, 26, 27, 28] ?_
          refine aw_seq_region ?_
          refine sr_rd (x_loadN ag128 sz128 rfl (cells_ext mauto Ext.auto) rfl) ?_
          refine sr_rd (x_loadN ag128 sz128 rfl (cells_ext mauto Ext.auto) rfl) ?_
          refine sr_c (x_eqStructN kn128 rfl rfl rfl rfl rfl) (fun h7 => ?_) (fun h7 => absurd (by simp [eqC, sEq]) h7)
          refine sr_mv ?_
          refine sr_ry (x_move rfl) ?_
          refine sr_ry (x_move rfl) ?_
          refine sr_ry (x_cast (u := .bool true) (x_eqb Try.underlying4 rfl rfl) (by simp)) ?_
          refine sr_rd (x_pick_t rfl rfl rfl) ?_
          refine sr_mv ?_
          refine sr_ry (x_move rfl) ?_
          refine sr_ry (x_move rfl) ?_
          refine sr_cy (x_eq rfl rfl) (fun h8 => ?_) (fun h8 => absurd (by first | omega | decide) h8)
          refine sr_rd (x_pick_t rfl rfl rfl) ?_
          refine sr_mv ?_
          refine sr_ry (x_move rfl) ?_
          refine sr_ry (x_move rfl) ?_
          refine sr_cy (x_eq rfl rfl) (fun h9 => ?_) (fun h9 => absurd (by first | omega | decide) h9)
          refine sr_rd (x_pick_t rfl rfl rfl) ?_
          refine sr_mv ?_
          refine sr_d rfl (wtd_yes rfl rfl rfl) rfl (opS_call rfl rfl rfl rfl cl79 (awake36_s _)) ?_
          rintro _ H9 ⟨rfl, rfl⟩
          refine sr_rd (x_pick_t rfl rfl rfl) ?_
          refine sr_as ?_
          refine sr_nil ?_
          refine aw_kp [10] ?_
          refine aw_ret ?_
          show ∃ v H2, ResV _ _ _ _ _ _ v ∧ Sub H2 _ ∧ _
          exact ⟨_, [], resV rfl (.cons rfl .nil), (Sub.nil _), rfl⟩
  · refine aw_seq ?_
    refine aw_seq_region ?_
    refine sr_mv ?_
    refine sr_mv ?_
    refine sr_rd (x_nilCheck rfl) ?_
    refine sr_rd (x_fieldAddr fd124_0 rfl) ?_
    refine sr_rd (x_load ag122 rfl (cells_ext mauto Ext.auto)) ?_
    refine sr_rd (x_lenSlice Try.underlying122 rfl) ?_
    refine sr_c (x_lt rfl rfl) (fun h10 => ?_) (fun h10 => ?_)
    · refine sr_nil ?_
      refine aw_kp [2, 3, 4, 10, 11, 12, 14, 15, 16, 17, 59, 60, 61, 62, 63, 64, 65] ?_
      refine aw_true rfl ?_
      refine aw_skip ?_
      show AW _ _ _ _ _ _ _
      refine aw_seq ?_
      refine aw_block ?_
      refine aw_seq_region ?_
      obtain ⟨x, hx⟩ := get_ex (show k < B.length by omega)
      obtain ⟨bx, ox, hax, hcx⟩ := hq.at_ _ _ hx
      have hxo := hI.ok x (List.mem_of_getElem? hx)
      unfold bR at hxo
      refine sr_mv ?_
      refine sr_rd (x_nilCheck rfl) ?_
      refine sr_rd (x_fieldAddr fd124_0 rfl) ?_
      refine sr_rd (x_load ag122 rfl (cells_ext mauto Ext.auto)) ?_
      refine sr_mv ?_
      refine sr_rd (x_indexAddrN (k) Try.underlying122 sz128 rfl hax rfl (by omega) (by omega)) ?_
      refine sr_rd (x_loadN ag128 sz128 rfl (Cells.mono hcx Sub.autoE) rfl) ?_
      refine sr_new rfl (wtd_none rfl) rfl (x_alloc zr128 rfl) ?_
      intro r10_7 hr10_7 gr10_7
      refine sr_x0 rfl (wtd_none rfl) (x_store sz128 rfl rfl rfl rfl rfl Repl.auto Spl.auto) ?_
      refine sr_nil ?_
      refine aw_kp [2, 3, 4, 10, 11, 12, 14, 15, 16, 17, 18, 59, 60, 61, 62, 63, 64, 65, 68, 69, 70, 71, 72, 73, 74] ?_
      refine aw_seq_region ?_
      refine sr_mv ?_
      refine sr_rd (x_fieldAddr fd128_1 rfl) ?_
      refine sr_rd (x_fieldAddr fd55_0 rfl) ?_
      refine sr_rd (x_load ag2 rfl (cells_ext mauto Ext.auto)) ?_
      refine sr_rd (x_fieldAddr fd128_1 rfl) ?_
      refine sr_rd (x_fieldAddr fd55_1 rfl) ?_
      refine sr_rd (x_load ag2 rfl (cells_ext mauto Ext.auto)) ?_
      refine sr_rd (x_fieldAddr fd128_1 rfl) ?_
      refine sr_rd (x_fieldAddr fd55_2 rfl) ?_
      refine sr_rd (x_load ag3 rfl (cells_ext mauto Ext.auto)) ?_
      refine sr_rd (x_neg' rfl (i64w (by omega) (by omega))) ?_
      refine sr_d rfl (wtd_none rfl) rfl (opS_call rfl rfl rfl rfl cl86 (AC.sub Sub.autoP (qadd_s r4_2 n 0 b d ((B.take k).map mS) (k : Int) EL ((r10_7, .cells (BEnt.cells x).toArray 128 (0, 0)) :: ((r5_1, .cells (BEnt.cells e).toArray 128 (0, 0)) :: (bkB bk (.slice a B.length cap) n :: (E ++ (bpB qk (.slice a2 B.length c2) n :: (E2 ++ [])))))) VL (mL_spok hI.ok k) (by omega) (by rw [List.length_map, List.length_take]; omega) (by decide) (fun t _ => mL_rng hI hn k t) (by omega) x.sp.from_ x.sp.to_ (0 - x.sp.width)))) ?_
      rintro _ _ ⟨e2, ch2, L2, b3, d3, EL3, rfl, hC2, hL2, VL3, rfl⟩
      obtain ⟨rfl, rfl⟩ := mL_step hI hn hx hC2 hL2
      rw [if_pos rfl, show (k : Int) + 1 = ((k + 1 : Nat) : Int) by omega]
      refine sr_nil ?_
      refine aw_kp [2, 3, 4, 10, 11, 12, 14, 15, 16, 17, 18, 59, 60, 61, 62, 63, 64, 65, 68, 69, 70, 71, 72, 73, 74, 75, 76, 77, 78, 79, 80, 81, 82, 83, 84, 85] ?_
      refine aw_seq_region ?_
      refine sr_rd (x_fieldAddr fd128_1 rfl) ?_
      refine sr_rd (x_fieldAddr fd55_0 rfl) ?_
      refine sr_rd (x_load ag2 rfl (cells_ext mauto Ext.auto)) ?_
      refine sr_mv ?_
      refine sr_c (x_ge rfl rfl) (fun h11 => ?_) (fun h11 => ?_)
      · refine sr_mv ?_
        refine sr_ry (x_move rfl) ?_
        refine sr_ry (x_not rfl) ?_
        refine sr_ry (x_move rfl) ?_
        refine sr_ry (x_fieldAddr fd128_1 rfl) ?_
        refine sr_ry (x_fieldAddr fd55_0 rfl) ?_
        refine sr_ry (x_load ag2 rfl (cells_ext mauto Ext.auto)) ?_
        refine sr_ry (x_fieldAddr fd128_1 rfl) ?_
        refine sr_ry (x_fieldAddr fd55_0 rfl) ?_
        refine sr_ry (x_load ag2 rfl (cells_ext mauto Ext.auto)) ?_
        refine sr_cy (x_lt rfl rfl) (fun h12 => ?_) (fun h12 => ?_)
        · refine sr_ry (x_pick_f rfl rfl rfl) ?_
          refine sr_rd (x_pick_t rfl rfl rfl) ?_
          refine sr_nil ?_
          refine aw_kp [2, 3, 4, 10, 11, 12, 14, 15, 16, 17, 18, 59, 60, 61, 62, 63, 64, 65, 68, 69, 70, 71, 72, 73, 74, 75, 76, 77, 78, 79, 80, 81, 82, 83, 84, 85, 87, 88, 89, 90, 91, 92, 93, 94, 95, 96, 97, 98, 99, 100, 101, 102, 103, 104] ?_
          refine aw_true rfl ?_
          refine aw_seq_region ?_
          refine sr_rd (x_loadN ag128 sz128 rfl (cells_ext mauto Ext.auto) rfl) ?_
          refine sr_x0 rfl (wtd_none rfl) (x_store sz128 rfl rfl rfl rfl rfl Repl.auto Spl.auto) ?_
          refine sr_nil ?_
          refine aw_kp [2, 3, 4, 10, 11, 12, 14, 15, 16, 17, 18, 59, 60, 61, 62, 63, 64, 65, 68, 69, 70, 71, 72, 73, 74, 75, 76, 77, 78, 79, 80, 81, 82, 83, 84, 85, 87, 88, 89, 90, 91, 92, 93, 94, 95, 96, 97, 98, 99, 100, 101, 102, 103, 104, 105] ?_
          refine aw_region ?_
          refine sr_as ?_
          refine sr_nil ?_
          show AW _ _ _ _ _ _ _
          refine aw_region ?_
          refine sr_mv ?_
          refine sr_rd (x_add' rfl rfl (i64w (by omega) (by omega))) ?_
          refine sr_as ?_
          refine sr_nil ?_
          show ∃ s', _ ∧ _ ∧ _ ∧ _
          first | exact ⟨⟨k + 1, x, true, b3, d3, EL3⟩, ⟨by dsimp only; omega, (by rw [nxF_take hx, ← hnx]; dsimp only; first | (rw [if_pos (by simp; omega)]; done) | (rw [if_neg (by simp; omega)]; done) | fail), VL3⟩, by dsimp only; omega, KeepF.auto, Sub.autoD⟩ | exact ⟨⟨k + 1, e, true, b3, d3, EL3⟩, ⟨by dsimp only; omega, (by rw [nxF_take hx, ← hnx]; dsimp only; first | (rw [if_pos (by simp; omega)]; done) | (rw [if_neg (by simp; omega)]; done) | fail), VL3⟩, by dsimp only; omega, KeepF.auto, Sub.autoD⟩ | exact ⟨⟨k + 1, e, false, b3, d3, EL3⟩, ⟨by dsimp only; omega, (by rw [nxF_take hx, ← hnx]; dsimp only; first | (rw [if_pos (by simp; omega)]; done) | (rw [if_neg (by simp; omega)]; done) | fail), VL3⟩, by dsimp only; omega, KeepF.auto, Sub.autoD⟩
        · refine sr_ry (x_pick_f rfl rfl rfl) ?_
          refine sr_rd (x_pick_t rfl rfl rfl) ?_
          refine sr_nil ?_
          refine aw_kp [2, 3, 4, 10, 11, 12, 14, 15, 16, 17, 18, 59, 60, 61, 62, 63, 64, 65, 68, 69, 70, 71, 72, 73, 74, 75, 76, 77, 78, 79, 80, 81, 82, 83, 84, 85, 87, 88, 89, 90, 91, 92, 93, 94, 95, 96, 97, 98, 99, 100, 101, 102, 103, 104] ?_
          refine aw_false rfl ?_
          refine aw_skip ?_
          show AW _ _ _ _ _ _ _
          refine aw_region ?_
          refine sr_mv ?_
          refine sr_rd (x_add' rfl rfl (i64w (by omega) (by omega))) ?_
          refine sr_as ?_
          refine sr_nil ?_
          show ∃ s', _ ∧ _ ∧ _ ∧ _
          first | exact ⟨⟨k + 1, x, true, b3, d3, EL3⟩, ⟨by dsimp only; omega, (by rw [nxF_take hx, ← hnx]; dsimp only; first | (rw [if_pos (by simp; omega)]; done) | (rw [if_neg (by simp; omega)]; done) | fail), VL3⟩, by dsimp only; omega, KeepF.auto, Sub.autoD⟩ | exact ⟨⟨k + 1, e, true, b3, d3, EL3⟩, ⟨by dsimp only; omega, (by rw [nxF_take hx, ← hnx]; dsimp only; first | (rw [if_pos (by simp; omega)]; done) | (rw [if_neg (by simp; omega)]; done) | fail), VL3⟩, by dsimp only; omega, KeepF.auto, Sub.autoD⟩ | exact ⟨⟨k + 1, e, false, b3, d3, EL3⟩, ⟨by dsimp only; omega, (by rw [nxF_take hx, ← hnx]; dsimp only; first | (rw [if_pos (by simp; omega)]; done) | (rw [if_neg (by simp; omega)]; done) | fail), VL3⟩, by dsimp only; omega, KeepF.auto, Sub.autoD⟩
      · refine sr_mv ?_
        refine sr_sk ?_
        refine sr_sk ?_
        refine sr_sk ?_
        refine sr_skip rfl (wtd_un rfl rfl rfl) rfl ?_
        refine sr_skip rfl (wtd_un rfl rfl rfl) rfl ?_
        refine sr_skip rfl (wtd_un rfl rfl rfl) rfl ?_
        refine sr_skip rfl (wtd_un rfl rfl rfl) rfl ?_
        refine sr_skip rfl (wtd_un rfl rfl rfl) rfl ?_
        refine sr_skip rfl (wtd_un rfl rfl rfl) rfl ?_
        refine sr_skip rfl (wtd_un rfl rfl rfl) rfl ?_
        refine sr_sk ?_
        refine sr_rd (x_pick_f rfl rfl rfl) ?_
        refine sr_nil ?_
        refine aw_kp [2, 3, 4, 10, 11, 12, 14, 15, 16, 17, 18, 59, 60, 61, 62, 63, 64, 65, 68, 69, 70, 71, 72, 73, 74, 75, 76, 77, 78, 79, 80, 81, 82, 83, 84, 85, 87, 88, 89, 90, 91, 92, 93, 94, 95, 96, 97, 98, 99, 100, 101, 102, 103, 104] ?_
        refine aw_false rfl ?_
        refine aw_skip ?_
        show AW _ _ _ _ _ _ _
        refine aw_region ?_
        refine sr_mv ?_
        refine sr_rd (x_add' rfl rfl (i64w (by omega) (by omega))) ?_
        refine sr_as ?_
        refine sr_nil ?_
        show ∃ s', _ ∧ _ ∧ _ ∧ _
        first | exact ⟨⟨k + 1, x, true, b3, d3, EL3⟩, ⟨by dsimp only; omega, (by rw [nxF_take hx, ← hnx]; dsimp only; first | (rw [if_pos (by simp; omega)]; done) | (rw [if_neg (by simp; omega)]; done) | fail), VL3⟩, by dsimp only; omega, KeepF.auto, Sub.autoD⟩ | exact ⟨⟨k + 1, e, true, b3, d3, EL3⟩, ⟨by dsimp only; omega, (by rw [nxF_take hx, ← hnx]; dsimp only; first | (rw [if_pos (by simp; omega)]; done) | (rw [if_neg (by simp; omega)]; done) | fail), VL3⟩, by dsimp only; omega, KeepF.auto, Sub.autoD⟩ | exact ⟨⟨k + 1, e, false, b3, d3, EL3⟩, ⟨by dsimp only; omega, (by rw [nxF_take hx, ← hnx]; dsimp only; first | (rw [if_pos (by simp; omega)]; done) | (rw [if_neg (by simp; omega)]; done) | fail), VL3⟩, by dsimp only; omega, KeepF.auto, Sub.autoD⟩
    · refine sr_nil ?_
      refine aw_kp [2, 3, 4, 10, 11, 12, 14, 15, 16, 17, 59, 60, 61, 62, 63, 64, 65] ?_
      refine aw_false rfl ?_
      refine aw_exit ?_
      show AW _ _ _ _ _ _ _
      refine aw_seq_region ?_
      rw [List.take_of_length_le (by omega)] at hnx
      (obtain rfl : k = B.length := (by omega))
      rw [List.take_of_length_le (Nat.le_refl _)] at VL ⊢
      have hsL := VL.slv' (W0 := W0) (fun _ => rfl) rfl (Sub.refl _)
      have hLok := fun s hs => mL_spok hI.ok B.length s (by rw [List.take_of_length_le (Nat.le_refl _)]; exact hs)
      have hfun : (fun t => n - atB B t) = atP n (B.map mS) := funext fun t => (atP_mS t B n hI.ok).symm
      refine sr_mv ?_
      refine sr_d rfl (wtd_none rfl) rfl (opS_call rfl rfl rfl rfl cl87 (bleft_s bk a cap B n _ (cells_ext mauto Ext.auto) (hs.mono Sub.autoE) hI hn)) ?_
      rintro _ _ ⟨p, S, ver, a3, c3, E3, rfl, hR, hSl, hver, V3, rfl⟩
      have hsS := V3.slv' (W0 := W0) (fun _ => rfl) rfl (Sub.refl _)
      have hps : 0 < S.length := by (obtain ⟨s0, hs0, _⟩ := hR.head); exact get_lt hs0
      refine sr_d rfl (wtd_none rfl) rfl (opS_call rfl rfl rfl rfl cl31 (psteps_s p a3 c3 S ver _ (cells_ext mauto Ext.auto) (hsS.mono Sub.autoE) hps (by omega))) ?_
      rintro _ _ ⟨EC, ⟨aC, cC, VC, rfl⟩, rfl⟩
      have hsC := VC.slv' (W0 := W0) (fun _ => rfl) rfl (Sub.refl _)
      have hsCl := hsC.le
      have hsCc := hsC.capb
      refine sr_as ?_
      refine sr_nil ?_
      refine aw_kp [2, 3, 4, 10, 11, 14, 15, 16, 19] ?_
      refine aw_seq_region ?_
      refine sr_mv ?_
      refine sr_d rfl (wtd_none rfl) rfl (opS_call rfl rfl rfl rfl cl32 (qsteps_s r4_2 n 0 b d (B.map mS) (B.length : Int) _ (cells_ext mauto Ext.auto) (hsL.mono Sub.autoE) hLok (by omega) (by rw [List.length_map]; omega) (by decide) S (hfun ▸ hR))) ?_
      rintro _ _ ⟨ED, ⟨aD, cD, VD, rfl⟩, rfl⟩
      have hsD := VD.slv' (W0 := W0) (fun _ => rfl) rfl (Sub.refl _)
      have hsDl := hsD.le
      have hsDc := hsD.capb
      refine sr_as ?_
      refine sr_nil ?_
      refine aw_kp [2, 3, 4, 10, 11, 14, 15, 16, 19, 20] ?_
      refine aw_seq ?_
      refine aw_seq_region ?_
      refine sr_mv ?_
      refine sr_rd (x_lenSlice Try.underlying43 rfl) ?_
      refine sr_mv ?_
      refine sr_rd (x_lenSlice Try.underlying43 rfl) ?_
      refine sr_c (x_ne rfl rfl) (fun h13 => absurd h13 (by first | omega | decide)) (fun h13 => ?_)
      refine sr_nil ?_
      refine aw_kp [2, 3, 4, 10, 11, 14, 15, 16, 19, 20, 115] ?_
      refine aw_false rfl ?_
      refine aw_skip ?_
      show AW _ _ _ _ _ _ _
      refine aw_seq ?_
      refine aw_seq_region ?_
      refine sr_as ?_
      refine sr_nil ?_
      refine aw_kp [2, 3, 4, 10, 11, 14, 15, 16, 19, 20, 21] ?_
      refine aw_block ?_
      refine aw_loop (ι := Nat) (fun i => i ≤ S.length) (fun i => [(2, .int .i64 at_), (3, .int .i64 long), (4, .int .i64 w), (10, .bool false), (11, .pointer (some ⟨bk, 0, none⟩)), (14, .pointer (some ⟨r4_2, 0, none⟩)), (15, .pointer (some ⟨r5_1, 0, none⟩)), (16, .bool true), (19, .slice aC S.length cC), (20, .slice aD S.length cD), (21, .int .i64 i)]) (fun _ => ED ++ (EC ++ ((r5_1, .cells (BEnt.cells e).toArray 128 (0, 0)) :: (plB r4_2 n 0 (.slice b (B.map mS).length d) (B.length : Int) :: (EL ++ (bkB bk (.slice a B.length cap) n :: (E ++ (bpB qk (.slice a2 B.length c2) n :: (E2 ++ []))))))))) (fun i => S.length - i) 0 (Nat.zero_le _) KeepF.auto Sub.autoP ?_
      intro i hi
      refine aw_seq ?_
      refine aw_seq_region ?_
      refine sr_mv ?_
      refine sr_mv ?_
      refine sr_rd (x_lenSlice Try.underlying43 rfl) ?_
      refine sr_c (x_lt rfl rfl) (fun h14 => ?_) (fun h14 => ?_)
      · refine sr_nil ?_
        refine aw_kp [2, 3, 4, 10, 11, 14, 15, 16, 19, 20, 21, 116, 117, 118, 119] ?_
        refine aw_true rfl ?_
        refine aw_skip ?_
        show AW _ _ _ _ _ _ _
        refine aw_seq ?_
        refine aw_block ?_
        refine aw_seq_dr ⟨_, 9, 177, [[], [], [0, 1], [0, 1, 2], [], [], [4, 5], [4, 5, 6], [0, 1, 2, 3, 4, 5, 6, 7]], [.light, .light, .light, .mem, .light, .light, .light, .mem, .light]⟩ (by kernel_rfl) rfl rfl mix ?_
        obtain ⟨y, hy⟩ := get_ex (show i < S.length by omega)
        obtain ⟨bC, oC, haC, hcC⟩ := hsC.at_ _ _ hy
        obtain ⟨bD, oD, haD, hcD⟩ := hsD.at_ _ _ hy
        refine dr_l (x_move rfl) ?_
        refine dr_l (x_move rfl) ?_
        refine dr_l (x_indexAddrN (i) Try.underlying43 sz76 rfl haC rfl (by omega) (by omega)) ?_
        refine dr_mem0 rfl rfl (wtd_none rfl) (x_loadN ag76 sz76 rfl (Cells.mono hcC Sub.autoE) rfl) ?_
        refine dr_l (x_move rfl) ?_
        refine dr_l (x_move rfl) ?_
        refine dr_l (x_indexAddrN (i) Try.underlying43 sz76 rfl haD rfl (by omega) (by omega)) ?_
        refine dr_mem0 rfl rfl (wtd_none rfl) (x_loadN ag76 sz76 rfl (Cells.mono hcD Sub.autoE) rfl) ?_
        refine dr_cmp rfl rfl (wtd_none rfl) (x_neStruct Try.underlying76 ks76 rfl rfl rfl rfl rfl) (fun h15 => absurd h15 (by simp [eqC, sEq])) (fun h15 => ?_)
        refine dr_nil0 ?_
        refine aw_kp [2, 3, 4, 10, 11, 14, 15, 16, 19, 20, 21, 116, 117, 118, 119, 122, 123, 124, 125, 126, 127, 128, 129, 130] ?_
        refine aw_false rfl ?_
        refine aw_skip ?_
        show AW _ _ _ _ _ _ _
        refine aw_region ?_
        refine sr_mv ?_
        refine sr_rd (x_add' rfl rfl (i64w (by omega) (by omega))) ?_
        refine sr_as ?_
        refine sr_nil ?_
        show ∃ s', _ ∧ _ ∧ _ ∧ _
        exact ⟨i + 1, by omega, by omega, KeepF.auto, Sub.autoP⟩
      · refine sr_nil ?_
        refine aw_kp [2, 3, 4, 10, 11, 14, 15, 16, 19, 20, 21, 116, 117, 118, 119] ?_
        refine aw_false rfl ?_
        refine aw_exit ?_
        show AW _ _ _ _ _ _ _
        refine aw_seq_region ?_
        refine sr_mv ?_
        refine sr_mv ?_
        refine sr_d rfl (wtd_none rfl) rfl (opS_call rfl rfl rfl rfl cl88 (bnext_s bk a cap B n _ (cells_ext mauto Ext.auto) (hs.mono Sub.autoE) hI hn at_)) ?_
        rintro _ H9 ⟨rfl, rfl⟩
        rw [← hnx]
        dsimp only
        refine sr_mv ?_
        refine sr_rd (x_extract rfl rfl) ?_
        refine sr_rd (x_extract rfl rfl) ?_
        refine sr_new rfl (wtd_none rfl) rfl (x_alloc zr128 rfl) ?_
        intro r24_6 hr24_6 gr24_6
        refine sr_x0 rfl (wtd_none rfl) (x_store sz128 rfl rfl rfl rfl rfl Repl.auto Spl.auto) ?_
        refine sr_as ?_
        refine sr_nil ?_
        refine aw_kp [2, 3, 4, 10, 11, 14, 15, 16, 22, 23] ?_
        refine aw_seq_region ?_
        refine sr_mv ?_
        refine sr_as ?_
        refine sr_nil ?_
        refine aw_kp [2, 3, 4, 10, 11, 14, 15, 16, 22, 23, 24] ?_
        refine aw_join (ι := Unit) (fun _ => True) (fun _ => [(2, .int .i64 at_), (3, .int .i64 long), (4, .int .i64 w), (10, .bool false), (11, .pointer (some ⟨bk, 0, none⟩)), (14, .pointer (some ⟨r4_2, 0, none⟩)), (15, .pointer (some ⟨r5_1, 0, none⟩)), (16, .bool true), (22, .pointer (some ⟨r24_6, 0, none⟩)), (23, .bool true), (24, .int .i64 (max at_ 0))]) (fun _ => (r24_6, .cells (BEnt.cells e).toArray 128 (0, 0)) :: (ED ++ (EC ++ ((r5_1, .cells (BEnt.cells e).toArray 128 (0, 0)) :: (plB r4_2 n 0 (.slice b (B.map mS).length d) (B.length : Int) :: (EL ++ (bkB bk (.slice a B.length cap) n :: (E ++ (bpB qk (.slice a2 B.length c2) n :: (E2 ++ [])))))))))) ?_ ?_
        · refine aw_seq_region ?_
          refine sr_mv ?_
          refine sr_c (x_lt rfl rfl) (fun h16 => ?_) (fun h16 => ?_)
          · refine sr_nil ?_
            refine aw_kp [2, 3, 4, 10, 11, 14, 15, 16, 22, 23, 24, 139] ?_
            refine aw_true rfl ?_
            refine aw_region ?_
            refine sr_as ?_
            refine sr_nil ?_
            show ∃ s', _ ∧ _ ∧ _
            exact ⟨(), trivial, (by first | (rw [Int.max_eq_left (by omega)]; exact KeepF.auto) | (rw [Int.max_eq_right (by omega)]; exact KeepF.auto)), Sub.autoP⟩
          · refine sr_nil ?_
            refine aw_kp [2, 3, 4, 10, 11, 14, 15, 16, 22, 23, 24, 139] ?_
            refine aw_false rfl ?_
            refine aw_skip ?_
            show ∃ s', _ ∧ _ ∧ _
            exact ⟨(), trivial, (by first | (rw [Int.max_eq_left (by omega)]; exact KeepF.auto) | (rw [Int.max_eq_right (by omega)]; exact KeepF.auto)), Sub.autoP⟩
        · intro _ _
          refine aw_seq_region ?_
          refine sr_mv ?_
          refine sr_mv ?_
          refine sr_mv ?_
          refine sr_mv ?_
          refine sr_d rfl (wtd_none rfl) rfl (opS_call rfl rfl rfl rfl cl80 (bwhen_s bk a cap B n _ (cells_ext mauto Ext.auto) (hs.mono Sub.autoE) hI hn at_ long w)) ?_
          rintro _ H9 ⟨⟨t, e5, rfl, hE⟩, rfl⟩
          refine sr_mv ?_
          refine sr_rd (x_extract rfl rfl) ?_
          refine sr_rd (x_extract rfl rfl) ?_
          refine sr_as ?_
          refine sr_as ?_
          refine sr_nil ?_
          refine aw_kp [3, 4, 10, 14, 15, 16, 22, 23, 24, 25, 26] ?_
          refine aw_seq_region ?_
          refine sr_mv ?_
          refine sr_mv ?_
          refine sr_mv ?_
          refine sr_mv ?_
          refine sr_d rfl (wtd_none rfl) rfl (opS_call rfl rfl rfl rfl cl25 (qear_s r4_2 n 0 b d (B.map mS) (B.length : Int) _ (cells_ext mauto Ext.auto) (hsL.mono Sub.autoE) hLok (by omega) (by rw [List.length_map]; omega) (by decide) (max at_ 0) long w)) ?_
          rintro _ H9 ⟨⟨t2, e6, rfl, hE2⟩, rfl⟩
          rw [← hfun] at hE2
          obtain ⟨rfl, rfl⟩ := hE.uniq hE2
          refine sr_mv ?_
          refine sr_rd (x_extract rfl rfl) ?_
          refine sr_rd (x_extract rfl rfl) ?_
          refine sr_as ?_
          refine sr_as ?_
          refine sr_nil ?_
          refine aw_kp [10, 15, 16, 22, 23, 25, 26, 27, 28] ?_
          refine aw_seq_region ?_
          refine sr_rd (x_loadN ag128 sz128 rfl (cells_ext mauto Ext.auto) rfl) ?_
          refine sr_rd (x_loadN ag128 sz128 rfl (cells_ext mauto Ext.auto) rfl) ?_
          refine sr_c (x_eqStructN kn128 rfl rfl rfl rfl rfl) (fun h17 => ?_) (fun h17 => absurd (by simp [eqC, sEq]) h17)
          refine sr_mv ?_
          refine sr_ry (x_move rfl) ?_
          refine sr_ry (x_move rfl) ?_
          refine sr_ry (x_cast (u := .bool true) (x_eqb Try.underlying4 rfl rfl) (by simp)) ?_
          refine sr_rd (x_pick_t rfl rfl rfl) ?_
          refine sr_mv ?_
          refine sr_ry (x_move rfl) ?_
          refine sr_ry (x_move rfl) ?_
          refine sr_cy (x_eq rfl rfl) (fun h18 => ?_) (fun h18 => absurd (by first | omega | decide) h18)
          refine sr_rd (x_pick_t rfl rfl rfl) ?_
          refine sr_mv ?_
          refine sr_ry (x_move rfl) ?_
          refine sr_ry (x_move rfl) ?_
          refine sr_cy (x_eq rfl rfl) (fun h19 => ?_) (fun h19 => absurd (by first | omega | decide) h19)
          refine sr_rd (x_pick_t rfl rfl rfl) ?_
          refine sr_mv ?_
          refine sr_d rfl (wtd_yes rfl rfl rfl) rfl (opS_call rfl rfl rfl rfl cl79 (awake36_s _)) ?_
          rintro _ H9 ⟨rfl, rfl⟩
          refine sr_rd (x_pick_t rfl rfl rfl) ?_
          refine sr_as ?_
          refine sr_nil ?_
          refine aw_kp [10] ?_
          refine aw_ret ?_
          show ∃ v H2, ResV _ _ _ _ _ _ v ∧ Sub H2 _ ∧ _
          exact ⟨_, [], resV rfl (.cons rfl .nil), (Sub.nil _), rfl⟩
end
namespace BookLeftRow
open Go.ChangeShapes Go.WideShapes Go.ChangeAt Go.RowKit
theorem own : ownKnob Try.prog.godebug = none := by kernel_rfl
theorem laid : laidOutB Try.prog = true := by kernel_rfl
set_option maxRecDepth 100000 in
theorem lifted (os : Os) (started : os.Started) (H : Type) (enc : TypeId × Value → H) :
    ReturnsInHanded {} Try.checked os 20 .any (Rows.bookLeftSpec.pre6 enc Try.prog Try.f20 Rows.bookLeftRow.domain false) (Rows.bookLeftSpec.post enc Try.prog Try.f20 false true false false) := by
  refine law_lifted (C := Try.checked) (tb := 4) own started (by kernel_rfl) Try.func20 (ChangeSpec.witness6 (enc := enc) (C := Try.checked) false ⟨#[], #[.int .i64 0, .slice none 0 0, .int .i64 0, .int .i64 0, .int .i64 0], []⟩ 8 (by kernel_rfl) (by kernel_rfl) (by kernel_rfl) (by kernel_rfl)) rfl Try.underlying4 rfl laid (by kernel_rfl) ?_ ?_
  · intro ds h
    match ds, h with
    | [a0, a1, a2, a3, a4], _ => rfl
  · intro W base args ds ps hval hA hlt hsz
    have hA' : DataW.TrodAll enc Try.prog W 0 (fun _ => true) true [3, 117, 2, 2, 3] args ds ps := hA
    clear hA
    obtain ⟨v0, vs0, d0, ds0, p0, q0, rfl, rfl, rfl, h0, r0⟩ := trodAll_cons hA'
    obtain ⟨v1, vs1, d1, ds1, p1, q1, rfl, rfl, rfl, h1, r1⟩ := trodAll_cons r0
    obtain ⟨v2, vs2, d2, ds2, p2, q2, rfl, rfl, rfl, h2, r2⟩ := trodAll_cons r1
    obtain ⟨v3, vs3, d3, ds3, p3, q3, rfl, rfl, rfl, h3, r3⟩ := trodAll_cons r2
    obtain ⟨v4, vs4, d4, ds4, p4, q4, rfl, rfl, rfl, h4, r4⟩ := trodAll_cons r3
    obtain ⟨rfl, rfl, rfl⟩ := trodAll_nil r4
    obtain ⟨n, rfl, _⟩ := opn_int Try.underlying3 (hval 0 3 v0 rfl rfl) h0
    obtain ⟨sa, scap, script, rfl, hs, _⟩ := opn_slice (en := BOp.cells) (Ok := fun j => j.Wf) Try.underlying117 cells165 (by decide) (fun fuel cs x h => read_BOp h) (hval 1 117 v1 rfl rfl) h1
    obtain ⟨at_, rfl, hw2⟩ := opn_int Try.underlying2 (hval 2 2 v2 rfl rfl) h2
    obtain ⟨long, rfl, hw3⟩ := opn_int Try.underlying2 (hval 3 2 v3 rfl rfl) h3
    obtain ⟨w, rfl, hw4⟩ := opn_int Try.underlying3 (hval 4 3 v4 rfl rfl) h4
    by_cases hn : 1 ≤ n ∧ n ≤ 64
    · exact bookLeft_ok n sa scap script hs at_ long w hn
    · exact bookLeft_bad n sa scap script hs at_ long w hn
theorem joined : joinedFacts Try.prog 20 Try.f20 Rows.bookLeftSpec Rows.bookLeftRow = true := by
  unfold joinedFacts
  rw [cutMay, cutLif, cutMk]
  kernel_rfl
theorem over : Rows.bookLeftRow.holds Try.pinned (OpenSpec.ofChange Rows.bookLeftSpec) :=
  OpenClaim.holds_of_wide 20 Try.f20 rfl rfl rfl rfl rfl rfl rfl ⟨rfl, rfl, rfl, rfl, rfl⟩ rfl rfl rfl rfl rfl (by kernel_rfl) Try.func20 joined
    (of_decide_eq_true (by kernel_rfl)) (by unfold Func.isWrapper; first | (rw [if_pos (by decide +kernel)]; kernel_rfl) | (rw [if_neg (by decide +kernel)]; exact ⟨rfl, rfl⟩))
    (fun os started H enc _ => lifted os started H enc)
theorem proved : Rows.BookLeftSaid := over
#print axioms proved
end BookLeftRow
end Go.Proofs.Ytjkojdjjooangaa
