/- Parts as a text. -/
import Derived.Test.YtbcajgkaepihfaaDoorSgc
import Derived.Test.YtbcajgkaepihfaaDoorSymMnz
namespace Go.Proofs.YtbcajgkaepihfaaDoor
open Go.Proofs.YtbcajgkaepihfaaDoor.Sym
open Go.RowKit (Below)
set_option linter.unusedVariables false
set_option linter.unusedSimpArgs false
/-- The rest of a row of words. -/
theorem slv_rest {w : List UInt8} {ws : List (List UInt8)} {a : Option Addr} {cap : Nat} {E : SHeap} (V : OwnVec 1 9 (.slice a (w :: ws).length cap) (w :: ws).length ((w :: ws).flatMap strC) E) :
    ∃ b, a = some ⟨b, 0, none⟩ ∧ ∀ {W0 : World} {H : SHeap}, Sub E H → SlV W0 H 1 strC (some ⟨b, if cap = (1 : Int).toNat then 0 else 0 + (1 : Int).toNat * 1, none⟩) (cap - (1 : Int).toNat) ws := by
  obtain ⟨b, rfl, hb⟩ := V.pos (by simp)
  refine ⟨b, rfl, fun {W0 H} hs => ?_⟩
  have hv := V.slv' (W0 := W0) (H := H) (xs := w :: ws) (fun _ => rfl) rfl hs
  have hle := hv.le
  have hcb := hv.capb
  rw [List.length_cons] at hle
  have e1 : (1 : Int).toNat = 1 := rfl
  rw [e1]
  refine ⟨by omega, by omega, fun i x hx => ?_⟩
  have hi := get_lt hx
  rw [if_neg (by omega)]
  obtain ⟨b2, o2, h1, h2⟩ := hv.at_ (i + 1) x (by simpa using hx)
  cases h1
  exact ⟨_, _, rfl, by rw [show 0 + 1 * 1 + i * 1 = 0 + (i + 1) * 1 by omega]; exact h2⟩
theorem quoJ {m : Int} (h : 1 ≤ m) : IntKind.i64.wrap ((9223372036854775807 : Int).tdiv m) = 9223372036854775807 / m := by
  have h1 : 0 ≤ (9223372036854775807 : Int) / m := Int.ediv_nonneg (by decide) (by omega)
  have h2 : (9223372036854775807 : Int) / m ≤ 9223372036854775807 := Int.ediv_le_self _ (by decide)
  rw [Int.tdiv_eq_ediv_of_nonneg (by decide), i64w (by omega) (by omega)]
theorem quoJ2 {m : Int} (h : 1 ≤ m) (h2 : m ≤ 1000) : 1 < (9223372036854775807 : Int) / m := by
  have : 2 ≤ (9223372036854775807 : Int) / m := by rw [Int.le_ediv_iff_mul_le (by omega)]; omega
  omega
theorem joinW_up {c : UInt8} {w x : List UInt8} {ws : List (List UInt8)} {k : Nat} (h : ws[k]? = some x) : joinW c (w :: ws.take (k + 1)) = (joinW c (w :: ws.take k) ++ [c]) ++ x := by
  rw [takeS h, ← List.cons_append]
  exact joinW_snoc (by simp)
theorem joinW_bd {c : UInt8} : ∀ {ws : List (List UInt8)}, (∀ w ∈ ws, w.length ≤ 100) → (joinW c ws).length ≤ 101 * ws.length
  | [], _ => by simp [joinW]
  | [v], h => by have := h v (by simp); simp [joinW]; omega
  | v :: u :: ws, h => by
    have h1 := h v (by simp)
    have h2 := joinW_bd (c := c) (ws := u :: ws) fun w hw => h w (List.mem_cons_of_mem _ hw)
    rw [joinW_cons (by simp), List.length_append, List.length_cons, List.length_cons]
    omega
structure JnG where
  k : Nat
  sl : Value
  E : SHeap
theorem map_take_snoc {α β : Type} {f : α → β} {l : List α} {k : Nat} {x : α} (h : l[k]? = some x) : (l.take (k + 1)).map f = (l.take k).map f ++ [f x] := by
  rw [takeS h, List.map_append]; rfl
theorem pTxt_ne {p : Part} : pTxt p ≠ [] := fun h => numB_ne p.from_ (List.append_eq_nil_iff.1 h).1
theorem cl108 : Callable Tryd.prog 108 := ⟨Tryd.f108, Tryd.func108, by kernel_rfl, by kernel_rfl⟩
theorem cl59 : Callable Tryd.prog 59 := ⟨Tryd.f59, Tryd.func59, by kernel_rfl, by kernel_rfl⟩
theorem cl60 : Callable Tryd.prog 60 := ⟨Tryd.f60, Tryd.func60, by kernel_rfl, by kernel_rfl⟩
theorem cl73 : Callable Tryd.prog 73 := ⟨Tryd.f73, Tryd.func73, by kernel_rfl, by kernel_rfl⟩
theorem cl86 : Callable Tryd.prog 86 := ⟨Tryd.f86, Tryd.func86, by kernel_rfl, by kernel_rfl⟩
theorem exf120 : Extern.find Tryd.f120 = some (Extern.BytealgMakeNoZero.makeNoZero Tryd.f120.params #[23]) := by kernel_rfl
theorem exn120 : Extern.findNext Tryd.f120 = none := by kernel_rfl
theorem zr100 : zeroOf Tryd.prog 100 = some (.agg #[.pointer none, .slice none 0 0]) := by kernel_rfl
section
variable {W0 : World}
set_option maxRecDepth 100000 in
set_option maxHeartbeats 400000 in
theorem grow0_s (b n : Nat) (G : SHeap) (hn : n ≤ 1000000) : AC Tryd.prog W0 108 [selfP b, .int .i64 n] ((b, .cells (bldC (selfP b) (.slice none 0 0)).toArray 100 (0, 0)) :: G) (fun _ H' => ∃ (r : Nat) (cs : List Value), n ≤ cs.length ∧ cs.length ≤ 9223372036854775807 ∧ H' = (r, .cells cs.toArray 5 (0, 0)) :: (b, .cells (bldC (selfP b) (.slice (some ⟨r, 0, none⟩) 0 cs.length)).toArray 100 (0, 0)) :: G) := by
  refine ac_of Tryd.func108 rfl rfl rfl ?_
  refine aw_seq_dr ⟨_, 16, 30, [[], [0], [0, 1], [0, 1, 2], [0, 1, 2, 3], [0, 1, 2, 3, 4], [], [0, 1, 2, 3, 4, 5, 6], [0, 1, 2, 3, 4, 5, 6, 7], [], [9], [9, 10], [9, 10, 11], [9, 10, 11, 12], [0, 1, 2, 3, 4, 5, 6, 7, 8, 9, 10, 11, 12, 13], [0, 1, 2, 3, 4, 5, 6, 7, 8, 9, 10, 11, 12, 13, 14]], [.light, .light, .light, .mem, .light, .light, .light, .light, .call, .light, .light, .light, .mem, .light, .light, .light]⟩ (by kernel_rfl) rfl rfl mix ?_
  refine dr_l (x_move rfl) ?_
  refine dr_l (x_nilCheck rfl) ?_
  refine dr_l (x_fieldAddr fd100_1 rfl) ?_
  refine dr_mem0 rfl rfl (wtd_none rfl) (x_load ag23 rfl (cells_ext mauto Ext.auto)) ?_
  refine dr_l (x_capSlice Tryd.underlying23 rfl) ?_
  refine dr_l (x_mul' rfl rfl (i64w (by omega) (by omega))) ?_
  refine dr_l (x_move rfl) ?_
  refine dr_l (x_cast (u := .int .i64 (n : Nat)) (x_add' rfl rfl (i64w (by omega) (by omega))) (congrArg (Value.int .i64) (by omega))) ?_
  refine dr_call rfl (V := []) rfl rfl (wtd_none rfl) (opSF_mnz (fn := Tryd.f120) rfl rfl rfl rfl Tryd.func120 (by kernel_rfl) (by kernel_rfl) exn120 exf120 Tryd.underlying23 (by omega)) (mnz_freshE (by omega)) ?_
  rintro _ _ ⟨r, cs, hc1, hc2, rfl, rfl⟩
  refine dr_l (x_move rfl) ?_
  refine dr_l (x_nilCheck rfl) ?_
  refine dr_l (x_fieldAddr fd100_1 rfl) ?_
  refine dr_mem rfl (V := []) rfl rfl (wtd_none rfl) (x_load ag23 rfl (cells_ext mauto Ext.auto)) ?_
  refine dr_l (x_lenSlice Tryd.underlying23 rfl) ?_
  refine dr_l (x_sliceHi Tryd.underlying23 sz5 rfl rfl (by omega) (by omega)) ?_
  refine dr_l (x_assign rfl) ?_
  refine dr_nil (E := [(r, .cells cs.toArray 5 (0, 0))]) rfl ?_
  refine aw_kp [0, 4] ?_
  refine aw_seq_region ?_
  refine sr_mv ?_
  refine sr_mv ?_
  refine sr_rd (x_nilCheck rfl) ?_
  refine sr_rd (x_fieldAddr fd100_1 rfl) ?_
  refine sr_rd (x_load ag23 rfl (cells_ext mauto Ext.auto)) ?_
  refine sr_d rfl (wtd_none rfl) rfl ((x_copy0 Tryd.underlying23 sz5 rfl rfl).opS) ?_
  rintro _ _ ⟨rfl, rfl⟩
  refine sr_nil ?_
  refine aw_kp [0, 4] ?_
  refine aw_region ?_
  refine sr_mv ?_
  refine sr_mv ?_
  refine sr_rd (x_nilCheck rfl) ?_
  refine sr_rd (x_fieldAddr fd100_1 rfl) ?_
  refine sr_x0 rfl (wtd_none rfl) (x_store sz23 rfl rfl rfl rfl rfl Repl.auto Spl.auto) ?_
  refine sr_nil ?_
  show ∃ v H2, ResV _ _ _ _ _ _ v ∧ Sub H2 _ ∧ _
  exact ⟨_, _, resV rfl .nil, Sub.refl _, r, cs, hc1, hc2, rfl⟩
set_option maxRecDepth 100000 in
set_option maxHeartbeats 400000 in
theorem grow_s (b n : Nat) (G : SHeap) (hn : n ≤ 1000000) (h1 : 1 ≤ n) : AC Tryd.prog W0 86 [selfP b, .int .i64 n] ((b, .cells (bldC (.pointer none) (.slice none 0 0)).toArray 100 (0, 0)) :: G) (fun _ H' => ∃ (r : Nat) (cs : List Value), n ≤ cs.length ∧ cs.length ≤ 9223372036854775807 ∧ H' = (r, .cells cs.toArray 5 (0, 0)) :: (b, .cells (bldC (selfP b) (.slice (some ⟨r, 0, none⟩) 0 cs.length)).toArray 100 (0, 0)) :: G) := by
  refine ac_of Tryd.func86 rfl rfl rfl ?_
  refine aw_seq_region ?_
  refine sr_mv ?_
  refine sr_d rfl (wtd_none rfl) rfl (opS_call rfl rfl rfl rfl cl78 (copy_s b (.pointer none) (.slice none 0 0) G (.inl rfl))) ?_
  rintro _ _ rfl
  refine sr_nil ?_
  refine aw_kp [0, 1] ?_
  refine aw_seq ?_
  refine aw_seq_region ?_
  refine sr_mv ?_
  refine sr_c (x_lt rfl rfl) (fun h1 => absurd h1 (by first | omega | decide)) (fun h1 => ?_)
  refine sr_nil ?_
  refine aw_kp [0, 1, 7] ?_
  refine aw_false rfl ?_
  refine aw_skip ?_
  show AW _ _ _ _ _ _ _
  refine aw_seq_dr ⟨_, 13, 25, [[], [0], [0, 1], [0, 1, 2], [0, 1, 2, 3], [], [5], [5, 6], [5, 6, 7], [5, 6, 7, 8], [0, 1, 2, 3, 4, 5, 6, 7, 8, 9], [], [0, 1, 2, 3, 4, 5, 6, 7, 8, 9, 10, 11]], [.light, .light, .light, .mem, .light, .light, .light, .light, .mem, .light, .light, .light, .light]⟩ (by kernel_rfl) rfl rfl mix ?_
  refine dr_l (x_move rfl) ?_
  refine dr_l (x_nilCheck rfl) ?_
  refine dr_l (x_fieldAddr fd100_1 rfl) ?_
  refine dr_mem0 rfl rfl (wtd_none rfl) (x_load ag23 rfl (cells_ext mauto Ext.auto)) ?_
  refine dr_l (x_capSlice Tryd.underlying23 rfl) ?_
  refine dr_l (x_move rfl) ?_
  refine dr_l (x_nilCheck rfl) ?_
  refine dr_l (x_fieldAddr fd100_1 rfl) ?_
  refine dr_mem0 rfl rfl (wtd_none rfl) (x_load ag23 rfl (cells_ext mauto Ext.auto)) ?_
  refine dr_l (x_lenSlice Tryd.underlying23 rfl) ?_
  refine dr_l (x_sub' rfl rfl (i64w (by omega) (by omega))) ?_
  refine dr_l (x_move rfl) ?_
  refine dr_cmp rfl rfl (wtd_none rfl) (x_lt rfl rfl) (fun h2 => ?_) (fun h2 => absurd (by first | omega | decide) h2)
  refine dr_nil0 ?_
  refine aw_kp [0, 1, 21] ?_
  refine aw_true rfl ?_
  refine aw_region ?_
  refine sr_mv ?_
  refine sr_mv ?_
  refine sr_d rfl (wtd_none rfl) rfl (opS_call rfl rfl rfl rfl cl108 (grow0_s b n G hn)) ?_
  rintro _ _ ⟨r, cs, hc1, hc2, rfl⟩
  refine sr_nil ?_
  show ∃ v H2, ResV _ _ _ _ _ _ v ∧ Sub H2 _ ∧ _
  exact ⟨_, _, resV rfl .nil, Sub.refl _, r, cs, hc1, hc2, rfl⟩
set_option maxRecDepth 100000 in
set_option maxHeartbeats 400000 in
theorem join0_s (c : UInt8) (a : Option Addr) (cap : Nat) (H : SHeap) : AC Tryd.prog W0 73 [.slice a 0 cap, .string (bs [c])] H (fun v H' => v = .string (bs []) ∧ H' = H) := by
  refine ac_of Tryd.func73 rfl rfl rfl ?_
  refine aw_seq_region ?_
  refine sr_as ?_
  refine sr_nil ?_
  refine aw_kp [0, 1, 4] ?_
  refine aw_seq ?_
  refine aw_seq_region ?_
  refine sr_mv ?_
  refine sr_rd (x_cast (u := .int .i64 0) (x_lenSlice Tryd.underlying49 rfl) rfl) ?_
  refine sr_nil ?_
  refine aw_kp [0, 1, 4, 12] ?_
  refine aw_block ?_
  refine aw_seq_region ?_
  refine sr_c (x_eq rfl rfl) (fun h1 => ?_) (fun h1 => absurd (by first | omega | decide) h1)
  refine sr_as ?_
  refine sr_nil ?_
  refine aw_kp [0, 1, 4, 12, 13] ?_
  refine aw_true rfl ?_
  refine aw_seq_region ?_
  refine sr_as ?_
  refine sr_nil ?_
  refine aw_kp [0, 1, 4] ?_
  refine aw_ret ?_
  show ∃ v H2, ResV _ _ _ _ _ _ v ∧ Sub H2 _ ∧ _
  exact ⟨_, H, resV rfl (.cons rfl .nil), (by repeat (first | exact Sub.refl _ | apply Sub.drop)), ⟨rfl, rfl⟩⟩
set_option maxRecDepth 100000 in
set_option maxHeartbeats 400000 in
theorem join1_s (c : UInt8) (w : List UInt8) (a : Option Addr) (cap : Nat) (E G : SHeap) (V : OwnVec 1 9 (.slice a 1 cap) 1 (([w] : List (List UInt8)).flatMap strC) E) : AC Tryd.prog W0 73 [.slice a 1 cap, .string (bs [c])] (E ++ G) (fun v H' => v = .string (bs w) ∧ H' = E ++ G) := by
  obtain ⟨bw, ow, haw, hcw⟩ := (V.slv' (W0 := W0) (xs := ([w] : List (List UInt8))) (fun _ => rfl) rfl (Sub.refl _)).at_ 0 w rfl
  refine ac_of Tryd.func73 rfl rfl rfl ?_
  refine aw_seq_region ?_
  refine sr_as ?_
  refine sr_nil ?_
  refine aw_kp [0, 1, 4] ?_
  refine aw_seq ?_
  refine aw_seq_region ?_
  refine sr_mv ?_
  refine sr_rd (x_cast (u := .int .i64 1) (x_lenSlice Tryd.underlying49 rfl) rfl) ?_
  refine sr_nil ?_
  refine aw_kp [0, 1, 4, 12] ?_
  refine aw_block ?_
  refine aw_seq_region ?_
  refine sr_c (x_eq rfl rfl) (fun h1 => absurd h1 (by first | omega | decide)) (fun h1 => ?_)
  refine sr_as ?_
  refine sr_nil ?_
  refine aw_kp [0, 1, 4, 12, 13] ?_
  refine aw_false rfl ?_
  refine aw_seq_region ?_
  refine sr_c (x_eq rfl rfl) (fun h2 => ?_) (fun h2 => absurd (by first | omega | decide) h2)
  refine sr_as ?_
  refine sr_nil ?_
  refine aw_kp [0, 1, 4, 15] ?_
  refine aw_true rfl ?_
  refine aw_seq_region ?_
  refine sr_mv ?_
  refine sr_rd (x_indexAddrN 0 Tryd.underlying49 sz9 rfl haw rfl (by omega) (by decide)) ?_
  refine sr_rd (x_load ag9 rfl (Cells.mono hcw Sub.autoE)) ?_
  refine sr_as ?_
  refine sr_nil ?_
  refine aw_kp [0, 1, 4] ?_
  refine aw_ret ?_
  show ∃ v H2, ResV _ _ _ _ _ _ v ∧ Sub H2 _ ∧ _
  exact ⟨_, (E ++ G), resV rfl (.cons rfl .nil), (by repeat (first | exact Sub.refl _ | apply Sub.drop)), ⟨rfl, rfl⟩⟩
set_option maxRecDepth 100000 in
set_option maxHeartbeats 2000000 in
theorem joinN_s (c : UInt8) (w : List UInt8) (ws : List (List UInt8)) (b cap : Nat) (E G : SHeap) (V : OwnVec 1 9 (.slice (some ⟨b, 0, none⟩) (w :: ws).length cap) (w :: ws).length ((w :: ws).flatMap strC) E) (hws : 1 ≤ ws.length) (hwl : ws.length ≤ 100) (hw0 : w ≠ []) (hbd : ∀ x ∈ w :: ws, x.length ≤ 100) : AC Tryd.prog W0 73 [.slice (some ⟨b, 0, none⟩) (w :: ws).length cap, .string (bs [c])] (E ++ G) (fun v H' => v = .string (bs (joinW c (w :: ws))) ∧ H' = E ++ G) := by
  obtain ⟨b', hb', hrest⟩ := slv_rest V
  cases hb'
  have hV := V.slv' (W0 := W0) (xs := w :: ws) (fun _ => rfl) rfl (Sub.refl _)
  have hle := hV.le
  have hcb := hV.capb
  obtain ⟨bw, ow, haw, hcw⟩ := hV.at_ 0 w rfl
  have hll : (w :: ws).length = ws.length + 1 := rfl
  have e1 : (1 : Int).toNat = 1 := rfl
  have hwp := List.length_pos_iff.2 hw0
  have hwb := hbd w List.mem_cons_self
  refine ac_of Tryd.func73 rfl rfl rfl ?_
  refine aw_seq_region ?_
  refine sr_as ?_
  refine sr_nil ?_
  refine aw_kp [0, 1, 4] ?_
  refine aw_seq ?_
  refine aw_seq_region ?_
  refine sr_mv ?_
  refine sr_rd (x_lenSlice Tryd.underlying49 rfl) ?_
  refine sr_nil ?_
  refine aw_kp [0, 1, 4, 12] ?_
  refine aw_block ?_
  refine aw_seq_region ?_
  refine sr_c (x_eq rfl rfl) (fun h1 => absurd h1 (by first | omega | decide)) (fun h1 => ?_)
  refine sr_as ?_
  refine sr_nil ?_
  refine aw_kp [0, 1, 4, 12, 13] ?_
  refine aw_false rfl ?_
  refine aw_seq_region ?_
  refine sr_c (x_eq rfl rfl) (fun h2 => absurd h2 (by first | omega | decide)) (fun h2 => ?_)
  refine sr_as ?_
  refine sr_nil ?_
  refine aw_kp [0, 1, 4, 15] ?_
  refine aw_false rfl ?_
  refine aw_skip ?_
  show AW _ _ _ _ _ _ _
  refine aw_seq_region ?_
  refine sr_as ?_
  refine sr_nil ?_
  refine aw_kp [0, 1, 4, 5] ?_
  refine aw_seq ?_
  refine aw_seq_region ?_
  refine sr_mv ?_
  refine sr_rd (x_cast (u := .int .i64 1) (x_lenB Tryd.underlying9 rfl) rfl) ?_
  refine sr_c (x_gt rfl rfl) (fun h3 => ?_) (fun h3 => absurd (by first | omega | decide) h3)
  refine sr_nil ?_
  refine aw_kp [0, 1, 4, 5, 22] ?_
  refine aw_true rfl ?_
  refine aw_seq ?_
  refine aw_seq_region ?_
  refine sr_mv ?_
  refine sr_rd (x_cast (u := .int .i64 1) (x_lenB Tryd.underlying9 rfl) rfl) ?_
  refine sr_mv ?_
  refine sr_rd (x_lenSlice Tryd.underlying49 rfl) ?_
  have hq2 := quoJ2 (m := ((w :: ws).length : Int) - 1) (by omega) (by omega)
  refine sr_rd (x_sub' rfl rfl (i64w (by omega) (by omega))) ?_
  refine sr_rd (x_quo' (c := 9223372036854775807 / (((w :: ws).length : Int) - 1)) rfl rfl (by omega) (quoJ (by omega))) ?_
  refine sr_c (x_ge rfl rfl) (fun h4 => absurd h4 (by omega)) (fun h4 => ?_)
  refine sr_nil ?_
  refine aw_kp [0, 1, 4, 5, 29] ?_
  refine aw_false rfl ?_
  refine aw_skip ?_
  show AW _ _ _ _ _ _ _
  refine aw_region ?_
  refine sr_mv ?_
  refine sr_mv ?_
  refine sr_rd (x_cast (u := .int .i64 1) (x_lenB Tryd.underlying9 rfl) rfl) ?_
  refine sr_mv ?_
  refine sr_rd (x_lenSlice Tryd.underlying49 rfl) ?_
  refine sr_rd (x_sub' rfl rfl (i64w (by omega) (by omega))) ?_
  refine sr_rd (x_mul' rfl rfl (i64w (by omega) (by omega))) ?_
  refine sr_rd (x_cast (u := .int .i64 (ws.length : Nat)) (x_add' rfl rfl (i64w (by omega) (by omega))) (congrArg (Value.int .i64) (by omega))) ?_
  refine sr_as ?_
  refine sr_nil ?_
  show AW _ _ _ _ _ _ _
  refine aw_seq ?_
  refine aw_seq_region ?_
  refine sr_mv ?_
  refine sr_rd (x_lenSlice Tryd.underlying49 rfl) ?_
  refine sr_mv ?_
  refine sr_nil ?_
  refine aw_kp [0, 1, 4, 5, 39, 40, 41] ?_
  refine aw_block ?_
  refine aw_loop (ι := Nat × Nat) (fun s => s.1 ≤ (w :: ws).length ∧ 1 ≤ s.2 ∧ s.2 ≤ 100 + 100 * s.1) (fun s => [(0, .slice (some ⟨b, 0, none⟩) (w :: ws).length cap), (1, .string (bs [c])), (4, .string (bs [])), (5, .int .i64 (s.2 : Nat)), (39, .slice (some ⟨b, 0, none⟩) (w :: ws).length cap), (40, .int .i64 (w :: ws).length), (41, .int .i64 (s.1 : Nat))]) (fun _ => E ++ G) (fun s => (w :: ws).length - s.1) (0, ws.length) (⟨Nat.zero_le _, by dsimp only; omega, by dsimp only; omega⟩) KeepF.auto Sub.autoP ?_
  intro s hs9
  obtain ⟨q, n⟩ := s
  dsimp only at hs9 ⊢
  obtain ⟨hq, hn1, hn2⟩ := hs9
  refine aw_seq_region ?_
  refine sr_c (x_lt rfl rfl) (fun h5 => ?_) (fun h5 => ?_)
  · refine sr_nil ?_
    refine aw_kp [0, 1, 4, 5, 39, 40, 41, 42] ?_
    refine aw_seq ?_
    refine aw_true rfl ?_
    refine aw_skip ?_
    show AW _ _ _ _ _ _ _
    refine aw_seq ?_
    refine aw_block ?_
    refine aw_seq_region ?_
    obtain ⟨x, hx⟩ := get_ex (show q < (w :: ws).length by omega)
    obtain ⟨bx, ox, hax, hcx⟩ := hV.at_ q _ hx
    have hxb := hbd x (List.mem_of_getElem? hx)
    refine sr_rd (x_indexAddrN q Tryd.underlying49 sz9 rfl hax rfl (by omega) (by omega)) ?_
    refine sr_rd (x_load ag9 rfl (Cells.mono hcx Sub.autoE)) ?_
    refine sr_as ?_
    refine sr_nil ?_
    refine aw_kp [0, 1, 4, 5, 7, 39, 40, 41, 42, 43, 44] ?_
    refine aw_seq ?_
    refine aw_seq_region ?_
    refine sr_mv ?_
    refine sr_rd (x_lenB Tryd.underlying9 rfl) ?_
    refine sr_mv ?_
    refine sr_rd (x_sub' rfl rfl (i64w (by omega) (by omega))) ?_
    refine sr_c (x_gt rfl rfl) (fun h6 => absurd h6 (by first | omega | decide)) (fun h6 => ?_)
    refine sr_nil ?_
    refine aw_kp [0, 1, 4, 5, 7, 39, 40, 41, 42, 43, 44, 45, 46, 47, 48, 49] ?_
    refine aw_false rfl ?_
    refine aw_skip ?_
    show AW _ _ _ _ _ _ _
    refine aw_region ?_
    refine sr_mv ?_
    refine sr_mv ?_
    refine sr_rd (x_lenB Tryd.underlying9 rfl) ?_
    refine sr_rd (x_cast (u := .int .i64 ((n + x.length : Nat) : Int)) (x_add' rfl rfl (i64w (by omega) (by omega))) (congrArg (Value.int .i64) (by omega))) ?_
    refine sr_as ?_
    refine sr_nil ?_
    show AW _ _ _ _ _ _ _
    refine aw_region ?_
    refine sr_rd (x_add' rfl rfl (i64w (by omega) (by omega))) ?_
    refine sr_mv ?_
    refine sr_nil ?_
    show ∃ s', _ ∧ _ ∧ _ ∧ _
    exact ⟨(q + 1, n + x.length), ⟨by dsimp only; omega, by dsimp only; omega, by dsimp only; omega⟩, by dsimp only; omega, KeepF.auto, Sub.autoP⟩
  · refine sr_nil ?_
    refine aw_kp [0, 1, 4, 5, 39, 40, 41, 42] ?_
    refine aw_seq ?_
    refine aw_false rfl ?_
    refine aw_exit ?_
    show AW _ _ _ _ _ _ _
    refine aw_seq_region ?_
    refine sr_new rfl (wtd_none rfl) rfl (x_alloc zr100 rfl) ?_
    intro r18_0 hr18_0 gr18_0
    refine sr_nil ?_
    refine aw_kp [0, 1, 4, 5, 8] ?_
    refine aw_seq_region ?_
    refine sr_mv ?_
    refine sr_d rfl (wtd_none rfl) rfl (opS_call rfl rfl rfl rfl cl86 (AC.sub Sub.autoP (grow_s r18_0 n (E ++ G) (by omega) (by omega)))) ?_
    rintro _ _ ⟨r, cs, hc1, hc2, rfl⟩
    have V0 : OwnVec 1 5 (.slice (some ⟨r, 0, none⟩) 0 cs.length) ([] : List UInt8).length (byC []) [(r, .cells cs.toArray 5 (0, 0))] := OwnVec.mk (L := []) (post := cs) rfl (by omega) (Nat.zero_le _) hc2
    refine sr_nil ?_
    refine aw_kp [0, 1, 4, 8] ?_
    refine aw_seq_region ?_
    refine sr_mv ?_
    refine sr_rd (x_indexAddrN 0 Tryd.underlying49 sz9 rfl haw rfl (by omega) (by rw [List.length_cons]; omega)) ?_
    refine sr_rd (x_load ag9 rfl (Cells.mono hcw Sub.autoE)) ?_
    refine sr_d rfl (wtd_none rfl) rfl (opS_call rfl rfl rfl rfl cl59 (AC.sub Sub.autoP (write_s r18_0 (selfP r18_0) (.slice (some ⟨r, 0, none⟩) 0 cs.length) [] w [(r, .cells cs.toArray 5 (0, 0))] (E ++ G) (.inr rfl) V0 (by rw [List.length_nil]; omega)))) ?_
    rintro _ _ ⟨a2, c2, E2, V2, rfl⟩
    refine sr_nil ?_
    refine aw_kp [0, 1, 4, 8] ?_
    refine aw_seq ?_
    refine aw_seq_region ?_
    refine sr_mv ?_
    refine sr_rd (x_sliceLo Tryd.underlying49 sz9 rfl rfl (by omega) (by rw [List.length_cons]; omega) (by rw [List.length_cons]; omega)) ?_
    refine sr_rd (x_lenSlice Tryd.underlying49 rfl) ?_
    refine sr_mv ?_
    refine sr_nil ?_
    refine aw_kp [1, 4, 8, 63, 64, 65] ?_
    refine aw_block ?_
    refine aw_loop (ι := JnG) (fun s => s.k ≤ ws.length ∧ 0 < (joinW c (w :: ws.take s.k)).length ∧ OwnVec 1 5 s.sl (joinW c (w :: ws.take s.k)).length (byC (joinW c (w :: ws.take s.k))) s.E) (fun s => [(1, .string (bs [c])), (4, .string (bs [])), (8, selfP r18_0), (63, .slice (some ⟨b, if cap = (1 : Int).toNat then 0 else 0 + (1 : Int).toNat * 1, none⟩) ((w :: ws).length - (1 : Int).toNat) (cap - (1 : Int).toNat)), (64, .int .i64 ((w :: ws).length - (1 : Int).toNat : Nat)), (65, .int .i64 (s.k : Nat))]) (fun s => s.E ++ ((r18_0, .cells (bldC (selfP r18_0) (s.sl)).toArray 100 (0, 0)) :: (E ++ G))) (fun s => ws.length - s.k) ⟨0, .slice a2 ([] ++ w).length c2, E2⟩ (⟨Nat.zero_le _, hwp, V2⟩) KeepF.auto Sub.autoP ?_
    intro s hs9
    obtain ⟨k, sl, EB⟩ := s
    dsimp only at hs9 ⊢
    obtain ⟨hk, hjp, VB⟩ := hs9
    refine aw_seq_region ?_
    refine sr_c (x_lt rfl rfl) (fun h7 => ?_) (fun h7 => ?_)
    · refine sr_nil ?_
      refine aw_kp [1, 4, 8, 63, 64, 65, 66] ?_
      refine aw_seq ?_
      refine aw_true rfl ?_
      refine aw_skip ?_
      show AW _ _ _ _ _ _ _
      refine aw_seq ?_
      refine aw_block ?_
      refine aw_seq_region ?_
      obtain ⟨x, hx⟩ := get_ex (show k < ws.length by omega)
      obtain ⟨bx, ox, hax, hcx⟩ := (hrest (W0 := W0) (Sub.refl _)).at_ k _ hx
      have hxb := hbd x (List.mem_cons_of_mem _ (List.mem_of_getElem? hx))
      have hjb := joinW_bd (c := c) (ws := w :: ws.take k) (by intro y hy; rw [List.mem_cons] at hy; rcases hy with rfl | hy; exact hwb; exact hbd y (List.mem_cons_of_mem _ (List.mem_of_mem_take hy)))
      rw [List.length_cons, List.length_take] at hjb
      refine sr_rd (x_indexAddrN k Tryd.underlying49 sz9 rfl hax rfl (by omega) (by omega)) ?_
      refine sr_rd (x_load ag9 rfl (Cells.mono hcx Sub.autoE)) ?_
      refine sr_as ?_
      refine sr_nil ?_
      refine aw_kp [1, 4, 8, 10, 63, 64, 65, 66, 67, 68] ?_
      refine aw_seq_region ?_
      refine sr_mv ?_
      refine sr_d rfl (wtd_none rfl) rfl (opS_call rfl rfl rfl rfl cl59 (AC.sub Sub.autoP (write_s r18_0 (selfP r18_0) sl (joinW c (w :: ws.take k)) [c] EB (E ++ G) (.inr rfl) VB (by rw [List.length_singleton]; omega)))) ?_
      rintro _ _ ⟨a4, c4, E4, V4, rfl⟩
      have hjl : ((joinW c (w :: ws.take k)) ++ [c]).length = (joinW c (w :: ws.take k)).length + 1 := by rw [List.length_append]; rfl
      refine sr_nil ?_
      refine aw_kp [1, 4, 8, 10, 63, 64, 65, 66, 67, 68, 69] ?_
      refine aw_region ?_
      refine sr_mv ?_
      refine sr_d rfl (wtd_none rfl) rfl (opS_call rfl rfl rfl rfl cl59 (AC.sub Sub.autoP (write_s r18_0 (selfP r18_0) (.slice a4 ((joinW c (w :: ws.take k)) ++ [c]).length c4) ((joinW c (w :: ws.take k)) ++ [c]) x E4 (E ++ G) (.inr rfl) V4 (by omega)))) ?_
      rintro _ _ ⟨a5, c5, E5, V5, rfl⟩
      refine sr_nil ?_
      show AW _ _ _ _ _ _ _
      refine aw_region ?_
      refine sr_rd (x_add' rfl rfl (i64w (by omega) (by omega))) ?_
      refine sr_mv ?_
      refine sr_nil ?_
      show ∃ s', _ ∧ _ ∧ _ ∧ _
      exact ⟨⟨k + 1, .slice a5 (((joinW c (w :: ws.take k)) ++ [c]) ++ x).length c5, E5⟩, ⟨by dsimp only; omega, (by dsimp only; rw [joinW_up hx, List.length_append]; omega), (by dsimp only; rw [joinW_up hx]; exact V5)⟩, by dsimp only; omega, KeepF.auto, Sub.autoP⟩
    · refine sr_nil ?_
      refine aw_kp [1, 4, 8, 63, 64, 65, 66] ?_
      refine aw_seq ?_
      refine aw_false rfl ?_
      refine aw_exit ?_
      show AW _ _ _ _ _ _ _
      refine aw_seq_region ?_
      have hjb := joinW_bd (c := c) (ws := w :: ws.take k) (by intro y hy; rw [List.mem_cons] at hy; rcases hy with rfl | hy; exact hwb; exact hbd y (List.mem_cons_of_mem _ (List.mem_of_mem_take hy)))
      rw [List.length_cons, List.length_take] at hjb
      obtain ⟨a3, c3, rfl⟩ := VB.isSl
      refine sr_d rfl (wtd_none rfl) rfl (opS_call rfl rfl rfl rfl cl60 (AC.sub Sub.autoP (string_s r18_0 (selfP r18_0) a3 c3 (joinW c (w :: ws.take k)) EB (E ++ G) VB (fun q => absurd q (by omega)) (by omega)))) ?_
      rintro _ _ ⟨rfl, rfl⟩
      refine sr_as ?_
      refine sr_nil ?_
      refine aw_kp [4] ?_
      refine aw_ret ?_
      show ∃ v H2, ResV _ _ _ _ _ _ v ∧ Sub H2 _ ∧ _
      exact ⟨_, (E ++ G), resV rfl (.cons rfl .nil), Sub.autoP, ⟨congrArg (fun l => Value.string (bs l)) (by rw [List.take_of_length_le (by omega)]), rfl⟩⟩
theorem join_s (c : UInt8) (ws : List (List UInt8)) (a : Option Addr) (cap : Nat) (E G : SHeap) (V : OwnVec 1 9 (.slice a ws.length cap) ws.length (ws.flatMap strC) E) (hwl : ws.length ≤ 100) (hw0 : ∀ w ∈ ws, w ≠ []) (hbd : ∀ x ∈ ws, x.length ≤ 100) :
    AC Tryd.prog W0 73 [.slice a ws.length cap, .string (bs [c])] (E ++ G) (fun v H' => v = .string (bs (joinW c (ws))) ∧ H' = E ++ G) := by
  cases ws with
  | nil => exact join0_s c a cap (E ++ G)
  | cons w ws =>
    cases ws with
    | nil => exact join1_s c w a cap E G V
    | cons v ws =>
      obtain ⟨b, rfl, _⟩ := slv_rest V
      exact joinN_s c w (v :: ws) b cap E G V (by simp) (by simp at hwl ⊢; omega) (hw0 w List.mem_cons_self) hbd
set_option maxRecDepth 100000 in
set_option maxHeartbeats 2000000 in
theorem text_s (sa : Option Addr) (scap : Nat) (l : List Part) (H : SHeap) (hs : SlV W0 H 3 Part.cells sa scap l) (hw : ∀ x ∈ l, WfP x) (hl : l.length ≤ 100) : AC Tryd.prog W0 50 [.slice sa l.length scap] H (fun v H' => v = .string (bs (txtP l)) ∧ H' = H) := by
  have hle := hs.le
  have hcb := hs.capb
  refine ac_of Tryd.func50 rfl rfl rfl ?_
  refine aw_seq_region ?_
  refine sr_as ?_
  refine sr_nil ?_
  refine aw_kp [0, 2] ?_
  refine aw_seq_region ?_
  refine sr_as ?_
  refine sr_nil ?_
  refine aw_kp [0, 2, 3] ?_
  refine aw_seq ?_
  refine aw_seq_region ?_
  refine sr_mv ?_
  refine sr_rd (x_lenSlice Tryd.underlying62 rfl) ?_
  refine sr_mv ?_
  refine sr_nil ?_
  refine aw_kp [2, 3, 7, 8, 9] ?_
  refine aw_block ?_
  refine aw_loop (ι := JnG) (fun s => s.k ≤ l.length ∧ OwnVec 1 9 s.sl ((l.take s.k).map pTxt).length (((l.take s.k).map pTxt).flatMap strC) s.E) (fun s => [(2, .string (bs [])), (3, s.sl), (7, .slice sa l.length scap), (8, .int .i64 l.length), (9, .int .i64 (s.k : Nat))]) (fun s => s.E ++ H) (fun s => l.length - s.k) ⟨0, .slice none 0 0, []⟩ (⟨Nat.zero_le _, .nil⟩) KeepF.auto Sub.autoP ?_
  intro s hs9
  obtain ⟨k, sl, E⟩ := s
  dsimp only at hs9 ⊢
  obtain ⟨hk, V⟩ := hs9
  obtain ⟨a1, c1, rfl⟩ := V.isSl
  have hml : ((l.take k).map pTxt).length = k := by rw [List.length_map, List.length_take]; omega
  refine aw_seq_region ?_
  refine sr_c (x_lt rfl rfl) (fun h1 => ?_) (fun h1 => ?_)
  · refine sr_nil ?_
    refine aw_kp [2, 3, 7, 8, 9, 10] ?_
    refine aw_seq ?_
    refine aw_true rfl ?_
    refine aw_skip ?_
    show AW _ _ _ _ _ _ _
    refine aw_seq ?_
    refine aw_block ?_
    refine aw_seq_region ?_
    obtain ⟨x, hx⟩ := get_ex (show k < l.length by omega)
    obtain ⟨bx, ox, hax, hcx⟩ := hs.at_ k _ hx
    have hwx := hw x (List.mem_of_getElem? hx)
    have n1 := numB_len hwx.1.1 hwx.1.2
    have n2 := numB_len hwx.2.1.1 hwx.2.1.2
    have n3 := numB_len hwx.2.2.1 hwx.2.2.2
    refine sr_rd (x_indexAddrN k Tryd.underlying62 sz67 rfl hax rfl (by omega) (by omega)) ?_
    refine sr_rd (x_loadN ag67 sz67 rfl (Cells.mono hcx Sub.autoR) rfl) ?_
    refine sr_new rfl (wtd_none rfl) rfl (x_alloc zr67 rfl) ?_
    intro r4_2 hr4_2 gr4_2
    refine sr_x0 rfl (wtd_none rfl) (x_store sz67 rfl rfl rfl rfl rfl Repl.auto Spl.auto) ?_
    refine sr_nil ?_
    refine aw_kp [2, 3, 5, 7, 8, 9, 10, 11, 12] ?_
    refine aw_seq_region ?_
    refine sr_rd (x_fieldAddr fd67_0 rfl) ?_
    refine sr_rd (x_load ag3 rfl (cells_ext mauto Ext.auto)) ?_
    refine sr_d rfl (wtd_none rfl) rfl (opS_call rfl rfl rfl rfl cl27 (number_s x.from_ hwx.1 _)) ?_
    rintro _ H9 ⟨rfl, rfl⟩
    refine sr_as ?_
    refine sr_nil ?_
    refine aw_kp [2, 3, 5, 6, 7, 8, 9, 10, 11, 12, 13, 14, 15] ?_
    refine aw_seq ?_
    refine aw_seq_region ?_
    refine sr_rd (x_fieldAddr fd67_1 rfl) ?_
    refine sr_rd (x_load ag3 rfl (cells_ext mauto Ext.auto)) ?_
    refine sr_rd (x_fieldAddr fd67_0 rfl) ?_
    refine sr_rd (x_load ag3 rfl (cells_ext mauto Ext.auto)) ?_
    refine sr_c (x_ne rfl rfl) (fun h2 => ?_) (fun h2 => ?_)
    · refine sr_nil ?_
      refine aw_kp [2, 3, 5, 6, 7, 8, 9, 10, 11, 12, 13, 14, 15, 16, 17, 18, 19, 20] ?_
      refine aw_true rfl ?_
      refine aw_region ?_
      refine sr_mv ?_
      refine sr_rd (x_fieldAddr fd67_1 rfl) ?_
      refine sr_rd (x_load ag3 rfl (cells_ext mauto Ext.auto)) ?_
      refine sr_d rfl (wtd_none rfl) rfl (opS_call rfl rfl rfl rfl cl27 (number_s x.to_ hwx.2.1 _)) ?_
      rintro _ H9 ⟨rfl, rfl⟩
      refine sr_rd (x_catB rfl rfl (by first | omega | (simp only [List.length_append, List.length_cons, List.length_nil]; omega))) ?_
      refine sr_rd (x_catB rfl rfl (by first | omega | (simp only [List.length_append, List.length_cons, List.length_nil]; omega))) ?_
      refine sr_as ?_
      refine sr_nil ?_
      show AW _ _ _ _ _ _ _
      refine aw_seq ?_
      refine aw_seq_region ?_
      refine sr_rd (x_fieldAddr fd67_2 rfl) ?_
      refine sr_rd (x_load ag3 rfl (cells_ext mauto Ext.auto)) ?_
      refine sr_c (x_ne rfl rfl) (fun h3 => ?_) (fun h3 => ?_)
      · refine sr_nil ?_
        refine aw_kp [2, 3, 5, 6, 7, 8, 9, 10, 11, 12, 13, 14, 15, 16, 17, 18, 19, 20, 21, 22, 23, 24, 25, 26, 27, 28, 29] ?_
        refine aw_true rfl ?_
        refine aw_region ?_
        refine sr_mv ?_
        refine sr_rd (x_fieldAddr fd67_2 rfl) ?_
        refine sr_rd (x_load ag3 rfl (cells_ext mauto Ext.auto)) ?_
        refine sr_d rfl (wtd_none rfl) rfl (opS_call rfl rfl rfl rfl cl27 (number_s x.step hwx.2.2 _)) ?_
        rintro _ H9 ⟨rfl, rfl⟩
        refine sr_rd (x_catB rfl rfl (by first | omega | (simp only [List.length_append, List.length_cons, List.length_nil]; omega))) ?_
        refine sr_rd (x_catB rfl rfl (by first | omega | (simp only [List.length_append, List.length_cons, List.length_nil]; omega))) ?_
        refine sr_as ?_
        refine sr_nil ?_
        show AW _ _ _ _ _ _ _
        refine aw_region ?_
        refine sr_mv ?_
        refine sr_mv ?_
        refine sr_new rfl (wtd_none rfl) rfl (x_buildSlice Tryd.underlying49 sz9 zr9 rfl rfl rfl rfl Parts.auto Fill.auto) ?_
        intro r10_2 hr10_2 gr10_2
        refine sr_d rfl (wtd_none rfl) rfl (opS_append (G := (r4_2, .cells (Part.cells x).toArray 67 (0, 0)) :: H) (N := (strC ((numB x.from_ ++ ([45] ++ numB x.to_)) ++ ([58] ++ numB x.step)))) (m := 1) Tryd.underlying49 sz9 zr9 rfl by9 rfl rfl V Sub.autoP (.inr ⟨_, _, rfl, (cells_ext mauto Ext.auto)⟩) (rfl) rfl (by omega) (by omega)) ?_
        rintro v39 _ ⟨E39, hV39, rfl⟩
        rw [show ((numB x.from_ ++ ([45] ++ numB x.to_)) ++ ([58] ++ numB x.step)) = pTxt x from by unfold pTxt; rw [if_pos (by omega), if_pos (by omega)]; simp] at hV39
        obtain ⟨a39, cap39, rfl⟩ := hV39.isSl
        refine sr_as ?_
        refine sr_nil ?_
        show AW _ _ _ _ _ _ _
        refine aw_region ?_
        refine sr_rd (x_add' rfl rfl (i64w (by omega) (by omega))) ?_
        refine sr_mv ?_
        refine sr_nil ?_
        show ∃ s', _ ∧ _ ∧ _ ∧ _
        exact ⟨⟨k + 1, .slice a39 (((l.take k).map pTxt).length + 1) cap39, E39⟩, ⟨by dsimp only; omega, (by dsimp only; rw [map_take_snoc hx]; have h9 := hV39.snocS; generalize ((l.take k).map pTxt) = Y at h9 ⊢; rw [List.length_append] at h9 ⊢; exact h9)⟩, by dsimp only; omega, KeepF.auto, Sub.autoP⟩
      · refine sr_nil ?_
        refine aw_kp [2, 3, 5, 6, 7, 8, 9, 10, 11, 12, 13, 14, 15, 16, 17, 18, 19, 20, 21, 22, 23, 24, 25, 26, 27, 28, 29] ?_
        refine aw_false rfl ?_
        refine aw_skip ?_
        show AW _ _ _ _ _ _ _
        refine aw_region ?_
        refine sr_mv ?_
        refine sr_mv ?_
        refine sr_new rfl (wtd_none rfl) rfl (x_buildSlice Tryd.underlying49 sz9 zr9 rfl rfl rfl rfl Parts.auto Fill.auto) ?_
        intro r10_2 hr10_2 gr10_2
        refine sr_d rfl (wtd_none rfl) rfl (opS_append (G := (r4_2, .cells (Part.cells x).toArray 67 (0, 0)) :: H) (N := (strC (numB x.from_ ++ ([45] ++ numB x.to_)))) (m := 1) Tryd.underlying49 sz9 zr9 rfl by9 rfl rfl V Sub.autoP (.inr ⟨_, _, rfl, (cells_ext mauto Ext.auto)⟩) (rfl) rfl (by omega) (by omega)) ?_
        rintro v39 _ ⟨E39, hV39, rfl⟩
        rw [show (numB x.from_ ++ ([45] ++ numB x.to_)) = pTxt x from by unfold pTxt; rw [if_pos (by omega), if_neg (by omega)]; simp] at hV39
        obtain ⟨a39, cap39, rfl⟩ := hV39.isSl
        refine sr_as ?_
        refine sr_nil ?_
        show AW _ _ _ _ _ _ _
        refine aw_region ?_
        refine sr_rd (x_add' rfl rfl (i64w (by omega) (by omega))) ?_
        refine sr_mv ?_
        refine sr_nil ?_
        show ∃ s', _ ∧ _ ∧ _ ∧ _
        exact ⟨⟨k + 1, .slice a39 (((l.take k).map pTxt).length + 1) cap39, E39⟩, ⟨by dsimp only; omega, (by dsimp only; rw [map_take_snoc hx]; have h9 := hV39.snocS; generalize ((l.take k).map pTxt) = Y at h9 ⊢; rw [List.length_append] at h9 ⊢; exact h9)⟩, by dsimp only; omega, KeepF.auto, Sub.autoP⟩
    · refine sr_nil ?_
      refine aw_kp [2, 3, 5, 6, 7, 8, 9, 10, 11, 12, 13, 14, 15, 16, 17, 18, 19, 20] ?_
      refine aw_false rfl ?_
      refine aw_skip ?_
      show AW _ _ _ _ _ _ _
      refine aw_seq ?_
      refine aw_seq_region ?_
      refine sr_rd (x_fieldAddr fd67_2 rfl) ?_
      refine sr_rd (x_load ag3 rfl (cells_ext mauto Ext.auto)) ?_
      refine sr_c (x_ne rfl rfl) (fun h4 => ?_) (fun h4 => ?_)
      · refine sr_nil ?_
        refine aw_kp [2, 3, 5, 6, 7, 8, 9, 10, 11, 12, 13, 14, 15, 16, 17, 18, 19, 20, 27, 28, 29] ?_
        refine aw_true rfl ?_
        refine aw_region ?_
        refine sr_mv ?_
        refine sr_rd (x_fieldAddr fd67_2 rfl) ?_
        refine sr_rd (x_load ag3 rfl (cells_ext mauto Ext.auto)) ?_
        refine sr_d rfl (wtd_none rfl) rfl (opS_call rfl rfl rfl rfl cl27 (number_s x.step hwx.2.2 _)) ?_
        rintro _ H9 ⟨rfl, rfl⟩
        refine sr_rd (x_catB rfl rfl (by first | omega | (simp only [List.length_append, List.length_cons, List.length_nil]; omega))) ?_
        refine sr_rd (x_catB rfl rfl (by first | omega | (simp only [List.length_append, List.length_cons, List.length_nil]; omega))) ?_
        refine sr_as ?_
        refine sr_nil ?_
        show AW _ _ _ _ _ _ _
        refine aw_region ?_
        refine sr_mv ?_
        refine sr_mv ?_
        refine sr_new rfl (wtd_none rfl) rfl (x_buildSlice Tryd.underlying49 sz9 zr9 rfl rfl rfl rfl Parts.auto Fill.auto) ?_
        intro r10_2 hr10_2 gr10_2
        refine sr_d rfl (wtd_none rfl) rfl (opS_append (G := (r4_2, .cells (Part.cells x).toArray 67 (0, 0)) :: H) (N := (strC ((numB x.from_) ++ ([58] ++ numB x.step)))) (m := 1) Tryd.underlying49 sz9 zr9 rfl by9 rfl rfl V Sub.autoP (.inr ⟨_, _, rfl, (cells_ext mauto Ext.auto)⟩) (rfl) rfl (by omega) (by omega)) ?_
        rintro v39 _ ⟨E39, hV39, rfl⟩
        rw [show ((numB x.from_) ++ ([58] ++ numB x.step)) = pTxt x from by unfold pTxt; rw [if_neg (by omega), if_pos (by omega)]; simp] at hV39
        obtain ⟨a39, cap39, rfl⟩ := hV39.isSl
        refine sr_as ?_
        refine sr_nil ?_
        show AW _ _ _ _ _ _ _
        refine aw_region ?_
        refine sr_rd (x_add' rfl rfl (i64w (by omega) (by omega))) ?_
        refine sr_mv ?_
        refine sr_nil ?_
        show ∃ s', _ ∧ _ ∧ _ ∧ _
        exact ⟨⟨k + 1, .slice a39 (((l.take k).map pTxt).length + 1) cap39, E39⟩, ⟨by dsimp only; omega, (by dsimp only; rw [map_take_snoc hx]; have h9 := hV39.snocS; generalize ((l.take k).map pTxt) = Y at h9 ⊢; rw [List.length_append] at h9 ⊢; exact h9)⟩, by dsimp only; omega, KeepF.auto, Sub.autoP⟩
      · refine sr_nil ?_
        refine aw_kp [2, 3, 5, 6, 7, 8, 9, 10, 11, 12, 13, 14, 15, 16, 17, 18, 19, 20, 27, 28, 29] ?_
        refine aw_false rfl ?_
        refine aw_skip ?_
        show AW _ _ _ _ _ _ _
        refine aw_region ?_
        refine sr_mv ?_
        refine sr_mv ?_
        refine sr_new rfl (wtd_none rfl) rfl (x_buildSlice Tryd.underlying49 sz9 zr9 rfl rfl rfl rfl Parts.auto Fill.auto) ?_
        intro r10_2 hr10_2 gr10_2
        refine sr_d rfl (wtd_none rfl) rfl (opS_append (G := (r4_2, .cells (Part.cells x).toArray 67 (0, 0)) :: H) (N := (strC (numB x.from_))) (m := 1) Tryd.underlying49 sz9 zr9 rfl by9 rfl rfl V Sub.autoP (.inr ⟨_, _, rfl, (cells_ext mauto Ext.auto)⟩) (rfl) rfl (by omega) (by omega)) ?_
        rintro v39 _ ⟨E39, hV39, rfl⟩
        rw [show (numB x.from_) = pTxt x from by unfold pTxt; rw [if_neg (by omega), if_neg (by omega)]; simp] at hV39
        obtain ⟨a39, cap39, rfl⟩ := hV39.isSl
        refine sr_as ?_
        refine sr_nil ?_
        show AW _ _ _ _ _ _ _
        refine aw_region ?_
        refine sr_rd (x_add' rfl rfl (i64w (by omega) (by omega))) ?_
        refine sr_mv ?_
        refine sr_nil ?_
        show ∃ s', _ ∧ _ ∧ _ ∧ _
        exact ⟨⟨k + 1, .slice a39 (((l.take k).map pTxt).length + 1) cap39, E39⟩, ⟨by dsimp only; omega, (by dsimp only; rw [map_take_snoc hx]; have h9 := hV39.snocS; generalize ((l.take k).map pTxt) = Y at h9 ⊢; rw [List.length_append] at h9 ⊢; exact h9)⟩, by dsimp only; omega, KeepF.auto, Sub.autoP⟩
  · refine sr_nil ?_
    refine aw_kp [2, 3, 7, 8, 9, 10] ?_
    refine aw_seq ?_
    refine aw_false rfl ?_
    refine aw_exit ?_
    show AW _ _ _ _ _ _ _
    refine aw_seq_region ?_
    rw [List.take_of_length_le (show l.length ≤ k by omega)] at V ⊢
    refine sr_mv ?_
    refine sr_d rfl (wtd_none rfl) rfl (opS_call rfl rfl rfl rfl cl73 (join_s 44 (l.map pTxt) a1 c1 E H V (by rw [List.length_map]; omega) (fun w hw9 => by rw [List.mem_map] at hw9; obtain ⟨p, _, rfl⟩ := hw9; exact pTxt_ne) (fun w hw9 => by rw [List.mem_map] at hw9; obtain ⟨p, hp, rfl⟩ := hw9; have := pTxt_len (hw p hp); omega))) ?_
    rintro _ _ ⟨rfl, rfl⟩
    refine sr_as ?_
    refine sr_nil ?_
    refine aw_kp [2] ?_
    refine aw_ret ?_
    show ∃ v H2, ResV _ _ _ _ _ _ v ∧ Sub H2 _ ∧ _
    exact ⟨_, H, resV rfl (.cons rfl .nil), Sub.autoP, ⟨rfl, rfl⟩⟩
end
end Go.Proofs.YtbcajgkaepihfaaDoor
