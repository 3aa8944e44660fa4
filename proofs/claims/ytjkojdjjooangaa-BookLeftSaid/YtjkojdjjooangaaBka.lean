/- Books: entries, spans, places. -/
import Derived.Test.YtjkojdjjooangaaSpn
import Derived.Test.YtjkojdjjooangaaSymDel
import Derived.Test.YtjkojdjjooangaaBookLaw
namespace Go.Proofs.Ytjkojdjjooangaa
open Go.Proofs.Ytjkojdjjooangaa.Sym
open Go.RowKit (Below)
set_option linter.unusedVariables false
set_option linter.unusedSimpArgs false
theorem all_oneB (xs : List BEnt) : (xs.flatMap BEnt.cells).all oneCell = true := all_flat (fun _ => rfl) xs
@[reducible] def bkB (b : Nat) (sl : Value) (n : Int) : Nat × Obj := (b, .cells [sl, .int .i64 n].toArray 139 (0, 0))
@[reducible] def bpB (b : Nat) (sl : Value) (n : Int) : Nat × Obj := (b, .cells [sl, .int .i64 n].toArray 124 (0, 0))
theorem ba_empty {s : ByteArray} (h : s.size = 0) : s = .empty := by
  obtain ⟨d⟩ := s
  have : d = #[] := Array.size_eq_zero_iff.1 h
  subst this; rfl
structure BvG where
  k : Nat
  C : List PSpan
  a : Option Addr
  c : Nat
  E : SHeap
structure BeG where
  k : Nat
  C : List BEnt
  a : Option Addr
  c : Nat
  E : SHeap
structure DlG (α : Type) where
  m : Nat
  k : Nat
  C : List α
theorem ent_cells {B : List BEnt} {i : Nat} {e : BEnt} (hi : i ≤ B.length) : (B.flatMap BEnt.cells).take (i * 4) ++ BEnt.cells e ++ (B.flatMap BEnt.cells).drop (i * 4) = (B.take i ++ e :: B.drop i).flatMap BEnt.cells := by
  have h : B.flatMap BEnt.cells = (B.take i).flatMap BEnt.cells ++ (B.drop i).flatMap BEnt.cells := by
    conv => lhs; rw [← List.take_append_drop i B]
    rw [List.flatMap_append]
  have hl : ((B.take i).flatMap BEnt.cells).length = i * 4 := by rw [flat_len (n := 4) (fun _ => rfl), List.length_take, Nat.min_eq_left hi]
  rw [h, List.take_left' hl, List.drop_left' hl, List.flatMap_append, List.flatMap_cons, List.append_assoc]
/-- What Add does. -/
inductive AddB (B : List BEnt) (n : Int) (e : BEnt) : Int → List BEnt → Prop
  | arg : ¬ bR e → AddB B n e 1 B
  | twice : bR e → (∃ x ∈ B, x.name = e.name) → AddB B n e 13 B
  | long : bR e → (∀ x ∈ B, x.name ≠ e.name) → 64 ≤ B.length → AddB B n e 3 B
  | full : bR e → (∀ x ∈ B, x.name ≠ e.name) → ¬ 64 ≤ B.length → ¬ RoomC B n e.sp → AddB B n e 6 B
  | ok : bR e → (∀ x ∈ B, x.name ≠ e.name) → ¬ 64 ≤ B.length → RoomC B n e.sp → AddB B n e 0 (insB e B)
theorem AddB.uniq {B B1 B2 : List BEnt} {n r s : Int} {e : BEnt} (h : AddB B n e r B1) (k : AddB B n e s B2) : r = s ∧ B1 = B2 := by
  have no : ∀ {x : BEnt}, (∀ x ∈ B, x.name ≠ e.name) → x ∈ B → x.name = e.name → False := fun h hx e => h _ hx e
  cases h with
  | arg h => cases k with
    | arg => exact ⟨rfl, rfl⟩
    | twice k => exact absurd k h
    | long k => exact absurd k h
    | full k => exact absurd k h
    | ok k => exact absurd k h
  | twice h h2 => obtain ⟨x, hx, hxe⟩ := h2; cases k with
    | arg k => exact absurd h k
    | twice => exact ⟨rfl, rfl⟩
    | long k k2 => exact (no k2 hx hxe).elim
    | full k k2 => exact (no k2 hx hxe).elim
    | ok k k2 => exact (no k2 hx hxe).elim
  | long h h2 h3 => cases k with
    | arg k => exact absurd h k
    | twice k k2 => obtain ⟨x, hx, hxe⟩ := k2; exact (no h2 hx hxe).elim
    | long => exact ⟨rfl, rfl⟩
    | full k k2 k3 => exact absurd h3 k3
    | ok k k2 k3 => exact absurd h3 k3
  | full h h2 h3 h4 => cases k with
    | arg k => exact absurd h k
    | twice k k2 => obtain ⟨x, hx, hxe⟩ := k2; exact (no h2 hx hxe).elim
    | long k k2 k3 => exact absurd k3 h3
    | full => exact ⟨rfl, rfl⟩
    | ok k k2 k3 k4 => exact absurd k4 h4
  | ok h h2 h3 h4 => cases k with
    | arg k => exact absurd h k
    | twice k k2 => obtain ⟨x, hx, hxe⟩ := k2; exact (no h2 hx hxe).elim
    | long k k2 k3 => exact absurd k3 h3
    | full k k2 k3 k4 => exact absurd h4 k4
    | ok => exact ⟨rfl, rfl⟩
/-- What a book keeps. -/
structure BkI (B : List BEnt) (n : Int) : Prop where
  ok : ∀ e ∈ B, bR e
  srt : BSrt B
  len : B.length ≤ 64
  room : ∀ t, atB B t ≤ n
structure BfG where
  k : Nat
  put : Bool
  C : List BEnt
  a : Option Addr
  c : Nat
  E : SHeap
theorem own_set0 {b c n : Nat} {D : List BEnt} {post : List Value} (hd : D.length = n) (hp : post.length = (c - n) * 4) (hn : n ≤ c) (hc : c ≤ 9223372036854775807) : OwnVec 4 128 (.slice (some ⟨b, 0, none⟩) D.length c) D.length (D.flatMap BEnt.cells) [(b, .cells (D.flatMap BEnt.cells ++ post).toArray 128 (0, 0))] := by
  subst hd
  exact .mk (flat_len (n := 4) (enc := BEnt.cells) (fun _ => rfl) _) hp hn hc
theorem gon_cnt {nm : ByteArray} {now : Int} {ended : Bool} {B : List BEnt} {k : Nat} {e : BEnt} (he : B[k]? = some e) : ((B.take (k + 1)).length : Int) - (gonL nm now ended (B.take (k + 1))).length = ((B.take k).length : Int) - (gonL nm now ended (B.take k)).length + if gonP nm now ended e = true then 1 else 0 := by
  rw [gonL_take he, takeS he, List.length_append, List.length_append]
  split <;> simp <;> omega
theorem ag122 : aggOf Try.prog 122 = some false := by kernel_rfl
theorem ag128 : aggOf Try.prog 128 = some true := by kernel_rfl
theorem ag9 : aggOf Try.prog 9 = some false := by kernel_rfl
theorem by128 : bytesOf Try.prog 128 = some 40 := by kernel_rfl
theorem by55 : bytesOf Try.prog 55 = some 24 := by kernel_rfl
theorem cl116 : Callable Try.prog 116 := ⟨Try.f116, Try.func116, by kernel_rfl, by kernel_rfl⟩
theorem cl120 : Callable Try.prog 120 := ⟨Try.f120, Try.func120, by kernel_rfl, by kernel_rfl⟩
theorem cl122 : Callable Try.prog 122 := ⟨Try.f122, Try.func122, by kernel_rfl, by kernel_rfl⟩
theorem cl142 : Callable Try.prog 142 := ⟨Try.f142, Try.func142, by kernel_rfl, by kernel_rfl⟩
theorem cl83 : Callable Try.prog 83 := ⟨Try.f83, Try.func83, by kernel_rfl, by kernel_rfl⟩
theorem exf140 : Extern.find Try.f140 = some (Extern.SlicesOverlaps.overlaps Try.f140.params Try.f140.resultTypes) := by kernel_rfl
theorem exn140 : Extern.findNext Try.f140 = none := by kernel_rfl
theorem fd128_0 : fldOf Try.prog 128 0 = some (0, 9, 1) := by kernel_rfl
theorem fd128_1 : fldOf Try.prog 128 1 = some (1, 55, 3) := by kernel_rfl
theorem fd139_0 : fldOf Try.prog 139 0 = some (0, 122, 1) := by kernel_rfl
theorem fd139_1 : fldOf Try.prog 139 1 = some (1, 3, 1) := by kernel_rfl
theorem fl139 : flds Try.prog 139 = some [(0, 1), (1, 1)] := by kernel_rfl
theorem sz128 : szOf Try.prog 128 = some 4 := by kernel_rfl
theorem zr128 : zeroOf Try.prog 128 = some (.agg #[.string .empty, .int .i64 0, .int .i64 0, .int .i64 0]) := by kernel_rfl
theorem zr139 : zeroOf Try.prog 139 = some (.agg #[.slice none 0 0, .int .i64 0]) := by kernel_rfl
section
variable {W0 : World}
set_option maxRecDepth 100000 in
set_option maxHeartbeats 400000 in
theorem bnone_s (bk : Nat) (a : Option Addr) (cap : Nat) (B : List BEnt) (nodes : Int) (H : SHeap) (hc : Cells W0 H bk 0 [.slice a B.length cap, .int .i64 nodes]) (hs : SlV W0 H 4 BEnt.cells a cap B) (hn : 1 ≤ nodes ∧ nodes ≤ 64) (hl : B.length ≤ 64) : AC Try.prog W0 116 [.pointer (some ⟨bk, 0, none⟩)] H (fun v H' => v = .bool false ∧ H' = H) := by
  refine ac_of Try.func116 rfl rfl rfl ?_
  refine aw_seq_region ?_
  refine sr_as ?_
  refine sr_nil ?_
  refine aw_kp [0, 2] ?_
  refine aw_seq_region ?_
  refine sr_mv ?_
  refine sr_rd (x_eqnil Try.underlying118 rfl rfl) ?_
  refine sr_mv ?_
  refine sr_ry (x_move rfl) ?_
  refine sr_ry (x_nilCheck rfl) ?_
  refine sr_ry (x_fieldAddr fd139_1 rfl) ?_
  refine sr_ry (x_load ag3 rfl (cells_get (Cells.mono hc Sub.autoR) 1 rfl)) ?_
  refine sr_cy (x_eq rfl rfl) (fun h1 => absurd h1 (by first | omega | decide)) (fun h1 => ?_)
  refine sr_rd (x_pick_f rfl rfl rfl) ?_
  refine sr_as ?_
  refine sr_nil ?_
  refine aw_kp [2] ?_
  refine aw_ret ?_
  show ∃ v H2, ResV _ _ _ _ _ _ v ∧ Sub H2 _ ∧ _
  exact ⟨_, H, resV rfl (.cons rfl .nil), (by repeat (first | exact Sub.refl _ | apply Sub.drop)), ⟨rfl, rfl⟩⟩
set_option maxRecDepth 100000 in
set_option maxHeartbeats 400000 in
theorem bnoneN_s (H : SHeap) : AC Try.prog W0 116 [.pointer none] H (fun v H' => v = .bool true ∧ H' = H) := by
  refine ac_of Try.func116 rfl rfl rfl ?_
  refine aw_seq_region ?_
  refine sr_as ?_
  refine sr_nil ?_
  refine aw_kp [0, 2] ?_
  refine aw_seq_region ?_
  refine sr_mv ?_
  refine sr_rd (x_eqnil Try.underlying118 rfl rfl) ?_
  refine sr_mv ?_
  refine sr_sk ?_
  refine sr_sk ?_
  refine sr_sk ?_
  refine sr_sk ?_
  refine sr_sk ?_
  refine sr_rd (x_pick_t rfl rfl rfl) ?_
  refine sr_as ?_
  refine sr_nil ?_
  refine aw_kp [2] ?_
  refine aw_ret ?_
  show ∃ v H2, ResV _ _ _ _ _ _ v ∧ Sub H2 _ ∧ _
  exact ⟨_, H, resV rfl (.cons rfl .nil), (by repeat (first | exact Sub.refl _ | apply Sub.drop)), ⟨rfl, rfl⟩⟩
set_option maxRecDepth 100000 in
set_option maxHeartbeats 400000 in
theorem bnoneZ_s (z : Nat) (H : SHeap) (hc : Cells W0 H z 0 [.slice none 0 0, .int .i64 0]) : AC Try.prog W0 116 [.pointer (some ⟨z, 0, none⟩)] H (fun v H' => v = .bool true ∧ H' = H) := by
  refine ac_of Try.func116 rfl rfl rfl ?_
  refine aw_seq_region ?_
  refine sr_as ?_
  refine sr_nil ?_
  refine aw_kp [0, 2] ?_
  refine aw_seq_region ?_
  refine sr_mv ?_
  refine sr_rd (x_eqnil Try.underlying118 rfl rfl) ?_
  refine sr_mv ?_
  refine sr_ry (x_move rfl) ?_
  refine sr_ry (x_nilCheck rfl) ?_
  refine sr_ry (x_fieldAddr fd139_1 rfl) ?_
  refine sr_ry (x_load ag3 rfl (cells_get (Cells.mono hc Sub.autoR) 1 rfl)) ?_
  refine sr_cy (x_eq rfl rfl) (fun h1 => ?_) (fun h1 => absurd (by first | omega | decide) h1)
  refine sr_rd (x_pick_f rfl rfl rfl) ?_
  refine sr_as ?_
  refine sr_nil ?_
  refine aw_kp [2] ?_
  refine aw_ret ?_
  show ∃ v H2, ResV _ _ _ _ _ _ v ∧ Sub H2 _ ∧ _
  exact ⟨_, H, resV rfl (.cons rfl .nil), (by repeat (first | exact Sub.refl _ | apply Sub.drop)), ⟨rfl, rfl⟩⟩
set_option maxRecDepth 100000 in
set_option maxHeartbeats 400000 in
theorem bnew_s (n : Int) (H : SHeap) (h : 1 ≤ n ∧ n ≤ 64) : AC Try.prog W0 114 [.int .i64 n] H (fun v H' => ∃ p, v = .tuple #[.pointer (some ⟨p, 0, none⟩), .int .i64 0] ∧ H' = bkB p (.slice none 0 0) n :: H) := by
  refine ac_of Try.func114 rfl rfl rfl ?_
  refine aw_seq_region ?_
  refine sr_as ?_
  refine sr_as ?_
  refine sr_nil ?_
  refine aw_kp [0, 2, 3] ?_
  refine aw_seq ?_
  refine aw_seq_region ?_
  refine sr_mv ?_
  refine sr_c (x_lt rfl rfl) (fun h1 => absurd h1 (by first | omega | decide)) (fun h1 => ?_)
  refine sr_mv ?_
  refine sr_ry (x_move rfl) ?_
  refine sr_cy (x_gt rfl rfl) (fun h2 => absurd h2 (by first | omega | decide)) (fun h2 => ?_)
  refine sr_rd (x_pick_f rfl rfl rfl) ?_
  refine sr_nil ?_
  refine aw_kp [0, 2, 3, 9] ?_
  refine aw_false rfl ?_
  refine aw_skip ?_
  show AW _ _ _ _ _ _ _
  refine aw_seq_region ?_
  refine sr_mv ?_
  refine sr_rd (x_build zr139 rfl fl139 Parts.auto Fill.auto) ?_
  refine sr_new rfl (wtd_none rfl) rfl (x_box rfl rfl) ?_
  intro r3_2 hr3_2 gr3_2
  refine sr_as ?_
  refine sr_as ?_
  refine sr_nil ?_
  refine aw_kp [2, 3] ?_
  refine aw_ret ?_
  show ∃ v H2, ResV _ _ _ _ _ _ v ∧ Sub H2 _ ∧ _
  exact ⟨_, _, resV rfl (.cons rfl (.cons rfl .nil)), Sub.autoP, ⟨r3_2, rfl, rfl⟩⟩
set_option maxRecDepth 100000 in
set_option maxHeartbeats 400000 in
theorem bnewBad_s (n : Int) (H : SHeap) (h : ¬ (1 ≤ n ∧ n ≤ 64)) : AC Try.prog W0 114 [.int .i64 n] H (fun v H' => v = .tuple #[.pointer none, .int .i64 1] ∧ H' = H) := by
  refine ac_of Try.func114 rfl rfl rfl ?_
  refine aw_seq_region ?_
  refine sr_as ?_
  refine sr_as ?_
  refine sr_nil ?_
  refine aw_kp [0, 2, 3] ?_
  refine aw_seq ?_
  refine aw_seq_region ?_
  refine sr_mv ?_
  refine sr_c (x_lt rfl rfl) (fun h1 => ?_) (fun h1 => ?_)
  · refine sr_mv ?_
    refine sr_sk ?_
    refine sr_sk ?_
    refine sr_rd (x_pick_t rfl rfl rfl) ?_
    refine sr_nil ?_
    refine aw_kp [0, 2, 3, 9] ?_
    refine aw_true rfl ?_
    refine aw_seq_region ?_
    refine sr_as ?_
    refine sr_as ?_
    refine sr_nil ?_
    refine aw_kp [0, 2, 3] ?_
    refine aw_ret ?_
    show ∃ v H2, ResV _ _ _ _ _ _ v ∧ Sub H2 _ ∧ _
    exact ⟨_, H, resV rfl (.cons rfl (.cons rfl .nil)), (by repeat (first | exact Sub.refl _ | apply Sub.drop)), ⟨rfl, rfl⟩⟩
  · refine sr_mv ?_
    refine sr_ry (x_move rfl) ?_
    refine sr_cy (x_gt rfl rfl) (fun h2 => ?_) (fun h2 => absurd (by first | omega | decide) h2)
    refine sr_rd (x_pick_f rfl rfl rfl) ?_
    refine sr_nil ?_
    refine aw_kp [0, 2, 3, 9] ?_
    refine aw_true rfl ?_
    refine aw_seq_region ?_
    refine sr_as ?_
    refine sr_as ?_
    refine sr_nil ?_
    refine aw_kp [0, 2, 3] ?_
    refine aw_ret ?_
    show ∃ v H2, ResV _ _ _ _ _ _ v ∧ Sub H2 _ ∧ _
    exact ⟨_, H, resV rfl (.cons rfl (.cons rfl .nil)), (by repeat (first | exact Sub.refl _ | apply Sub.drop)), ⟨rfl, rfl⟩⟩
set_option maxRecDepth 100000 in
set_option maxHeartbeats 1000000 in
theorem bfind_s (bk : Nat) (a : Option Addr) (cap : Nat) (B : List BEnt) (nodes : Int) (H : SHeap) (hc : Cells W0 H bk 0 [.slice a B.length cap, .int .i64 nodes]) (hs : SlV W0 H 4 BEnt.cells a cap B) (hn : 1 ≤ nodes ∧ nodes ≤ 64) (hl : B.length ≤ 64) (nm : ByteArray) : AC Try.prog W0 117 [.pointer (some ⟨bk, 0, none⟩), .string nm] H (fun v H' => (∃ i b, v = .tuple #[.int .i64 (i : Nat), .bool b] ∧ Fnd B nm i b) ∧ H' = H) := by
  have hle := hs.le
  have hcb := hs.capb
  refine ac_of Try.func117 rfl rfl rfl ?_
  refine aw_seq_region ?_
  refine sr_as ?_
  refine sr_as ?_
  refine sr_nil ?_
  refine aw_kp [0, 1, 4, 5] ?_
  refine aw_seq_region ?_
  refine sr_as ?_
  refine sr_nil ?_
  refine aw_kp [0, 1, 4, 5, 6] ?_
  refine aw_seq ?_
  refine aw_block ?_
  refine aw_loop (ι := Nat) (fun k => k ≤ B.length ∧ ∀ j x, j < k → B[j]? = some x → bless x.name nm = true) (fun k => [(0, .pointer (some ⟨bk, 0, none⟩)), (1, .string nm), (6, .int .i64 k)]) (fun _ => H) (fun k => B.length - k) 0 (⟨Nat.zero_le _, fun j x h => by omega⟩) KeepF.auto Sub.autoP ?_
  intro k hk9
  obtain ⟨hk, hok⟩ := hk9
  refine aw_seq ?_
  refine aw_seq_region ?_
  refine sr_mv ?_
  refine sr_mv ?_
  refine sr_rd (x_nilCheck rfl) ?_
  refine sr_rd (x_fieldAddr fd139_0 rfl) ?_
  refine sr_rd (x_load ag122 rfl (cells_get (Cells.mono hc Sub.autoR) 0 rfl)) ?_
  refine sr_rd (x_lenSlice Try.underlying122 rfl) ?_
  refine sr_c (x_lt rfl rfl) (fun h1 => ?_) (fun h1 => ?_)
  · refine sr_mv ?_
    refine sr_ry (x_move rfl) ?_
    refine sr_ry (x_nilCheck rfl) ?_
    refine sr_ry (x_fieldAddr fd139_0 rfl) ?_
    obtain ⟨x, hx⟩ := get_ex (show k < B.length by omega)
    obtain ⟨bx, ox, hax, hcx⟩ := hs.at_ _ _ hx
    refine sr_ry (x_load ag122 rfl (cells_get (Cells.mono hc Sub.autoR) 0 rfl)) ?_
    refine sr_ry (x_move rfl) ?_
    refine sr_ry (x_indexAddrN (k) Try.underlying122 sz128 rfl hax rfl (by omega) (by omega)) ?_
    refine sr_ry (x_fieldAddr fd128_0 rfl) ?_
    refine sr_ry (x_load ag9 rfl (cells_get (Cells.mono hcx Sub.autoR) 0 rfl)) ?_
    refine sr_ry (x_move rfl) ?_
    refine sr_cy (x_ltS rfl rfl) (fun h2 => ?_) (fun h2 => ?_)
    · refine sr_rd (x_pick_t rfl rfl rfl) ?_
      refine sr_nil ?_
      refine aw_kp [0, 1, 6, 7, 8, 9, 10, 11, 12, 13, 14, 15, 16, 17, 18, 19, 20, 21, 22, 23, 24, 25] ?_
      refine aw_true rfl ?_
      refine aw_skip ?_
      show AW _ _ _ _ _ _ _
      refine aw_block ?_
      refine aw_region ?_
      refine sr_mv ?_
      refine sr_rd (x_add' rfl rfl (i64w (by omega) (by omega))) ?_
      refine sr_as ?_
      refine sr_nil ?_
      show ∃ s', _ ∧ _ ∧ _ ∧ _
      exact ⟨k + 1, ⟨by omega, fun j y h hy => by (rcases Nat.lt_or_eq_of_le (Nat.le_of_lt_succ h) with q | q); (exact hok j y q hy); (subst q; rw [hx] at hy; cases hy; assumption)⟩, by omega, KeepF.auto, Sub.autoR⟩
    · refine sr_rd (x_pick_t rfl rfl rfl) ?_
      refine sr_nil ?_
      refine aw_kp [0, 1, 6, 7, 8, 9, 10, 11, 12, 13, 14, 15, 16, 17, 18, 19, 20, 21, 22, 23, 24, 25] ?_
      refine aw_false rfl ?_
      refine aw_exit ?_
      show AW _ _ _ _ _ _ _
      refine aw_seq_dr ⟨_, 22, 48, [[], [], [], [2], [2, 3], [2, 3, 4], [2, 3, 4, 5], [1, 2, 3, 4, 5, 6], [1, 2, 3, 4, 5, 6, 7], [1, 2, 3, 4, 5, 6, 7, 8], [1, 2, 3, 4, 5, 6, 7, 8, 9], [1, 2, 3, 4, 5, 6, 7, 8, 9, 10], [1, 2, 3, 4, 5, 6, 7, 8, 9, 10, 11], [1, 2, 3, 4, 5, 6, 7, 8], [1, 2, 3, 4, 5, 6, 7, 8, 9, 10, 11, 12, 13], [1, 2, 3, 4, 5, 6, 7, 8, 9, 10, 11, 12, 13, 14], [1, 2, 3, 4, 5, 6, 7, 8, 9, 10, 11, 12, 13, 14, 15], [1, 2, 3, 4, 5, 6, 7, 8], [1, 2, 3, 4, 5, 6, 7, 8, 9, 10, 11, 12, 13, 14, 15, 16, 17], [1, 2, 3, 4, 5, 6, 7, 8, 9, 10, 11, 12, 13, 14, 15, 16, 17, 18], [0, 1, 2, 3, 4, 5, 6, 7, 8], [0, 1, 2, 3, 4, 5, 6, 7, 8, 9, 10, 11, 12, 13, 14, 15, 16, 17, 18, 19, 20]], [.light, .light, .light, .light, .light, .mem, .light, .light, .light, .light, .light, .light, .mem, .light, .light, .light, .mem, .light, .light, .light, .light, .light]⟩ (by kernel_rfl) rfl rfl mix ?_
      refine dr_l (x_move rfl) ?_
      refine dr_l (x_move rfl) ?_
      refine dr_l (x_move rfl) ?_
      refine dr_l (x_nilCheck rfl) ?_
      refine dr_l (x_fieldAddr fd139_0 rfl) ?_
      refine dr_mem0 rfl rfl (wtd_none rfl) (x_load ag122 rfl (cells_get (Cells.mono hc Sub.autoR) 0 rfl)) ?_
      refine dr_l (x_lenSlice Try.underlying122 rfl) ?_
      refine dr_cmp rfl rfl (wtd_none rfl) (x_lt rfl rfl) (fun h3 => ?_) (fun h3 => absurd (by first | omega | decide) h3)
      refine dr_l (x_move rfl) ?_
      refine dr_y (x_move rfl) ?_
      refine dr_y (x_nilCheck rfl) ?_
      refine dr_y (x_fieldAddr fd139_0 rfl) ?_
      refine dr_mem0 rfl rfl (wtd_yes rfl rfl rfl) (x_load ag122 rfl (cells_get (Cells.mono hc Sub.autoR) 0 rfl)) ?_
      refine dr_y (x_move rfl) ?_
      refine dr_y (x_indexAddrN (k) Try.underlying122 sz128 rfl hax rfl (by omega) (by omega)) ?_
      refine dr_y (x_fieldAddr fd128_0 rfl) ?_
      refine dr_mem0 rfl rfl (wtd_yes rfl rfl rfl) (x_load ag9 rfl (cells_get (Cells.mono hcx Sub.autoR) 0 rfl)) ?_
      refine dr_y (x_move rfl) ?_
      refine dr_cmp rfl rfl (wtd_yes rfl rfl rfl) (x_eqS rfl rfl) (fun h4 => ?_) (fun h4 => ?_)
      · refine dr_l (x_pick_t rfl rfl rfl) ?_
        refine dr_l (x_assign rfl) ?_
        refine dr_l (x_assign rfl) ?_
        refine dr_nil0 ?_
        refine aw_kp [4, 5] ?_
        refine aw_ret ?_
        show ∃ v H2, ResV _ _ _ _ _ _ v ∧ Sub H2 _ ∧ _
        first | exact ⟨_, H, resV rfl (.cons rfl (.cons rfl .nil)), Sub.refl _, ⟨k, true, rfl, ⟨hk, hok, fun y hy => by (rw [hx] at hy; cases hy; exact Bool.eq_false_iff.2 (by assumption)), ⟨fun _ => ⟨x, hx, by assumption⟩, fun _ => rfl⟩⟩⟩, rfl⟩ | exact ⟨_, H, resV rfl (.cons rfl (.cons rfl .nil)), Sub.refl _, ⟨k, false, rfl, ⟨hk, hok, fun y hy => by (rw [hx] at hy; cases hy; exact Bool.eq_false_iff.2 (by assumption)), ⟨fun h => (by cases h), fun ⟨y, hy, hy2⟩ => by (rw [hx] at hy; cases hy; exact absurd hy2 (by assumption))⟩⟩⟩, rfl⟩ | exact ⟨_, H, resV rfl (.cons rfl (.cons rfl .nil)), Sub.refl _, ⟨k, false, rfl, ⟨hk, hok, fun y hy => absurd (get_lt hy) (by omega), ⟨fun h => (by cases h), fun ⟨y, hy, _⟩ => absurd (get_lt hy) (by omega)⟩⟩⟩, rfl⟩
      · refine dr_l (x_pick_t rfl rfl rfl) ?_
        refine dr_l (x_assign rfl) ?_
        refine dr_l (x_assign rfl) ?_
        refine dr_nil0 ?_
        refine aw_kp [4, 5] ?_
        refine aw_ret ?_
        show ∃ v H2, ResV _ _ _ _ _ _ v ∧ Sub H2 _ ∧ _
        first | exact ⟨_, H, resV rfl (.cons rfl (.cons rfl .nil)), Sub.refl _, ⟨k, true, rfl, ⟨hk, hok, fun y hy => by (rw [hx] at hy; cases hy; exact Bool.eq_false_iff.2 (by assumption)), ⟨fun _ => ⟨x, hx, by assumption⟩, fun _ => rfl⟩⟩⟩, rfl⟩ | exact ⟨_, H, resV rfl (.cons rfl (.cons rfl .nil)), Sub.refl _, ⟨k, false, rfl, ⟨hk, hok, fun y hy => by (rw [hx] at hy; cases hy; exact Bool.eq_false_iff.2 (by assumption)), ⟨fun h => (by cases h), fun ⟨y, hy, hy2⟩ => by (rw [hx] at hy; cases hy; exact absurd hy2 (by assumption))⟩⟩⟩, rfl⟩ | exact ⟨_, H, resV rfl (.cons rfl (.cons rfl .nil)), Sub.refl _, ⟨k, false, rfl, ⟨hk, hok, fun y hy => absurd (get_lt hy) (by omega), ⟨fun h => (by cases h), fun ⟨y, hy, _⟩ => absurd (get_lt hy) (by omega)⟩⟩⟩, rfl⟩
  · refine sr_mv ?_
    refine sr_sk ?_
    refine sr_sk ?_
    refine sr_sk ?_
    refine sr_sk ?_
    refine sr_sk ?_
    refine sr_sk ?_
    refine sr_sk ?_
    refine sr_sk ?_
    refine sr_sk ?_
    refine sr_sk ?_
    refine sr_rd (x_pick_f rfl rfl rfl) ?_
    refine sr_nil ?_
    refine aw_kp [0, 1, 6, 7, 8, 9, 10, 11, 12, 13, 14, 15, 16, 17, 18, 19, 20, 21, 22, 23, 24, 25] ?_
    refine aw_false rfl ?_
    refine aw_exit ?_
    show AW _ _ _ _ _ _ _
    refine aw_seq_dr ⟨_, 22, 48, [[], [], [], [2], [2, 3], [2, 3, 4], [2, 3, 4, 5], [1, 2, 3, 4, 5, 6], [1, 2, 3, 4, 5, 6, 7], [1, 2, 3, 4, 5, 6, 7, 8], [1, 2, 3, 4, 5, 6, 7, 8, 9], [1, 2, 3, 4, 5, 6, 7, 8, 9, 10], [1, 2, 3, 4, 5, 6, 7, 8, 9, 10, 11], [1, 2, 3, 4, 5, 6, 7, 8], [1, 2, 3, 4, 5, 6, 7, 8, 9, 10, 11, 12, 13], [1, 2, 3, 4, 5, 6, 7, 8, 9, 10, 11, 12, 13, 14], [1, 2, 3, 4, 5, 6, 7, 8, 9, 10, 11, 12, 13, 14, 15], [1, 2, 3, 4, 5, 6, 7, 8], [1, 2, 3, 4, 5, 6, 7, 8, 9, 10, 11, 12, 13, 14, 15, 16, 17], [1, 2, 3, 4, 5, 6, 7, 8, 9, 10, 11, 12, 13, 14, 15, 16, 17, 18], [0, 1, 2, 3, 4, 5, 6, 7, 8], [0, 1, 2, 3, 4, 5, 6, 7, 8, 9, 10, 11, 12, 13, 14, 15, 16, 17, 18, 19, 20]], [.light, .light, .light, .light, .light, .mem, .light, .light, .light, .light, .light, .light, .mem, .light, .light, .light, .mem, .light, .light, .light, .light, .light]⟩ (by kernel_rfl) rfl rfl mix ?_
    refine dr_l (x_move rfl) ?_
    refine dr_l (x_move rfl) ?_
    refine dr_l (x_move rfl) ?_
    refine dr_l (x_nilCheck rfl) ?_
    refine dr_l (x_fieldAddr fd139_0 rfl) ?_
    refine dr_mem0 rfl rfl (wtd_none rfl) (x_load ag122 rfl (cells_get (Cells.mono hc Sub.autoR) 0 rfl)) ?_
    refine dr_l (x_lenSlice Try.underlying122 rfl) ?_
    refine dr_cmp rfl rfl (wtd_none rfl) (x_lt rfl rfl) (fun h5 => absurd h5 (by first | omega | decide)) (fun h5 => ?_)
    refine dr_l (x_move rfl) ?_
    refine dr_sk ?_
    refine dr_sk ?_
    refine dr_sk ?_
    refine dr_sk ?_
    refine dr_sk ?_
    refine dr_sk ?_
    refine dr_sk ?_
    refine dr_sk ?_
    refine dr_sk ?_
    refine dr_sk ?_
    refine dr_l (x_pick_f rfl rfl rfl) ?_
    refine dr_l (x_assign rfl) ?_
    refine dr_l (x_assign rfl) ?_
    refine dr_nil0 ?_
    refine aw_kp [4, 5] ?_
    refine aw_ret ?_
    show ∃ v H2, ResV _ _ _ _ _ _ v ∧ Sub H2 _ ∧ _
    first | exact ⟨_, H, resV rfl (.cons rfl (.cons rfl .nil)), Sub.refl _, ⟨k, true, rfl, ⟨hk, hok, fun y hy => by (rw [hx] at hy; cases hy; exact Bool.eq_false_iff.2 (by assumption)), ⟨fun _ => ⟨x, hx, by assumption⟩, fun _ => rfl⟩⟩⟩, rfl⟩ | exact ⟨_, H, resV rfl (.cons rfl (.cons rfl .nil)), Sub.refl _, ⟨k, false, rfl, ⟨hk, hok, fun y hy => by (rw [hx] at hy; cases hy; exact Bool.eq_false_iff.2 (by assumption)), ⟨fun h => (by cases h), fun ⟨y, hy, hy2⟩ => by (rw [hx] at hy; cases hy; exact absurd hy2 (by assumption))⟩⟩⟩, rfl⟩ | exact ⟨_, H, resV rfl (.cons rfl (.cons rfl .nil)), Sub.refl _, ⟨k, false, rfl, ⟨hk, hok, fun y hy => absurd (get_lt hy) (by omega), ⟨fun h => (by cases h), fun ⟨y, hy, _⟩ => absurd (get_lt hy) (by omega)⟩⟩⟩, rfl⟩
set_option maxRecDepth 100000 in
set_option maxHeartbeats 400000 in
theorem bclone_s (a : Option Addr) (cap : Nat) (xs : List BEnt) (H : SHeap) (hs : SlV W0 H 4 BEnt.cells a cap xs) (hjl : xs.length ≤ 1000000) : AC Try.prog W0 120 [.slice a xs.length cap] H (fun v H' => ∃ E2, (∃ a2 cap2, OwnVec 4 128 (.slice a2 xs.length cap2) xs.length (xs.flatMap BEnt.cells) E2 ∧ v = .slice a2 xs.length cap2) ∧ H' = E2 ++ H) := by
  have hfl := flat_len (n := 4) (enc := BEnt.cells) (fun _ => rfl) xs
  have hfn : a.isNone = true → xs.length = 0 := fun h => by rcases hs.flat (fun _ => rfl) (by omega) with ⟨q, _⟩ | ⟨b, off, rfl, _⟩ <;> first | exact q | cases h
  refine ac_of Try.func120 rfl rfl rfl ?_
  refine aw_seq_region ?_
  refine sr_as ?_
  refine sr_nil ?_
  refine aw_kp [0, 2] ?_
  refine aw_seq ?_
  refine aw_seq_region ?_
  refine sr_mv ?_
  refine sr_rd (x_eqnils Try.underlying122 rfl rfl) ?_
  refine sr_nil ?_
  refine aw_kp [0, 2, 4] ?_
  refine aw_cond rfl (fun hb1 => ?_) (fun hb1 => ?_)
  · refine aw_seq_region ?_
    refine sr_as ?_
    refine sr_nil ?_
    refine aw_kp [0, 2] ?_
    refine aw_ret ?_
    show ∃ v H2, ResV _ _ _ _ _ _ v ∧ Sub H2 _ ∧ _
    first | (rw [Nat.zero_add, List.nil_append] at hV7; obtain ⟨a7, cap7, rfl⟩ := hV7.isSl; exact ⟨_, E7 ++ H, resV rfl (.cons rfl .nil), (Sub.refl _), E7, ⟨a7, cap7, hV7, rfl⟩, rfl⟩) | (have hz := hfn (by assumption); have hj0 : xs = [] := List.length_eq_zero_iff.1 hz; subst hj0; exact ⟨_, [] ++ H, resV rfl (.cons rfl .nil), (Sub.refl _), [], ⟨none, 0, .nil, rfl⟩, rfl⟩)
  · refine aw_skip ?_
    show AW _ _ _ _ _ _ _
    refine aw_seq_region ?_
    refine sr_new rfl (wtd_none rfl) rfl (x_buildSlice0 Try.underlying122 sz128 rfl) ?_
    intro r3_0 hr3_0 gr3_0
    refine sr_mv ?_
    refine sr_d rfl (wtd_none rfl) rfl (opS_append (G := H) (N := xs.flatMap BEnt.cells) (m := xs.length) Try.underlying122 sz128 zr128 rfl by128 rfl rfl (OwnVec.mk (r := r3_0) (n := 0) (cap := 0) (L := []) (post := []) rfl rfl (by omega) (by omega)) Sub.autoP (((hs.mono (by repeat (first | exact Sub.refl _ | apply Sub.drop))).flat (fun _ => rfl) (by omega))) (hfl) (all_oneB xs) (by omega) (by omega)) ?_
    rintro v7 _ ⟨E7, hV7, rfl⟩
    refine sr_as ?_
    refine sr_nil ?_
    refine aw_kp [2] ?_
    refine aw_ret ?_
    show ∃ v H2, ResV _ _ _ _ _ _ v ∧ Sub H2 _ ∧ _
    first | (rw [Nat.zero_add, List.nil_append] at hV7; obtain ⟨a7, cap7, rfl⟩ := hV7.isSl; exact ⟨_, E7 ++ H, resV rfl (.cons rfl .nil), (Sub.refl _), E7, ⟨a7, cap7, hV7, rfl⟩, rfl⟩) | (have hz := hfn (by assumption); have hj0 : xs = [] := List.length_eq_zero_iff.1 hz; subst hj0; exact ⟨_, [] ++ H, resV rfl (.cons rfl .nil), (Sub.refl _), [], ⟨none, 0, .nil, rfl⟩, rfl⟩)
set_option maxRecDepth 100000 in
set_option maxHeartbeats 400000 in
theorem bents_s (bk : Nat) (a : Option Addr) (cap : Nat) (B : List BEnt) (nodes : Int) (H : SHeap) (hc : Cells W0 H bk 0 [.slice a B.length cap, .int .i64 nodes]) (hs : SlV W0 H 4 BEnt.cells a cap B) (hn : 1 ≤ nodes ∧ nodes ≤ 64) (hl : B.length ≤ 64) : AC Try.prog W0 83 [.pointer (some ⟨bk, 0, none⟩)] H (fun v H' => ∃ E2, (∃ a2 c2, OwnVec 4 128 (.slice a2 B.length c2) B.length (B.flatMap BEnt.cells) E2 ∧ v = .slice a2 B.length c2) ∧ H' = E2 ++ H) := by
  refine ac_of Try.func83 rfl rfl rfl ?_
  refine aw_seq_region ?_
  refine sr_as ?_
  refine sr_nil ?_
  refine aw_kp [0, 2] ?_
  refine aw_seq ?_
  refine aw_seq_region ?_
  refine sr_mv ?_
  refine sr_d rfl (wtd_none rfl) rfl (opS_call rfl rfl rfl rfl cl116 (bnone_s bk a cap B nodes _ (Cells.mono hc Sub.autoR) (hs.mono Sub.autoR) hn hl)) ?_
  rintro _ H ⟨rfl, rfl⟩
  refine sr_nil ?_
  refine aw_kp [0, 2, 4] ?_
  refine aw_false rfl ?_
  refine aw_skip ?_
  show AW _ _ _ _ _ _ _
  refine aw_seq_region ?_
  refine sr_mv ?_
  refine sr_rd (x_nilCheck rfl) ?_
  refine sr_rd (x_fieldAddr fd139_0 rfl) ?_
  refine sr_rd (x_load ag122 rfl (cells_get (Cells.mono hc Sub.autoR) 0 rfl)) ?_
  refine sr_d rfl (wtd_none rfl) rfl (opS_call rfl rfl rfl rfl cl120 (bclone_s a cap B _ hs (by omega))) ?_
  rintro _ _ ⟨E2, ⟨a2, c2, V2, rfl⟩, rfl⟩
  refine sr_as ?_
  refine sr_nil ?_
  refine aw_kp [2] ?_
  refine aw_ret ?_
  show ∃ v H2, ResV _ _ _ _ _ _ v ∧ Sub H2 _ ∧ _
  exact ⟨_, _, resV rfl (.cons rfl .nil), Sub.autoP, ⟨E2, ⟨a2, c2, V2, rfl⟩, rfl⟩⟩
set_option maxRecDepth 100000 in
set_option maxHeartbeats 400000 in
theorem bentsN_s (H : SHeap) : AC Try.prog W0 83 [.pointer none] H (fun v H' => v = .slice none 0 0 ∧ H' = H) := by
  refine ac_of Try.func83 rfl rfl rfl ?_
  refine aw_seq_region ?_
  refine sr_as ?_
  refine sr_nil ?_
  refine aw_kp [0, 2] ?_
  refine aw_seq ?_
  refine aw_seq_region ?_
  refine sr_mv ?_
  refine sr_d rfl (wtd_none rfl) rfl (opS_call rfl rfl rfl rfl cl116 (bnoneN_s _)) ?_
  rintro _ H ⟨rfl, rfl⟩
  refine sr_nil ?_
  refine aw_kp [0, 2, 4] ?_
  refine aw_true rfl ?_
  refine aw_seq_region ?_
  refine sr_as ?_
  refine sr_nil ?_
  refine aw_kp [0, 2] ?_
  refine aw_ret ?_
  show ∃ v H2, ResV _ _ _ _ _ _ v ∧ Sub H2 _ ∧ _
  exact ⟨_, H, resV rfl (.cons rfl .nil), (by repeat (first | exact Sub.refl _ | apply Sub.drop)), ⟨rfl, rfl⟩⟩
set_option maxRecDepth 100000 in
set_option maxHeartbeats 400000 in
theorem bentsZ_s (z : Nat) (H : SHeap) (hc : Cells W0 H z 0 [.slice none 0 0, .int .i64 0]) : AC Try.prog W0 83 [.pointer (some ⟨z, 0, none⟩)] H (fun v H' => v = .slice none 0 0 ∧ H' = H) := by
  refine ac_of Try.func83 rfl rfl rfl ?_
  refine aw_seq_region ?_
  refine sr_as ?_
  refine sr_nil ?_
  refine aw_kp [0, 2] ?_
  refine aw_seq ?_
  refine aw_seq_region ?_
  refine sr_mv ?_
  refine sr_d rfl (wtd_none rfl) rfl (opS_call rfl rfl rfl rfl cl116 (bnoneZ_s z _ hc)) ?_
  rintro _ H ⟨rfl, rfl⟩
  refine sr_nil ?_
  refine aw_kp [0, 2, 4] ?_
  refine aw_true rfl ?_
  refine aw_seq_region ?_
  refine sr_as ?_
  refine sr_nil ?_
  refine aw_kp [0, 2] ?_
  refine aw_ret ?_
  show ∃ v H2, ResV _ _ _ _ _ _ v ∧ Sub H2 _ ∧ _
  exact ⟨_, H, resV rfl (.cons rfl .nil), (by repeat (first | exact Sub.refl _ | apply Sub.drop)), ⟨rfl, rfl⟩⟩
set_option maxRecDepth 100000 in
set_option maxHeartbeats 1000000 in
theorem bspans_s (bk : Nat) (a : Option Addr) (cap : Nat) (B : List BEnt) (nodes : Int) (H : SHeap) (hc : Cells W0 H bk 0 [.slice a B.length cap, .int .i64 nodes]) (hs : SlV W0 H 4 BEnt.cells a cap B) (hn : 1 ≤ nodes ∧ nodes ≤ 64) (hl : B.length ≤ 64) : AC Try.prog W0 84 [.pointer (some ⟨bk, 0, none⟩)] H (fun v H' => ∃ E2, (∃ a2 c2, OwnVec 3 55 (.slice a2 (B.map BEnt.sp).length c2) (B.map BEnt.sp).length ((B.map BEnt.sp).flatMap PSpan.cells) E2 ∧ v = .slice a2 (B.map BEnt.sp).length c2) ∧ H' = E2 ++ H) := by
  have hle := hs.le
  have hcb := hs.capb
  refine ac_of Try.func84 rfl rfl rfl ?_
  refine aw_seq_region ?_
  refine sr_as ?_
  refine sr_nil ?_
  refine aw_kp [0, 2] ?_
  refine aw_seq_region ?_
  refine sr_as ?_
  refine sr_nil ?_
  refine aw_kp [0, 2, 3] ?_
  refine aw_seq ?_
  refine aw_seq_region ?_
  refine sr_mv ?_
  refine sr_d rfl (wtd_none rfl) rfl (opS_call rfl rfl rfl rfl cl83 (bents_s bk a cap B nodes _ hc hs hn hl)) ?_
  rintro _ _ ⟨E2, ⟨a2, c2, V2, rfl⟩, rfl⟩
  have hse := V2.slv' (W0 := W0) (fun _ => rfl) rfl (Sub.refl _)
  have hel := hse.le
  have hec := hse.capb
  refine sr_rd (x_lenSlice Try.underlying122 rfl) ?_
  refine sr_mv ?_
  refine sr_nil ?_
  refine aw_kp [2, 3, 7, 8, 9] ?_
  refine aw_block ?_
  refine aw_loop (ι := BvG) (fun s => s.k ≤ B.length ∧ s.C = (B.take s.k).map BEnt.sp ∧ s.C.length = s.k ∧ OwnVec 3 55 (.slice s.a s.C.length s.c) s.C.length (s.C.flatMap PSpan.cells) s.E) (fun s => [(3, .slice s.a s.C.length s.c), (7, .slice a2 B.length c2), (8, .int .i64 B.length), (9, .int .i64 s.k)]) (fun s => s.E ++ (E2 ++ H)) (fun s => B.length - s.k) ⟨0, [], none, 0, []⟩ (⟨Nat.zero_le _, rfl, rfl, .nil⟩) KeepF.auto Sub.autoP ?_
  intro s9 hs9
  obtain ⟨k, C, a3, c3, E3⟩ := s9
  dsimp only at hs9 ⊢
  obtain ⟨hk, hC, hCl, V3⟩ := hs9
  refine aw_seq_region ?_
  refine sr_c (x_lt rfl rfl) (fun h1 => ?_) (fun h1 => ?_)
  · refine sr_nil ?_
    refine aw_kp [3, 7, 8, 9, 10] ?_
    refine aw_seq ?_
    refine aw_true rfl ?_
    refine aw_skip ?_
    show AW _ _ _ _ _ _ _
    refine aw_seq ?_
    refine aw_block ?_
    refine aw_seq_region ?_
    obtain ⟨x, hx⟩ := get_ex (show k < B.length by omega)
    obtain ⟨bx, ox, hax, hcx⟩ := hse.at_ _ _ hx
    refine sr_rd (x_indexAddrN (k) Try.underlying122 sz128 rfl hax rfl (by omega) (by omega)) ?_
    refine sr_rd (x_loadN ag128 sz128 rfl (Cells.mono hcx Sub.autoE) rfl) ?_
    refine sr_new rfl (wtd_none rfl) rfl (x_alloc zr128 rfl) ?_
    intro r4_2 hr4_2 gr4_2
    refine sr_x0 rfl (wtd_none rfl) (x_store sz128 rfl rfl rfl rfl rfl Repl.auto Spl.auto) ?_
    refine sr_nil ?_
    refine aw_kp [3, 5, 7, 8, 9, 10, 11, 12] ?_
    refine aw_region ?_
    refine sr_mv ?_
    refine sr_rd (x_fieldAddr fd128_1 rfl) ?_
    refine sr_rd (x_loadN ag55 sz55 rfl (cells_ext (vs := PSpan.cells x.sp) (n := 3) mauto (by repeat (first | exact Ext.done | apply Ext.take | apply Ext.skip))) rfl) ?_
    refine sr_new rfl (wtd_none rfl) rfl (x_buildSlice Try.underlying34 sz55 zr55 rfl rfl rfl rfl Parts.auto Fill.auto) ?_
    intro r5_3 hr5_3 gr5_3
    refine sr_d rfl (wtd_none rfl) rfl (opS_append (G := (r5_3, .cells (PSpan.cells x.sp).toArray 55 (0, 0)) :: (r4_2, .cells (BEnt.cells x).toArray 128 (0, 0)) :: (E2 ++ H)) (N := (PSpan.cells x.sp)) (m := 1) Try.underlying34 sz55 zr55 rfl by55 rfl rfl V3 Sub.autoP (.inr ⟨_, _, rfl, (cells_ext mauto Ext.auto)⟩) (rfl) rfl (by omega) (by omega)) ?_
    rintro v17 _ ⟨E17, hV17, rfl⟩
    obtain ⟨a17, cap17, rfl⟩ := hV17.isSl
    refine sr_as ?_
    refine sr_nil ?_
    show AW _ _ _ _ _ _ _
    refine aw_region ?_
    refine sr_rd (x_add' rfl rfl (i64w (by omega) (by omega))) ?_
    refine sr_mv ?_
    refine sr_nil ?_
    show ∃ s', _ ∧ _ ∧ _ ∧ _
    exact ⟨⟨k + 1, C ++ [x.sp], a17, cap17, E17⟩, ⟨by dsimp only; omega, (by dsimp only; rw [takeS hx, List.map_append, ← hC]; rfl), (by rw [List.length_append, hCl]; rfl), OwnVec.snocS hV17⟩, by dsimp only; omega, (by rw [List.length_append]; exact KeepF.auto), Sub.autoP⟩
  · refine sr_nil ?_
    refine aw_kp [3, 7, 8, 9, 10] ?_
    refine aw_seq ?_
    refine aw_false rfl ?_
    refine aw_exit ?_
    show AW _ _ _ _ _ _ _
    refine aw_seq_region ?_
    refine sr_mv ?_
    refine sr_as ?_
    refine sr_nil ?_
    refine aw_kp [2] ?_
    refine aw_ret ?_
    show ∃ v H2, ResV _ _ _ _ _ _ v ∧ Sub H2 _ ∧ _
    (rw [List.take_of_length_le (by omega)] at hC); subst hC; exact ⟨_, E3 ++ H, resV rfl (.cons rfl .nil), Sub.autoP, E3, ⟨a3, c3, V3, rfl⟩, rfl⟩
set_option maxRecDepth 100000 in
set_option maxHeartbeats 400000 in
theorem bspansZ_s (z : Nat) (H : SHeap) (hc : Cells W0 H z 0 [.slice none 0 0, .int .i64 0]) : AC Try.prog W0 84 [.pointer (some ⟨z, 0, none⟩)] H (fun v H' => v = .slice none 0 0 ∧ H' = H) := by
  refine ac_of Try.func84 rfl rfl rfl ?_
  refine aw_seq_region ?_
  refine sr_as ?_
  refine sr_nil ?_
  refine aw_kp [0, 2] ?_
  refine aw_seq_region ?_
  refine sr_as ?_
  refine sr_nil ?_
  refine aw_kp [0, 2, 3] ?_
  refine aw_seq ?_
  refine aw_seq_region ?_
  refine sr_mv ?_
  refine sr_d rfl (wtd_none rfl) rfl (opS_call rfl rfl rfl rfl cl83 (bentsZ_s z _ hc)) ?_
  rintro _ H ⟨rfl, rfl⟩
  refine sr_rd (x_lenSlice Try.underlying122 rfl) ?_
  refine sr_mv ?_
  refine sr_nil ?_
  refine aw_kp [2, 3, 7, 8, 9] ?_
  refine aw_block ?_
  refine aw_loop (ι := Unit) (fun _ => True) (fun _ => [(3, .slice none 0 0), (8, .int .i64 ((0 : Nat) : Int)), (9, .int .i64 0)]) (fun _ => H) (fun _ => 0) () (trivial) KeepF.auto (by repeat (first | exact Sub.refl _ | apply Sub.drop)) ?_
  intro _ _
  refine aw_seq_region ?_
  refine sr_c (x_lt rfl rfl) (fun h1 => absurd h1 (by first | omega | decide)) (fun h1 => ?_)
  refine sr_nil ?_
  refine aw_kp [3, 8, 9, 10] ?_
  refine aw_seq ?_
  refine aw_false rfl ?_
  refine aw_exit ?_
  show AW _ _ _ _ _ _ _
  refine aw_seq_region ?_
  refine sr_mv ?_
  refine sr_as ?_
  refine sr_nil ?_
  refine aw_kp [2] ?_
  refine aw_ret ?_
  show ∃ v H2, ResV _ _ _ _ _ _ v ∧ Sub H2 _ ∧ _
  exact ⟨_, H, resV rfl (.cons rfl .nil), (by repeat (first | exact Sub.refl _ | apply Sub.drop)), ⟨rfl, rfl⟩⟩
set_option maxRecDepth 100000 in
set_option maxHeartbeats 2000000 in
theorem bins_sM (r n cap i : Nat) (b : Nat) (L N post : List Value) (G : SHeap) (hL : L.length = n * 4) (hp : post.length = (cap - n) * 4) (hnc : n ≤ cap) (hcap : cap ≤ 9223372036854775807) (hN : N.length = 4) (hN1 : N.all oneCell = true) (hL1 : L.all oneCell = true) (hi : i ≤ n) (hn : n ≤ 1000000) : AC Try.prog W0 119 [.slice (some ⟨b, 0, none⟩) n cap, .int .i64 i, .slice (some ⟨r, 0, none⟩) 1 1] ((b, .cells (L ++ post).toArray 128 (0, 0)) :: (r, .cells N.toArray 128 (0, 0)) :: G) (fun v H' => ∃ a' cap' E', v = .slice a' (n + 1) cap' ∧ OwnVec 4 128 (.slice a' (n + 1) cap') (n + 1) (L.take (i * 4) ++ N ++ L.drop (i * 4)) E' ∧ H' = E' ++ G) := by
  refine ac_of Try.func119 rfl rfl rfl ?_
  refine aw_seq_region ?_
  refine sr_as ?_
  refine sr_nil ?_
  refine aw_kp [0, 1, 2, 6] ?_
  refine aw_seq_region ?_
  refine sr_mv ?_
  refine sr_mv ?_
  refine sr_rd (x_sliceLo Try.underlying122 sz128 rfl rfl (by omega) (by omega) (by omega)) ?_
  refine sr_nil ?_
  refine aw_kp [0, 1, 2, 6] ?_
  refine aw_seq_region ?_
  refine sr_mv ?_
  refine sr_rd (x_lenSlice Try.underlying122 rfl) ?_
  refine sr_as ?_
  refine sr_nil ?_
  refine aw_kp [0, 1, 2, 6, 7] ?_
  refine aw_seq ?_
  refine aw_seq_region ?_
  refine sr_mv ?_
  refine sr_c (x_eq rfl rfl) (fun h1 => absurd h1 (by first | omega | decide)) (fun h1 => ?_)
  refine sr_nil ?_
  refine aw_kp [0, 1, 2, 6, 7, 16] ?_
  refine aw_false rfl ?_
  refine aw_skip ?_
  show AW _ _ _ _ _ _ _
  refine aw_seq_region ?_
  refine sr_mv ?_
  refine sr_rd (x_lenSlice Try.underlying122 rfl) ?_
  refine sr_as ?_
  refine sr_nil ?_
  refine aw_kp [0, 1, 2, 6, 7, 8] ?_
  refine aw_seq ?_
  refine aw_seq_region ?_
  refine sr_mv ?_
  refine sr_mv ?_
  refine sr_c (x_eq rfl rfl) (fun h2 => ?_) (fun h2 => ?_)
  · refine sr_nil ?_
    refine aw_kp [0, 1, 2, 6, 7, 8, 22] ?_
    refine aw_true rfl ?_
    refine aw_seq_region ?_
    refine sr_mv ?_
    refine sr_mv ?_
    refine sr_d rfl (wtd_none rfl) rfl (opS_append (G := G) (N := N) (m := 1) Try.underlying122 sz128 zr128 rfl by128 rfl rfl (OwnVec.mk hL hp hnc hcap) Sub.autoP (.inr ⟨_, _, rfl, (cells_ext mauto Ext.auto)⟩) (by rw [hN, Nat.one_mul]) hN1 (by omega) (by omega)) ?_
    rintro v25 _ ⟨E25, hV25, rfl⟩
    obtain ⟨a25, cap25, rfl⟩ := hV25.isSl
    refine sr_as ?_
    refine sr_nil ?_
    refine aw_kp [0, 1, 2, 6, 7, 8] ?_
    refine aw_ret ?_
    show ∃ v H2, ResV _ _ _ _ _ _ v ∧ Sub H2 _ ∧ _
    first | (rw [← ins_end (i := i) hL (by omega)] at hV25; exact ⟨_, E25 ++ G, resV rfl (.cons rfl .nil), Sub.autoD, a25, cap25, E25, rfl, hV25, rfl⟩) | exact ⟨_, (b2, .cells ((L.take (i * 4) ++ N ++ L.drop (i * 4)) ++ post2).toArray 128 (0, 0)) :: G, resV rfl (.cons rfl .nil), Sub.autoD, some ⟨b2, 0, none⟩, cap40, [(b2, .cells ((L.take (i * 4) ++ N ++ L.drop (i * 4)) ++ post2).toArray 128 (0, 0))], rfl, .mk (ins_len hL hN hi) hp2 hn2 hc2, rfl⟩ | exact ⟨_, (b, .cells ((L.take (i * 4) ++ N ++ L.drop (i * 4)) ++ post.drop 4).toArray 128 (0, 0)) :: G, resV rfl (.cons rfl .nil), Sub.autoD, some ⟨b, 0, none⟩, cap, [(b, .cells ((L.take (i * 4) ++ N ++ L.drop (i * 4)) ++ post.drop 4).toArray 128 (0, 0))], rfl, .mk (ins_len hL hN hi) (by rw [List.length_drop, hp, show cap - n = (cap - (n + 1)) + 1 from by omega, Nat.add_mul]; omega) (by omega) hcap, rfl⟩
  · refine sr_nil ?_
    refine aw_kp [0, 1, 2, 6, 7, 8, 22] ?_
    refine aw_false rfl ?_
    refine aw_skip ?_
    show AW _ _ _ _ _ _ _
    refine aw_seq ?_
    refine aw_seq_region ?_
    refine sr_mv ?_
    refine sr_mv ?_
    refine sr_rd (x_add' rfl rfl (i64w (by omega) (by omega))) ?_
    refine sr_mv ?_
    refine sr_rd (x_capSlice Try.underlying122 rfl) ?_
    refine sr_c (x_gt rfl rfl) (fun h3 => ?_) (fun h3 => ?_)
    · refine sr_nil ?_
      refine aw_kp [0, 1, 2, 6, 7, 8, 31] ?_
      refine aw_true rfl ?_
      refine aw_seq_region ?_
      refine sr_mv ?_
      refine sr_mv ?_
      refine sr_rd (x_sliceHiK i Try.underlying122 sz128 rfl rfl rfl (by omega)) ?_
      refine sr_mv ?_
      refine sr_mv ?_
      refine sr_rd (x_add' rfl rfl (i64w (by omega) (by omega))) ?_
      refine sr_mv ?_
      refine sr_rd (x_sub' rfl rfl (i64w (by omega) (by omega))) ?_
      refine sr_d rfl (wtd_none rfl) rfl (opS_appendMake (m := n + 1 - i) (L := L.take (i * 4)) Try.underlying122 Try.underlying3 sz128 zr128 rfl by128 rfl rfl (by omega) (cells_lt mauto _) (by rw [List.length_take, hL]; exact Nat.min_eq_left (Nat.mul_le_mul_right _ hi)) (by omega) (by omega) (by omega) (by omega)) ?_
      rintro v40 _ ⟨E40, hV40, rfl⟩
      obtain ⟨a40, cap40, rfl⟩ := hV40.isSl
      rw [show i + (n + 1 - i) = n + 1 from by omega] at hV40 ⊢
      obtain ⟨b2, rfl, _⟩ := hV40.pos (by omega)
      obtain ⟨_, _, post2, rfl, hL2, hp2, hn2, hc2⟩ := hV40.blk
      rw [List.singleton_append]
      obtain ⟨cs1, hs1, hs2⟩ := ins_grow (post := post2) hL hN hi (Z := (Builtin.zeroCells (.agg #[.string .empty, .int .i64 0, .int .i64 0, .int .i64 0] : Value).cells (n + 1 - i)).toList) (by rw [zeroCells_len]; rfl)
      refine sr_as ?_
      refine sr_nil ?_
      refine aw_kp [0, 1, 2, 6, 7, 8, 9] ?_
      refine aw_seq_region ?_
      refine sr_mv ?_
      refine sr_mv ?_
      refine sr_rd (x_sliceLoK (i) Try.underlying122 sz128 rfl rfl (by omega) (by omega) (by omega) (by omega)) ?_
      refine sr_mv ?_
      refine sr_d rfl (wtd_none rfl) rfl ((x_copy (m := 1) (N := N) (cs' := cs1) Try.underlying122 sz128 rfl rfl (by show min _ _ = _; omega) (cells_ext mauto Ext.auto) (by rw [hN, Nat.one_mul]) (hN1) Repl.auto (by rw [Nat.zero_add]; exact hs1)).opS) ?_
      rintro _ _ ⟨rfl, rfl⟩
      refine sr_nil ?_
      refine aw_kp [0, 1, 2, 6, 7, 8, 9] ?_
      refine aw_seq_dr ⟨_, 9, 95, [[], [], [], [1, 2], [0, 1, 2, 3], [], [], [5, 6], [0, 1, 2, 3, 4, 5, 6, 7]], [.light, .light, .light, .light, .light, .light, .light, .light, .eff]⟩ (by kernel_rfl) rfl rfl mix ?_
      refine dr_l (x_move rfl) ?_
      refine dr_l (x_move rfl) ?_
      refine dr_l (x_move rfl) ?_
      refine dr_l (x_add' rfl rfl (i64w (by omega) (by omega))) ?_
      refine dr_l (x_sliceLoK (i + 1) Try.underlying122 sz128 rfl rfl (by omega) (by omega) (by omega) (by omega)) ?_
      refine dr_l (x_move rfl) ?_
      refine dr_l (x_move rfl) ?_
      refine dr_l (x_sliceLoK (i) Try.underlying122 sz128 rfl rfl (by omega) (by omega) (by omega) (by omega)) ?_
      refine dr_effE rfl rfl (wtd_none rfl) ((x_copy (m := n - i) (N := L.drop (i * 4)) (cs' := (L.take (i * 4) ++ N ++ L.drop (i * 4)) ++ post2) Try.underlying122 sz128 rfl rfl (by show min _ _ = _; omega) (cells_ld mauto _) (by rw [List.length_drop, hL, ← Nat.sub_mul]) (all_drop hL1) Repl.auto (by rw [Nat.zero_add]; exact hs2)).opSF) (by exact fun hw L => ⟨_, _, ⟨rfl, rfl⟩, hw.1, fun b hb => .inl hb⟩) ?_
      rintro _ _ ⟨rfl, rfl⟩
      refine dr_nil0 ?_
      refine aw_kp [0, 1, 2, 6, 7, 8, 9] ?_
      refine aw_seq_region ?_
      refine sr_mv ?_
      refine sr_as ?_
      refine sr_nil ?_
      refine aw_kp [0, 1, 2, 6, 7, 8] ?_
      refine aw_ret ?_
      show ∃ v H2, ResV _ _ _ _ _ _ v ∧ Sub H2 _ ∧ _
      first | (rw [← ins_end (i := i) hL (by omega)] at hV25; exact ⟨_, E25 ++ G, resV rfl (.cons rfl .nil), Sub.autoD, a25, cap25, E25, rfl, hV25, rfl⟩) | exact ⟨_, (b2, .cells ((L.take (i * 4) ++ N ++ L.drop (i * 4)) ++ post2).toArray 128 (0, 0)) :: G, resV rfl (.cons rfl .nil), Sub.autoD, some ⟨b2, 0, none⟩, cap40, [(b2, .cells ((L.take (i * 4) ++ N ++ L.drop (i * 4)) ++ post2).toArray 128 (0, 0))], rfl, .mk (ins_len hL hN hi) hp2 hn2 hc2, rfl⟩ | exact ⟨_, (b, .cells ((L.take (i * 4) ++ N ++ L.drop (i * 4)) ++ post.drop 4).toArray 128 (0, 0)) :: G, resV rfl (.cons rfl .nil), Sub.autoD, some ⟨b, 0, none⟩, cap, [(b, .cells ((L.take (i * 4) ++ N ++ L.drop (i * 4)) ++ post.drop 4).toArray 128 (0, 0))], rfl, .mk (ins_len hL hN hi) (by rw [List.length_drop, hp, show cap - n = (cap - (n + 1)) + 1 from by omega, Nat.add_mul]; omega) (by omega) hcap, rfl⟩
    · refine sr_nil ?_
      refine aw_kp [0, 1, 2, 6, 7, 8, 31] ?_
      refine aw_false rfl ?_
      refine aw_skip ?_
      show AW _ _ _ _ _ _ _
      refine aw_seq_region ?_
      refine sr_mv ?_
      refine sr_mv ?_
      refine sr_mv ?_
      refine sr_rd (x_add' rfl rfl (i64w (by omega) (by omega))) ?_
      refine sr_rd (x_sliceHiK (n + 1) Try.underlying122 sz128 rfl rfl (by omega) (by omega)) ?_
      refine sr_as ?_
      refine sr_nil ?_
      refine aw_kp [0, 1, 2, 6, 7, 8] ?_
      refine aw_seq ?_
      refine aw_seq_region ?_
      refine sr_mv ?_
      refine sr_mv ?_
      refine sr_mv ?_
      refine sr_mv ?_
      refine sr_rd (x_add' rfl rfl (i64w (by omega) (by omega))) ?_
      refine sr_rd (x_sliceLoK (i + 1) Try.underlying122 sz128 rfl rfl (by omega) (by omega) (by omega) (by omega)) ?_
      refine sr_rd (x_extern (fn := Try.f140) (v := .bool false) rfl rfl rfl Try.func140 (by kernel_rfl) (by kernel_rfl) exn140 exf140 (fun hw => rd_overlaps (t := 122) rfl Try.underlying122 sz128 (wf_ne hw).symm (hw.obj mauto) (hw.obj mauto))) ?_
      refine sr_rd (x_not rfl) ?_
      refine sr_nil ?_
      refine aw_kp [0, 1, 2, 6, 7, 8, 68] ?_
      refine aw_true rfl ?_
      refine aw_seq_dr ⟨_, 9, 95, [[], [], [], [1, 2], [0, 1, 2, 3], [], [], [5, 6], [0, 1, 2, 3, 4, 5, 6, 7]], [.light, .light, .light, .light, .light, .light, .light, .light, .eff]⟩ (by kernel_rfl) rfl rfl mix ?_
      obtain ⟨cs1, hs1, hs2⟩ := ins_room (post := post) hL hN hi (by have : 1 * 4 ≤ (cap - n) * 4 := Nat.mul_le_mul_right _ (by omega); omega)
      refine dr_l (x_move rfl) ?_
      refine dr_l (x_move rfl) ?_
      refine dr_l (x_move rfl) ?_
      refine dr_l (x_add' rfl rfl (i64w (by omega) (by omega))) ?_
      refine dr_l (x_sliceLoK (i + 1) Try.underlying122 sz128 rfl rfl (by omega) (by omega) (by omega) (by omega)) ?_
      refine dr_l (x_move rfl) ?_
      refine dr_l (x_move rfl) ?_
      refine dr_l (x_sliceLoK (i) Try.underlying122 sz128 rfl rfl (by omega) (by omega) (by omega) (by omega)) ?_
      refine dr_effE rfl rfl (wtd_none rfl) ((x_copy (m := n - i) (N := L.drop (i * 4)) (cs' := cs1) Try.underlying122 sz128 rfl rfl (by show min _ _ = _; omega) (cells_ld mauto _) (by rw [List.length_drop, hL, ← Nat.sub_mul]) (all_drop hL1) Repl.auto (by rw [Nat.zero_add]; exact hs1)).opSF) (by exact fun hw L => ⟨_, _, ⟨rfl, rfl⟩, hw.1, fun b hb => .inl hb⟩) ?_
      rintro _ _ ⟨rfl, rfl⟩
      refine dr_nil0 ?_
      refine aw_kp [0, 1, 2, 6, 7, 8] ?_
      refine aw_seq_region ?_
      refine sr_mv ?_
      refine sr_mv ?_
      refine sr_rd (x_sliceLoK (i) Try.underlying122 sz128 rfl rfl (by omega) (by omega) (by omega) (by omega)) ?_
      refine sr_mv ?_
      refine sr_d rfl (wtd_none rfl) rfl ((x_copy (m := 1) (N := N) (cs' := (L.take (i * 4) ++ N ++ L.drop (i * 4)) ++ post.drop 4) Try.underlying122 sz128 rfl rfl (by show min _ _ = _; omega) (cells_ext mauto Ext.auto) (by rw [hN, Nat.one_mul]) (hN1) Repl.auto (by rw [Nat.zero_add]; exact hs2)).opS) ?_
      rintro _ _ ⟨rfl, rfl⟩
      refine sr_nil ?_
      refine aw_kp [0, 1, 2, 6, 7, 8] ?_
      refine aw_seq_region ?_
      refine sr_mv ?_
      refine sr_as ?_
      refine sr_nil ?_
      refine aw_kp [0, 1, 2, 6, 7, 8] ?_
      refine aw_ret ?_
      show ∃ v H2, ResV _ _ _ _ _ _ v ∧ Sub H2 _ ∧ _
      first | (rw [← ins_end (i := i) hL (by omega)] at hV25; exact ⟨_, E25 ++ G, resV rfl (.cons rfl .nil), Sub.autoD, a25, cap25, E25, rfl, hV25, rfl⟩) | exact ⟨_, (b2, .cells ((L.take (i * 4) ++ N ++ L.drop (i * 4)) ++ post2).toArray 128 (0, 0)) :: G, resV rfl (.cons rfl .nil), Sub.autoD, some ⟨b2, 0, none⟩, cap40, [(b2, .cells ((L.take (i * 4) ++ N ++ L.drop (i * 4)) ++ post2).toArray 128 (0, 0))], rfl, .mk (ins_len hL hN hi) hp2 hn2 hc2, rfl⟩ | exact ⟨_, (b, .cells ((L.take (i * 4) ++ N ++ L.drop (i * 4)) ++ post.drop 4).toArray 128 (0, 0)) :: G, resV rfl (.cons rfl .nil), Sub.autoD, some ⟨b, 0, none⟩, cap, [(b, .cells ((L.take (i * 4) ++ N ++ L.drop (i * 4)) ++ post.drop 4).toArray 128 (0, 0))], rfl, .mk (ins_len hL hN hi) (by rw [List.length_drop, hp, show cap - n = (cap - (n + 1)) + 1 from by omega, Nat.add_mul]; omega) (by omega) hcap, rfl⟩
set_option maxRecDepth 100000 in
set_option maxHeartbeats 400000 in
theorem bins_sN (r : Nat) (N : List Value) (G : SHeap) (hN : N.length = 4) (hN1 : N.all oneCell = true) : AC Try.prog W0 119 [.slice none 0 0, .int .i64 ((0 : Nat) : Int), .slice (some ⟨r, 0, none⟩) 1 1] ((r, .cells N.toArray 128 (0, 0)) :: G) (fun v H' => ∃ a' cap' E', v = .slice a' 1 cap' ∧ OwnVec 4 128 (.slice a' 1 cap') 1 N E' ∧ H' = E' ++ G) := by
  refine ac_of Try.func119 rfl rfl rfl ?_
  refine aw_seq_region ?_
  refine sr_as ?_
  refine sr_nil ?_
  refine aw_kp [0, 1, 2, 6] ?_
  refine aw_seq_region ?_
  refine sr_mv ?_
  refine sr_mv ?_
  refine sr_rd (x_sliceLo0 Try.underlying122 sz128 rfl rfl rfl) ?_
  refine sr_nil ?_
  refine aw_kp [0, 1, 2, 6] ?_
  refine aw_seq_region ?_
  refine sr_mv ?_
  refine sr_rd (x_lenSlice Try.underlying122 rfl) ?_
  refine sr_as ?_
  refine sr_nil ?_
  refine aw_kp [0, 1, 2, 6, 7] ?_
  refine aw_seq ?_
  refine aw_seq_region ?_
  refine sr_mv ?_
  refine sr_c (x_eq rfl rfl) (fun h1 => absurd h1 (by first | omega | decide)) (fun h1 => ?_)
  refine sr_nil ?_
  refine aw_kp [0, 1, 2, 6, 7, 16] ?_
  refine aw_false rfl ?_
  refine aw_skip ?_
  show AW _ _ _ _ _ _ _
  refine aw_seq_region ?_
  refine sr_mv ?_
  refine sr_rd (x_lenSlice Try.underlying122 rfl) ?_
  refine sr_as ?_
  refine sr_nil ?_
  refine aw_kp [0, 1, 2, 6, 7, 8] ?_
  refine aw_seq ?_
  refine aw_seq_region ?_
  refine sr_mv ?_
  refine sr_mv ?_
  refine sr_c (x_eq rfl rfl) (fun h2 => ?_) (fun h2 => absurd (by first | omega | decide) h2)
  refine sr_nil ?_
  refine aw_kp [0, 1, 2, 6, 7, 8, 22] ?_
  refine aw_true rfl ?_
  refine aw_seq_region ?_
  refine sr_mv ?_
  refine sr_mv ?_
  refine sr_d rfl (wtd_none rfl) rfl (opS_append (G := G) (N := N) (m := 1) Try.underlying122 sz128 zr128 rfl by128 rfl rfl OwnVec.nil Sub.autoP (.inr ⟨_, _, rfl, (cells_ext mauto Ext.auto)⟩) (by rw [hN, Nat.one_mul]) hN1 (by omega) (by omega)) ?_
  rintro v25 _ ⟨E25, hV25, rfl⟩
  obtain ⟨a25, cap25, rfl⟩ := hV25.isSl
  refine sr_as ?_
  refine sr_nil ?_
  refine aw_kp [0, 1, 2, 6, 7, 8] ?_
  refine aw_ret ?_
  show ∃ v H2, ResV _ _ _ _ _ _ v ∧ Sub H2 _ ∧ _
  exact ⟨_, E25 ++ G, resV rfl (.cons rfl .nil), Sub.autoD, a25, cap25, E25, rfl, by simpa using hV25, rfl⟩
theorem bins_s (v : Value) (n i r : Nat) (L N : List Value) (Ev G : SHeap) (V : OwnVec 4 128 v n L Ev) (hN : N.length = 4) (hN1 : N.all oneCell = true) (hL1 : L.all oneCell = true) (hi : i ≤ n) (hn : n ≤ 1000000) : AC Try.prog W0 119 [v, .int .i64 i, .slice (some ⟨r, 0, none⟩) 1 1] (Ev ++ ((r, .cells N.toArray 128 (0, 0)) :: G)) (fun v H' => ∃ a' cap' E', v = .slice a' (n + 1) cap' ∧ OwnVec 4 128 (.slice a' (n + 1) cap') (n + 1) (L.take (i * 4) ++ N ++ L.drop (i * 4)) E' ∧ H' = E' ++ G) := by
  cases V with
  | nil =>
    have : i = 0 := by omega
    subst this
    refine (bins_sN (W0 := W0) r N G hN hN1).mono fun v H' h => ?_
    simpa using h
  | mk hL hp hnc hcap => exact bins_sM r n _ i _ L N _ G hL hp hnc hcap hN hN1 hL1 hi hn
set_option maxRecDepth 100000 in
set_option maxHeartbeats 2000000 in
theorem bDel_s (b cap n : Nat) (W : List BEnt) (post : List Value) (G : SHeap) (hl : W.length = n) (hp : post.length = (cap - n) * 4) (hcap : n ≤ cap) (hcb : cap ≤ 9223372036854775807) (i : Nat) (hi : i < n) (hn : n ≤ 100000) : AC Try.prog W0 118 [.slice (some ⟨b, 0, none⟩) n cap, .int .i64 i, .int .i64 ((i + 1 : Nat) : Int)] ((b, .cells ((W).flatMap BEnt.cells ++ post).toArray 128 (0, 0)) :: G) (fun v H' => ∃ post2, post2.length = (cap - (n - 1)) * 4 ∧ v = .slice (some ⟨b, 0, none⟩) (n - 1) cap ∧ H' = (b, .cells ((W.take i ++ W.drop (i + 1)).flatMap BEnt.cells ++ post2).toArray 128 (0, 0)) :: G) := by
  obtain ⟨x, hx⟩ := get_ex (show i < W.length by omega)
  have hA : ((W.take i).flatMap BEnt.cells).length = i * 4 := by rw [flat_len (n := 4) (enc := BEnt.cells) (fun _ => rfl), List.length_take, Nat.min_eq_left (by omega)]
  have hN : ((W.drop (i + 1)).flatMap BEnt.cells).length = (n - (i + 1)) * 4 := by rw [flat_len (n := 4) (enc := BEnt.cells) (fun _ => rfl), List.length_drop, hl]
  have hX : (BEnt.cells x).length = 4 := rfl
  rw [flat_cut (enc := BEnt.cells) hx post]
  have hR : (((BEnt.cells x) ++ (((W.drop (i + 1)).flatMap BEnt.cells) ++ post)).drop (((W.drop (i + 1)).flatMap BEnt.cells)).length).length = 4 + (cap - n) * 4 := by rw [List.length_drop, List.length_append, List.length_append, hX, hp]; omega
  refine ac_of Try.func118 rfl rfl rfl ?_
  refine aw_seq_region ?_
  refine sr_as ?_
  refine sr_nil ?_
  refine aw_kp [0, 1, 2, 6] ?_
  refine aw_seq_region ?_
  refine sr_mv ?_
  refine sr_mv ?_
  refine sr_mv ?_
  refine sr_mv ?_
  refine sr_rd (x_lenSlice Try.underlying122 rfl) ?_
  refine sr_rd (x_slice3 Try.underlying122 sz128 rfl rfl rfl rfl (by omega) (by omega) (by omega) (by omega)) ?_
  refine sr_nil ?_
  refine aw_kp [0, 1, 2, 6] ?_
  refine aw_seq ?_
  refine aw_seq_region ?_
  refine sr_mv ?_
  refine sr_mv ?_
  refine sr_c (x_eq rfl rfl) (fun h1 => absurd h1 (by first | omega | decide)) (fun h1 => ?_)
  refine sr_nil ?_
  refine aw_kp [0, 1, 2, 6, 16] ?_
  refine aw_false rfl ?_
  refine aw_skip ?_
  show AW _ _ _ _ _ _ _
  refine aw_seq_region ?_
  refine sr_mv ?_
  refine sr_rd (x_lenSlice Try.underlying122 rfl) ?_
  refine sr_as ?_
  refine sr_nil ?_
  refine aw_kp [0, 1, 2, 6, 7] ?_
  refine aw_seq_dr ⟨_, 8, 33, [[], [], [0, 1], [], [], [3, 4], [0, 1, 2, 3, 4, 5], [0, 1, 2, 3, 4, 5, 6]], [.light, .light, .light, .light, .light, .light, .eff, .light]⟩ (by kernel_rfl) rfl rfl mix ?_
  refine dr_l (x_move rfl) ?_
  refine dr_l (x_move rfl) ?_
  refine dr_l (x_sliceHiK i Try.underlying122 sz128 rfl rfl rfl (by omega)) ?_
  refine dr_l (x_move rfl) ?_
  refine dr_l (x_move rfl) ?_
  refine dr_l (x_sliceLoC (i + 1) Try.underlying122 sz128 rfl rfl rfl (by omega) (by omega)) ?_
  refine dr_effE rfl rfl (wtd_none rfl) (opSF_appendR (G := G) (L := ((W.take i).flatMap BEnt.cells)) (post := (BEnt.cells x) ++ (((W.drop (i + 1)).flatMap BEnt.cells) ++ post)) (N := ((W.drop (i + 1)).flatMap BEnt.cells)) (m := n - (i + 1)) Try.underlying122 sz128 rfl rfl (Sub.refl _) hA (by omega) (by rw [List.length_append, List.length_append]; omega) (by rcases Nat.lt_or_ge (i + 1) n with q9 | q9; (exact .inr ⟨b, _, rfl, by (rw [if_neg (show ¬ cap = i + 1 by omega)]; exact cells_own (pre := ((W.take i).flatMap BEnt.cells) ++ (BEnt.cells x)) (post := post) (by rw [List.append_assoc]; exact List.mem_cons_self) (by rw [List.length_append, hA, hX]; omega))⟩); (exact .inl ⟨by omega, List.length_eq_zero_iff.1 (by rw [hN]; omega)⟩)) hN (all_flat (fun _ => rfl) _)) (appendR_fresh (Sub.refl _)) ?_
  rintro _ _ ⟨rfl, rfl⟩
  rw [show i + (n - (i + 1)) = n - 1 by omega]
  refine dr_l (x_assign rfl) ?_
  refine dr_nil0 ?_
  refine aw_kp [0, 6, 7] ?_
  refine aw_seq_region ?_
  refine sr_mv ?_
  refine sr_mv ?_
  refine sr_rd (x_lenSlice Try.underlying122 rfl) ?_
  refine sr_mv ?_
  refine sr_rd (x_cast (u := .slice (some ⟨b, (n - 1) * 4, none⟩) 1 (cap - (n - 1))) (x_sliceLoHiK (n - 1) n Try.underlying122 sz128 rfl rfl rfl (by omega) rfl (by omega) (by omega) (by omega)) (by rw [Nat.zero_add, show n - (n - 1) = 1 by omega])) ?_
  refine sr_x0 rfl (wtd_none rfl) (x_clear Try.underlying122 zr128 rfl (by omega) rfl (zcI_one (by decide) (by decide)) Repl.auto (spl_tail (A := ((W.take i).flatMap BEnt.cells) ++ ((W.drop (i + 1)).flatMap BEnt.cells)) (post := (((BEnt.cells x) ++ (((W.drop (i + 1)).flatMap BEnt.cells) ++ post)).drop (((W.drop (i + 1)).flatMap BEnt.cells)).length)) (Z := (Builtin.zeroCells (.agg #[.string .empty, .int .i64 0, .int .i64 0, .int .i64 0] : Value).cells 1).toList) (by rw [List.length_append, hA, hN, ← Nat.add_mul]; congr 1; omega) (by rw [hR, zeroCells_len]; show 4 ≤ 4 + (cap - n) * 4; exact Nat.le_add_right _ _))) ?_
  refine sr_nil ?_
  refine aw_kp [0, 6] ?_
  refine aw_seq_region ?_
  refine sr_mv ?_
  refine sr_as ?_
  refine sr_nil ?_
  refine aw_kp [6] ?_
  refine aw_ret ?_
  show ∃ v H2, ResV _ _ _ _ _ _ v ∧ Sub H2 _ ∧ _
  exact ⟨_, (b, .cells (((W.take i).flatMap BEnt.cells) ++ ((W.drop (i + 1)).flatMap BEnt.cells) ++ ((Builtin.zeroCells (.agg #[.string .empty, .int .i64 0, .int .i64 0, .int .i64 0] : Value).cells 1).toList ++ (((BEnt.cells x) ++ (((W.drop (i + 1)).flatMap BEnt.cells) ++ post)).drop (((W.drop (i + 1)).flatMap BEnt.cells)).length).drop ((Builtin.zeroCells (.agg #[.string .empty, .int .i64 0, .int .i64 0, .int .i64 0] : Value).cells 1).toList).length)).toArray 128 (0, 0)) :: G, resV rfl (.cons rfl .nil), Sub.refl _, (Builtin.zeroCells (.agg #[.string .empty, .int .i64 0, .int .i64 0, .int .i64 0] : Value).cells 1).toList ++ (((BEnt.cells x) ++ (((W.drop (i + 1)).flatMap BEnt.cells) ++ post)).drop (((W.drop (i + 1)).flatMap BEnt.cells)).length).drop ((Builtin.zeroCells (.agg #[.string .empty, .int .i64 0, .int .i64 0, .int .i64 0] : Value).cells 1).toList).length, (by rw [List.length_append, List.length_drop, hR, show ((Builtin.zeroCells (.agg #[.string .empty, .int .i64 0, .int .i64 0, .int .i64 0] : Value).cells 1).toList).length = 4 from zeroCells_len _ _, show cap - (n - 1) = cap - n + 1 by omega, Nat.add_mul]; omega), rfl, (by rw [List.flatMap_append])⟩
set_option maxRecDepth 100000 in
set_option maxHeartbeats 400000 in
theorem bdead_s (x : BEnt) (qn : Nat) (now : Int) (H : SHeap) (hq : Cells W0 H qn 0 [.int .i64 now]) : AC Try.prog W0 122 [BEnt.v x, .pointer (some ⟨qn, 0, none⟩)] H (fun v H' => v = .bool (gonP .empty now true x) ∧ H' = H) := by
  refine ac_of Try.func122 rfl rfl rfl ?_
  refine aw_seq_region ?_
  refine sr_new rfl (wtd_none rfl) rfl (x_box rfl rfl) ?_
  intro r0_0 hr0_0 gr0_0
  refine sr_as ?_
  refine sr_nil ?_
  refine aw_kp [1, 2, 3] ?_
  refine aw_seq_region ?_
  refine sr_rd (x_fieldAddr fd128_1 rfl) ?_
  refine sr_rd (x_fieldAddr fd55_1 rfl) ?_
  refine sr_rd (x_load ag2 rfl (cells_ext mauto Ext.auto)) ?_
  refine sr_rd (x_load ag2 rfl (cells_get (Cells.mono hq Sub.autoR) 0 rfl)) ?_
  refine sr_c (x_le rfl rfl) (fun h1 => ?_) (fun h1 => ?_)
  · refine sr_as ?_
    refine sr_nil ?_
    refine aw_kp [3] ?_
    refine aw_ret ?_
    show ∃ v H2, ResV _ _ _ _ _ _ v ∧ Sub H2 _ ∧ _
    exact ⟨_, H, resV rfl (.cons rfl .nil), Sub.autoR, ⟨congrArg Value.bool (by unfold gonP; simp; omega), rfl⟩⟩
  · refine sr_as ?_
    refine sr_nil ?_
    refine aw_kp [3] ?_
    refine aw_ret ?_
    show ∃ v H2, ResV _ _ _ _ _ _ v ∧ Sub H2 _ ∧ _
    exact ⟨_, H, resV rfl (.cons rfl .nil), Sub.autoR, ⟨congrArg Value.bool (by unfold gonP; simp; omega), rfl⟩⟩
set_option maxRecDepth 100000 in
set_option maxHeartbeats 400000 in
theorem bIdx_s (a : Option Addr) (cap : Nat) (L : List BEnt) (H : SHeap) (hs : SlV W0 H 4 BEnt.cells a cap L) (qn : Nat) (now : Int) (hq : Cells W0 H qn 0 [.int .i64 now]) : AC Try.prog W0 142 [.slice a L.length cap, .func (.func 122) #[] #[.pointer (some ⟨qn, 0, none⟩)]] H (fun v H' => (∃ i : Int, v = .int .i64 i ∧ ((i = -1 ∧ ∀ x ∈ L, (gonP .empty now true) x = false) ∨ ∃ k x, i = (k : Nat) ∧ L[k]? = some x ∧ (gonP .empty now true) x = true ∧ ∀ j y, j < k → L[j]? = some y → (gonP .empty now true) y = false)) ∧ H' = H) := by
  have hle := hs.le
  have hcb := hs.capb
  refine ac_of Try.func142 rfl rfl rfl ?_
  refine aw_seq_region ?_
  refine sr_as ?_
  refine sr_nil ?_
  refine aw_kp [0, 1, 4] ?_
  refine aw_seq ?_
  refine aw_seq_region ?_
  refine sr_mv ?_
  refine sr_rd (x_lenSlice Try.underlying122 rfl) ?_
  refine sr_mv ?_
  refine sr_nil ?_
  refine aw_kp [0, 1, 4, 7, 8] ?_
  refine aw_block ?_
  refine aw_loop (ι := Nat) (fun k => k ≤ L.length ∧ ∀ j y, j < k → L[j]? = some y → (gonP .empty now true) y = false) (fun k => [(0, .slice a L.length cap), (1, .func (.func 122) #[] #[.pointer (some ⟨qn, 0, none⟩)]), (7, .int .i64 L.length), (8, .int .i64 k)]) (fun _ => H) (fun k => L.length - k) 0 (⟨Nat.zero_le _, fun j x h => by omega⟩) KeepF.auto Sub.autoP ?_
  intro k hk9
  obtain ⟨hk, hok⟩ := hk9
  refine aw_seq_region ?_
  refine sr_c (x_lt rfl rfl) (fun h1 => ?_) (fun h1 => ?_)
  · refine sr_nil ?_
    refine aw_kp [0, 1, 7, 8, 9] ?_
    refine aw_seq ?_
    refine aw_true rfl ?_
    refine aw_skip ?_
    show AW _ _ _ _ _ _ _
    refine aw_seq ?_
    refine aw_block ?_
    refine aw_seq_region ?_
    refine sr_mv ?_
    refine sr_as ?_
    refine sr_nil ?_
    refine aw_kp [0, 1, 5, 7, 8, 9, 10] ?_
    refine aw_seq_region ?_
    obtain ⟨x, hx⟩ := get_ex (show k < L.length by omega)
    obtain ⟨bx, ox, hax, hcx⟩ := hs.at_ _ _ hx
    refine sr_mv ?_
    refine sr_mv ?_
    refine sr_mv ?_
    refine sr_rd (x_indexAddrN (k) Try.underlying122 sz128 rfl hax rfl (by omega) (by omega)) ?_
    refine sr_rd (x_loadN ag128 sz128 rfl (Cells.mono hcx Sub.autoR) rfl) ?_
    refine sr_d rfl (wtd_none rfl) rfl (opS_call rfl rfl rfl rfl cl122 (bdead_s x qn now _ (Cells.mono hq Sub.autoR))) ?_
    rintro _ H ⟨rfl, rfl⟩
    generalize hd : (gonP .empty now true) x = d1
    cases d1
    · refine sr_nil ?_
      refine aw_kp [0, 1, 5, 7, 8, 9, 10, 11, 12, 13, 14, 15, 16] ?_
      refine aw_false rfl ?_
      refine aw_skip ?_
      show AW _ _ _ _ _ _ _
      refine aw_region ?_
      refine sr_rd (x_add' rfl rfl (i64w (by omega) (by omega))) ?_
      refine sr_mv ?_
      refine sr_nil ?_
      show ∃ s', _ ∧ _ ∧ _ ∧ _
      exact ⟨k + 1, ⟨by omega, fun j y h hy => by (rcases Nat.lt_or_eq_of_le (Nat.le_of_lt_succ h) with q | q); (exact hok j y q hy); (subst q; rw [hx] at hy; cases hy; exact hd)⟩, by omega, KeepF.auto, Sub.autoR⟩
    · refine sr_nil ?_
      refine aw_kp [0, 1, 5, 7, 8, 9, 10, 11, 12, 13, 14, 15, 16] ?_
      refine aw_true rfl ?_
      refine aw_seq_region ?_
      refine sr_mv ?_
      refine sr_as ?_
      refine sr_nil ?_
      refine aw_kp [0, 1, 4, 5, 7, 8, 9, 10, 11, 12, 13, 14, 15, 16, 17] ?_
      refine aw_ret ?_
      show ∃ v H2, ResV _ _ _ _ _ _ v ∧ Sub H2 _ ∧ _
      first | exact ⟨_, H, resV rfl (.cons rfl .nil), Sub.refl _, ⟨_, rfl, .inr ⟨k, x, rfl, hx, hd, hok⟩⟩, rfl⟩ | exact ⟨_, H, resV rfl (.cons rfl .nil), Sub.refl _, ⟨_, rfl, .inl ⟨rfl, fun y hy => by (obtain ⟨j, hj⟩ := List.getElem?_of_mem hy); exact hok j y (by have := get_lt hj; omega) hj⟩⟩, rfl⟩
  · refine sr_nil ?_
    refine aw_kp [0, 1, 7, 8, 9] ?_
    refine aw_seq ?_
    refine aw_false rfl ?_
    refine aw_exit ?_
    show AW _ _ _ _ _ _ _
    refine aw_seq_region ?_
    refine sr_as ?_
    refine sr_nil ?_
    refine aw_kp [4] ?_
    refine aw_ret ?_
    show ∃ v H2, ResV _ _ _ _ _ _ v ∧ Sub H2 _ ∧ _
    first | exact ⟨_, H, resV rfl (.cons rfl .nil), Sub.refl _, ⟨_, rfl, .inr ⟨k, x, rfl, hx, hd, hok⟩⟩, rfl⟩ | exact ⟨_, H, resV rfl (.cons rfl .nil), Sub.refl _, ⟨_, rfl, .inl ⟨rfl, fun y hy => by (obtain ⟨j, hj⟩ := List.getElem?_of_mem hy); exact hok j y (by have := get_lt hj; omega) hj⟩⟩, rfl⟩
set_option maxRecDepth 100000 in
set_option maxHeartbeats 4000000 in
theorem bDelF_s (b cap n : Nat) (W : List BEnt) (post : List Value) (G : SHeap) (hl : W.length = n) (hp : post.length = (cap - n) * 4) (hcap : n ≤ cap) (hcb : cap ≤ 9223372036854775807) (hn : n ≤ 100000) (qn : Nat) (now : Int) (hq : Cells W0 G qn 0 [.int .i64 now]) : AC Try.prog W0 121 [.slice (some ⟨b, 0, none⟩) n cap, .func (.func 122) #[] #[.pointer (some ⟨qn, 0, none⟩)]] ((b, .cells ((W).flatMap BEnt.cells ++ post).toArray 128 (0, 0)) :: G) (fun v H' => ∃ post2, post2.length = (cap - (W.filter (fun x => !(gonP .empty now true) x)).length) * 4 ∧ v = .slice (some ⟨b, 0, none⟩) (W.filter (fun x => !(gonP .empty now true) x)).length cap ∧ H' = (b, .cells ((W.filter (fun x => !(gonP .empty now true) x)).flatMap BEnt.cells ++ post2).toArray 128 (0, 0)) :: G) := by
  have hs : SlV W0 ((b, .cells ((W).flatMap BEnt.cells ++ post).toArray 128 (0, 0)) :: G) 4 BEnt.cells (some ⟨b, 0, none⟩) cap W := slv_own (post := post) (fun _ => rfl) List.mem_cons_self (by omega) hcb
  have hIdx := bIdx_s (some ⟨b, 0, none⟩) cap W _ hs qn now (Cells.mono hq (Sub.drop (Sub.refl _)))
  rw [hl] at hIdx
  refine ac_of Try.func121 rfl rfl rfl ?_
  refine aw_seq_region ?_
  refine sr_as ?_
  refine sr_nil ?_
  refine aw_kp [0, 1, 4] ?_
  refine aw_seq_region ?_
  refine sr_mv ?_
  refine sr_mv ?_
  refine sr_d rfl (wtd_none rfl) rfl (opS_call rfl rfl rfl rfl cl142 (hIdx)) ?_
  rintro _ H9 ⟨⟨i, rfl, hi⟩, rfl⟩
  rcases hi with ⟨rfl, hno⟩ | ⟨k0, x0, rfl, hx0, hq0, hlo⟩
  · refine sr_as ?_
    refine sr_nil ?_
    refine aw_kp [0, 1, 4, 5] ?_
    refine aw_seq ?_
    refine aw_seq_region ?_
    refine sr_mv ?_
    refine sr_c (x_eq rfl rfl) (fun h1 => ?_) (fun h1 => absurd (by first | omega | decide) h1)
    refine sr_nil ?_
    refine aw_kp [0, 1, 4, 5, 12] ?_
    refine aw_true rfl ?_
    refine aw_seq_region ?_
    refine sr_mv ?_
    refine sr_as ?_
    refine sr_nil ?_
    refine aw_kp [0, 1, 4, 5] ?_
    refine aw_ret ?_
    show ∃ v H2, ResV _ _ _ _ _ _ v ∧ Sub H2 _ ∧ _
    first | (have e9 : W.filter (fun x => !(gonP .empty now true) x) = W := List.filter_eq_self.2 (fun y hy => by rw [hno y hy]; rfl)); exact ⟨_, (b, .cells ((W).flatMap BEnt.cells ++ post).toArray 128 (0, 0)) :: G, resV rfl (.cons rfl .nil), Sub.autoD, post, (by rw [e9, hl]; exact hp), (by rw [e9, hl]; rfl), (by rw [e9])⟩ | (obtain ⟨e8, e9⟩ := hC.done (by omega)); exact ⟨_, (b, .cells ((C.take k).flatMap BEnt.cells ++ ((Builtin.zeroCells (.agg #[.string .empty, .int .i64 0, .int .i64 0, .int .i64 0] : Value).cells (n - k)).toList ++ post)).toArray 128 (0, 0)) :: G, resV rfl (.cons rfl .nil), Sub.autoD, (Builtin.zeroCells (.agg #[.string .empty, .int .i64 0, .int .i64 0, .int .i64 0] : Value).cells (n - k)).toList ++ post, (by rw [e9, List.length_append, zeroCells_len, hp]; show (n - k) * 4 + (cap - n) * 4 = (cap - k) * 4; rw [← Nat.add_mul]; congr 1; omega), (by rw [e9]; rfl), (by rw [← e8])⟩
  · have hk0 := get_lt hx0
    refine sr_as ?_
    refine sr_nil ?_
    refine aw_kp [0, 1, 4, 5] ?_
    refine aw_seq ?_
    refine aw_seq_region ?_
    refine sr_mv ?_
    refine sr_c (x_eq rfl rfl) (fun h2 => absurd h2 (by first | omega | decide)) (fun h2 => ?_)
    refine sr_nil ?_
    refine aw_kp [0, 1, 4, 5, 12] ?_
    refine aw_false rfl ?_
    refine aw_skip ?_
    show AW _ _ _ _ _ _ _
    refine aw_seq ?_
    refine aw_seq_region ?_
    refine sr_mv ?_
    refine sr_rd (x_cast (u := .int .i64 ((k0 + 1 : Nat) : Int)) (x_add' rfl rfl (i64w (by omega) (by omega))) (by congr 1)) ?_
    refine sr_as ?_
    refine sr_nil ?_
    refine aw_kp [0, 1, 4, 5, 6] ?_
    refine aw_block ?_
    refine aw_loop (ι := DlG BEnt) (fun s => DelI (gonP .empty now true) W s.m s.k s.C) (fun s => [(0, .slice (some ⟨b, 0, none⟩) n cap), (1, .func (.func 122) #[] #[.pointer (some ⟨qn, 0, none⟩)]), (5, .int .i64 s.k), (6, .int .i64 s.m)]) (fun s => (b, .cells ((s.C).flatMap BEnt.cells ++ post).toArray 128 (0, 0)) :: G) (fun s => n - s.m) ⟨k0 + 1, k0, W⟩ (DelI.start hlo hx0 hq0) KeepF.auto Sub.autoP ?_
    intro s hs9
    obtain ⟨m, k, C⟩ := s
    dsimp only at hs9 ⊢
    have hC := hs9
    have hCl := hC.1
    have hC2 := hC.2.1
    have hC3 := hC.2.2.1
    refine aw_seq ?_
    refine aw_seq_region ?_
    refine sr_mv ?_
    refine sr_mv ?_
    refine sr_rd (x_lenSlice Try.underlying122 rfl) ?_
    refine sr_c (x_lt rfl rfl) (fun h3 => ?_) (fun h3 => ?_)
    · refine sr_nil ?_
      refine aw_kp [0, 1, 5, 6, 16, 17, 18, 19] ?_
      refine aw_true rfl ?_
      refine aw_skip ?_
      show AW _ _ _ _ _ _ _
      refine aw_seq ?_
      refine aw_block ?_
      refine aw_seq_region ?_
      obtain ⟨x, hx⟩ := get_ex (show m < W.length by omega)
      have hxC := (hC.2.2.2.2 m (by omega)).trans hx
      refine sr_mv ?_
      refine sr_mv ?_
      refine sr_rd (x_indexAddrN (m) Try.underlying122 sz128 rfl rfl rfl (by omega) (by omega)) ?_
      refine sr_rd (x_loadN ag128 sz128 rfl (cells_flat0 (n := 4) (enc := BEnt.cells) (fun _ => rfl) (xs := C) (i := m) (post := post) (show (b, Obj.cells ((C).flatMap BEnt.cells ++ post).toArray 128 (0, 0)) ∈ _ from mauto) hxC) rfl) ?_
      refine sr_new rfl (wtd_none rfl) rfl (x_alloc zr128 rfl) ?_
      intro r7_4 hr7_4 gr7_4
      refine sr_x0 rfl (wtd_none rfl) (x_store sz128 rfl rfl rfl rfl rfl Repl.auto Spl.auto) ?_
      refine sr_nil ?_
      refine aw_kp [0, 1, 5, 6, 7, 16, 17, 18, 19, 22, 23, 24, 25] ?_
      refine aw_seq_region ?_
      refine sr_mv ?_
      refine sr_rd (x_loadN ag128 sz128 rfl (cells_ext mauto Ext.auto) rfl) ?_
      refine sr_d rfl (wtd_none rfl) rfl (opS_call rfl rfl rfl rfl cl122 (bdead_s x qn now _ (Cells.mono hq Sub.autoR))) ?_
      rintro _ H9 ⟨rfl, rfl⟩
      generalize hd : (gonP .empty now true) x = d1
      cases d1
      · refine sr_rd (x_not rfl) ?_
        refine sr_nil ?_
        refine aw_kp [0, 1, 5, 6, 7, 16, 17, 18, 19, 22, 23, 24, 25, 26, 27, 28, 29] ?_
        refine aw_true rfl ?_
        refine aw_seq_region ?_
        refine sr_mv ?_
        refine sr_mv ?_
        refine sr_rd (x_loadN ag128 sz128 rfl (cells_ext mauto Ext.auto) rfl) ?_
        refine sr_rd (x_indexAddrN (k) Try.underlying122 sz128 rfl rfl rfl (by omega) (by omega)) ?_
        refine sr_x0 rfl (wtd_none rfl) (x_store sz128 rfl rfl rfl rfl rfl Repl.auto (spl_flat0 (n := 4) (enc := BEnt.cells) (fun _ => rfl) (xs := C) (post := post) (i := k) (x' := x) (by omega))) ?_
        refine sr_nil ?_
        refine aw_kp [0, 1, 5, 6, 7, 16, 17, 18, 19, 22, 23, 24, 25, 26, 27, 28, 29, 30, 31, 32, 33] ?_
        refine aw_region ?_
        refine sr_mv ?_
        refine sr_rd (x_add' rfl rfl (i64w (by omega) (by omega))) ?_
        refine sr_as ?_
        refine sr_nil ?_
        show AW _ _ _ _ _ _ _
        refine aw_region ?_
        refine sr_mv ?_
        refine sr_rd (x_add' rfl rfl (i64w (by omega) (by omega))) ?_
        refine sr_as ?_
        refine sr_nil ?_
        show ∃ s', _ ∧ _ ∧ _ ∧ _
        first | exact ⟨⟨m + 1, k + 1, C.set k x⟩, hC.put hx hd, by dsimp only; omega, KeepF.auto, Sub.autoD⟩ | exact ⟨⟨m + 1, k, C⟩, hC.skip hx hd, by dsimp only; omega, KeepF.auto, Sub.autoD⟩
      · refine sr_rd (x_not rfl) ?_
        refine sr_nil ?_
        refine aw_kp [0, 1, 5, 6, 7, 16, 17, 18, 19, 22, 23, 24, 25, 26, 27, 28, 29] ?_
        refine aw_false rfl ?_
        refine aw_skip ?_
        show AW _ _ _ _ _ _ _
        refine aw_region ?_
        refine sr_mv ?_
        refine sr_rd (x_add' rfl rfl (i64w (by omega) (by omega))) ?_
        refine sr_as ?_
        refine sr_nil ?_
        show ∃ s', _ ∧ _ ∧ _ ∧ _
        first | exact ⟨⟨m + 1, k + 1, C.set k x⟩, hC.put hx hd, by dsimp only; omega, KeepF.auto, Sub.autoD⟩ | exact ⟨⟨m + 1, k, C⟩, hC.skip hx hd, by dsimp only; omega, KeepF.auto, Sub.autoD⟩
    · refine sr_nil ?_
      refine aw_kp [0, 1, 5, 6, 16, 17, 18, 19] ?_
      refine aw_false rfl ?_
      refine aw_exit ?_
      show AW _ _ _ _ _ _ _
      refine aw_seq_region ?_
      refine sr_mv ?_
      refine sr_mv ?_
      refine sr_rd (x_sliceLoK (k) Try.underlying122 sz128 rfl rfl rfl (by omega) (by omega) (by omega)) ?_
      refine sr_x0 rfl (wtd_none rfl) (x_clear Try.underlying122 zr128 rfl (by omega) rfl (zcI_one (by decide) (by decide)) Repl.auto (spl_clrO (n := 4) (enc := BEnt.cells) (fun _ => rfl) (pre := []) (off := 0) rfl (by omega) (by rw [zeroCells_len, hCl, hl]; rfl))) ?_
      refine sr_nil ?_
      refine aw_kp [0, 5] ?_
      refine aw_seq_region ?_
      refine sr_mv ?_
      refine sr_mv ?_
      refine sr_rd (x_sliceHiK (k) Try.underlying122 sz128 rfl rfl rfl (by omega)) ?_
      refine sr_as ?_
      refine sr_nil ?_
      refine aw_kp [4] ?_
      refine aw_ret ?_
      show ∃ v H2, ResV _ _ _ _ _ _ v ∧ Sub H2 _ ∧ _
      first | (have e9 : W.filter (fun x => !(gonP .empty now true) x) = W := List.filter_eq_self.2 (fun y hy => by rw [hno y hy]; rfl)); exact ⟨_, (b, .cells ((W).flatMap BEnt.cells ++ post).toArray 128 (0, 0)) :: G, resV rfl (.cons rfl .nil), Sub.autoD, post, (by rw [e9, hl]; exact hp), (by rw [e9, hl]; rfl), (by rw [e9])⟩ | (obtain ⟨e8, e9⟩ := hC.done (by omega)); exact ⟨_, (b, .cells ((C.take k).flatMap BEnt.cells ++ ((Builtin.zeroCells (.agg #[.string .empty, .int .i64 0, .int .i64 0, .int .i64 0] : Value).cells (n - k)).toList ++ post)).toArray 128 (0, 0)) :: G, resV rfl (.cons rfl .nil), Sub.autoD, (Builtin.zeroCells (.agg #[.string .empty, .int .i64 0, .int .i64 0, .int .i64 0] : Value).cells (n - k)).toList ++ post, (by rw [e9, List.length_append, zeroCells_len, hp]; show (n - k) * 4 + (cap - n) * 4 = (cap - k) * 4; rw [← Nat.add_mul]; congr 1; omega), (by rw [e9]; rfl), (by rw [← e8])⟩
end
end Go.Proofs.Ytjkojdjjooangaa
