/- Whatever is charged, and however time goes by, users have used what the document's have; no condition. -/
import Derived.Test.YteilocpjikmmdaaShaOrder
import Derived.Test.YteilocpjikmmdaaRows
import Derived.Test.YteilocpjikmmdaaCut
namespace Go.Proofs.Yteilocpjikmmdaa
open Go.Proofs.Yteilocpjikmmdaa.Sym
open Go.RowKit (Below)
set_option linter.unusedVariables false
set_option linter.unusedSimpArgs false
structure SOp where
  kind : Int
  id : Int
  x : Int
@[reducible] def SOp.cells (j : SOp) : List Value := [.int .i64 j.kind, .int .i64 j.id, .int .i64 j.x]
@[reducible] def SOp.v (j : SOp) : Value := .agg (SOp.cells j).toArray
def SOp.Wf (j : SOp) : Prop := IntKind.min .i64 ≤ j.kind ∧ j.kind ≤ IntKind.max .i64 ∧ IntKind.min .i64 ≤ j.id ∧ j.id ≤ IntKind.max .i64 ∧ IntKind.min .i64 ≤ j.x ∧ j.x ≤ IntKind.max .i64
theorem ag131 : aggOf Try.prog 131 = some true := by kernel_rfl
theorem cells131 : Try.prog.cellsOf 131 = 3 := by kernel_rfl
theorem cl80 : Callable Try.prog 80 := ⟨Try.f80, Try.func80, by kernel_rfl, by kernel_rfl⟩
theorem cl81 : Callable Try.prog 81 := ⟨Try.f81, Try.func81, by kernel_rfl, by kernel_rfl⟩
theorem cl82 : Callable Try.prog 82 := ⟨Try.f82, Try.func82, by kernel_rfl, by kernel_rfl⟩
theorem cl83 : Callable Try.prog 83 := ⟨Try.f83, Try.func83, by kernel_rfl, by kernel_rfl⟩
theorem cl85 : Callable Try.prog 85 := ⟨Try.f85, Try.func85, by kernel_rfl, by kernel_rfl⟩
theorem cl87 : Callable Try.prog 87 := ⟨Try.f87, Try.func87, by kernel_rfl, by kernel_rfl⟩
theorem fd131_0 : fldOf Try.prog 131 0 = some (0, 3, 1) := by kernel_rfl
theorem fd131_1 : fldOf Try.prog 131 1 = some (1, 3, 1) := by kernel_rfl
theorem fd131_2 : fldOf Try.prog 131 2 = some (2, 2, 1) := by kernel_rfl
theorem sz131 : szOf Try.prog 131 = some 3 := by kernel_rfl
theorem zr131 : zeroOf Try.prog 131 = some (.agg #[.int .i64 0, .int .i64 0, .int .i64 0]) := by kernel_rfl
section
variable {W0 : World}
theorem fade_freshbk {p : Nat} {a : Option Addr} {cap : Nat} {us : List User} {half now t : Int} {E G V0 : SHeap} (V : OwnVec 3 86 (.slice a us.length cap) us.length (us.flatMap User.cells) E) (hs : Sub (bk p (.slice a us.length cap) half now :: (E ++ G)) V0) :
    FreshH W0 V0 (fun v H' => v = .int .i64 (fadE now t) ∧ ∃ E', OwnVec 3 86 (.slice a us.length cap) us.length ((fadU half now t us).flatMap User.cells) E' ∧ H' = bk p (.slice a us.length cap) half (fadN now t) :: (E' ++ G)) := by
  obtain ⟨E', V', hk⟩ := V.reset (L' := (fadU half now t us).flatMap User.cells) (by rw [flat_len (n := 3) (fun _ => rfl), flat_len (n := 3) (fun _ => rfl), fad_len])
  refine freshH_keys hs (H' := bk p (.slice a us.length cap) half (fadN now t) :: (E' ++ G)) ?_ ⟨rfl, E', V', rfl⟩
  rw [keys_cons, keys_cons, keys_append, keys_append, hk]
theorem charge_freshbk {p : Nat} {a : Option Addr} {cap : Nat} {us : List User} {half now id use : Int} {E G V0 : SHeap} (V : OwnVec 3 86 (.slice a us.length cap) us.length (us.flatMap User.cells) E) (hs : Sub (bk p (.slice a us.length cap) half now :: (E ++ G)) V0) :
    FreshH W0 V0 (fun v H' => v = .int .i64 (chgE id use us) ∧ ∃ E', OwnVec 3 86 (.slice a us.length cap) us.length ((chgU id use us).flatMap User.cells) E' ∧ H' = bk p (.slice a us.length cap) half (now) :: (E' ++ G)) := by
  obtain ⟨E', V', hk⟩ := V.reset (L' := (chgU id use us).flatMap User.cells) (by rw [flat_len (n := 3) (fun _ => rfl), flat_len (n := 3) (fun _ => rfl), chg_len])
  refine freshH_keys hs (H' := bk p (.slice a us.length cap) half (now) :: (E' ++ G)) ?_ ⟨rfl, E', V', rfl⟩
  rw [keys_cons, keys_cons, keys_append, keys_append, hk]
theorem fade_freshpk {p : Nat} {a : Option Addr} {cap : Nat} {us : List User} {half now t : Int} {E G V0 : SHeap} (V : OwnVec 3 86 (.slice a us.length cap) us.length (us.flatMap User.cells) E) (hs : Sub (pk p (.slice a us.length cap) half now :: (E ++ G)) V0) :
    FreshH W0 V0 (fun v H' => v = .int .i64 (fadE now t) ∧ ∃ E', OwnVec 3 86 (.slice a us.length cap) us.length ((fadU half now t us).flatMap User.cells) E' ∧ H' = pk p (.slice a us.length cap) half (fadN now t) :: (E' ++ G)) := by
  obtain ⟨E', V', hk⟩ := V.reset (L' := (fadU half now t us).flatMap User.cells) (by rw [flat_len (n := 3) (fun _ => rfl), flat_len (n := 3) (fun _ => rfl), fad_len])
  refine freshH_keys hs (H' := pk p (.slice a us.length cap) half (fadN now t) :: (E' ++ G)) ?_ ⟨rfl, E', V', rfl⟩
  rw [keys_cons, keys_cons, keys_append, keys_append, hk]
theorem charge_freshpk {p : Nat} {a : Option Addr} {cap : Nat} {us : List User} {half now id use : Int} {E G V0 : SHeap} (V : OwnVec 3 86 (.slice a us.length cap) us.length (us.flatMap User.cells) E) (hs : Sub (pk p (.slice a us.length cap) half now :: (E ++ G)) V0) :
    FreshH W0 V0 (fun v H' => v = .int .i64 (chgE id use us) ∧ ∃ E', OwnVec 3 86 (.slice a us.length cap) us.length ((chgU id use us).flatMap User.cells) E' ∧ H' = pk p (.slice a us.length cap) half (now) :: (E' ++ G)) := by
  obtain ⟨E', V', hk⟩ := V.reset (L' := (chgU id use us).flatMap User.cells) (by rw [flat_len (n := 3) (fun _ => rfl), flat_len (n := 3) (fun _ => rfl), chg_len])
  refine freshH_keys hs (H' := pk p (.slice a us.length cap) half (now) :: (E' ++ G)) ?_ ⟨rfl, E', V', rfl⟩
  rw [keys_cons, keys_cons, keys_append, keys_append, hk]
set_option maxRecDepth 100000 in
set_option maxHeartbeats 400000 in
theorem sharePlays_bad (half : Int) (a : Option Addr) (cap : Nat) (l : List User) (hs : ∀ G, SlV W0 G 3 User.cells a cap l) (sa : Option Addr) (scap : Nat) (xs : List SOp) (hxs : ∀ G, SlV W0 G 3 SOp.cells sa scap xs) (hb : half < 1 ∨ 1099511627776 < half) : AC Try.prog W0 14 [.int .i64 half, .slice a l.length cap, .slice sa xs.length scap] [] (fun v _ => v = .bool true) := by
  have hle := (hs []).le
  have hcb := (hs []).capb
  have hle9 := (hxs []).le
  have hcb9 := (hxs []).capb
  have hl20 : (l.take 20).length ≤ 20 := by rw [List.length_take]; omega
  refine ac_of Try.func14 rfl rfl rfl ?_
  refine aw_seq_region ?_
  refine sr_x rfl (wtd_none rfl) rfl (Rd.x (x_assign rfl)) ?_
  refine sr_nil ?_
  refine aw_keep (keep_cons (t := 0) rfl (keep_cons (t := 1) rfl (keep_cons (t := 2) rfl (keep_cons (t := 6) rfl keep_nil)))) ?_
  refine aw_seq_region ?_
  refine sr_x rfl (wtd_none rfl) rfl (Rd.x (x_move rfl)) ?_
  refine sr_d rfl (wtd_none rfl) rfl (opS_call rfl rfl rfl rfl cl48 (few48_s a cap l _ hle)) ?_
  rintro _ H ⟨rfl, rfl⟩
  refine sr_x rfl (wtd_none rfl) rfl (Rd.x (x_assign rfl)) ?_
  refine sr_nil ?_
  refine aw_keep (keep_cons (t := 0) rfl (keep_cons (t := 1) rfl (keep_cons (t := 2) rfl (keep_cons (t := 6) rfl keep_nil)))) ?_
  refine aw_seq_region ?_
  refine sr_x rfl (wtd_none rfl) rfl (Rd.x (x_move rfl)) ?_
  refine sr_x rfl (wtd_none rfl) rfl (Rd.x (x_move rfl)) ?_
  refine sr_d rfl (wtd_none rfl) rfl (opS_call rfl rfl rfl rfl cl49 (unew_bad (fun H _ => (hs H).take 20) hb)) ?_
  rintro _ H ⟨rfl, rfl⟩
  refine sr_x rfl (wtd_none rfl) rfl (Rd.x (x_move rfl)) ?_
  refine sr_x rfl (wtd_none rfl) rfl (Rd.x (x_extract rfl rfl)) ?_
  refine sr_x rfl (wtd_none rfl) rfl (Rd.x (x_extract rfl rfl)) ?_
  refine sr_x rfl (wtd_none rfl) rfl (Rd.x (x_assign rfl)) ?_
  refine sr_x rfl (wtd_none rfl) rfl (Rd.x (x_assign rfl)) ?_
  refine sr_nil ?_
  refine aw_keep (keep_cons (t := 0) rfl (keep_cons (t := 1) rfl (keep_cons (t := 2) rfl (keep_cons (t := 6) rfl (keep_cons (t := 7) rfl (keep_cons (t := 8) rfl keep_nil)))))) ?_
  refine aw_seq_region ?_
  refine sr_x rfl (wtd_none rfl) rfl (Rd.x (x_move rfl)) ?_
  refine sr_x rfl (wtd_none rfl) rfl (Rd.x (x_move rfl)) ?_
  refine sr_d rfl (wtd_none rfl) rfl (opS_call rfl rfl rfl rfl cl50 (umade_bad (fun H _ => (hs H).take 20) (by omega) hb)) ?_
  rintro _ H ⟨rfl, rfl⟩
  refine sr_x rfl (wtd_none rfl) rfl (Rd.x (x_move rfl)) ?_
  refine sr_x rfl (wtd_none rfl) rfl (Rd.x (x_extract rfl rfl)) ?_
  refine sr_x rfl (wtd_none rfl) rfl (Rd.x (x_extract rfl rfl)) ?_
  refine sr_x rfl (wtd_none rfl) rfl (Rd.x (x_assign rfl)) ?_
  refine sr_x rfl (wtd_none rfl) rfl (Rd.x (x_assign rfl)) ?_
  refine sr_nil ?_
  refine aw_keep (keep_cons (t := 2) rfl (keep_cons (t := 6) rfl (keep_cons (t := 7) rfl (keep_cons (t := 8) rfl (keep_cons (t := 9) rfl (keep_cons (t := 10) rfl keep_nil)))))) ?_
  refine aw_seq ?_
  refine aw_seq_region ?_
  refine sr_x rfl (wtd_none rfl) rfl (Rd.x (x_move rfl)) ?_
  refine sr_cmp rfl (wtd_none rfl) rfl (Rd.x (x_ne rfl rfl)) (fun h1 => ?_) (fun h1 => absurd (by first | omega | decide) h1)
  refine sr_x rfl (wtd_none rfl) rfl (Rd.x (x_move rfl)) ?_
  refine sr_skip rfl (wtd_no rfl rfl rfl rfl) rfl ?_
  refine sr_skip rfl (wtd_no rfl rfl rfl rfl) rfl ?_
  refine sr_x rfl (wtd_none rfl) rfl (Rd.x (x_pick_t rfl rfl rfl)) ?_
  refine sr_x rfl (wtd_none rfl) rfl (Rd.x (x_move rfl)) ?_
  refine sr_skip rfl (wtd_no rfl rfl rfl rfl) rfl ?_
  refine sr_skip rfl (wtd_no rfl rfl rfl rfl) rfl ?_
  refine sr_x rfl (wtd_none rfl) rfl (Rd.x (x_pick_t rfl rfl rfl)) ?_
  refine sr_x rfl (wtd_none rfl) rfl (Rd.x (x_move rfl)) ?_
  refine sr_skip rfl (wtd_no rfl rfl rfl rfl) rfl ?_
  refine sr_skip rfl (wtd_no rfl rfl rfl rfl) rfl ?_
  refine sr_x rfl (wtd_none rfl) rfl (Rd.x (x_pick_t rfl rfl rfl)) ?_
  refine sr_nil ?_
  refine aw_keep (keep_cons (t := 2) rfl (keep_cons (t := 6) rfl (keep_cons (t := 7) rfl (keep_cons (t := 8) rfl (keep_cons (t := 9) rfl (keep_cons (t := 10) rfl (keep_cons (t := 49) rfl keep_nil))))))) ?_
  refine aw_true rfl ?_
  refine aw_seq_region ?_
  refine sr_x rfl (wtd_none rfl) rfl (Rd.x (x_move rfl)) ?_
  refine sr_x rfl (wtd_none rfl) rfl (Rd.x (x_move rfl)) ?_
  refine sr_cmp rfl (wtd_none rfl) rfl (Rd.x (x_eq rfl rfl)) (fun h2 => ?_) (fun h2 => absurd (by first | omega | decide) h2)
  refine sr_x rfl (wtd_none rfl) rfl (Rd.x (x_move rfl)) ?_
  refine sr_d rfl (wtd_yes rfl rfl rfl) rfl (opS_call rfl rfl rfl rfl cl51 (awake32_s _)) ?_
  rintro _ H ⟨rfl, rfl⟩
  refine sr_x rfl (wtd_none rfl) rfl (Rd.x (x_pick_t rfl rfl rfl)) ?_
  refine sr_x rfl (wtd_none rfl) rfl (Rd.x (x_assign rfl)) ?_
  refine sr_nil ?_
  refine aw_keep (keep_cons (t := 2) rfl (keep_cons (t := 6) rfl (keep_cons (t := 7) rfl (keep_cons (t := 9) rfl keep_nil)))) ?_
  refine aw_ret ?_
  show ∃ v H2, ResV _ _ _ _ _ _ v ∧ Sub H2 _ ∧ _
  exact ⟨_, [], resV rfl (.cons rfl .nil), (Sub.nil _), rfl⟩
set_option maxRecDepth 100000 in
set_option maxHeartbeats 400000 in
theorem sharePlays_err (half : Int) (a : Option Addr) (cap : Nat) (l : List User) (hs : ∀ G, SlV W0 G 3 User.cells a cap l) (sa : Option Addr) (scap : Nat) (xs : List SOp) (hxs : ∀ G, SlV W0 G 3 SOp.cells sa scap xs) (hb : ¬ (half < 1 ∨ 1099511627776 < half)) (us : List User) (e : Int) (hA : AddAll [] (l.take 20) e us) (he : e ≠ 0) : AC Try.prog W0 14 [.int .i64 half, .slice a l.length cap, .slice sa xs.length scap] [] (fun v _ => v = .bool true) := by
  have hle := (hs []).le
  have hcb := (hs []).capb
  have hle9 := (hxs []).le
  have hcb9 := (hxs []).capb
  have hl20 : (l.take 20).length ≤ 20 := by rw [List.length_take]; omega
  refine ac_of Try.func14 rfl rfl rfl ?_
  refine aw_seq_region ?_
  refine sr_x rfl (wtd_none rfl) rfl (Rd.x (x_assign rfl)) ?_
  refine sr_nil ?_
  refine aw_keep (keep_cons (t := 0) rfl (keep_cons (t := 1) rfl (keep_cons (t := 2) rfl (keep_cons (t := 6) rfl keep_nil)))) ?_
  refine aw_seq_region ?_
  refine sr_x rfl (wtd_none rfl) rfl (Rd.x (x_move rfl)) ?_
  refine sr_d rfl (wtd_none rfl) rfl (opS_call rfl rfl rfl rfl cl48 (few48_s a cap l _ hle)) ?_
  rintro _ H ⟨rfl, rfl⟩
  refine sr_x rfl (wtd_none rfl) rfl (Rd.x (x_assign rfl)) ?_
  refine sr_nil ?_
  refine aw_keep (keep_cons (t := 0) rfl (keep_cons (t := 1) rfl (keep_cons (t := 2) rfl (keep_cons (t := 6) rfl keep_nil)))) ?_
  refine aw_seq_region ?_
  refine sr_x rfl (wtd_none rfl) rfl (Rd.x (x_move rfl)) ?_
  refine sr_x rfl (wtd_none rfl) rfl (Rd.x (x_move rfl)) ?_
  refine sr_d rfl (wtd_none rfl) rfl (opS_call rfl rfl rfl rfl cl49 (unew_err (fun H _ => (hs H).take 20) hb (by omega) hA he)) ?_
  rintro _ H ⟨rfl, rfl⟩
  refine sr_x rfl (wtd_none rfl) rfl (Rd.x (x_move rfl)) ?_
  refine sr_x rfl (wtd_none rfl) rfl (Rd.x (x_extract rfl rfl)) ?_
  refine sr_x rfl (wtd_none rfl) rfl (Rd.x (x_extract rfl rfl)) ?_
  refine sr_x rfl (wtd_none rfl) rfl (Rd.x (x_assign rfl)) ?_
  refine sr_x rfl (wtd_none rfl) rfl (Rd.x (x_assign rfl)) ?_
  refine sr_nil ?_
  refine aw_keep (keep_cons (t := 0) rfl (keep_cons (t := 1) rfl (keep_cons (t := 2) rfl (keep_cons (t := 6) rfl (keep_cons (t := 7) rfl (keep_cons (t := 8) rfl keep_nil)))))) ?_
  refine aw_seq_region ?_
  refine sr_x rfl (wtd_none rfl) rfl (Rd.x (x_move rfl)) ?_
  refine sr_x rfl (wtd_none rfl) rfl (Rd.x (x_move rfl)) ?_
  refine sr_d rfl (wtd_none rfl) rfl (opS_call rfl rfl rfl rfl cl50 (umade_err (fun H _ => (hs H).take 20) hb (by omega) hA he)) ?_
  rintro _ H ⟨rfl, rfl⟩
  refine sr_x rfl (wtd_none rfl) rfl (Rd.x (x_move rfl)) ?_
  refine sr_x rfl (wtd_none rfl) rfl (Rd.x (x_extract rfl rfl)) ?_
  refine sr_x rfl (wtd_none rfl) rfl (Rd.x (x_extract rfl rfl)) ?_
  refine sr_x rfl (wtd_none rfl) rfl (Rd.x (x_assign rfl)) ?_
  refine sr_x rfl (wtd_none rfl) rfl (Rd.x (x_assign rfl)) ?_
  refine sr_nil ?_
  refine aw_keep (keep_cons (t := 2) rfl (keep_cons (t := 6) rfl (keep_cons (t := 7) rfl (keep_cons (t := 8) rfl (keep_cons (t := 9) rfl (keep_cons (t := 10) rfl keep_nil)))))) ?_
  refine aw_seq ?_
  refine aw_seq_region ?_
  refine sr_x rfl (wtd_none rfl) rfl (Rd.x (x_move rfl)) ?_
  refine sr_cmp rfl (wtd_none rfl) rfl (Rd.x (x_ne rfl rfl)) (fun h1 => ?_) (fun h1 => absurd (by first | omega | decide) h1)
  refine sr_x rfl (wtd_none rfl) rfl (Rd.x (x_move rfl)) ?_
  refine sr_skip rfl (wtd_no rfl rfl rfl rfl) rfl ?_
  refine sr_skip rfl (wtd_no rfl rfl rfl rfl) rfl ?_
  refine sr_x rfl (wtd_none rfl) rfl (Rd.x (x_pick_t rfl rfl rfl)) ?_
  refine sr_x rfl (wtd_none rfl) rfl (Rd.x (x_move rfl)) ?_
  refine sr_skip rfl (wtd_no rfl rfl rfl rfl) rfl ?_
  refine sr_skip rfl (wtd_no rfl rfl rfl rfl) rfl ?_
  refine sr_x rfl (wtd_none rfl) rfl (Rd.x (x_pick_t rfl rfl rfl)) ?_
  refine sr_x rfl (wtd_none rfl) rfl (Rd.x (x_move rfl)) ?_
  refine sr_skip rfl (wtd_no rfl rfl rfl rfl) rfl ?_
  refine sr_skip rfl (wtd_no rfl rfl rfl rfl) rfl ?_
  refine sr_x rfl (wtd_none rfl) rfl (Rd.x (x_pick_t rfl rfl rfl)) ?_
  refine sr_nil ?_
  refine aw_keep (keep_cons (t := 2) rfl (keep_cons (t := 6) rfl (keep_cons (t := 7) rfl (keep_cons (t := 8) rfl (keep_cons (t := 9) rfl (keep_cons (t := 10) rfl (keep_cons (t := 49) rfl keep_nil))))))) ?_
  refine aw_true rfl ?_
  refine aw_seq_region ?_
  refine sr_x rfl (wtd_none rfl) rfl (Rd.x (x_move rfl)) ?_
  refine sr_x rfl (wtd_none rfl) rfl (Rd.x (x_move rfl)) ?_
  refine sr_cmp rfl (wtd_none rfl) rfl (Rd.x (x_eq rfl rfl)) (fun h2 => ?_) (fun h2 => absurd (by first | omega | decide) h2)
  refine sr_x rfl (wtd_none rfl) rfl (Rd.x (x_move rfl)) ?_
  refine sr_d rfl (wtd_yes rfl rfl rfl) rfl (opS_call rfl rfl rfl rfl cl51 (awake32_s _)) ?_
  rintro _ H ⟨rfl, rfl⟩
  refine sr_x rfl (wtd_none rfl) rfl (Rd.x (x_pick_t rfl rfl rfl)) ?_
  refine sr_x rfl (wtd_none rfl) rfl (Rd.x (x_assign rfl)) ?_
  refine sr_nil ?_
  refine aw_keep (keep_cons (t := 2) rfl (keep_cons (t := 6) rfl (keep_cons (t := 7) rfl (keep_cons (t := 9) rfl keep_nil)))) ?_
  refine aw_ret ?_
  show ∃ v H2, ResV _ _ _ _ _ _ v ∧ Sub H2 _ ∧ _
  exact ⟨_, [], resV rfl (.cons rfl .nil), (Sub.nil _), rfl⟩
set_option maxRecDepth 100000 in
set_option maxHeartbeats 8000000 in
theorem sharePlays_ok (half : Int) (a : Option Addr) (cap : Nat) (l : List User) (hs : ∀ G, SlV W0 G 3 User.cells a cap l) (sa : Option Addr) (scap : Nat) (xs : List SOp) (hxs : ∀ G, SlV W0 G 3 SOp.cells sa scap xs) (hb : ¬ (half < 1 ∨ 1099511627776 < half)) (us0 : List User) (hA : AddAll [] (l.take 20) 0 us0) : AC Try.prog W0 14 [.int .i64 half, .slice a l.length cap, .slice sa xs.length scap] [] (fun v _ => v = .bool true) := by
  have hle := (hs []).le
  have hcb := (hs []).capb
  have hle9 := (hxs []).le
  have hcb9 := (hxs []).capb
  have hl20 : (l.take 20).length ≤ 20 := by rw [List.length_take]; omega
  refine ac_of Try.func14 rfl rfl rfl ?_
  refine aw_seq_region ?_
  refine sr_x rfl (wtd_none rfl) rfl (Rd.x (x_assign rfl)) ?_
  refine sr_nil ?_
  refine aw_keep (keep_cons (t := 0) rfl (keep_cons (t := 1) rfl (keep_cons (t := 2) rfl (keep_cons (t := 6) rfl keep_nil)))) ?_
  refine aw_seq_region ?_
  refine sr_x rfl (wtd_none rfl) rfl (Rd.x (x_move rfl)) ?_
  refine sr_d rfl (wtd_none rfl) rfl (opS_call rfl rfl rfl rfl cl48 (few48_s a cap l _ hle)) ?_
  rintro _ H ⟨rfl, rfl⟩
  refine sr_x rfl (wtd_none rfl) rfl (Rd.x (x_assign rfl)) ?_
  refine sr_nil ?_
  refine aw_keep (keep_cons (t := 0) rfl (keep_cons (t := 1) rfl (keep_cons (t := 2) rfl (keep_cons (t := 6) rfl keep_nil)))) ?_
  refine aw_seq_region ?_
  refine sr_x rfl (wtd_none rfl) rfl (Rd.x (x_move rfl)) ?_
  refine sr_x rfl (wtd_none rfl) rfl (Rd.x (x_move rfl)) ?_
  refine sr_d rfl (wtd_none rfl) rfl (opS_call rfl rfl rfl rfl cl49 (unew_ok (fun H _ => (hs H).take 20) hb (by omega) hA)) ?_
  rintro _ _ ⟨p, a1, c1, E01, hsrt, hul, V01, rfl, rfl⟩
  refine sr_x rfl (wtd_none rfl) rfl (Rd.x (x_move rfl)) ?_
  refine sr_x rfl (wtd_none rfl) rfl (Rd.x (x_extract rfl rfl)) ?_
  refine sr_x rfl (wtd_none rfl) rfl (Rd.x (x_extract rfl rfl)) ?_
  refine sr_x rfl (wtd_none rfl) rfl (Rd.x (x_assign rfl)) ?_
  refine sr_x rfl (wtd_none rfl) rfl (Rd.x (x_assign rfl)) ?_
  refine sr_nil ?_
  refine aw_keep (keep_cons (t := 0) rfl (keep_cons (t := 1) rfl (keep_cons (t := 2) rfl (keep_cons (t := 6) rfl (keep_cons (t := 7) rfl (keep_cons (t := 8) rfl keep_nil)))))) ?_
  refine aw_seq_region ?_
  refine sr_x rfl (wtd_none rfl) rfl (Rd.x (x_move rfl)) ?_
  refine sr_x rfl (wtd_none rfl) rfl (Rd.x (x_move rfl)) ?_
  refine sr_d rfl (wtd_none rfl) rfl (opS_call rfl rfl rfl rfl cl50 (umade_ok (fun H _ => (hs H).take 20) hb (by omega) hA)) ?_
  rintro _ _ ⟨q, a2, c2, E02, V02, rfl, rfl⟩
  have hh1 : 1 ≤ half := by omega
  refine sr_x rfl (wtd_none rfl) rfl (Rd.x (x_move rfl)) ?_
  refine sr_x rfl (wtd_none rfl) rfl (Rd.x (x_extract rfl rfl)) ?_
  refine sr_x rfl (wtd_none rfl) rfl (Rd.x (x_extract rfl rfl)) ?_
  refine sr_x rfl (wtd_none rfl) rfl (Rd.x (x_assign rfl)) ?_
  refine sr_x rfl (wtd_none rfl) rfl (Rd.x (x_assign rfl)) ?_
  refine sr_nil ?_
  refine aw_keep (keep_cons (t := 2) rfl (keep_cons (t := 6) rfl (keep_cons (t := 7) rfl (keep_cons (t := 8) rfl (keep_cons (t := 9) rfl (keep_cons (t := 10) rfl keep_nil)))))) ?_
  refine aw_seq ?_
  refine aw_seq_region ?_
  refine sr_x rfl (wtd_none rfl) rfl (Rd.x (x_move rfl)) ?_
  refine sr_cmp rfl (wtd_none rfl) rfl (Rd.x (x_ne rfl rfl)) (fun h1 => absurd h1 (by first | omega | decide)) (fun h1 => ?_)
  refine sr_x rfl (wtd_none rfl) rfl (Rd.x (x_move rfl)) ?_
  refine sr_x rfl (wtd_yes rfl rfl rfl) rfl (Rd.x (x_move rfl)) ?_
  refine sr_cmp rfl (wtd_yes rfl rfl rfl) rfl (Rd.x (x_ne rfl rfl)) (fun h2 => absurd h2 (by first | omega | decide)) (fun h2 => ?_)
  refine sr_x rfl (wtd_none rfl) rfl (Rd.x (x_pick_f rfl rfl rfl)) ?_
  refine sr_x rfl (wtd_none rfl) rfl (Rd.x (x_move rfl)) ?_
  refine sr_x rfl (wtd_yes rfl rfl rfl) rfl (Rd.x (x_move rfl)) ?_
  refine sr_x rfl (wtd_yes rfl rfl rfl) rfl (Rd.x (x_eqnil Try.underlying75 rfl rfl)) ?_
  refine sr_x rfl (wtd_none rfl) rfl (Rd.x (x_pick_f rfl rfl rfl)) ?_
  refine sr_x rfl (wtd_none rfl) rfl (Rd.x (x_move rfl)) ?_
  refine sr_x rfl (wtd_yes rfl rfl rfl) rfl (Rd.x (x_move rfl)) ?_
  refine sr_x rfl (wtd_yes rfl rfl rfl) rfl (Rd.x (x_eqnil Try.underlying78 rfl rfl)) ?_
  refine sr_x rfl (wtd_none rfl) rfl (Rd.x (x_pick_f rfl rfl rfl)) ?_
  refine sr_nil ?_
  refine aw_keep (keep_cons (t := 2) rfl (keep_cons (t := 6) rfl (keep_cons (t := 7) rfl (keep_cons (t := 8) rfl (keep_cons (t := 9) rfl (keep_cons (t := 10) rfl (keep_cons (t := 49) rfl keep_nil))))))) ?_
  refine aw_false rfl ?_
  refine aw_skip ?_
  show AW _ _ _ _ _ _ _
  refine aw_seq ?_
  refine aw_seq_region ?_
  refine sr_x rfl (wtd_none rfl) rfl (Rd.x (x_assign rfl)) ?_
  refine sr_nil ?_
  refine aw_keep (keep_cons (t := 2) rfl (keep_cons (t := 6) rfl (keep_cons (t := 7) rfl (keep_cons (t := 9) rfl (keep_cons (t := 11) rfl keep_nil))))) ?_
  refine aw_block ?_
  refine aw_loop (ι := PSt) (fun s => s.i ≤ xs.length ∧ s.i ≤ 40 ∧ s.us.length ≤ 20 ∧ BkI half s.now s.us ∧ OwnVec 3 86 (.slice a1 s.us.length c1) s.us.length (s.us.flatMap User.cells) s.E1 ∧ OwnVec 3 86 (.slice a2 s.us.length c2) s.us.length (s.us.flatMap User.cells) s.E2) (fun s => [(2, .slice sa xs.length scap), (6, .bool false), (7, .pointer (some ⟨p, 0, none⟩)), (9, .pointer (some ⟨q, 0, none⟩)), (11, .int .i64 s.i)]) (fun s => bk p (.slice a1 s.us.length c1) half s.now :: (s.E1 ++ (pk q (.slice a2 s.us.length c2) half s.now :: (s.E2 ++ [])))) (fun s => xs.length - s.i) ⟨0, us0, 0, E01, E02⟩ (⟨Nat.zero_le _, by dsimp only; omega, by dsimp only; omega, ⟨hsrt, good_all hA (fun x hx => nomatch hx), by dsimp only; omega⟩, V01, V02⟩) (by (repeat (first | exact keep_nil | refine keep_cons rfl ?_)); first | done | fail) (by repeat (first | exact Sub.refl _ | refine Sub.take (by repeat (first | exact Take.here | apply Take.there | apply Take.app)) ?_ | refine Sub.takeE (by repeat (first | exact TakeE.here | apply TakeE.there | apply TakeE.app)) ?_ | exact Sub.nil _ | apply Sub.drop | apply Sub.dropE)) ?_
  intro s hs9
  obtain ⟨i, us, now, E1, E2⟩ := s
  dsimp only at hs9 ⊢
  obtain ⟨hi1, hi2, hul1, hbi, V1, V2⟩ := hs9
  have hn1 := hbi.now0
  refine aw_seq ?_
  refine aw_seq_region ?_
  refine sr_x rfl (wtd_none rfl) rfl (Rd.x (x_move rfl)) ?_
  refine sr_x rfl (wtd_none rfl) rfl (Rd.x (x_move rfl)) ?_
  refine sr_x rfl (wtd_none rfl) rfl (Rd.x (x_lenSlice Try.underlying129 rfl)) ?_
  refine sr_cmp rfl (wtd_none rfl) rfl (Rd.x (x_lt rfl rfl)) (fun h3 => ?_) (fun h3 => ?_)
  · refine sr_x rfl (wtd_none rfl) rfl (Rd.x (x_move rfl)) ?_
    refine sr_x rfl (wtd_yes rfl rfl rfl) rfl (Rd.x (x_move rfl)) ?_
    refine sr_cmp rfl (wtd_yes rfl rfl rfl) rfl (Rd.x (x_lt rfl rfl)) (fun h4 => ?_) (fun h4 => ?_)
    · refine sr_x rfl (wtd_none rfl) rfl (Rd.x (x_pick_t rfl rfl rfl)) ?_
      refine sr_nil ?_
      refine aw_keep (keep_cons (t := 2) rfl (keep_cons (t := 6) rfl (keep_cons (t := 7) rfl (keep_cons (t := 9) rfl (keep_cons (t := 11) rfl (keep_cons (t := 56) rfl (keep_cons (t := 57) rfl (keep_cons (t := 58) rfl (keep_cons (t := 59) rfl (keep_cons (t := 60) rfl (keep_cons (t := 61) rfl (keep_cons (t := 62) rfl (keep_cons (t := 63) rfl keep_nil))))))))))))) ?_
      refine aw_true rfl ?_
      refine aw_skip ?_
      show AW _ _ _ _ _ _ _
      refine aw_seq ?_
      refine aw_block ?_
      refine aw_seq_region ?_
      obtain ⟨o, ho⟩ := get_ex (show i < xs.length by omega)
      obtain ⟨bo, oo, hao, hco⟩ := (hxs []).at_ i _ ho
      refine sr_x rfl (wtd_none rfl) rfl (Rd.x (x_move rfl)) ?_
      refine sr_x rfl (wtd_none rfl) rfl (Rd.x (x_move rfl)) ?_
      refine sr_x rfl (wtd_none rfl) rfl (Rd.x (x_indexAddrN i Try.underlying129 sz131 rfl hao rfl (by omega) (by omega))) ?_
      refine sr_x rfl (wtd_none rfl) rfl (Rd.x (x_loadN ag131 sz131 rfl (Cells.mono hco (Sub.nil _)) rfl)) ?_
      refine sr_new rfl (wtd_none rfl) rfl (x_alloc zr131 rfl) ?_
      intro r9_4 hr9_4 gr9_4
      refine sr_x0 rfl (wtd_none rfl) (x_store sz131 rfl rfl rfl rfl rfl (by repeat (first | exact Repl.here | apply Repl.there | apply Repl.app)) (by repeat (first | exact Spl.done | exact Spl.all rfl | apply Spl.put | apply Spl.skip))) ?_
      refine sr_nil ?_
      refine aw_keep (keep_cons (t := 2) rfl (keep_cons (t := 6) rfl (keep_cons (t := 7) rfl (keep_cons (t := 9) rfl (keep_cons (t := 11) rfl (keep_cons (t := 12) rfl (keep_cons (t := 56) rfl (keep_cons (t := 57) rfl (keep_cons (t := 58) rfl (keep_cons (t := 59) rfl (keep_cons (t := 60) rfl (keep_cons (t := 61) rfl (keep_cons (t := 62) rfl (keep_cons (t := 63) rfl (keep_cons (t := 66) rfl (keep_cons (t := 67) rfl (keep_cons (t := 68) rfl (keep_cons (t := 69) rfl keep_nil)))))))))))))))))) ?_
      refine aw_join (ι := PSt) (fun s => s.us.length ≤ 20 ∧ BkI half s.now s.us ∧ OwnVec 3 86 (.slice a1 s.us.length c1) s.us.length (s.us.flatMap User.cells) s.E1 ∧ OwnVec 3 86 (.slice a2 s.us.length c2) s.us.length (s.us.flatMap User.cells) s.E2) (fun _ => [(2, .slice sa xs.length scap), (11, .int .i64 i), (6, .bool false), (7, .pointer (some ⟨p, 0, none⟩)), (9, .pointer (some ⟨q, 0, none⟩))]) (fun s => bk p (.slice a1 s.us.length c1) half s.now :: (s.E1 ++ (pk q (.slice a2 s.us.length c2) half s.now :: (s.E2 ++ [])))) ?_ ?_
      · refine aw_seq_region ?_
        refine sr_x rfl (wtd_none rfl) rfl (Rd.x (x_fieldAddr fd131_0 rfl)) ?_
        refine sr_x rfl (wtd_none rfl) rfl (Rd.x (x_load ag3 rfl (cells_ext (by repeat (first | exact List.mem_cons_self | apply List.mem_cons_of_mem | apply List.mem_append_right)) (by repeat (first | exact Ext.all _ | exact Ext.done | apply Ext.take | apply Ext.skip))))) ?_
        refine sr_cmp rfl (wtd_none rfl) rfl (Rd.x (x_eq rfl rfl)) (fun h5 => ?_) (fun h5 => ?_)
        · refine sr_nil ?_
          refine aw_keep (keep_cons (t := 2) rfl (keep_cons (t := 6) rfl (keep_cons (t := 7) rfl (keep_cons (t := 9) rfl (keep_cons (t := 11) rfl (keep_cons (t := 12) rfl (keep_cons (t := 56) rfl (keep_cons (t := 57) rfl (keep_cons (t := 58) rfl (keep_cons (t := 59) rfl (keep_cons (t := 60) rfl (keep_cons (t := 61) rfl (keep_cons (t := 62) rfl (keep_cons (t := 63) rfl (keep_cons (t := 66) rfl (keep_cons (t := 67) rfl (keep_cons (t := 68) rfl (keep_cons (t := 69) rfl (keep_cons (t := 70) rfl (keep_cons (t := 71) rfl (keep_cons (t := 72) rfl keep_nil))))))))))))))))))))) ?_
          refine aw_true rfl ?_
          refine aw_seq_drX (G := bk p (.slice a1 us.length c1) half now :: (E1 ++ (pk q (.slice a2 us.length c2) half now :: (E2 ++ [])))) (X := [(r9_4, .cells (SOp.cells o).toArray 131 (0, 0))]) ⟨_, 9, 246, [[], [], [1], [0, 1, 2], [], [], [5], [0, 1, 2, 3, 4, 5, 6], [0, 1, 2, 3, 4, 5, 6, 7]], [.light, .light, .light, .eff, .light, .light, .light, .eff, .light]⟩ (by kernel_rfl) rfl rfl mix (Sub.of_perm List.perm_append_comm) ?_
          refine dr_light rfl rfl (wtd_none rfl) (x_move rfl) ?_
          refine dr_light rfl rfl (wtd_none rfl) (x_fieldAddr fd131_2 rfl) ?_
          refine dr_fix rfl rfl (wtd_none rfl) (x_load ag2 rfl (cells_ext (by repeat (first | exact List.mem_cons_self | apply List.mem_cons_of_mem | apply List.mem_append_right)) (by repeat (first | exact Ext.all _ | exact Ext.done | apply Ext.take | apply Ext.skip)))) ?_
          refine dr_eff rfl (V := []) rfl (L' := []) (clear_all rfl) rfl (wtd_none rfl) (opS_F rfl rfl rfl rfl cl80 (AC.sub (by repeat (first | exact Sub.refl _ | refine Sub.take (by repeat (first | exact Take.here | apply Take.there | apply Take.app)) ?_ | refine Sub.takeE (by repeat (first | exact TakeE.here | apply TakeE.there | apply TakeE.app)) ?_ | exact Sub.nil _ | apply Sub.drop | apply Sub.dropE)) (fade_s p a1 c1 us half now E1 (pk q (.slice a2 us.length c2) half now :: (E2 ++ [])) V1 (by omega) hbi hh1 o.x))) (fade_freshbk (G := pk q (.slice a2 us.length c2) half now :: (E2 ++ [])) V1 (by repeat (first | exact Sub.refl _ | refine Sub.take (by repeat (first | exact Take.here | apply Take.there | apply Take.app)) ?_ | refine Sub.takeE (by repeat (first | exact TakeE.here | apply TakeE.there | apply TakeE.app)) ?_ | exact Sub.nil _ | apply Sub.drop | apply Sub.dropE))) ?_
          rintro _ _ ⟨rfl, F1, V1', rfl⟩
          refine dr_light rfl rfl (wtd_none rfl) (x_move rfl) ?_
          refine dr_light rfl rfl (wtd_none rfl) (x_fieldAddr fd131_2 rfl) ?_
          refine dr_fix rfl rfl (wtd_none rfl) (x_load ag2 rfl (cells_ext (by repeat (first | exact List.mem_cons_self | apply List.mem_cons_of_mem | apply List.mem_append_right)) (by repeat (first | exact Ext.all _ | exact Ext.done | apply Ext.take | apply Ext.skip)))) ?_
          refine dr_eff rfl (V := []) rfl (L' := []) (clear_all rfl) rfl (wtd_none rfl) (opS_F rfl rfl rfl rfl cl81 (AC.sub (by repeat (first | exact Sub.refl _ | refine Sub.take (by repeat (first | exact Take.here | apply Take.there | apply Take.app)) ?_ | refine Sub.takeE (by repeat (first | exact TakeE.here | apply TakeE.there | apply TakeE.app)) ?_ | exact Sub.nil _ | apply Sub.drop | apply Sub.dropE)) (pfade_s q a2 c2 us half now E2 (bk p (.slice a1 us.length c1) half (fadN now o.x) :: (F1 ++ [])) V2 (by omega) hbi hh1 o.x))) (fade_freshpk (G := bk p (.slice a1 us.length c1) half (fadN now o.x) :: (F1 ++ [])) V2 (by repeat (first | exact Sub.refl _ | refine Sub.take (by repeat (first | exact Take.here | apply Take.there | apply Take.app)) ?_ | refine Sub.takeE (by repeat (first | exact TakeE.here | apply TakeE.there | apply TakeE.app)) ?_ | exact Sub.nil _ | apply Sub.drop | apply Sub.dropE))) ?_
          rintro _ _ ⟨rfl, F2, V2', rfl⟩
          refine dr_cmp rfl rfl (wtd_none rfl) (x_ne rfl rfl) (fun h6 => absurd h6 (by first | omega | decide)) (fun h6 => ?_)
          refine dr_nil0 ?_
          refine aw_keep (keep_cons (t := 2) rfl (keep_cons (t := 6) rfl (keep_cons (t := 7) rfl (keep_cons (t := 9) rfl (keep_cons (t := 11) rfl (keep_cons (t := 12) rfl (keep_cons (t := 56) rfl (keep_cons (t := 57) rfl (keep_cons (t := 58) rfl (keep_cons (t := 59) rfl (keep_cons (t := 60) rfl (keep_cons (t := 61) rfl (keep_cons (t := 62) rfl (keep_cons (t := 63) rfl (keep_cons (t := 66) rfl (keep_cons (t := 67) rfl (keep_cons (t := 68) rfl (keep_cons (t := 69) rfl (keep_cons (t := 70) rfl (keep_cons (t := 71) rfl (keep_cons (t := 72) rfl (keep_cons (t := 73) rfl (keep_cons (t := 74) rfl (keep_cons (t := 75) rfl (keep_cons (t := 76) rfl (keep_cons (t := 77) rfl (keep_cons (t := 78) rfl (keep_cons (t := 79) rfl (keep_cons (t := 80) rfl (keep_cons (t := 81) rfl keep_nil)))))))))))))))))))))))))))))) ?_
          refine aw_false rfl ?_
          refine aw_skip ?_
          show ∃ s', _ ∧ _ ∧ _
          first | exact ⟨⟨i, fadU half now o.x us, fadN now o.x, F1, F2⟩, ⟨by dsimp only; rw [fad_len]; omega, hbi.fade, by dsimp only; rw [fad_len]; exact V1', by dsimp only; rw [fad_len]; exact V2'⟩, (by (repeat (first | exact keep_nil | refine keep_cons rfl ?_)); first | done | fail), (by dsimp only; rw [fad_len]; exact (by (repeat (first | exact Sub.refl _ | refine Sub.take (by repeat (first | exact Take.here | apply Take.there | apply Take.app)) ?_ | refine Sub.takeE (by repeat (first | exact TakeE.here | apply TakeE.there | apply TakeE.app)) ?_ | exact Sub.nil _ | apply Sub.drop | apply Sub.dropE)); first | done | fail))⟩ | exact ⟨⟨i, chgU o.id o.x us, now, F1, F2⟩, ⟨by dsimp only; rw [chg_len]; omega, hbi.charge, by dsimp only; rw [chg_len]; exact V1', by dsimp only; rw [chg_len]; exact V2'⟩, (by (repeat (first | exact keep_nil | refine keep_cons rfl ?_)); first | done | fail), (by dsimp only; rw [chg_len]; exact (by (repeat (first | exact Sub.refl _ | refine Sub.take (by repeat (first | exact Take.here | apply Take.there | apply Take.app)) ?_ | refine Sub.takeE (by repeat (first | exact TakeE.here | apply TakeE.there | apply TakeE.app)) ?_ | exact Sub.nil _ | apply Sub.drop | apply Sub.dropE)); first | done | fail))⟩
        · refine sr_nil ?_
          refine aw_keep (keep_cons (t := 2) rfl (keep_cons (t := 6) rfl (keep_cons (t := 7) rfl (keep_cons (t := 9) rfl (keep_cons (t := 11) rfl (keep_cons (t := 12) rfl (keep_cons (t := 56) rfl (keep_cons (t := 57) rfl (keep_cons (t := 58) rfl (keep_cons (t := 59) rfl (keep_cons (t := 60) rfl (keep_cons (t := 61) rfl (keep_cons (t := 62) rfl (keep_cons (t := 63) rfl (keep_cons (t := 66) rfl (keep_cons (t := 67) rfl (keep_cons (t := 68) rfl (keep_cons (t := 69) rfl (keep_cons (t := 70) rfl (keep_cons (t := 71) rfl (keep_cons (t := 72) rfl keep_nil))))))))))))))))))))) ?_
          refine aw_false rfl ?_
          refine aw_seq_drX (G := bk p (.slice a1 us.length c1) half now :: (E1 ++ (pk q (.slice a2 us.length c2) half now :: (E2 ++ [])))) (X := [(r9_4, .cells (SOp.cells o).toArray 131 (0, 0))]) ⟨_, 13, 246, [[], [], [1], [], [3], [0, 1, 2, 3, 4], [], [], [7], [], [9], [0, 1, 2, 3, 4, 5, 6, 7, 8, 9, 10], [0, 1, 2, 3, 4, 5, 6, 7, 8, 9, 10, 11]], [.light, .light, .light, .light, .light, .eff, .light, .light, .light, .light, .light, .eff, .light]⟩ (by kernel_rfl) rfl rfl mix (Sub.of_perm List.perm_append_comm) ?_
          refine dr_light rfl rfl (wtd_none rfl) (x_move rfl) ?_
          refine dr_light rfl rfl (wtd_none rfl) (x_fieldAddr fd131_1 rfl) ?_
          refine dr_fix rfl rfl (wtd_none rfl) (x_load ag3 rfl (cells_ext (by repeat (first | exact List.mem_cons_self | apply List.mem_cons_of_mem | apply List.mem_append_right)) (by repeat (first | exact Ext.all _ | exact Ext.done | apply Ext.take | apply Ext.skip)))) ?_
          refine dr_light rfl rfl (wtd_none rfl) (x_fieldAddr fd131_2 rfl) ?_
          refine dr_fix rfl rfl (wtd_none rfl) (x_load ag2 rfl (cells_ext (by repeat (first | exact List.mem_cons_self | apply List.mem_cons_of_mem | apply List.mem_append_right)) (by repeat (first | exact Ext.all _ | exact Ext.done | apply Ext.take | apply Ext.skip)))) ?_
          refine dr_eff rfl (V := []) rfl (L' := []) (clear_all rfl) rfl (wtd_none rfl) (opS_F rfl rfl rfl rfl cl82 (AC.sub (by repeat (first | exact Sub.refl _ | refine Sub.take (by repeat (first | exact Take.here | apply Take.there | apply Take.app)) ?_ | refine Sub.takeE (by repeat (first | exact TakeE.here | apply TakeE.there | apply TakeE.app)) ?_ | exact Sub.nil _ | apply Sub.drop | apply Sub.dropE)) (charge_s p a1 c1 us half now E1 (pk q (.slice a2 us.length c2) half now :: (E2 ++ [])) V1 (by omega) hbi hh1 o.id o.x))) (charge_freshbk (G := pk q (.slice a2 us.length c2) half now :: (E2 ++ [])) V1 (by repeat (first | exact Sub.refl _ | refine Sub.take (by repeat (first | exact Take.here | apply Take.there | apply Take.app)) ?_ | refine Sub.takeE (by repeat (first | exact TakeE.here | apply TakeE.there | apply TakeE.app)) ?_ | exact Sub.nil _ | apply Sub.drop | apply Sub.dropE))) ?_
          rintro _ _ ⟨rfl, F1, V1', rfl⟩
          refine dr_light rfl rfl (wtd_none rfl) (x_move rfl) ?_
          refine dr_light rfl rfl (wtd_none rfl) (x_fieldAddr fd131_1 rfl) ?_
          refine dr_fix rfl rfl (wtd_none rfl) (x_load ag3 rfl (cells_ext (by repeat (first | exact List.mem_cons_self | apply List.mem_cons_of_mem | apply List.mem_append_right)) (by repeat (first | exact Ext.all _ | exact Ext.done | apply Ext.take | apply Ext.skip)))) ?_
          refine dr_light rfl rfl (wtd_none rfl) (x_fieldAddr fd131_2 rfl) ?_
          refine dr_fix rfl rfl (wtd_none rfl) (x_load ag2 rfl (cells_ext (by repeat (first | exact List.mem_cons_self | apply List.mem_cons_of_mem | apply List.mem_append_right)) (by repeat (first | exact Ext.all _ | exact Ext.done | apply Ext.take | apply Ext.skip)))) ?_
          refine dr_eff rfl (V := []) rfl (L' := []) (clear_all rfl) rfl (wtd_none rfl) (opS_F rfl rfl rfl rfl cl83 (AC.sub (by repeat (first | exact Sub.refl _ | refine Sub.take (by repeat (first | exact Take.here | apply Take.there | apply Take.app)) ?_ | refine Sub.takeE (by repeat (first | exact TakeE.here | apply TakeE.there | apply TakeE.app)) ?_ | exact Sub.nil _ | apply Sub.drop | apply Sub.dropE)) (pcharge_s q a2 c2 us half now E2 (bk p (.slice a1 us.length c1) half now :: (F1 ++ [])) V2 (by omega) hbi hh1 o.id o.x))) (charge_freshpk (G := bk p (.slice a1 us.length c1) half now :: (F1 ++ [])) V2 (by repeat (first | exact Sub.refl _ | refine Sub.take (by repeat (first | exact Take.here | apply Take.there | apply Take.app)) ?_ | refine Sub.takeE (by repeat (first | exact TakeE.here | apply TakeE.there | apply TakeE.app)) ?_ | exact Sub.nil _ | apply Sub.drop | apply Sub.dropE))) ?_
          rintro _ _ ⟨rfl, F2, V2', rfl⟩
          refine dr_cmp rfl rfl (wtd_none rfl) (x_ne rfl rfl) (fun h7 => absurd h7 (by first | omega | decide)) (fun h7 => ?_)
          refine dr_nil0 ?_
          refine aw_keep (keep_cons (t := 2) rfl (keep_cons (t := 6) rfl (keep_cons (t := 7) rfl (keep_cons (t := 9) rfl (keep_cons (t := 11) rfl (keep_cons (t := 12) rfl (keep_cons (t := 56) rfl (keep_cons (t := 57) rfl (keep_cons (t := 58) rfl (keep_cons (t := 59) rfl (keep_cons (t := 60) rfl (keep_cons (t := 61) rfl (keep_cons (t := 62) rfl (keep_cons (t := 63) rfl (keep_cons (t := 66) rfl (keep_cons (t := 67) rfl (keep_cons (t := 68) rfl (keep_cons (t := 69) rfl (keep_cons (t := 70) rfl (keep_cons (t := 71) rfl (keep_cons (t := 72) rfl (keep_cons (t := 82) rfl (keep_cons (t := 83) rfl (keep_cons (t := 84) rfl (keep_cons (t := 85) rfl (keep_cons (t := 86) rfl (keep_cons (t := 87) rfl (keep_cons (t := 88) rfl (keep_cons (t := 89) rfl (keep_cons (t := 90) rfl (keep_cons (t := 91) rfl (keep_cons (t := 92) rfl (keep_cons (t := 93) rfl (keep_cons (t := 94) rfl keep_nil)))))))))))))))))))))))))))))))))) ?_
          refine aw_false rfl ?_
          refine aw_skip ?_
          show ∃ s', _ ∧ _ ∧ _
          first | exact ⟨⟨i, fadU half now o.x us, fadN now o.x, F1, F2⟩, ⟨by dsimp only; rw [fad_len]; omega, hbi.fade, by dsimp only; rw [fad_len]; exact V1', by dsimp only; rw [fad_len]; exact V2'⟩, (by (repeat (first | exact keep_nil | refine keep_cons rfl ?_)); first | done | fail), (by dsimp only; rw [fad_len]; exact (by (repeat (first | exact Sub.refl _ | refine Sub.take (by repeat (first | exact Take.here | apply Take.there | apply Take.app)) ?_ | refine Sub.takeE (by repeat (first | exact TakeE.here | apply TakeE.there | apply TakeE.app)) ?_ | exact Sub.nil _ | apply Sub.drop | apply Sub.dropE)); first | done | fail))⟩ | exact ⟨⟨i, chgU o.id o.x us, now, F1, F2⟩, ⟨by dsimp only; rw [chg_len]; omega, hbi.charge, by dsimp only; rw [chg_len]; exact V1', by dsimp only; rw [chg_len]; exact V2'⟩, (by (repeat (first | exact keep_nil | refine keep_cons rfl ?_)); first | done | fail), (by dsimp only; rw [chg_len]; exact (by (repeat (first | exact Sub.refl _ | refine Sub.take (by repeat (first | exact Take.here | apply Take.there | apply Take.app)) ?_ | refine Sub.takeE (by repeat (first | exact TakeE.here | apply TakeE.there | apply TakeE.app)) ?_ | exact Sub.nil _ | apply Sub.drop | apply Sub.dropE)); first | done | fail))⟩
      · intro s9 hs8
        obtain ⟨_, us2, now2, F1, F2⟩ := s9
        dsimp only at hs8 ⊢
        obtain ⟨hul2, hbi2, W1, W2⟩ := hs8
        have hn0 := hbi2.now0
        refine aw_seq_region ?_
        refine sr_x rfl (wtd_none rfl) rfl (Rd.x (x_move rfl)) ?_
        refine sr_d rfl (wtd_none rfl) rfl (opS_call rfl rfl rfl rfl cl52 (users_s p a1 c1 us2 half now2 _ (cells_ext (by repeat (first | exact List.mem_cons_self | apply List.mem_cons_of_mem | apply List.mem_append_right)) (by repeat (first | exact Ext.all _ | exact Ext.done | apply Ext.take | apply Ext.skip))) (by omega) (W1.slv' (fun _ => rfl) rfl (Sub.takeE0 (by repeat (first | exact TakeE.here | apply TakeE.there | apply TakeE.app)))) (by omega))) ?_
        rintro _ _ ⟨E3, ⟨a3, c3, V3, rfl⟩, rfl⟩
        refine sr_x rfl (wtd_none rfl) rfl (Rd.x (x_assign rfl)) ?_
        refine sr_nil ?_
        refine aw_keep (keep_cons (t := 2) rfl (keep_cons (t := 6) rfl (keep_cons (t := 7) rfl (keep_cons (t := 9) rfl (keep_cons (t := 11) rfl (keep_cons (t := 13) rfl (keep_cons (t := 95) rfl (keep_cons (t := 96) rfl keep_nil)))))))) ?_
        refine aw_seq_region ?_
        refine sr_x rfl (wtd_none rfl) rfl (Rd.x (x_assign rfl)) ?_
        refine sr_nil ?_
        refine aw_keep (keep_cons (t := 2) rfl (keep_cons (t := 6) rfl (keep_cons (t := 7) rfl (keep_cons (t := 9) rfl (keep_cons (t := 11) rfl (keep_cons (t := 13) rfl (keep_cons (t := 14) rfl (keep_cons (t := 95) rfl (keep_cons (t := 96) rfl keep_nil))))))))) ?_
        refine aw_seq ?_
        refine aw_seq_region ?_
        refine sr_x rfl (wtd_none rfl) rfl (Rd.x (x_assign rfl)) ?_
        refine sr_nil ?_
        refine aw_keep (keep_cons (t := 2) rfl (keep_cons (t := 6) rfl (keep_cons (t := 7) rfl (keep_cons (t := 9) rfl (keep_cons (t := 11) rfl (keep_cons (t := 13) rfl (keep_cons (t := 14) rfl (keep_cons (t := 15) rfl (keep_cons (t := 95) rfl (keep_cons (t := 96) rfl keep_nil)))))))))) ?_
        refine aw_block ?_
        refine aw_loop (ι := Nat) (fun k => k ≤ us2.length) (fun k => [(2, .slice sa xs.length scap), (6, .bool false), (7, .pointer (some ⟨p, 0, none⟩)), (9, .pointer (some ⟨q, 0, none⟩)), (11, .int .i64 i), (13, .slice a3 us2.length c3), (14, .int .i64 (sumU (us2.take k))), (15, .int .i64 k)]) (fun _ => E3 ++ (bk p (.slice a1 us2.length c1) half now2 :: (F1 ++ (pk q (.slice a2 us2.length c2) half now2 :: (F2 ++ []))))) (fun k => us2.length - k) 0 (Nat.zero_le _) (by (repeat (first | exact keep_nil | refine keep_cons rfl ?_)); first | done | fail) (by repeat (first | exact Sub.refl _ | refine Sub.take (by repeat (first | exact Take.here | apply Take.there | apply Take.app)) ?_ | refine Sub.takeE (by repeat (first | exact TakeE.here | apply TakeE.there | apply TakeE.app)) ?_ | exact Sub.nil _ | apply Sub.drop | apply Sub.dropE)) ?_
        intro k hk
        refine aw_seq ?_
        refine aw_seq_region ?_
        refine sr_x rfl (wtd_none rfl) rfl (Rd.x (x_move rfl)) ?_
        refine sr_x rfl (wtd_none rfl) rfl (Rd.x (x_move rfl)) ?_
        refine sr_x rfl (wtd_none rfl) rfl (Rd.x (x_nilCheck rfl)) ?_
        refine sr_x rfl (wtd_none rfl) rfl (Rd.x (x_fieldAddr fd83_0 rfl)) ?_
        refine sr_x rfl (wtd_none rfl) rfl (Rd.x (x_load ag73 rfl (cells_ext (by repeat (first | exact List.mem_cons_self | apply List.mem_cons_of_mem | apply List.mem_append_right)) (by repeat (first | exact Ext.all _ | exact Ext.done | apply Ext.take | apply Ext.skip))))) ?_
        refine sr_x rfl (wtd_none rfl) rfl (Rd.x (x_lenSlice Try.underlying73 rfl)) ?_
        refine sr_cmp rfl (wtd_none rfl) rfl (Rd.x (x_lt rfl rfl)) (fun h8 => ?_) (fun h8 => ?_)
        · refine sr_nil ?_
          refine aw_keep (keep_cons (t := 2) rfl (keep_cons (t := 6) rfl (keep_cons (t := 7) rfl (keep_cons (t := 9) rfl (keep_cons (t := 11) rfl (keep_cons (t := 13) rfl (keep_cons (t := 14) rfl (keep_cons (t := 15) rfl (keep_cons (t := 97) rfl (keep_cons (t := 98) rfl (keep_cons (t := 99) rfl (keep_cons (t := 100) rfl (keep_cons (t := 101) rfl (keep_cons (t := 102) rfl (keep_cons (t := 103) rfl keep_nil))))))))))))))) ?_
          refine aw_true rfl ?_
          refine aw_skip ?_
          show AW _ _ _ _ _ _ _
          refine aw_seq ?_
          refine aw_block ?_
          refine aw_seq_region ?_
          obtain ⟨u, hu⟩ := get_ex (show k < us2.length by omega)
          have hgu := hbi2.good u (List.mem_of_getElem? hu)
          obtain ⟨b3, o3, ha3, hc3⟩ := (V3.slv' (W0 := W0) (fun _ => rfl) rfl (Sub.refl _)).at_ k _ hu
          have hle3 := (V3.slv' (W0 := W0) (fun _ => rfl) rfl (Sub.refl _)).le
          have hcb3 := (V3.slv' (W0 := W0) (fun _ => rfl) rfl (Sub.refl _)).capb
          obtain ⟨b5, o5, ha5, hc5⟩ := (W2.slv' (W0 := W0) (fun _ => rfl) rfl (Sub.refl _)).at_ k _ hu
          have hle5 := (W2.slv' (W0 := W0) (fun _ => rfl) rfl (Sub.refl _)).le
          have hcb5 := (W2.slv' (W0 := W0) (fun _ => rfl) rfl (Sub.refl _)).capb
          have hsd := sumU_bd (us := us2.take k) (by rw [List.length_take]; omega) (fun x hx => hbi2.good x (List.mem_of_mem_take hx))
          rw [List.length_take] at hsd
          refine sr_x rfl (wtd_none rfl) rfl (Rd.x (x_move rfl)) ?_
          refine sr_x rfl (wtd_none rfl) rfl (Rd.x (x_move rfl)) ?_
          refine sr_x rfl (wtd_none rfl) rfl (Rd.x (x_nilCheck rfl)) ?_
          refine sr_x rfl (wtd_none rfl) rfl (Rd.x (x_fieldAddr fd83_0 rfl)) ?_
          refine sr_x rfl (wtd_none rfl) rfl (Rd.x (x_load ag73 rfl (cells_ext (by repeat (first | exact List.mem_cons_self | apply List.mem_cons_of_mem | apply List.mem_append_right)) (by repeat (first | exact Ext.all _ | exact Ext.done | apply Ext.take | apply Ext.skip))))) ?_
          refine sr_x rfl (wtd_none rfl) rfl (Rd.x (x_move rfl)) ?_
          refine sr_x rfl (wtd_none rfl) rfl (Rd.x (x_indexAddrN (k) Try.underlying73 sz86 rfl ha5 rfl (by omega) (by omega))) ?_
          refine sr_x rfl (wtd_none rfl) rfl (Rd.x (x_fieldAddr fd86_2 rfl)) ?_
          refine sr_x rfl (wtd_none rfl) rfl (Rd.x (x_load ag2 rfl (cells_get (Cells.mono hc5 (Sub.takeE0 (by repeat (first | exact TakeE.here | apply TakeE.there | apply TakeE.app)))) 2 rfl))) ?_
          refine sr_x rfl (wtd_none rfl) rfl (Rd.x (x_add' rfl rfl (i64w (by omega) (by omega)))) ?_
          refine sr_x rfl (wtd_none rfl) rfl (Rd.x (x_assign rfl)) ?_
          refine sr_nil ?_
          refine aw_keep (keep_cons (t := 2) rfl (keep_cons (t := 6) rfl (keep_cons (t := 7) rfl (keep_cons (t := 9) rfl (keep_cons (t := 11) rfl (keep_cons (t := 13) rfl (keep_cons (t := 14) rfl (keep_cons (t := 15) rfl (keep_cons (t := 97) rfl (keep_cons (t := 98) rfl (keep_cons (t := 99) rfl (keep_cons (t := 100) rfl (keep_cons (t := 101) rfl (keep_cons (t := 102) rfl (keep_cons (t := 103) rfl (keep_cons (t := 106) rfl (keep_cons (t := 107) rfl (keep_cons (t := 108) rfl (keep_cons (t := 109) rfl (keep_cons (t := 110) rfl (keep_cons (t := 111) rfl (keep_cons (t := 112) rfl (keep_cons (t := 113) rfl (keep_cons (t := 114) rfl (keep_cons (t := 115) rfl keep_nil))))))))))))))))))))))))) ?_
          refine aw_seq_dr ⟨_, 18, 246, [[], [], [1], [0, 1, 2], [0, 1, 2, 3], [0, 1, 2, 3, 4], [0, 1, 2, 3, 4], [0, 1, 2, 3, 4, 5, 6], [0, 1, 2, 3, 4, 5, 6, 7], [0, 1, 2, 3, 4], [0, 1, 2, 3, 4, 9], [0, 1, 2, 3, 4, 9, 10], [0, 1, 2, 3, 4, 9, 10, 11], [0, 1, 2, 3, 4], [0, 1, 2, 3, 4, 9, 10, 11, 12, 13], [0, 1, 2, 3, 4, 9, 10, 11, 12, 13, 14], [0, 1, 2, 3, 4, 5, 6, 7, 8, 9, 10, 11, 12, 13, 14, 15], [0, 1, 2, 3, 4, 5, 6, 7, 8, 9, 10, 11, 12, 13, 14, 15, 16]], [.light, .light, .light, .light, .light, .light, .light, .light, .mem, .light, .light, .light, .mem, .light, .light, .mem, .light, .light]⟩ (by kernel_rfl) rfl rfl mix ?_
          refine dr_light rfl rfl (wtd_none rfl) (x_move rfl) ?_
          refine dr_light rfl rfl (wtd_none rfl) (x_move rfl) ?_
          refine dr_light rfl rfl (wtd_none rfl) (x_lenSlice Try.underlying73 rfl) ?_
          refine dr_cmp rfl rfl (wtd_none rfl) (x_ge rfl rfl) (fun h9 => absurd h9 (by first | omega | decide)) (fun h9 => ?_)
          refine dr_light rfl rfl (wtd_none rfl) (x_move rfl) ?_
          refine dr_light rfl rfl (wtd_yes rfl rfl rfl) (x_move rfl) ?_
          refine dr_light rfl rfl (wtd_yes rfl rfl rfl) (x_move rfl) ?_
          refine dr_light rfl rfl (wtd_yes rfl rfl rfl) (x_indexAddrN (k) Try.underlying73 sz86 rfl ha3 rfl (by omega) (by omega)) ?_
          refine dr_mem0 rfl rfl (wtd_yes rfl rfl rfl) (x_loadN ag86 sz86 rfl (Cells.mono hc3 (Sub.takeE0 (by repeat (first | exact TakeE.here | apply TakeE.there | apply TakeE.app)))) rfl) ?_
          refine dr_light rfl rfl (wtd_yes rfl rfl rfl) (x_move rfl) ?_
          refine dr_light rfl rfl (wtd_yes rfl rfl rfl) (x_nilCheck rfl) ?_
          refine dr_light rfl rfl (wtd_yes rfl rfl rfl) (x_fieldAddr fd83_0 rfl) ?_
          refine dr_mem0 rfl rfl (wtd_yes rfl rfl rfl) (x_load ag73 rfl (cells_ext (by repeat (first | exact List.mem_cons_self | apply List.mem_cons_of_mem | apply List.mem_append_right)) (by repeat (first | exact Ext.all _ | exact Ext.done | apply Ext.take | apply Ext.skip)))) ?_
          refine dr_light rfl rfl (wtd_yes rfl rfl rfl) (x_move rfl) ?_
          refine dr_light rfl rfl (wtd_yes rfl rfl rfl) (x_indexAddrN (k) Try.underlying73 sz86 rfl ha5 rfl (by omega) (by omega)) ?_
          refine dr_mem0 rfl rfl (wtd_yes rfl rfl rfl) (x_loadN ag86 sz86 rfl (Cells.mono hc5 (Sub.takeE0 (by repeat (first | exact TakeE.here | apply TakeE.there | apply TakeE.app)))) rfl) ?_
          refine dr_cmp rfl rfl (wtd_yes rfl rfl rfl) (x_neStruct Try.underlying86 ks86 rfl rfl rfl rfl rfl) (fun h10 => absurd h10 (by exact fun h => by rw [eqC_user] at h; cases h)) (fun h10 => ?_)
          refine dr_light rfl rfl (wtd_none rfl) (x_pick_f rfl rfl rfl) ?_
          refine dr_nil0 ?_
          refine aw_keep (keep_cons (t := 2) rfl (keep_cons (t := 6) rfl (keep_cons (t := 7) rfl (keep_cons (t := 9) rfl (keep_cons (t := 11) rfl (keep_cons (t := 13) rfl (keep_cons (t := 14) rfl (keep_cons (t := 15) rfl (keep_cons (t := 97) rfl (keep_cons (t := 98) rfl (keep_cons (t := 99) rfl (keep_cons (t := 100) rfl (keep_cons (t := 101) rfl (keep_cons (t := 102) rfl (keep_cons (t := 103) rfl (keep_cons (t := 106) rfl (keep_cons (t := 107) rfl (keep_cons (t := 108) rfl (keep_cons (t := 109) rfl (keep_cons (t := 110) rfl (keep_cons (t := 111) rfl (keep_cons (t := 112) rfl (keep_cons (t := 113) rfl (keep_cons (t := 114) rfl (keep_cons (t := 115) rfl (keep_cons (t := 116) rfl (keep_cons (t := 117) rfl (keep_cons (t := 118) rfl (keep_cons (t := 119) rfl (keep_cons (t := 120) rfl (keep_cons (t := 121) rfl (keep_cons (t := 122) rfl (keep_cons (t := 123) rfl (keep_cons (t := 124) rfl (keep_cons (t := 125) rfl (keep_cons (t := 126) rfl (keep_cons (t := 127) rfl (keep_cons (t := 128) rfl (keep_cons (t := 129) rfl (keep_cons (t := 130) rfl (keep_cons (t := 131) rfl (keep_cons (t := 132) rfl (keep_cons (t := 133) rfl keep_nil))))))))))))))))))))))))))))))))))))))))))) ?_
          refine aw_false rfl ?_
          refine aw_skip ?_
          show AW _ _ _ _ _ _ _
          refine aw_region ?_
          refine sr_x rfl (wtd_none rfl) rfl (Rd.x (x_move rfl)) ?_
          refine sr_x rfl (wtd_none rfl) rfl (Rd.x (x_add' rfl rfl (i64w (by omega) (by omega)))) ?_
          refine sr_x rfl (wtd_none rfl) rfl (Rd.x (x_assign rfl)) ?_
          refine sr_nil ?_
          show ∃ s', _ ∧ _ ∧ _ ∧ _
          exact ⟨k + 1, by omega, by omega, (by rw [sumU_take hu]; exact (by (repeat (first | exact keep_nil | refine keep_cons rfl ?_)); first | done | fail)), (by repeat (first | exact Sub.refl _ | refine Sub.take (by repeat (first | exact Take.here | apply Take.there | apply Take.app)) ?_ | refine Sub.takeE (by repeat (first | exact TakeE.here | apply TakeE.there | apply TakeE.app)) ?_ | exact Sub.nil _ | apply Sub.drop | apply Sub.dropE))⟩
        · refine sr_nil ?_
          refine aw_keep (keep_cons (t := 2) rfl (keep_cons (t := 6) rfl (keep_cons (t := 7) rfl (keep_cons (t := 9) rfl (keep_cons (t := 11) rfl (keep_cons (t := 13) rfl (keep_cons (t := 14) rfl (keep_cons (t := 15) rfl (keep_cons (t := 97) rfl (keep_cons (t := 98) rfl (keep_cons (t := 99) rfl (keep_cons (t := 100) rfl (keep_cons (t := 101) rfl (keep_cons (t := 102) rfl (keep_cons (t := 103) rfl keep_nil))))))))))))))) ?_
          refine aw_false rfl ?_
          refine aw_exit ?_
          show AW _ _ _ _ _ _ _
          refine aw_seq_dr ⟨_, 23, 246, [[], [0], [], [2], [2, 3], [2, 3, 4], [2, 3, 4, 5], [0, 1, 2, 3, 4, 5, 6], [0, 1, 2, 3, 4, 5, 6, 7], [0, 1, 2, 3, 4, 5, 6, 7, 8], [0, 1, 2, 3, 4, 5, 6, 7, 8, 9], [0, 1, 2, 3, 4, 5, 6, 7, 8], [0, 1, 2, 3, 4, 5, 6, 7, 8, 9, 10, 11], [0, 1, 2, 3, 4, 5, 6, 7, 8, 9, 10, 11, 12], [0, 1, 2, 3, 4, 5, 6, 7, 8, 9, 10, 11, 12, 13], [0, 1, 2, 3, 4, 5, 6, 7, 8, 9, 10, 11, 12, 13, 14], [0, 1, 2, 3, 4, 5, 6, 7, 8, 9, 10, 11, 12, 13, 14, 15], [0, 1, 2, 3, 4, 5, 6, 7, 8, 9, 10, 11, 12, 13, 14], [0, 1, 2, 3, 4, 5, 6, 7, 8, 9, 10, 11, 12, 13, 14, 17], [0, 1, 2, 3, 4, 5, 6, 7, 8, 9, 10, 11, 12, 13, 14, 17, 18], [0, 1, 2, 3, 4, 5, 6, 7, 8, 9, 10, 11, 12, 13, 14, 17, 18, 19], [0, 1, 2, 3, 4, 5, 6, 7, 8, 9, 10, 11, 12, 13, 14, 15, 16, 17, 18, 19, 20], [0, 1, 2, 3, 4, 5, 6, 7, 8, 9, 10, 11, 12, 13, 14, 15, 16, 17, 18, 19, 20, 21]], [.light, .light, .light, .light, .light, .mem, .light, .light, .light, .light, .call, .light, .light, .light, .light, .light, .call, .light, .light, .light, .mem, .light, .light]⟩ (by kernel_rfl) rfl rfl mix ?_
          have ek : us2.take k = us2 := List.take_of_length_le (by omega)
          rw [ek]
          have hsum := allOf_sum hul2 hbi2.good
          refine dr_light rfl rfl (wtd_none rfl) (x_move rfl) ?_
          refine dr_light rfl rfl (wtd_none rfl) (x_lenSlice Try.underlying73 rfl) ?_
          refine dr_light rfl rfl (wtd_none rfl) (x_move rfl) ?_
          refine dr_light rfl rfl (wtd_none rfl) (x_nilCheck rfl) ?_
          refine dr_light rfl rfl (wtd_none rfl) (x_fieldAddr fd83_0 rfl) ?_
          refine dr_mem0 rfl rfl (wtd_none rfl) (x_load ag73 rfl (cells_ext (by repeat (first | exact List.mem_cons_self | apply List.mem_cons_of_mem | apply List.mem_append_right)) (by repeat (first | exact Ext.all _ | exact Ext.done | apply Ext.take | apply Ext.skip)))) ?_
          refine dr_light rfl rfl (wtd_none rfl) (x_lenSlice Try.underlying73 rfl) ?_
          refine dr_cmp rfl rfl (wtd_none rfl) (x_ne rfl rfl) (fun h11 => absurd h11 (by first | omega | decide)) (fun h11 => ?_)
          refine dr_light rfl rfl (wtd_none rfl) (x_move rfl) ?_
          refine dr_light rfl rfl (wtd_yes rfl rfl rfl) (x_move rfl) ?_
          refine dr_callq0 rfl rfl (wtd_yes rfl rfl rfl) (opS_F rfl rfl rfl rfl cl84 ((uall_s p a1 c1 us2 half now2 _ (cells_ext (by repeat (first | exact List.mem_cons_self | apply List.mem_cons_of_mem | apply List.mem_append_right)) (by repeat (first | exact Ext.all _ | exact Ext.done | apply Ext.take | apply Ext.skip))) (by omega) (W1.slv' (fun _ => rfl) rfl (Sub.takeE0 (by repeat (first | exact TakeE.here | apply TakeE.there | apply TakeE.app)))) (by omega)))) (⟨_, rfl⟩) ?_
          rintro _ rfl
          refine dr_light rfl rfl (wtd_yes rfl rfl rfl) (x_move rfl) ?_
          refine dr_cmp rfl rfl (wtd_yes rfl rfl rfl) (x_ne rfl rfl) (fun h12 => absurd h12 (by first | omega | decide)) (fun h12 => ?_)
          refine dr_light rfl rfl (wtd_none rfl) (x_pick_f rfl rfl rfl) ?_
          refine dr_light rfl rfl (wtd_none rfl) (x_move rfl) ?_
          refine dr_light rfl rfl (wtd_yes rfl rfl rfl) (x_move rfl) ?_
          refine dr_callq0 rfl rfl (wtd_yes rfl rfl rfl) (opS_F rfl rfl rfl rfl cl53 ((unow_s p a1 c1 us2 half now2 _ (cells_ext (by repeat (first | exact List.mem_cons_self | apply List.mem_cons_of_mem | apply List.mem_append_right)) (by repeat (first | exact Ext.all _ | exact Ext.done | apply Ext.take | apply Ext.skip))) (by omega)))) (⟨_, rfl⟩) ?_
          rintro _ rfl
          refine dr_light rfl rfl (wtd_yes rfl rfl rfl) (x_move rfl) ?_
          refine dr_light rfl rfl (wtd_yes rfl rfl rfl) (x_nilCheck rfl) ?_
          refine dr_light rfl rfl (wtd_yes rfl rfl rfl) (x_fieldAddr fd83_2 rfl) ?_
          refine dr_mem0 rfl rfl (wtd_yes rfl rfl rfl) (x_load ag2 rfl (cells_ext (by repeat (first | exact List.mem_cons_self | apply List.mem_cons_of_mem | apply List.mem_append_right)) (by repeat (first | exact Ext.all _ | exact Ext.done | apply Ext.take | apply Ext.skip)))) ?_
          refine dr_cmp rfl rfl (wtd_yes rfl rfl rfl) (x_ne rfl rfl) (fun h13 => absurd h13 (by first | omega | decide)) (fun h13 => ?_)
          refine dr_light rfl rfl (wtd_none rfl) (x_pick_f rfl rfl rfl) ?_
          refine dr_nil0 ?_
          refine aw_keep (keep_cons (t := 2) rfl (keep_cons (t := 6) rfl (keep_cons (t := 7) rfl (keep_cons (t := 9) rfl (keep_cons (t := 11) rfl (keep_cons (t := 13) rfl (keep_cons (t := 14) rfl (keep_cons (t := 15) rfl (keep_cons (t := 97) rfl (keep_cons (t := 98) rfl (keep_cons (t := 99) rfl (keep_cons (t := 100) rfl (keep_cons (t := 101) rfl (keep_cons (t := 102) rfl (keep_cons (t := 103) rfl (keep_cons (t := 134) rfl (keep_cons (t := 135) rfl (keep_cons (t := 136) rfl (keep_cons (t := 137) rfl (keep_cons (t := 138) rfl (keep_cons (t := 139) rfl (keep_cons (t := 140) rfl (keep_cons (t := 141) rfl (keep_cons (t := 142) rfl (keep_cons (t := 143) rfl (keep_cons (t := 144) rfl (keep_cons (t := 145) rfl (keep_cons (t := 146) rfl (keep_cons (t := 147) rfl (keep_cons (t := 148) rfl (keep_cons (t := 149) rfl (keep_cons (t := 150) rfl (keep_cons (t := 151) rfl (keep_cons (t := 152) rfl (keep_cons (t := 153) rfl (keep_cons (t := 154) rfl (keep_cons (t := 155) rfl (keep_cons (t := 156) rfl keep_nil)))))))))))))))))))))))))))))))))))))) ?_
          refine aw_false rfl ?_
          refine aw_skip ?_
          show AW _ _ _ _ _ _ _
          refine aw_region ?_
          refine sr_x rfl (wtd_none rfl) rfl (Rd.x (x_move rfl)) ?_
          refine sr_x rfl (wtd_none rfl) rfl (Rd.x (x_add' rfl rfl (i64w (by omega) (by omega)))) ?_
          refine sr_x rfl (wtd_none rfl) rfl (Rd.x (x_assign rfl)) ?_
          refine sr_nil ?_
          show ∃ s', _ ∧ _ ∧ _ ∧ _
          exact ⟨⟨i + 1, us2, now2, F1, F2⟩, ⟨by dsimp only; omega, by dsimp only; omega, hul2, hbi2, W1, W2⟩, by dsimp only; omega, (by (repeat (first | exact keep_nil | refine keep_cons rfl ?_)); first | done | fail), (by repeat (first | exact Sub.refl _ | refine Sub.take (by repeat (first | exact Take.here | apply Take.there | apply Take.app)) ?_ | refine Sub.takeE (by repeat (first | exact TakeE.here | apply TakeE.there | apply TakeE.app)) ?_ | exact Sub.nil _ | apply Sub.drop | apply Sub.dropE))⟩
    · refine sr_x rfl (wtd_none rfl) rfl (Rd.x (x_pick_t rfl rfl rfl)) ?_
      refine sr_nil ?_
      refine aw_keep (keep_cons (t := 2) rfl (keep_cons (t := 6) rfl (keep_cons (t := 7) rfl (keep_cons (t := 9) rfl (keep_cons (t := 11) rfl (keep_cons (t := 56) rfl (keep_cons (t := 57) rfl (keep_cons (t := 58) rfl (keep_cons (t := 59) rfl (keep_cons (t := 60) rfl (keep_cons (t := 61) rfl (keep_cons (t := 62) rfl (keep_cons (t := 63) rfl keep_nil))))))))))))) ?_
      refine aw_false rfl ?_
      refine aw_exit ?_
      show AW _ _ _ _ _ _ _
      refine aw_seq_region ?_
      refine sr_x rfl (wtd_none rfl) rfl (Rd.x (x_move rfl)) ?_
      refine sr_d rfl (wtd_none rfl) rfl (opS_call rfl rfl rfl rfl cl85 (AC.sub (by repeat (first | exact Sub.refl _ | refine Sub.take (by repeat (first | exact Take.here | apply Take.there | apply Take.app)) ?_ | refine Sub.takeE (by repeat (first | exact TakeE.here | apply TakeE.there | apply TakeE.app)) ?_ | exact Sub.nil _ | apply Sub.drop | apply Sub.dropE)) (order_s p a1 c1 us half now E1 (pk q (.slice a2 us.length c2) half now :: (E2 ++ [])) V1 (by omega) (by omega) hbi.srt hbi.good))) ?_
      rintro _ _ ⟨W, a4, c4, E4, rfl, hst, hsr, V4, rfl⟩
      have hWl : W.length = us.length := hst.1.length_eq.trans (dids_len us)
      refine sr_x rfl (wtd_none rfl) rfl (Rd.x (x_assign rfl)) ?_
      refine sr_nil ?_
      refine aw_keep (keep_cons (t := 6) rfl (keep_cons (t := 7) rfl (keep_cons (t := 9) rfl (keep_cons (t := 16) rfl keep_nil)))) ?_
      refine aw_seq ?_
      refine aw_seq_region ?_
      refine sr_x rfl (wtd_none rfl) rfl (Rd.x (x_move rfl)) ?_
      refine sr_x rfl (wtd_none rfl) rfl (Rd.x (x_lenSlice Try.underlying134 rfl)) ?_
      refine sr_x rfl (wtd_none rfl) rfl (Rd.x (x_move rfl)) ?_
      refine sr_x rfl (wtd_none rfl) rfl (Rd.x (x_nilCheck rfl)) ?_
      refine sr_x rfl (wtd_none rfl) rfl (Rd.x (x_fieldAddr fd83_0 rfl)) ?_
      refine sr_x rfl (wtd_none rfl) rfl (Rd.x (x_load ag73 rfl (cells_ext (by repeat (first | exact List.mem_cons_self | apply List.mem_cons_of_mem | apply List.mem_append_right)) (by repeat (first | exact Ext.all _ | exact Ext.done | apply Ext.take | apply Ext.skip))))) ?_
      refine sr_x rfl (wtd_none rfl) rfl (Rd.x (x_lenSlice Try.underlying73 rfl)) ?_
      refine sr_cmp rfl (wtd_none rfl) rfl (Rd.x (x_ne rfl rfl)) (fun h14 => absurd h14 (by first | omega | decide)) (fun h14 => ?_)
      refine sr_nil ?_
      refine aw_keep (keep_cons (t := 6) rfl (keep_cons (t := 7) rfl (keep_cons (t := 9) rfl (keep_cons (t := 16) rfl (keep_cons (t := 166) rfl keep_nil))))) ?_
      refine aw_false rfl ?_
      refine aw_skip ?_
      show AW _ _ _ _ _ _ _
      refine aw_seq ?_
      refine aw_seq_region ?_
      refine sr_x rfl (wtd_none rfl) rfl (Rd.x (x_assign rfl)) ?_
      refine sr_nil ?_
      refine aw_keep (keep_cons (t := 6) rfl (keep_cons (t := 7) rfl (keep_cons (t := 9) rfl (keep_cons (t := 16) rfl (keep_cons (t := 17) rfl keep_nil))))) ?_
      refine aw_block ?_
      refine aw_loop (ι := Nat) (fun m => m ≤ us.length) (fun m => [(6, .bool false), (7, .pointer (some ⟨p, 0, none⟩)), (9, .pointer (some ⟨q, 0, none⟩)), (16, .slice a4 us.length c4), (17, .int .i64 m)]) (fun _ => E4 ++ (bk p (.slice a1 us.length c1) half now :: (E1 ++ (pk q (.slice a2 us.length c2) half now :: (E2 ++ []))))) (fun m => us.length - m) 0 (Nat.zero_le _) (by (repeat (first | exact keep_nil | refine keep_cons rfl ?_)); first | done | fail) (by repeat (first | exact Sub.refl _ | refine Sub.take (by repeat (first | exact Take.here | apply Take.there | apply Take.app)) ?_ | refine Sub.takeE (by repeat (first | exact TakeE.here | apply TakeE.there | apply TakeE.app)) ?_ | exact Sub.nil _ | apply Sub.drop | apply Sub.dropE)) ?_
      intro m hm
      refine aw_seq ?_
      refine aw_seq_region ?_
      refine sr_x rfl (wtd_none rfl) rfl (Rd.x (x_move rfl)) ?_
      refine sr_x rfl (wtd_none rfl) rfl (Rd.x (x_move rfl)) ?_
      refine sr_x rfl (wtd_none rfl) rfl (Rd.x (x_nilCheck rfl)) ?_
      refine sr_x rfl (wtd_none rfl) rfl (Rd.x (x_fieldAddr fd83_0 rfl)) ?_
      refine sr_x rfl (wtd_none rfl) rfl (Rd.x (x_load ag73 rfl (cells_ext (by repeat (first | exact List.mem_cons_self | apply List.mem_cons_of_mem | apply List.mem_append_right)) (by repeat (first | exact Ext.all _ | exact Ext.done | apply Ext.take | apply Ext.skip))))) ?_
      refine sr_x rfl (wtd_none rfl) rfl (Rd.x (x_lenSlice Try.underlying73 rfl)) ?_
      refine sr_cmp rfl (wtd_none rfl) rfl (Rd.x (x_lt rfl rfl)) (fun h15 => ?_) (fun h15 => ?_)
      · refine sr_nil ?_
        refine aw_keep (keep_cons (t := 6) rfl (keep_cons (t := 7) rfl (keep_cons (t := 9) rfl (keep_cons (t := 16) rfl (keep_cons (t := 17) rfl (keep_cons (t := 167) rfl (keep_cons (t := 168) rfl (keep_cons (t := 169) rfl (keep_cons (t := 170) rfl (keep_cons (t := 171) rfl (keep_cons (t := 172) rfl (keep_cons (t := 173) rfl keep_nil)))))))))))) ?_
        refine aw_true rfl ?_
        refine aw_skip ?_
        show AW _ _ _ _ _ _ _
        refine aw_seq ?_
        refine aw_block ?_
        refine aw_seq_region ?_
        obtain ⟨x, hx⟩ := get_ex (show m < us.length by omega)
        obtain ⟨b6, o6, ha6, hc6⟩ := (V2.slv' (W0 := W0) (fun _ => rfl) rfl (Sub.refl _)).at_ m _ hx
        have hle6 := (V2.slv' (W0 := W0) (fun _ => rfl) rfl (Sub.refl _)).le
        have hcb6 := (V2.slv' (W0 := W0) (fun _ => rfl) rfl (Sub.refl _)).capb
        refine sr_x rfl (wtd_none rfl) rfl (Rd.x (x_move rfl)) ?_
        refine sr_x rfl (wtd_none rfl) rfl (Rd.x (x_move rfl)) ?_
        refine sr_x rfl (wtd_none rfl) rfl (Rd.x (x_nilCheck rfl)) ?_
        refine sr_x rfl (wtd_none rfl) rfl (Rd.x (x_fieldAddr fd83_0 rfl)) ?_
        refine sr_x rfl (wtd_none rfl) rfl (Rd.x (x_load ag73 rfl (cells_ext (by repeat (first | exact List.mem_cons_self | apply List.mem_cons_of_mem | apply List.mem_append_right)) (by repeat (first | exact Ext.all _ | exact Ext.done | apply Ext.take | apply Ext.skip))))) ?_
        refine sr_x rfl (wtd_none rfl) rfl (Rd.x (x_move rfl)) ?_
        refine sr_x rfl (wtd_none rfl) rfl (Rd.x (x_indexAddrN (m) Try.underlying73 sz86 rfl ha6 rfl (by omega) (by omega))) ?_
        refine sr_x rfl (wtd_none rfl) rfl (Rd.x (x_fieldAddr fd86_0 rfl)) ?_
        refine sr_x rfl (wtd_none rfl) rfl (Rd.x (x_load ag3 rfl (cells_get (Cells.mono hc6 (Sub.takeE0 (by repeat (first | exact TakeE.here | apply TakeE.there | apply TakeE.app)))) 0 rfl))) ?_
        refine sr_d rfl (wtd_none rfl) rfl (opS_call rfl rfl rfl rfl cl86 (dueX_s p a1 c1 us half now _ (cells_ext (by repeat (first | exact List.mem_cons_self | apply List.mem_cons_of_mem | apply List.mem_append_right)) (by repeat (first | exact Ext.all _ | exact Ext.done | apply Ext.take | apply Ext.skip))) (by omega) (V1.slv' (fun _ => rfl) rfl (Sub.takeE0 (by repeat (first | exact TakeE.here | apply TakeE.there | apply TakeE.app)))) (by omega) hbi.srt hbi.good x (List.mem_of_getElem? hx))) ?_
        rintro _ H9 ⟨rfl, rfl⟩
        refine sr_x rfl (wtd_none rfl) rfl (Rd.x (x_move rfl)) ?_
        refine sr_x rfl (wtd_none rfl) rfl (Rd.x (x_extract rfl rfl)) ?_
        refine sr_x rfl (wtd_none rfl) rfl (Rd.x (x_extract rfl rfl)) ?_
        refine sr_x rfl (wtd_none rfl) rfl (Rd.x (x_assign rfl)) ?_
        refine sr_x rfl (wtd_none rfl) rfl (Rd.x (x_assign rfl)) ?_
        refine sr_nil ?_
        refine aw_keep (keep_cons (t := 6) rfl (keep_cons (t := 7) rfl (keep_cons (t := 9) rfl (keep_cons (t := 16) rfl (keep_cons (t := 17) rfl (keep_cons (t := 18) rfl (keep_cons (t := 19) rfl (keep_cons (t := 167) rfl (keep_cons (t := 168) rfl (keep_cons (t := 169) rfl (keep_cons (t := 170) rfl (keep_cons (t := 171) rfl (keep_cons (t := 172) rfl (keep_cons (t := 173) rfl (keep_cons (t := 176) rfl (keep_cons (t := 177) rfl (keep_cons (t := 178) rfl (keep_cons (t := 179) rfl (keep_cons (t := 180) rfl (keep_cons (t := 181) rfl (keep_cons (t := 182) rfl (keep_cons (t := 183) rfl (keep_cons (t := 184) rfl (keep_cons (t := 185) rfl (keep_cons (t := 186) rfl (keep_cons (t := 187) rfl (keep_cons (t := 188) rfl keep_nil))))))))))))))))))))))))))) ?_
        refine aw_seq_region ?_
        refine sr_x rfl (wtd_none rfl) rfl (Rd.x (x_assign rfl)) ?_
        refine sr_nil ?_
        refine aw_keep (keep_cons (t := 6) rfl (keep_cons (t := 7) rfl (keep_cons (t := 9) rfl (keep_cons (t := 16) rfl (keep_cons (t := 17) rfl (keep_cons (t := 18) rfl (keep_cons (t := 19) rfl (keep_cons (t := 20) rfl (keep_cons (t := 167) rfl (keep_cons (t := 168) rfl (keep_cons (t := 169) rfl (keep_cons (t := 170) rfl (keep_cons (t := 171) rfl (keep_cons (t := 172) rfl (keep_cons (t := 173) rfl (keep_cons (t := 176) rfl (keep_cons (t := 177) rfl (keep_cons (t := 178) rfl (keep_cons (t := 179) rfl (keep_cons (t := 180) rfl (keep_cons (t := 181) rfl (keep_cons (t := 182) rfl (keep_cons (t := 183) rfl (keep_cons (t := 184) rfl (keep_cons (t := 185) rfl (keep_cons (t := 186) rfl (keep_cons (t := 187) rfl (keep_cons (t := 188) rfl keep_nil)))))))))))))))))))))))))))) ?_
        refine aw_seq ?_
        refine aw_seq_region ?_
        refine sr_x rfl (wtd_none rfl) rfl (Rd.x (x_assign rfl)) ?_
        refine sr_nil ?_
        refine aw_keep (keep_cons (t := 6) rfl (keep_cons (t := 7) rfl (keep_cons (t := 9) rfl (keep_cons (t := 16) rfl (keep_cons (t := 17) rfl (keep_cons (t := 18) rfl (keep_cons (t := 19) rfl (keep_cons (t := 20) rfl (keep_cons (t := 21) rfl (keep_cons (t := 167) rfl (keep_cons (t := 168) rfl (keep_cons (t := 169) rfl (keep_cons (t := 170) rfl (keep_cons (t := 171) rfl (keep_cons (t := 172) rfl (keep_cons (t := 173) rfl (keep_cons (t := 176) rfl (keep_cons (t := 177) rfl (keep_cons (t := 178) rfl (keep_cons (t := 179) rfl (keep_cons (t := 180) rfl (keep_cons (t := 181) rfl (keep_cons (t := 182) rfl (keep_cons (t := 183) rfl (keep_cons (t := 184) rfl (keep_cons (t := 185) rfl (keep_cons (t := 186) rfl (keep_cons (t := 187) rfl (keep_cons (t := 188) rfl keep_nil))))))))))))))))))))))))))))) ?_
        refine aw_block ?_
        refine aw_loop (ι := Nat) (fun k => k ≤ us.length) (fun k => [(6, .bool false), (7, .pointer (some ⟨p, 0, none⟩)), (9, .pointer (some ⟨q, 0, none⟩)), (16, .slice a4 us.length c4), (17, .int .i64 m), (18, .int .i64 (dueOf us x)), (19, .int .i64 0), (20, .int .i64 (posD us x m k : Nat)), (21, .int .i64 k)]) (fun _ => E4 ++ (bk p (.slice a1 us.length c1) half now :: (E1 ++ (pk q (.slice a2 us.length c2) half now :: (E2 ++ []))))) (fun k => us.length - k) 0 (Nat.zero_le _) (by (repeat (first | exact keep_nil | refine keep_cons rfl ?_)); first | done | fail) (by repeat (first | exact Sub.refl _ | refine Sub.take (by repeat (first | exact Take.here | apply Take.there | apply Take.app)) ?_ | refine Sub.takeE (by repeat (first | exact TakeE.here | apply TakeE.there | apply TakeE.app)) ?_ | exact Sub.nil _ | apply Sub.drop | apply Sub.dropE)) ?_
        intro k hk
        refine aw_seq ?_
        refine aw_seq_region ?_
        refine sr_x rfl (wtd_none rfl) rfl (Rd.x (x_move rfl)) ?_
        refine sr_x rfl (wtd_none rfl) rfl (Rd.x (x_move rfl)) ?_
        refine sr_x rfl (wtd_none rfl) rfl (Rd.x (x_nilCheck rfl)) ?_
        refine sr_x rfl (wtd_none rfl) rfl (Rd.x (x_fieldAddr fd83_0 rfl)) ?_
        refine sr_x rfl (wtd_none rfl) rfl (Rd.x (x_load ag73 rfl (cells_ext (by repeat (first | exact List.mem_cons_self | apply List.mem_cons_of_mem | apply List.mem_append_right)) (by repeat (first | exact Ext.all _ | exact Ext.done | apply Ext.take | apply Ext.skip))))) ?_
        refine sr_x rfl (wtd_none rfl) rfl (Rd.x (x_lenSlice Try.underlying73 rfl)) ?_
        refine sr_cmp rfl (wtd_none rfl) rfl (Rd.x (x_lt rfl rfl)) (fun h16 => ?_) (fun h16 => ?_)
        · refine sr_nil ?_
          refine aw_keep (keep_cons (t := 6) rfl (keep_cons (t := 7) rfl (keep_cons (t := 9) rfl (keep_cons (t := 16) rfl (keep_cons (t := 17) rfl (keep_cons (t := 18) rfl (keep_cons (t := 19) rfl (keep_cons (t := 20) rfl (keep_cons (t := 21) rfl (keep_cons (t := 189) rfl (keep_cons (t := 190) rfl (keep_cons (t := 191) rfl (keep_cons (t := 192) rfl (keep_cons (t := 193) rfl (keep_cons (t := 194) rfl (keep_cons (t := 195) rfl keep_nil)))))))))))))))) ?_
          refine aw_true rfl ?_
          refine aw_skip ?_
          show AW _ _ _ _ _ _ _
          refine aw_seq ?_
          refine aw_block ?_
          refine aw_seq_region ?_
          obtain ⟨y, hy⟩ := get_ex (show k < us.length by omega)
          have hpl : posD us x m k ≤ 2 * k := pos_le
          refine sr_x rfl (wtd_none rfl) rfl (Rd.x (x_move rfl)) ?_
          refine sr_x rfl (wtd_none rfl) rfl (Rd.x (x_move rfl)) ?_
          refine sr_d rfl (wtd_none rfl) rfl (opS_call rfl rfl rfl rfl cl87 (pdue_s q a2 c2 us half now _ (cells_ext (by repeat (first | exact List.mem_cons_self | apply List.mem_cons_of_mem | apply List.mem_append_right)) (by repeat (first | exact Ext.all _ | exact Ext.done | apply Ext.take | apply Ext.skip))) (V2.slv' (fun _ => rfl) rfl (Sub.takeE0 (by repeat (first | exact TakeE.here | apply TakeE.there | apply TakeE.app)))) (by omega) hbi.good k _ hy)) ?_
          rintro _ H9 ⟨rfl, rfl⟩
          refine sr_x rfl (wtd_none rfl) rfl (Rd.x (x_move rfl)) ?_
          refine sr_x rfl (wtd_none rfl) rfl (Rd.x (x_move rfl)) ?_
          refine sr_d rfl (wtd_none rfl) rfl (opS_call rfl rfl rfl rfl cl87 (pdue_s q a2 c2 us half now _ (cells_ext (by repeat (first | exact List.mem_cons_self | apply List.mem_cons_of_mem | apply List.mem_append_right)) (by repeat (first | exact Ext.all _ | exact Ext.done | apply Ext.take | apply Ext.skip))) (V2.slv' (fun _ => rfl) rfl (Sub.takeE0 (by repeat (first | exact TakeE.here | apply TakeE.there | apply TakeE.app)))) (by omega) hbi.good m _ hx)) ?_
          rintro _ H9 ⟨rfl, rfl⟩
          refine sr_cmp rfl (wtd_none rfl) rfl (Rd.x (x_gt rfl rfl)) (fun h17 => ?_) (fun h17 => ?_)
          · refine sr_x rfl (wtd_none rfl) rfl (Rd.x (x_move rfl)) ?_
            refine sr_skip rfl (wtd_no rfl rfl rfl rfl) rfl ?_
            refine sr_skip rfl (wtd_no rfl rfl rfl rfl) rfl ?_
            refine sr_skip rfl (wtd_no rfl rfl rfl rfl) rfl ?_
            refine sr_skip rfl (wtd_no rfl rfl rfl rfl) rfl ?_
            refine sr_skip rfl (wtd_no rfl rfl rfl rfl) rfl ?_
            refine sr_skip rfl (wtd_no rfl rfl rfl rfl) rfl ?_
            refine sr_skip rfl (wtd_no rfl rfl rfl rfl) rfl ?_
            refine sr_skip rfl (wtd_no rfl rfl rfl rfl) rfl ?_
            refine sr_skip rfl (wtd_un rfl rfl rfl) rfl ?_
            refine sr_skip rfl (wtd_un rfl rfl rfl) rfl ?_
            refine sr_skip rfl (wtd_un rfl rfl rfl) rfl ?_
            refine sr_skip rfl (wtd_no rfl rfl rfl rfl) rfl ?_
            refine sr_x rfl (wtd_none rfl) rfl (Rd.x (x_pick_t rfl rfl rfl)) ?_
            refine sr_nil ?_
            refine aw_keep (keep_cons (t := 6) rfl (keep_cons (t := 7) rfl (keep_cons (t := 9) rfl (keep_cons (t := 16) rfl (keep_cons (t := 17) rfl (keep_cons (t := 18) rfl (keep_cons (t := 19) rfl (keep_cons (t := 20) rfl (keep_cons (t := 21) rfl (keep_cons (t := 189) rfl (keep_cons (t := 190) rfl (keep_cons (t := 191) rfl (keep_cons (t := 192) rfl (keep_cons (t := 193) rfl (keep_cons (t := 194) rfl (keep_cons (t := 195) rfl (keep_cons (t := 198) rfl (keep_cons (t := 199) rfl (keep_cons (t := 200) rfl (keep_cons (t := 201) rfl (keep_cons (t := 202) rfl (keep_cons (t := 203) rfl (keep_cons (t := 204) rfl (keep_cons (t := 205) rfl (keep_cons (t := 206) rfl (keep_cons (t := 207) rfl (keep_cons (t := 208) rfl (keep_cons (t := 209) rfl (keep_cons (t := 210) rfl (keep_cons (t := 211) rfl (keep_cons (t := 212) rfl (keep_cons (t := 213) rfl (keep_cons (t := 214) rfl (keep_cons (t := 215) rfl (keep_cons (t := 216) rfl (keep_cons (t := 217) rfl (keep_cons (t := 218) rfl keep_nil))))))))))))))))))))))))))))))))))))) ?_
            refine aw_true rfl ?_
            refine aw_region ?_
            refine sr_x rfl (wtd_none rfl) rfl (Rd.x (x_move rfl)) ?_
            refine sr_x rfl (wtd_none rfl) rfl (Rd.x (x_add' rfl rfl (i64w (by omega) (by omega)))) ?_
            refine sr_x rfl (wtd_none rfl) rfl (Rd.x (x_assign rfl)) ?_
            refine sr_nil ?_
            show AW _ _ _ _ _ _ _
            refine aw_region ?_
            refine sr_x rfl (wtd_none rfl) rfl (Rd.x (x_move rfl)) ?_
            refine sr_x rfl (wtd_none rfl) rfl (Rd.x (x_add' rfl rfl (i64w (by omega) (by omega)))) ?_
            refine sr_x rfl (wtd_none rfl) rfl (Rd.x (x_assign rfl)) ?_
            refine sr_nil ?_
            show ∃ s', _ ∧ _ ∧ _ ∧ _
            first | exact ⟨k + 1, by omega, by omega, (by rw [posD_yes hbi.srt hx hy (by omega)]; exact (by (repeat (first | exact keep_nil | refine keep_cons rfl ?_)); first | done | fail)), (by (repeat (first | exact Sub.refl _ | refine Sub.take (by repeat (first | exact Take.here | apply Take.there | apply Take.app)) ?_ | refine Sub.takeE (by repeat (first | exact TakeE.here | apply TakeE.there | apply TakeE.app)) ?_ | exact Sub.nil _ | apply Sub.drop | apply Sub.dropE)); first | done | fail)⟩ | exact ⟨k + 1, by omega, by omega, (by rw [posD_no hbi.srt hx hy (by omega)]; exact (by (repeat (first | exact keep_nil | refine keep_cons rfl ?_)); first | done | fail)), (by (repeat (first | exact Sub.refl _ | refine Sub.take (by repeat (first | exact Take.here | apply Take.there | apply Take.app)) ?_ | refine Sub.takeE (by repeat (first | exact TakeE.here | apply TakeE.there | apply TakeE.app)) ?_ | exact Sub.nil _ | apply Sub.drop | apply Sub.dropE)); first | done | fail)⟩
          · refine sr_x rfl (wtd_none rfl) rfl (Rd.x (x_move rfl)) ?_
            refine sr_x rfl (wtd_yes rfl rfl rfl) rfl (Rd.x (x_move rfl)) ?_
            refine sr_x rfl (wtd_yes rfl rfl rfl) rfl (Rd.x (x_move rfl)) ?_
            refine sr_d rfl (wtd_yes rfl rfl rfl) rfl (opS_call rfl rfl rfl rfl cl87 (pdue_s q a2 c2 us half now _ (cells_ext (by repeat (first | exact List.mem_cons_self | apply List.mem_cons_of_mem | apply List.mem_append_right)) (by repeat (first | exact Ext.all _ | exact Ext.done | apply Ext.take | apply Ext.skip))) (V2.slv' (fun _ => rfl) rfl (Sub.takeE0 (by repeat (first | exact TakeE.here | apply TakeE.there | apply TakeE.app)))) (by omega) hbi.good k _ hy)) ?_
            rintro _ H9 ⟨rfl, rfl⟩
            refine sr_x rfl (wtd_yes rfl rfl rfl) rfl (Rd.x (x_move rfl)) ?_
            refine sr_x rfl (wtd_yes rfl rfl rfl) rfl (Rd.x (x_move rfl)) ?_
            refine sr_d rfl (wtd_yes rfl rfl rfl) rfl (opS_call rfl rfl rfl rfl cl87 (pdue_s q a2 c2 us half now _ (cells_ext (by repeat (first | exact List.mem_cons_self | apply List.mem_cons_of_mem | apply List.mem_append_right)) (by repeat (first | exact Ext.all _ | exact Ext.done | apply Ext.take | apply Ext.skip))) (V2.slv' (fun _ => rfl) rfl (Sub.takeE0 (by repeat (first | exact TakeE.here | apply TakeE.there | apply TakeE.app)))) (by omega) hbi.good m _ hx)) ?_
            rintro _ H9 ⟨rfl, rfl⟩
            refine sr_cmp rfl (wtd_yes rfl rfl rfl) rfl (Rd.x (x_eq rfl rfl)) (fun h18 => ?_) (fun h18 => ?_)
            · refine sr_x rfl (wtd_yes rfl rfl rfl) rfl (Rd.x (x_move rfl)) ?_
              refine sr_x rfl (wtd_yes rfl rfl rfl) rfl (Rd.x (x_move rfl)) ?_
              refine sr_x rfl (wtd_yes rfl rfl rfl) rfl (Rd.x (x_move rfl)) ?_
              refine sr_cmp rfl (wtd_yes rfl rfl rfl) rfl (Rd.x (x_lt rfl rfl)) (fun h19 => ?_) (fun h19 => ?_)
              · refine sr_x rfl (wtd_yes rfl rfl rfl) rfl (Rd.x (x_pick_t rfl rfl rfl)) ?_
                refine sr_x rfl (wtd_none rfl) rfl (Rd.x (x_pick_f rfl rfl rfl)) ?_
                refine sr_nil ?_
                refine aw_keep (keep_cons (t := 6) rfl (keep_cons (t := 7) rfl (keep_cons (t := 9) rfl (keep_cons (t := 16) rfl (keep_cons (t := 17) rfl (keep_cons (t := 18) rfl (keep_cons (t := 19) rfl (keep_cons (t := 20) rfl (keep_cons (t := 21) rfl (keep_cons (t := 189) rfl (keep_cons (t := 190) rfl (keep_cons (t := 191) rfl (keep_cons (t := 192) rfl (keep_cons (t := 193) rfl (keep_cons (t := 194) rfl (keep_cons (t := 195) rfl (keep_cons (t := 198) rfl (keep_cons (t := 199) rfl (keep_cons (t := 200) rfl (keep_cons (t := 201) rfl (keep_cons (t := 202) rfl (keep_cons (t := 203) rfl (keep_cons (t := 204) rfl (keep_cons (t := 205) rfl (keep_cons (t := 206) rfl (keep_cons (t := 207) rfl (keep_cons (t := 208) rfl (keep_cons (t := 209) rfl (keep_cons (t := 210) rfl (keep_cons (t := 211) rfl (keep_cons (t := 212) rfl (keep_cons (t := 213) rfl (keep_cons (t := 214) rfl (keep_cons (t := 215) rfl (keep_cons (t := 216) rfl (keep_cons (t := 217) rfl (keep_cons (t := 218) rfl keep_nil))))))))))))))))))))))))))))))))))))) ?_
                refine aw_true rfl ?_
                refine aw_region ?_
                refine sr_x rfl (wtd_none rfl) rfl (Rd.x (x_move rfl)) ?_
                refine sr_x rfl (wtd_none rfl) rfl (Rd.x (x_add' rfl rfl (i64w (by omega) (by omega)))) ?_
                refine sr_x rfl (wtd_none rfl) rfl (Rd.x (x_assign rfl)) ?_
                refine sr_nil ?_
                show AW _ _ _ _ _ _ _
                refine aw_region ?_
                refine sr_x rfl (wtd_none rfl) rfl (Rd.x (x_move rfl)) ?_
                refine sr_x rfl (wtd_none rfl) rfl (Rd.x (x_add' rfl rfl (i64w (by omega) (by omega)))) ?_
                refine sr_x rfl (wtd_none rfl) rfl (Rd.x (x_assign rfl)) ?_
                refine sr_nil ?_
                show ∃ s', _ ∧ _ ∧ _ ∧ _
                first | exact ⟨k + 1, by omega, by omega, (by rw [posD_yes hbi.srt hx hy (by omega)]; exact (by (repeat (first | exact keep_nil | refine keep_cons rfl ?_)); first | done | fail)), (by (repeat (first | exact Sub.refl _ | refine Sub.take (by repeat (first | exact Take.here | apply Take.there | apply Take.app)) ?_ | refine Sub.takeE (by repeat (first | exact TakeE.here | apply TakeE.there | apply TakeE.app)) ?_ | exact Sub.nil _ | apply Sub.drop | apply Sub.dropE)); first | done | fail)⟩ | exact ⟨k + 1, by omega, by omega, (by rw [posD_no hbi.srt hx hy (by omega)]; exact (by (repeat (first | exact keep_nil | refine keep_cons rfl ?_)); first | done | fail)), (by (repeat (first | exact Sub.refl _ | refine Sub.take (by repeat (first | exact Take.here | apply Take.there | apply Take.app)) ?_ | refine Sub.takeE (by repeat (first | exact TakeE.here | apply TakeE.there | apply TakeE.app)) ?_ | exact Sub.nil _ | apply Sub.drop | apply Sub.dropE)); first | done | fail)⟩
              · refine sr_x rfl (wtd_yes rfl rfl rfl) rfl (Rd.x (x_pick_t rfl rfl rfl)) ?_
                refine sr_x rfl (wtd_none rfl) rfl (Rd.x (x_pick_f rfl rfl rfl)) ?_
                refine sr_nil ?_
                refine aw_keep (keep_cons (t := 6) rfl (keep_cons (t := 7) rfl (keep_cons (t := 9) rfl (keep_cons (t := 16) rfl (keep_cons (t := 17) rfl (keep_cons (t := 18) rfl (keep_cons (t := 19) rfl (keep_cons (t := 20) rfl (keep_cons (t := 21) rfl (keep_cons (t := 189) rfl (keep_cons (t := 190) rfl (keep_cons (t := 191) rfl (keep_cons (t := 192) rfl (keep_cons (t := 193) rfl (keep_cons (t := 194) rfl (keep_cons (t := 195) rfl (keep_cons (t := 198) rfl (keep_cons (t := 199) rfl (keep_cons (t := 200) rfl (keep_cons (t := 201) rfl (keep_cons (t := 202) rfl (keep_cons (t := 203) rfl (keep_cons (t := 204) rfl (keep_cons (t := 205) rfl (keep_cons (t := 206) rfl (keep_cons (t := 207) rfl (keep_cons (t := 208) rfl (keep_cons (t := 209) rfl (keep_cons (t := 210) rfl (keep_cons (t := 211) rfl (keep_cons (t := 212) rfl (keep_cons (t := 213) rfl (keep_cons (t := 214) rfl (keep_cons (t := 215) rfl (keep_cons (t := 216) rfl (keep_cons (t := 217) rfl (keep_cons (t := 218) rfl keep_nil))))))))))))))))))))))))))))))))))))) ?_
                refine aw_false rfl ?_
                refine aw_skip ?_
                show AW _ _ _ _ _ _ _
                refine aw_region ?_
                refine sr_x rfl (wtd_none rfl) rfl (Rd.x (x_move rfl)) ?_
                refine sr_x rfl (wtd_none rfl) rfl (Rd.x (x_add' rfl rfl (i64w (by omega) (by omega)))) ?_
                refine sr_x rfl (wtd_none rfl) rfl (Rd.x (x_assign rfl)) ?_
                refine sr_nil ?_
                show ∃ s', _ ∧ _ ∧ _ ∧ _
                first | exact ⟨k + 1, by omega, by omega, (by rw [posD_yes hbi.srt hx hy (by omega)]; exact (by (repeat (first | exact keep_nil | refine keep_cons rfl ?_)); first | done | fail)), (by (repeat (first | exact Sub.refl _ | refine Sub.take (by repeat (first | exact Take.here | apply Take.there | apply Take.app)) ?_ | refine Sub.takeE (by repeat (first | exact TakeE.here | apply TakeE.there | apply TakeE.app)) ?_ | exact Sub.nil _ | apply Sub.drop | apply Sub.dropE)); first | done | fail)⟩ | exact ⟨k + 1, by omega, by omega, (by rw [posD_no hbi.srt hx hy (by omega)]; exact (by (repeat (first | exact keep_nil | refine keep_cons rfl ?_)); first | done | fail)), (by (repeat (first | exact Sub.refl _ | refine Sub.take (by repeat (first | exact Take.here | apply Take.there | apply Take.app)) ?_ | refine Sub.takeE (by repeat (first | exact TakeE.here | apply TakeE.there | apply TakeE.app)) ?_ | exact Sub.nil _ | apply Sub.drop | apply Sub.dropE)); first | done | fail)⟩
            · refine sr_x rfl (wtd_yes rfl rfl rfl) rfl (Rd.x (x_move rfl)) ?_
              refine sr_skip rfl (wtd_no rfl rfl rfl rfl) rfl ?_
              refine sr_skip rfl (wtd_no rfl rfl rfl rfl) rfl ?_
              refine sr_skip rfl (wtd_no rfl rfl rfl rfl) rfl ?_
              refine sr_x rfl (wtd_yes rfl rfl rfl) rfl (Rd.x (x_pick_f rfl rfl rfl)) ?_
              refine sr_x rfl (wtd_none rfl) rfl (Rd.x (x_pick_f rfl rfl rfl)) ?_
              refine sr_nil ?_
              refine aw_keep (keep_cons (t := 6) rfl (keep_cons (t := 7) rfl (keep_cons (t := 9) rfl (keep_cons (t := 16) rfl (keep_cons (t := 17) rfl (keep_cons (t := 18) rfl (keep_cons (t := 19) rfl (keep_cons (t := 20) rfl (keep_cons (t := 21) rfl (keep_cons (t := 189) rfl (keep_cons (t := 190) rfl (keep_cons (t := 191) rfl (keep_cons (t := 192) rfl (keep_cons (t := 193) rfl (keep_cons (t := 194) rfl (keep_cons (t := 195) rfl (keep_cons (t := 198) rfl (keep_cons (t := 199) rfl (keep_cons (t := 200) rfl (keep_cons (t := 201) rfl (keep_cons (t := 202) rfl (keep_cons (t := 203) rfl (keep_cons (t := 204) rfl (keep_cons (t := 205) rfl (keep_cons (t := 206) rfl (keep_cons (t := 207) rfl (keep_cons (t := 208) rfl (keep_cons (t := 209) rfl (keep_cons (t := 210) rfl (keep_cons (t := 211) rfl (keep_cons (t := 212) rfl (keep_cons (t := 213) rfl (keep_cons (t := 214) rfl (keep_cons (t := 215) rfl (keep_cons (t := 216) rfl (keep_cons (t := 217) rfl (keep_cons (t := 218) rfl keep_nil))))))))))))))))))))))))))))))))))))) ?_
              refine aw_false rfl ?_
              refine aw_skip ?_
              show AW _ _ _ _ _ _ _
              refine aw_region ?_
              refine sr_x rfl (wtd_none rfl) rfl (Rd.x (x_move rfl)) ?_
              refine sr_x rfl (wtd_none rfl) rfl (Rd.x (x_add' rfl rfl (i64w (by omega) (by omega)))) ?_
              refine sr_x rfl (wtd_none rfl) rfl (Rd.x (x_assign rfl)) ?_
              refine sr_nil ?_
              show ∃ s', _ ∧ _ ∧ _ ∧ _
              first | exact ⟨k + 1, by omega, by omega, (by rw [posD_yes hbi.srt hx hy (by omega)]; exact (by (repeat (first | exact keep_nil | refine keep_cons rfl ?_)); first | done | fail)), (by (repeat (first | exact Sub.refl _ | refine Sub.take (by repeat (first | exact Take.here | apply Take.there | apply Take.app)) ?_ | refine Sub.takeE (by repeat (first | exact TakeE.here | apply TakeE.there | apply TakeE.app)) ?_ | exact Sub.nil _ | apply Sub.drop | apply Sub.dropE)); first | done | fail)⟩ | exact ⟨k + 1, by omega, by omega, (by rw [posD_no hbi.srt hx hy (by omega)]; exact (by (repeat (first | exact keep_nil | refine keep_cons rfl ?_)); first | done | fail)), (by (repeat (first | exact Sub.refl _ | refine Sub.take (by repeat (first | exact Take.here | apply Take.there | apply Take.app)) ?_ | refine Sub.takeE (by repeat (first | exact TakeE.here | apply TakeE.there | apply TakeE.app)) ?_ | exact Sub.nil _ | apply Sub.drop | apply Sub.dropE)); first | done | fail)⟩
        · refine sr_nil ?_
          refine aw_keep (keep_cons (t := 6) rfl (keep_cons (t := 7) rfl (keep_cons (t := 9) rfl (keep_cons (t := 16) rfl (keep_cons (t := 17) rfl (keep_cons (t := 18) rfl (keep_cons (t := 19) rfl (keep_cons (t := 20) rfl (keep_cons (t := 21) rfl (keep_cons (t := 189) rfl (keep_cons (t := 190) rfl (keep_cons (t := 191) rfl (keep_cons (t := 192) rfl (keep_cons (t := 193) rfl (keep_cons (t := 194) rfl (keep_cons (t := 195) rfl keep_nil)))))))))))))))) ?_
          refine aw_false rfl ?_
          refine aw_exit ?_
          show AW _ _ _ _ _ _ _
          refine aw_seq_dr ⟨_, 24, 246, [[], [0], [0, 1], [0, 1, 2], [0, 1, 2], [0, 1, 2], [0, 1, 2, 4, 5], [0, 1, 2, 3, 4, 5, 6], [0, 1, 2, 3, 4, 5, 6, 7], [0, 1, 2, 3, 4, 5, 6, 7, 8], [0, 1, 2, 3, 4, 5, 6, 7, 8, 9], [0, 1, 2, 3, 4, 5, 6, 7, 8, 9], [0, 1, 2, 3, 4, 5, 6, 7, 8, 9, 10, 11], [0, 1, 2, 3, 4, 5, 6, 7, 8, 9, 10, 11, 12], [0, 1, 2, 3, 4, 5, 6, 7, 8, 9], [0, 1, 2, 3, 4, 5, 6, 7, 8, 9, 14], [0, 1, 2, 3, 4, 5, 6, 7, 8, 9, 14, 15], [0, 1, 2, 3, 4, 5, 6, 7, 8, 9, 14, 15, 16], [0, 1, 2, 3, 4, 5, 6, 7, 8, 9], [0, 1, 2, 3, 4, 5, 6, 7, 8, 9, 14, 15, 16, 17, 18], [0, 1, 2, 3, 4, 5, 6, 7, 8, 9, 14, 15, 16, 17, 18, 19], [0, 1, 2, 3, 4, 5, 6, 7, 8, 9, 14, 15, 16, 17, 18, 19, 20], [0, 1, 2, 3, 4, 5, 6, 7, 8, 9, 10, 11, 12, 13, 14, 15, 16, 17, 18, 19, 20, 21], [0, 1, 2, 3, 4, 5, 6, 7, 8, 9, 10, 11, 12, 13, 14, 15, 16, 17, 18, 19, 20, 21, 22]], [.light, .light, .light, .light, .light, .light, .call, .light, .light, .light, .light, .light, .light, .mem, .light, .light, .light, .mem, .light, .light, .light, .mem, .light, .light]⟩ (by kernel_rfl) rfl rfl mix ?_
          obtain rfl : k = us.length := by omega
          have hpx := hst.place (swoD us) hsr (dids_len us) (dids_get hx) (Nat.le_refl _)
          have hpx2 := get_lt hpx
          have hpx3 : posD us x m us.length < W.length := hpx2
          obtain ⟨b7, o7, ha7, hc7⟩ := (V4.slv' (W0 := W0) (xs := W) (fun _ => rfl) hWl.symm (Sub.refl _)).at_ _ _ hpx
          have hle7 := (V4.slv' (W0 := W0) (xs := W) (fun _ => rfl) hWl.symm (Sub.refl _)).le
          have hcb7 := (V4.slv' (W0 := W0) (xs := W) (fun _ => rfl) hWl.symm (Sub.refl _)).capb
          refine dr_light rfl rfl (wtd_none rfl) (x_move rfl) ?_
          refine dr_cmp rfl rfl (wtd_none rfl) (x_ne rfl rfl) (fun h20 => absurd h20 (by first | omega | decide)) (fun h20 => ?_)
          refine dr_light rfl rfl (wtd_none rfl) (x_move rfl) ?_
          refine dr_light rfl rfl (wtd_yes rfl rfl rfl) (x_move rfl) ?_
          refine dr_light rfl rfl (wtd_yes rfl rfl rfl) (x_move rfl) ?_
          refine dr_light rfl rfl (wtd_yes rfl rfl rfl) (x_move rfl) ?_
          refine dr_callq0 rfl rfl (wtd_yes rfl rfl rfl) (opS_F rfl rfl rfl rfl cl87 ((pdue_s q a2 c2 us half now _ (cells_ext (by repeat (first | exact List.mem_cons_self | apply List.mem_cons_of_mem | apply List.mem_append_right)) (by repeat (first | exact Ext.all _ | exact Ext.done | apply Ext.take | apply Ext.skip))) (V2.slv' (fun _ => rfl) rfl (Sub.takeE0 (by repeat (first | exact TakeE.here | apply TakeE.there | apply TakeE.app)))) (by omega) hbi.good m _ hx))) (⟨_, rfl⟩) ?_
          rintro _ rfl
          refine dr_cmp rfl rfl (wtd_yes rfl rfl rfl) (x_ne rfl rfl) (fun h21 => absurd h21 (by first | omega | decide)) (fun h21 => ?_)
          refine dr_light rfl rfl (wtd_none rfl) (x_pick_f rfl rfl rfl) ?_
          refine dr_light rfl rfl (wtd_none rfl) (x_move rfl) ?_
          refine dr_light rfl rfl (wtd_yes rfl rfl rfl) (x_move rfl) ?_
          refine dr_light rfl rfl (wtd_yes rfl rfl rfl) (x_move rfl) ?_
          refine dr_light rfl rfl (wtd_yes rfl rfl rfl) (x_indexAddrN (posD us x m us.length) Try.underlying134 sz3 rfl ha7 rfl (by omega) (by omega)) ?_
          refine dr_mem0 rfl rfl (wtd_yes rfl rfl rfl) (x_load ag3 rfl (cells_get (Cells.mono hc7 (Sub.takeE0 (by repeat (first | exact TakeE.here | apply TakeE.there | apply TakeE.app)))) 0 rfl)) ?_
          refine dr_light rfl rfl (wtd_yes rfl rfl rfl) (x_move rfl) ?_
          refine dr_light rfl rfl (wtd_yes rfl rfl rfl) (x_nilCheck rfl) ?_
          refine dr_light rfl rfl (wtd_yes rfl rfl rfl) (x_fieldAddr fd83_0 rfl) ?_
          refine dr_mem0 rfl rfl (wtd_yes rfl rfl rfl) (x_load ag73 rfl (cells_ext (by repeat (first | exact List.mem_cons_self | apply List.mem_cons_of_mem | apply List.mem_append_right)) (by repeat (first | exact Ext.all _ | exact Ext.done | apply Ext.take | apply Ext.skip)))) ?_
          refine dr_light rfl rfl (wtd_yes rfl rfl rfl) (x_move rfl) ?_
          refine dr_light rfl rfl (wtd_yes rfl rfl rfl) (x_indexAddrN (m) Try.underlying73 sz86 rfl ha6 rfl (by omega) (by omega)) ?_
          refine dr_light rfl rfl (wtd_yes rfl rfl rfl) (x_fieldAddr fd86_0 rfl) ?_
          refine dr_mem0 rfl rfl (wtd_yes rfl rfl rfl) (x_load ag3 rfl (cells_get (Cells.mono hc6 (Sub.takeE0 (by repeat (first | exact TakeE.here | apply TakeE.there | apply TakeE.app)))) 0 rfl)) ?_
          refine dr_cmp rfl rfl (wtd_yes rfl rfl rfl) (x_ne rfl rfl) (fun h22 => absurd h22 (by exact fun h => h rfl)) (fun h22 => ?_)
          refine dr_light rfl rfl (wtd_none rfl) (x_pick_f rfl rfl rfl) ?_
          refine dr_nil0 ?_
          refine aw_keep (keep_cons (t := 6) rfl (keep_cons (t := 7) rfl (keep_cons (t := 9) rfl (keep_cons (t := 16) rfl (keep_cons (t := 17) rfl (keep_cons (t := 18) rfl (keep_cons (t := 19) rfl (keep_cons (t := 20) rfl (keep_cons (t := 21) rfl (keep_cons (t := 189) rfl (keep_cons (t := 190) rfl (keep_cons (t := 191) rfl (keep_cons (t := 192) rfl (keep_cons (t := 193) rfl (keep_cons (t := 194) rfl (keep_cons (t := 195) rfl (keep_cons (t := 221) rfl (keep_cons (t := 222) rfl (keep_cons (t := 223) rfl (keep_cons (t := 224) rfl (keep_cons (t := 225) rfl (keep_cons (t := 226) rfl (keep_cons (t := 227) rfl (keep_cons (t := 228) rfl (keep_cons (t := 229) rfl (keep_cons (t := 230) rfl (keep_cons (t := 231) rfl (keep_cons (t := 232) rfl (keep_cons (t := 233) rfl (keep_cons (t := 234) rfl (keep_cons (t := 235) rfl (keep_cons (t := 236) rfl (keep_cons (t := 237) rfl (keep_cons (t := 238) rfl (keep_cons (t := 239) rfl (keep_cons (t := 240) rfl (keep_cons (t := 241) rfl (keep_cons (t := 242) rfl (keep_cons (t := 243) rfl (keep_cons (t := 244) rfl keep_nil)))))))))))))))))))))))))))))))))))))))) ?_
          refine aw_false rfl ?_
          refine aw_skip ?_
          show AW _ _ _ _ _ _ _
          refine aw_region ?_
          refine sr_x rfl (wtd_none rfl) rfl (Rd.x (x_move rfl)) ?_
          refine sr_x rfl (wtd_none rfl) rfl (Rd.x (x_add' rfl rfl (i64w (by omega) (by omega)))) ?_
          refine sr_x rfl (wtd_none rfl) rfl (Rd.x (x_assign rfl)) ?_
          refine sr_nil ?_
          show ∃ s', _ ∧ _ ∧ _ ∧ _
          exact ⟨m + 1, by omega, by omega, (by (repeat (first | exact keep_nil | refine keep_cons rfl ?_)); first | done | fail), (by repeat (first | exact Sub.refl _ | refine Sub.take (by repeat (first | exact Take.here | apply Take.there | apply Take.app)) ?_ | refine Sub.takeE (by repeat (first | exact TakeE.here | apply TakeE.there | apply TakeE.app)) ?_ | exact Sub.nil _ | apply Sub.drop | apply Sub.dropE))⟩
      · refine sr_nil ?_
        refine aw_keep (keep_cons (t := 6) rfl (keep_cons (t := 7) rfl (keep_cons (t := 9) rfl (keep_cons (t := 16) rfl (keep_cons (t := 17) rfl (keep_cons (t := 167) rfl (keep_cons (t := 168) rfl (keep_cons (t := 169) rfl (keep_cons (t := 170) rfl (keep_cons (t := 171) rfl (keep_cons (t := 172) rfl (keep_cons (t := 173) rfl keep_nil)))))))))))) ?_
        refine aw_false rfl ?_
        refine aw_exit ?_
        show AW _ _ _ _ _ _ _
        refine aw_seq_region ?_
        refine sr_d rfl (wtd_none rfl) rfl (opS_call rfl rfl rfl rfl cl51 (awake32_s _)) ?_
        rintro _ H ⟨rfl, rfl⟩
        refine sr_x rfl (wtd_none rfl) rfl (Rd.x (x_assign rfl)) ?_
        refine sr_nil ?_
        refine aw_keep (keep_cons (t := 6) rfl keep_nil) ?_
        refine aw_ret ?_
        show ∃ v H2, ResV _ _ _ _ _ _ v ∧ Sub H2 _ ∧ _
        exact ⟨_, [], resV rfl (.cons rfl .nil), (Sub.nil _), rfl⟩
  · refine sr_x rfl (wtd_none rfl) rfl (Rd.x (x_move rfl)) ?_
    refine sr_skip rfl (wtd_no rfl rfl rfl rfl) rfl ?_
    refine sr_skip rfl (wtd_no rfl rfl rfl rfl) rfl ?_
    refine sr_x rfl (wtd_none rfl) rfl (Rd.x (x_pick_f rfl rfl rfl)) ?_
    refine sr_nil ?_
    refine aw_keep (keep_cons (t := 2) rfl (keep_cons (t := 6) rfl (keep_cons (t := 7) rfl (keep_cons (t := 9) rfl (keep_cons (t := 11) rfl (keep_cons (t := 56) rfl (keep_cons (t := 57) rfl (keep_cons (t := 58) rfl (keep_cons (t := 59) rfl (keep_cons (t := 60) rfl (keep_cons (t := 61) rfl (keep_cons (t := 62) rfl (keep_cons (t := 63) rfl keep_nil))))))))))))) ?_
    refine aw_false rfl ?_
    refine aw_exit ?_
    show AW _ _ _ _ _ _ _
    refine aw_seq_region ?_
    refine sr_x rfl (wtd_none rfl) rfl (Rd.x (x_move rfl)) ?_
    refine sr_d rfl (wtd_none rfl) rfl (opS_call rfl rfl rfl rfl cl85 (AC.sub (by repeat (first | exact Sub.refl _ | refine Sub.take (by repeat (first | exact Take.here | apply Take.there | apply Take.app)) ?_ | refine Sub.takeE (by repeat (first | exact TakeE.here | apply TakeE.there | apply TakeE.app)) ?_ | exact Sub.nil _ | apply Sub.drop | apply Sub.dropE)) (order_s p a1 c1 us half now E1 (pk q (.slice a2 us.length c2) half now :: (E2 ++ [])) V1 (by omega) (by omega) hbi.srt hbi.good))) ?_
    rintro _ _ ⟨W, a4, c4, E4, rfl, hst, hsr, V4, rfl⟩
    have hWl : W.length = us.length := hst.1.length_eq.trans (dids_len us)
    refine sr_x rfl (wtd_none rfl) rfl (Rd.x (x_assign rfl)) ?_
    refine sr_nil ?_
    refine aw_keep (keep_cons (t := 6) rfl (keep_cons (t := 7) rfl (keep_cons (t := 9) rfl (keep_cons (t := 16) rfl keep_nil)))) ?_
    refine aw_seq ?_
    refine aw_seq_region ?_
    refine sr_x rfl (wtd_none rfl) rfl (Rd.x (x_move rfl)) ?_
    refine sr_x rfl (wtd_none rfl) rfl (Rd.x (x_lenSlice Try.underlying134 rfl)) ?_
    refine sr_x rfl (wtd_none rfl) rfl (Rd.x (x_move rfl)) ?_
    refine sr_x rfl (wtd_none rfl) rfl (Rd.x (x_nilCheck rfl)) ?_
    refine sr_x rfl (wtd_none rfl) rfl (Rd.x (x_fieldAddr fd83_0 rfl)) ?_
    refine sr_x rfl (wtd_none rfl) rfl (Rd.x (x_load ag73 rfl (cells_ext (by repeat (first | exact List.mem_cons_self | apply List.mem_cons_of_mem | apply List.mem_append_right)) (by repeat (first | exact Ext.all _ | exact Ext.done | apply Ext.take | apply Ext.skip))))) ?_
    refine sr_x rfl (wtd_none rfl) rfl (Rd.x (x_lenSlice Try.underlying73 rfl)) ?_
    refine sr_cmp rfl (wtd_none rfl) rfl (Rd.x (x_ne rfl rfl)) (fun h23 => absurd h23 (by first | omega | decide)) (fun h23 => ?_)
    refine sr_nil ?_
    refine aw_keep (keep_cons (t := 6) rfl (keep_cons (t := 7) rfl (keep_cons (t := 9) rfl (keep_cons (t := 16) rfl (keep_cons (t := 166) rfl keep_nil))))) ?_
    refine aw_false rfl ?_
    refine aw_skip ?_
    show AW _ _ _ _ _ _ _
    refine aw_seq ?_
    refine aw_seq_region ?_
    refine sr_x rfl (wtd_none rfl) rfl (Rd.x (x_assign rfl)) ?_
    refine sr_nil ?_
    refine aw_keep (keep_cons (t := 6) rfl (keep_cons (t := 7) rfl (keep_cons (t := 9) rfl (keep_cons (t := 16) rfl (keep_cons (t := 17) rfl keep_nil))))) ?_
    refine aw_block ?_
    refine aw_loop (ι := Nat) (fun m => m ≤ us.length) (fun m => [(6, .bool false), (7, .pointer (some ⟨p, 0, none⟩)), (9, .pointer (some ⟨q, 0, none⟩)), (16, .slice a4 us.length c4), (17, .int .i64 m)]) (fun _ => E4 ++ (bk p (.slice a1 us.length c1) half now :: (E1 ++ (pk q (.slice a2 us.length c2) half now :: (E2 ++ []))))) (fun m => us.length - m) 0 (Nat.zero_le _) (by (repeat (first | exact keep_nil | refine keep_cons rfl ?_)); first | done | fail) (by repeat (first | exact Sub.refl _ | refine Sub.take (by repeat (first | exact Take.here | apply Take.there | apply Take.app)) ?_ | refine Sub.takeE (by repeat (first | exact TakeE.here | apply TakeE.there | apply TakeE.app)) ?_ | exact Sub.nil _ | apply Sub.drop | apply Sub.dropE)) ?_
    intro m hm
    refine aw_seq ?_
    refine aw_seq_region ?_
    refine sr_x rfl (wtd_none rfl) rfl (Rd.x (x_move rfl)) ?_
    refine sr_x rfl (wtd_none rfl) rfl (Rd.x (x_move rfl)) ?_
    refine sr_x rfl (wtd_none rfl) rfl (Rd.x (x_nilCheck rfl)) ?_
    refine sr_x rfl (wtd_none rfl) rfl (Rd.x (x_fieldAddr fd83_0 rfl)) ?_
    refine sr_x rfl (wtd_none rfl) rfl (Rd.x (x_load ag73 rfl (cells_ext (by repeat (first | exact List.mem_cons_self | apply List.mem_cons_of_mem | apply List.mem_append_right)) (by repeat (first | exact Ext.all _ | exact Ext.done | apply Ext.take | apply Ext.skip))))) ?_
    refine sr_x rfl (wtd_none rfl) rfl (Rd.x (x_lenSlice Try.underlying73 rfl)) ?_
    refine sr_cmp rfl (wtd_none rfl) rfl (Rd.x (x_lt rfl rfl)) (fun h24 => ?_) (fun h24 => ?_)
    · refine sr_nil ?_
      refine aw_keep (keep_cons (t := 6) rfl (keep_cons (t := 7) rfl (keep_cons (t := 9) rfl (keep_cons (t := 16) rfl (keep_cons (t := 17) rfl (keep_cons (t := 167) rfl (keep_cons (t := 168) rfl (keep_cons (t := 169) rfl (keep_cons (t := 170) rfl (keep_cons (t := 171) rfl (keep_cons (t := 172) rfl (keep_cons (t := 173) rfl keep_nil)))))))))))) ?_
      refine aw_true rfl ?_
      refine aw_skip ?_
      show AW _ _ _ _ _ _ _
      refine aw_seq ?_
      refine aw_block ?_
      refine aw_seq_region ?_
      obtain ⟨x, hx⟩ := get_ex (show m < us.length by omega)
      obtain ⟨b6, o6, ha6, hc6⟩ := (V2.slv' (W0 := W0) (fun _ => rfl) rfl (Sub.refl _)).at_ m _ hx
      have hle6 := (V2.slv' (W0 := W0) (fun _ => rfl) rfl (Sub.refl _)).le
      have hcb6 := (V2.slv' (W0 := W0) (fun _ => rfl) rfl (Sub.refl _)).capb
      refine sr_x rfl (wtd_none rfl) rfl (Rd.x (x_move rfl)) ?_
      refine sr_x rfl (wtd_none rfl) rfl (Rd.x (x_move rfl)) ?_
      refine sr_x rfl (wtd_none rfl) rfl (Rd.x (x_nilCheck rfl)) ?_
      refine sr_x rfl (wtd_none rfl) rfl (Rd.x (x_fieldAddr fd83_0 rfl)) ?_
      refine sr_x rfl (wtd_none rfl) rfl (Rd.x (x_load ag73 rfl (cells_ext (by repeat (first | exact List.mem_cons_self | apply List.mem_cons_of_mem | apply List.mem_append_right)) (by repeat (first | exact Ext.all _ | exact Ext.done | apply Ext.take | apply Ext.skip))))) ?_
      refine sr_x rfl (wtd_none rfl) rfl (Rd.x (x_move rfl)) ?_
      refine sr_x rfl (wtd_none rfl) rfl (Rd.x (x_indexAddrN (m) Try.underlying73 sz86 rfl ha6 rfl (by omega) (by omega))) ?_
      refine sr_x rfl (wtd_none rfl) rfl (Rd.x (x_fieldAddr fd86_0 rfl)) ?_
      refine sr_x rfl (wtd_none rfl) rfl (Rd.x (x_load ag3 rfl (cells_get (Cells.mono hc6 (Sub.takeE0 (by repeat (first | exact TakeE.here | apply TakeE.there | apply TakeE.app)))) 0 rfl))) ?_
      refine sr_d rfl (wtd_none rfl) rfl (opS_call rfl rfl rfl rfl cl86 (dueX_s p a1 c1 us half now _ (cells_ext (by repeat (first | exact List.mem_cons_self | apply List.mem_cons_of_mem | apply List.mem_append_right)) (by repeat (first | exact Ext.all _ | exact Ext.done | apply Ext.take | apply Ext.skip))) (by omega) (V1.slv' (fun _ => rfl) rfl (Sub.takeE0 (by repeat (first | exact TakeE.here | apply TakeE.there | apply TakeE.app)))) (by omega) hbi.srt hbi.good x (List.mem_of_getElem? hx))) ?_
      rintro _ H9 ⟨rfl, rfl⟩
      refine sr_x rfl (wtd_none rfl) rfl (Rd.x (x_move rfl)) ?_
      refine sr_x rfl (wtd_none rfl) rfl (Rd.x (x_extract rfl rfl)) ?_
      refine sr_x rfl (wtd_none rfl) rfl (Rd.x (x_extract rfl rfl)) ?_
      refine sr_x rfl (wtd_none rfl) rfl (Rd.x (x_assign rfl)) ?_
      refine sr_x rfl (wtd_none rfl) rfl (Rd.x (x_assign rfl)) ?_
      refine sr_nil ?_
      refine aw_keep (keep_cons (t := 6) rfl (keep_cons (t := 7) rfl (keep_cons (t := 9) rfl (keep_cons (t := 16) rfl (keep_cons (t := 17) rfl (keep_cons (t := 18) rfl (keep_cons (t := 19) rfl (keep_cons (t := 167) rfl (keep_cons (t := 168) rfl (keep_cons (t := 169) rfl (keep_cons (t := 170) rfl (keep_cons (t := 171) rfl (keep_cons (t := 172) rfl (keep_cons (t := 173) rfl (keep_cons (t := 176) rfl (keep_cons (t := 177) rfl (keep_cons (t := 178) rfl (keep_cons (t := 179) rfl (keep_cons (t := 180) rfl (keep_cons (t := 181) rfl (keep_cons (t := 182) rfl (keep_cons (t := 183) rfl (keep_cons (t := 184) rfl (keep_cons (t := 185) rfl (keep_cons (t := 186) rfl (keep_cons (t := 187) rfl (keep_cons (t := 188) rfl keep_nil))))))))))))))))))))))))))) ?_
      refine aw_seq_region ?_
      refine sr_x rfl (wtd_none rfl) rfl (Rd.x (x_assign rfl)) ?_
      refine sr_nil ?_
      refine aw_keep (keep_cons (t := 6) rfl (keep_cons (t := 7) rfl (keep_cons (t := 9) rfl (keep_cons (t := 16) rfl (keep_cons (t := 17) rfl (keep_cons (t := 18) rfl (keep_cons (t := 19) rfl (keep_cons (t := 20) rfl (keep_cons (t := 167) rfl (keep_cons (t := 168) rfl (keep_cons (t := 169) rfl (keep_cons (t := 170) rfl (keep_cons (t := 171) rfl (keep_cons (t := 172) rfl (keep_cons (t := 173) rfl (keep_cons (t := 176) rfl (keep_cons (t := 177) rfl (keep_cons (t := 178) rfl (keep_cons (t := 179) rfl (keep_cons (t := 180) rfl (keep_cons (t := 181) rfl (keep_cons (t := 182) rfl (keep_cons (t := 183) rfl (keep_cons (t := 184) rfl (keep_cons (t := 185) rfl (keep_cons (t := 186) rfl (keep_cons (t := 187) rfl (keep_cons (t := 188) rfl keep_nil)))))))))))))))))))))))))))) ?_
      refine aw_seq ?_
      refine aw_seq_region ?_
      refine sr_x rfl (wtd_none rfl) rfl (Rd.x (x_assign rfl)) ?_
      refine sr_nil ?_
      refine aw_keep (keep_cons (t := 6) rfl (keep_cons (t := 7) rfl (keep_cons (t := 9) rfl (keep_cons (t := 16) rfl (keep_cons (t := 17) rfl (keep_cons (t := 18) rfl (keep_cons (t := 19) rfl (keep_cons (t := 20) rfl (keep_cons (t := 21) rfl (keep_cons (t := 167) rfl (keep_cons (t := 168) rfl (keep_cons (t := 169) rfl (keep_cons (t := 170) rfl (keep_cons (t := 171) rfl (keep_cons (t := 172) rfl (keep_cons (t := 173) rfl (keep_cons (t := 176) rfl (keep_cons (t := 177) rfl (keep_cons (t := 178) rfl (keep_cons (t := 179) rfl (keep_cons (t := 180) rfl (keep_cons (t := 181) rfl (keep_cons (t := 182) rfl (keep_cons (t := 183) rfl (keep_cons (t := 184) rfl (keep_cons (t := 185) rfl (keep_cons (t := 186) rfl (keep_cons (t := 187) rfl (keep_cons (t := 188) rfl keep_nil))))))))))))))))))))))))))))) ?_
      refine aw_block ?_
      refine aw_loop (ι := Nat) (fun k => k ≤ us.length) (fun k => [(6, .bool false), (7, .pointer (some ⟨p, 0, none⟩)), (9, .pointer (some ⟨q, 0, none⟩)), (16, .slice a4 us.length c4), (17, .int .i64 m), (18, .int .i64 (dueOf us x)), (19, .int .i64 0), (20, .int .i64 (posD us x m k : Nat)), (21, .int .i64 k)]) (fun _ => E4 ++ (bk p (.slice a1 us.length c1) half now :: (E1 ++ (pk q (.slice a2 us.length c2) half now :: (E2 ++ []))))) (fun k => us.length - k) 0 (Nat.zero_le _) (by (repeat (first | exact keep_nil | refine keep_cons rfl ?_)); first | done | fail) (by repeat (first | exact Sub.refl _ | refine Sub.take (by repeat (first | exact Take.here | apply Take.there | apply Take.app)) ?_ | refine Sub.takeE (by repeat (first | exact TakeE.here | apply TakeE.there | apply TakeE.app)) ?_ | exact Sub.nil _ | apply Sub.drop | apply Sub.dropE)) ?_
      intro k hk
      refine aw_seq ?_
      refine aw_seq_region ?_
      refine sr_x rfl (wtd_none rfl) rfl (Rd.x (x_move rfl)) ?_
      refine sr_x rfl (wtd_none rfl) rfl (Rd.x (x_move rfl)) ?_
      refine sr_x rfl (wtd_none rfl) rfl (Rd.x (x_nilCheck rfl)) ?_
      refine sr_x rfl (wtd_none rfl) rfl (Rd.x (x_fieldAddr fd83_0 rfl)) ?_
      refine sr_x rfl (wtd_none rfl) rfl (Rd.x (x_load ag73 rfl (cells_ext (by repeat (first | exact List.mem_cons_self | apply List.mem_cons_of_mem | apply List.mem_append_right)) (by repeat (first | exact Ext.all _ | exact Ext.done | apply Ext.take | apply Ext.skip))))) ?_
      refine sr_x rfl (wtd_none rfl) rfl (Rd.x (x_lenSlice Try.underlying73 rfl)) ?_
      refine sr_cmp rfl (wtd_none rfl) rfl (Rd.x (x_lt rfl rfl)) (fun h25 => ?_) (fun h25 => ?_)
      · refine sr_nil ?_
        refine aw_keep (keep_cons (t := 6) rfl (keep_cons (t := 7) rfl (keep_cons (t := 9) rfl (keep_cons (t := 16) rfl (keep_cons (t := 17) rfl (keep_cons (t := 18) rfl (keep_cons (t := 19) rfl (keep_cons (t := 20) rfl (keep_cons (t := 21) rfl (keep_cons (t := 189) rfl (keep_cons (t := 190) rfl (keep_cons (t := 191) rfl (keep_cons (t := 192) rfl (keep_cons (t := 193) rfl (keep_cons (t := 194) rfl (keep_cons (t := 195) rfl keep_nil)))))))))))))))) ?_
        refine aw_true rfl ?_
        refine aw_skip ?_
        show AW _ _ _ _ _ _ _
        refine aw_seq ?_
        refine aw_block ?_
        refine aw_seq_region ?_
        obtain ⟨y, hy⟩ := get_ex (show k < us.length by omega)
        have hpl : posD us x m k ≤ 2 * k := pos_le
        refine sr_x rfl (wtd_none rfl) rfl (Rd.x (x_move rfl)) ?_
        refine sr_x rfl (wtd_none rfl) rfl (Rd.x (x_move rfl)) ?_
        refine sr_d rfl (wtd_none rfl) rfl (opS_call rfl rfl rfl rfl cl87 (pdue_s q a2 c2 us half now _ (cells_ext (by repeat (first | exact List.mem_cons_self | apply List.mem_cons_of_mem | apply List.mem_append_right)) (by repeat (first | exact Ext.all _ | exact Ext.done | apply Ext.take | apply Ext.skip))) (V2.slv' (fun _ => rfl) rfl (Sub.takeE0 (by repeat (first | exact TakeE.here | apply TakeE.there | apply TakeE.app)))) (by omega) hbi.good k _ hy)) ?_
        rintro _ H9 ⟨rfl, rfl⟩
        refine sr_x rfl (wtd_none rfl) rfl (Rd.x (x_move rfl)) ?_
        refine sr_x rfl (wtd_none rfl) rfl (Rd.x (x_move rfl)) ?_
        refine sr_d rfl (wtd_none rfl) rfl (opS_call rfl rfl rfl rfl cl87 (pdue_s q a2 c2 us half now _ (cells_ext (by repeat (first | exact List.mem_cons_self | apply List.mem_cons_of_mem | apply List.mem_append_right)) (by repeat (first | exact Ext.all _ | exact Ext.done | apply Ext.take | apply Ext.skip))) (V2.slv' (fun _ => rfl) rfl (Sub.takeE0 (by repeat (first | exact TakeE.here | apply TakeE.there | apply TakeE.app)))) (by omega) hbi.good m _ hx)) ?_
        rintro _ H9 ⟨rfl, rfl⟩
        refine sr_cmp rfl (wtd_none rfl) rfl (Rd.x (x_gt rfl rfl)) (fun h26 => ?_) (fun h26 => ?_)
        · refine sr_x rfl (wtd_none rfl) rfl (Rd.x (x_move rfl)) ?_
          refine sr_skip rfl (wtd_no rfl rfl rfl rfl) rfl ?_
          refine sr_skip rfl (wtd_no rfl rfl rfl rfl) rfl ?_
          refine sr_skip rfl (wtd_no rfl rfl rfl rfl) rfl ?_
          refine sr_skip rfl (wtd_no rfl rfl rfl rfl) rfl ?_
          refine sr_skip rfl (wtd_no rfl rfl rfl rfl) rfl ?_
          refine sr_skip rfl (wtd_no rfl rfl rfl rfl) rfl ?_
          refine sr_skip rfl (wtd_no rfl rfl rfl rfl) rfl ?_
          refine sr_skip rfl (wtd_no rfl rfl rfl rfl) rfl ?_
          refine sr_skip rfl (wtd_un rfl rfl rfl) rfl ?_
          refine sr_skip rfl (wtd_un rfl rfl rfl) rfl ?_
          refine sr_skip rfl (wtd_un rfl rfl rfl) rfl ?_
          refine sr_skip rfl (wtd_no rfl rfl rfl rfl) rfl ?_
          refine sr_x rfl (wtd_none rfl) rfl (Rd.x (x_pick_t rfl rfl rfl)) ?_
          refine sr_nil ?_
          refine aw_keep (keep_cons (t := 6) rfl (keep_cons (t := 7) rfl (keep_cons (t := 9) rfl (keep_cons (t := 16) rfl (keep_cons (t := 17) rfl (keep_cons (t := 18) rfl (keep_cons (t := 19) rfl (keep_cons (t := 20) rfl (keep_cons (t := 21) rfl (keep_cons (t := 189) rfl (keep_cons (t := 190) rfl (keep_cons (t := 191) rfl (keep_cons (t := 192) rfl (keep_cons (t := 193) rfl (keep_cons (t := 194) rfl (keep_cons (t := 195) rfl (keep_cons (t := 198) rfl (keep_cons (t := 199) rfl (keep_cons (t := 200) rfl (keep_cons (t := 201) rfl (keep_cons (t := 202) rfl (keep_cons (t := 203) rfl (keep_cons (t := 204) rfl (keep_cons (t := 205) rfl (keep_cons (t := 206) rfl (keep_cons (t := 207) rfl (keep_cons (t := 208) rfl (keep_cons (t := 209) rfl (keep_cons (t := 210) rfl (keep_cons (t := 211) rfl (keep_cons (t := 212) rfl (keep_cons (t := 213) rfl (keep_cons (t := 214) rfl (keep_cons (t := 215) rfl (keep_cons (t := 216) rfl (keep_cons (t := 217) rfl (keep_cons (t := 218) rfl keep_nil))))))))))))))))))))))))))))))))))))) ?_
          refine aw_true rfl ?_
          refine aw_region ?_
          refine sr_x rfl (wtd_none rfl) rfl (Rd.x (x_move rfl)) ?_
          refine sr_x rfl (wtd_none rfl) rfl (Rd.x (x_add' rfl rfl (i64w (by omega) (by omega)))) ?_
          refine sr_x rfl (wtd_none rfl) rfl (Rd.x (x_assign rfl)) ?_
          refine sr_nil ?_
          show AW _ _ _ _ _ _ _
          refine aw_region ?_
          refine sr_x rfl (wtd_none rfl) rfl (Rd.x (x_move rfl)) ?_
          refine sr_x rfl (wtd_none rfl) rfl (Rd.x (x_add' rfl rfl (i64w (by omega) (by omega)))) ?_
          refine sr_x rfl (wtd_none rfl) rfl (Rd.x (x_assign rfl)) ?_
          refine sr_nil ?_
          show ∃ s', _ ∧ _ ∧ _ ∧ _
          first | exact ⟨k + 1, by omega, by omega, (by rw [posD_yes hbi.srt hx hy (by omega)]; exact (by (repeat (first | exact keep_nil | refine keep_cons rfl ?_)); first | done | fail)), (by (repeat (first | exact Sub.refl _ | refine Sub.take (by repeat (first | exact Take.here | apply Take.there | apply Take.app)) ?_ | refine Sub.takeE (by repeat (first | exact TakeE.here | apply TakeE.there | apply TakeE.app)) ?_ | exact Sub.nil _ | apply Sub.drop | apply Sub.dropE)); first | done | fail)⟩ | exact ⟨k + 1, by omega, by omega, (by rw [posD_no hbi.srt hx hy (by omega)]; exact (by (repeat (first | exact keep_nil | refine keep_cons rfl ?_)); first | done | fail)), (by (repeat (first | exact Sub.refl _ | refine Sub.take (by repeat (first | exact Take.here | apply Take.there | apply Take.app)) ?_ | refine Sub.takeE (by repeat (first | exact TakeE.here | apply TakeE.there | apply TakeE.app)) ?_ | exact Sub.nil _ | apply Sub.drop | apply Sub.dropE)); first | done | fail)⟩
        · refine sr_x rfl (wtd_none rfl) rfl (Rd.x (x_move rfl)) ?_
          refine sr_x rfl (wtd_yes rfl rfl rfl) rfl (Rd.x (x_move rfl)) ?_
          refine sr_x rfl (wtd_yes rfl rfl rfl) rfl (Rd.x (x_move rfl)) ?_
          refine sr_d rfl (wtd_yes rfl rfl rfl) rfl (opS_call rfl rfl rfl rfl cl87 (pdue_s q a2 c2 us half now _ (cells_ext (by repeat (first | exact List.mem_cons_self | apply List.mem_cons_of_mem | apply List.mem_append_right)) (by repeat (first | exact Ext.all _ | exact Ext.done | apply Ext.take | apply Ext.skip))) (V2.slv' (fun _ => rfl) rfl (Sub.takeE0 (by repeat (first | exact TakeE.here | apply TakeE.there | apply TakeE.app)))) (by omega) hbi.good k _ hy)) ?_
          rintro _ H9 ⟨rfl, rfl⟩
          refine sr_x rfl (wtd_yes rfl rfl rfl) rfl (Rd.x (x_move rfl)) ?_
          refine sr_x rfl (wtd_yes rfl rfl rfl) rfl (Rd.x (x_move rfl)) ?_
          refine sr_d rfl (wtd_yes rfl rfl rfl) rfl (opS_call rfl rfl rfl rfl cl87 (pdue_s q a2 c2 us half now _ (cells_ext (by repeat (first | exact List.mem_cons_self | apply List.mem_cons_of_mem | apply List.mem_append_right)) (by repeat (first | exact Ext.all _ | exact Ext.done | apply Ext.take | apply Ext.skip))) (V2.slv' (fun _ => rfl) rfl (Sub.takeE0 (by repeat (first | exact TakeE.here | apply TakeE.there | apply TakeE.app)))) (by omega) hbi.good m _ hx)) ?_
          rintro _ H9 ⟨rfl, rfl⟩
          refine sr_cmp rfl (wtd_yes rfl rfl rfl) rfl (Rd.x (x_eq rfl rfl)) (fun h27 => ?_) (fun h27 => ?_)
          · refine sr_x rfl (wtd_yes rfl rfl rfl) rfl (Rd.x (x_move rfl)) ?_
            refine sr_x rfl (wtd_yes rfl rfl rfl) rfl (Rd.x (x_move rfl)) ?_
            refine sr_x rfl (wtd_yes rfl rfl rfl) rfl (Rd.x (x_move rfl)) ?_
            refine sr_cmp rfl (wtd_yes rfl rfl rfl) rfl (Rd.x (x_lt rfl rfl)) (fun h28 => ?_) (fun h28 => ?_)
            · refine sr_x rfl (wtd_yes rfl rfl rfl) rfl (Rd.x (x_pick_t rfl rfl rfl)) ?_
              refine sr_x rfl (wtd_none rfl) rfl (Rd.x (x_pick_f rfl rfl rfl)) ?_
              refine sr_nil ?_
              refine aw_keep (keep_cons (t := 6) rfl (keep_cons (t := 7) rfl (keep_cons (t := 9) rfl (keep_cons (t := 16) rfl (keep_cons (t := 17) rfl (keep_cons (t := 18) rfl (keep_cons (t := 19) rfl (keep_cons (t := 20) rfl (keep_cons (t := 21) rfl (keep_cons (t := 189) rfl (keep_cons (t := 190) rfl (keep_cons (t := 191) rfl (keep_cons (t := 192) rfl (keep_cons (t := 193) rfl (keep_cons (t := 194) rfl (keep_cons (t := 195) rfl (keep_cons (t := 198) rfl (keep_cons (t := 199) rfl (keep_cons (t := 200) rfl (keep_cons (t := 201) rfl (keep_cons (t := 202) rfl (keep_cons (t := 203) rfl (keep_cons (t := 204) rfl (keep_cons (t := 205) rfl (keep_cons (t := 206) rfl (keep_cons (t := 207) rfl (keep_cons (t := 208) rfl (keep_cons (t := 209) rfl (keep_cons (t := 210) rfl (keep_cons (t := 211) rfl (keep_cons (t := 212) rfl (keep_cons (t := 213) rfl (keep_cons (t := 214) rfl (keep_cons (t := 215) rfl (keep_cons (t := 216) rfl (keep_cons (t := 217) rfl (keep_cons (t := 218) rfl keep_nil))))))))))))))))))))))))))))))))))))) ?_
              refine aw_true rfl ?_
              refine aw_region ?_
              refine sr_x rfl (wtd_none rfl) rfl (Rd.x (x_move rfl)) ?_
              refine sr_x rfl (wtd_none rfl) rfl (Rd.x (x_add' rfl rfl (i64w (by omega) (by omega)))) ?_
              refine sr_x rfl (wtd_none rfl) rfl (Rd.x (x_assign rfl)) ?_
              refine sr_nil ?_
              show AW _ _ _ _ _ _ _
              refine aw_region ?_
              refine sr_x rfl (wtd_none rfl) rfl (Rd.x (x_move rfl)) ?_
              refine sr_x rfl (wtd_none rfl) rfl (Rd.x (x_add' rfl rfl (i64w (by omega) (by omega)))) ?_
              refine sr_x rfl (wtd_none rfl) rfl (Rd.x (x_assign rfl)) ?_
              refine sr_nil ?_
              show ∃ s', _ ∧ _ ∧ _ ∧ _
              first | exact ⟨k + 1, by omega, by omega, (by rw [posD_yes hbi.srt hx hy (by omega)]; exact (by (repeat (first | exact keep_nil | refine keep_cons rfl ?_)); first | done | fail)), (by (repeat (first | exact Sub.refl _ | refine Sub.take (by repeat (first | exact Take.here | apply Take.there | apply Take.app)) ?_ | refine Sub.takeE (by repeat (first | exact TakeE.here | apply TakeE.there | apply TakeE.app)) ?_ | exact Sub.nil _ | apply Sub.drop | apply Sub.dropE)); first | done | fail)⟩ | exact ⟨k + 1, by omega, by omega, (by rw [posD_no hbi.srt hx hy (by omega)]; exact (by (repeat (first | exact keep_nil | refine keep_cons rfl ?_)); first | done | fail)), (by (repeat (first | exact Sub.refl _ | refine Sub.take (by repeat (first | exact Take.here | apply Take.there | apply Take.app)) ?_ | refine Sub.takeE (by repeat (first | exact TakeE.here | apply TakeE.there | apply TakeE.app)) ?_ | exact Sub.nil _ | apply Sub.drop | apply Sub.dropE)); first | done | fail)⟩
            · refine sr_x rfl (wtd_yes rfl rfl rfl) rfl (Rd.x (x_pick_t rfl rfl rfl)) ?_
              refine sr_x rfl (wtd_none rfl) rfl (Rd.x (x_pick_f rfl rfl rfl)) ?_
              refine sr_nil ?_
              refine aw_keep (keep_cons (t := 6) rfl (keep_cons (t := 7) rfl (keep_cons (t := 9) rfl (keep_cons (t := 16) rfl (keep_cons (t := 17) rfl (keep_cons (t := 18) rfl (keep_cons (t := 19) rfl (keep_cons (t := 20) rfl (keep_cons (t := 21) rfl (keep_cons (t := 189) rfl (keep_cons (t := 190) rfl (keep_cons (t := 191) rfl (keep_cons (t := 192) rfl (keep_cons (t := 193) rfl (keep_cons (t := 194) rfl (keep_cons (t := 195) rfl (keep_cons (t := 198) rfl (keep_cons (t := 199) rfl (keep_cons (t := 200) rfl (keep_cons (t := 201) rfl (keep_cons (t := 202) rfl (keep_cons (t := 203) rfl (keep_cons (t := 204) rfl (keep_cons (t := 205) rfl (keep_cons (t := 206) rfl (keep_cons (t := 207) rfl (keep_cons (t := 208) rfl (keep_cons (t := 209) rfl (keep_cons (t := 210) rfl (keep_cons (t := 211) rfl (keep_cons (t := 212) rfl (keep_cons (t := 213) rfl (keep_cons (t := 214) rfl (keep_cons (t := 215) rfl (keep_cons (t := 216) rfl (keep_cons (t := 217) rfl (keep_cons (t := 218) rfl keep_nil))))))))))))))))))))))))))))))))))))) ?_
              refine aw_false rfl ?_
              refine aw_skip ?_
              show AW _ _ _ _ _ _ _
              refine aw_region ?_
              refine sr_x rfl (wtd_none rfl) rfl (Rd.x (x_move rfl)) ?_
              refine sr_x rfl (wtd_none rfl) rfl (Rd.x (x_add' rfl rfl (i64w (by omega) (by omega)))) ?_
              refine sr_x rfl (wtd_none rfl) rfl (Rd.x (x_assign rfl)) ?_
              refine sr_nil ?_
              show ∃ s', _ ∧ _ ∧ _ ∧ _
              first | exact ⟨k + 1, by omega, by omega, (by rw [posD_yes hbi.srt hx hy (by omega)]; exact (by (repeat (first | exact keep_nil | refine keep_cons rfl ?_)); first | done | fail)), (by (repeat (first | exact Sub.refl _ | refine Sub.take (by repeat (first | exact Take.here | apply Take.there | apply Take.app)) ?_ | refine Sub.takeE (by repeat (first | exact TakeE.here | apply TakeE.there | apply TakeE.app)) ?_ | exact Sub.nil _ | apply Sub.drop | apply Sub.dropE)); first | done | fail)⟩ | exact ⟨k + 1, by omega, by omega, (by rw [posD_no hbi.srt hx hy (by omega)]; exact (by (repeat (first | exact keep_nil | refine keep_cons rfl ?_)); first | done | fail)), (by (repeat (first | exact Sub.refl _ | refine Sub.take (by repeat (first | exact Take.here | apply Take.there | apply Take.app)) ?_ | refine Sub.takeE (by repeat (first | exact TakeE.here | apply TakeE.there | apply TakeE.app)) ?_ | exact Sub.nil _ | apply Sub.drop | apply Sub.dropE)); first | done | fail)⟩
          · refine sr_x rfl (wtd_yes rfl rfl rfl) rfl (Rd.x (x_move rfl)) ?_
            refine sr_skip rfl (wtd_no rfl rfl rfl rfl) rfl ?_
            refine sr_skip rfl (wtd_no rfl rfl rfl rfl) rfl ?_
            refine sr_skip rfl (wtd_no rfl rfl rfl rfl) rfl ?_
            refine sr_x rfl (wtd_yes rfl rfl rfl) rfl (Rd.x (x_pick_f rfl rfl rfl)) ?_
            refine sr_x rfl (wtd_none rfl) rfl (Rd.x (x_pick_f rfl rfl rfl)) ?_
            refine sr_nil ?_
            refine aw_keep (keep_cons (t := 6) rfl (keep_cons (t := 7) rfl (keep_cons (t := 9) rfl (keep_cons (t := 16) rfl (keep_cons (t := 17) rfl (keep_cons (t := 18) rfl (keep_cons (t := 19) rfl (keep_cons (t := 20) rfl (keep_cons (t := 21) rfl (keep_cons (t := 189) rfl (keep_cons (t := 190) rfl (keep_cons (t := 191) rfl (keep_cons (t := 192) rfl (keep_cons (t := 193) rfl (keep_cons (t := 194) rfl (keep_cons (t := 195) rfl (keep_cons (t := 198) rfl (keep_cons (t := 199) rfl (keep_cons (t := 200) rfl (keep_cons (t := 201) rfl (keep_cons (t := 202) rfl (keep_cons (t := 203) rfl (keep_cons (t := 204) rfl (keep_cons (t := 205) rfl (keep_cons (t := 206) rfl (keep_cons (t := 207) rfl (keep_cons (t := 208) rfl (keep_cons (t := 209) rfl (keep_cons (t := 210) rfl (keep_cons (t := 211) rfl (keep_cons (t := 212) rfl (keep_cons (t := 213) rfl (keep_cons (t := 214) rfl (keep_cons (t := 215) rfl (keep_cons (t := 216) rfl (keep_cons (t := 217) rfl (keep_cons (t := 218) rfl keep_nil))))))))))))))))))))))))))))))))))))) ?_
            refine aw_false rfl ?_
            refine aw_skip ?_
            show AW _ _ _ _ _ _ _
            refine aw_region ?_
            refine sr_x rfl (wtd_none rfl) rfl (Rd.x (x_move rfl)) ?_
            refine sr_x rfl (wtd_none rfl) rfl (Rd.x (x_add' rfl rfl (i64w (by omega) (by omega)))) ?_
            refine sr_x rfl (wtd_none rfl) rfl (Rd.x (x_assign rfl)) ?_
            refine sr_nil ?_
            show ∃ s', _ ∧ _ ∧ _ ∧ _
            first | exact ⟨k + 1, by omega, by omega, (by rw [posD_yes hbi.srt hx hy (by omega)]; exact (by (repeat (first | exact keep_nil | refine keep_cons rfl ?_)); first | done | fail)), (by (repeat (first | exact Sub.refl _ | refine Sub.take (by repeat (first | exact Take.here | apply Take.there | apply Take.app)) ?_ | refine Sub.takeE (by repeat (first | exact TakeE.here | apply TakeE.there | apply TakeE.app)) ?_ | exact Sub.nil _ | apply Sub.drop | apply Sub.dropE)); first | done | fail)⟩ | exact ⟨k + 1, by omega, by omega, (by rw [posD_no hbi.srt hx hy (by omega)]; exact (by (repeat (first | exact keep_nil | refine keep_cons rfl ?_)); first | done | fail)), (by (repeat (first | exact Sub.refl _ | refine Sub.take (by repeat (first | exact Take.here | apply Take.there | apply Take.app)) ?_ | refine Sub.takeE (by repeat (first | exact TakeE.here | apply TakeE.there | apply TakeE.app)) ?_ | exact Sub.nil _ | apply Sub.drop | apply Sub.dropE)); first | done | fail)⟩
      · refine sr_nil ?_
        refine aw_keep (keep_cons (t := 6) rfl (keep_cons (t := 7) rfl (keep_cons (t := 9) rfl (keep_cons (t := 16) rfl (keep_cons (t := 17) rfl (keep_cons (t := 18) rfl (keep_cons (t := 19) rfl (keep_cons (t := 20) rfl (keep_cons (t := 21) rfl (keep_cons (t := 189) rfl (keep_cons (t := 190) rfl (keep_cons (t := 191) rfl (keep_cons (t := 192) rfl (keep_cons (t := 193) rfl (keep_cons (t := 194) rfl (keep_cons (t := 195) rfl keep_nil)))))))))))))))) ?_
        refine aw_false rfl ?_
        refine aw_exit ?_
        show AW _ _ _ _ _ _ _
        refine aw_seq_dr ⟨_, 24, 246, [[], [0], [0, 1], [0, 1, 2], [0, 1, 2], [0, 1, 2], [0, 1, 2, 4, 5], [0, 1, 2, 3, 4, 5, 6], [0, 1, 2, 3, 4, 5, 6, 7], [0, 1, 2, 3, 4, 5, 6, 7, 8], [0, 1, 2, 3, 4, 5, 6, 7, 8, 9], [0, 1, 2, 3, 4, 5, 6, 7, 8, 9], [0, 1, 2, 3, 4, 5, 6, 7, 8, 9, 10, 11], [0, 1, 2, 3, 4, 5, 6, 7, 8, 9, 10, 11, 12], [0, 1, 2, 3, 4, 5, 6, 7, 8, 9], [0, 1, 2, 3, 4, 5, 6, 7, 8, 9, 14], [0, 1, 2, 3, 4, 5, 6, 7, 8, 9, 14, 15], [0, 1, 2, 3, 4, 5, 6, 7, 8, 9, 14, 15, 16], [0, 1, 2, 3, 4, 5, 6, 7, 8, 9], [0, 1, 2, 3, 4, 5, 6, 7, 8, 9, 14, 15, 16, 17, 18], [0, 1, 2, 3, 4, 5, 6, 7, 8, 9, 14, 15, 16, 17, 18, 19], [0, 1, 2, 3, 4, 5, 6, 7, 8, 9, 14, 15, 16, 17, 18, 19, 20], [0, 1, 2, 3, 4, 5, 6, 7, 8, 9, 10, 11, 12, 13, 14, 15, 16, 17, 18, 19, 20, 21], [0, 1, 2, 3, 4, 5, 6, 7, 8, 9, 10, 11, 12, 13, 14, 15, 16, 17, 18, 19, 20, 21, 22]], [.light, .light, .light, .light, .light, .light, .call, .light, .light, .light, .light, .light, .light, .mem, .light, .light, .light, .mem, .light, .light, .light, .mem, .light, .light]⟩ (by kernel_rfl) rfl rfl mix ?_
        obtain rfl : k = us.length := by omega
        have hpx := hst.place (swoD us) hsr (dids_len us) (dids_get hx) (Nat.le_refl _)
        have hpx2 := get_lt hpx
        have hpx3 : posD us x m us.length < W.length := hpx2
        obtain ⟨b7, o7, ha7, hc7⟩ := (V4.slv' (W0 := W0) (xs := W) (fun _ => rfl) hWl.symm (Sub.refl _)).at_ _ _ hpx
        have hle7 := (V4.slv' (W0 := W0) (xs := W) (fun _ => rfl) hWl.symm (Sub.refl _)).le
        have hcb7 := (V4.slv' (W0 := W0) (xs := W) (fun _ => rfl) hWl.symm (Sub.refl _)).capb
        refine dr_light rfl rfl (wtd_none rfl) (x_move rfl) ?_
        refine dr_cmp rfl rfl (wtd_none rfl) (x_ne rfl rfl) (fun h29 => absurd h29 (by first | omega | decide)) (fun h29 => ?_)
        refine dr_light rfl rfl (wtd_none rfl) (x_move rfl) ?_
        refine dr_light rfl rfl (wtd_yes rfl rfl rfl) (x_move rfl) ?_
        refine dr_light rfl rfl (wtd_yes rfl rfl rfl) (x_move rfl) ?_
        refine dr_light rfl rfl (wtd_yes rfl rfl rfl) (x_move rfl) ?_
        refine dr_callq0 rfl rfl (wtd_yes rfl rfl rfl) (opS_F rfl rfl rfl rfl cl87 ((pdue_s q a2 c2 us half now _ (cells_ext (by repeat (first | exact List.mem_cons_self | apply List.mem_cons_of_mem | apply List.mem_append_right)) (by repeat (first | exact Ext.all _ | exact Ext.done | apply Ext.take | apply Ext.skip))) (V2.slv' (fun _ => rfl) rfl (Sub.takeE0 (by repeat (first | exact TakeE.here | apply TakeE.there | apply TakeE.app)))) (by omega) hbi.good m _ hx))) (⟨_, rfl⟩) ?_
        rintro _ rfl
        refine dr_cmp rfl rfl (wtd_yes rfl rfl rfl) (x_ne rfl rfl) (fun h30 => absurd h30 (by first | omega | decide)) (fun h30 => ?_)
        refine dr_light rfl rfl (wtd_none rfl) (x_pick_f rfl rfl rfl) ?_
        refine dr_light rfl rfl (wtd_none rfl) (x_move rfl) ?_
        refine dr_light rfl rfl (wtd_yes rfl rfl rfl) (x_move rfl) ?_
        refine dr_light rfl rfl (wtd_yes rfl rfl rfl) (x_move rfl) ?_
        refine dr_light rfl rfl (wtd_yes rfl rfl rfl) (x_indexAddrN (posD us x m us.length) Try.underlying134 sz3 rfl ha7 rfl (by omega) (by omega)) ?_
        refine dr_mem0 rfl rfl (wtd_yes rfl rfl rfl) (x_load ag3 rfl (cells_get (Cells.mono hc7 (Sub.takeE0 (by repeat (first | exact TakeE.here | apply TakeE.there | apply TakeE.app)))) 0 rfl)) ?_
        refine dr_light rfl rfl (wtd_yes rfl rfl rfl) (x_move rfl) ?_
        refine dr_light rfl rfl (wtd_yes rfl rfl rfl) (x_nilCheck rfl) ?_
        refine dr_light rfl rfl (wtd_yes rfl rfl rfl) (x_fieldAddr fd83_0 rfl) ?_
        refine dr_mem0 rfl rfl (wtd_yes rfl rfl rfl) (x_load ag73 rfl (cells_ext (by repeat (first | exact List.mem_cons_self | apply List.mem_cons_of_mem | apply List.mem_append_right)) (by repeat (first | exact Ext.all _ | exact Ext.done | apply Ext.take | apply Ext.skip)))) ?_
        refine dr_light rfl rfl (wtd_yes rfl rfl rfl) (x_move rfl) ?_
        refine dr_light rfl rfl (wtd_yes rfl rfl rfl) (x_indexAddrN (m) Try.underlying73 sz86 rfl ha6 rfl (by omega) (by omega)) ?_
        refine dr_light rfl rfl (wtd_yes rfl rfl rfl) (x_fieldAddr fd86_0 rfl) ?_
        refine dr_mem0 rfl rfl (wtd_yes rfl rfl rfl) (x_load ag3 rfl (cells_get (Cells.mono hc6 (Sub.takeE0 (by repeat (first | exact TakeE.here | apply TakeE.there | apply TakeE.app)))) 0 rfl)) ?_
        refine dr_cmp rfl rfl (wtd_yes rfl rfl rfl) (x_ne rfl rfl) (fun h31 => absurd h31 (by exact fun h => h rfl)) (fun h31 => ?_)
        refine dr_light rfl rfl (wtd_none rfl) (x_pick_f rfl rfl rfl) ?_
        refine dr_nil0 ?_
        refine aw_keep (keep_cons (t := 6) rfl (keep_cons (t := 7) rfl (keep_cons (t := 9) rfl (keep_cons (t := 16) rfl (keep_cons (t := 17) rfl (keep_cons (t := 18) rfl (keep_cons (t := 19) rfl (keep_cons (t := 20) rfl (keep_cons (t := 21) rfl (keep_cons (t := 189) rfl (keep_cons (t := 190) rfl (keep_cons (t := 191) rfl (keep_cons (t := 192) rfl (keep_cons (t := 193) rfl (keep_cons (t := 194) rfl (keep_cons (t := 195) rfl (keep_cons (t := 221) rfl (keep_cons (t := 222) rfl (keep_cons (t := 223) rfl (keep_cons (t := 224) rfl (keep_cons (t := 225) rfl (keep_cons (t := 226) rfl (keep_cons (t := 227) rfl (keep_cons (t := 228) rfl (keep_cons (t := 229) rfl (keep_cons (t := 230) rfl (keep_cons (t := 231) rfl (keep_cons (t := 232) rfl (keep_cons (t := 233) rfl (keep_cons (t := 234) rfl (keep_cons (t := 235) rfl (keep_cons (t := 236) rfl (keep_cons (t := 237) rfl (keep_cons (t := 238) rfl (keep_cons (t := 239) rfl (keep_cons (t := 240) rfl (keep_cons (t := 241) rfl (keep_cons (t := 242) rfl (keep_cons (t := 243) rfl (keep_cons (t := 244) rfl keep_nil)))))))))))))))))))))))))))))))))))))))) ?_
        refine aw_false rfl ?_
        refine aw_skip ?_
        show AW _ _ _ _ _ _ _
        refine aw_region ?_
        refine sr_x rfl (wtd_none rfl) rfl (Rd.x (x_move rfl)) ?_
        refine sr_x rfl (wtd_none rfl) rfl (Rd.x (x_add' rfl rfl (i64w (by omega) (by omega)))) ?_
        refine sr_x rfl (wtd_none rfl) rfl (Rd.x (x_assign rfl)) ?_
        refine sr_nil ?_
        show ∃ s', _ ∧ _ ∧ _ ∧ _
        exact ⟨m + 1, by omega, by omega, (by (repeat (first | exact keep_nil | refine keep_cons rfl ?_)); first | done | fail), (by repeat (first | exact Sub.refl _ | refine Sub.take (by repeat (first | exact Take.here | apply Take.there | apply Take.app)) ?_ | refine Sub.takeE (by repeat (first | exact TakeE.here | apply TakeE.there | apply TakeE.app)) ?_ | exact Sub.nil _ | apply Sub.drop | apply Sub.dropE))⟩
    · refine sr_nil ?_
      refine aw_keep (keep_cons (t := 6) rfl (keep_cons (t := 7) rfl (keep_cons (t := 9) rfl (keep_cons (t := 16) rfl (keep_cons (t := 17) rfl (keep_cons (t := 167) rfl (keep_cons (t := 168) rfl (keep_cons (t := 169) rfl (keep_cons (t := 170) rfl (keep_cons (t := 171) rfl (keep_cons (t := 172) rfl (keep_cons (t := 173) rfl keep_nil)))))))))))) ?_
      refine aw_false rfl ?_
      refine aw_exit ?_
      show AW _ _ _ _ _ _ _
      refine aw_seq_region ?_
      refine sr_d rfl (wtd_none rfl) rfl (opS_call rfl rfl rfl rfl cl51 (awake32_s _)) ?_
      rintro _ H ⟨rfl, rfl⟩
      refine sr_x rfl (wtd_none rfl) rfl (Rd.x (x_assign rfl)) ?_
      refine sr_nil ?_
      refine aw_keep (keep_cons (t := 6) rfl keep_nil) ?_
      refine aw_ret ?_
      show ∃ v H2, ResV _ _ _ _ _ _ v ∧ Sub H2 _ ∧ _
      exact ⟨_, [], resV rfl (.cons rfl .nil), (Sub.nil _), rfl⟩
theorem sharePlays_s (half : Int) (a : Option Addr) (cap : Nat) (l : List User) (hs : ∀ G, SlV W0 G 3 User.cells a cap l) (sa : Option Addr) (scap : Nat) (xs : List SOp) (hxs : ∀ G, SlV W0 G 3 SOp.cells sa scap xs) : AC Try.prog W0 14 [.int .i64 half, .slice a l.length cap, .slice sa xs.length scap] [] (fun v _ => v = .bool true) := by
  by_cases hb : half < 1 ∨ 1099511627776 < half
  · exact sharePlays_bad half a cap l hs sa scap xs hxs hb
  · obtain ⟨e, us, hA⟩ := AddAll.tot (l.take 20) [] List.Pairwise.nil
    by_cases he : e = 0
    · subst he; exact sharePlays_ok half a cap l hs sa scap xs hxs hb us hA
    · exact sharePlays_err half a cap l hs sa scap xs hxs hb us e hA he
set_option maxRecDepth 100000 in
theorem read_SOp {H : Type} {enc : TypeId × Value → H} {w : World} {base : Nat} {spare : Nat → Bool} {held : Bool} {fuel : Nat} {cs : List Value} {x : DataW H × List MemPlace} (h : DataW.trod enc Try.prog w base spare held fuel 131 cs = some x) : ∃ j : SOp, cs = j.cells ∧ j.Wf := by
  obtain ⟨hlen, n, hf⟩ := read_struct Try.underlying131 h
  rw [cells131] at hlen
  obtain ⟨a0, e0, l0, u0⟩ := read_int Try.underlying3 cells3 (hf 0 _ rfl)
  obtain ⟨a1, e1, l1, u1⟩ := read_int Try.underlying3 cells3 (hf 1 _ rfl)
  obtain ⟨a2, e2, l2, u2⟩ := read_int Try.underlying2 cells2 (hf 2 _ rfl)
  refine ⟨⟨a0, a1, a2⟩, ?_, ⟨l0, u0, l1, u1, l2, u2⟩⟩
  apply List.ext_getElem?
  intro i
  match i with
  | 0 => exact e0
  | 1 => exact e1
  | 2 => exact e2
  | i + 3 => rw [List.getElem?_eq_none (by omega), List.getElem?_eq_none (by simp)]
set_option maxRecDepth 100000 in
theorem open_SOp {H : Type} {enc : TypeId × Value → H} {w : World} {base b0 : Nat} {spare : Nat → Bool} {held : Bool} {v : Value} {d : DataW H} {p : List MemPlace} {r : Reach} (hv : Value.okWide Try.prog w r b0 131 v) (h : DataW.Trod enc Try.prog w base spare held 131 v d p) : ∃ j : SOp, v = j.v ∧ j.Wf := by
  obtain ⟨cs, rfl, _⟩ := Go.WideShapes.okWide_struct Try.underlying131 hv
  obtain ⟨fuel, hf⟩ := h
  obtain ⟨j, h1, h2⟩ := read_SOp hf
  refine ⟨j, ?_, h2⟩
  have : cs = j.cells.toArray := by apply Array.toList_inj.1; exact h1
  rw [this]
end
namespace SharePlaysRow
open Go.ChangeShapes Go.WideShapes Go.ChangeAt Go.RowKit
theorem own : ownKnob Try.prog.godebug = none := by kernel_rfl
theorem laid : laidOutB Try.prog = true := by kernel_rfl
set_option maxRecDepth 100000 in
theorem lifted (os : Os) (started : os.Started) (H : Type) (enc : TypeId × Value → H) :
    ReturnsInHanded {} Try.checked os 14 .any (Rows.sharePlaysSpec.pre6 enc Try.prog Try.f14 Rows.sharePlaysRow.domain false) (Rows.sharePlaysSpec.post enc Try.prog Try.f14 false true false false) := by
  refine law_lifted (C := Try.checked) (tb := 4) own started (by kernel_rfl) Try.func14 (ChangeSpec.witness6 (enc := enc) (C := Try.checked) false ⟨#[], #[.int .i64 0, .slice none 0 0, .slice none 0 0], []⟩ 8 (by kernel_rfl) (by kernel_rfl) (by kernel_rfl) (by kernel_rfl)) rfl Try.underlying4 rfl laid (by kernel_rfl) ?_ ?_
  · intro ds h
    match ds, h with
    | [a0, a1, a2], _ => rfl
  · intro W base args ds ps hval hA hlt hsz
    have hA' : DataW.TrodAll enc Try.prog W 0 (fun _ => true) true [2, 73, 129] args ds ps := hA
    clear hA
    obtain ⟨v0, vs0, d0, ds0, p0, q0, rfl, rfl, rfl, h0, r0⟩ := trodAll_cons hA'
    obtain ⟨v1, vs1, d1, ds1, p1, q1, rfl, rfl, rfl, h1, r1⟩ := trodAll_cons r0
    obtain ⟨v2, vs2, d2, ds2, p2, q2, rfl, rfl, rfl, h2, r2⟩ := trodAll_cons r1
    obtain ⟨rfl, rfl, rfl⟩ := trodAll_nil r2
    obtain ⟨half, rfl, _⟩ := opn_int Try.underlying2 (hval 0 2 v0 rfl rfl) h0
    obtain ⟨a, cap, l, rfl, hs, _⟩ := opn_slice Try.underlying73 cells86 (by decide) (fun fuel cs x h => read_User h) (hval 1 73 v1 rfl rfl) h1
    obtain ⟨sa, scap, xs, rfl, hxs, _⟩ := opn_slice Try.underlying129 cells131 (by decide) (fun fuel cs x h => read_SOp h) (hval 2 129 v2 rfl rfl) h2
    exact sharePlays_s half a cap l hs sa scap xs hxs
theorem joined : joinedFacts Try.prog 14 Try.f14 Rows.sharePlaysSpec Rows.sharePlaysRow = true := by
  unfold joinedFacts
  rw [cutMay, cutLif, cutMk]
  kernel_rfl
theorem over : Rows.sharePlaysRow.holds Try.pinned (OpenSpec.ofChange Rows.sharePlaysSpec) :=
  OpenClaim.holds_of_wide 14 Try.f14 rfl rfl rfl rfl rfl rfl rfl ⟨rfl, rfl, rfl, rfl, rfl⟩ rfl rfl rfl rfl rfl (by kernel_rfl) Try.func14 joined
    (of_decide_eq_true (by kernel_rfl)) (by unfold Func.isWrapper; first | (rw [if_pos (by decide +kernel)]; kernel_rfl) | (rw [if_neg (by decide +kernel)]; exact ⟨rfl, rfl⟩))
    (fun os started H enc _ => lifted os started H enc)
theorem proved : Rows.SharePlaysSaid := over
#print axioms proved
end SharePlaysRow
end Go.Proofs.Yteilocpjikmmdaa
