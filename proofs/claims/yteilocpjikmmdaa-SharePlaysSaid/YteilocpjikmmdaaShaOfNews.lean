/- Which books there are, and their users; no condition. -/
import Derived.Test.YteilocpjikmmdaaShaMade
import Derived.Test.YteilocpjikmmdaaRows
namespace Go.Proofs.Yteilocpjikmmdaa
open Go.Proofs.Yteilocpjikmmdaa.Sym
open Go.RowKit (Below)
set_option linter.unusedVariables false
set_option linter.unusedSimpArgs false
def partsOf (us : List User) : Int := us.foldl (fun s u => s + u.part) 0
theorem partsOf_take {us : List User} {k : Nat} {u : User} (h : us[k]? = some u) : partsOf (us.take (k + 1)) = partsOf (us.take k) + u.part := by
  unfold partsOf; rw [List.take_add_one, h]; simp only [Option.toList_some, List.foldl_append, List.foldl_cons, List.foldl_nil]
theorem parts_fold : ∀ (us : List User) (s : Int), (∀ x ∈ us, 1 ≤ x.part ∧ x.part ≤ 1000) → s + us.length ≤ us.foldl (fun s u => s + u.part) s ∧ us.foldl (fun s u => s + u.part) s ≤ s + 1000 * us.length
  | [], s, _ => by simp
  | x :: us, s, h => by
    have h1 := h x List.mem_cons_self
    have h2 := parts_fold us (s + x.part) fun y hy => h y (List.mem_cons_of_mem _ hy)
    rw [List.foldl_cons, List.length_cons]
    omega
theorem partsOf_bd {us : List User} (h : ∀ x ∈ us, 1 ≤ x.part ∧ x.part ≤ 1000) : us.length ≤ partsOf us ∧ partsOf us ≤ 1000 * us.length := by
  have := parts_fold us 0 h
  unfold partsOf
  omega
def allOf (us : List User) : Int := us.foldl (fun s u => satAdd [s, u.used]) 0
theorem allOf_take {us : List User} {k : Nat} {u : User} (h : us[k]? = some u) : allOf (us.take (k + 1)) = satAdd [allOf (us.take k), u.used] := by
  unfold allOf; rw [List.take_add_one, h]; simp only [Option.toList_some, List.foldl_append, List.foldl_cons, List.foldl_nil]
theorem all_fold : ∀ (us : List User) (s : Int), 0 ≤ s → s ≤ 1152921504606846976 → 0 ≤ us.foldl (fun s u => satAdd [s, u.used]) s ∧ us.foldl (fun s u => satAdd [s, u.used]) s ≤ 1152921504606846976
  | [], s, h1, h2 => ⟨h1, h2⟩
  | x :: us, s, h1, h2 => by have := satAdd_range [s, x.used]; rw [List.foldl_cons]; exact all_fold us _ this.1 this.2
theorem allOf_bd (us : List User) : 0 ≤ allOf us ∧ allOf us ≤ 1152921504606846976 := all_fold us 0 (by omega) (by omega)
def dueOf (us : List User) (x : User) : Int := if allOf us = 0 then (x.part * 1000).tdiv (partsOf us) else max ((x.part * 1000).tdiv (partsOf us) - x.used.tdiv (max ((allOf us + 999).tdiv 1000) 1)) 0
theorem aw_at {us : List User} {id : Int} (h : ∀ x ∈ us, id ≤ x.id) : At us id 0 := ⟨Nat.zero_le _, fun k x hk => absurd hk (Nat.not_lt_zero k), fun k x _ hx => h x (List.mem_of_getElem? hx)⟩
theorem aw32 : AddAll [] [(⟨5, 3, 0⟩ : User), ⟨2, 1, 0⟩] 0 [⟨2, 1, 0⟩, ⟨5, 3, 0⟩] := by
  refine .next (us' := [⟨5, 3, 0⟩]) (.ok (i := 0) (by decide) (by simp) (aw_at (by simp))) (.next (us' := [⟨2, 1, 0⟩, ⟨5, 3, 0⟩]) (.ok (i := 0) (by decide) (by simp) (aw_at (by simp))) .done)
theorem aw_x2 {x : User} (h : x ∈ [(⟨2, 1, 0⟩ : User), ⟨5, 3, 0⟩]) (hi : x.id = 2) : (⟨2, 1, 0⟩ : User) = x := by
  rcases List.mem_cons.1 h with rfl | h
  · rfl
  · rcases List.mem_cons.1 h with rfl | h
    · cases hi
    · cases h
theorem aw_x5 {x : User} (h : x ∈ [(⟨2, 1, 0⟩ : User), ⟨5, 3, 0⟩]) (hi : x.id = 5) : (⟨5, 3, 0⟩ : User) = x := by
  rcases List.mem_cons.1 h with rfl | h
  · cases hi
  · rcases List.mem_cons.1 h with rfl | h
    · rfl
    · cases h
theorem at_tot (us : List User) (id : Int) (hs : Srt us) : ∃ i, At us id i := by
  induction us with
  | nil => exact ⟨0, Nat.le_refl _, fun k x hk => absurd hk (Nat.not_lt_zero k), fun k x _ hx => by simp at hx⟩
  | cons y us ih =>
    have hs' := List.pairwise_cons.1 hs
    by_cases h : y.id < id
    · obtain ⟨i, h1, h2, h3⟩ := ih hs'.2
      refine ⟨i + 1, by simpa using h1, fun k x hk hx => ?_, fun k x hk hx => ?_⟩
      · cases k with
        | zero => have : y = x := by simpa using hx
                  subst this; exact h
        | succ k => exact h2 k x (by omega) (by simpa using hx)
      · cases k with
        | zero => omega
        | succ k => exact h3 k x (by omega) (by simpa using hx)
    · refine ⟨0, Nat.zero_le _, fun k x hk => absurd hk (Nat.not_lt_zero k), fun k x _ hx => ?_⟩
      have := srt_le hs (Nat.zero_le k) (show (y :: us)[0]? = some y from rfl) hx
      omega
theorem AddAll.tot : ∀ (l us : List User), Srt us → ∃ e us', AddAll us l e us'
  | [], us, _ => ⟨_, _, .done⟩
  | u :: l, us, hs => by
    by_cases h1 : URight u
    · by_cases h2 : ∃ x ∈ us, x.id = u.id
      · exact ⟨_, _, .stop (.twice h1 h2) (by decide)⟩
      · obtain ⟨i, hi⟩ := at_tot us u.id hs
        have hn : ∀ x ∈ us, x.id ≠ u.id := fun x hx he => h2 ⟨x, hx, he⟩
        obtain ⟨e, us', k⟩ := AddAll.tot l (insU us i u) (srt_ins hs hi hn)
        exact ⟨_, _, .next (.ok h1 hn hi) k⟩
    · exact ⟨_, _, .stop (.bad h1) (by decide)⟩
theorem cl110 : Callable Try.prog 110 := ⟨Try.f110, Try.func110, by kernel_rfl, by kernel_rfl⟩
theorem cl111 : Callable Try.prog 111 := ⟨Try.f111, Try.func111, by kernel_rfl, by kernel_rfl⟩
theorem cl126 : Callable Try.prog 126 := ⟨Try.f126, Try.func126, by kernel_rfl, by kernel_rfl⟩
theorem cl48 : Callable Try.prog 48 := ⟨Try.f48, Try.func48, by kernel_rfl, by kernel_rfl⟩
theorem cl49 : Callable Try.prog 49 := ⟨Try.f49, Try.func49, by kernel_rfl, by kernel_rfl⟩
theorem cl50 : Callable Try.prog 50 := ⟨Try.f50, Try.func50, by kernel_rfl, by kernel_rfl⟩
theorem cl51 : Callable Try.prog 51 := ⟨Try.f51, Try.func51, by kernel_rfl, by kernel_rfl⟩
theorem cl52 : Callable Try.prog 52 := ⟨Try.f52, Try.func52, by kernel_rfl, by kernel_rfl⟩
theorem cl53 : Callable Try.prog 53 := ⟨Try.f53, Try.func53, by kernel_rfl, by kernel_rfl⟩
theorem cl84 : Callable Try.prog 84 := ⟨Try.f84, Try.func84, by kernel_rfl, by kernel_rfl⟩
theorem cl86 : Callable Try.prog 86 := ⟨Try.f86, Try.func86, by kernel_rfl, by kernel_rfl⟩
theorem fd141_1 : fldOf Try.prog 141 1 = some (1, 2, 1) := by kernel_rfl
theorem fd141_2 : fldOf Try.prog 141 2 = some (2, 2, 1) := by kernel_rfl
theorem fl86 : flds Try.prog 86 = some [(0, 1), (1, 1), (2, 1)] := by kernel_rfl
theorem ks86 : kindsOf Try.prog 86 = some [.int, .int, .int] := by kernel_rfl
section
variable {W0 : World}
set_option maxRecDepth 100000 in
set_option maxHeartbeats 400000 in
theorem unone_s (p : Nat) (sl : Value) (half now : Int) (H : SHeap) (hc : Cells W0 H p 0 (bkC sl half now)) (hh : half ≠ 0) : AC Try.prog W0 110 [.pointer (some ⟨p, 0, none⟩)] H (fun v H' => v = .bool false ∧ H' = H) := by
  refine ac_of Try.func110 rfl rfl rfl ?_
  refine aw_seq_region ?_
  refine sr_x rfl (wtd_none rfl) rfl (Rd.x (x_assign rfl)) ?_
  refine sr_nil ?_
  refine aw_keep (keep_cons (t := 0) rfl (keep_cons (t := 2) rfl keep_nil)) ?_
  refine aw_seq_region ?_
  refine sr_x rfl (wtd_none rfl) rfl (Rd.x (x_move rfl)) ?_
  refine sr_x rfl (wtd_none rfl) rfl (Rd.x (x_eqnil Try.underlying75 rfl rfl)) ?_
  refine sr_x rfl (wtd_none rfl) rfl (Rd.x (x_move rfl)) ?_
  refine sr_x rfl (wtd_yes rfl rfl rfl) rfl (Rd.x (x_move rfl)) ?_
  refine sr_x rfl (wtd_yes rfl rfl rfl) rfl (Rd.x (x_nilCheck rfl)) ?_
  refine sr_x rfl (wtd_yes rfl rfl rfl) rfl (Rd.x (x_fieldAddr fd141_1 rfl)) ?_
  refine sr_x rfl (wtd_yes rfl rfl rfl) rfl (Rd.x (x_load ag2 rfl (cells_get (Cells.mono hc (by repeat (first | exact Sub.refl _ | apply Sub.drop))) 1 rfl))) ?_
  refine sr_cmp rfl (wtd_yes rfl rfl rfl) rfl (Rd.x (x_eq rfl rfl)) (fun h1 => absurd h1 (by first | omega | decide)) (fun h1 => ?_)
  refine sr_x rfl (wtd_none rfl) rfl (Rd.x (x_pick_f rfl rfl rfl)) ?_
  refine sr_x rfl (wtd_none rfl) rfl (Rd.x (x_assign rfl)) ?_
  refine sr_nil ?_
  refine aw_keep (keep_cons (t := 2) rfl keep_nil) ?_
  refine aw_ret ?_
  show ∃ v H2, ResV _ _ _ _ _ _ v ∧ Sub H2 _ ∧ _
  exact ⟨_, H, resV rfl (.cons rfl .nil), (by repeat (first | exact Sub.refl _ | apply Sub.drop)), ⟨rfl, rfl⟩⟩
set_option maxRecDepth 100000 in
set_option maxHeartbeats 400000 in
theorem uclone_s (a : Option Addr) (cap : Nat) (xs : List User) (H : SHeap) (hs : SlV W0 H 3 User.cells a cap xs) (hjl : xs.length ≤ 1000000) : AC Try.prog W0 111 [.slice a xs.length cap] H (fun v H' => ∃ E2, (∃ a2 cap2, OwnVec 3 86 (.slice a2 xs.length cap2) xs.length (xs.flatMap User.cells) E2 ∧ v = .slice a2 xs.length cap2) ∧ H' = E2 ++ H) := by
  have hfl := flat_len (n := 3) (enc := User.cells) (fun _ => rfl) xs
  have hfn : a.isNone = true → xs.length = 0 := fun h => by rcases hs.flat (fun _ => rfl) (by omega) with ⟨q, _⟩ | ⟨b, off, rfl, _⟩ <;> first | exact q | cases h
  refine ac_of Try.func111 rfl rfl rfl ?_
  refine aw_seq_region ?_
  refine sr_x rfl (wtd_none rfl) rfl (Rd.x (x_assign rfl)) ?_
  refine sr_nil ?_
  refine aw_keep (keep_cons (t := 0) rfl (keep_cons (t := 2) rfl keep_nil)) ?_
  refine aw_seq ?_
  refine aw_seq_region ?_
  refine sr_x rfl (wtd_none rfl) rfl (Rd.x (x_move rfl)) ?_
  refine sr_x rfl (wtd_none rfl) rfl (Rd.x (x_eqnils Try.underlying73 rfl rfl)) ?_
  refine sr_nil ?_
  refine aw_keep (keep_cons (t := 0) rfl (keep_cons (t := 2) rfl (keep_cons (t := 4) rfl keep_nil))) ?_
  refine aw_cond rfl (fun hb1 => ?_) (fun hb1 => ?_)
  · refine aw_seq_region ?_
    refine sr_x rfl (wtd_none rfl) rfl (Rd.x (x_assign rfl)) ?_
    refine sr_nil ?_
    refine aw_keep (keep_cons (t := 0) rfl (keep_cons (t := 2) rfl keep_nil)) ?_
    refine aw_ret ?_
    show ∃ v H2, ResV _ _ _ _ _ _ v ∧ Sub H2 _ ∧ _
    first | (rw [Nat.zero_add, List.nil_append] at hV7; obtain ⟨a7, cap7, rfl⟩ := hV7.isSl; exact ⟨_, E7 ++ H, resV rfl (.cons rfl .nil), (Sub.refl _), E7, ⟨a7, cap7, hV7, rfl⟩, rfl⟩) | (have hz := hfn (by assumption); have hj0 : xs = [] := List.length_eq_zero_iff.1 hz; subst hj0; exact ⟨_, [] ++ H, resV rfl (.cons rfl .nil), (Sub.refl _), [], ⟨none, 0, .nil, rfl⟩, rfl⟩)
  · refine aw_skip ?_
    show AW _ _ _ _ _ _ _
    refine aw_seq_region ?_
    refine sr_new rfl (wtd_none rfl) rfl (x_buildSlice0 Try.underlying73 sz86 rfl) ?_
    intro r3_0 hr3_0 gr3_0
    refine sr_x rfl (wtd_none rfl) rfl (Rd.x (x_move rfl)) ?_
    refine sr_d rfl (wtd_none rfl) rfl (opS_append (G := H) (N := xs.flatMap User.cells) (m := xs.length) Try.underlying73 sz86 zr86 rfl by86 rfl rfl (OwnVec.mk (r := r3_0) (n := 0) (cap := 0) (L := []) (post := []) rfl rfl (by omega) (by omega)) (by repeat (first | exact Sub.refl _ | refine Sub.take (by repeat (first | exact Take.here | apply Take.there | apply Take.app)) ?_ | refine Sub.takeE (by repeat (first | exact TakeE.here | apply TakeE.there | apply TakeE.app)) ?_ | exact Sub.nil _ | apply Sub.drop | apply Sub.dropE)) (((hs.mono (by repeat (first | exact Sub.refl _ | apply Sub.drop))).flat (fun _ => rfl) (by omega))) (hfl) (all_oneU xs) (by omega) (by omega)) ?_
    rintro v7 _ ⟨E7, hV7, rfl⟩
    refine sr_x rfl (wtd_none rfl) rfl (Rd.x (x_assign rfl)) ?_
    refine sr_nil ?_
    refine aw_keep (keep_cons (t := 2) rfl keep_nil) ?_
    refine aw_ret ?_
    show ∃ v H2, ResV _ _ _ _ _ _ v ∧ Sub H2 _ ∧ _
    first | (rw [Nat.zero_add, List.nil_append] at hV7; obtain ⟨a7, cap7, rfl⟩ := hV7.isSl; exact ⟨_, E7 ++ H, resV rfl (.cons rfl .nil), (Sub.refl _), E7, ⟨a7, cap7, hV7, rfl⟩, rfl⟩) | (have hz := hfn (by assumption); have hj0 : xs = [] := List.length_eq_zero_iff.1 hz; subst hj0; exact ⟨_, [] ++ H, resV rfl (.cons rfl .nil), (Sub.refl _), [], ⟨none, 0, .nil, rfl⟩, rfl⟩)
set_option maxRecDepth 100000 in
set_option maxHeartbeats 400000 in
theorem users_s (p : Nat) (a : Option Addr) (cap : Nat) (us : List User) (half now : Int) (H : SHeap) (hc : Cells W0 H p 0 (bkC (.slice a us.length cap) half now)) (hh : half ≠ 0) (hs : SlV W0 H 3 User.cells a cap us) (hn : us.length ≤ 1000) : AC Try.prog W0 52 [.pointer (some ⟨p, 0, none⟩)] H (fun v H' => ∃ E2, (∃ a2 cap2, OwnVec 3 86 (.slice a2 us.length cap2) us.length (us.flatMap User.cells) E2 ∧ v = .slice a2 us.length cap2) ∧ H' = E2 ++ H) := by
  refine ac_of Try.func52 rfl rfl rfl ?_
  refine aw_seq_region ?_
  refine sr_x rfl (wtd_none rfl) rfl (Rd.x (x_assign rfl)) ?_
  refine sr_nil ?_
  refine aw_keep (keep_cons (t := 0) rfl (keep_cons (t := 2) rfl keep_nil)) ?_
  refine aw_seq ?_
  refine aw_seq_region ?_
  refine sr_x rfl (wtd_none rfl) rfl (Rd.x (x_move rfl)) ?_
  refine sr_d rfl (wtd_none rfl) rfl (opS_call rfl rfl rfl rfl cl110 (unone_s p _ half now _ (Cells.mono hc (by repeat (first | exact Sub.refl _ | apply Sub.drop))) hh)) ?_
  rintro _ H ⟨rfl, rfl⟩
  refine sr_nil ?_
  refine aw_keep (keep_cons (t := 0) rfl (keep_cons (t := 2) rfl (keep_cons (t := 4) rfl keep_nil))) ?_
  refine aw_false rfl ?_
  refine aw_skip ?_
  show AW _ _ _ _ _ _ _
  refine aw_seq_region ?_
  refine sr_x rfl (wtd_none rfl) rfl (Rd.x (x_move rfl)) ?_
  refine sr_x rfl (wtd_none rfl) rfl (Rd.x (x_nilCheck rfl)) ?_
  refine sr_x rfl (wtd_none rfl) rfl (Rd.x (x_fieldAddr fd141_0 rfl)) ?_
  refine sr_x rfl (wtd_none rfl) rfl (Rd.x (x_load ag73 rfl (cells_get (Cells.mono hc (by repeat (first | exact Sub.refl _ | apply Sub.drop))) 0 rfl))) ?_
  refine sr_d rfl (wtd_none rfl) rfl (opS_call rfl rfl rfl rfl cl111 (uclone_s a cap us H (hs.mono (by repeat (first | exact Sub.refl _ | apply Sub.drop))) (by omega))) ?_
  rintro _ _ ⟨E2, ⟨a2, cap2, V2, rfl⟩, rfl⟩
  refine sr_x rfl (wtd_none rfl) rfl (Rd.x (x_assign rfl)) ?_
  refine sr_nil ?_
  refine aw_keep (keep_cons (t := 2) rfl keep_nil) ?_
  refine aw_ret ?_
  show ∃ v H2, ResV _ _ _ _ _ _ v ∧ Sub H2 _ ∧ _
  exact ⟨_, (E2 ++ H), resV rfl (.cons rfl .nil), (by repeat (first | exact Sub.refl _ | apply Sub.drop)), ⟨E2, ⟨a2, cap2, V2, rfl⟩, rfl⟩⟩
set_option maxRecDepth 100000 in
set_option maxHeartbeats 400000 in
theorem unow_s (p : Nat) (a : Option Addr) (cap : Nat) (us : List User) (half now : Int) (H : SHeap) (hc : Cells W0 H p 0 (bkC (.slice a us.length cap) half now)) (hh : half ≠ 0) : AC Try.prog W0 53 [.pointer (some ⟨p, 0, none⟩)] H (fun v H' => v = .int .i64 now ∧ H' = H) := by
  refine ac_of Try.func53 rfl rfl rfl ?_
  refine aw_seq_region ?_
  refine sr_x rfl (wtd_none rfl) rfl (Rd.x (x_assign rfl)) ?_
  refine sr_nil ?_
  refine aw_keep (keep_cons (t := 0) rfl (keep_cons (t := 2) rfl keep_nil)) ?_
  refine aw_seq ?_
  refine aw_seq_region ?_
  refine sr_x rfl (wtd_none rfl) rfl (Rd.x (x_move rfl)) ?_
  refine sr_d rfl (wtd_none rfl) rfl (opS_call rfl rfl rfl rfl cl110 (unone_s p _ half now _ (Cells.mono hc (by repeat (first | exact Sub.refl _ | apply Sub.drop))) hh)) ?_
  rintro _ H ⟨rfl, rfl⟩
  refine sr_nil ?_
  refine aw_keep (keep_cons (t := 0) rfl (keep_cons (t := 2) rfl (keep_cons (t := 4) rfl keep_nil))) ?_
  refine aw_false rfl ?_
  refine aw_skip ?_
  show AW _ _ _ _ _ _ _
  refine aw_seq_region ?_
  refine sr_x rfl (wtd_none rfl) rfl (Rd.x (x_move rfl)) ?_
  refine sr_x rfl (wtd_none rfl) rfl (Rd.x (x_nilCheck rfl)) ?_
  refine sr_x rfl (wtd_none rfl) rfl (Rd.x (x_fieldAddr fd141_2 rfl)) ?_
  refine sr_x rfl (wtd_none rfl) rfl (Rd.x (x_load ag2 rfl (cells_get (Cells.mono hc (by repeat (first | exact Sub.refl _ | apply Sub.drop))) 2 rfl))) ?_
  refine sr_x rfl (wtd_none rfl) rfl (Rd.x (x_assign rfl)) ?_
  refine sr_nil ?_
  refine aw_keep (keep_cons (t := 2) rfl keep_nil) ?_
  refine aw_ret ?_
  show ∃ v H2, ResV _ _ _ _ _ _ v ∧ Sub H2 _ ∧ _
  exact ⟨_, H, resV rfl (.cons rfl .nil), (by repeat (first | exact Sub.refl _ | apply Sub.drop)), ⟨rfl, rfl⟩⟩
set_option maxRecDepth 100000 in
set_option maxHeartbeats 400000 in
theorem parts_s (p : Nat) (a : Option Addr) (cap : Nat) (us : List User) (half now : Int) (H : SHeap) (hc : Cells W0 H p 0 (bkC (.slice a us.length cap) half now)) (hh : half ≠ 0) (hs : SlV W0 H 3 User.cells a cap us) (hn : us.length ≤ 1000) (hg : ∀ x ∈ us, 1 ≤ x.part ∧ x.part ≤ 1000) : AC Try.prog W0 126 [.pointer (some ⟨p, 0, none⟩)] H (fun v H' => v = .int .i64 (partsOf us) ∧ H' = H) := by
  have hle := hs.le
  have hcb := hs.capb
  refine ac_of Try.func126 rfl rfl rfl ?_
  refine aw_seq_region ?_
  refine sr_x rfl (wtd_none rfl) rfl (Rd.x (x_assign rfl)) ?_
  refine sr_nil ?_
  refine aw_keep (keep_cons (t := 0) rfl (keep_cons (t := 2) rfl keep_nil)) ?_
  refine aw_seq_region ?_
  refine sr_x rfl (wtd_none rfl) rfl (Rd.x (x_assign rfl)) ?_
  refine sr_nil ?_
  refine aw_keep (keep_cons (t := 0) rfl (keep_cons (t := 2) rfl (keep_cons (t := 3) rfl keep_nil))) ?_
  refine aw_seq ?_
  refine aw_seq_region ?_
  refine sr_x rfl (wtd_none rfl) rfl (Rd.x (x_move rfl)) ?_
  refine sr_x rfl (wtd_none rfl) rfl (Rd.x (x_nilCheck rfl)) ?_
  refine sr_x rfl (wtd_none rfl) rfl (Rd.x (x_fieldAddr fd141_0 rfl)) ?_
  refine sr_x rfl (wtd_none rfl) rfl (Rd.x (x_load ag73 rfl (cells_get (Cells.mono hc (by repeat (first | exact Sub.refl _ | apply Sub.drop))) 0 rfl))) ?_
  refine sr_x rfl (wtd_none rfl) rfl (Rd.x (x_lenSlice Try.underlying73 rfl)) ?_
  refine sr_x rfl (wtd_none rfl) rfl (Rd.x (x_move rfl)) ?_
  refine sr_nil ?_
  refine aw_keep (keep_cons (t := 2) rfl (keep_cons (t := 3) rfl (keep_cons (t := 9) rfl (keep_cons (t := 10) rfl (keep_cons (t := 11) rfl keep_nil))))) ?_
  refine aw_block ?_
  refine aw_loop (ι := Nat) (fun k => k ≤ us.length) (fun k => [(3, .int .i64 (partsOf (us.take k))), (9, .slice a us.length cap), (10, .int .i64 us.length), (11, .int .i64 k)]) (fun _ => H) (fun k => us.length - k) 0 (Nat.zero_le _) (by (repeat (first | exact keep_nil | refine keep_cons rfl ?_)); first | done | fail) (by repeat (first | exact Sub.refl _ | apply Sub.drop)) ?_
  intro k hk
  have hbd := partsOf_bd (us := us.take k) (fun x hx => hg x (List.mem_of_mem_take hx))
  rw [List.length_take] at hbd
  refine aw_seq_region ?_
  refine sr_cmp rfl (wtd_none rfl) rfl (Rd.x (x_lt rfl rfl)) (fun h1 => ?_) (fun h1 => ?_)
  · refine sr_nil ?_
    refine aw_keep (keep_cons (t := 3) rfl (keep_cons (t := 9) rfl (keep_cons (t := 10) rfl (keep_cons (t := 11) rfl (keep_cons (t := 12) rfl keep_nil))))) ?_
    refine aw_seq ?_
    refine aw_true rfl ?_
    refine aw_skip ?_
    show AW _ _ _ _ _ _ _
    refine aw_seq ?_
    refine aw_block ?_
    refine aw_seq_region ?_
    obtain ⟨u, hu⟩ := get_ex (show k < us.length by omega)
    obtain ⟨bu, ou, hau, hcu⟩ := hs.at_ k _ hu
    refine sr_x rfl (wtd_none rfl) rfl (Rd.x (x_indexAddrN k Try.underlying73 sz86 rfl hau rfl (by omega) (by omega))) ?_
    refine sr_x rfl (wtd_none rfl) rfl (Rd.x (x_loadN ag86 sz86 rfl (Cells.mono hcu (by repeat (first | exact Sub.refl _ | apply Sub.drop))) rfl)) ?_
    refine sr_new rfl (wtd_none rfl) rfl (x_alloc zr86 rfl) ?_
    intro r4_2 hr4_2 gr4_2
    refine sr_x0 rfl (wtd_none rfl) (x_store sz86 rfl rfl rfl rfl rfl (by repeat (first | exact Repl.here | apply Repl.there | apply Repl.app)) (by repeat (first | exact Spl.done | exact Spl.all rfl | apply Spl.put | apply Spl.skip))) ?_
    refine sr_nil ?_
    refine aw_keep (keep_cons (t := 3) rfl (keep_cons (t := 5) rfl (keep_cons (t := 9) rfl (keep_cons (t := 10) rfl (keep_cons (t := 11) rfl (keep_cons (t := 12) rfl (keep_cons (t := 13) rfl (keep_cons (t := 14) rfl keep_nil)))))))) ?_
    refine aw_region ?_
    have hgu := hg u (List.mem_of_getElem? hu)
    refine sr_x rfl (wtd_none rfl) rfl (Rd.x (x_move rfl)) ?_
    refine sr_x rfl (wtd_none rfl) rfl (Rd.x (x_fieldAddr fd86_1 rfl)) ?_
    refine sr_x rfl (wtd_none rfl) rfl (Rd.x (x_load ag3 rfl (cells_ext (by repeat (first | exact List.mem_cons_self | apply List.mem_cons_of_mem | apply List.mem_append_right)) (by repeat (first | exact Ext.all _ | exact Ext.done | apply Ext.take | apply Ext.skip))))) ?_
    refine sr_x rfl (wtd_none rfl) rfl (Rd.x (x_add' rfl rfl (i64w (by omega) (by omega)))) ?_
    refine sr_x rfl (wtd_none rfl) rfl (Rd.x (x_assign rfl)) ?_
    refine sr_nil ?_
    show AW _ _ _ _ _ _ _
    refine aw_region ?_
    refine sr_x rfl (wtd_none rfl) rfl (Rd.x (x_add' rfl rfl (i64w (by omega) (by omega)))) ?_
    refine sr_x rfl (wtd_none rfl) rfl (Rd.x (x_move rfl)) ?_
    refine sr_nil ?_
    show ∃ s', _ ∧ _ ∧ _ ∧ _
    exact ⟨k + 1, by omega, by omega, (by rw [partsOf_take hu]; exact (by (repeat (first | exact keep_nil | refine keep_cons rfl ?_)); first | done | fail)), (by repeat (first | exact Sub.refl _ | apply Sub.drop))⟩
  · refine sr_nil ?_
    refine aw_keep (keep_cons (t := 3) rfl (keep_cons (t := 9) rfl (keep_cons (t := 10) rfl (keep_cons (t := 11) rfl (keep_cons (t := 12) rfl keep_nil))))) ?_
    refine aw_seq ?_
    refine aw_false rfl ?_
    refine aw_exit ?_
    show AW _ _ _ _ _ _ _
    refine aw_seq_region ?_
    refine sr_x rfl (wtd_none rfl) rfl (Rd.x (x_move rfl)) ?_
    refine sr_x rfl (wtd_none rfl) rfl (Rd.x (x_assign rfl)) ?_
    refine sr_nil ?_
    refine aw_keep (keep_cons (t := 2) rfl keep_nil) ?_
    refine aw_ret ?_
    show ∃ v H2, ResV _ _ _ _ _ _ v ∧ Sub H2 _ ∧ _
    exact ⟨_, H, resV rfl (.cons rfl .nil), (by repeat (first | exact Sub.refl _ | apply Sub.drop)), ⟨by rw [List.take_of_length_le (by omega)]; rfl, rfl⟩⟩
set_option maxRecDepth 100000 in
set_option maxHeartbeats 400000 in
theorem uall_s (p : Nat) (a : Option Addr) (cap : Nat) (us : List User) (half now : Int) (H : SHeap) (hc : Cells W0 H p 0 (bkC (.slice a us.length cap) half now)) (hh : half ≠ 0) (hs : SlV W0 H 3 User.cells a cap us) (hn : us.length ≤ 1000) : AC Try.prog W0 84 [.pointer (some ⟨p, 0, none⟩)] H (fun v H' => v = .int .i64 (allOf us) ∧ H' = H) := by
  have hle := hs.le
  have hcb := hs.capb
  refine ac_of Try.func84 rfl rfl rfl ?_
  refine aw_seq_region ?_
  refine sr_x rfl (wtd_none rfl) rfl (Rd.x (x_assign rfl)) ?_
  refine sr_nil ?_
  refine aw_keep (keep_cons (t := 0) rfl (keep_cons (t := 2) rfl keep_nil)) ?_
  refine aw_seq ?_
  refine aw_seq_region ?_
  refine sr_x rfl (wtd_none rfl) rfl (Rd.x (x_move rfl)) ?_
  refine sr_d rfl (wtd_none rfl) rfl (opS_call rfl rfl rfl rfl cl110 (unone_s p _ half now _ (Cells.mono hc (by repeat (first | exact Sub.refl _ | apply Sub.drop))) hh)) ?_
  rintro _ H ⟨rfl, rfl⟩
  refine sr_nil ?_
  refine aw_keep (keep_cons (t := 0) rfl (keep_cons (t := 2) rfl (keep_cons (t := 7) rfl keep_nil))) ?_
  refine aw_false rfl ?_
  refine aw_skip ?_
  show AW _ _ _ _ _ _ _
  refine aw_seq_region ?_
  refine sr_x rfl (wtd_none rfl) rfl (Rd.x (x_assign rfl)) ?_
  refine sr_nil ?_
  refine aw_keep (keep_cons (t := 0) rfl (keep_cons (t := 2) rfl (keep_cons (t := 3) rfl keep_nil))) ?_
  refine aw_seq ?_
  refine aw_seq_region ?_
  refine sr_x rfl (wtd_none rfl) rfl (Rd.x (x_move rfl)) ?_
  refine sr_x rfl (wtd_none rfl) rfl (Rd.x (x_nilCheck rfl)) ?_
  refine sr_x rfl (wtd_none rfl) rfl (Rd.x (x_fieldAddr fd141_0 rfl)) ?_
  refine sr_x rfl (wtd_none rfl) rfl (Rd.x (x_load ag73 rfl (cells_get (Cells.mono hc (by repeat (first | exact Sub.refl _ | apply Sub.drop))) 0 rfl))) ?_
  refine sr_x rfl (wtd_none rfl) rfl (Rd.x (x_lenSlice Try.underlying73 rfl)) ?_
  refine sr_x rfl (wtd_none rfl) rfl (Rd.x (x_move rfl)) ?_
  refine sr_nil ?_
  refine aw_keep (keep_cons (t := 2) rfl (keep_cons (t := 3) rfl (keep_cons (t := 11) rfl (keep_cons (t := 12) rfl (keep_cons (t := 13) rfl keep_nil))))) ?_
  refine aw_block ?_
  refine aw_loop (ι := Nat) (fun k => k ≤ us.length) (fun k => [(3, .int .i64 (allOf (us.take k))), (11, .slice a us.length cap), (12, .int .i64 us.length), (13, .int .i64 k)]) (fun _ => H) (fun k => us.length - k) 0 (Nat.zero_le _) (by (repeat (first | exact keep_nil | refine keep_cons rfl ?_)); first | done | fail) (by repeat (first | exact Sub.refl _ | apply Sub.drop)) ?_
  intro k hk
  refine aw_seq_region ?_
  refine sr_cmp rfl (wtd_none rfl) rfl (Rd.x (x_lt rfl rfl)) (fun h1 => ?_) (fun h1 => ?_)
  · refine sr_nil ?_
    refine aw_keep (keep_cons (t := 3) rfl (keep_cons (t := 11) rfl (keep_cons (t := 12) rfl (keep_cons (t := 13) rfl (keep_cons (t := 14) rfl keep_nil))))) ?_
    refine aw_seq ?_
    refine aw_true rfl ?_
    refine aw_skip ?_
    show AW _ _ _ _ _ _ _
    refine aw_seq ?_
    refine aw_block ?_
    refine aw_seq_region ?_
    obtain ⟨u, hu⟩ := get_ex (show k < us.length by omega)
    obtain ⟨bu, ou, hau, hcu⟩ := hs.at_ k _ hu
    refine sr_x rfl (wtd_none rfl) rfl (Rd.x (x_indexAddrN k Try.underlying73 sz86 rfl hau rfl (by omega) (by omega))) ?_
    refine sr_x rfl (wtd_none rfl) rfl (Rd.x (x_loadN ag86 sz86 rfl (Cells.mono hcu (by repeat (first | exact Sub.refl _ | apply Sub.drop))) rfl)) ?_
    refine sr_new rfl (wtd_none rfl) rfl (x_alloc zr86 rfl) ?_
    intro r6_2 hr6_2 gr6_2
    refine sr_x0 rfl (wtd_none rfl) (x_store sz86 rfl rfl rfl rfl rfl (by repeat (first | exact Repl.here | apply Repl.there | apply Repl.app)) (by repeat (first | exact Spl.done | exact Spl.all rfl | apply Spl.put | apply Spl.skip))) ?_
    refine sr_nil ?_
    refine aw_keep (keep_cons (t := 3) rfl (keep_cons (t := 5) rfl (keep_cons (t := 11) rfl (keep_cons (t := 12) rfl (keep_cons (t := 13) rfl (keep_cons (t := 14) rfl (keep_cons (t := 15) rfl (keep_cons (t := 16) rfl keep_nil)))))))) ?_
    refine aw_region ?_
    refine sr_x rfl (wtd_none rfl) rfl (Rd.x (x_move rfl)) ?_
    refine sr_x rfl (wtd_none rfl) rfl (Rd.x (x_fieldAddr fd86_2 rfl)) ?_
    refine sr_x rfl (wtd_none rfl) rfl (Rd.x (x_load ag2 rfl (cells_ext (by repeat (first | exact List.mem_cons_self | apply List.mem_cons_of_mem | apply List.mem_append_right)) (by repeat (first | exact Ext.all _ | exact Ext.done | apply Ext.take | apply Ext.skip))))) ?_
    refine sr_new rfl (wtd_none rfl) rfl (x_buildSlice Try.underlying178 sz2 zr2 rfl rfl rfl rfl (by repeat (first | exact Parts.nil | (apply Parts.cons; rfl))) (by repeat (first | exact Fill.done | (apply Fill.part; rfl; rfl; rfl; focus (repeat (first | exact Spl.done | exact Spl.all rfl | apply Spl.put | apply Spl.skip)))))) ?_
    intro r7_3 hr7_3 gr7_3
    refine sr_d rfl (wtd_none rfl) rfl (opS_call rfl rfl rfl rfl cl59 (satAdd_s _ 2 [_, _] _ rfl (by omega) (cells_ext (by repeat (first | exact List.mem_cons_self | apply List.mem_cons_of_mem | apply List.mem_append_right)) (by repeat (first | exact Ext.all _ | exact Ext.done | apply Ext.take | apply Ext.skip))))) ?_
    rintro _ _ ⟨rfl, rfl⟩
    refine sr_x rfl (wtd_none rfl) rfl (Rd.x (x_assign rfl)) ?_
    refine sr_nil ?_
    show AW _ _ _ _ _ _ _
    refine aw_region ?_
    refine sr_x rfl (wtd_none rfl) rfl (Rd.x (x_add' rfl rfl (i64w (by omega) (by omega)))) ?_
    refine sr_x rfl (wtd_none rfl) rfl (Rd.x (x_move rfl)) ?_
    refine sr_nil ?_
    show ∃ s', _ ∧ _ ∧ _ ∧ _
    exact ⟨k + 1, by omega, by omega, (by rw [allOf_take hu]; exact (by (repeat (first | exact keep_nil | refine keep_cons rfl ?_)); first | done | fail)), (by repeat (first | exact Sub.refl _ | apply Sub.drop))⟩
  · refine sr_nil ?_
    refine aw_keep (keep_cons (t := 3) rfl (keep_cons (t := 11) rfl (keep_cons (t := 12) rfl (keep_cons (t := 13) rfl (keep_cons (t := 14) rfl keep_nil))))) ?_
    refine aw_seq ?_
    refine aw_false rfl ?_
    refine aw_exit ?_
    show AW _ _ _ _ _ _ _
    refine aw_seq_region ?_
    refine sr_x rfl (wtd_none rfl) rfl (Rd.x (x_move rfl)) ?_
    refine sr_x rfl (wtd_none rfl) rfl (Rd.x (x_assign rfl)) ?_
    refine sr_nil ?_
    refine aw_keep (keep_cons (t := 2) rfl keep_nil) ?_
    refine aw_ret ?_
    show ∃ v H2, ResV _ _ _ _ _ _ v ∧ Sub H2 _ ∧ _
    exact ⟨_, H, resV rfl (.cons rfl .nil), (by repeat (first | exact Sub.refl _ | apply Sub.drop)), ⟨by rw [List.take_of_length_le (by omega)]; rfl, rfl⟩⟩
set_option maxRecDepth 100000 in
set_option maxHeartbeats 400000 in
theorem due_s (p : Nat) (a : Option Addr) (cap : Nat) (us : List User) (half now : Int) (H : SHeap) (hc : Cells W0 H p 0 (bkC (.slice a us.length cap) half now)) (hh : half ≠ 0) (hs : SlV W0 H 3 User.cells a cap us) (hn : us.length ≤ 1000) (hsrt : Srt us) (hg : ∀ x ∈ us, URight x) (id : Int) : AC Try.prog W0 86 [.pointer (some ⟨p, 0, none⟩), .int .i64 id] H (fun v H' => (((¬ ∃ x ∈ us, x.id = id) ∧ v = .tuple #[.int .i64 0, .int .i64 7]) ∨ (∃ x ∈ us, x.id = id ∧ v = .tuple #[.int .i64 (dueOf us x), .int .i64 0])) ∧ H' = H) := by
  have hle := hs.le
  have hcb := hs.capb
  have hpb := partsOf_bd (us := us) (fun x hx => (hg x hx).2.1)
  have hab := allOf_bd us
  refine ac_of Try.func86 rfl rfl rfl ?_
  refine aw_seq_region ?_
  refine sr_x rfl (wtd_none rfl) rfl (Rd.x (x_assign rfl)) ?_
  refine sr_x rfl (wtd_none rfl) rfl (Rd.x (x_assign rfl)) ?_
  refine sr_nil ?_
  refine aw_keep (keep_cons (t := 0) rfl (keep_cons (t := 1) rfl (keep_cons (t := 4) rfl (keep_cons (t := 5) rfl keep_nil)))) ?_
  refine aw_seq ?_
  refine aw_seq_region ?_
  refine sr_x rfl (wtd_none rfl) rfl (Rd.x (x_move rfl)) ?_
  refine sr_d rfl (wtd_none rfl) rfl (opS_call rfl rfl rfl rfl cl110 (unone_s p _ half now _ (Cells.mono hc (by repeat (first | exact Sub.refl _ | apply Sub.drop))) hh)) ?_
  rintro _ H ⟨rfl, rfl⟩
  refine sr_nil ?_
  refine aw_keep (keep_cons (t := 0) rfl (keep_cons (t := 1) rfl (keep_cons (t := 4) rfl (keep_cons (t := 5) rfl (keep_cons (t := 12) rfl keep_nil))))) ?_
  refine aw_false rfl ?_
  refine aw_skip ?_
  show AW _ _ _ _ _ _ _
  refine aw_seq_region ?_
  refine sr_x rfl (wtd_none rfl) rfl (Rd.x (x_move rfl)) ?_
  refine sr_x rfl (wtd_none rfl) rfl (Rd.x (x_move rfl)) ?_
  refine sr_d rfl (wtd_none rfl) rfl (opS_call rfl rfl rfl rfl cl107 (ufind_s p a cap us half now id _ (Cells.mono hc (by repeat (first | exact Sub.refl _ | apply Sub.drop))) (hs.mono (by repeat (first | exact Sub.refl _ | apply Sub.drop))) hsrt (by omega))) ?_
  rintro _ H ⟨⟨i, ok, rfl, hat, hok⟩, rfl⟩
  cases ok
  · refine sr_x rfl (wtd_none rfl) rfl (Rd.x (x_move rfl)) ?_
    refine sr_x rfl (wtd_none rfl) rfl (Rd.x (x_extract rfl rfl)) ?_
    refine sr_x rfl (wtd_none rfl) rfl (Rd.x (x_extract rfl rfl)) ?_
    refine sr_x rfl (wtd_none rfl) rfl (Rd.x (x_assign rfl)) ?_
    refine sr_x rfl (wtd_none rfl) rfl (Rd.x (x_assign rfl)) ?_
    refine sr_nil ?_
    refine aw_keep (keep_cons (t := 0) rfl (keep_cons (t := 4) rfl (keep_cons (t := 5) rfl (keep_cons (t := 6) rfl (keep_cons (t := 7) rfl keep_nil))))) ?_
    refine aw_seq ?_
    refine aw_seq_region ?_
    refine sr_x rfl (wtd_none rfl) rfl (Rd.x (x_move rfl)) ?_
    refine sr_x rfl (wtd_none rfl) rfl (Rd.x (x_not rfl)) ?_
    refine sr_nil ?_
    refine aw_keep (keep_cons (t := 0) rfl (keep_cons (t := 4) rfl (keep_cons (t := 5) rfl (keep_cons (t := 6) rfl (keep_cons (t := 20) rfl keep_nil))))) ?_
    refine aw_true rfl ?_
    refine aw_seq_region ?_
    refine sr_x rfl (wtd_none rfl) rfl (Rd.x (x_assign rfl)) ?_
    refine sr_x rfl (wtd_none rfl) rfl (Rd.x (x_assign rfl)) ?_
    refine sr_nil ?_
    refine aw_keep (keep_cons (t := 0) rfl (keep_cons (t := 4) rfl (keep_cons (t := 5) rfl (keep_cons (t := 6) rfl keep_nil)))) ?_
    refine aw_ret ?_
    show ∃ v H2, ResV _ _ _ _ _ _ v ∧ Sub H2 _ ∧ _
    exact ⟨_, H, resV rfl (.cons rfl (.cons rfl .nil)), (by repeat (first | exact Sub.refl _ | apply Sub.drop)), (by first | exact ⟨.inl ⟨fun h => (nomatch hok.2 h), rfl⟩, rfl⟩ | exact ⟨.inr ⟨x, hxm, hxi, by unfold dueOf; rw [if_pos (by assumption)]; rfl⟩, rfl⟩ | exact ⟨.inr ⟨x, hxm, hxi, by unfold dueOf; rw [if_neg (by assumption)]; rfl⟩, rfl⟩)⟩
  · refine sr_x rfl (wtd_none rfl) rfl (Rd.x (x_move rfl)) ?_
    refine sr_x rfl (wtd_none rfl) rfl (Rd.x (x_extract rfl rfl)) ?_
    refine sr_x rfl (wtd_none rfl) rfl (Rd.x (x_extract rfl rfl)) ?_
    refine sr_x rfl (wtd_none rfl) rfl (Rd.x (x_assign rfl)) ?_
    refine sr_x rfl (wtd_none rfl) rfl (Rd.x (x_assign rfl)) ?_
    refine sr_nil ?_
    refine aw_keep (keep_cons (t := 0) rfl (keep_cons (t := 4) rfl (keep_cons (t := 5) rfl (keep_cons (t := 6) rfl (keep_cons (t := 7) rfl keep_nil))))) ?_
    refine aw_seq ?_
    refine aw_seq_region ?_
    refine sr_x rfl (wtd_none rfl) rfl (Rd.x (x_move rfl)) ?_
    refine sr_x rfl (wtd_none rfl) rfl (Rd.x (x_not rfl)) ?_
    refine sr_nil ?_
    refine aw_keep (keep_cons (t := 0) rfl (keep_cons (t := 4) rfl (keep_cons (t := 5) rfl (keep_cons (t := 6) rfl (keep_cons (t := 20) rfl keep_nil))))) ?_
    refine aw_false rfl ?_
    refine aw_skip ?_
    show AW _ _ _ _ _ _ _
    refine aw_seq_dr ⟨_, 13, 55, [[], [0], [0, 1], [0, 1, 2], [], [0, 1, 2, 3, 4], [0, 1, 2, 3, 4, 5], [0, 1, 2, 3, 4, 5, 6], [0, 1, 2, 3, 4, 5, 6, 7], [], [9], [0, 1, 2, 3, 4, 5, 6, 7, 8, 9, 10], [0, 1, 2, 3, 4, 5, 6, 7, 8, 9, 10, 11]], [.light, .light, .light, .mem, .light, .light, .light, .mem, .light, .light, .call, .light, .light]⟩ (by kernel_rfl) rfl rfl mix ?_
    obtain ⟨x0, hx0, hi0⟩ := hok.1 rfl
    obtain ⟨x, hx, hxi⟩ := find_here hat hsrt hx0 hi0
    replace hxi := cmpI_eq.1 hxi
    have hxm := List.mem_of_getElem? hx
    have hil := get_lt hx
    obtain ⟨bj, oj, haj, hcj⟩ := hs.at_ i _ hx
    have hgx := hg x hxm
    have hq1 := tdiv_bd2 (a := x.part * 1000) (n := partsOf us) (by omega) (by omega)
    refine dr_light rfl rfl (wtd_none rfl) (x_move rfl) ?_
    refine dr_light rfl rfl (wtd_none rfl) (x_nilCheck rfl) ?_
    refine dr_light rfl rfl (wtd_none rfl) (x_fieldAddr fd141_0 rfl) ?_
    refine dr_mem0 rfl rfl (wtd_none rfl) (x_load ag73 rfl (cells_get (Cells.mono hc (by repeat (first | exact Sub.refl _ | apply Sub.drop))) 0 rfl)) ?_
    refine dr_light rfl rfl (wtd_none rfl) (x_move rfl) ?_
    refine dr_light rfl rfl (wtd_none rfl) (x_indexAddrN i Try.underlying73 sz86 rfl haj rfl (by omega) (by omega)) ?_
    refine dr_light rfl rfl (wtd_none rfl) (x_fieldAddr fd86_1 rfl) ?_
    refine dr_mem0 rfl rfl (wtd_none rfl) (x_load ag3 rfl (cells_get (Cells.mono hcj (by repeat (first | exact Sub.refl _ | apply Sub.drop))) 1 rfl)) ?_
    refine dr_light rfl rfl (wtd_none rfl) (x_mul' rfl rfl (i64w (by omega) (by omega))) ?_
    refine dr_light rfl rfl (wtd_none rfl) (x_move rfl) ?_
    refine dr_callq0 rfl rfl (wtd_none rfl) (opS_F rfl rfl rfl rfl cl126 ((parts_s p a cap us half now _ (Cells.mono hc (by repeat (first | exact Sub.refl _ | apply Sub.drop))) hh (hs.mono (by repeat (first | exact Sub.refl _ | apply Sub.drop))) hn (fun x hx => (hg x hx).2.1)))) (⟨_, rfl⟩) ?_
    rintro _ rfl
    refine dr_light rfl rfl (wtd_none rfl) (x_quo' rfl rfl (by omega) (i64w (by omega) (by omega))) ?_
    refine dr_light rfl rfl (wtd_none rfl) (x_assign rfl) ?_
    refine dr_nil0 ?_
    refine aw_keep (keep_cons (t := 0) rfl (keep_cons (t := 4) rfl (keep_cons (t := 5) rfl (keep_cons (t := 6) rfl (keep_cons (t := 8) rfl keep_nil))))) ?_
    refine aw_seq_region ?_
    refine sr_x rfl (wtd_none rfl) rfl (Rd.x (x_move rfl)) ?_
    refine sr_d rfl (wtd_none rfl) rfl (opS_call rfl rfl rfl rfl cl84 (uall_s p a cap us half now _ (Cells.mono hc (by repeat (first | exact Sub.refl _ | apply Sub.drop))) hh (hs.mono (by repeat (first | exact Sub.refl _ | apply Sub.drop))) hn)) ?_
    rintro _ H ⟨rfl, rfl⟩
    refine sr_x rfl (wtd_none rfl) rfl (Rd.x (x_assign rfl)) ?_
    refine sr_nil ?_
    refine aw_keep (keep_cons (t := 0) rfl (keep_cons (t := 4) rfl (keep_cons (t := 5) rfl (keep_cons (t := 6) rfl (keep_cons (t := 8) rfl (keep_cons (t := 9) rfl keep_nil)))))) ?_
    refine aw_seq ?_
    refine aw_seq_region ?_
    refine sr_x rfl (wtd_none rfl) rfl (Rd.x (x_move rfl)) ?_
    refine sr_cmp rfl (wtd_none rfl) rfl (Rd.x (x_eq rfl rfl)) (fun h1 => ?_) (fun h1 => ?_)
    · refine sr_nil ?_
      refine aw_keep (keep_cons (t := 0) rfl (keep_cons (t := 4) rfl (keep_cons (t := 5) rfl (keep_cons (t := 6) rfl (keep_cons (t := 8) rfl (keep_cons (t := 9) rfl (keep_cons (t := 36) rfl keep_nil))))))) ?_
      refine aw_true rfl ?_
      refine aw_seq_region ?_
      refine sr_x rfl (wtd_none rfl) rfl (Rd.x (x_move rfl)) ?_
      refine sr_x rfl (wtd_none rfl) rfl (Rd.x (x_assign rfl)) ?_
      refine sr_x rfl (wtd_none rfl) rfl (Rd.x (x_assign rfl)) ?_
      refine sr_nil ?_
      refine aw_keep (keep_cons (t := 0) rfl (keep_cons (t := 4) rfl (keep_cons (t := 5) rfl (keep_cons (t := 6) rfl (keep_cons (t := 8) rfl (keep_cons (t := 9) rfl keep_nil)))))) ?_
      refine aw_ret ?_
      show ∃ v H2, ResV _ _ _ _ _ _ v ∧ Sub H2 _ ∧ _
      exact ⟨_, H, resV rfl (.cons rfl (.cons rfl .nil)), (by repeat (first | exact Sub.refl _ | apply Sub.drop)), (by first | exact ⟨.inl ⟨fun h => (nomatch hok.2 h), rfl⟩, rfl⟩ | exact ⟨.inr ⟨x, hxm, hxi, by unfold dueOf; rw [if_pos (by assumption)]; rfl⟩, rfl⟩ | exact ⟨.inr ⟨x, hxm, hxi, by unfold dueOf; rw [if_neg (by assumption)]; rfl⟩, rfl⟩)⟩
    · refine sr_nil ?_
      refine aw_keep (keep_cons (t := 0) rfl (keep_cons (t := 4) rfl (keep_cons (t := 5) rfl (keep_cons (t := 6) rfl (keep_cons (t := 8) rfl (keep_cons (t := 9) rfl (keep_cons (t := 36) rfl keep_nil))))))) ?_
      refine aw_false rfl ?_
      refine aw_skip ?_
      show AW _ _ _ _ _ _ _
      refine aw_seq_region ?_
      have hq2 := tdiv_bd2 (a := allOf us + 999) (n := 1000) (by omega) (by omega)
      have hq3 := tdiv_bd2 (a := x.used) (n := max ((allOf us + 999).tdiv 1000) 1) (by omega) (by omega)
      refine sr_x rfl (wtd_none rfl) rfl (Rd.x (x_move rfl)) ?_
      refine sr_x rfl (wtd_none rfl) rfl (Rd.x (x_nilCheck rfl)) ?_
      refine sr_x rfl (wtd_none rfl) rfl (Rd.x (x_fieldAddr fd141_0 rfl)) ?_
      refine sr_x rfl (wtd_none rfl) rfl (Rd.x (x_load ag73 rfl (cells_get (Cells.mono hc (by repeat (first | exact Sub.refl _ | apply Sub.drop))) 0 rfl))) ?_
      refine sr_x rfl (wtd_none rfl) rfl (Rd.x (x_move rfl)) ?_
      refine sr_x rfl (wtd_none rfl) rfl (Rd.x (x_indexAddrN i Try.underlying73 sz86 rfl haj rfl (by omega) (by omega))) ?_
      refine sr_x rfl (wtd_none rfl) rfl (Rd.x (x_fieldAddr fd86_2 rfl)) ?_
      refine sr_x rfl (wtd_none rfl) rfl (Rd.x (x_load ag2 rfl (cells_get (Cells.mono hcj (by repeat (first | exact Sub.refl _ | apply Sub.drop))) 2 rfl))) ?_
      refine sr_x rfl (wtd_none rfl) rfl (Rd.x (x_move rfl)) ?_
      refine sr_x rfl (wtd_none rfl) rfl (Rd.x (x_add' rfl rfl (i64w (by omega) (by omega)))) ?_
      refine sr_x rfl (wtd_none rfl) rfl (Rd.x (x_quo' rfl rfl (by omega) (i64w (by omega) (by omega)))) ?_
      refine sr_x rfl (wtd_none rfl) rfl (Rd.x (x_max rfl rfl)) ?_
      refine sr_x rfl (wtd_none rfl) rfl (Rd.x (x_quo' rfl rfl (by omega) (i64w (by omega) (by omega)))) ?_
      refine sr_x rfl (wtd_none rfl) rfl (Rd.x (x_assign rfl)) ?_
      refine sr_nil ?_
      refine aw_keep (keep_cons (t := 4) rfl (keep_cons (t := 5) rfl (keep_cons (t := 8) rfl (keep_cons (t := 10) rfl keep_nil)))) ?_
      refine aw_seq_region ?_
      refine sr_x rfl (wtd_none rfl) rfl (Rd.x (x_move rfl)) ?_
      refine sr_x rfl (wtd_none rfl) rfl (Rd.x (x_move rfl)) ?_
      refine sr_x rfl (wtd_none rfl) rfl (Rd.x (x_sub' rfl rfl (i64w (by omega) (by omega)))) ?_
      refine sr_x rfl (wtd_none rfl) rfl (Rd.x (x_max rfl rfl)) ?_
      refine sr_x rfl (wtd_none rfl) rfl (Rd.x (x_assign rfl)) ?_
      refine sr_x rfl (wtd_none rfl) rfl (Rd.x (x_assign rfl)) ?_
      refine sr_nil ?_
      refine aw_keep (keep_cons (t := 4) rfl (keep_cons (t := 5) rfl keep_nil)) ?_
      refine aw_ret ?_
      show ∃ v H2, ResV _ _ _ _ _ _ v ∧ Sub H2 _ ∧ _
      exact ⟨_, H, resV rfl (.cons rfl (.cons rfl .nil)), (by repeat (first | exact Sub.refl _ | apply Sub.drop)), (by first | exact ⟨.inl ⟨fun h => (nomatch hok.2 h), rfl⟩, rfl⟩ | exact ⟨.inr ⟨x, hxm, hxi, by unfold dueOf; rw [if_pos (by assumption)]; rfl⟩, rfl⟩ | exact ⟨.inr ⟨x, hxm, hxi, by unfold dueOf; rw [if_neg (by assumption)]; rfl⟩, rfl⟩)⟩
set_option maxRecDepth 100000 in
set_option maxHeartbeats 400000 in
theorem awake32_s (H : SHeap) : AC Try.prog W0 51 [] H (fun v H' => v = .bool true ∧ H' = H) := by
  refine ac_of Try.func51 rfl rfl rfl ?_
  refine aw_seq_region ?_
  refine sr_x rfl (wtd_none rfl) rfl (Rd.x (x_assign rfl)) ?_
  refine sr_nil ?_
  refine aw_keep (keep_cons (t := 0) rfl keep_nil) ?_
  refine aw_seq_region ?_
  refine sr_x rfl (wtd_none rfl) rfl (Rd.x (x_build zr86 rfl fl86 (by repeat (first | exact Parts.nil | (apply Parts.cons; rfl))) (by repeat (first | exact Fill.done | (apply Fill.part; rfl; rfl; rfl; focus (repeat (first | exact Spl.done | exact Spl.all rfl | apply Spl.put | apply Spl.skip))))))) ?_
  refine sr_x rfl (wtd_none rfl) rfl (Rd.x (x_build zr86 rfl fl86 (by repeat (first | exact Parts.nil | (apply Parts.cons; rfl))) (by repeat (first | exact Fill.done | (apply Fill.part; rfl; rfl; rfl; focus (repeat (first | exact Spl.done | exact Spl.all rfl | apply Spl.put | apply Spl.skip))))))) ?_
  refine sr_new rfl (wtd_none rfl) rfl (x_buildSlice Try.underlying73 sz86 zr86 rfl rfl rfl rfl (by repeat (first | exact Parts.nil | (apply Parts.cons; rfl))) (by repeat (first | exact Fill.done | (apply Fill.part; rfl; rfl; rfl; focus (repeat (first | exact Spl.done | exact Spl.all rfl | apply Spl.put | apply Spl.skip)))))) ?_
  intro r1_2 hr1_2 gr1_2
  refine sr_d rfl (wtd_none rfl) rfl (opS_call rfl rfl rfl rfl cl49 (unew_s 10 (some ⟨r1_2, 0, none⟩) 2 [(⟨5, 3, 0⟩ : User), (⟨2, 1, 0⟩ : User)] _ (fun H hsub => (slv_own (n := 3) (enc := User.cells) (r := r1_2) (e := 86) (fz := (0, 0)) (xs := [(⟨5, 3, 0⟩ : User), (⟨2, 1, 0⟩ : User)]) (post := []) (cap := 2) (fun _ => rfl) (by repeat (first | exact List.mem_cons_self | apply List.mem_cons_of_mem | apply List.mem_append_right))).mono hsub))) ?_
  rintro _ _ hnew
  replace hnew := (hnew.resolve_left (fun h => absurd h.1 (by decide))).resolve_left (fun ⟨_, e, us, h, he, _⟩ => he (aw32.det h).1.symm)
  obtain ⟨_, us, p9, sl9, E9, h9, hsrt, hul, V9, rfl, rfl⟩ := hnew
  obtain ⟨_, rfl⟩ := aw32.det h9
  obtain ⟨a9, c9, rfl⟩ := V9.isSl
  refine sr_x rfl (wtd_none rfl) rfl (Rd.x (x_move rfl)) ?_
  refine sr_x rfl (wtd_none rfl) rfl (Rd.x (x_extract rfl rfl)) ?_
  refine sr_x rfl (wtd_none rfl) rfl (Rd.x (x_extract rfl rfl)) ?_
  refine sr_x rfl (wtd_none rfl) rfl (Rd.x (x_assign rfl)) ?_
  refine sr_x rfl (wtd_none rfl) rfl (Rd.x (x_assign rfl)) ?_
  refine sr_nil ?_
  refine aw_keep (keep_cons (t := 0) rfl (keep_cons (t := 1) rfl (keep_cons (t := 2) rfl keep_nil))) ?_
  refine aw_seq_region ?_
  refine sr_x rfl (wtd_none rfl) rfl (Rd.x (x_move rfl)) ?_
  refine sr_d rfl (wtd_none rfl) rfl (opS_call rfl rfl rfl rfl cl86 (due_s p9 a9 c9 [(⟨2, 1, 0⟩ : User), (⟨5, 3, 0⟩ : User)] 10 0 _ (cells_ext (by repeat (first | exact List.mem_cons_self | apply List.mem_cons_of_mem | apply List.mem_append_right)) (by repeat (first | exact Ext.all _ | exact Ext.done | apply Ext.take | apply Ext.skip))) (by decide) (V9.slv' (fun _ => rfl) rfl (Sub.takeE0 (by repeat (first | exact TakeE.here | apply TakeE.there | apply TakeE.app)))) (by decide) hsrt (good_all h9 (fun x hx => nomatch hx)) 2)) ?_
  rintro _ H9 ⟨hd2, rfl⟩
  obtain ⟨x2, hx2, hxi2, rfl⟩ := hd2.resolve_left (fun h => h.1 ⟨(⟨2, 1, 0⟩ : User), by simp, rfl⟩)
  obtain rfl := aw_x2 hx2 hxi2
  refine sr_x rfl (wtd_none rfl) rfl (Rd.x (x_move rfl)) ?_
  refine sr_x rfl (wtd_none rfl) rfl (Rd.x (x_extract rfl rfl)) ?_
  refine sr_x rfl (wtd_none rfl) rfl (Rd.x (x_extract rfl rfl)) ?_
  refine sr_x rfl (wtd_none rfl) rfl (Rd.x (x_assign rfl)) ?_
  refine sr_x rfl (wtd_none rfl) rfl (Rd.x (x_assign rfl)) ?_
  refine sr_nil ?_
  refine aw_keep (keep_cons (t := 0) rfl (keep_cons (t := 1) rfl (keep_cons (t := 2) rfl (keep_cons (t := 3) rfl (keep_cons (t := 4) rfl keep_nil))))) ?_
  refine aw_seq_region ?_
  refine sr_x rfl (wtd_none rfl) rfl (Rd.x (x_move rfl)) ?_
  refine sr_d rfl (wtd_none rfl) rfl (opS_call rfl rfl rfl rfl cl86 (due_s p9 a9 c9 [(⟨2, 1, 0⟩ : User), (⟨5, 3, 0⟩ : User)] 10 0 _ (cells_ext (by repeat (first | exact List.mem_cons_self | apply List.mem_cons_of_mem | apply List.mem_append_right)) (by repeat (first | exact Ext.all _ | exact Ext.done | apply Ext.take | apply Ext.skip))) (by decide) (V9.slv' (fun _ => rfl) rfl (Sub.takeE0 (by repeat (first | exact TakeE.here | apply TakeE.there | apply TakeE.app)))) (by decide) hsrt (good_all h9 (fun x hx => nomatch hx)) 5)) ?_
  rintro _ H9 ⟨hd5, rfl⟩
  obtain ⟨x5, hx5, hxi5, rfl⟩ := hd5.resolve_left (fun h => h.1 ⟨(⟨5, 3, 0⟩ : User), by simp, rfl⟩)
  obtain rfl := aw_x5 hx5 hxi5
  refine sr_x rfl (wtd_none rfl) rfl (Rd.x (x_move rfl)) ?_
  refine sr_x rfl (wtd_none rfl) rfl (Rd.x (x_extract rfl rfl)) ?_
  refine sr_x rfl (wtd_none rfl) rfl (Rd.x (x_extract rfl rfl)) ?_
  refine sr_x rfl (wtd_none rfl) rfl (Rd.x (x_assign rfl)) ?_
  refine sr_x rfl (wtd_none rfl) rfl (Rd.x (x_assign rfl)) ?_
  refine sr_nil ?_
  refine aw_keep (keep_cons (t := 0) rfl (keep_cons (t := 2) rfl (keep_cons (t := 3) rfl (keep_cons (t := 4) rfl (keep_cons (t := 5) rfl (keep_cons (t := 6) rfl keep_nil)))))) ?_
  refine aw_seq_region ?_
  refine sr_x rfl (wtd_none rfl) rfl (Rd.x (x_move rfl)) ?_
  refine sr_cmp rfl (wtd_none rfl) rfl (Rd.x (x_eq rfl rfl)) (fun h1 => ?_) (fun h1 => absurd (by first | omega | decide) h1)
  refine sr_x rfl (wtd_none rfl) rfl (Rd.x (x_move rfl)) ?_
  refine sr_x rfl (wtd_yes rfl rfl rfl) rfl (Rd.x (x_move rfl)) ?_
  refine sr_cmp rfl (wtd_yes rfl rfl rfl) rfl (Rd.x (x_eq rfl rfl)) (fun h2 => ?_) (fun h2 => absurd (by first | omega | decide) h2)
  refine sr_x rfl (wtd_none rfl) rfl (Rd.x (x_pick_t rfl rfl rfl)) ?_
  refine sr_x rfl (wtd_none rfl) rfl (Rd.x (x_move rfl)) ?_
  refine sr_x rfl (wtd_yes rfl rfl rfl) rfl (Rd.x (x_move rfl)) ?_
  refine sr_cmp rfl (wtd_yes rfl rfl rfl) rfl (Rd.x (x_eq rfl rfl)) (fun h3 => ?_) (fun h3 => absurd (by first | omega | decide) h3)
  refine sr_x rfl (wtd_none rfl) rfl (Rd.x (x_pick_t rfl rfl rfl)) ?_
  refine sr_x rfl (wtd_none rfl) rfl (Rd.x (x_move rfl)) ?_
  refine sr_x rfl (wtd_yes rfl rfl rfl) rfl (Rd.x (x_move rfl)) ?_
  refine sr_cmp rfl (wtd_yes rfl rfl rfl) rfl (Rd.x (x_eq rfl rfl)) (fun h4 => ?_) (fun h4 => absurd (by decide) h4)
  refine sr_x rfl (wtd_none rfl) rfl (Rd.x (x_pick_t rfl rfl rfl)) ?_
  refine sr_x rfl (wtd_none rfl) rfl (Rd.x (x_move rfl)) ?_
  refine sr_x rfl (wtd_yes rfl rfl rfl) rfl (Rd.x (x_move rfl)) ?_
  refine sr_cmp rfl (wtd_yes rfl rfl rfl) rfl (Rd.x (x_eq rfl rfl)) (fun h5 => ?_) (fun h5 => absurd (by decide) h5)
  refine sr_x rfl (wtd_none rfl) rfl (Rd.x (x_pick_t rfl rfl rfl)) ?_
  refine sr_x rfl (wtd_none rfl) rfl (Rd.x (x_assign rfl)) ?_
  refine sr_nil ?_
  refine aw_keep (keep_cons (t := 0) rfl keep_nil) ?_
  refine aw_ret ?_
  show ∃ v H2, ResV _ _ _ _ _ _ v ∧ Sub H2 _ ∧ _
  exact ⟨_, H, resV rfl (.cons rfl .nil), (by repeat (first | exact Sub.refl _ | refine Sub.take (by repeat (first | exact Take.here | apply Take.there | apply Take.app)) ?_ | refine Sub.takeE (by repeat (first | exact TakeE.here | apply TakeE.there | apply TakeE.app)) ?_ | exact Sub.nil _ | apply Sub.drop | apply Sub.dropE)), ⟨rfl, rfl⟩⟩
set_option maxRecDepth 100000 in
set_option maxHeartbeats 400000 in
theorem few48_s (a : Option Addr) (cap : Nat) (l : List User) (H : SHeap) (hle : l.length ≤ cap) : AC Try.prog W0 48 [.slice a l.length cap] H (fun v H' => v = .slice a (l.take 20).length cap ∧ H' = H) := by
  refine ac_of Try.func48 rfl rfl rfl ?_
  refine aw_seq_region ?_
  refine sr_x rfl (wtd_none rfl) rfl (Rd.x (x_assign rfl)) ?_
  refine sr_nil ?_
  refine aw_keep (keep_cons (t := 0) rfl (keep_cons (t := 2) rfl keep_nil)) ?_
  refine aw_seq ?_
  refine aw_seq_region ?_
  refine sr_x rfl (wtd_none rfl) rfl (Rd.x (x_move rfl)) ?_
  refine sr_x rfl (wtd_none rfl) rfl (Rd.x (x_lenSlice Try.underlying73 rfl)) ?_
  refine sr_cmp rfl (wtd_none rfl) rfl (Rd.x (x_gt rfl rfl)) (fun h1 => ?_) (fun h1 => ?_)
  · refine sr_nil ?_
    refine aw_keep (keep_cons (t := 0) rfl (keep_cons (t := 2) rfl (keep_cons (t := 5) rfl keep_nil))) ?_
    refine aw_true rfl ?_
    refine aw_seq_region ?_
    refine sr_x rfl (wtd_none rfl) rfl (Rd.x (x_move rfl)) ?_
    refine sr_x rfl (wtd_none rfl) rfl (Rd.x (x_sliceHi Try.underlying73 sz86 rfl rfl (by omega) (by omega))) ?_
    refine sr_x rfl (wtd_none rfl) rfl (Rd.x (x_assign rfl)) ?_
    refine sr_nil ?_
    refine aw_keep (keep_cons (t := 0) rfl (keep_cons (t := 2) rfl keep_nil)) ?_
    refine aw_ret ?_
    show ∃ v H2, ResV _ _ _ _ _ _ v ∧ Sub H2 _ ∧ _
    exact ⟨_, H, resV rfl (.cons rfl .nil), (by repeat (first | exact Sub.refl _ | apply Sub.drop)), ⟨by rw [List.length_take]; (first | rw [Nat.min_eq_left (by omega)] | rw [Nat.min_eq_right (by omega)]); rfl, rfl⟩⟩
  · refine sr_nil ?_
    refine aw_keep (keep_cons (t := 0) rfl (keep_cons (t := 2) rfl (keep_cons (t := 5) rfl keep_nil))) ?_
    refine aw_false rfl ?_
    refine aw_skip ?_
    show AW _ _ _ _ _ _ _
    refine aw_seq_region ?_
    refine sr_x rfl (wtd_none rfl) rfl (Rd.x (x_move rfl)) ?_
    refine sr_x rfl (wtd_none rfl) rfl (Rd.x (x_assign rfl)) ?_
    refine sr_nil ?_
    refine aw_keep (keep_cons (t := 2) rfl keep_nil) ?_
    refine aw_ret ?_
    show ∃ v H2, ResV _ _ _ _ _ _ v ∧ Sub H2 _ ∧ _
    exact ⟨_, H, resV rfl (.cons rfl .nil), (by repeat (first | exact Sub.refl _ | apply Sub.drop)), ⟨by rw [List.length_take]; (first | rw [Nat.min_eq_left (by omega)] | rw [Nat.min_eq_right (by omega)]); rfl, rfl⟩⟩
section
variable {half : Int} {a : Option Addr} {cap : Nat} {l us : List User} {G : SHeap} {e : Int}
theorem unew_bad (hs : ∀ H, Sub G H → SlV W0 H 3 User.cells a cap l) (hb : half < 1 ∨ 1099511627776 < half) : AC Try.prog W0 49 [.int .i64 half, .slice a l.length cap] G (fun v H' => v = .tuple #[.pointer none, .int .i64 1] ∧ H' = G) :=
  (unew_s half a cap l G hs).mono fun v H' h => by
    rcases h with ⟨_, h⟩ | ⟨h, _⟩ | ⟨h, _⟩
    · exact h
    · exact absurd (by omega) h
    · exact absurd (by omega) h
theorem unew_err (hs : ∀ H, Sub G H → SlV W0 H 3 User.cells a cap l) (hb : ¬ (half < 1 ∨ 1099511627776 < half)) (hl : l.length ≤ 256) (hA : AddAll [] l e us) (he : e ≠ 0) : AC Try.prog W0 49 [.int .i64 half, .slice a l.length cap] G (fun v H' => v = .tuple #[.pointer none, .int .i64 e] ∧ H' = G) :=
  (unew_s half a cap l G hs).mono fun v H' h => by
    rcases h with ⟨h, _⟩ | ⟨_, f, us', h, _, rfl, rfl⟩ | ⟨_, us', _, _, _, h, _⟩
    · omega
    · rw [(hA.det h).1]; exact ⟨rfl, rfl⟩
    · exact absurd (hA.det h).1 he
theorem unew_ok (hs : ∀ H, Sub G H → SlV W0 H 3 User.cells a cap l) (hb : ¬ (half < 1 ∨ 1099511627776 < half)) (hl : l.length ≤ 256) (hA : AddAll [] l 0 us) : AC Try.prog W0 49 [.int .i64 half, .slice a l.length cap] G (fun v H' => ∃ p a' c' E, Srt us ∧ us.length ≤ l.length ∧ OwnVec 3 86 (.slice a' us.length c') us.length (us.flatMap User.cells) E ∧ v = .tuple #[.pointer (some ⟨p, 0, none⟩), .int .i64 0] ∧ H' = bk p (.slice a' us.length c') half 0 :: (E ++ G)) :=
  (unew_s half a cap l G hs).mono fun v H' h => by
    rcases h with ⟨h, _⟩ | ⟨_, f, us', h, he, _⟩ | ⟨_, us', p, sl, E, h, h1, h2, V, rfl, rfl⟩
    · omega
    · exact absurd (hA.det h).1.symm he
    · obtain ⟨_, rfl⟩ := hA.det h
      obtain ⟨a', c', rfl⟩ := V.isSl
      exact ⟨p, a', c', E, h1, h2, V, rfl, rfl⟩
theorem umade_bad (hs : ∀ H, Sub G H → SlV W0 H 3 User.cells a cap l) (hl : l.length ≤ 256) (hb : half < 1 ∨ 1099511627776 < half) : AC Try.prog W0 50 [.int .i64 half, .slice a l.length cap] G (fun v H' => v = .tuple #[.pointer none, .int .i64 1] ∧ H' = G) :=
  (umade_s half a cap l G hs (by omega)).mono fun v H' h => by
    rcases h with ⟨_, h⟩ | ⟨h, _⟩ | ⟨h, _⟩
    · exact h
    · exact absurd hb h
    · exact absurd hb h
theorem umade_err (hs : ∀ H, Sub G H → SlV W0 H 3 User.cells a cap l) (hb : ¬ (half < 1 ∨ 1099511627776 < half)) (hl : l.length ≤ 256) (hA : AddAll [] l e us) (he : e ≠ 0) : AC Try.prog W0 50 [.int .i64 half, .slice a l.length cap] G (fun v H' => v = .tuple #[.pointer none, .int .i64 e] ∧ H' = G) :=
  (umade_s half a cap l G hs (by omega)).mono fun v H' h => by
    rcases h with ⟨h, _⟩ | ⟨_, f, us', h, _, rfl, rfl⟩ | ⟨_, us', _, _, _, h, _⟩
    · exact absurd h hb
    · rw [(hA.det h).1]; exact ⟨rfl, rfl⟩
    · exact absurd (hA.det h).1 he
theorem umade_ok (hs : ∀ H, Sub G H → SlV W0 H 3 User.cells a cap l) (hb : ¬ (half < 1 ∨ 1099511627776 < half)) (hl : l.length ≤ 256) (hA : AddAll [] l 0 us) : AC Try.prog W0 50 [.int .i64 half, .slice a l.length cap] G (fun v H' => ∃ q a' c' E, OwnVec 3 86 (.slice a' us.length c') us.length (us.flatMap User.cells) E ∧ v = .tuple #[.pointer (some ⟨q, 0, none⟩), .int .i64 0] ∧ H' = pk q (.slice a' us.length c') half 0 :: (E ++ G)) :=
  (umade_s half a cap l G hs (by omega)).mono fun v H' h => by
    rcases h with ⟨h, _⟩ | ⟨_, f, us', h, he, _⟩ | ⟨_, us', p, sl, E, h, V, rfl, rfl⟩
    · exact absurd h hb
    · exact absurd (hA.det h).1.symm he
    · obtain ⟨_, rfl⟩ := hA.det h
      obtain ⟨a', c', rfl⟩ := V.isSl
      exact ⟨p, a', c', E, V, rfl, rfl⟩
end
set_option maxRecDepth 100000 in
set_option maxHeartbeats 400000 in
theorem shareNews_bad (half : Int) (a : Option Addr) (cap : Nat) (l : List User) (hs : ∀ G, SlV W0 G 3 User.cells a cap l) (hb : half < 1 ∨ 1099511627776 < half) : AC Try.prog W0 8 [.int .i64 half, .slice a l.length cap] [] (fun v _ => v = .bool true) := by
  have hle := (hs []).le
  have hcb := (hs []).capb
  have hl20 : (l.take 20).length ≤ 20 := by rw [List.length_take]; omega
  refine ac_of Try.func8 rfl rfl rfl ?_
  refine aw_seq_region ?_
  refine sr_x rfl (wtd_none rfl) rfl (Rd.x (x_assign rfl)) ?_
  refine sr_nil ?_
  refine aw_keep (keep_cons (t := 0) rfl (keep_cons (t := 1) rfl (keep_cons (t := 4) rfl keep_nil))) ?_
  refine aw_seq_region ?_
  refine sr_x rfl (wtd_none rfl) rfl (Rd.x (x_move rfl)) ?_
  refine sr_d rfl (wtd_none rfl) rfl (opS_call rfl rfl rfl rfl cl48 (few48_s a cap l _ hle)) ?_
  rintro _ H ⟨rfl, rfl⟩
  refine sr_x rfl (wtd_none rfl) rfl (Rd.x (x_assign rfl)) ?_
  refine sr_nil ?_
  refine aw_keep (keep_cons (t := 0) rfl (keep_cons (t := 1) rfl (keep_cons (t := 4) rfl keep_nil))) ?_
  refine aw_seq_region ?_
  refine sr_x rfl (wtd_none rfl) rfl (Rd.x (x_move rfl)) ?_
  refine sr_x rfl (wtd_none rfl) rfl (Rd.x (x_move rfl)) ?_
  refine sr_d rfl (wtd_none rfl) rfl (opS_call rfl rfl rfl rfl cl49 (unew_bad (fun H _ => (hs H).take 20) hb)) ?_
  rintro _ H ⟨rfl, rfl⟩
  refine sr_x rfl (wtd_none rfl) rfl (Rd.x (x_move rfl)) ?_
  refine sr_x rfl (wtd_none rfl) rfl (Rd.x (x_extract rfl rfl)) ?_
  refine sr_x rfl (wtd_none rfl) rfl (Rd.x (x_extract rfl rfl)) ?_
  refine sr_x rfl (wtd_none rfl) rfl (Rd.x (x_assign rfl)) ?_
  refine sr_x rfl (wtd_none rfl) rfl (Rd.x (x_assign rfl)) ?_
  refine sr_nil ?_
  refine aw_keep (keep_cons (t := 0) rfl (keep_cons (t := 1) rfl (keep_cons (t := 4) rfl (keep_cons (t := 5) rfl (keep_cons (t := 6) rfl keep_nil))))) ?_
  refine aw_seq_region ?_
  refine sr_x rfl (wtd_none rfl) rfl (Rd.x (x_move rfl)) ?_
  refine sr_x rfl (wtd_none rfl) rfl (Rd.x (x_move rfl)) ?_
  refine sr_d rfl (wtd_none rfl) rfl (opS_call rfl rfl rfl rfl cl50 (umade_bad (fun H _ => (hs H).take 20) (by omega) hb)) ?_
  rintro _ H ⟨rfl, rfl⟩
  refine sr_x rfl (wtd_none rfl) rfl (Rd.x (x_move rfl)) ?_
  refine sr_x rfl (wtd_none rfl) rfl (Rd.x (x_extract rfl rfl)) ?_
  refine sr_x rfl (wtd_none rfl) rfl (Rd.x (x_extract rfl rfl)) ?_
  refine sr_x rfl (wtd_none rfl) rfl (Rd.x (x_assign rfl)) ?_
  refine sr_x rfl (wtd_none rfl) rfl (Rd.x (x_assign rfl)) ?_
  refine sr_nil ?_
  refine aw_keep (keep_cons (t := 4) rfl (keep_cons (t := 5) rfl (keep_cons (t := 6) rfl (keep_cons (t := 7) rfl (keep_cons (t := 8) rfl keep_nil))))) ?_
  refine aw_seq ?_
  refine aw_seq_region ?_
  refine sr_x rfl (wtd_none rfl) rfl (Rd.x (x_move rfl)) ?_
  refine sr_cmp rfl (wtd_none rfl) rfl (Rd.x (x_ne rfl rfl)) (fun h1 => ?_) (fun h1 => absurd (by first | omega | decide) h1)
  refine sr_x rfl (wtd_none rfl) rfl (Rd.x (x_move rfl)) ?_
  refine sr_skip rfl (wtd_no rfl rfl rfl rfl) rfl ?_
  refine sr_skip rfl (wtd_no rfl rfl rfl rfl) rfl ?_
  refine sr_x rfl (wtd_none rfl) rfl (Rd.x (x_pick_t rfl rfl rfl)) ?_
  refine sr_nil ?_
  refine aw_keep (keep_cons (t := 4) rfl (keep_cons (t := 5) rfl (keep_cons (t := 6) rfl (keep_cons (t := 7) rfl (keep_cons (t := 8) rfl (keep_cons (t := 30) rfl keep_nil)))))) ?_
  refine aw_true rfl ?_
  refine aw_seq_region ?_
  refine sr_x rfl (wtd_none rfl) rfl (Rd.x (x_move rfl)) ?_
  refine sr_x rfl (wtd_none rfl) rfl (Rd.x (x_eqnil Try.underlying75 rfl rfl)) ?_
  refine sr_x rfl (wtd_none rfl) rfl (Rd.x (x_move rfl)) ?_
  refine sr_x rfl (wtd_yes rfl rfl rfl) rfl (Rd.x (x_move rfl)) ?_
  refine sr_x rfl (wtd_yes rfl rfl rfl) rfl (Rd.x (x_move rfl)) ?_
  refine sr_cmp rfl (wtd_yes rfl rfl rfl) rfl (Rd.x (x_eq rfl rfl)) (fun h2 => ?_) (fun h2 => absurd (by first | omega | decide) h2)
  refine sr_x rfl (wtd_none rfl) rfl (Rd.x (x_pick_t rfl rfl rfl)) ?_
  refine sr_x rfl (wtd_none rfl) rfl (Rd.x (x_move rfl)) ?_
  refine sr_d rfl (wtd_yes rfl rfl rfl) rfl (opS_call rfl rfl rfl rfl cl51 (awake32_s _)) ?_
  rintro _ H ⟨rfl, rfl⟩
  refine sr_x rfl (wtd_none rfl) rfl (Rd.x (x_pick_t rfl rfl rfl)) ?_
  refine sr_x rfl (wtd_none rfl) rfl (Rd.x (x_assign rfl)) ?_
  refine sr_nil ?_
  refine aw_keep (keep_cons (t := 4) rfl (keep_cons (t := 5) rfl (keep_cons (t := 6) rfl (keep_cons (t := 7) rfl keep_nil)))) ?_
  refine aw_ret ?_
  show ∃ v H2, ResV _ _ _ _ _ _ v ∧ Sub H2 _ ∧ _
  exact ⟨_, [], resV rfl (.cons rfl .nil), (Sub.nil _), rfl⟩
set_option maxRecDepth 100000 in
set_option maxHeartbeats 400000 in
theorem shareNews_err (half : Int) (a : Option Addr) (cap : Nat) (l : List User) (hs : ∀ G, SlV W0 G 3 User.cells a cap l) (hb : ¬ (half < 1 ∨ 1099511627776 < half)) (us : List User) (e : Int) (hA : AddAll [] (l.take 20) e us) (he : e ≠ 0) : AC Try.prog W0 8 [.int .i64 half, .slice a l.length cap] [] (fun v _ => v = .bool true) := by
  have hle := (hs []).le
  have hcb := (hs []).capb
  have hl20 : (l.take 20).length ≤ 20 := by rw [List.length_take]; omega
  refine ac_of Try.func8 rfl rfl rfl ?_
  refine aw_seq_region ?_
  refine sr_x rfl (wtd_none rfl) rfl (Rd.x (x_assign rfl)) ?_
  refine sr_nil ?_
  refine aw_keep (keep_cons (t := 0) rfl (keep_cons (t := 1) rfl (keep_cons (t := 4) rfl keep_nil))) ?_
  refine aw_seq_region ?_
  refine sr_x rfl (wtd_none rfl) rfl (Rd.x (x_move rfl)) ?_
  refine sr_d rfl (wtd_none rfl) rfl (opS_call rfl rfl rfl rfl cl48 (few48_s a cap l _ hle)) ?_
  rintro _ H ⟨rfl, rfl⟩
  refine sr_x rfl (wtd_none rfl) rfl (Rd.x (x_assign rfl)) ?_
  refine sr_nil ?_
  refine aw_keep (keep_cons (t := 0) rfl (keep_cons (t := 1) rfl (keep_cons (t := 4) rfl keep_nil))) ?_
  refine aw_seq_region ?_
  refine sr_x rfl (wtd_none rfl) rfl (Rd.x (x_move rfl)) ?_
  refine sr_x rfl (wtd_none rfl) rfl (Rd.x (x_move rfl)) ?_
  refine sr_d rfl (wtd_none rfl) rfl (opS_call rfl rfl rfl rfl cl49 (unew_err (fun H _ => (hs H).take 20) hb (by omega) hA he)) ?_
  rintro _ H ⟨rfl, rfl⟩
  refine sr_x rfl (wtd_none rfl) rfl (Rd.x (x_move rfl)) ?_
  refine sr_x rfl (wtd_none rfl) rfl (Rd.x (x_extract rfl rfl)) ?_
  refine sr_x rfl (wtd_none rfl) rfl (Rd.x (x_extract rfl rfl)) ?_
  refine sr_x rfl (wtd_none rfl) rfl (Rd.x (x_assign rfl)) ?_
  refine sr_x rfl (wtd_none rfl) rfl (Rd.x (x_assign rfl)) ?_
  refine sr_nil ?_
  refine aw_keep (keep_cons (t := 0) rfl (keep_cons (t := 1) rfl (keep_cons (t := 4) rfl (keep_cons (t := 5) rfl (keep_cons (t := 6) rfl keep_nil))))) ?_
  refine aw_seq_region ?_
  refine sr_x rfl (wtd_none rfl) rfl (Rd.x (x_move rfl)) ?_
  refine sr_x rfl (wtd_none rfl) rfl (Rd.x (x_move rfl)) ?_
  refine sr_d rfl (wtd_none rfl) rfl (opS_call rfl rfl rfl rfl cl50 (umade_err (fun H _ => (hs H).take 20) hb (by omega) hA he)) ?_
  rintro _ H ⟨rfl, rfl⟩
  refine sr_x rfl (wtd_none rfl) rfl (Rd.x (x_move rfl)) ?_
  refine sr_x rfl (wtd_none rfl) rfl (Rd.x (x_extract rfl rfl)) ?_
  refine sr_x rfl (wtd_none rfl) rfl (Rd.x (x_extract rfl rfl)) ?_
  refine sr_x rfl (wtd_none rfl) rfl (Rd.x (x_assign rfl)) ?_
  refine sr_x rfl (wtd_none rfl) rfl (Rd.x (x_assign rfl)) ?_
  refine sr_nil ?_
  refine aw_keep (keep_cons (t := 4) rfl (keep_cons (t := 5) rfl (keep_cons (t := 6) rfl (keep_cons (t := 7) rfl (keep_cons (t := 8) rfl keep_nil))))) ?_
  refine aw_seq ?_
  refine aw_seq_region ?_
  refine sr_x rfl (wtd_none rfl) rfl (Rd.x (x_move rfl)) ?_
  refine sr_cmp rfl (wtd_none rfl) rfl (Rd.x (x_ne rfl rfl)) (fun h1 => ?_) (fun h1 => absurd (by first | omega | decide) h1)
  refine sr_x rfl (wtd_none rfl) rfl (Rd.x (x_move rfl)) ?_
  refine sr_skip rfl (wtd_no rfl rfl rfl rfl) rfl ?_
  refine sr_skip rfl (wtd_no rfl rfl rfl rfl) rfl ?_
  refine sr_x rfl (wtd_none rfl) rfl (Rd.x (x_pick_t rfl rfl rfl)) ?_
  refine sr_nil ?_
  refine aw_keep (keep_cons (t := 4) rfl (keep_cons (t := 5) rfl (keep_cons (t := 6) rfl (keep_cons (t := 7) rfl (keep_cons (t := 8) rfl (keep_cons (t := 30) rfl keep_nil)))))) ?_
  refine aw_true rfl ?_
  refine aw_seq_region ?_
  refine sr_x rfl (wtd_none rfl) rfl (Rd.x (x_move rfl)) ?_
  refine sr_x rfl (wtd_none rfl) rfl (Rd.x (x_eqnil Try.underlying75 rfl rfl)) ?_
  refine sr_x rfl (wtd_none rfl) rfl (Rd.x (x_move rfl)) ?_
  refine sr_x rfl (wtd_yes rfl rfl rfl) rfl (Rd.x (x_move rfl)) ?_
  refine sr_x rfl (wtd_yes rfl rfl rfl) rfl (Rd.x (x_move rfl)) ?_
  refine sr_cmp rfl (wtd_yes rfl rfl rfl) rfl (Rd.x (x_eq rfl rfl)) (fun h2 => ?_) (fun h2 => absurd (by first | omega | decide) h2)
  refine sr_x rfl (wtd_none rfl) rfl (Rd.x (x_pick_t rfl rfl rfl)) ?_
  refine sr_x rfl (wtd_none rfl) rfl (Rd.x (x_move rfl)) ?_
  refine sr_d rfl (wtd_yes rfl rfl rfl) rfl (opS_call rfl rfl rfl rfl cl51 (awake32_s _)) ?_
  rintro _ H ⟨rfl, rfl⟩
  refine sr_x rfl (wtd_none rfl) rfl (Rd.x (x_pick_t rfl rfl rfl)) ?_
  refine sr_x rfl (wtd_none rfl) rfl (Rd.x (x_assign rfl)) ?_
  refine sr_nil ?_
  refine aw_keep (keep_cons (t := 4) rfl (keep_cons (t := 5) rfl (keep_cons (t := 6) rfl (keep_cons (t := 7) rfl keep_nil)))) ?_
  refine aw_ret ?_
  show ∃ v H2, ResV _ _ _ _ _ _ v ∧ Sub H2 _ ∧ _
  exact ⟨_, [], resV rfl (.cons rfl .nil), (Sub.nil _), rfl⟩
set_option maxRecDepth 100000 in
set_option maxHeartbeats 400000 in
theorem shareNews_ok (half : Int) (a : Option Addr) (cap : Nat) (l : List User) (hs : ∀ G, SlV W0 G 3 User.cells a cap l) (hb : ¬ (half < 1 ∨ 1099511627776 < half)) (us : List User) (hA : AddAll [] (l.take 20) 0 us) : AC Try.prog W0 8 [.int .i64 half, .slice a l.length cap] [] (fun v _ => v = .bool true) := by
  have hle := (hs []).le
  have hcb := (hs []).capb
  have hl20 : (l.take 20).length ≤ 20 := by rw [List.length_take]; omega
  refine ac_of Try.func8 rfl rfl rfl ?_
  refine aw_seq_region ?_
  refine sr_x rfl (wtd_none rfl) rfl (Rd.x (x_assign rfl)) ?_
  refine sr_nil ?_
  refine aw_keep (keep_cons (t := 0) rfl (keep_cons (t := 1) rfl (keep_cons (t := 4) rfl keep_nil))) ?_
  refine aw_seq_region ?_
  refine sr_x rfl (wtd_none rfl) rfl (Rd.x (x_move rfl)) ?_
  refine sr_d rfl (wtd_none rfl) rfl (opS_call rfl rfl rfl rfl cl48 (few48_s a cap l _ hle)) ?_
  rintro _ H ⟨rfl, rfl⟩
  refine sr_x rfl (wtd_none rfl) rfl (Rd.x (x_assign rfl)) ?_
  refine sr_nil ?_
  refine aw_keep (keep_cons (t := 0) rfl (keep_cons (t := 1) rfl (keep_cons (t := 4) rfl keep_nil))) ?_
  refine aw_seq_region ?_
  refine sr_x rfl (wtd_none rfl) rfl (Rd.x (x_move rfl)) ?_
  refine sr_x rfl (wtd_none rfl) rfl (Rd.x (x_move rfl)) ?_
  refine sr_d rfl (wtd_none rfl) rfl (opS_call rfl rfl rfl rfl cl49 (unew_ok (fun H _ => (hs H).take 20) hb (by omega) hA)) ?_
  rintro _ _ ⟨p, a1, c1, E1, hsrt, hul, V1, rfl, rfl⟩
  refine sr_x rfl (wtd_none rfl) rfl (Rd.x (x_move rfl)) ?_
  refine sr_x rfl (wtd_none rfl) rfl (Rd.x (x_extract rfl rfl)) ?_
  refine sr_x rfl (wtd_none rfl) rfl (Rd.x (x_extract rfl rfl)) ?_
  refine sr_x rfl (wtd_none rfl) rfl (Rd.x (x_assign rfl)) ?_
  refine sr_x rfl (wtd_none rfl) rfl (Rd.x (x_assign rfl)) ?_
  refine sr_nil ?_
  refine aw_keep (keep_cons (t := 0) rfl (keep_cons (t := 1) rfl (keep_cons (t := 4) rfl (keep_cons (t := 5) rfl (keep_cons (t := 6) rfl keep_nil))))) ?_
  refine aw_seq_region ?_
  refine sr_x rfl (wtd_none rfl) rfl (Rd.x (x_move rfl)) ?_
  refine sr_x rfl (wtd_none rfl) rfl (Rd.x (x_move rfl)) ?_
  refine sr_d rfl (wtd_none rfl) rfl (opS_call rfl rfl rfl rfl cl50 (umade_ok (fun H _ => (hs H).take 20) hb (by omega) hA)) ?_
  rintro _ _ ⟨q, a2, c2, E2, V2, rfl, rfl⟩
  refine sr_x rfl (wtd_none rfl) rfl (Rd.x (x_move rfl)) ?_
  refine sr_x rfl (wtd_none rfl) rfl (Rd.x (x_extract rfl rfl)) ?_
  refine sr_x rfl (wtd_none rfl) rfl (Rd.x (x_extract rfl rfl)) ?_
  refine sr_x rfl (wtd_none rfl) rfl (Rd.x (x_assign rfl)) ?_
  refine sr_x rfl (wtd_none rfl) rfl (Rd.x (x_assign rfl)) ?_
  refine sr_nil ?_
  refine aw_keep (keep_cons (t := 4) rfl (keep_cons (t := 5) rfl (keep_cons (t := 6) rfl (keep_cons (t := 7) rfl (keep_cons (t := 8) rfl keep_nil))))) ?_
  refine aw_seq ?_
  refine aw_seq_region ?_
  refine sr_x rfl (wtd_none rfl) rfl (Rd.x (x_move rfl)) ?_
  refine sr_cmp rfl (wtd_none rfl) rfl (Rd.x (x_ne rfl rfl)) (fun h1 => absurd h1 (by first | omega | decide)) (fun h1 => ?_)
  refine sr_x rfl (wtd_none rfl) rfl (Rd.x (x_move rfl)) ?_
  refine sr_x rfl (wtd_yes rfl rfl rfl) rfl (Rd.x (x_move rfl)) ?_
  refine sr_x rfl (wtd_yes rfl rfl rfl) rfl (Rd.x (x_eqnil Try.underlying78 rfl rfl)) ?_
  refine sr_x rfl (wtd_none rfl) rfl (Rd.x (x_pick_f rfl rfl rfl)) ?_
  refine sr_nil ?_
  refine aw_keep (keep_cons (t := 4) rfl (keep_cons (t := 5) rfl (keep_cons (t := 6) rfl (keep_cons (t := 7) rfl (keep_cons (t := 8) rfl (keep_cons (t := 30) rfl keep_nil)))))) ?_
  refine aw_false rfl ?_
  refine aw_skip ?_
  show AW _ _ _ _ _ _ _
  refine aw_seq_region ?_
  refine sr_x rfl (wtd_none rfl) rfl (Rd.x (x_move rfl)) ?_
  refine sr_d rfl (wtd_none rfl) rfl (opS_call rfl rfl rfl rfl cl52 (users_s p a1 c1 us half 0 _ (cells_ext (by repeat (first | exact List.mem_cons_self | apply List.mem_cons_of_mem | apply List.mem_append_right)) (by repeat (first | exact Ext.all _ | exact Ext.done | apply Ext.take | apply Ext.skip))) (by omega) (V1.slv' (fun _ => rfl) rfl (Sub.takeE0 (by repeat (first | exact TakeE.here | apply TakeE.there | apply TakeE.app)))) (by omega))) ?_
  rintro _ _ ⟨E3, ⟨a3, c3, V3, rfl⟩, rfl⟩
  refine sr_x rfl (wtd_none rfl) rfl (Rd.x (x_assign rfl)) ?_
  refine sr_nil ?_
  refine aw_keep (keep_cons (t := 4) rfl (keep_cons (t := 5) rfl (keep_cons (t := 6) rfl (keep_cons (t := 7) rfl (keep_cons (t := 9) rfl keep_nil))))) ?_
  refine aw_seq ?_
  refine aw_seq_region ?_
  refine sr_x rfl (wtd_none rfl) rfl (Rd.x (x_move rfl)) ?_
  refine sr_x rfl (wtd_none rfl) rfl (Rd.x (x_eqnil Try.underlying75 rfl rfl)) ?_
  refine sr_x rfl (wtd_none rfl) rfl (Rd.x (x_move rfl)) ?_
  refine sr_x rfl (wtd_yes rfl rfl rfl) rfl (Rd.x (x_move rfl)) ?_
  refine sr_cmp rfl (wtd_yes rfl rfl rfl) rfl (Rd.x (x_ne rfl rfl)) (fun h2 => absurd h2 (by first | omega | decide)) (fun h2 => ?_)
  refine sr_x rfl (wtd_none rfl) rfl (Rd.x (x_pick_f rfl rfl rfl)) ?_
  refine sr_x rfl (wtd_none rfl) rfl (Rd.x (x_move rfl)) ?_
  refine sr_x rfl (wtd_yes rfl rfl rfl) rfl (Rd.x (x_move rfl)) ?_
  refine sr_x rfl (wtd_yes rfl rfl rfl) rfl (Rd.x (x_lenSlice Try.underlying73 rfl)) ?_
  refine sr_x rfl (wtd_yes rfl rfl rfl) rfl (Rd.x (x_move rfl)) ?_
  refine sr_x rfl (wtd_yes rfl rfl rfl) rfl (Rd.x (x_nilCheck rfl)) ?_
  refine sr_x rfl (wtd_yes rfl rfl rfl) rfl (Rd.x (x_fieldAddr fd83_0 rfl)) ?_
  refine sr_x rfl (wtd_yes rfl rfl rfl) rfl (Rd.x (x_load ag73 rfl (cells_ext (by repeat (first | exact List.mem_cons_self | apply List.mem_cons_of_mem | apply List.mem_append_right)) (by repeat (first | exact Ext.all _ | exact Ext.done | apply Ext.take | apply Ext.skip))))) ?_
  refine sr_x rfl (wtd_yes rfl rfl rfl) rfl (Rd.x (x_lenSlice Try.underlying73 rfl)) ?_
  refine sr_cmp rfl (wtd_yes rfl rfl rfl) rfl (Rd.x (x_ne rfl rfl)) (fun h3 => absurd h3 (by first | omega | decide)) (fun h3 => ?_)
  refine sr_x rfl (wtd_none rfl) rfl (Rd.x (x_pick_f rfl rfl rfl)) ?_
  refine sr_x rfl (wtd_none rfl) rfl (Rd.x (x_move rfl)) ?_
  refine sr_x rfl (wtd_yes rfl rfl rfl) rfl (Rd.x (x_move rfl)) ?_
  refine sr_d rfl (wtd_yes rfl rfl rfl) rfl (opS_call rfl rfl rfl rfl cl53 (unow_s p a1 c1 us half 0 _ (cells_ext (by repeat (first | exact List.mem_cons_self | apply List.mem_cons_of_mem | apply List.mem_append_right)) (by repeat (first | exact Ext.all _ | exact Ext.done | apply Ext.take | apply Ext.skip))) (by omega))) ?_
  rintro _ H ⟨rfl, rfl⟩
  refine sr_cmp rfl (wtd_yes rfl rfl rfl) rfl (Rd.x (x_ne rfl rfl)) (fun h4 => absurd h4 (by first | omega | decide)) (fun h4 => ?_)
  refine sr_x rfl (wtd_none rfl) rfl (Rd.x (x_pick_f rfl rfl rfl)) ?_
  refine sr_nil ?_
  refine aw_keep (keep_cons (t := 4) rfl (keep_cons (t := 7) rfl (keep_cons (t := 9) rfl (keep_cons (t := 63) rfl keep_nil)))) ?_
  refine aw_false rfl ?_
  refine aw_skip ?_
  show AW _ _ _ _ _ _ _
  refine aw_seq ?_
  refine aw_seq_region ?_
  refine sr_x rfl (wtd_none rfl) rfl (Rd.x (x_assign rfl)) ?_
  refine sr_nil ?_
  refine aw_keep (keep_cons (t := 4) rfl (keep_cons (t := 7) rfl (keep_cons (t := 9) rfl (keep_cons (t := 10) rfl keep_nil)))) ?_
  refine aw_block ?_
  refine aw_loop (ι := Nat) (fun k => k ≤ us.length) (fun k => [(4, .bool false), (7, .pointer (some ⟨q, 0, none⟩)), (9, .slice a3 us.length c3), (10, .int .i64 k)]) (fun k => E3 ++ (pk q (.slice a2 us.length c2) half 0 :: (E2 ++ (bk p (.slice a1 us.length c1) half 0 :: (E1 ++ []))))) (fun k => us.length - k) 0 (Nat.zero_le _) (by (repeat (first | exact keep_nil | refine keep_cons rfl ?_)); first | done | fail) (by repeat (first | exact Sub.refl _ | refine Sub.take (by repeat (first | exact Take.here | apply Take.there | apply Take.app)) ?_ | refine Sub.takeE (by repeat (first | exact TakeE.here | apply TakeE.there | apply TakeE.app)) ?_ | exact Sub.nil _ | apply Sub.drop | apply Sub.dropE)) ?_
  intro k hk
  refine aw_seq ?_
  refine aw_seq_region ?_
  refine sr_x rfl (wtd_none rfl) rfl (Rd.x (x_move rfl)) ?_
  refine sr_x rfl (wtd_none rfl) rfl (Rd.x (x_move rfl)) ?_
  refine sr_x rfl (wtd_none rfl) rfl (Rd.x (x_lenSlice Try.underlying73 rfl)) ?_
  refine sr_cmp rfl (wtd_none rfl) rfl (Rd.x (x_lt rfl rfl)) (fun h5 => ?_) (fun h5 => ?_)
  · refine sr_nil ?_
    refine aw_keep (keep_cons (t := 4) rfl (keep_cons (t := 7) rfl (keep_cons (t := 9) rfl (keep_cons (t := 10) rfl (keep_cons (t := 64) rfl (keep_cons (t := 65) rfl (keep_cons (t := 66) rfl (keep_cons (t := 67) rfl keep_nil)))))))) ?_
    refine aw_true rfl ?_
    refine aw_skip ?_
    show AW _ _ _ _ _ _ _
    refine aw_seq ?_
    refine aw_block ?_
    refine aw_seq_dr ⟨_, 12, 85, [[], [], [0, 1], [0, 1, 2], [], [4], [4, 5], [4, 5, 6], [], [4, 5, 6, 7, 8], [4, 5, 6, 7, 8, 9], [0, 1, 2, 3, 4, 5, 6, 7, 8, 9, 10]], [.light, .light, .light, .mem, .light, .light, .light, .mem, .light, .light, .mem, .light]⟩ (by kernel_rfl) rfl rfl mix ?_
    obtain ⟨u, hu⟩ := get_ex (show k < us.length by omega)
    obtain ⟨b3, o3, ha3, hc3⟩ := (V3.slv' (W0 := W0) (fun _ => rfl) rfl (Sub.refl _)).at_ k _ hu
    obtain ⟨b2, o2, ha2, hc2⟩ := (V2.slv' (W0 := W0) (fun _ => rfl) rfl (Sub.refl _)).at_ k _ hu
    have hle3 := (V3.slv' (W0 := W0) (fun _ => rfl) rfl (Sub.refl _)).capb
    have hle2 := (V3.slv' (W0 := W0) (fun _ => rfl) rfl (Sub.refl _)).le
    refine dr_light rfl rfl (wtd_none rfl) (x_move rfl) ?_
    refine dr_light rfl rfl (wtd_none rfl) (x_move rfl) ?_
    refine dr_light rfl rfl (wtd_none rfl) (x_indexAddrN k Try.underlying73 sz86 rfl ha3 rfl (by omega) (by omega)) ?_
    refine dr_mem0 rfl rfl (wtd_none rfl) (x_loadN ag86 sz86 rfl (Cells.mono hc3 (Sub.takeE0 (by repeat (first | exact TakeE.here | apply TakeE.there | apply TakeE.app)))) rfl) ?_
    refine dr_light rfl rfl (wtd_none rfl) (x_move rfl) ?_
    refine dr_light rfl rfl (wtd_none rfl) (x_nilCheck rfl) ?_
    refine dr_light rfl rfl (wtd_none rfl) (x_fieldAddr fd83_0 rfl) ?_
    refine dr_mem0 rfl rfl (wtd_none rfl) (x_load ag73 rfl (cells_ext (by repeat (first | exact List.mem_cons_self | apply List.mem_cons_of_mem | apply List.mem_append_right)) (by repeat (first | exact Ext.all _ | exact Ext.done | apply Ext.take | apply Ext.skip)))) ?_
    refine dr_light rfl rfl (wtd_none rfl) (x_move rfl) ?_
    refine dr_light rfl rfl (wtd_none rfl) (x_indexAddrN k Try.underlying73 sz86 rfl ha2 rfl (by omega) (by omega)) ?_
    refine dr_mem0 rfl rfl (wtd_none rfl) (x_loadN ag86 sz86 rfl (Cells.mono hc2 (Sub.takeE0 (by repeat (first | exact TakeE.here | apply TakeE.there | apply TakeE.app)))) rfl) ?_
    refine dr_cmp rfl rfl (wtd_none rfl) (x_neStruct Try.underlying86 ks86 rfl rfl rfl rfl rfl) (fun h6 => absurd h6 (by exact fun h => by rw [eqC_user] at h; cases h)) (fun h6 => ?_)
    refine dr_nil0 ?_
    refine aw_keep (keep_cons (t := 4) rfl (keep_cons (t := 7) rfl (keep_cons (t := 9) rfl (keep_cons (t := 10) rfl (keep_cons (t := 64) rfl (keep_cons (t := 65) rfl (keep_cons (t := 66) rfl (keep_cons (t := 67) rfl (keep_cons (t := 70) rfl (keep_cons (t := 71) rfl (keep_cons (t := 72) rfl (keep_cons (t := 73) rfl (keep_cons (t := 74) rfl (keep_cons (t := 75) rfl (keep_cons (t := 76) rfl (keep_cons (t := 77) rfl (keep_cons (t := 78) rfl (keep_cons (t := 79) rfl (keep_cons (t := 80) rfl (keep_cons (t := 81) rfl keep_nil)))))))))))))))))))) ?_
    refine aw_false rfl ?_
    refine aw_skip ?_
    show AW _ _ _ _ _ _ _
    refine aw_region ?_
    refine sr_x rfl (wtd_none rfl) rfl (Rd.x (x_move rfl)) ?_
    refine sr_x rfl (wtd_none rfl) rfl (Rd.x (x_add' rfl rfl (i64w (by omega) (by omega)))) ?_
    refine sr_x rfl (wtd_none rfl) rfl (Rd.x (x_assign rfl)) ?_
    refine sr_nil ?_
    show ∃ s', _ ∧ _ ∧ _ ∧ _
    exact ⟨k + 1, by omega, by omega, (by (repeat (first | exact keep_nil | refine keep_cons rfl ?_)); first | done | fail), (by repeat (first | exact Sub.refl _ | refine Sub.take (by repeat (first | exact Take.here | apply Take.there | apply Take.app)) ?_ | refine Sub.takeE (by repeat (first | exact TakeE.here | apply TakeE.there | apply TakeE.app)) ?_ | exact Sub.nil _ | apply Sub.drop | apply Sub.dropE))⟩
  · refine sr_nil ?_
    refine aw_keep (keep_cons (t := 4) rfl (keep_cons (t := 7) rfl (keep_cons (t := 9) rfl (keep_cons (t := 10) rfl (keep_cons (t := 64) rfl (keep_cons (t := 65) rfl (keep_cons (t := 66) rfl (keep_cons (t := 67) rfl keep_nil)))))))) ?_
    refine aw_false rfl ?_
    refine aw_exit ?_
    show AW _ _ _ _ _ _ _
    refine aw_seq_region ?_
    refine sr_x rfl (wtd_none rfl) rfl (Rd.x (x_move rfl)) ?_
    refine sr_d rfl (wtd_yes rfl rfl rfl) rfl (opS_call rfl rfl rfl rfl cl51 (awake32_s _)) ?_
    rintro _ H ⟨rfl, rfl⟩
    refine sr_x rfl (wtd_none rfl) rfl (Rd.x (x_pick_t rfl rfl rfl)) ?_
    refine sr_x rfl (wtd_none rfl) rfl (Rd.x (x_assign rfl)) ?_
    refine sr_nil ?_
    refine aw_keep (keep_cons (t := 4) rfl keep_nil) ?_
    refine aw_ret ?_
    show ∃ v H2, ResV _ _ _ _ _ _ v ∧ Sub H2 _ ∧ _
    exact ⟨_, [], resV rfl (.cons rfl .nil), (Sub.nil _), rfl⟩
theorem shareNews_s (half : Int) (a : Option Addr) (cap : Nat) (l : List User) (hs : ∀ G, SlV W0 G 3 User.cells a cap l) : AC Try.prog W0 8 [.int .i64 half, .slice a l.length cap] [] (fun v _ => v = .bool true) := by
  by_cases hb : half < 1 ∨ 1099511627776 < half
  · exact shareNews_bad half a cap l hs hb
  · obtain ⟨e, us, hA⟩ := AddAll.tot (l.take 20) [] List.Pairwise.nil
    by_cases he : e = 0
    · subst he; exact shareNews_ok half a cap l hs hb us hA
    · exact shareNews_err half a cap l hs hb us e hA he
end
namespace ShareNewsRow
open Go.ChangeShapes Go.WideShapes Go.ChangeAt Go.RowKit
theorem own : ownKnob Try.prog.godebug = none := by kernel_rfl
theorem laid : laidOutB Try.prog = true := by kernel_rfl
set_option maxRecDepth 100000 in
theorem lifted (os : Os) (started : os.Started) (H : Type) (enc : TypeId × Value → H) :
    ReturnsInHanded {} Try.checked os 8 .any (Rows.shareNewsSpec.pre6 enc Try.prog Try.f8 Rows.shareNewsRow.domain false) (Rows.shareNewsSpec.post enc Try.prog Try.f8 false true false false) := by
  refine law_lifted (C := Try.checked) (tb := 4) own started (by kernel_rfl) Try.func8 (ChangeSpec.witness6 (enc := enc) (C := Try.checked) false ⟨#[], #[.int .i64 0, .slice none 0 0], []⟩ 8 (by kernel_rfl) (by kernel_rfl) (by kernel_rfl) (by kernel_rfl)) rfl Try.underlying4 rfl laid (by kernel_rfl) ?_ ?_
  · intro ds h
    match ds, h with
    | [a0, a1], _ => rfl
  · intro W base args ds ps hval hA hlt hsz
    have hA' : DataW.TrodAll enc Try.prog W 0 (fun _ => true) true [2, 73] args ds ps := hA
    clear hA
    obtain ⟨v0, vs0, d0, ds0, p0, q0, rfl, rfl, rfl, h0, r0⟩ := trodAll_cons hA'
    obtain ⟨v1, vs1, d1, ds1, p1, q1, rfl, rfl, rfl, h1, r1⟩ := trodAll_cons r0
    obtain ⟨rfl, rfl, rfl⟩ := trodAll_nil r1
    obtain ⟨half, rfl, _⟩ := opn_int Try.underlying2 (hval 0 2 v0 rfl rfl) h0
    obtain ⟨a, cap, l, rfl, hs, _⟩ := opn_slice Try.underlying73 cells86 (by decide) (fun fuel cs x h => read_User h) (hval 1 73 v1 rfl rfl) h1
    exact shareNews_s half a cap l hs
theorem over : Rows.shareNewsRow.holds Try.pinned (OpenSpec.ofChange Rows.shareNewsSpec) :=
  OpenClaim.holds_of_wide 8 Try.f8 rfl rfl rfl rfl rfl rfl rfl ⟨rfl, rfl, rfl, rfl, rfl⟩ rfl rfl rfl rfl rfl (by kernel_rfl) Try.func8 (by kernel_rfl)
    (of_decide_eq_true (by kernel_rfl)) (by unfold Func.isWrapper; first | (rw [if_pos (by decide +kernel)]; kernel_rfl) | (rw [if_neg (by decide +kernel)]; exact ⟨rfl, rfl⟩))
    (fun os started H enc _ => lifted os started H enc)
theorem proved : Rows.ShareNewsSaid := over
#print axioms proved
end ShareNewsRow
end Go.Proofs.Yteilocpjikmmdaa
