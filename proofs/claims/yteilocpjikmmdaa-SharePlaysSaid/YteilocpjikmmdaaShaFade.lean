/- Use fades, and is charged: the book's and the law's calls. -/
import Derived.Test.YteilocpjikmmdaaShaOfNews
import Derived.Test.YteilocpjikmmdaaSymPlace
namespace Go.Proofs.Yteilocpjikmmdaa
open Go.Proofs.Yteilocpjikmmdaa.Sym
open Go.RowKit (Below)
set_option linter.unusedVariables false
set_option linter.unusedSimpArgs false
/-- Use, halved so many times. -/
def fd (n : Nat) (x : Int) : Int := ((x.toNat / 2 ^ n : Nat) : Int)
theorem fd_zero {x : Int} (hx : 0 ≤ x) : fd 0 x = x := by unfold fd; rw [Nat.pow_zero, Nat.div_one]; omega
theorem fd_succ (x : Int) (k : Nat) : (fd k x).tdiv 2 = fd (k + 1) x := by
  unfold fd
  rw [Nat.pow_succ, ← Nat.div_div_eq_div_mul]
  exact (Int.ofNat_tdiv _ 2).symm
theorem fd_rng {x : Int} (hx : 0 ≤ x) (n : Nat) : 0 ≤ fd n x ∧ fd n x ≤ x := by
  unfold fd
  have := Nat.div_le_self x.toNat (2 ^ n)
  generalize x.toNat / 2 ^ n = q at this ⊢
  omega
theorem fd_nn (n : Nat) (x : Int) : 0 ≤ fd n x := by unfold fd; exact Int.natCast_nonneg _
theorem fd_big {x : Int} (h2 : x ≤ 1125899906842624) {m : Nat} (hm : 51 ≤ m) : fd m x = 0 := by
  unfold fd
  have h1 := Nat.pow_le_pow_right (n := 2) (by decide) hm
  have h3 : (2 : Nat) ^ 51 = 2251799813685248 := by decide
  rw [Nat.div_eq_of_lt (by omega)]; rfl
theorem fd_end {x : Int} (h2 : x ≤ 1125899906842624) {k n : Nat} (hk : k ≤ n) (h : k = n ∨ fd k x ≤ 0) : fd k x = fd (min n 63) x := by
  rcases h with rfl | h
  · by_cases q : k ≤ 63
    · rw [Nat.min_eq_left q]
    · rw [fd_big h2 (by omega), Nat.min_eq_right (by omega), fd_big h2 (by decide)]
  · have h9 := fd_nn k x
    have h0 : fd k x = 0 := by omega
    by_cases q : n ≤ 63
    · rw [Nat.min_eq_left q, h0]
      unfold fd at h0 ⊢
      have h1 : x.toNat / 2 ^ k = 0 := by omega
      have h3 : x.toNat < 2 ^ k := by
        rcases Nat.lt_or_ge x.toNat (2 ^ k) with q | q
        · exact q
        · have := Nat.div_pos q (Nat.pow_pos (by decide)); omega
      have h4 := Nat.pow_le_pow_right (n := 2) (by decide) hk
      rw [Nat.div_eq_of_lt (by omega)]; rfl
    · rw [Nat.min_eq_right (by omega), h0, fd_big h2 (show 51 ≤ 63 by decide)]
theorem shr_fd {x : Int} (hx : 0 ≤ x) {n : Nat} : x.fdiv (2 ^ (min (min (n : Int) 63).toNat IntKind.i64.bits)) = fd (min n 63) x := by
  have e : min (min (n : Int) 63).toNat IntKind.i64.bits = min n 63 := by show min _ 64 = _; omega
  rw [e]
  unfold fd
  obtain ⟨m, rfl⟩ := Int.eq_ofNat_of_zero_le hx
  rw [Int.fdiv_eq_ediv_of_nonneg _ (by have : (0 : Int) < 2 ^ (min n 63) := Int.pow_pos (by omega); omega)]
  simp
def fdU (n : Nat) (u : User) : User := ⟨u.id, u.part, fd (min n 63) u.used⟩
/-- How often. -/
def tms (half now t : Int) : Nat := (t.tdiv half - now.tdiv half).toNat
theorem tms_eq {half now t : Int} (hh : 1 ≤ half) (h0 : 0 ≤ now) (ht : now ≤ t) : t.tdiv half - now.tdiv half = (tms half now t : Nat) ∧ 0 ≤ now.tdiv half ∧ t.tdiv half ≤ t := by
  have h1 := tdiv_bd2 (a := now) (n := half) h0 hh
  have h2 := tdiv_bd2 (a := t) (n := half) (by omega) hh
  have h3 : now.tdiv half ≤ t.tdiv half := by
    rw [Int.tdiv_eq_ediv_of_nonneg h0, Int.tdiv_eq_ediv_of_nonneg (by omega)]
    exact Int.ediv_le_ediv (by omega) ht
  unfold tms
  omega
def mixF (f : User → User) (us : List User) (k : Nat) : List User := (us.take k).map f ++ us.drop k
theorem mix_zero (f : User → User) (us : List User) : mixF f us 0 = us := by simp [mixF]
theorem mix_len {f : User → User} {us : List User} {k : Nat} (h : k ≤ us.length) : (mixF f us k).length = us.length := by
  unfold mixF; rw [List.length_append, List.length_map, List.length_take, List.length_drop]; omega
theorem mix_get {f : User → User} {us : List User} {k : Nat} {u : User} (h : us[k]? = some u) : (mixF f us k)[k]? = some u := by
  have hk := get_lt h
  unfold mixF
  have hl : ((us.take k).map f).length = k := by rw [List.length_map, List.length_take]; omega
  rw [List.getElem?_append_right (by omega), hl, List.getElem?_drop]
  simpa using h
theorem mix_set {f : User → User} {us : List User} {k : Nat} {u : User} (h : us[k]? = some u) : (mixF f us k).set k (f u) = mixF f us (k + 1) := by
  have hk := get_lt h
  unfold mixF
  have hl : ((us.take k).map f).length = k := by rw [List.length_map, List.length_take]; omega
  have hd : us.drop k = u :: us.drop (k + 1) := by
    have e : us[k] = u := by rw [List.getElem_eq_iff]; exact h
    rw [← e]; exact List.drop_eq_getElem_cons hk
  rw [List.set_append_right _ _ (by omega), hl, Nat.sub_self, hd, takeS h, List.map_append, List.append_assoc]
  rfl
theorem mix_full {f : User → User} {us : List User} {k : Nat} (h : us.length ≤ k) : mixF f us k = us.map f := by
  unfold mixF; rw [List.take_of_length_le h, List.drop_eq_nil_of_le h, List.append_nil]
theorem u_set {b c i : Nat} {D : List User} {u : User} {post : List Value} {n : Nat} (hl : D.length = n) (hp : post.length = (c - n) * 3) (hn : n ≤ c) (hc : c ≤ 9223372036854775807) : OwnVec 3 86 (.slice (some ⟨b, 0, none⟩) n c) n ((D.set i u).flatMap User.cells) [(b, .cells ((D.set i u).flatMap User.cells ++ post).toArray 86 (0, 0))] :=
  .mk (by rw [flat_len (n := 3) (enc := User.cells) (fun _ => rfl), List.length_set, hl]) hp hn hc
/-- Fade: the error, the users, the time. -/
def fadU (half now t : Int) (us : List User) : List User := if t < now ∨ 1099511627776 < t then us else us.map (fdU (tms half now t))
def fadE (now t : Int) : Int := if t < now ∨ 1099511627776 < t then 10 else 0
def fadN (now t : Int) : Int := if t < now ∨ 1099511627776 < t then now else t
theorem fad_len (half now t : Int) (us : List User) : (fadU half now t us).length = us.length := by unfold fadU; split <;> simp
structure FdG where
  k : Nat
  E : SHeap
/-- Charge: the error and the users. -/
def chU (use : Int) (u : User) : User := ⟨u.id, u.part, u.used + min use (1125899906842624 - u.used)⟩
def chgU (id use : Int) (us : List User) : List User := if use < 0 then us else us.map (fun u => if u.id = id then chU use u else u)
def chgE (id use : Int) (us : List User) : Int := if ∃ x ∈ us, x.id = id then (if use < 0 then 1 else 0) else 7
theorem chg_len (id use : Int) (us : List User) : (chgU id use us).length = us.length := by unfold chgU; split <;> simp
theorem chg_none {id use : Int} {us : List User} (h : ¬ ∃ x ∈ us, x.id = id) : chgU id use us = us ∧ chgE id use us = 7 := by
  unfold chgU chgE
  refine ⟨?_, if_neg h⟩
  split
  · rfl
  · have : us.map (fun u => if u.id = id then chU use u else u) = us.map (fun u => u) := List.map_congr_left fun u hu => if_neg fun e => h ⟨u, hu, e⟩
    rw [this]; exact List.map_id' us
theorem chg_neg {id use : Int} {us : List User} (h : use < 0) (hx : ∃ x ∈ us, x.id = id) : chgU id use us = us ∧ chgE id use us = 1 := by
  unfold chgU chgE
  rw [if_pos h, if_pos hx, if_pos h]; exact ⟨rfl, rfl⟩
theorem srt_other {us : List User} (hs : Srt us) {i j : Nat} {u v : User} (hu : us[i]? = some u) (hv : us[j]? = some v) (h : u.id = v.id) : i = j := by
  rcases Nat.lt_trichotomy i j with q | q | q
  · have hi := get_lt hu
    have hj := get_lt hv
    have h2 := (List.pairwise_iff_getElem.1 hs) i j hi hj q
    rw [List.getElem?_eq_getElem hi] at hu
    rw [List.getElem?_eq_getElem hj] at hv
    cases hu; cases hv; omega
  · exact q
  · have hi := get_lt hu
    have hj := get_lt hv
    have h2 := (List.pairwise_iff_getElem.1 hs) j i hj hi q
    rw [List.getElem?_eq_getElem hi] at hu
    rw [List.getElem?_eq_getElem hj] at hv
    cases hu; cases hv; omega
theorem chg_ok {id use : Int} {us : List User} (hs : Srt us) {i : Nat} {u : User} (hu : us[i]? = some u) (hid : u.id = id) (h : ¬ use < 0) : chgU id use us = us.set i (chU use u) ∧ chgE id use us = 0 := by
  unfold chgU chgE
  refine ⟨?_, by rw [if_pos ⟨u, List.mem_of_getElem? hu, hid⟩, if_neg h]⟩
  rw [if_neg h]
  apply List.ext_getElem?
  intro j
  rw [List.getElem?_map, List.getElem?_set]
  by_cases e : i = j
  · subst e
    rw [if_pos rfl, if_pos (get_lt hu), hu]
    show some (if u.id = id then chU use u else u) = _
    rw [if_pos hid]
  · rw [if_neg e]
    cases hj : us[j]? with
    | none => rfl
    | some v =>
      show some (if v.id = id then chU use v else v) = _
      rw [if_neg fun q => e (srt_other hs hu hj (hid.trans q.symm))]
theorem sat_chg {a b : Int} (h1 : 0 ≤ a) (h2 : a ≤ 1125899906842624) (hb : 0 ≤ b) : min (satAdd [a, b]) 1125899906842624 = a + min b (1125899906842624 - a) := by
  unfold satAdd
  simp only [List.foldl_cons, List.foldl_nil]
  omega
/-- What the book keeps. -/
structure BkI (half now : Int) (us : List User) : Prop where
  srt : Srt us
  good : ∀ x ∈ us, URight x
  now0 : 0 ≤ now ∧ now ≤ 1099511627776
theorem srt_map {f : User → User} (hf : ∀ u, (f u).id = u.id) {us : List User} (h : Srt us) : Srt (us.map f) := by
  unfold Srt at *
  rw [List.pairwise_map]
  exact h.imp fun {a b} q => by rw [hf, hf]; exact q
theorem BkI.fade {half now t : Int} {us : List User} (h : BkI half now us) : BkI half (fadN now t) (fadU half now t us) := by
  unfold fadN fadU
  by_cases q : t < now ∨ 1099511627776 < t
  · rw [if_pos q, if_pos q]; exact h
  · rw [if_neg q, if_neg q]
    refine ⟨srt_map (f := fdU (tms half now t)) (fun _ => rfl) h.srt, fun x hx => ?_, by have := h.now0; omega⟩
    rw [List.mem_map] at hx
    obtain ⟨u, hu, rfl⟩ := hx
    have hg := h.good u hu
    have hr := fd_rng hg.2.2.1 (min (tms half now t) 63)
    exact ⟨hg.1, hg.2.1, hr.1, Int.le_trans hr.2 hg.2.2.2⟩
theorem BkI.charge {half now id use : Int} {us : List User} (h : BkI half now us) : BkI half now (chgU id use us) := by
  unfold chgU
  split
  · exact h
  · next hn =>
    refine ⟨srt_map (f := fun u => if u.id = id then chU use u else u) (fun u => by split <;> rfl) h.srt, fun x hx => ?_, h.now0⟩
    rw [List.mem_map] at hx
    obtain ⟨u, hu, rfl⟩ := hx
    have hg := h.good u hu
    split
    · refine ⟨hg.1, hg.2.1, ?_, ?_⟩ <;> (show _ ≤ _; unfold chU; dsimp only; have := hg.2.2; omega)
    · exact hg
def sumU (us : List User) : Int := us.foldl (fun s u => s + u.used) 0
theorem sumU_take {us : List User} {k : Nat} {u : User} (h : us[k]? = some u) : sumU (us.take (k + 1)) = sumU (us.take k) + u.used := by
  unfold sumU; rw [takeS h, List.foldl_append]; rfl
theorem sum_fold : ∀ (us : List User) (s : Int), 0 ≤ s → s + 1125899906842624 * us.length ≤ 1152921504606846976 → (∀ x ∈ us, URight x) → us.foldl (fun s u => satAdd [s, u.used]) s = us.foldl (fun s u => s + u.used) s ∧ s ≤ us.foldl (fun s u => s + u.used) s ∧ us.foldl (fun s u => s + u.used) s ≤ s + 1125899906842624 * us.length
  | [], s, _, _, _ => by simp
  | x :: us, s, h1, h2, h3 => by
    have hx := (h3 x List.mem_cons_self).2.2
    rw [List.length_cons] at h2
    have e : satAdd [s, x.used] = s + x.used := by
      unfold satAdd
      simp only [List.foldl_cons, List.foldl_nil]
      omega
    have ih := sum_fold us (s + x.used) (by omega) (by omega) fun y hy => h3 y (List.mem_cons_of_mem _ hy)
    rw [List.foldl_cons, List.foldl_cons, List.length_cons, e]
    refine ⟨ih.1, by omega, by omega⟩
theorem allOf_sum {us : List User} (hl : us.length ≤ 20) (hg : ∀ x ∈ us, URight x) : allOf us = sumU us := (sum_fold us 0 (by omega) (by omega) hg).1
theorem sumU_bd {us : List User} (hl : us.length ≤ 20) (hg : ∀ x ∈ us, URight x) : 0 ≤ sumU us ∧ sumU us ≤ 1125899906842624 * us.length := by
  have := (sum_fold us 0 (by omega) (by omega) hg).2
  unfold sumU; omega
theorem fad_bad {half now t : Int} {us : List User} (h : t < now ∨ 1099511627776 < t) : fadE now t = 10 ∧ fadU half now t us = us ∧ fadN now t = now := ⟨if_pos h, if_pos h, if_pos h⟩
theorem fad_ok {half now t : Int} {us : List User} (h : ¬ (t < now ∨ 1099511627776 < t)) : fadE now t = 0 ∧ fadU half now t us = us.map (fdU (tms half now t)) ∧ fadN now t = t := ⟨if_neg h, if_neg h, if_neg h⟩
theorem due_zero {us : List User} {x : User} (h : ¬ 0 < sumU us) (h0 : 0 ≤ sumU us) (hl : us.length ≤ 20) (hg : ∀ x ∈ us, URight x) : dueOf us x = (1000 * x.part).tdiv (partsOf us) := by
  unfold dueOf
  rw [allOf_sum hl hg, if_pos (by omega), Int.mul_comm]
theorem due_pos {us : List User} {x : User} (h : 0 < sumU us) (hl : us.length ≤ 20) (hg : ∀ x ∈ us, URight x) : dueOf us x = max ((1000 * x.part).tdiv (partsOf us) - x.used.tdiv ((sumU us + 999).tdiv 1000)) 0 := by
  have h2 := tdiv_bd2 (a := sumU us + 999) (n := 1000) (by omega) (by omega)
  have h3 : 1 ≤ (sumU us + 999).tdiv 1000 := by rw [Int.tdiv_eq_ediv_of_nonneg (by omega)]; omega
  unfold dueOf
  rw [allOf_sum hl hg, if_neg (by omega), Int.mul_comm, Int.max_eq_left h3]
structure ChG where
  k : Nat
theorem spl_chA {u : User} {use : Int} (h : 1125899906842624 - u.used < use) : Spl (User.cells u) 2 [.int .i64 (u.used + (1125899906842624 - u.used))] (User.cells (chU use u)) := by
  have : u.used + (1125899906842624 - u.used) = u.used + min use (1125899906842624 - u.used) := by omega
  rw [this]
  exact .skip (.skip (.put .done))
theorem spl_chB {u : User} {use : Int} (h : ¬ 1125899906842624 - u.used < use) : Spl (User.cells u) 2 [.int .i64 (u.used + use)] (User.cells (chU use u)) := by
  have : u.used + use = u.used + min use (1125899906842624 - u.used) := by omega
  rw [this]
  exact .skip (.skip (.put .done))
theorem fd83_1 : fldOf Try.prog 83 1 = some (1, 2, 1) := by kernel_rfl
theorem fd83_2 : fldOf Try.prog 83 2 = some (2, 2, 1) := by kernel_rfl
section
variable {W0 : World}
set_option maxRecDepth 100000 in
set_option maxHeartbeats 1000000 in
theorem fade_s (p : Nat) (a : Option Addr) (cap : Nat) (us : List User) (half now : Int) (E G : SHeap) (V : OwnVec 3 86 (.slice a us.length cap) us.length (us.flatMap User.cells) E) (hn : us.length ≤ 20) (hi : BkI half now us) (hh : 1 ≤ half) (t : Int) : AC Try.prog W0 80 [.pointer (some ⟨p, 0, none⟩), .int .i64 t] (bk p (.slice a us.length cap) half now :: (E ++ G)) (fun v H' => v = .int .i64 (fadE now t) ∧ ∃ E', OwnVec 3 86 (.slice a us.length cap) us.length ((fadU half now t us).flatMap User.cells) E' ∧ H' = bk p (.slice a us.length cap) half (fadN now t) :: (E' ++ G)) := by
  have hle := (V.slv' (W0 := W0) (fun _ => rfl) rfl (Sub.refl _)).le
  have hcb := (V.slv' (W0 := W0) (fun _ => rfl) rfl (Sub.refl _)).capb
  have hn0 := hi.now0
  refine ac_of Try.func80 rfl rfl rfl ?_
  refine aw_seq_region ?_
  refine sr_x rfl (wtd_none rfl) rfl (Rd.x (x_assign rfl)) ?_
  refine sr_nil ?_
  refine aw_keep (keep_cons (t := 0) rfl (keep_cons (t := 1) rfl (keep_cons (t := 4) rfl keep_nil))) ?_
  refine aw_seq ?_
  refine aw_block ?_
  refine aw_seq_region ?_
  refine sr_x rfl (wtd_none rfl) rfl (Rd.x (x_move rfl)) ?_
  refine sr_d rfl (wtd_none rfl) rfl (opS_call rfl rfl rfl rfl cl110 (unone_s p _ half now _ (cells_ext (by repeat (first | exact List.mem_cons_self | apply List.mem_cons_of_mem | apply List.mem_append_right)) (by repeat (first | exact Ext.all _ | exact Ext.done | apply Ext.take | apply Ext.skip))) (by omega))) ?_
  rintro _ H9 ⟨rfl, rfl⟩
  refine sr_x rfl (wtd_none rfl) rfl (Rd.x (x_assign rfl)) ?_
  refine sr_nil ?_
  refine aw_keep (keep_cons (t := 0) rfl (keep_cons (t := 1) rfl (keep_cons (t := 4) rfl (keep_cons (t := 7) rfl keep_nil)))) ?_
  refine aw_false rfl ?_
  refine aw_seq_region ?_
  refine sr_x rfl (wtd_none rfl) rfl (Rd.x (x_move rfl)) ?_
  refine sr_x rfl (wtd_none rfl) rfl (Rd.x (x_move rfl)) ?_
  refine sr_x rfl (wtd_none rfl) rfl (Rd.x (x_nilCheck rfl)) ?_
  refine sr_x rfl (wtd_none rfl) rfl (Rd.x (x_fieldAddr fd141_2 rfl)) ?_
  refine sr_x rfl (wtd_none rfl) rfl (Rd.x (x_load ag2 rfl (cells_ext (by repeat (first | exact List.mem_cons_self | apply List.mem_cons_of_mem | apply List.mem_append_right)) (by repeat (first | exact Ext.all _ | exact Ext.done | apply Ext.take | apply Ext.skip))))) ?_
  refine sr_cmp rfl (wtd_none rfl) rfl (Rd.x (x_lt rfl rfl)) (fun h1 => ?_) (fun h1 => ?_)
  · refine sr_x rfl (wtd_none rfl) rfl (Rd.x (x_move rfl)) ?_
    refine sr_skip rfl (wtd_no rfl rfl rfl rfl) rfl ?_
    refine sr_skip rfl (wtd_no rfl rfl rfl rfl) rfl ?_
    refine sr_x rfl (wtd_none rfl) rfl (Rd.x (x_pick_t rfl rfl rfl)) ?_
    refine sr_x rfl (wtd_none rfl) rfl (Rd.x (x_assign rfl)) ?_
    refine sr_nil ?_
    refine aw_keep (keep_cons (t := 0) rfl (keep_cons (t := 1) rfl (keep_cons (t := 4) rfl (keep_cons (t := 10) rfl keep_nil)))) ?_
    refine aw_true rfl ?_
    refine aw_seq_region ?_
    refine sr_x rfl (wtd_none rfl) rfl (Rd.x (x_assign rfl)) ?_
    refine sr_nil ?_
    refine aw_keep (keep_cons (t := 0) rfl (keep_cons (t := 1) rfl (keep_cons (t := 4) rfl keep_nil))) ?_
    refine aw_ret ?_
    show ∃ v H2, ResV _ _ _ _ _ _ v ∧ Sub H2 _ ∧ _
    first | (obtain ⟨q1, q2, q3⟩ := fad_bad (half := half) (us := us) (show t < now ∨ 1099511627776 < t by omega); rw [q1, q2, q3]; exact ⟨_, bk p (.slice a us.length cap) half now :: (E ++ G), resV rfl (.cons rfl .nil), Sub.refl _, rfl, E, V, rfl⟩) | (obtain ⟨q1, q2, q3⟩ := fad_ok (half := half) (us := us) (show ¬ (t < now ∨ 1099511627776 < t) by omega); rw [q1, q2, q3]; rw [mix_full (show us.length ≤ k by omega)] at VK; exact ⟨_, bk p (.slice a us.length cap) half t :: (EK ++ G), resV rfl (.cons rfl .nil), Sub.refl _, rfl, EK, VK, rfl⟩)
  · refine sr_x rfl (wtd_none rfl) rfl (Rd.x (x_move rfl)) ?_
    refine sr_x rfl (wtd_yes rfl rfl rfl) rfl (Rd.x (x_move rfl)) ?_
    refine sr_cmp rfl (wtd_yes rfl rfl rfl) rfl (Rd.x (x_gt rfl rfl)) (fun h2 => ?_) (fun h2 => ?_)
    · refine sr_x rfl (wtd_none rfl) rfl (Rd.x (x_pick_f rfl rfl rfl)) ?_
      refine sr_x rfl (wtd_none rfl) rfl (Rd.x (x_assign rfl)) ?_
      refine sr_nil ?_
      refine aw_keep (keep_cons (t := 0) rfl (keep_cons (t := 1) rfl (keep_cons (t := 4) rfl (keep_cons (t := 10) rfl keep_nil)))) ?_
      refine aw_true rfl ?_
      refine aw_seq_region ?_
      refine sr_x rfl (wtd_none rfl) rfl (Rd.x (x_assign rfl)) ?_
      refine sr_nil ?_
      refine aw_keep (keep_cons (t := 0) rfl (keep_cons (t := 1) rfl (keep_cons (t := 4) rfl keep_nil))) ?_
      refine aw_ret ?_
      show ∃ v H2, ResV _ _ _ _ _ _ v ∧ Sub H2 _ ∧ _
      first | (obtain ⟨q1, q2, q3⟩ := fad_bad (half := half) (us := us) (show t < now ∨ 1099511627776 < t by omega); rw [q1, q2, q3]; exact ⟨_, bk p (.slice a us.length cap) half now :: (E ++ G), resV rfl (.cons rfl .nil), Sub.refl _, rfl, E, V, rfl⟩) | (obtain ⟨q1, q2, q3⟩ := fad_ok (half := half) (us := us) (show ¬ (t < now ∨ 1099511627776 < t) by omega); rw [q1, q2, q3]; rw [mix_full (show us.length ≤ k by omega)] at VK; exact ⟨_, bk p (.slice a us.length cap) half t :: (EK ++ G), resV rfl (.cons rfl .nil), Sub.refl _, rfl, EK, VK, rfl⟩)
    · refine sr_x rfl (wtd_none rfl) rfl (Rd.x (x_pick_f rfl rfl rfl)) ?_
      refine sr_x rfl (wtd_none rfl) rfl (Rd.x (x_assign rfl)) ?_
      refine sr_nil ?_
      refine aw_keep (keep_cons (t := 0) rfl (keep_cons (t := 1) rfl (keep_cons (t := 4) rfl (keep_cons (t := 10) rfl keep_nil)))) ?_
      refine aw_false rfl ?_
      refine aw_skip ?_
      show AW _ _ _ _ _ _ _
      refine aw_seq_dr ⟨_, 17, 63, [[], [], [1], [1, 2], [1, 2, 3], [0, 1, 2, 3, 4], [], [6], [6, 7], [6, 7, 8], [], [10], [10, 11], [10, 11, 12], [6, 7, 8, 9, 10, 11, 12, 13], [0, 1, 2, 3, 4, 5, 6, 7, 8, 9, 10, 11, 12, 13, 14], [0, 1, 2, 3, 4, 5, 6, 7, 8, 9, 10, 11, 12, 13, 14, 15]], [.light, .light, .light, .light, .mem, .light, .light, .light, .light, .mem, .light, .light, .light, .mem, .light, .light, .light]⟩ (by kernel_rfl) rfl rfl mix ?_
      obtain ⟨hte, hte1, hte2⟩ := tms_eq (t := t) hh hn0.1 (by omega)
      have hq1 := tdiv_bd2 (a := t) (n := half) (by omega) hh
      have hq2 := tdiv_bd2 (a := now) (n := half) (by omega) hh
      refine dr_light rfl rfl (wtd_none rfl) (x_move rfl) ?_
      refine dr_light rfl rfl (wtd_none rfl) (x_move rfl) ?_
      refine dr_light rfl rfl (wtd_none rfl) (x_nilCheck rfl) ?_
      refine dr_light rfl rfl (wtd_none rfl) (x_fieldAddr fd141_1 rfl) ?_
      refine dr_mem0 rfl rfl (wtd_none rfl) (x_load ag2 rfl (cells_ext (by repeat (first | exact List.mem_cons_self | apply List.mem_cons_of_mem | apply List.mem_append_right)) (by repeat (first | exact Ext.all _ | exact Ext.done | apply Ext.take | apply Ext.skip)))) ?_
      refine dr_light rfl rfl (wtd_none rfl) (x_quo' rfl rfl (by omega) (i64w (by omega) (by omega))) ?_
      refine dr_light rfl rfl (wtd_none rfl) (x_move rfl) ?_
      refine dr_light rfl rfl (wtd_none rfl) (x_nilCheck rfl) ?_
      refine dr_light rfl rfl (wtd_none rfl) (x_fieldAddr fd141_2 rfl) ?_
      refine dr_mem0 rfl rfl (wtd_none rfl) (x_load ag2 rfl (cells_ext (by repeat (first | exact List.mem_cons_self | apply List.mem_cons_of_mem | apply List.mem_append_right)) (by repeat (first | exact Ext.all _ | exact Ext.done | apply Ext.take | apply Ext.skip)))) ?_
      refine dr_light rfl rfl (wtd_none rfl) (x_move rfl) ?_
      refine dr_light rfl rfl (wtd_none rfl) (x_nilCheck rfl) ?_
      refine dr_light rfl rfl (wtd_none rfl) (x_fieldAddr fd141_1 rfl) ?_
      refine dr_mem0 rfl rfl (wtd_none rfl) (x_load ag2 rfl (cells_ext (by repeat (first | exact List.mem_cons_self | apply List.mem_cons_of_mem | apply List.mem_append_right)) (by repeat (first | exact Ext.all _ | exact Ext.done | apply Ext.take | apply Ext.skip)))) ?_
      refine dr_light rfl rfl (wtd_none rfl) (x_quo' rfl rfl (by omega) (i64w (by omega) (by omega))) ?_
      refine dr_light rfl rfl (wtd_none rfl) (x_cast (u := .int .i64 (((tms half now t) : Nat) : Int)) (x_sub' rfl rfl (i64w (by omega) (by omega))) (congrArg (Value.int .i64) hte)) ?_
      refine dr_light rfl rfl (wtd_none rfl) (x_assign rfl) ?_
      refine dr_nil0 ?_
      refine aw_keep (keep_cons (t := 0) rfl (keep_cons (t := 1) rfl (keep_cons (t := 4) rfl (keep_cons (t := 5) rfl keep_nil)))) ?_
      refine aw_seq ?_
      refine aw_seq_region ?_
      refine sr_x rfl (wtd_none rfl) rfl (Rd.x (x_move rfl)) ?_
      refine sr_x rfl (wtd_none rfl) rfl (Rd.x (x_nilCheck rfl)) ?_
      refine sr_x rfl (wtd_none rfl) rfl (Rd.x (x_fieldAddr fd141_0 rfl)) ?_
      refine sr_x rfl (wtd_none rfl) rfl (Rd.x (x_load ag73 rfl (cells_ext (by repeat (first | exact List.mem_cons_self | apply List.mem_cons_of_mem | apply List.mem_append_right)) (by repeat (first | exact Ext.all _ | exact Ext.done | apply Ext.take | apply Ext.skip))))) ?_
      refine sr_x rfl (wtd_none rfl) rfl (Rd.x (x_lenSlice Try.underlying73 rfl)) ?_
      refine sr_x rfl (wtd_none rfl) rfl (Rd.x (x_move rfl)) ?_
      refine sr_nil ?_
      refine aw_keep (keep_cons (t := 0) rfl (keep_cons (t := 1) rfl (keep_cons (t := 4) rfl (keep_cons (t := 5) rfl (keep_cons (t := 41) rfl (keep_cons (t := 42) rfl keep_nil)))))) ?_
      refine aw_block ?_
      refine aw_loop (ι := FdG) (fun s => s.k ≤ us.length ∧ OwnVec 3 86 (.slice a us.length cap) us.length ((mixF (fdU (tms half now t)) us s.k).flatMap User.cells) s.E) (fun s => [(0, .pointer (some ⟨p, 0, none⟩)), (1, .int .i64 t), (4, .int .i64 0), (5, .int .i64 ((tms half now t) : Nat)), (41, .int .i64 us.length), (42, .int .i64 s.k)]) (fun s => bk p (.slice a us.length cap) half now :: (s.E ++ G)) (fun s => us.length - s.k) ⟨0, E⟩ (⟨Nat.zero_le _, by dsimp only; rw [mix_zero]; exact V⟩) (by (repeat (first | exact keep_nil | refine keep_cons rfl ?_)); first | done | fail) (by repeat (first | exact Sub.refl _ | refine Sub.take (by repeat (first | exact Take.here | apply Take.there | apply Take.app)) ?_ | refine Sub.takeE (by repeat (first | exact TakeE.here | apply TakeE.there | apply TakeE.app)) ?_ | exact Sub.nil _ | apply Sub.drop | apply Sub.dropE)) ?_
      intro s hs9
      obtain ⟨k, EK⟩ := s
      dsimp only at hs9 ⊢
      obtain ⟨hk, VK⟩ := hs9
      refine aw_seq_region ?_
      refine sr_cmp rfl (wtd_none rfl) rfl (Rd.x (x_lt rfl rfl)) (fun h3 => ?_) (fun h3 => ?_)
      · refine sr_nil ?_
        refine aw_keep (keep_cons (t := 0) rfl (keep_cons (t := 1) rfl (keep_cons (t := 4) rfl (keep_cons (t := 5) rfl (keep_cons (t := 41) rfl (keep_cons (t := 42) rfl (keep_cons (t := 43) rfl keep_nil))))))) ?_
        refine aw_seq ?_
        refine aw_true rfl ?_
        refine aw_skip ?_
        show AW _ _ _ _ _ _ _
        refine aw_seq ?_
        refine aw_block ?_
        refine aw_seq_region ?_
        refine sr_x rfl (wtd_none rfl) rfl (Rd.x (x_move rfl)) ?_
        refine sr_x rfl (wtd_none rfl) rfl (Rd.x (x_assign rfl)) ?_
        refine sr_nil ?_
        refine aw_keep (keep_cons (t := 0) rfl (keep_cons (t := 1) rfl (keep_cons (t := 4) rfl (keep_cons (t := 5) rfl (keep_cons (t := 6) rfl (keep_cons (t := 41) rfl (keep_cons (t := 42) rfl (keep_cons (t := 43) rfl (keep_cons (t := 44) rfl keep_nil))))))))) ?_
        refine aw_region ?_
        obtain ⟨u, hu⟩ := get_ex (show k < us.length by omega)
        have hgu := hi.good u (List.mem_of_getElem? hu)
        obtain ⟨bj, oj, haj, hcj⟩ := (VK.slv' (W0 := W0) (xs := (mixF (fdU (tms half now t)) us k)) (fun _ => rfl) (mix_len hk).symm (Sub.refl _)).at_ k u (mix_get hu)
        subst haj
        obtain ⟨rfl, _, post, rfl, hpL, hpl, hpn, hpc⟩ := VK.blk
        refine sr_x rfl (wtd_none rfl) rfl (Rd.x (x_move rfl)) ?_
        refine sr_x rfl (wtd_none rfl) rfl (Rd.x (x_nilCheck rfl)) ?_
        refine sr_x rfl (wtd_none rfl) rfl (Rd.x (x_fieldAddr fd141_0 rfl)) ?_
        refine sr_x rfl (wtd_none rfl) rfl (Rd.x (x_load ag73 rfl (cells_ext (by repeat (first | exact List.mem_cons_self | apply List.mem_cons_of_mem | apply List.mem_append_right)) (by repeat (first | exact Ext.all _ | exact Ext.done | apply Ext.take | apply Ext.skip))))) ?_
        refine sr_x rfl (wtd_none rfl) rfl (Rd.x (x_move rfl)) ?_
        refine sr_x rfl (wtd_none rfl) rfl (Rd.x (x_indexAddrN (k) Try.underlying73 sz86 rfl rfl rfl (by omega) (by omega))) ?_
        refine sr_x rfl (wtd_none rfl) rfl (Rd.x (x_fieldAddr fd86_2 rfl)) ?_
        refine sr_x rfl (wtd_none rfl) rfl (Rd.x (x_load ag2 rfl (cells_get (cells_flat0 (n := 3) (enc := User.cells) (fun _ => rfl) (xs := (mixF (fdU (tms half now t)) us k)) (post := post) (show (bj, Obj.cells ((mixF (fdU (tms half now t)) us k).flatMap User.cells ++ post).toArray 86 (0, 0)) ∈ _ from (by repeat (first | exact List.mem_cons_self | apply List.mem_cons_of_mem | apply List.mem_append_right))) (mix_get hu)) 2 rfl))) ?_
        refine sr_x rfl (wtd_none rfl) rfl (Rd.x (x_move rfl)) ?_
        refine sr_x rfl (wtd_none rfl) rfl (Rd.x (x_min rfl rfl)) ?_
        refine sr_x rfl (wtd_none rfl) rfl (Rd.x (x_cast (u := .int .i64 (fd (min (tms half now t) 63) u.used)) (x_shr rfl rfl (by omega)) (congrArg (Value.int .i64) (shr_fd hgu.2.2.1)))) ?_
        refine sr_x rfl (wtd_none rfl) rfl (Rd.x (x_indexAddrN (k) Try.underlying73 sz86 rfl rfl rfl (by omega) (by omega))) ?_
        refine sr_x rfl (wtd_none rfl) rfl (Rd.x (x_fieldAddr fd86_2 rfl)) ?_
        refine sr_x0 rfl (wtd_none rfl) (x_store sz2 rfl rfl rfl rfl rfl (by repeat (first | exact Repl.here | apply Repl.there | apply Repl.app)) (spl_fld0 (enc := User.cells) (xs := (mixF (fdU (tms half now t)) us k)) (post := post) (x := u) (x' := fdU (tms half now t) u) (fun _ => rfl) (mix_get hu) (by repeat (first | exact Spl.done | exact Spl.all rfl | apply Spl.put | apply Spl.skip)))) ?_
        refine sr_nil ?_
        show AW _ _ _ _ _ _ _
        refine aw_region ?_
        refine sr_x rfl (wtd_none rfl) rfl (Rd.x (x_add' rfl rfl (i64w (by omega) (by omega)))) ?_
        refine sr_x rfl (wtd_none rfl) rfl (Rd.x (x_move rfl)) ?_
        refine sr_nil ?_
        show ∃ s', _ ∧ _ ∧ _ ∧ _
        exact ⟨⟨k + 1, [(bj, .cells (((mixF (fdU (tms half now t)) us k).set k (fdU (tms half now t) u)).flatMap User.cells ++ post).toArray 86 (0, 0))]⟩, ⟨by dsimp only; omega, (by dsimp only; rw [← mix_set hu]; exact u_set (mix_len hk) hpl hpn hpc)⟩, by dsimp only; omega, (by (repeat (first | exact keep_nil | refine keep_cons rfl ?_)); first | done | fail), (by repeat (first | exact Sub.refl _ | refine Sub.take (by repeat (first | exact Take.here | apply Take.there | apply Take.app)) ?_ | refine Sub.takeE (by repeat (first | exact TakeE.here | apply TakeE.there | apply TakeE.app)) ?_ | exact Sub.nil _ | apply Sub.drop | apply Sub.dropE))⟩
      · refine sr_nil ?_
        refine aw_keep (keep_cons (t := 0) rfl (keep_cons (t := 1) rfl (keep_cons (t := 4) rfl (keep_cons (t := 5) rfl (keep_cons (t := 41) rfl (keep_cons (t := 42) rfl (keep_cons (t := 43) rfl keep_nil))))))) ?_
        refine aw_seq ?_
        refine aw_false rfl ?_
        refine aw_exit ?_
        show AW _ _ _ _ _ _ _
        refine aw_seq_region ?_
        refine sr_x rfl (wtd_none rfl) rfl (Rd.x (x_move rfl)) ?_
        refine sr_x rfl (wtd_none rfl) rfl (Rd.x (x_move rfl)) ?_
        refine sr_x rfl (wtd_none rfl) rfl (Rd.x (x_nilCheck rfl)) ?_
        refine sr_x rfl (wtd_none rfl) rfl (Rd.x (x_fieldAddr fd141_2 rfl)) ?_
        refine sr_x0 rfl (wtd_none rfl) (x_store sz2 rfl rfl rfl rfl rfl (by repeat (first | exact Repl.here | apply Repl.there | apply Repl.app)) (by repeat (first | exact Spl.done | exact Spl.all rfl | apply Spl.put | apply Spl.skip))) ?_
        refine sr_nil ?_
        refine aw_keep (keep_cons (t := 4) rfl keep_nil) ?_
        refine aw_seq_region ?_
        refine sr_x rfl (wtd_none rfl) rfl (Rd.x (x_assign rfl)) ?_
        refine sr_nil ?_
        refine aw_keep (keep_cons (t := 4) rfl keep_nil) ?_
        refine aw_ret ?_
        show ∃ v H2, ResV _ _ _ _ _ _ v ∧ Sub H2 _ ∧ _
        first | (obtain ⟨q1, q2, q3⟩ := fad_bad (half := half) (us := us) (show t < now ∨ 1099511627776 < t by omega); rw [q1, q2, q3]; exact ⟨_, bk p (.slice a us.length cap) half now :: (E ++ G), resV rfl (.cons rfl .nil), Sub.refl _, rfl, E, V, rfl⟩) | (obtain ⟨q1, q2, q3⟩ := fad_ok (half := half) (us := us) (show ¬ (t < now ∨ 1099511627776 < t) by omega); rw [q1, q2, q3]; rw [mix_full (show us.length ≤ k by omega)] at VK; exact ⟨_, bk p (.slice a us.length cap) half t :: (EK ++ G), resV rfl (.cons rfl .nil), Sub.refl _, rfl, EK, VK, rfl⟩)
set_option maxRecDepth 100000 in
set_option maxHeartbeats 1000000 in
theorem pfade_s (p : Nat) (a : Option Addr) (cap : Nat) (us : List User) (half now : Int) (E G : SHeap) (V : OwnVec 3 86 (.slice a us.length cap) us.length (us.flatMap User.cells) E) (hn : us.length ≤ 20) (hi : BkI half now us) (hh : 1 ≤ half) (t : Int) : AC Try.prog W0 81 [.pointer (some ⟨p, 0, none⟩), .int .i64 t] (pk p (.slice a us.length cap) half now :: (E ++ G)) (fun v H' => v = .int .i64 (fadE now t) ∧ ∃ E', OwnVec 3 86 (.slice a us.length cap) us.length ((fadU half now t us).flatMap User.cells) E' ∧ H' = pk p (.slice a us.length cap) half (fadN now t) :: (E' ++ G)) := by
  have hle := (V.slv' (W0 := W0) (fun _ => rfl) rfl (Sub.refl _)).le
  have hcb := (V.slv' (W0 := W0) (fun _ => rfl) rfl (Sub.refl _)).capb
  have hn0 := hi.now0
  refine ac_of Try.func81 rfl rfl rfl ?_
  refine aw_seq_region ?_
  refine sr_x rfl (wtd_none rfl) rfl (Rd.x (x_assign rfl)) ?_
  refine sr_nil ?_
  refine aw_keep (keep_cons (t := 0) rfl (keep_cons (t := 1) rfl (keep_cons (t := 4) rfl keep_nil))) ?_
  refine aw_seq ?_
  refine aw_seq_region ?_
  refine sr_x rfl (wtd_none rfl) rfl (Rd.x (x_move rfl)) ?_
  refine sr_x rfl (wtd_none rfl) rfl (Rd.x (x_move rfl)) ?_
  refine sr_x rfl (wtd_none rfl) rfl (Rd.x (x_nilCheck rfl)) ?_
  refine sr_x rfl (wtd_none rfl) rfl (Rd.x (x_fieldAddr fd83_2 rfl)) ?_
  refine sr_x rfl (wtd_none rfl) rfl (Rd.x (x_load ag2 rfl (cells_ext (by repeat (first | exact List.mem_cons_self | apply List.mem_cons_of_mem | apply List.mem_append_right)) (by repeat (first | exact Ext.all _ | exact Ext.done | apply Ext.take | apply Ext.skip))))) ?_
  refine sr_cmp rfl (wtd_none rfl) rfl (Rd.x (x_lt rfl rfl)) (fun h1 => ?_) (fun h1 => ?_)
  · refine sr_x rfl (wtd_none rfl) rfl (Rd.x (x_move rfl)) ?_
    refine sr_skip rfl (wtd_no rfl rfl rfl rfl) rfl ?_
    refine sr_skip rfl (wtd_no rfl rfl rfl rfl) rfl ?_
    refine sr_x rfl (wtd_none rfl) rfl (Rd.x (x_pick_t rfl rfl rfl)) ?_
    refine sr_nil ?_
    refine aw_keep (keep_cons (t := 0) rfl (keep_cons (t := 1) rfl (keep_cons (t := 4) rfl (keep_cons (t := 18) rfl keep_nil)))) ?_
    refine aw_true rfl ?_
    refine aw_seq_region ?_
    refine sr_x rfl (wtd_none rfl) rfl (Rd.x (x_assign rfl)) ?_
    refine sr_nil ?_
    refine aw_keep (keep_cons (t := 0) rfl (keep_cons (t := 1) rfl (keep_cons (t := 4) rfl keep_nil))) ?_
    refine aw_ret ?_
    show ∃ v H2, ResV _ _ _ _ _ _ v ∧ Sub H2 _ ∧ _
    first | (obtain ⟨q1, q2, q3⟩ := fad_bad (half := half) (us := us) (show t < now ∨ 1099511627776 < t by omega); rw [q1, q2, q3]; exact ⟨_, pk p (.slice a us.length cap) half now :: (E ++ G), resV rfl (.cons rfl .nil), Sub.refl _, rfl, E, V, rfl⟩) | (obtain ⟨q1, q2, q3⟩ := fad_ok (half := half) (us := us) (show ¬ (t < now ∨ 1099511627776 < t) by omega); rw [q1, q2, q3]; rw [mix_full (show us.length ≤ k by omega)] at VK; exact ⟨_, pk p (.slice a us.length cap) half t :: (EK ++ G), resV rfl (.cons rfl .nil), Sub.refl _, rfl, EK, VK, rfl⟩)
  · refine sr_x rfl (wtd_none rfl) rfl (Rd.x (x_move rfl)) ?_
    refine sr_x rfl (wtd_yes rfl rfl rfl) rfl (Rd.x (x_move rfl)) ?_
    refine sr_cmp rfl (wtd_yes rfl rfl rfl) rfl (Rd.x (x_gt rfl rfl)) (fun h2 => ?_) (fun h2 => ?_)
    · refine sr_x rfl (wtd_none rfl) rfl (Rd.x (x_pick_f rfl rfl rfl)) ?_
      refine sr_nil ?_
      refine aw_keep (keep_cons (t := 0) rfl (keep_cons (t := 1) rfl (keep_cons (t := 4) rfl (keep_cons (t := 18) rfl keep_nil)))) ?_
      refine aw_true rfl ?_
      refine aw_seq_region ?_
      refine sr_x rfl (wtd_none rfl) rfl (Rd.x (x_assign rfl)) ?_
      refine sr_nil ?_
      refine aw_keep (keep_cons (t := 0) rfl (keep_cons (t := 1) rfl (keep_cons (t := 4) rfl keep_nil))) ?_
      refine aw_ret ?_
      show ∃ v H2, ResV _ _ _ _ _ _ v ∧ Sub H2 _ ∧ _
      first | (obtain ⟨q1, q2, q3⟩ := fad_bad (half := half) (us := us) (show t < now ∨ 1099511627776 < t by omega); rw [q1, q2, q3]; exact ⟨_, pk p (.slice a us.length cap) half now :: (E ++ G), resV rfl (.cons rfl .nil), Sub.refl _, rfl, E, V, rfl⟩) | (obtain ⟨q1, q2, q3⟩ := fad_ok (half := half) (us := us) (show ¬ (t < now ∨ 1099511627776 < t) by omega); rw [q1, q2, q3]; rw [mix_full (show us.length ≤ k by omega)] at VK; exact ⟨_, pk p (.slice a us.length cap) half t :: (EK ++ G), resV rfl (.cons rfl .nil), Sub.refl _, rfl, EK, VK, rfl⟩)
    · refine sr_x rfl (wtd_none rfl) rfl (Rd.x (x_pick_f rfl rfl rfl)) ?_
      refine sr_nil ?_
      refine aw_keep (keep_cons (t := 0) rfl (keep_cons (t := 1) rfl (keep_cons (t := 4) rfl (keep_cons (t := 18) rfl keep_nil)))) ?_
      refine aw_false rfl ?_
      refine aw_skip ?_
      show AW _ _ _ _ _ _ _
      refine aw_seq_dr ⟨_, 17, 76, [[], [], [1], [1, 2], [1, 2, 3], [0, 1, 2, 3, 4], [], [6], [6, 7], [6, 7, 8], [], [10], [10, 11], [10, 11, 12], [6, 7, 8, 9, 10, 11, 12, 13], [0, 1, 2, 3, 4, 5, 6, 7, 8, 9, 10, 11, 12, 13, 14], [0, 1, 2, 3, 4, 5, 6, 7, 8, 9, 10, 11, 12, 13, 14, 15]], [.light, .light, .light, .light, .mem, .light, .light, .light, .light, .mem, .light, .light, .light, .mem, .light, .light, .light]⟩ (by kernel_rfl) rfl rfl mix ?_
      obtain ⟨hte, hte1, hte2⟩ := tms_eq (t := t) hh hn0.1 (by omega)
      have hq1 := tdiv_bd2 (a := t) (n := half) (by omega) hh
      have hq2 := tdiv_bd2 (a := now) (n := half) (by omega) hh
      refine dr_light rfl rfl (wtd_none rfl) (x_move rfl) ?_
      refine dr_light rfl rfl (wtd_none rfl) (x_move rfl) ?_
      refine dr_light rfl rfl (wtd_none rfl) (x_nilCheck rfl) ?_
      refine dr_light rfl rfl (wtd_none rfl) (x_fieldAddr fd83_1 rfl) ?_
      refine dr_mem0 rfl rfl (wtd_none rfl) (x_load ag2 rfl (cells_ext (by repeat (first | exact List.mem_cons_self | apply List.mem_cons_of_mem | apply List.mem_append_right)) (by repeat (first | exact Ext.all _ | exact Ext.done | apply Ext.take | apply Ext.skip)))) ?_
      refine dr_light rfl rfl (wtd_none rfl) (x_quo' rfl rfl (by omega) (i64w (by omega) (by omega))) ?_
      refine dr_light rfl rfl (wtd_none rfl) (x_move rfl) ?_
      refine dr_light rfl rfl (wtd_none rfl) (x_nilCheck rfl) ?_
      refine dr_light rfl rfl (wtd_none rfl) (x_fieldAddr fd83_2 rfl) ?_
      refine dr_mem0 rfl rfl (wtd_none rfl) (x_load ag2 rfl (cells_ext (by repeat (first | exact List.mem_cons_self | apply List.mem_cons_of_mem | apply List.mem_append_right)) (by repeat (first | exact Ext.all _ | exact Ext.done | apply Ext.take | apply Ext.skip)))) ?_
      refine dr_light rfl rfl (wtd_none rfl) (x_move rfl) ?_
      refine dr_light rfl rfl (wtd_none rfl) (x_nilCheck rfl) ?_
      refine dr_light rfl rfl (wtd_none rfl) (x_fieldAddr fd83_1 rfl) ?_
      refine dr_mem0 rfl rfl (wtd_none rfl) (x_load ag2 rfl (cells_ext (by repeat (first | exact List.mem_cons_self | apply List.mem_cons_of_mem | apply List.mem_append_right)) (by repeat (first | exact Ext.all _ | exact Ext.done | apply Ext.take | apply Ext.skip)))) ?_
      refine dr_light rfl rfl (wtd_none rfl) (x_quo' rfl rfl (by omega) (i64w (by omega) (by omega))) ?_
      refine dr_light rfl rfl (wtd_none rfl) (x_cast (u := .int .i64 (((tms half now t) : Nat) : Int)) (x_sub' rfl rfl (i64w (by omega) (by omega))) (congrArg (Value.int .i64) hte)) ?_
      refine dr_light rfl rfl (wtd_none rfl) (x_assign rfl) ?_
      refine dr_nil0 ?_
      refine aw_keep (keep_cons (t := 0) rfl (keep_cons (t := 1) rfl (keep_cons (t := 4) rfl (keep_cons (t := 5) rfl keep_nil)))) ?_
      refine aw_seq ?_
      refine aw_seq_region ?_
      refine sr_x rfl (wtd_none rfl) rfl (Rd.x (x_assign rfl)) ?_
      refine sr_nil ?_
      refine aw_keep (keep_cons (t := 0) rfl (keep_cons (t := 1) rfl (keep_cons (t := 4) rfl (keep_cons (t := 5) rfl (keep_cons (t := 6) rfl keep_nil))))) ?_
      refine aw_block ?_
      refine aw_loop (ι := FdG) (fun s => s.k ≤ us.length ∧ OwnVec 3 86 (.slice a us.length cap) us.length ((mixF (fdU (tms half now t)) us s.k).flatMap User.cells) s.E) (fun s => [(0, .pointer (some ⟨p, 0, none⟩)), (1, .int .i64 t), (4, .int .i64 0), (5, .int .i64 ((tms half now t) : Nat)), (6, .int .i64 s.k)]) (fun s => pk p (.slice a us.length cap) half now :: (s.E ++ G)) (fun s => us.length - s.k) ⟨0, E⟩ (⟨Nat.zero_le _, by dsimp only; rw [mix_zero]; exact V⟩) (by (repeat (first | exact keep_nil | refine keep_cons rfl ?_)); first | done | fail) (by repeat (first | exact Sub.refl _ | refine Sub.take (by repeat (first | exact Take.here | apply Take.there | apply Take.app)) ?_ | refine Sub.takeE (by repeat (first | exact TakeE.here | apply TakeE.there | apply TakeE.app)) ?_ | exact Sub.nil _ | apply Sub.drop | apply Sub.dropE)) ?_
      intro s hs9
      obtain ⟨k, EK⟩ := s
      dsimp only at hs9 ⊢
      obtain ⟨hk, VK⟩ := hs9
      refine aw_seq ?_
      refine aw_seq_region ?_
      refine sr_x rfl (wtd_none rfl) rfl (Rd.x (x_move rfl)) ?_
      refine sr_x rfl (wtd_none rfl) rfl (Rd.x (x_move rfl)) ?_
      refine sr_x rfl (wtd_none rfl) rfl (Rd.x (x_nilCheck rfl)) ?_
      refine sr_x rfl (wtd_none rfl) rfl (Rd.x (x_fieldAddr fd83_0 rfl)) ?_
      refine sr_x rfl (wtd_none rfl) rfl (Rd.x (x_load ag73 rfl (cells_ext (by repeat (first | exact List.mem_cons_self | apply List.mem_cons_of_mem | apply List.mem_append_right)) (by repeat (first | exact Ext.all _ | exact Ext.done | apply Ext.take | apply Ext.skip))))) ?_
      refine sr_x rfl (wtd_none rfl) rfl (Rd.x (x_lenSlice Try.underlying73 rfl)) ?_
      refine sr_cmp rfl (wtd_none rfl) rfl (Rd.x (x_lt rfl rfl)) (fun h3 => ?_) (fun h3 => ?_)
      · refine sr_nil ?_
        refine aw_keep (keep_cons (t := 0) rfl (keep_cons (t := 1) rfl (keep_cons (t := 4) rfl (keep_cons (t := 5) rfl (keep_cons (t := 6) rfl (keep_cons (t := 35) rfl (keep_cons (t := 36) rfl (keep_cons (t := 37) rfl (keep_cons (t := 38) rfl (keep_cons (t := 39) rfl (keep_cons (t := 40) rfl (keep_cons (t := 41) rfl keep_nil)))))))))))) ?_
        refine aw_true rfl ?_
        refine aw_skip ?_
        show AW _ _ _ _ _ _ _
        refine aw_seq ?_
        refine aw_block ?_
        refine aw_seq_region ?_
        obtain ⟨u, hu⟩ := get_ex (show k < us.length by omega)
        have hgu := hi.good u (List.mem_of_getElem? hu)
        obtain ⟨bj, oj, haj, hcj⟩ := (VK.slv' (W0 := W0) (xs := (mixF (fdU (tms half now t)) us k)) (fun _ => rfl) (mix_len hk).symm (Sub.refl _)).at_ k u (mix_get hu)
        subst haj
        obtain ⟨rfl, _, post, rfl, hpL, hpl, hpn, hpc⟩ := VK.blk
        refine sr_x rfl (wtd_none rfl) rfl (Rd.x (x_move rfl)) ?_
        refine sr_x rfl (wtd_none rfl) rfl (Rd.x (x_nilCheck rfl)) ?_
        refine sr_x rfl (wtd_none rfl) rfl (Rd.x (x_fieldAddr fd83_0 rfl)) ?_
        refine sr_x rfl (wtd_none rfl) rfl (Rd.x (x_load ag73 rfl (cells_ext (by repeat (first | exact List.mem_cons_self | apply List.mem_cons_of_mem | apply List.mem_append_right)) (by repeat (first | exact Ext.all _ | exact Ext.done | apply Ext.take | apply Ext.skip))))) ?_
        refine sr_x rfl (wtd_none rfl) rfl (Rd.x (x_move rfl)) ?_
        refine sr_x rfl (wtd_none rfl) rfl (Rd.x (x_indexAddrN (k) Try.underlying73 sz86 rfl rfl rfl (by omega) (by omega))) ?_
        refine sr_x rfl (wtd_none rfl) rfl (Rd.x (x_loadN ag86 sz86 rfl (cells_flat0 (n := 3) (enc := User.cells) (fun _ => rfl) (xs := (mixF (fdU (tms half now t)) us k)) (post := post) (show (bj, Obj.cells ((mixF (fdU (tms half now t)) us k).flatMap User.cells ++ post).toArray 86 (0, 0)) ∈ _ from (by repeat (first | exact List.mem_cons_self | apply List.mem_cons_of_mem | apply List.mem_append_right))) (mix_get hu)) rfl)) ?_
        refine sr_new rfl (wtd_none rfl) rfl (x_alloc zr86 rfl) ?_
        intro r7_7 hr7_7 gr7_7
        refine sr_x0 rfl (wtd_none rfl) (x_store sz86 rfl rfl rfl rfl rfl (by repeat (first | exact Repl.here | apply Repl.there | apply Repl.app)) (by repeat (first | exact Spl.done | exact Spl.all rfl | apply Spl.put | apply Spl.skip))) ?_
        refine sr_nil ?_
        refine aw_keep (keep_cons (t := 0) rfl (keep_cons (t := 1) rfl (keep_cons (t := 4) rfl (keep_cons (t := 5) rfl (keep_cons (t := 6) rfl (keep_cons (t := 7) rfl (keep_cons (t := 35) rfl (keep_cons (t := 36) rfl (keep_cons (t := 37) rfl (keep_cons (t := 38) rfl (keep_cons (t := 39) rfl (keep_cons (t := 40) rfl (keep_cons (t := 41) rfl (keep_cons (t := 44) rfl (keep_cons (t := 45) rfl (keep_cons (t := 46) rfl (keep_cons (t := 47) rfl (keep_cons (t := 48) rfl (keep_cons (t := 49) rfl (keep_cons (t := 50) rfl keep_nil)))))))))))))))))))) ?_
        refine aw_seq ?_
        refine aw_seq_region ?_
        refine sr_x rfl (wtd_none rfl) rfl (Rd.x (x_assign rfl)) ?_
        refine sr_nil ?_
        refine aw_keep (keep_cons (t := 0) rfl (keep_cons (t := 1) rfl (keep_cons (t := 4) rfl (keep_cons (t := 5) rfl (keep_cons (t := 6) rfl (keep_cons (t := 7) rfl (keep_cons (t := 8) rfl (keep_cons (t := 35) rfl (keep_cons (t := 36) rfl (keep_cons (t := 37) rfl (keep_cons (t := 38) rfl (keep_cons (t := 39) rfl (keep_cons (t := 40) rfl (keep_cons (t := 41) rfl (keep_cons (t := 44) rfl (keep_cons (t := 45) rfl (keep_cons (t := 46) rfl (keep_cons (t := 47) rfl (keep_cons (t := 48) rfl (keep_cons (t := 49) rfl (keep_cons (t := 50) rfl keep_nil))))))))))))))))))))) ?_
        refine aw_block ?_
        have hfz := fd_zero hgu.2.2.1
        refine aw_loop (ι := Nat) (fun j => j ≤ (tms half now t)) (fun j => [(0, .pointer (some ⟨p, 0, none⟩)), (1, .int .i64 t), (4, .int .i64 0), (5, .int .i64 ((tms half now t) : Nat)), (6, .int .i64 k), (7, .pointer (some ⟨r7_7, 0, none⟩)), (8, .int .i64 j)]) (fun j => (r7_7, .cells (User.cells (⟨u.id, u.part, fd j u.used⟩ : User)).toArray 86 (0, 0)) :: pk p (.slice (some ⟨bj, 0, none⟩) us.length cap) half now :: ([(bj, .cells ((mixF (fdU (tms half now t)) us k).flatMap User.cells ++ post).toArray 86 (0, 0))] ++ G)) (fun j => (tms half now t) - j) 0 (Nat.zero_le _) (by (repeat (first | exact keep_nil | refine keep_cons rfl ?_)); first | done | fail) (by rw [hfz]; exact (by repeat (first | exact Sub.refl _ | refine Sub.take (by repeat (first | exact Take.here | apply Take.there | apply Take.app)) ?_ | refine Sub.takeE (by repeat (first | exact TakeE.here | apply TakeE.there | apply TakeE.app)) ?_ | exact Sub.nil _ | apply Sub.drop | apply Sub.dropE))) ?_
        intro j hj
        have hfr := fd_rng hgu.2.2.1 j
        have hfr1 := fd_rng hgu.2.2.1 (j + 1)
        refine aw_seq ?_
        refine aw_seq_region ?_
        refine sr_x rfl (wtd_none rfl) rfl (Rd.x (x_move rfl)) ?_
        refine sr_x rfl (wtd_none rfl) rfl (Rd.x (x_move rfl)) ?_
        refine sr_cmp rfl (wtd_none rfl) rfl (Rd.x (x_lt rfl rfl)) (fun h4 => ?_) (fun h4 => ?_)
        · refine sr_x rfl (wtd_none rfl) rfl (Rd.x (x_move rfl)) ?_
          refine sr_x rfl (wtd_yes rfl rfl rfl) rfl (Rd.x (x_fieldAddr fd86_2 rfl)) ?_
          refine sr_x rfl (wtd_yes rfl rfl rfl) rfl (Rd.x (x_load ag2 rfl (cells_ext (by repeat (first | exact List.mem_cons_self | apply List.mem_cons_of_mem | apply List.mem_append_right)) (by repeat (first | exact Ext.all _ | exact Ext.done | apply Ext.take | apply Ext.skip))))) ?_
          refine sr_cmp rfl (wtd_yes rfl rfl rfl) rfl (Rd.x (x_gt rfl rfl)) (fun h5 => ?_) (fun h5 => ?_)
          · refine sr_x rfl (wtd_none rfl) rfl (Rd.x (x_pick_t rfl rfl rfl)) ?_
            refine sr_nil ?_
            refine aw_keep (keep_cons (t := 0) rfl (keep_cons (t := 1) rfl (keep_cons (t := 4) rfl (keep_cons (t := 5) rfl (keep_cons (t := 6) rfl (keep_cons (t := 7) rfl (keep_cons (t := 8) rfl (keep_cons (t := 51) rfl (keep_cons (t := 52) rfl (keep_cons (t := 53) rfl (keep_cons (t := 54) rfl (keep_cons (t := 55) rfl (keep_cons (t := 56) rfl (keep_cons (t := 57) rfl (keep_cons (t := 58) rfl keep_nil))))))))))))))) ?_
            refine aw_true rfl ?_
            refine aw_skip ?_
            show AW _ _ _ _ _ _ _
            refine aw_seq ?_
            refine aw_block ?_
            refine aw_region ?_
            refine sr_x rfl (wtd_none rfl) rfl (Rd.x (x_fieldAddr fd86_2 rfl)) ?_
            refine sr_x rfl (wtd_none rfl) rfl (Rd.x (x_load ag2 rfl (cells_ext (by repeat (first | exact List.mem_cons_self | apply List.mem_cons_of_mem | apply List.mem_append_right)) (by repeat (first | exact Ext.all _ | exact Ext.done | apply Ext.take | apply Ext.skip))))) ?_
            refine sr_x rfl (wtd_none rfl) rfl (Rd.x (x_quo' (a := fd j u.used) (b := 2) (c := fd (j + 1) u.used) rfl rfl (by omega) (by rw [fd_succ]; exact i64w (by omega) (by omega)))) ?_
            refine sr_x rfl (wtd_none rfl) rfl (Rd.x (x_fieldAddr fd86_2 rfl)) ?_
            refine sr_x0 rfl (wtd_none rfl) (x_store sz2 rfl rfl rfl rfl rfl (by repeat (first | exact Repl.here | apply Repl.there | apply Repl.app)) (by repeat (first | exact Spl.done | exact Spl.all rfl | apply Spl.put | apply Spl.skip))) ?_
            refine sr_nil ?_
            show AW _ _ _ _ _ _ _
            refine aw_region ?_
            refine sr_x rfl (wtd_none rfl) rfl (Rd.x (x_move rfl)) ?_
            refine sr_x rfl (wtd_none rfl) rfl (Rd.x (x_add' rfl rfl (i64w (by omega) (by omega)))) ?_
            refine sr_x rfl (wtd_none rfl) rfl (Rd.x (x_assign rfl)) ?_
            refine sr_nil ?_
            show ∃ s', _ ∧ _ ∧ _ ∧ _
            exact ⟨j + 1, by omega, by omega, (by (repeat (first | exact keep_nil | refine keep_cons rfl ?_)); first | done | fail), (by repeat (first | exact Sub.refl _ | refine Sub.take (by repeat (first | exact Take.here | apply Take.there | apply Take.app)) ?_ | refine Sub.takeE (by repeat (first | exact TakeE.here | apply TakeE.there | apply TakeE.app)) ?_ | exact Sub.nil _ | apply Sub.drop | apply Sub.dropE))⟩
          · refine sr_x rfl (wtd_none rfl) rfl (Rd.x (x_pick_t rfl rfl rfl)) ?_
            refine sr_nil ?_
            refine aw_keep (keep_cons (t := 0) rfl (keep_cons (t := 1) rfl (keep_cons (t := 4) rfl (keep_cons (t := 5) rfl (keep_cons (t := 6) rfl (keep_cons (t := 7) rfl (keep_cons (t := 8) rfl (keep_cons (t := 51) rfl (keep_cons (t := 52) rfl (keep_cons (t := 53) rfl (keep_cons (t := 54) rfl (keep_cons (t := 55) rfl (keep_cons (t := 56) rfl (keep_cons (t := 57) rfl (keep_cons (t := 58) rfl keep_nil))))))))))))))) ?_
            refine aw_false rfl ?_
            refine aw_exit ?_
            show AW _ _ _ _ _ _ _
            refine aw_dr ⟨_, 8, 76, [[], [0], [0, 1], [0, 1, 2], [], [], [0, 1, 2, 3, 4, 5], [0, 1, 2, 3, 4, 5, 6]], [.light, .light, .light, .mem, .light, .mem, .light, .eff]⟩ (by kernel_rfl) rfl rfl mix ?_
            refine dr_light rfl rfl (wtd_none rfl) (x_move rfl) ?_
            refine dr_light rfl rfl (wtd_none rfl) (x_nilCheck rfl) ?_
            refine dr_light rfl rfl (wtd_none rfl) (x_fieldAddr fd83_0 rfl) ?_
            refine dr_mem0 rfl rfl (wtd_none rfl) (x_load ag73 rfl (cells_ext (by repeat (first | exact List.mem_cons_self | apply List.mem_cons_of_mem | apply List.mem_append_right)) (by repeat (first | exact Ext.all _ | exact Ext.done | apply Ext.take | apply Ext.skip)))) ?_
            refine dr_light rfl rfl (wtd_none rfl) (x_move rfl) ?_
            refine dr_mem0 rfl rfl (wtd_none rfl) (x_loadN ag86 sz86 rfl (cells_ext (by repeat (first | exact List.mem_cons_self | apply List.mem_cons_of_mem | apply List.mem_append_right)) (by repeat (first | exact Ext.all _ | exact Ext.done | apply Ext.take | apply Ext.skip))) rfl) ?_
            refine dr_light rfl rfl (wtd_none rfl) (x_indexAddrN (k) Try.underlying73 sz86 rfl rfl rfl (by omega) (by omega)) ?_
            refine dr_store0 rfl rfl (wtd_none rfl) (x_store sz86 rfl rfl rfl rfl rfl (by repeat (first | exact Repl.here | apply Repl.there | apply Repl.app)) (spl_flat0 (n := 3) (enc := User.cells) (fun _ => rfl) (xs := (mixF (fdU (tms half now t)) us k)) (post := post) (i := k) (x' := (⟨u.id, u.part, fd j u.used⟩ : User)) (by rw [mix_len hk]; omega))) (by first | rfl | simp [keys_append, keys_cons]) ?_
            refine dr_nil0 ?_
            show AW _ _ _ _ _ _ _
            refine aw_region ?_
            refine sr_x rfl (wtd_none rfl) rfl (Rd.x (x_move rfl)) ?_
            refine sr_x rfl (wtd_none rfl) rfl (Rd.x (x_add' rfl rfl (i64w (by omega) (by omega)))) ?_
            refine sr_x rfl (wtd_none rfl) rfl (Rd.x (x_assign rfl)) ?_
            refine sr_nil ?_
            show ∃ s', _ ∧ _ ∧ _ ∧ _
            exact ⟨⟨k + 1, [(bj, .cells (((mixF (fdU (tms half now t)) us k).set k (⟨u.id, u.part, fd j u.used⟩ : User)).flatMap User.cells ++ post).toArray 86 (0, 0))]⟩, ⟨by dsimp only; omega, (by dsimp only; rw [show (⟨u.id, u.part, fd j u.used⟩ : User) = fdU (tms half now t) u from congrArg (User.mk u.id u.part) (fd_end hgu.2.2.2 hj (by first | omega | (dsimp only at *; omega))), ← mix_set hu]; exact u_set (mix_len hk) hpl hpn hpc)⟩, by dsimp only; omega, (by (repeat (first | exact keep_nil | refine keep_cons rfl ?_)); first | done | fail), (by repeat (first | exact Sub.refl _ | refine Sub.take (by repeat (first | exact Take.here | apply Take.there | apply Take.app)) ?_ | refine Sub.takeE (by repeat (first | exact TakeE.here | apply TakeE.there | apply TakeE.app)) ?_ | exact Sub.nil _ | apply Sub.drop | apply Sub.dropE))⟩
        · refine sr_x rfl (wtd_none rfl) rfl (Rd.x (x_move rfl)) ?_
          refine sr_skip rfl (wtd_no rfl rfl rfl rfl) rfl ?_
          refine sr_skip rfl (wtd_no rfl rfl rfl rfl) rfl ?_
          refine sr_skip rfl (wtd_no rfl rfl rfl rfl) rfl ?_
          refine sr_x rfl (wtd_none rfl) rfl (Rd.x (x_pick_f rfl rfl rfl)) ?_
          refine sr_nil ?_
          refine aw_keep (keep_cons (t := 0) rfl (keep_cons (t := 1) rfl (keep_cons (t := 4) rfl (keep_cons (t := 5) rfl (keep_cons (t := 6) rfl (keep_cons (t := 7) rfl (keep_cons (t := 8) rfl (keep_cons (t := 51) rfl (keep_cons (t := 52) rfl (keep_cons (t := 53) rfl (keep_cons (t := 54) rfl (keep_cons (t := 55) rfl (keep_cons (t := 56) rfl (keep_cons (t := 57) rfl (keep_cons (t := 58) rfl keep_nil))))))))))))))) ?_
          refine aw_false rfl ?_
          refine aw_exit ?_
          show AW _ _ _ _ _ _ _
          refine aw_dr ⟨_, 8, 76, [[], [0], [0, 1], [0, 1, 2], [], [], [0, 1, 2, 3, 4, 5], [0, 1, 2, 3, 4, 5, 6]], [.light, .light, .light, .mem, .light, .mem, .light, .eff]⟩ (by kernel_rfl) rfl rfl mix ?_
          refine dr_light rfl rfl (wtd_none rfl) (x_move rfl) ?_
          refine dr_light rfl rfl (wtd_none rfl) (x_nilCheck rfl) ?_
          refine dr_light rfl rfl (wtd_none rfl) (x_fieldAddr fd83_0 rfl) ?_
          refine dr_mem0 rfl rfl (wtd_none rfl) (x_load ag73 rfl (cells_ext (by repeat (first | exact List.mem_cons_self | apply List.mem_cons_of_mem | apply List.mem_append_right)) (by repeat (first | exact Ext.all _ | exact Ext.done | apply Ext.take | apply Ext.skip)))) ?_
          refine dr_light rfl rfl (wtd_none rfl) (x_move rfl) ?_
          refine dr_mem0 rfl rfl (wtd_none rfl) (x_loadN ag86 sz86 rfl (cells_ext (by repeat (first | exact List.mem_cons_self | apply List.mem_cons_of_mem | apply List.mem_append_right)) (by repeat (first | exact Ext.all _ | exact Ext.done | apply Ext.take | apply Ext.skip))) rfl) ?_
          refine dr_light rfl rfl (wtd_none rfl) (x_indexAddrN (k) Try.underlying73 sz86 rfl rfl rfl (by omega) (by omega)) ?_
          refine dr_store0 rfl rfl (wtd_none rfl) (x_store sz86 rfl rfl rfl rfl rfl (by repeat (first | exact Repl.here | apply Repl.there | apply Repl.app)) (spl_flat0 (n := 3) (enc := User.cells) (fun _ => rfl) (xs := (mixF (fdU (tms half now t)) us k)) (post := post) (i := k) (x' := (⟨u.id, u.part, fd j u.used⟩ : User)) (by rw [mix_len hk]; omega))) (by first | rfl | simp [keys_append, keys_cons]) ?_
          refine dr_nil0 ?_
          show AW _ _ _ _ _ _ _
          refine aw_region ?_
          refine sr_x rfl (wtd_none rfl) rfl (Rd.x (x_move rfl)) ?_
          refine sr_x rfl (wtd_none rfl) rfl (Rd.x (x_add' rfl rfl (i64w (by omega) (by omega)))) ?_
          refine sr_x rfl (wtd_none rfl) rfl (Rd.x (x_assign rfl)) ?_
          refine sr_nil ?_
          show ∃ s', _ ∧ _ ∧ _ ∧ _
          exact ⟨⟨k + 1, [(bj, .cells (((mixF (fdU (tms half now t)) us k).set k (⟨u.id, u.part, fd j u.used⟩ : User)).flatMap User.cells ++ post).toArray 86 (0, 0))]⟩, ⟨by dsimp only; omega, (by dsimp only; rw [show (⟨u.id, u.part, fd j u.used⟩ : User) = fdU (tms half now t) u from congrArg (User.mk u.id u.part) (fd_end hgu.2.2.2 hj (by first | omega | (dsimp only at *; omega))), ← mix_set hu]; exact u_set (mix_len hk) hpl hpn hpc)⟩, by dsimp only; omega, (by (repeat (first | exact keep_nil | refine keep_cons rfl ?_)); first | done | fail), (by repeat (first | exact Sub.refl _ | refine Sub.take (by repeat (first | exact Take.here | apply Take.there | apply Take.app)) ?_ | refine Sub.takeE (by repeat (first | exact TakeE.here | apply TakeE.there | apply TakeE.app)) ?_ | exact Sub.nil _ | apply Sub.drop | apply Sub.dropE))⟩
      · refine sr_nil ?_
        refine aw_keep (keep_cons (t := 0) rfl (keep_cons (t := 1) rfl (keep_cons (t := 4) rfl (keep_cons (t := 5) rfl (keep_cons (t := 6) rfl (keep_cons (t := 35) rfl (keep_cons (t := 36) rfl (keep_cons (t := 37) rfl (keep_cons (t := 38) rfl (keep_cons (t := 39) rfl (keep_cons (t := 40) rfl (keep_cons (t := 41) rfl keep_nil)))))))))))) ?_
        refine aw_false rfl ?_
        refine aw_exit ?_
        show AW _ _ _ _ _ _ _
        refine aw_seq_region ?_
        refine sr_x rfl (wtd_none rfl) rfl (Rd.x (x_move rfl)) ?_
        refine sr_x rfl (wtd_none rfl) rfl (Rd.x (x_move rfl)) ?_
        refine sr_x rfl (wtd_none rfl) rfl (Rd.x (x_nilCheck rfl)) ?_
        refine sr_x rfl (wtd_none rfl) rfl (Rd.x (x_fieldAddr fd83_2 rfl)) ?_
        refine sr_x0 rfl (wtd_none rfl) (x_store sz2 rfl rfl rfl rfl rfl (by repeat (first | exact Repl.here | apply Repl.there | apply Repl.app)) (by repeat (first | exact Spl.done | exact Spl.all rfl | apply Spl.put | apply Spl.skip))) ?_
        refine sr_nil ?_
        refine aw_keep (keep_cons (t := 4) rfl keep_nil) ?_
        refine aw_seq_region ?_
        refine sr_x rfl (wtd_none rfl) rfl (Rd.x (x_assign rfl)) ?_
        refine sr_nil ?_
        refine aw_keep (keep_cons (t := 4) rfl keep_nil) ?_
        refine aw_ret ?_
        show ∃ v H2, ResV _ _ _ _ _ _ v ∧ Sub H2 _ ∧ _
        first | (obtain ⟨q1, q2, q3⟩ := fad_bad (half := half) (us := us) (show t < now ∨ 1099511627776 < t by omega); rw [q1, q2, q3]; exact ⟨_, pk p (.slice a us.length cap) half now :: (E ++ G), resV rfl (.cons rfl .nil), Sub.refl _, rfl, E, V, rfl⟩) | (obtain ⟨q1, q2, q3⟩ := fad_ok (half := half) (us := us) (show ¬ (t < now ∨ 1099511627776 < t) by omega); rw [q1, q2, q3]; rw [mix_full (show us.length ≤ k by omega)] at VK; exact ⟨_, pk p (.slice a us.length cap) half t :: (EK ++ G), resV rfl (.cons rfl .nil), Sub.refl _, rfl, EK, VK, rfl⟩)
set_option maxRecDepth 100000 in
set_option maxHeartbeats 1000000 in
theorem charge_s (p : Nat) (a : Option Addr) (cap : Nat) (us : List User) (half now : Int) (E G : SHeap) (V : OwnVec 3 86 (.slice a us.length cap) us.length (us.flatMap User.cells) E) (hn : us.length ≤ 20) (hi : BkI half now us) (hh : 1 ≤ half) (id use : Int) : AC Try.prog W0 82 [.pointer (some ⟨p, 0, none⟩), .int .i64 id, .int .i64 use] (bk p (.slice a us.length cap) half now :: (E ++ G)) (fun v H' => v = .int .i64 (chgE id use us) ∧ ∃ E', OwnVec 3 86 (.slice a us.length cap) us.length ((chgU id use us).flatMap User.cells) E' ∧ H' = bk p (.slice a us.length cap) half now :: (E' ++ G)) := by
  have hle := (V.slv' (W0 := W0) (fun _ => rfl) rfl (Sub.refl _)).le
  have hcb := (V.slv' (W0 := W0) (fun _ => rfl) rfl (Sub.refl _)).capb
  have hn0 := hi.now0
  refine ac_of Try.func82 rfl rfl rfl ?_
  refine aw_seq_region ?_
  refine sr_x rfl (wtd_none rfl) rfl (Rd.x (x_assign rfl)) ?_
  refine sr_nil ?_
  refine aw_keep (keep_cons (t := 0) rfl (keep_cons (t := 1) rfl (keep_cons (t := 2) rfl (keep_cons (t := 6) rfl keep_nil)))) ?_
  refine aw_seq ?_
  refine aw_seq_region ?_
  refine sr_x rfl (wtd_none rfl) rfl (Rd.x (x_move rfl)) ?_
  refine sr_d rfl (wtd_none rfl) rfl (opS_call rfl rfl rfl rfl cl110 (unone_s p _ half now _ (cells_ext (by repeat (first | exact List.mem_cons_self | apply List.mem_cons_of_mem | apply List.mem_append_right)) (by repeat (first | exact Ext.all _ | exact Ext.done | apply Ext.take | apply Ext.skip))) (by omega))) ?_
  rintro _ H9 ⟨rfl, rfl⟩
  refine sr_nil ?_
  refine aw_keep (keep_cons (t := 0) rfl (keep_cons (t := 1) rfl (keep_cons (t := 2) rfl (keep_cons (t := 6) rfl (keep_cons (t := 10) rfl keep_nil))))) ?_
  refine aw_false rfl ?_
  refine aw_skip ?_
  show AW _ _ _ _ _ _ _
  refine aw_seq_region ?_
  refine sr_x rfl (wtd_none rfl) rfl (Rd.x (x_move rfl)) ?_
  refine sr_x rfl (wtd_none rfl) rfl (Rd.x (x_move rfl)) ?_
  refine sr_d rfl (wtd_none rfl) rfl (opS_call rfl rfl rfl rfl cl107 (ufind_s p a cap us half now id _ (cells_ext (by repeat (first | exact List.mem_cons_self | apply List.mem_cons_of_mem | apply List.mem_append_right)) (by repeat (first | exact Ext.all _ | exact Ext.done | apply Ext.take | apply Ext.skip))) (V.slv' (fun _ => rfl) rfl (Sub.takeE0 (by repeat (first | exact TakeE.here | apply TakeE.there | apply TakeE.app)))) hi.srt (by omega))) ?_
  rintro _ H9 ⟨⟨i, ok, rfl, hat, hok⟩, rfl⟩
  cases ok
  · refine sr_x rfl (wtd_none rfl) rfl (Rd.x (x_move rfl)) ?_
    refine sr_x rfl (wtd_none rfl) rfl (Rd.x (x_extract rfl rfl)) ?_
    refine sr_x rfl (wtd_none rfl) rfl (Rd.x (x_extract rfl rfl)) ?_
    refine sr_x rfl (wtd_none rfl) rfl (Rd.x (x_assign rfl)) ?_
    refine sr_x rfl (wtd_none rfl) rfl (Rd.x (x_assign rfl)) ?_
    refine sr_nil ?_
    refine aw_keep (keep_cons (t := 0) rfl (keep_cons (t := 2) rfl (keep_cons (t := 6) rfl (keep_cons (t := 7) rfl (keep_cons (t := 8) rfl keep_nil))))) ?_
    refine aw_seq ?_
    refine aw_block ?_
    refine aw_seq_region ?_
    refine sr_x rfl (wtd_none rfl) rfl (Rd.x (x_move rfl)) ?_
    refine sr_x rfl (wtd_none rfl) rfl (Rd.x (x_not rfl)) ?_
    refine sr_x rfl (wtd_none rfl) rfl (Rd.x (x_assign rfl)) ?_
    refine sr_nil ?_
    refine aw_keep (keep_cons (t := 0) rfl (keep_cons (t := 2) rfl (keep_cons (t := 6) rfl (keep_cons (t := 7) rfl (keep_cons (t := 17) rfl keep_nil))))) ?_
    refine aw_true rfl ?_
    refine aw_seq_region ?_
    refine sr_x rfl (wtd_none rfl) rfl (Rd.x (x_assign rfl)) ?_
    refine sr_nil ?_
    refine aw_keep (keep_cons (t := 0) rfl (keep_cons (t := 2) rfl (keep_cons (t := 6) rfl (keep_cons (t := 7) rfl keep_nil)))) ?_
    refine aw_ret ?_
    show ∃ v H2, ResV _ _ _ _ _ _ v ∧ Sub H2 _ ∧ _
    first | (obtain ⟨q1, q2⟩ := chg_none (id := id) (use := use) (fun h => (nomatch hok.2 h)); rw [q1, q2]; exact ⟨_, bk p (.slice a us.length cap) half now :: (E ++ G), resV rfl (.cons rfl .nil), Sub.refl _, rfl, E, V, rfl⟩) | (obtain ⟨q1, q2⟩ := chg_neg (id := id) (show use < 0 by omega) (hok.1 rfl); rw [q1, q2]; exact ⟨_, bk p (.slice a us.length cap) half now :: (E ++ G), resV rfl (.cons rfl .nil), Sub.refl _, rfl, E, V, rfl⟩) | (obtain ⟨q1, q2⟩ := chg_ok (id := id) hi.srt hu hui (show ¬ use < 0 by omega); rw [q1, q2]; exact ⟨_, bk p (.slice (some ⟨bj, 0, none⟩) us.length cap) half now :: ([(bj, .cells ((us.set i (chU use u)).flatMap User.cells ++ post).toArray 86 (0, 0))] ++ G), resV rfl (.cons rfl .nil), (by repeat (first | exact Sub.refl _ | refine Sub.take (by repeat (first | exact Take.here | apply Take.there | apply Take.app)) ?_ | refine Sub.takeE (by repeat (first | exact TakeE.here | apply TakeE.there | apply TakeE.app)) ?_ | exact Sub.nil _ | apply Sub.drop | apply Sub.dropE)), rfl, _, u_set rfl hpl hpn hpc, rfl⟩)
  · refine sr_x rfl (wtd_none rfl) rfl (Rd.x (x_move rfl)) ?_
    refine sr_x rfl (wtd_none rfl) rfl (Rd.x (x_extract rfl rfl)) ?_
    refine sr_x rfl (wtd_none rfl) rfl (Rd.x (x_extract rfl rfl)) ?_
    refine sr_x rfl (wtd_none rfl) rfl (Rd.x (x_assign rfl)) ?_
    refine sr_x rfl (wtd_none rfl) rfl (Rd.x (x_assign rfl)) ?_
    refine sr_nil ?_
    refine aw_keep (keep_cons (t := 0) rfl (keep_cons (t := 2) rfl (keep_cons (t := 6) rfl (keep_cons (t := 7) rfl (keep_cons (t := 8) rfl keep_nil))))) ?_
    refine aw_seq ?_
    refine aw_block ?_
    refine aw_seq_region ?_
    refine sr_x rfl (wtd_none rfl) rfl (Rd.x (x_move rfl)) ?_
    refine sr_x rfl (wtd_none rfl) rfl (Rd.x (x_not rfl)) ?_
    refine sr_x rfl (wtd_none rfl) rfl (Rd.x (x_assign rfl)) ?_
    refine sr_nil ?_
    refine aw_keep (keep_cons (t := 0) rfl (keep_cons (t := 2) rfl (keep_cons (t := 6) rfl (keep_cons (t := 7) rfl (keep_cons (t := 17) rfl keep_nil))))) ?_
    refine aw_false rfl ?_
    refine aw_seq_region ?_
    refine sr_x rfl (wtd_none rfl) rfl (Rd.x (x_move rfl)) ?_
    refine sr_cmp rfl (wtd_none rfl) rfl (Rd.x (x_lt rfl rfl)) (fun h1 => ?_) (fun h1 => ?_)
    · refine sr_x rfl (wtd_none rfl) rfl (Rd.x (x_assign rfl)) ?_
      refine sr_nil ?_
      refine aw_keep (keep_cons (t := 0) rfl (keep_cons (t := 2) rfl (keep_cons (t := 6) rfl (keep_cons (t := 7) rfl (keep_cons (t := 20) rfl keep_nil))))) ?_
      refine aw_true rfl ?_
      refine aw_seq_region ?_
      refine sr_x rfl (wtd_none rfl) rfl (Rd.x (x_assign rfl)) ?_
      refine sr_nil ?_
      refine aw_keep (keep_cons (t := 0) rfl (keep_cons (t := 2) rfl (keep_cons (t := 6) rfl (keep_cons (t := 7) rfl keep_nil)))) ?_
      refine aw_ret ?_
      show ∃ v H2, ResV _ _ _ _ _ _ v ∧ Sub H2 _ ∧ _
      first | (obtain ⟨q1, q2⟩ := chg_none (id := id) (use := use) (fun h => (nomatch hok.2 h)); rw [q1, q2]; exact ⟨_, bk p (.slice a us.length cap) half now :: (E ++ G), resV rfl (.cons rfl .nil), Sub.refl _, rfl, E, V, rfl⟩) | (obtain ⟨q1, q2⟩ := chg_neg (id := id) (show use < 0 by omega) (hok.1 rfl); rw [q1, q2]; exact ⟨_, bk p (.slice a us.length cap) half now :: (E ++ G), resV rfl (.cons rfl .nil), Sub.refl _, rfl, E, V, rfl⟩) | (obtain ⟨q1, q2⟩ := chg_ok (id := id) hi.srt hu hui (show ¬ use < 0 by omega); rw [q1, q2]; exact ⟨_, bk p (.slice (some ⟨bj, 0, none⟩) us.length cap) half now :: ([(bj, .cells ((us.set i (chU use u)).flatMap User.cells ++ post).toArray 86 (0, 0))] ++ G), resV rfl (.cons rfl .nil), (by repeat (first | exact Sub.refl _ | refine Sub.take (by repeat (first | exact Take.here | apply Take.there | apply Take.app)) ?_ | refine Sub.takeE (by repeat (first | exact TakeE.here | apply TakeE.there | apply TakeE.app)) ?_ | exact Sub.nil _ | apply Sub.drop | apply Sub.dropE)), rfl, _, u_set rfl hpl hpn hpc, rfl⟩)
    · refine sr_x rfl (wtd_none rfl) rfl (Rd.x (x_assign rfl)) ?_
      refine sr_nil ?_
      refine aw_keep (keep_cons (t := 0) rfl (keep_cons (t := 2) rfl (keep_cons (t := 6) rfl (keep_cons (t := 7) rfl (keep_cons (t := 20) rfl keep_nil))))) ?_
      refine aw_false rfl ?_
      refine aw_skip ?_
      show AW _ _ _ _ _ _ _
      refine aw_seq_dr ⟨_, 20, 42, [[], [0], [0, 1], [0, 1, 2], [], [], [5], [5, 6], [5, 6, 7], [], [5, 6, 7, 8, 9], [5, 6, 7, 8, 9, 10], [5, 6, 7, 8, 9, 10, 11], [], [5, 6, 7, 8, 9, 10, 11, 12, 13], [5, 6, 7, 8, 9, 10, 11, 12, 13, 14], [5, 6, 7, 8, 9, 10, 11, 12, 13, 14, 15], [0, 1, 2, 3, 4, 5, 6, 7, 8, 9, 10, 11, 12, 13, 14, 15, 16], [0, 1, 2, 3, 4, 5, 6, 7, 8, 9, 10, 11, 12, 13, 14, 15, 16, 17], [0, 1, 2, 3, 4, 5, 6, 7, 8, 9, 10, 11, 12, 13, 14, 15, 16, 17, 18]], [.light, .light, .light, .mem, .light, .light, .light, .light, .mem, .light, .light, .light, .mem, .light, .alloc, .call, .light, .light, .light, .eff]⟩ (by kernel_rfl) rfl rfl mix ?_
      obtain ⟨x0, hx0, hi0⟩ := hok.1 rfl
      obtain ⟨u, hu, hui⟩ := find_here hat hi.srt hx0 hi0
      replace hui := cmpI_eq.1 hui
      have hgu := hi.good u (List.mem_of_getElem? hu)
      have hil := get_lt hu
      have hsa := satAdd_range [u.used, use]
      obtain ⟨bj, oj, haj, hcj⟩ := (V.slv' (W0 := W0) (fun _ => rfl) rfl (Sub.refl _)).at_ i u hu
      subst haj
      obtain ⟨rfl, _, post, rfl, hpL, hpl, hpn, hpc⟩ := V.blk
      refine dr_light rfl rfl (wtd_none rfl) (x_move rfl) ?_
      refine dr_light rfl rfl (wtd_none rfl) (x_nilCheck rfl) ?_
      refine dr_light rfl rfl (wtd_none rfl) (x_fieldAddr fd141_0 rfl) ?_
      refine dr_mem0 rfl rfl (wtd_none rfl) (x_load ag73 rfl (cells_ext (by repeat (first | exact List.mem_cons_self | apply List.mem_cons_of_mem | apply List.mem_append_right)) (by repeat (first | exact Ext.all _ | exact Ext.done | apply Ext.take | apply Ext.skip)))) ?_
      refine dr_light rfl rfl (wtd_none rfl) (x_move rfl) ?_
      refine dr_light rfl rfl (wtd_none rfl) (x_move rfl) ?_
      refine dr_light rfl rfl (wtd_none rfl) (x_nilCheck rfl) ?_
      refine dr_light rfl rfl (wtd_none rfl) (x_fieldAddr fd141_0 rfl) ?_
      refine dr_mem0 rfl rfl (wtd_none rfl) (x_load ag73 rfl (cells_ext (by repeat (first | exact List.mem_cons_self | apply List.mem_cons_of_mem | apply List.mem_append_right)) (by repeat (first | exact Ext.all _ | exact Ext.done | apply Ext.take | apply Ext.skip)))) ?_
      refine dr_light rfl rfl (wtd_none rfl) (x_move rfl) ?_
      refine dr_light rfl rfl (wtd_none rfl) (x_indexAddrN (i) Try.underlying73 sz86 rfl rfl rfl (by omega) (by omega)) ?_
      refine dr_light rfl rfl (wtd_none rfl) (x_fieldAddr fd86_2 rfl) ?_
      refine dr_mem0 rfl rfl (wtd_none rfl) (x_load ag2 rfl (cells_get (cells_flat0 (n := 3) (enc := User.cells) (fun _ => rfl) (xs := us) (post := post) (show (bj, Obj.cells (us.flatMap User.cells ++ post).toArray 86 (0, 0)) ∈ _ from (by repeat (first | exact List.mem_cons_self | apply List.mem_cons_of_mem | apply List.mem_append_right))) hu) 2 rfl)) ?_
      refine dr_light rfl rfl (wtd_none rfl) (x_move rfl) ?_
      refine dr_alloc rfl rfl (wtd_none rfl) (x_buildSlice Try.underlying178 sz2 zr2 rfl rfl rfl rfl (by repeat (first | exact Parts.nil | (apply Parts.cons; rfl))) (by repeat (first | exact Fill.done | (apply Fill.part; rfl; rfl; rfl; focus (repeat (first | exact Spl.done | exact Spl.all rfl | apply Spl.put | apply Spl.skip)))))) ?_
      intro r8_14 hr8_14 gr8_14
      refine dr_callq rfl (V := [(r8_14, _)]) rfl rfl rfl (wtd_none rfl) (opS_F rfl rfl rfl rfl cl59 ((satAdd_s _ 2 [_, _] _ rfl (by omega) (cells_ext (by repeat (first | exact List.mem_cons_self | apply List.mem_cons_of_mem | apply List.mem_append_right)) (by repeat (first | exact Ext.all _ | exact Ext.done | apply Ext.take | apply Ext.skip)))))) (⟨_, rfl⟩) ?_
      rintro _ rfl
      refine dr_light rfl rfl (wtd_none rfl) (x_cast (u := .int .i64 (u.used + min use (1125899906842624 - u.used))) (x_min rfl rfl) (congrArg (Value.int .i64) (sat_chg hgu.2.2.1 hgu.2.2.2 (by omega)))) ?_
      refine dr_light rfl rfl (wtd_none rfl) (x_indexAddrN (i) Try.underlying73 sz86 rfl rfl rfl (by omega) (by omega)) ?_
      refine dr_light rfl rfl (wtd_none rfl) (x_fieldAddr fd86_2 rfl) ?_
      refine dr_store rfl (V := [(r8_14, _)]) rfl (clear_all rfl) rfl (wtd_none rfl) (x_store sz2 rfl rfl rfl rfl rfl (by repeat (first | exact Repl.here | apply Repl.there | apply Repl.app)) (spl_fld0 (enc := User.cells) (xs := us) (post := post) (x := u) (x' := chU use u) (fun _ => rfl) hu (by repeat (first | exact Spl.done | exact Spl.all rfl | apply Spl.put | apply Spl.skip)))) (by first | rfl | simp [keys_append, keys_cons]) ?_
      refine dr_nil0 ?_
      refine aw_keep (keep_cons (t := 6) rfl keep_nil) ?_
      refine aw_seq_region ?_
      refine sr_x rfl (wtd_none rfl) rfl (Rd.x (x_assign rfl)) ?_
      refine sr_nil ?_
      refine aw_keep (keep_cons (t := 6) rfl keep_nil) ?_
      refine aw_ret ?_
      show ∃ v H2, ResV _ _ _ _ _ _ v ∧ Sub H2 _ ∧ _
      first | (obtain ⟨q1, q2⟩ := chg_none (id := id) (use := use) (fun h => (nomatch hok.2 h)); rw [q1, q2]; exact ⟨_, bk p (.slice a us.length cap) half now :: (E ++ G), resV rfl (.cons rfl .nil), Sub.refl _, rfl, E, V, rfl⟩) | (obtain ⟨q1, q2⟩ := chg_neg (id := id) (show use < 0 by omega) (hok.1 rfl); rw [q1, q2]; exact ⟨_, bk p (.slice a us.length cap) half now :: (E ++ G), resV rfl (.cons rfl .nil), Sub.refl _, rfl, E, V, rfl⟩) | (obtain ⟨q1, q2⟩ := chg_ok (id := id) hi.srt hu hui (show ¬ use < 0 by omega); rw [q1, q2]; exact ⟨_, bk p (.slice (some ⟨bj, 0, none⟩) us.length cap) half now :: ([(bj, .cells ((us.set i (chU use u)).flatMap User.cells ++ post).toArray 86 (0, 0))] ++ G), resV rfl (.cons rfl .nil), (by repeat (first | exact Sub.refl _ | refine Sub.take (by repeat (first | exact Take.here | apply Take.there | apply Take.app)) ?_ | refine Sub.takeE (by repeat (first | exact TakeE.here | apply TakeE.there | apply TakeE.app)) ?_ | exact Sub.nil _ | apply Sub.drop | apply Sub.dropE)), rfl, _, u_set rfl hpl hpn hpc, rfl⟩)
set_option maxRecDepth 100000 in
set_option maxHeartbeats 1000000 in
theorem pcharge_s (p : Nat) (a : Option Addr) (cap : Nat) (us : List User) (half now : Int) (E G : SHeap) (V : OwnVec 3 86 (.slice a us.length cap) us.length (us.flatMap User.cells) E) (hn : us.length ≤ 20) (hi : BkI half now us) (hh : 1 ≤ half) (id use : Int) : AC Try.prog W0 83 [.pointer (some ⟨p, 0, none⟩), .int .i64 id, .int .i64 use] (pk p (.slice a us.length cap) half now :: (E ++ G)) (fun v H' => v = .int .i64 (chgE id use us) ∧ ∃ E', OwnVec 3 86 (.slice a us.length cap) us.length ((chgU id use us).flatMap User.cells) E' ∧ H' = pk p (.slice a us.length cap) half now :: (E' ++ G)) := by
  have hle := (V.slv' (W0 := W0) (fun _ => rfl) rfl (Sub.refl _)).le
  have hcb := (V.slv' (W0 := W0) (fun _ => rfl) rfl (Sub.refl _)).capb
  have hn0 := hi.now0
  refine ac_of Try.func83 rfl rfl rfl ?_
  refine aw_seq_region ?_
  refine sr_x rfl (wtd_none rfl) rfl (Rd.x (x_assign rfl)) ?_
  refine sr_nil ?_
  refine aw_keep (keep_cons (t := 0) rfl (keep_cons (t := 1) rfl (keep_cons (t := 2) rfl (keep_cons (t := 6) rfl keep_nil)))) ?_
  refine aw_seq ?_
  refine aw_seq_region ?_
  refine sr_x rfl (wtd_none rfl) rfl (Rd.x (x_assign rfl)) ?_
  refine sr_nil ?_
  refine aw_keep (keep_cons (t := 0) rfl (keep_cons (t := 1) rfl (keep_cons (t := 2) rfl (keep_cons (t := 6) rfl (keep_cons (t := 7) rfl keep_nil))))) ?_
  refine aw_block ?_
  refine aw_loop (ι := Nat) (fun i => i ≤ us.length ∧ ∀ k y, k < i → us[k]? = some y → y.id ≠ id) (fun i => [(0, .pointer (some ⟨p, 0, none⟩)), (1, .int .i64 id), (2, .int .i64 use), (6, .int .i64 0), (7, .int .i64 i)]) (fun _ => pk p (.slice a us.length cap) half now :: (E ++ G)) (fun i => us.length - i) 0 (⟨Nat.zero_le _, fun k y h => absurd h (Nat.not_lt_zero k)⟩) (by (repeat (first | exact keep_nil | refine keep_cons rfl ?_)); first | done | fail) (by repeat (first | exact Sub.refl _ | refine Sub.take (by repeat (first | exact Take.here | apply Take.there | apply Take.app)) ?_ | refine Sub.takeE (by repeat (first | exact TakeE.here | apply TakeE.there | apply TakeE.app)) ?_ | exact Sub.nil _ | apply Sub.drop | apply Sub.dropE)) ?_
  intro i hi9
  obtain ⟨hik, hne⟩ := hi9
  refine aw_seq ?_
  refine aw_seq_region ?_
  refine sr_x rfl (wtd_none rfl) rfl (Rd.x (x_move rfl)) ?_
  refine sr_x rfl (wtd_none rfl) rfl (Rd.x (x_move rfl)) ?_
  refine sr_x rfl (wtd_none rfl) rfl (Rd.x (x_nilCheck rfl)) ?_
  refine sr_x rfl (wtd_none rfl) rfl (Rd.x (x_fieldAddr fd83_0 rfl)) ?_
  refine sr_x rfl (wtd_none rfl) rfl (Rd.x (x_load ag73 rfl (cells_ext (by repeat (first | exact List.mem_cons_self | apply List.mem_cons_of_mem | apply List.mem_append_right)) (by repeat (first | exact Ext.all _ | exact Ext.done | apply Ext.take | apply Ext.skip))))) ?_
  refine sr_x rfl (wtd_none rfl) rfl (Rd.x (x_lenSlice Try.underlying73 rfl)) ?_
  refine sr_cmp rfl (wtd_none rfl) rfl (Rd.x (x_lt rfl rfl)) (fun h1 => ?_) (fun h1 => ?_)
  · refine sr_nil ?_
    refine aw_keep (keep_cons (t := 0) rfl (keep_cons (t := 1) rfl (keep_cons (t := 2) rfl (keep_cons (t := 6) rfl (keep_cons (t := 7) rfl (keep_cons (t := 9) rfl (keep_cons (t := 10) rfl (keep_cons (t := 11) rfl (keep_cons (t := 12) rfl (keep_cons (t := 13) rfl (keep_cons (t := 14) rfl (keep_cons (t := 15) rfl keep_nil)))))))))))) ?_
    refine aw_true rfl ?_
    refine aw_skip ?_
    show AW _ _ _ _ _ _ _
    refine aw_seq ?_
    refine aw_block ?_
    refine aw_seq_region ?_
    obtain ⟨u, hu⟩ := get_ex (show i < us.length by omega)
    have hgu := hi.good u (List.mem_of_getElem? hu)
    obtain ⟨bj, oj, haj, hcj⟩ := (V.slv' (W0 := W0) (fun _ => rfl) rfl (Sub.refl _)).at_ i u hu
    subst haj
    obtain ⟨rfl, _, post, rfl, hpL, hpl, hpn, hpc⟩ := V.blk
    refine sr_x rfl (wtd_none rfl) rfl (Rd.x (x_move rfl)) ?_
    refine sr_x rfl (wtd_none rfl) rfl (Rd.x (x_nilCheck rfl)) ?_
    refine sr_x rfl (wtd_none rfl) rfl (Rd.x (x_fieldAddr fd83_0 rfl)) ?_
    refine sr_x rfl (wtd_none rfl) rfl (Rd.x (x_load ag73 rfl (cells_ext (by repeat (first | exact List.mem_cons_self | apply List.mem_cons_of_mem | apply List.mem_append_right)) (by repeat (first | exact Ext.all _ | exact Ext.done | apply Ext.take | apply Ext.skip))))) ?_
    refine sr_x rfl (wtd_none rfl) rfl (Rd.x (x_move rfl)) ?_
    refine sr_x rfl (wtd_none rfl) rfl (Rd.x (x_indexAddrN (i) Try.underlying73 sz86 rfl rfl rfl (by omega) (by omega))) ?_
    refine sr_x rfl (wtd_none rfl) rfl (Rd.x (x_loadN ag86 sz86 rfl (cells_flat0 (n := 3) (enc := User.cells) (fun _ => rfl) (xs := us) (post := post) (show (bj, Obj.cells (us.flatMap User.cells ++ post).toArray 86 (0, 0)) ∈ _ from (by repeat (first | exact List.mem_cons_self | apply List.mem_cons_of_mem | apply List.mem_append_right))) hu) rfl)) ?_
    refine sr_new rfl (wtd_none rfl) rfl (x_alloc zr86 rfl) ?_
    intro r4_7 hr4_7 gr4_7
    refine sr_x0 rfl (wtd_none rfl) (x_store sz86 rfl rfl rfl rfl rfl (by repeat (first | exact Repl.here | apply Repl.there | apply Repl.app)) (by repeat (first | exact Spl.done | exact Spl.all rfl | apply Spl.put | apply Spl.skip))) ?_
    refine sr_nil ?_
    refine aw_keep (keep_cons (t := 0) rfl (keep_cons (t := 1) rfl (keep_cons (t := 2) rfl (keep_cons (t := 6) rfl (keep_cons (t := 7) rfl (keep_cons (t := 8) rfl (keep_cons (t := 9) rfl (keep_cons (t := 10) rfl (keep_cons (t := 11) rfl (keep_cons (t := 12) rfl (keep_cons (t := 13) rfl (keep_cons (t := 14) rfl (keep_cons (t := 15) rfl (keep_cons (t := 18) rfl (keep_cons (t := 19) rfl (keep_cons (t := 20) rfl (keep_cons (t := 21) rfl (keep_cons (t := 22) rfl (keep_cons (t := 23) rfl (keep_cons (t := 24) rfl keep_nil)))))))))))))))))))) ?_
    refine aw_seq ?_
    refine aw_seq_region ?_
    refine sr_x rfl (wtd_none rfl) rfl (Rd.x (x_fieldAddr fd86_0 rfl)) ?_
    refine sr_x rfl (wtd_none rfl) rfl (Rd.x (x_load ag3 rfl (cells_ext (by repeat (first | exact List.mem_cons_self | apply List.mem_cons_of_mem | apply List.mem_append_right)) (by repeat (first | exact Ext.all _ | exact Ext.done | apply Ext.take | apply Ext.skip))))) ?_
    refine sr_x rfl (wtd_none rfl) rfl (Rd.x (x_move rfl)) ?_
    refine sr_cmp rfl (wtd_none rfl) rfl (Rd.x (x_ne rfl rfl)) (fun h2 => ?_) (fun h2 => ?_)
    · refine sr_nil ?_
      refine aw_keep (keep_cons (t := 0) rfl (keep_cons (t := 1) rfl (keep_cons (t := 2) rfl (keep_cons (t := 6) rfl (keep_cons (t := 7) rfl (keep_cons (t := 8) rfl (keep_cons (t := 9) rfl (keep_cons (t := 10) rfl (keep_cons (t := 11) rfl (keep_cons (t := 12) rfl (keep_cons (t := 13) rfl (keep_cons (t := 14) rfl (keep_cons (t := 15) rfl (keep_cons (t := 18) rfl (keep_cons (t := 19) rfl (keep_cons (t := 20) rfl (keep_cons (t := 21) rfl (keep_cons (t := 22) rfl (keep_cons (t := 23) rfl (keep_cons (t := 24) rfl (keep_cons (t := 25) rfl (keep_cons (t := 26) rfl (keep_cons (t := 27) rfl (keep_cons (t := 28) rfl keep_nil)))))))))))))))))))))))) ?_
      refine aw_true rfl ?_
      refine aw_exit ?_
      show AW _ _ _ _ _ _ _
      refine aw_region ?_
      refine sr_x rfl (wtd_none rfl) rfl (Rd.x (x_move rfl)) ?_
      refine sr_x rfl (wtd_none rfl) rfl (Rd.x (x_add' rfl rfl (i64w (by omega) (by omega)))) ?_
      refine sr_x rfl (wtd_none rfl) rfl (Rd.x (x_assign rfl)) ?_
      refine sr_nil ?_
      show ∃ s', _ ∧ _ ∧ _ ∧ _
      exact ⟨i + 1, ⟨by omega, lt_succ_all (p := fun y => y.id ≠ id) hu hne (by assumption)⟩, by omega, (by (repeat (first | exact keep_nil | refine keep_cons rfl ?_)); first | done | fail), (by repeat (first | exact Sub.refl _ | refine Sub.take (by repeat (first | exact Take.here | apply Take.there | apply Take.app)) ?_ | refine Sub.takeE (by repeat (first | exact TakeE.here | apply TakeE.there | apply TakeE.app)) ?_ | exact Sub.nil _ | apply Sub.drop | apply Sub.dropE))⟩
    · refine sr_nil ?_
      refine aw_keep (keep_cons (t := 0) rfl (keep_cons (t := 1) rfl (keep_cons (t := 2) rfl (keep_cons (t := 6) rfl (keep_cons (t := 7) rfl (keep_cons (t := 8) rfl (keep_cons (t := 9) rfl (keep_cons (t := 10) rfl (keep_cons (t := 11) rfl (keep_cons (t := 12) rfl (keep_cons (t := 13) rfl (keep_cons (t := 14) rfl (keep_cons (t := 15) rfl (keep_cons (t := 18) rfl (keep_cons (t := 19) rfl (keep_cons (t := 20) rfl (keep_cons (t := 21) rfl (keep_cons (t := 22) rfl (keep_cons (t := 23) rfl (keep_cons (t := 24) rfl (keep_cons (t := 25) rfl (keep_cons (t := 26) rfl (keep_cons (t := 27) rfl (keep_cons (t := 28) rfl keep_nil)))))))))))))))))))))))) ?_
      refine aw_false rfl ?_
      refine aw_skip ?_
      show AW _ _ _ _ _ _ _
      refine aw_seq ?_
      refine aw_seq_region ?_
      refine sr_x rfl (wtd_none rfl) rfl (Rd.x (x_move rfl)) ?_
      refine sr_cmp rfl (wtd_none rfl) rfl (Rd.x (x_lt rfl rfl)) (fun h3 => ?_) (fun h3 => ?_)
      · refine sr_nil ?_
        refine aw_keep (keep_cons (t := 0) rfl (keep_cons (t := 1) rfl (keep_cons (t := 2) rfl (keep_cons (t := 6) rfl (keep_cons (t := 7) rfl (keep_cons (t := 8) rfl (keep_cons (t := 9) rfl (keep_cons (t := 10) rfl (keep_cons (t := 11) rfl (keep_cons (t := 12) rfl (keep_cons (t := 13) rfl (keep_cons (t := 14) rfl (keep_cons (t := 15) rfl (keep_cons (t := 18) rfl (keep_cons (t := 19) rfl (keep_cons (t := 20) rfl (keep_cons (t := 21) rfl (keep_cons (t := 22) rfl (keep_cons (t := 23) rfl (keep_cons (t := 24) rfl (keep_cons (t := 25) rfl (keep_cons (t := 26) rfl (keep_cons (t := 27) rfl (keep_cons (t := 28) rfl (keep_cons (t := 29) rfl (keep_cons (t := 30) rfl keep_nil)))))))))))))))))))))))))) ?_
        refine aw_true rfl ?_
        refine aw_seq_region ?_
        refine sr_x rfl (wtd_none rfl) rfl (Rd.x (x_assign rfl)) ?_
        refine sr_nil ?_
        refine aw_keep (keep_cons (t := 0) rfl (keep_cons (t := 1) rfl (keep_cons (t := 2) rfl (keep_cons (t := 6) rfl (keep_cons (t := 7) rfl (keep_cons (t := 8) rfl (keep_cons (t := 9) rfl (keep_cons (t := 10) rfl (keep_cons (t := 11) rfl (keep_cons (t := 12) rfl (keep_cons (t := 13) rfl (keep_cons (t := 14) rfl (keep_cons (t := 15) rfl (keep_cons (t := 18) rfl (keep_cons (t := 19) rfl (keep_cons (t := 20) rfl (keep_cons (t := 21) rfl (keep_cons (t := 22) rfl (keep_cons (t := 23) rfl (keep_cons (t := 24) rfl (keep_cons (t := 25) rfl (keep_cons (t := 26) rfl (keep_cons (t := 27) rfl (keep_cons (t := 28) rfl (keep_cons (t := 29) rfl (keep_cons (t := 30) rfl keep_nil)))))))))))))))))))))))))) ?_
        refine aw_ret ?_
        show ∃ v H2, ResV _ _ _ _ _ _ v ∧ Sub H2 _ ∧ _
        first | (obtain ⟨q1, q2⟩ := chg_none (id := id) (use := use) (fun ⟨x, hx, he⟩ => ne_mem (show us.length ≤ i by omega) hne x hx he); rw [q1, q2]; exact ⟨_, pk p (.slice a us.length cap) half now :: (E ++ G), resV rfl (.cons rfl .nil), Sub.refl _, rfl, E, V, rfl⟩) | (obtain ⟨q1, q2⟩ := chg_neg (id := id) (show use < 0 by omega) ⟨u, List.mem_of_getElem? hu, by omega⟩; rw [q1, q2]; exact ⟨_, pk p (.slice (some ⟨bj, 0, none⟩) us.length cap) half now :: ([(bj, .cells (us.flatMap User.cells ++ post).toArray 86 (0, 0))] ++ G), resV rfl (.cons rfl .nil), (by repeat (first | exact Sub.refl _ | refine Sub.take (by repeat (first | exact Take.here | apply Take.there | apply Take.app)) ?_ | refine Sub.takeE (by repeat (first | exact TakeE.here | apply TakeE.there | apply TakeE.app)) ?_ | exact Sub.nil _ | apply Sub.drop | apply Sub.dropE)), rfl, _, V, rfl⟩) | (obtain ⟨q1, q2⟩ := chg_ok (id := id) hi.srt hu (show u.id = id by omega) (show ¬ use < 0 by omega); rw [q1, q2]; exact ⟨_, pk p (.slice (some ⟨bj, 0, none⟩) us.length cap) half now :: ([(bj, .cells ((us.set i (chU use u)).flatMap User.cells ++ post).toArray 86 (0, 0))] ++ G), resV rfl (.cons rfl .nil), (by repeat (first | exact Sub.refl _ | refine Sub.take (by repeat (first | exact Take.here | apply Take.there | apply Take.app)) ?_ | refine Sub.takeE (by repeat (first | exact TakeE.here | apply TakeE.there | apply TakeE.app)) ?_ | exact Sub.nil _ | apply Sub.drop | apply Sub.dropE)), rfl, _, u_set rfl hpl hpn hpc, rfl⟩)
      · refine sr_nil ?_
        refine aw_keep (keep_cons (t := 0) rfl (keep_cons (t := 1) rfl (keep_cons (t := 2) rfl (keep_cons (t := 6) rfl (keep_cons (t := 7) rfl (keep_cons (t := 8) rfl (keep_cons (t := 9) rfl (keep_cons (t := 10) rfl (keep_cons (t := 11) rfl (keep_cons (t := 12) rfl (keep_cons (t := 13) rfl (keep_cons (t := 14) rfl (keep_cons (t := 15) rfl (keep_cons (t := 18) rfl (keep_cons (t := 19) rfl (keep_cons (t := 20) rfl (keep_cons (t := 21) rfl (keep_cons (t := 22) rfl (keep_cons (t := 23) rfl (keep_cons (t := 24) rfl (keep_cons (t := 25) rfl (keep_cons (t := 26) rfl (keep_cons (t := 27) rfl (keep_cons (t := 28) rfl (keep_cons (t := 29) rfl (keep_cons (t := 30) rfl keep_nil)))))))))))))))))))))))))) ?_
        refine aw_false rfl ?_
        refine aw_skip ?_
        show AW _ _ _ _ _ _ _
        refine aw_seq ?_
        refine aw_seq_region ?_
        refine sr_x rfl (wtd_none rfl) rfl (Rd.x (x_move rfl)) ?_
        refine sr_x rfl (wtd_none rfl) rfl (Rd.x (x_fieldAddr fd86_2 rfl)) ?_
        refine sr_x rfl (wtd_none rfl) rfl (Rd.x (x_load ag2 rfl (cells_ext (by repeat (first | exact List.mem_cons_self | apply List.mem_cons_of_mem | apply List.mem_append_right)) (by repeat (first | exact Ext.all _ | exact Ext.done | apply Ext.take | apply Ext.skip))))) ?_
        refine sr_x rfl (wtd_none rfl) rfl (Rd.x (x_sub' rfl rfl (i64w (by omega) (by omega)))) ?_
        refine sr_cmp rfl (wtd_none rfl) rfl (Rd.x (x_gt rfl rfl)) (fun h4 => ?_) (fun h4 => ?_)
        · refine sr_nil ?_
          refine aw_keep (keep_cons (t := 0) rfl (keep_cons (t := 1) rfl (keep_cons (t := 2) rfl (keep_cons (t := 6) rfl (keep_cons (t := 7) rfl (keep_cons (t := 8) rfl (keep_cons (t := 9) rfl (keep_cons (t := 10) rfl (keep_cons (t := 11) rfl (keep_cons (t := 12) rfl (keep_cons (t := 13) rfl (keep_cons (t := 14) rfl (keep_cons (t := 15) rfl (keep_cons (t := 18) rfl (keep_cons (t := 19) rfl (keep_cons (t := 20) rfl (keep_cons (t := 21) rfl (keep_cons (t := 22) rfl (keep_cons (t := 23) rfl (keep_cons (t := 24) rfl (keep_cons (t := 25) rfl (keep_cons (t := 26) rfl (keep_cons (t := 27) rfl (keep_cons (t := 28) rfl (keep_cons (t := 29) rfl (keep_cons (t := 30) rfl (keep_cons (t := 31) rfl (keep_cons (t := 32) rfl (keep_cons (t := 33) rfl (keep_cons (t := 34) rfl (keep_cons (t := 35) rfl keep_nil))))))))))))))))))))))))))))))) ?_
          refine aw_true rfl ?_
          refine aw_region ?_
          refine sr_x rfl (wtd_none rfl) rfl (Rd.x (x_fieldAddr fd86_2 rfl)) ?_
          refine sr_x rfl (wtd_none rfl) rfl (Rd.x (x_load ag2 rfl (cells_ext (by repeat (first | exact List.mem_cons_self | apply List.mem_cons_of_mem | apply List.mem_append_right)) (by repeat (first | exact Ext.all _ | exact Ext.done | apply Ext.take | apply Ext.skip))))) ?_
          refine sr_x rfl (wtd_none rfl) rfl (Rd.x (x_sub' rfl rfl (i64w (by omega) (by omega)))) ?_
          refine sr_x rfl (wtd_none rfl) rfl (Rd.x (x_assign rfl)) ?_
          refine sr_nil ?_
          show AW _ _ _ _ _ _ _
          refine aw_seq_region ?_
          refine sr_x rfl (wtd_none rfl) rfl (Rd.x (x_fieldAddr fd86_2 rfl)) ?_
          refine sr_x rfl (wtd_none rfl) rfl (Rd.x (x_load ag2 rfl (cells_ext (by repeat (first | exact List.mem_cons_self | apply List.mem_cons_of_mem | apply List.mem_append_right)) (by repeat (first | exact Ext.all _ | exact Ext.done | apply Ext.take | apply Ext.skip))))) ?_
          refine sr_x rfl (wtd_none rfl) rfl (Rd.x (x_move rfl)) ?_
          refine sr_x rfl (wtd_none rfl) rfl (Rd.x (x_add' rfl rfl (i64w (by omega) (by omega)))) ?_
          refine sr_x rfl (wtd_none rfl) rfl (Rd.x (x_fieldAddr fd86_2 rfl)) ?_
          refine sr_x0 rfl (wtd_none rfl) (x_store sz2 rfl rfl rfl rfl rfl (by repeat (first | exact Repl.here | apply Repl.there | apply Repl.app)) (by first | exact spl_chA (by omega) | exact spl_chB (by omega))) ?_
          refine sr_nil ?_
          refine aw_keep (keep_cons (t := 0) rfl (keep_cons (t := 1) rfl (keep_cons (t := 2) rfl (keep_cons (t := 6) rfl (keep_cons (t := 7) rfl (keep_cons (t := 8) rfl (keep_cons (t := 9) rfl (keep_cons (t := 10) rfl (keep_cons (t := 11) rfl (keep_cons (t := 12) rfl (keep_cons (t := 13) rfl (keep_cons (t := 14) rfl (keep_cons (t := 15) rfl (keep_cons (t := 18) rfl (keep_cons (t := 19) rfl (keep_cons (t := 20) rfl (keep_cons (t := 21) rfl (keep_cons (t := 22) rfl (keep_cons (t := 23) rfl (keep_cons (t := 24) rfl (keep_cons (t := 25) rfl (keep_cons (t := 26) rfl (keep_cons (t := 27) rfl (keep_cons (t := 28) rfl (keep_cons (t := 29) rfl (keep_cons (t := 30) rfl (keep_cons (t := 31) rfl (keep_cons (t := 32) rfl (keep_cons (t := 33) rfl (keep_cons (t := 34) rfl (keep_cons (t := 35) rfl (keep_cons (t := 36) rfl (keep_cons (t := 37) rfl (keep_cons (t := 38) rfl (keep_cons (t := 39) rfl (keep_cons (t := 40) rfl (keep_cons (t := 41) rfl (keep_cons (t := 42) rfl (keep_cons (t := 43) rfl keep_nil))))))))))))))))))))))))))))))))))))))) ?_
          refine aw_seq_dr ⟨_, 8, 51, [[], [0], [0, 1], [0, 1, 2], [], [], [0, 1, 2, 3, 4, 5], [0, 1, 2, 3, 4, 5, 6]], [.light, .light, .light, .mem, .light, .mem, .light, .eff]⟩ (by kernel_rfl) rfl rfl mix ?_
          refine dr_light rfl rfl (wtd_none rfl) (x_move rfl) ?_
          refine dr_light rfl rfl (wtd_none rfl) (x_nilCheck rfl) ?_
          refine dr_light rfl rfl (wtd_none rfl) (x_fieldAddr fd83_0 rfl) ?_
          refine dr_mem0 rfl rfl (wtd_none rfl) (x_load ag73 rfl (cells_ext (by repeat (first | exact List.mem_cons_self | apply List.mem_cons_of_mem | apply List.mem_append_right)) (by repeat (first | exact Ext.all _ | exact Ext.done | apply Ext.take | apply Ext.skip)))) ?_
          refine dr_light rfl rfl (wtd_none rfl) (x_move rfl) ?_
          refine dr_mem0 rfl rfl (wtd_none rfl) (x_loadN ag86 sz86 rfl (cells_ext (by repeat (first | exact List.mem_cons_self | apply List.mem_cons_of_mem | apply List.mem_append_right)) (by repeat (first | exact Ext.all _ | exact Ext.done | apply Ext.take | apply Ext.skip))) rfl) ?_
          refine dr_light rfl rfl (wtd_none rfl) (x_indexAddrN (i) Try.underlying73 sz86 rfl rfl rfl (by omega) (by omega)) ?_
          refine dr_store0 rfl rfl (wtd_none rfl) (x_store sz86 rfl rfl rfl rfl rfl (by repeat (first | exact Repl.here | apply Repl.there | apply Repl.app)) (spl_flat0 (n := 3) (enc := User.cells) (fun _ => rfl) (xs := us) (post := post) (i := i) (x' := chU use u) (by omega))) (by first | rfl | simp [keys_append, keys_cons]) ?_
          refine dr_nil0 ?_
          refine aw_keep (keep_cons (t := 0) rfl (keep_cons (t := 1) rfl (keep_cons (t := 2) rfl (keep_cons (t := 6) rfl (keep_cons (t := 7) rfl (keep_cons (t := 8) rfl (keep_cons (t := 9) rfl (keep_cons (t := 10) rfl (keep_cons (t := 11) rfl (keep_cons (t := 12) rfl (keep_cons (t := 13) rfl (keep_cons (t := 14) rfl (keep_cons (t := 15) rfl (keep_cons (t := 18) rfl (keep_cons (t := 19) rfl (keep_cons (t := 20) rfl (keep_cons (t := 21) rfl (keep_cons (t := 22) rfl (keep_cons (t := 23) rfl (keep_cons (t := 24) rfl (keep_cons (t := 25) rfl (keep_cons (t := 26) rfl (keep_cons (t := 27) rfl (keep_cons (t := 28) rfl (keep_cons (t := 29) rfl (keep_cons (t := 30) rfl (keep_cons (t := 31) rfl (keep_cons (t := 32) rfl (keep_cons (t := 33) rfl (keep_cons (t := 34) rfl (keep_cons (t := 35) rfl (keep_cons (t := 36) rfl (keep_cons (t := 37) rfl (keep_cons (t := 38) rfl (keep_cons (t := 39) rfl (keep_cons (t := 40) rfl (keep_cons (t := 41) rfl (keep_cons (t := 42) rfl (keep_cons (t := 43) rfl (keep_cons (t := 44) rfl (keep_cons (t := 45) rfl (keep_cons (t := 46) rfl (keep_cons (t := 47) rfl (keep_cons (t := 48) rfl (keep_cons (t := 49) rfl (keep_cons (t := 50) rfl keep_nil)))))))))))))))))))))))))))))))))))))))))))))) ?_
          refine aw_seq_region ?_
          refine sr_x rfl (wtd_none rfl) rfl (Rd.x (x_assign rfl)) ?_
          refine sr_nil ?_
          refine aw_keep (keep_cons (t := 0) rfl (keep_cons (t := 1) rfl (keep_cons (t := 2) rfl (keep_cons (t := 6) rfl (keep_cons (t := 7) rfl (keep_cons (t := 8) rfl (keep_cons (t := 9) rfl (keep_cons (t := 10) rfl (keep_cons (t := 11) rfl (keep_cons (t := 12) rfl (keep_cons (t := 13) rfl (keep_cons (t := 14) rfl (keep_cons (t := 15) rfl (keep_cons (t := 18) rfl (keep_cons (t := 19) rfl (keep_cons (t := 20) rfl (keep_cons (t := 21) rfl (keep_cons (t := 22) rfl (keep_cons (t := 23) rfl (keep_cons (t := 24) rfl (keep_cons (t := 25) rfl (keep_cons (t := 26) rfl (keep_cons (t := 27) rfl (keep_cons (t := 28) rfl (keep_cons (t := 29) rfl (keep_cons (t := 30) rfl (keep_cons (t := 31) rfl (keep_cons (t := 32) rfl (keep_cons (t := 33) rfl (keep_cons (t := 34) rfl (keep_cons (t := 35) rfl (keep_cons (t := 36) rfl (keep_cons (t := 37) rfl (keep_cons (t := 38) rfl (keep_cons (t := 39) rfl (keep_cons (t := 40) rfl (keep_cons (t := 41) rfl (keep_cons (t := 42) rfl (keep_cons (t := 43) rfl (keep_cons (t := 44) rfl (keep_cons (t := 45) rfl (keep_cons (t := 46) rfl (keep_cons (t := 47) rfl (keep_cons (t := 48) rfl (keep_cons (t := 49) rfl (keep_cons (t := 50) rfl keep_nil)))))))))))))))))))))))))))))))))))))))))))))) ?_
          refine aw_ret ?_
          show ∃ v H2, ResV _ _ _ _ _ _ v ∧ Sub H2 _ ∧ _
          first | (obtain ⟨q1, q2⟩ := chg_none (id := id) (use := use) (fun ⟨x, hx, he⟩ => ne_mem (show us.length ≤ i by omega) hne x hx he); rw [q1, q2]; exact ⟨_, pk p (.slice a us.length cap) half now :: (E ++ G), resV rfl (.cons rfl .nil), Sub.refl _, rfl, E, V, rfl⟩) | (obtain ⟨q1, q2⟩ := chg_neg (id := id) (show use < 0 by omega) ⟨u, List.mem_of_getElem? hu, by omega⟩; rw [q1, q2]; exact ⟨_, pk p (.slice (some ⟨bj, 0, none⟩) us.length cap) half now :: ([(bj, .cells (us.flatMap User.cells ++ post).toArray 86 (0, 0))] ++ G), resV rfl (.cons rfl .nil), (by repeat (first | exact Sub.refl _ | refine Sub.take (by repeat (first | exact Take.here | apply Take.there | apply Take.app)) ?_ | refine Sub.takeE (by repeat (first | exact TakeE.here | apply TakeE.there | apply TakeE.app)) ?_ | exact Sub.nil _ | apply Sub.drop | apply Sub.dropE)), rfl, _, V, rfl⟩) | (obtain ⟨q1, q2⟩ := chg_ok (id := id) hi.srt hu (show u.id = id by omega) (show ¬ use < 0 by omega); rw [q1, q2]; exact ⟨_, pk p (.slice (some ⟨bj, 0, none⟩) us.length cap) half now :: ([(bj, .cells ((us.set i (chU use u)).flatMap User.cells ++ post).toArray 86 (0, 0))] ++ G), resV rfl (.cons rfl .nil), (by repeat (first | exact Sub.refl _ | refine Sub.take (by repeat (first | exact Take.here | apply Take.there | apply Take.app)) ?_ | refine Sub.takeE (by repeat (first | exact TakeE.here | apply TakeE.there | apply TakeE.app)) ?_ | exact Sub.nil _ | apply Sub.drop | apply Sub.dropE)), rfl, _, u_set rfl hpl hpn hpc, rfl⟩)
        · refine sr_nil ?_
          refine aw_keep (keep_cons (t := 0) rfl (keep_cons (t := 1) rfl (keep_cons (t := 2) rfl (keep_cons (t := 6) rfl (keep_cons (t := 7) rfl (keep_cons (t := 8) rfl (keep_cons (t := 9) rfl (keep_cons (t := 10) rfl (keep_cons (t := 11) rfl (keep_cons (t := 12) rfl (keep_cons (t := 13) rfl (keep_cons (t := 14) rfl (keep_cons (t := 15) rfl (keep_cons (t := 18) rfl (keep_cons (t := 19) rfl (keep_cons (t := 20) rfl (keep_cons (t := 21) rfl (keep_cons (t := 22) rfl (keep_cons (t := 23) rfl (keep_cons (t := 24) rfl (keep_cons (t := 25) rfl (keep_cons (t := 26) rfl (keep_cons (t := 27) rfl (keep_cons (t := 28) rfl (keep_cons (t := 29) rfl (keep_cons (t := 30) rfl (keep_cons (t := 31) rfl (keep_cons (t := 32) rfl (keep_cons (t := 33) rfl (keep_cons (t := 34) rfl (keep_cons (t := 35) rfl keep_nil))))))))))))))))))))))))))))))) ?_
          refine aw_false rfl ?_
          refine aw_skip ?_
          show AW _ _ _ _ _ _ _
          refine aw_seq_region ?_
          refine sr_x rfl (wtd_none rfl) rfl (Rd.x (x_fieldAddr fd86_2 rfl)) ?_
          refine sr_x rfl (wtd_none rfl) rfl (Rd.x (x_load ag2 rfl (cells_ext (by repeat (first | exact List.mem_cons_self | apply List.mem_cons_of_mem | apply List.mem_append_right)) (by repeat (first | exact Ext.all _ | exact Ext.done | apply Ext.take | apply Ext.skip))))) ?_
          refine sr_x rfl (wtd_none rfl) rfl (Rd.x (x_move rfl)) ?_
          refine sr_x rfl (wtd_none rfl) rfl (Rd.x (x_add' rfl rfl (i64w (by omega) (by omega)))) ?_
          refine sr_x rfl (wtd_none rfl) rfl (Rd.x (x_fieldAddr fd86_2 rfl)) ?_
          refine sr_x0 rfl (wtd_none rfl) (x_store sz2 rfl rfl rfl rfl rfl (by repeat (first | exact Repl.here | apply Repl.there | apply Repl.app)) (by first | exact spl_chA (by omega) | exact spl_chB (by omega))) ?_
          refine sr_nil ?_
          refine aw_keep (keep_cons (t := 0) rfl (keep_cons (t := 1) rfl (keep_cons (t := 2) rfl (keep_cons (t := 6) rfl (keep_cons (t := 7) rfl (keep_cons (t := 8) rfl (keep_cons (t := 9) rfl (keep_cons (t := 10) rfl (keep_cons (t := 11) rfl (keep_cons (t := 12) rfl (keep_cons (t := 13) rfl (keep_cons (t := 14) rfl (keep_cons (t := 15) rfl (keep_cons (t := 18) rfl (keep_cons (t := 19) rfl (keep_cons (t := 20) rfl (keep_cons (t := 21) rfl (keep_cons (t := 22) rfl (keep_cons (t := 23) rfl (keep_cons (t := 24) rfl (keep_cons (t := 25) rfl (keep_cons (t := 26) rfl (keep_cons (t := 27) rfl (keep_cons (t := 28) rfl (keep_cons (t := 29) rfl (keep_cons (t := 30) rfl (keep_cons (t := 31) rfl (keep_cons (t := 32) rfl (keep_cons (t := 33) rfl (keep_cons (t := 34) rfl (keep_cons (t := 35) rfl (keep_cons (t := 39) rfl (keep_cons (t := 40) rfl (keep_cons (t := 41) rfl (keep_cons (t := 42) rfl (keep_cons (t := 43) rfl keep_nil)))))))))))))))))))))))))))))))))))) ?_
          refine aw_seq_dr ⟨_, 8, 51, [[], [0], [0, 1], [0, 1, 2], [], [], [0, 1, 2, 3, 4, 5], [0, 1, 2, 3, 4, 5, 6]], [.light, .light, .light, .mem, .light, .mem, .light, .eff]⟩ (by kernel_rfl) rfl rfl mix ?_
          refine dr_light rfl rfl (wtd_none rfl) (x_move rfl) ?_
          refine dr_light rfl rfl (wtd_none rfl) (x_nilCheck rfl) ?_
          refine dr_light rfl rfl (wtd_none rfl) (x_fieldAddr fd83_0 rfl) ?_
          refine dr_mem0 rfl rfl (wtd_none rfl) (x_load ag73 rfl (cells_ext (by repeat (first | exact List.mem_cons_self | apply List.mem_cons_of_mem | apply List.mem_append_right)) (by repeat (first | exact Ext.all _ | exact Ext.done | apply Ext.take | apply Ext.skip)))) ?_
          refine dr_light rfl rfl (wtd_none rfl) (x_move rfl) ?_
          refine dr_mem0 rfl rfl (wtd_none rfl) (x_loadN ag86 sz86 rfl (cells_ext (by repeat (first | exact List.mem_cons_self | apply List.mem_cons_of_mem | apply List.mem_append_right)) (by repeat (first | exact Ext.all _ | exact Ext.done | apply Ext.take | apply Ext.skip))) rfl) ?_
          refine dr_light rfl rfl (wtd_none rfl) (x_indexAddrN (i) Try.underlying73 sz86 rfl rfl rfl (by omega) (by omega)) ?_
          refine dr_store0 rfl rfl (wtd_none rfl) (x_store sz86 rfl rfl rfl rfl rfl (by repeat (first | exact Repl.here | apply Repl.there | apply Repl.app)) (spl_flat0 (n := 3) (enc := User.cells) (fun _ => rfl) (xs := us) (post := post) (i := i) (x' := chU use u) (by omega))) (by first | rfl | simp [keys_append, keys_cons]) ?_
          refine dr_nil0 ?_
          refine aw_keep (keep_cons (t := 0) rfl (keep_cons (t := 1) rfl (keep_cons (t := 2) rfl (keep_cons (t := 6) rfl (keep_cons (t := 7) rfl (keep_cons (t := 8) rfl (keep_cons (t := 9) rfl (keep_cons (t := 10) rfl (keep_cons (t := 11) rfl (keep_cons (t := 12) rfl (keep_cons (t := 13) rfl (keep_cons (t := 14) rfl (keep_cons (t := 15) rfl (keep_cons (t := 18) rfl (keep_cons (t := 19) rfl (keep_cons (t := 20) rfl (keep_cons (t := 21) rfl (keep_cons (t := 22) rfl (keep_cons (t := 23) rfl (keep_cons (t := 24) rfl (keep_cons (t := 25) rfl (keep_cons (t := 26) rfl (keep_cons (t := 27) rfl (keep_cons (t := 28) rfl (keep_cons (t := 29) rfl (keep_cons (t := 30) rfl (keep_cons (t := 31) rfl (keep_cons (t := 32) rfl (keep_cons (t := 33) rfl (keep_cons (t := 34) rfl (keep_cons (t := 35) rfl (keep_cons (t := 39) rfl (keep_cons (t := 40) rfl (keep_cons (t := 41) rfl (keep_cons (t := 42) rfl (keep_cons (t := 43) rfl (keep_cons (t := 44) rfl (keep_cons (t := 45) rfl (keep_cons (t := 46) rfl (keep_cons (t := 47) rfl (keep_cons (t := 48) rfl (keep_cons (t := 49) rfl (keep_cons (t := 50) rfl keep_nil))))))))))))))))))))))))))))))))))))))))))) ?_
          refine aw_seq_region ?_
          refine sr_x rfl (wtd_none rfl) rfl (Rd.x (x_assign rfl)) ?_
          refine sr_nil ?_
          refine aw_keep (keep_cons (t := 0) rfl (keep_cons (t := 1) rfl (keep_cons (t := 2) rfl (keep_cons (t := 6) rfl (keep_cons (t := 7) rfl (keep_cons (t := 8) rfl (keep_cons (t := 9) rfl (keep_cons (t := 10) rfl (keep_cons (t := 11) rfl (keep_cons (t := 12) rfl (keep_cons (t := 13) rfl (keep_cons (t := 14) rfl (keep_cons (t := 15) rfl (keep_cons (t := 18) rfl (keep_cons (t := 19) rfl (keep_cons (t := 20) rfl (keep_cons (t := 21) rfl (keep_cons (t := 22) rfl (keep_cons (t := 23) rfl (keep_cons (t := 24) rfl (keep_cons (t := 25) rfl (keep_cons (t := 26) rfl (keep_cons (t := 27) rfl (keep_cons (t := 28) rfl (keep_cons (t := 29) rfl (keep_cons (t := 30) rfl (keep_cons (t := 31) rfl (keep_cons (t := 32) rfl (keep_cons (t := 33) rfl (keep_cons (t := 34) rfl (keep_cons (t := 35) rfl (keep_cons (t := 39) rfl (keep_cons (t := 40) rfl (keep_cons (t := 41) rfl (keep_cons (t := 42) rfl (keep_cons (t := 43) rfl (keep_cons (t := 44) rfl (keep_cons (t := 45) rfl (keep_cons (t := 46) rfl (keep_cons (t := 47) rfl (keep_cons (t := 48) rfl (keep_cons (t := 49) rfl (keep_cons (t := 50) rfl keep_nil))))))))))))))))))))))))))))))))))))))))))) ?_
          refine aw_ret ?_
          show ∃ v H2, ResV _ _ _ _ _ _ v ∧ Sub H2 _ ∧ _
          first | (obtain ⟨q1, q2⟩ := chg_none (id := id) (use := use) (fun ⟨x, hx, he⟩ => ne_mem (show us.length ≤ i by omega) hne x hx he); rw [q1, q2]; exact ⟨_, pk p (.slice a us.length cap) half now :: (E ++ G), resV rfl (.cons rfl .nil), Sub.refl _, rfl, E, V, rfl⟩) | (obtain ⟨q1, q2⟩ := chg_neg (id := id) (show use < 0 by omega) ⟨u, List.mem_of_getElem? hu, by omega⟩; rw [q1, q2]; exact ⟨_, pk p (.slice (some ⟨bj, 0, none⟩) us.length cap) half now :: ([(bj, .cells (us.flatMap User.cells ++ post).toArray 86 (0, 0))] ++ G), resV rfl (.cons rfl .nil), (by repeat (first | exact Sub.refl _ | refine Sub.take (by repeat (first | exact Take.here | apply Take.there | apply Take.app)) ?_ | refine Sub.takeE (by repeat (first | exact TakeE.here | apply TakeE.there | apply TakeE.app)) ?_ | exact Sub.nil _ | apply Sub.drop | apply Sub.dropE)), rfl, _, V, rfl⟩) | (obtain ⟨q1, q2⟩ := chg_ok (id := id) hi.srt hu (show u.id = id by omega) (show ¬ use < 0 by omega); rw [q1, q2]; exact ⟨_, pk p (.slice (some ⟨bj, 0, none⟩) us.length cap) half now :: ([(bj, .cells ((us.set i (chU use u)).flatMap User.cells ++ post).toArray 86 (0, 0))] ++ G), resV rfl (.cons rfl .nil), (by repeat (first | exact Sub.refl _ | refine Sub.take (by repeat (first | exact Take.here | apply Take.there | apply Take.app)) ?_ | refine Sub.takeE (by repeat (first | exact TakeE.here | apply TakeE.there | apply TakeE.app)) ?_ | exact Sub.nil _ | apply Sub.drop | apply Sub.dropE)), rfl, _, u_set rfl hpl hpn hpc, rfl⟩)
  · refine sr_nil ?_
    refine aw_keep (keep_cons (t := 0) rfl (keep_cons (t := 1) rfl (keep_cons (t := 2) rfl (keep_cons (t := 6) rfl (keep_cons (t := 7) rfl (keep_cons (t := 9) rfl (keep_cons (t := 10) rfl (keep_cons (t := 11) rfl (keep_cons (t := 12) rfl (keep_cons (t := 13) rfl (keep_cons (t := 14) rfl (keep_cons (t := 15) rfl keep_nil)))))))))))) ?_
    refine aw_false rfl ?_
    refine aw_exit ?_
    show AW _ _ _ _ _ _ _
    refine aw_seq_region ?_
    refine sr_x rfl (wtd_none rfl) rfl (Rd.x (x_assign rfl)) ?_
    refine sr_nil ?_
    refine aw_keep (keep_cons (t := 6) rfl keep_nil) ?_
    refine aw_ret ?_
    show ∃ v H2, ResV _ _ _ _ _ _ v ∧ Sub H2 _ ∧ _
    first | (obtain ⟨q1, q2⟩ := chg_none (id := id) (use := use) (fun ⟨x, hx, he⟩ => ne_mem (show us.length ≤ i by omega) hne x hx he); rw [q1, q2]; exact ⟨_, pk p (.slice a us.length cap) half now :: (E ++ G), resV rfl (.cons rfl .nil), Sub.refl _, rfl, E, V, rfl⟩) | (obtain ⟨q1, q2⟩ := chg_neg (id := id) (show use < 0 by omega) ⟨u, List.mem_of_getElem? hu, by omega⟩; rw [q1, q2]; exact ⟨_, pk p (.slice (some ⟨bj, 0, none⟩) us.length cap) half now :: ([(bj, .cells (us.flatMap User.cells ++ post).toArray 86 (0, 0))] ++ G), resV rfl (.cons rfl .nil), (by repeat (first | exact Sub.refl _ | refine Sub.take (by repeat (first | exact Take.here | apply Take.there | apply Take.app)) ?_ | refine Sub.takeE (by repeat (first | exact TakeE.here | apply TakeE.there | apply TakeE.app)) ?_ | exact Sub.nil _ | apply Sub.drop | apply Sub.dropE)), rfl, _, V, rfl⟩) | (obtain ⟨q1, q2⟩ := chg_ok (id := id) hi.srt hu (show u.id = id by omega) (show ¬ use < 0 by omega); rw [q1, q2]; exact ⟨_, pk p (.slice (some ⟨bj, 0, none⟩) us.length cap) half now :: ([(bj, .cells ((us.set i (chU use u)).flatMap User.cells ++ post).toArray 86 (0, 0))] ++ G), resV rfl (.cons rfl .nil), (by repeat (first | exact Sub.refl _ | refine Sub.take (by repeat (first | exact Take.here | apply Take.there | apply Take.app)) ?_ | refine Sub.takeE (by repeat (first | exact TakeE.here | apply TakeE.there | apply TakeE.app)) ?_ | exact Sub.nil _ | apply Sub.drop | apply Sub.dropE)), rfl, _, u_set rfl hpl hpn hpc, rfl⟩)
set_option maxRecDepth 100000 in
set_option maxHeartbeats 400000 in
theorem pdue_s (p : Nat) (a : Option Addr) (cap : Nat) (us : List User) (half now : Int) (H : SHeap) (hc : Cells W0 H p 0 (bkC (.slice a us.length cap) half now)) (hs : SlV W0 H 3 User.cells a cap us) (hn : us.length ≤ 20) (hg : ∀ x ∈ us, URight x) (i : Nat) (x : User) (hx : us[i]? = some x) : AC Try.prog W0 87 [.pointer (some ⟨p, 0, none⟩), .int .i64 i] H (fun v H' => v = .int .i64 (dueOf us x) ∧ H' = H) := by
  have hle := hs.le
  have hcb := hs.capb
  have hil := get_lt hx
  have hgx := hg x (List.mem_of_getElem? hx)
  obtain ⟨bx, ox, hax, hcx⟩ := hs.at_ i _ hx
  have hpb := partsOf_bd (us := us) (fun x hx => (hg x hx).2.1)
  have hsb := sumU_bd hn hg
  have hq1 := tdiv_bd2 (a := 1000 * x.part) (n := partsOf us) (by omega) (by omega)
  have hq2 := tdiv_bd2 (a := sumU us + 999) (n := 1000) (by omega) (by omega)
  refine ac_of Try.func87 rfl rfl rfl ?_
  refine aw_seq_region ?_
  refine sr_x rfl (wtd_none rfl) rfl (Rd.x (x_assign rfl)) ?_
  refine sr_nil ?_
  refine aw_keep (keep_cons (t := 0) rfl (keep_cons (t := 1) rfl (keep_cons (t := 4) rfl keep_nil))) ?_
  refine aw_seq_region ?_
  refine sr_x rfl (wtd_none rfl) rfl (Rd.x (x_assign rfl)) ?_
  refine sr_x rfl (wtd_none rfl) rfl (Rd.x (x_assign rfl)) ?_
  refine sr_nil ?_
  refine aw_keep (keep_cons (t := 0) rfl (keep_cons (t := 1) rfl (keep_cons (t := 4) rfl (keep_cons (t := 5) rfl (keep_cons (t := 6) rfl keep_nil))))) ?_
  refine aw_seq ?_
  refine aw_seq_region ?_
  refine sr_x rfl (wtd_none rfl) rfl (Rd.x (x_assign rfl)) ?_
  refine sr_nil ?_
  refine aw_keep (keep_cons (t := 0) rfl (keep_cons (t := 1) rfl (keep_cons (t := 4) rfl (keep_cons (t := 5) rfl (keep_cons (t := 6) rfl (keep_cons (t := 7) rfl keep_nil)))))) ?_
  refine aw_block ?_
  refine aw_loop (ι := Nat) (fun k => k ≤ us.length) (fun k => [(0, .pointer (some ⟨p, 0, none⟩)), (1, .int .i64 i), (4, .int .i64 0), (5, .int .i64 (partsOf (us.take k))), (6, .int .i64 (sumU (us.take k))), (7, .int .i64 k)]) (fun _ => H) (fun k => us.length - k) 0 (Nat.zero_le _) (by (repeat (first | exact keep_nil | refine keep_cons rfl ?_)); first | done | fail) (by repeat (first | exact Sub.refl _ | apply Sub.drop)) ?_
  intro k hk
  have hbd := partsOf_bd (us := us.take k) (fun x hx => (hg x (List.mem_of_mem_take hx)).2.1)
  have hsd := sumU_bd (us := us.take k) (by rw [List.length_take]; omega) (fun x hx => hg x (List.mem_of_mem_take hx))
  rw [List.length_take] at hbd hsd
  refine aw_seq ?_
  refine aw_seq_region ?_
  refine sr_x rfl (wtd_none rfl) rfl (Rd.x (x_move rfl)) ?_
  refine sr_x rfl (wtd_none rfl) rfl (Rd.x (x_move rfl)) ?_
  refine sr_x rfl (wtd_none rfl) rfl (Rd.x (x_nilCheck rfl)) ?_
  refine sr_x rfl (wtd_none rfl) rfl (Rd.x (x_fieldAddr fd83_0 rfl)) ?_
  refine sr_x rfl (wtd_none rfl) rfl (Rd.x (x_load ag73 rfl (cells_get (Cells.mono hc (by repeat (first | exact Sub.refl _ | apply Sub.drop))) 0 rfl))) ?_
  refine sr_x rfl (wtd_none rfl) rfl (Rd.x (x_lenSlice Try.underlying73 rfl)) ?_
  refine sr_cmp rfl (wtd_none rfl) rfl (Rd.x (x_lt rfl rfl)) (fun h1 => ?_) (fun h1 => ?_)
  · refine sr_nil ?_
    refine aw_keep (keep_cons (t := 0) rfl (keep_cons (t := 1) rfl (keep_cons (t := 4) rfl (keep_cons (t := 5) rfl (keep_cons (t := 6) rfl (keep_cons (t := 7) rfl (keep_cons (t := 9) rfl (keep_cons (t := 10) rfl (keep_cons (t := 11) rfl (keep_cons (t := 12) rfl (keep_cons (t := 13) rfl (keep_cons (t := 14) rfl (keep_cons (t := 15) rfl keep_nil))))))))))))) ?_
    refine aw_true rfl ?_
    refine aw_skip ?_
    show AW _ _ _ _ _ _ _
    refine aw_seq ?_
    refine aw_block ?_
    refine aw_seq_region ?_
    obtain ⟨u, hu⟩ := get_ex (show k < us.length by omega)
    have hgu := hg u (List.mem_of_getElem? hu)
    obtain ⟨bu, ou, hau, hcu⟩ := hs.at_ k _ hu
    refine sr_x rfl (wtd_none rfl) rfl (Rd.x (x_move rfl)) ?_
    refine sr_x rfl (wtd_none rfl) rfl (Rd.x (x_move rfl)) ?_
    refine sr_x rfl (wtd_none rfl) rfl (Rd.x (x_nilCheck rfl)) ?_
    refine sr_x rfl (wtd_none rfl) rfl (Rd.x (x_fieldAddr fd83_0 rfl)) ?_
    refine sr_x rfl (wtd_none rfl) rfl (Rd.x (x_load ag73 rfl (cells_get (Cells.mono hc (by repeat (first | exact Sub.refl _ | apply Sub.drop))) 0 rfl))) ?_
    refine sr_x rfl (wtd_none rfl) rfl (Rd.x (x_move rfl)) ?_
    refine sr_x rfl (wtd_none rfl) rfl (Rd.x (x_indexAddrN k Try.underlying73 sz86 rfl hau rfl (by omega) (by omega))) ?_
    refine sr_x rfl (wtd_none rfl) rfl (Rd.x (x_fieldAddr fd86_1 rfl)) ?_
    refine sr_x rfl (wtd_none rfl) rfl (Rd.x (x_load ag3 rfl (cells_get (Cells.mono hcu (by repeat (first | exact Sub.refl _ | apply Sub.drop))) 1 rfl))) ?_
    refine sr_x rfl (wtd_none rfl) rfl (Rd.x (x_add' rfl rfl (i64w (by omega) (by omega)))) ?_
    refine sr_x rfl (wtd_none rfl) rfl (Rd.x (x_assign rfl)) ?_
    refine sr_nil ?_
    refine aw_keep (keep_cons (t := 0) rfl (keep_cons (t := 1) rfl (keep_cons (t := 4) rfl (keep_cons (t := 5) rfl (keep_cons (t := 6) rfl (keep_cons (t := 7) rfl (keep_cons (t := 9) rfl (keep_cons (t := 10) rfl (keep_cons (t := 11) rfl (keep_cons (t := 12) rfl (keep_cons (t := 13) rfl (keep_cons (t := 14) rfl (keep_cons (t := 15) rfl (keep_cons (t := 18) rfl (keep_cons (t := 19) rfl (keep_cons (t := 20) rfl (keep_cons (t := 21) rfl (keep_cons (t := 22) rfl (keep_cons (t := 23) rfl (keep_cons (t := 24) rfl (keep_cons (t := 25) rfl (keep_cons (t := 26) rfl (keep_cons (t := 27) rfl keep_nil))))))))))))))))))))))) ?_
    refine aw_region ?_
    refine sr_x rfl (wtd_none rfl) rfl (Rd.x (x_move rfl)) ?_
    refine sr_x rfl (wtd_none rfl) rfl (Rd.x (x_move rfl)) ?_
    refine sr_x rfl (wtd_none rfl) rfl (Rd.x (x_nilCheck rfl)) ?_
    refine sr_x rfl (wtd_none rfl) rfl (Rd.x (x_fieldAddr fd83_0 rfl)) ?_
    refine sr_x rfl (wtd_none rfl) rfl (Rd.x (x_load ag73 rfl (cells_get (Cells.mono hc (by repeat (first | exact Sub.refl _ | apply Sub.drop))) 0 rfl))) ?_
    refine sr_x rfl (wtd_none rfl) rfl (Rd.x (x_move rfl)) ?_
    refine sr_x rfl (wtd_none rfl) rfl (Rd.x (x_indexAddrN k Try.underlying73 sz86 rfl hau rfl (by omega) (by omega))) ?_
    refine sr_x rfl (wtd_none rfl) rfl (Rd.x (x_fieldAddr fd86_2 rfl)) ?_
    refine sr_x rfl (wtd_none rfl) rfl (Rd.x (x_load ag2 rfl (cells_get (Cells.mono hcu (by repeat (first | exact Sub.refl _ | apply Sub.drop))) 2 rfl))) ?_
    refine sr_x rfl (wtd_none rfl) rfl (Rd.x (x_add' rfl rfl (i64w (by omega) (by omega)))) ?_
    refine sr_x rfl (wtd_none rfl) rfl (Rd.x (x_assign rfl)) ?_
    refine sr_nil ?_
    show AW _ _ _ _ _ _ _
    refine aw_region ?_
    refine sr_x rfl (wtd_none rfl) rfl (Rd.x (x_move rfl)) ?_
    refine sr_x rfl (wtd_none rfl) rfl (Rd.x (x_add' rfl rfl (i64w (by omega) (by omega)))) ?_
    refine sr_x rfl (wtd_none rfl) rfl (Rd.x (x_assign rfl)) ?_
    refine sr_nil ?_
    show ∃ s', _ ∧ _ ∧ _ ∧ _
    exact ⟨k + 1, by omega, by omega, (by rw [partsOf_take hu, sumU_take hu]; exact (by (repeat (first | exact keep_nil | refine keep_cons rfl ?_)); first | done | fail)), (by repeat (first | exact Sub.refl _ | apply Sub.drop))⟩
  · refine sr_nil ?_
    refine aw_keep (keep_cons (t := 0) rfl (keep_cons (t := 1) rfl (keep_cons (t := 4) rfl (keep_cons (t := 5) rfl (keep_cons (t := 6) rfl (keep_cons (t := 7) rfl (keep_cons (t := 9) rfl (keep_cons (t := 10) rfl (keep_cons (t := 11) rfl (keep_cons (t := 12) rfl (keep_cons (t := 13) rfl (keep_cons (t := 14) rfl (keep_cons (t := 15) rfl keep_nil))))))))))))) ?_
    refine aw_false rfl ?_
    refine aw_exit ?_
    show AW _ _ _ _ _ _ _
    refine aw_seq_region ?_
    have e9 : us.take k = us := List.take_of_length_le (by omega)
    rw [e9]
    refine sr_x rfl (wtd_none rfl) rfl (Rd.x (x_move rfl)) ?_
    refine sr_x rfl (wtd_none rfl) rfl (Rd.x (x_nilCheck rfl)) ?_
    refine sr_x rfl (wtd_none rfl) rfl (Rd.x (x_fieldAddr fd83_0 rfl)) ?_
    refine sr_x rfl (wtd_none rfl) rfl (Rd.x (x_load ag73 rfl (cells_get (Cells.mono hc (by repeat (first | exact Sub.refl _ | apply Sub.drop))) 0 rfl))) ?_
    refine sr_x rfl (wtd_none rfl) rfl (Rd.x (x_move rfl)) ?_
    refine sr_x rfl (wtd_none rfl) rfl (Rd.x (x_indexAddrN i Try.underlying73 sz86 rfl hax rfl (by omega) (by omega))) ?_
    refine sr_x rfl (wtd_none rfl) rfl (Rd.x (x_fieldAddr fd86_1 rfl)) ?_
    refine sr_x rfl (wtd_none rfl) rfl (Rd.x (x_load ag3 rfl (cells_get (Cells.mono hcx (by repeat (first | exact Sub.refl _ | apply Sub.drop))) 1 rfl))) ?_
    refine sr_x rfl (wtd_none rfl) rfl (Rd.x (x_mul' rfl rfl (i64w (by omega) (by omega)))) ?_
    refine sr_x rfl (wtd_none rfl) rfl (Rd.x (x_move rfl)) ?_
    refine sr_x rfl (wtd_none rfl) rfl (Rd.x (x_quo' rfl rfl (by omega) (i64w (by omega) (by omega)))) ?_
    refine sr_x rfl (wtd_none rfl) rfl (Rd.x (x_assign rfl)) ?_
    refine sr_nil ?_
    refine aw_keep (keep_cons (t := 0) rfl (keep_cons (t := 1) rfl (keep_cons (t := 4) rfl (keep_cons (t := 6) rfl (keep_cons (t := 8) rfl keep_nil))))) ?_
    refine aw_seq ?_
    refine aw_seq_region ?_
    refine sr_x rfl (wtd_none rfl) rfl (Rd.x (x_move rfl)) ?_
    refine sr_cmp rfl (wtd_none rfl) rfl (Rd.x (x_gt rfl rfl)) (fun h2 => ?_) (fun h2 => ?_)
    · refine sr_nil ?_
      refine aw_keep (keep_cons (t := 0) rfl (keep_cons (t := 1) rfl (keep_cons (t := 4) rfl (keep_cons (t := 6) rfl (keep_cons (t := 8) rfl (keep_cons (t := 50) rfl keep_nil)))))) ?_
      refine aw_true rfl ?_
      refine aw_region ?_
      have h99 : 1 ≤ (sumU us + 999).tdiv 1000 := by rw [Int.tdiv_eq_ediv_of_nonneg (by omega)]; omega
      have hq3 := tdiv_bd2 (a := x.used) (n := (sumU us + 999).tdiv 1000) (by omega) (by omega)
      refine sr_x rfl (wtd_none rfl) rfl (Rd.x (x_move rfl)) ?_
      refine sr_x rfl (wtd_none rfl) rfl (Rd.x (x_move rfl)) ?_
      refine sr_x rfl (wtd_none rfl) rfl (Rd.x (x_nilCheck rfl)) ?_
      refine sr_x rfl (wtd_none rfl) rfl (Rd.x (x_fieldAddr fd83_0 rfl)) ?_
      refine sr_x rfl (wtd_none rfl) rfl (Rd.x (x_load ag73 rfl (cells_get (Cells.mono hc (by repeat (first | exact Sub.refl _ | apply Sub.drop))) 0 rfl))) ?_
      refine sr_x rfl (wtd_none rfl) rfl (Rd.x (x_move rfl)) ?_
      refine sr_x rfl (wtd_none rfl) rfl (Rd.x (x_indexAddrN i Try.underlying73 sz86 rfl hax rfl (by omega) (by omega))) ?_
      refine sr_x rfl (wtd_none rfl) rfl (Rd.x (x_fieldAddr fd86_2 rfl)) ?_
      refine sr_x rfl (wtd_none rfl) rfl (Rd.x (x_load ag2 rfl (cells_get (Cells.mono hcx (by repeat (first | exact Sub.refl _ | apply Sub.drop))) 2 rfl))) ?_
      refine sr_x rfl (wtd_none rfl) rfl (Rd.x (x_move rfl)) ?_
      refine sr_x rfl (wtd_none rfl) rfl (Rd.x (x_add' rfl rfl (i64w (by omega) (by omega)))) ?_
      refine sr_x rfl (wtd_none rfl) rfl (Rd.x (x_quo' rfl rfl (by omega) (i64w (by omega) (by omega)))) ?_
      refine sr_x rfl (wtd_none rfl) rfl (Rd.x (x_quo' rfl rfl (by omega) (i64w (by omega) (by omega)))) ?_
      refine sr_x rfl (wtd_none rfl) rfl (Rd.x (x_sub' rfl rfl (i64w (by omega) (by omega)))) ?_
      refine sr_x rfl (wtd_none rfl) rfl (Rd.x (x_assign rfl)) ?_
      refine sr_nil ?_
      show AW _ _ _ _ _ _ _
      refine aw_seq ?_
      refine aw_seq_region ?_
      refine sr_x rfl (wtd_none rfl) rfl (Rd.x (x_move rfl)) ?_
      refine sr_cmp rfl (wtd_none rfl) rfl (Rd.x (x_lt rfl rfl)) (fun h3 => ?_) (fun h3 => ?_)
      · refine sr_nil ?_
        refine aw_keep (keep_cons (t := 4) rfl (keep_cons (t := 8) rfl (keep_cons (t := 66) rfl keep_nil))) ?_
        refine aw_true rfl ?_
        refine aw_seq_region ?_
        refine sr_x rfl (wtd_none rfl) rfl (Rd.x (x_assign rfl)) ?_
        refine sr_nil ?_
        refine aw_keep (keep_cons (t := 4) rfl (keep_cons (t := 8) rfl keep_nil)) ?_
        refine aw_ret ?_
        show ∃ v H2, ResV _ _ _ _ _ _ v ∧ Sub H2 _ ∧ _
        exact ⟨_, H, resV rfl (.cons rfl .nil), (by repeat (first | exact Sub.refl _ | apply Sub.drop)), (by first | exact ⟨congrArg (Value.int .i64) (by rw [due_pos (by omega) hn hg]; omega), rfl⟩ | exact ⟨congrArg (Value.int .i64) (by rw [due_zero (by omega) (by omega) hn hg]), rfl⟩)⟩
      · refine sr_nil ?_
        refine aw_keep (keep_cons (t := 4) rfl (keep_cons (t := 8) rfl (keep_cons (t := 66) rfl keep_nil))) ?_
        refine aw_false rfl ?_
        refine aw_skip ?_
        show AW _ _ _ _ _ _ _
        refine aw_seq_region ?_
        refine sr_x rfl (wtd_none rfl) rfl (Rd.x (x_move rfl)) ?_
        refine sr_x rfl (wtd_none rfl) rfl (Rd.x (x_assign rfl)) ?_
        refine sr_nil ?_
        refine aw_keep (keep_cons (t := 4) rfl keep_nil) ?_
        refine aw_ret ?_
        show ∃ v H2, ResV _ _ _ _ _ _ v ∧ Sub H2 _ ∧ _
        exact ⟨_, H, resV rfl (.cons rfl .nil), (by repeat (first | exact Sub.refl _ | apply Sub.drop)), (by first | exact ⟨congrArg (Value.int .i64) (by rw [due_pos (by omega) hn hg]; omega), rfl⟩ | exact ⟨congrArg (Value.int .i64) (by rw [due_zero (by omega) (by omega) hn hg]), rfl⟩)⟩
    · refine sr_nil ?_
      refine aw_keep (keep_cons (t := 0) rfl (keep_cons (t := 1) rfl (keep_cons (t := 4) rfl (keep_cons (t := 6) rfl (keep_cons (t := 8) rfl (keep_cons (t := 50) rfl keep_nil)))))) ?_
      refine aw_false rfl ?_
      refine aw_skip ?_
      show AW _ _ _ _ _ _ _
      refine aw_seq ?_
      refine aw_seq_region ?_
      refine sr_x rfl (wtd_none rfl) rfl (Rd.x (x_move rfl)) ?_
      refine sr_cmp rfl (wtd_none rfl) rfl (Rd.x (x_lt rfl rfl)) (fun h4 => ?_) (fun h4 => ?_)
      · refine sr_nil ?_
        refine aw_keep (keep_cons (t := 4) rfl (keep_cons (t := 8) rfl (keep_cons (t := 66) rfl keep_nil))) ?_
        refine aw_true rfl ?_
        refine aw_seq_region ?_
        refine sr_x rfl (wtd_none rfl) rfl (Rd.x (x_assign rfl)) ?_
        refine sr_nil ?_
        refine aw_keep (keep_cons (t := 4) rfl (keep_cons (t := 8) rfl keep_nil)) ?_
        refine aw_ret ?_
        show ∃ v H2, ResV _ _ _ _ _ _ v ∧ Sub H2 _ ∧ _
        exact ⟨_, H, resV rfl (.cons rfl .nil), (by repeat (first | exact Sub.refl _ | apply Sub.drop)), (by first | exact ⟨congrArg (Value.int .i64) (by rw [due_pos (by omega) hn hg]; omega), rfl⟩ | exact ⟨congrArg (Value.int .i64) (by rw [due_zero (by omega) (by omega) hn hg]), rfl⟩)⟩
      · refine sr_nil ?_
        refine aw_keep (keep_cons (t := 4) rfl (keep_cons (t := 8) rfl (keep_cons (t := 66) rfl keep_nil))) ?_
        refine aw_false rfl ?_
        refine aw_skip ?_
        show AW _ _ _ _ _ _ _
        refine aw_seq_region ?_
        refine sr_x rfl (wtd_none rfl) rfl (Rd.x (x_move rfl)) ?_
        refine sr_x rfl (wtd_none rfl) rfl (Rd.x (x_assign rfl)) ?_
        refine sr_nil ?_
        refine aw_keep (keep_cons (t := 4) rfl keep_nil) ?_
        refine aw_ret ?_
        show ∃ v H2, ResV _ _ _ _ _ _ v ∧ Sub H2 _ ∧ _
        exact ⟨_, H, resV rfl (.cons rfl .nil), (by repeat (first | exact Sub.refl _ | apply Sub.drop)), (by first | exact ⟨congrArg (Value.int .i64) (by rw [due_pos (by omega) hn hg]; omega), rfl⟩ | exact ⟨congrArg (Value.int .i64) (by rw [due_zero (by omega) (by omega) hn hg]), rfl⟩)⟩
end
end Go.Proofs.Yteilocpjikmmdaa
