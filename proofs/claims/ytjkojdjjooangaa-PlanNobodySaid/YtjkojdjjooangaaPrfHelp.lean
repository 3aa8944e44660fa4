/- What the laws of profiles share. -/
import Derived.Test.YtjkojdjjooangaaStp
namespace Go.Proofs.Ytjkojdjjooangaa
open Go.Proofs.Ytjkojdjjooangaa.Sym
open Go.RowKit (Below)
set_option linter.unusedVariables false
set_option linter.unusedSimpArgs false
theorem sub_n1 {A B H : SHeap} : Sub A ((A ++ (B ++ [])) ++ H) := ⟨B ++ H, by simp⟩
theorem sub_n2 {A B H : SHeap} : Sub B ((A ++ (B ++ [])) ++ H) := ⟨A ++ H, by rw [List.append_nil, List.append_assoc]; exact List.perm_append_comm_assoc B A H⟩
theorem rep_uniq {S S' : List PStep} {now : Int} {f : Int → Int} (h : Rep S now f) (k : Rep S' now f) : S = S' := steps_uniq h.ris k.ris h.dst k.dst h.head k.head fun t ht => (h.fr t ht).trans (k.fr t ht).symm
theorem rep_at {S : List PStep} {now : Int} {f : Int → Int} (h : Rep S now f) (t : Int) : frS S t = f (max t now) := by
  rcases Int.lt_or_le t now with q | q
  · rw [show max t now = now by omega, ← h.fr now (Int.le_refl _)]
    obtain ⟨s, hs, hn⟩ := h.head
    have e : ∀ u, u ≤ now → IdxOk S u 0 := fun u hu => ⟨⟨s, hs, .inl rfl⟩, fun s' hs' => by have := h.ris.lt hs hs' (by omega); omega⟩
    rw [frS_at h.ris (e t (by omega)) hs, frS_at h.ris (e now (Int.le_refl _)) hs]
  · rw [show max t now = t by omega]; exact h.fr t q
theorem least_eq {f : Int → Int} {now from_ to_ m m2 M : Int} (hB : max from_ now < to_ → MinOn f (max from_ now) to_ m ∧ MaxOn f (max from_ now) to_ M) (hB0 : to_ ≤ max from_ now → m = 64) (h1 : max from_ now < to_ → MinOn f (max from_ now) to_ m2) (h2 : to_ ≤ max from_ now → m2 = 64) : m2 = m := by
  rcases Int.lt_or_le (max from_ now) to_ with q | q
  · exact (h1 q).uniq (hB q).1
  · rw [hB0 q, h2 q]
theorem addC_rng {S : List PStep} {now from_ to_ d e : Int} {f : Int → Int} {ch : Bool} (h : Rep S now f) (hn : 0 ≤ now ∧ now ≤ 1099511627776) (hr : ∀ t, now ≤ t → 0 ≤ f t ∧ f t ≤ 64) (hC : AddC f now from_ to_ d e ch) : ∀ t, now ≤ t → 0 ≤ (if ch = true then addF f now from_ to_ d else f) t ∧ (if ch = true then addF f now from_ to_ d else f) t ≤ 64 := by
  cases hC with
  | arg => exact hr
  | zero => exact hr
  | range => exact hr
  | ok g1 g2 g3 => exact addF_rng h hn hr g1 g2 g3
theorem adv_now {now e : Int} {ch : Bool} (hC : AdvC now 1099511627776 e ch) (hn : now ≤ 1099511627776) : (if ch = true then (1099511627776 : Int) else now) = 1099511627776 := by
  cases hC with
  | range h => exfalso; omega
  | same h => show now = _; omega
  | go => rfl
theorem addC_bad {now from_ to_ d e : Int} {f : Int → Int} {ch : Bool} (hC : AddC f now from_ to_ d e ch) (he : e ≠ 0) : ch = false := by
  cases hC with
  | arg => rfl
  | zero => rfl
  | range => rfl
  | ok => exact absurd rfl he
theorem back_ok {S S2 : List PStep} {now from_ to_ w e e2 : Int} {f : Int → Int} {ch ch2 : Bool} (h : Rep S now f) (hr : ∀ t, now ≤ t → 0 ≤ f t ∧ f t ≤ 64) (hC1 : AddC f now from_ to_ (0 - w) e ch) (he : e = 0) (hC2 : AddC (if ch = true then addF f now from_ to_ (0 - w) else f) now from_ to_ w e2 ch2)
    (hR2 : Rep S2 now (if ch2 = true then addF (if ch = true then addF f now from_ to_ (0 - w) else f) now from_ to_ w else (if ch = true then addF f now from_ to_ (0 - w) else f))) : e2 = 0 ∧ S = S2 := by
  cases hC1 with
  | arg => omega
  | range => omega
  | zero h1 h2 =>
    have hC2' : AddC f now from_ to_ w e2 ch2 := hC2
    have q : AddC f now from_ to_ w 0 false := .zero (by omega) (by omega)
    obtain ⟨rfl, rfl⟩ := hC2'.uniq q
    exact ⟨rfl, rep_uniq h hR2⟩
  | ok h1 h2 h3 =>
    have hC2' : AddC (addF f now from_ to_ (0 - w)) now from_ to_ w e2 ch2 := hC2
    have q : AddC (addF f now from_ to_ (0 - w)) now from_ to_ w 0 true := .ok (by omega) (by omega) fun t q1 q2 => by
      unfold addF
      rw [if_pos ⟨q1, .inl q2⟩]
      have := hr t (by omega)
      omega
    obtain ⟨rfl, rfl⟩ := hC2'.uniq q
    have hR3 : Rep S2 now (addF (addF f now from_ to_ (0 - w)) now from_ to_ w) := hR2
    refine ⟨rfl, rep_uniq h (hR3.congr fun t _ => ?_)⟩
    unfold addF
    split <;> omega
theorem pnowR_s {W0 : World} (p : Nat) (a : Option Addr) (cap : Nat) (S : List PStep) (ver : Int) (H : SHeap) (hc : Cells W0 H p 0 [.slice a S.length cap, .int .i64 ver]) (hs : SlV W0 H 2 PStep.cells a cap S) (now : Int) (f : Int → Int) (hr : Rep S now f) : AC Try.prog W0 28 [.pointer (some ⟨p, 0, none⟩)] H (fun v H' => v = .int .i64 now ∧ H' = H) := by
  obtain ⟨s0, hs0, hn⟩ := hr.head
  exact (pnow_s p a cap S ver H hc hs s0 hs0).mono fun v H' ⟨h1, h2⟩ => ⟨by rw [h1, hn], h2⟩

section
variable {W0 : World}
set_option maxRecDepth 100000 in
set_option maxHeartbeats 400000 in
theorem paddN_s (f t d : Int) (H : SHeap) : AC Try.prog W0 38 [.pointer none, .int .i64 f, .int .i64 t, .int .i64 d] H (fun v H' => v = .int .i64 8 ∧ H' = H) := by
  refine ac_of Try.func38 rfl rfl rfl ?_
  refine aw_seq_region ?_
  refine sr_x rfl (wtd_none rfl) rfl (Rd.x (x_assign rfl)) ?_
  refine sr_nil ?_
  refine aw_keep (keep_cons (t := 0) rfl (keep_cons (t := 1) rfl (keep_cons (t := 2) rfl (keep_cons (t := 3) rfl (keep_cons (t := 8) rfl keep_nil))))) ?_
  refine aw_seq ?_
  refine aw_block ?_
  refine aw_seq_region ?_
  refine sr_x rfl (wtd_none rfl) rfl (Rd.x (x_move rfl)) ?_
  refine sr_d rfl (wtd_none rfl) rfl (opS_call rfl rfl rfl rfl cl90 (pnoneN_s _)) ?_
  rintro _ H ⟨rfl, rfl⟩
  refine sr_x rfl (wtd_none rfl) rfl (Rd.x (x_assign rfl)) ?_
  refine sr_nil ?_
  refine aw_keep (keep_cons (t := 0) rfl (keep_cons (t := 1) rfl (keep_cons (t := 2) rfl (keep_cons (t := 3) rfl (keep_cons (t := 8) rfl (keep_cons (t := 11) rfl keep_nil)))))) ?_
  refine aw_true rfl ?_
  refine aw_seq_region ?_
  refine sr_x rfl (wtd_none rfl) rfl (Rd.x (x_assign rfl)) ?_
  refine sr_nil ?_
  refine aw_keep (keep_cons (t := 0) rfl (keep_cons (t := 1) rfl (keep_cons (t := 2) rfl (keep_cons (t := 3) rfl (keep_cons (t := 8) rfl keep_nil))))) ?_
  refine aw_ret ?_
  show ∃ v H2, ResV _ _ _ _ _ _ v ∧ Sub H2 _ ∧ _
  exact ⟨_, H, resV rfl (.cons rfl .nil), (by repeat (first | exact Sub.refl _ | apply Sub.drop)), ⟨rfl, rfl⟩⟩
set_option maxRecDepth 100000 in
set_option maxHeartbeats 400000 in
theorem padvN_s (t : Int) (H : SHeap) : AC Try.prog W0 39 [.pointer none, .int .i64 t] H (fun v H' => v = .int .i64 8 ∧ H' = H) := by
  refine ac_of Try.func39 rfl rfl rfl ?_
  refine aw_seq_region ?_
  refine sr_x rfl (wtd_none rfl) rfl (Rd.x (x_assign rfl)) ?_
  refine sr_nil ?_
  refine aw_keep (keep_cons (t := 0) rfl (keep_cons (t := 1) rfl (keep_cons (t := 4) rfl keep_nil))) ?_
  refine aw_seq ?_
  refine aw_block ?_
  refine aw_seq_region ?_
  refine sr_x rfl (wtd_none rfl) rfl (Rd.x (x_move rfl)) ?_
  refine sr_d rfl (wtd_none rfl) rfl (opS_call rfl rfl rfl rfl cl90 (pnoneN_s _)) ?_
  rintro _ H ⟨rfl, rfl⟩
  refine sr_x rfl (wtd_none rfl) rfl (Rd.x (x_assign rfl)) ?_
  refine sr_nil ?_
  refine aw_keep (keep_cons (t := 0) rfl (keep_cons (t := 1) rfl (keep_cons (t := 4) rfl (keep_cons (t := 5) rfl keep_nil)))) ?_
  refine aw_true rfl ?_
  refine aw_seq_region ?_
  refine sr_x rfl (wtd_none rfl) rfl (Rd.x (x_assign rfl)) ?_
  refine sr_nil ?_
  refine aw_keep (keep_cons (t := 0) rfl (keep_cons (t := 1) rfl (keep_cons (t := 4) rfl keep_nil))) ?_
  refine aw_ret ?_
  show ∃ v H2, ResV _ _ _ _ _ _ v ∧ Sub H2 _ ∧ _
  exact ⟨_, H, resV rfl (.cons rfl .nil), (by repeat (first | exact Sub.refl _ | apply Sub.drop)), ⟨rfl, rfl⟩⟩
end
end Go.Proofs.Ytjkojdjjooangaa
