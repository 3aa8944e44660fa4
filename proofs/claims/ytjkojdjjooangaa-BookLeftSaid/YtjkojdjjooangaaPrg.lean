/- Profiles: what the functions that change one come to. -/
import Derived.Test.YtjkojdjjooangaaPrf
namespace Go.Proofs.Ytjkojdjjooangaa
open Go.Proofs.Ytjkojdjjooangaa.Sym
open Go.RowKit (Below)
set_option linter.unusedVariables false
set_option linter.unusedSimpArgs false
structure CpG (α : Type) where
  k : Nat
  m : Nat
  C : List α
structure SpG where
  k : Nat
  S : List PStep
  a : Option Addr
  c : Nat
  E : SHeap
theorem flat_take {α : Type} {n : Nat} {enc : α → List Value} (hn : ∀ x, (enc x).length = n) (xs : List α) {k : Nat} (hk : k ≤ xs.length) : (xs.flatMap enc).take (k * n) = (xs.take k).flatMap enc ∧ (xs.flatMap enc).drop (k * n) = (xs.drop k).flatMap enc := by
  have h : xs.flatMap enc = (xs.take k).flatMap enc ++ (xs.drop k).flatMap enc := by
    conv => lhs; rw [← List.take_append_drop k xs]
    rw [List.flatMap_append]
  have hl : ((xs.take k).flatMap enc).length = k * n := by rw [flat_len hn, List.length_take, Nat.min_eq_left hk]
  rw [h]
  exact ⟨List.take_left' hl, List.drop_left' hl⟩
theorem spl_cells {S : List PStep} {i : Nat} {t f : Int} (hi : i < S.length := by assumption) : (S.flatMap PStep.cells).take ((i + 1) * 2) ++ PStep.cells ⟨t, f⟩ ++ (S.flatMap PStep.cells).drop ((i + 1) * 2) = (spl S i t f).flatMap PStep.cells := by
  obtain ⟨h1, h2⟩ := flat_take (n := 2) (enc := PStep.cells) (fun _ => rfl) S (k := i + 1) hi
  rw [h1, h2]
  unfold spl
  rw [List.flatMap_append, List.flatMap_cons, List.append_assoc]
theorem idx_le {S : List PStep} {i : Nat} {s s0 : PStep} {t : Int} (h0 : S[0]? = some s0) (h1 : S[i]? = some s) (h2 : i = 0 ∨ s.at_ ≤ t) (ht : s0.at_ ≤ t) : s.at_ ≤ t := by
  rcases h2 with q | q
  · subst q; rw [h0] at h1; cases h1; exact ht
  · exact q
theorem offBlk {size : Nat} {e : TypeId} {b off n cap m : Nat} {L : List Value} {E : SHeap} (h : OffVec size e (.slice (some ⟨b, off, none⟩) n cap) m L E) : ∃ pre post, E = [(b, .cells (pre ++ (L ++ post)).toArray e (0, 0))] ∧ pre.length = off ∧ L.length = n * size ∧ (cap - n) * size ≤ post.length ∧ n ≤ cap ∧ cap ≤ 9223372036854775807 := by
  cases h with
  | mk h1 h2 h3 h4 h5 => exact ⟨_, _, rfl, h1, h2, h3, h4, h5⟩
def addF (f : Int → Int) (now from_ to_ d : Int) : Int → Int := fun t => f t + if max from_ now ≤ t ∧ (t < to_ ∨ to_ = 1152921504606846976) then d else 0
def BadA (from_ to_ d : Int) : Prop := to_ ≤ from_ ∨ 1152921504606846976 < to_ ∨ d < -64 ∨ 64 < d
inductive AddC (f : Int → Int) (now from_ to_ d : Int) : Int → Bool → Prop
  | arg : (to_ ≤ from_ ∨ 1152921504606846976 < to_ ∨ d < -64 ∨ 64 < d) → AddC f now from_ to_ d 1 false
  | zero : ¬ (to_ ≤ from_ ∨ 1152921504606846976 < to_ ∨ d < -64 ∨ 64 < d) → (to_ ≤ max from_ now ∨ d = 0) → AddC f now from_ to_ d 0 false
  | range : ¬ (to_ ≤ from_ ∨ 1152921504606846976 < to_ ∨ d < -64 ∨ 64 < d) → ¬ (to_ ≤ max from_ now ∨ d = 0) → (∃ t, max from_ now ≤ t ∧ t < to_ ∧ (f t + d < 0 ∨ 64 < f t + d)) → AddC f now from_ to_ d 5 false
  | ok : ¬ (to_ ≤ from_ ∨ 1152921504606846976 < to_ ∨ d < -64 ∨ 64 < d) → ¬ (to_ ≤ max from_ now ∨ d = 0) → (∀ t, max from_ now ≤ t → t < to_ → 0 ≤ f t + d ∧ f t + d ≤ 64) → AddC f now from_ to_ d 0 true
theorem AddC.uniq {f : Int → Int} {now from_ to_ d e e' : Int} {c c' : Bool} (h : AddC f now from_ to_ d e c) (k : AddC f now from_ to_ d e' c') : e = e' ∧ c = c' := by
  cases h with
  | arg h => cases k with
    | arg => exact ⟨rfl, rfl⟩
    | zero k => exact absurd h k
    | range k => exact absurd h k
    | ok k => exact absurd h k
  | zero h h2 => cases k with
    | arg k => exact absurd k h
    | zero => exact ⟨rfl, rfl⟩
    | range k k2 => exact absurd h2 k2
    | ok k k2 => exact absurd h2 k2
  | range h h2 h3 => cases k with
    | arg k => exact absurd k h
    | zero k k2 => exact absurd k2 h2
    | range => exact ⟨rfl, rfl⟩
    | ok k k2 k3 => obtain ⟨t, q1, q2, q3⟩ := h3; have := k3 t q1 q2; omega
  | ok h h2 h3 => cases k with
    | arg k => exact absurd k h
    | zero k k2 => exact absurd k2 h2
    | range k k2 k3 => obtain ⟨t, q1, q2, q3⟩ := k3; have := h3 t q1 q2; omega
    | ok => exact ⟨rfl, rfl⟩
inductive AdvC (now t : Int) : Int → Bool → Prop
  | range : (t < now ∨ 1099511627776 < t) → AdvC now t 5 false
  | same : t = now → t ≤ 1099511627776 → AdvC now t 0 false
  | go : now < t → t ≤ 1099511627776 → AdvC now t 0 true
theorem AdvC.uniq {now t e e' : Int} {c c' : Bool} (h : AdvC now t e c) (k : AdvC now t e' c') : e = e' ∧ c = c' := by
  cases h <;> cases k <;> first | exact ⟨rfl, rfl⟩ | (exfalso; omega)
theorem okMin {f : Int → Int} {a b m d : Int} (h : MinOn f a b m) (hm : ¬ m < 0 - d) (hd : d ≤ 0) (hr : ∀ t, a ≤ t → 0 ≤ f t ∧ f t ≤ 64) : ∀ t, a ≤ t → t < b → 0 ≤ f t + d ∧ f t + d ≤ 64 := fun t q1 q2 => by
  have h1 := h.2.1 t q1 q2; have h2 := hr t q1; omega
theorem okMax {f : Int → Int} {a b m d : Int} (h : MaxOn f a b m) (hm : ¬ 64 - d < m) (hd : 0 ≤ d) (hr : ∀ t, a ≤ t → 0 ≤ f t ∧ f t ≤ 64) : ∀ t, a ≤ t → t < b → 0 ≤ f t + d ∧ f t + d ≤ 64 := fun t q1 q2 => by
  have h1 := h.2.1 t q1 q2; have h2 := hr t q1; omega
theorem rngMin {f : Int → Int} {a b m d : Int} (h : MinOn f a b m) (hm : m < 0 - d) (hd : -64 ≤ d) : ∃ t, a ≤ t ∧ t < b ∧ (f t + d < 0 ∨ 64 < f t + d) := by
  rcases h.2.2 with q | ⟨t, q1, q2, q3⟩
  · omega
  · exact ⟨t, q1, q2, .inl (by omega)⟩
theorem rngMax {f : Int → Int} {a b m d : Int} (h : MaxOn f a b m) (hm : 64 - d < m) (hd : d ≤ 64) : ∃ t, a ≤ t ∧ t < b ∧ (f t + d < 0 ∨ 64 < f t + d) := by
  rcases h.2.2 with q | ⟨t, q1, q2, q3⟩
  · omega
  · exact ⟨t, q1, q2, .inr (by omega)⟩
theorem maxOn_bd {f : Int → Int} {a b m : Int} (h : MaxOn f a b m) (hr : ∀ t, a ≤ t → 0 ≤ f t ∧ f t ≤ 64) : 0 ≤ m ∧ m ≤ 64 := by
  refine ⟨h.1, ?_⟩
  rcases h.2.2 with q | ⟨t, q1, q2, q3⟩
  · omega
  · have := hr t q1; omega
theorem spl_facts {S S1 S2 : List PStep} {now from_ to_ : Int} {f : Int → Int} {i k : Nat} (h : Rep S now f) (hr : ∀ t, now ≤ t → 0 ≤ f t ∧ f t ≤ 64) (h1 : now ≤ from_) (h2 : from_ < to_) (h3 : to_ ≤ 1152921504606846976) (hs1 : SplR S S1 from_ i) (hs2 : (to_ < 1152921504606846976 ∧ SplR S1 S2 to_ k) ∨ (to_ = 1152921504606846976 ∧ S2 = S1 ∧ k = S1.length)) : i < k ∧ k ≤ S2.length ∧ ∀ (j : Nat) (s : PStep), S2[j]? = some s → 0 ≤ s.free ∧ s.free ≤ 64 := by
  obtain ⟨sa, hsa, hfa⟩ := hs1.at_
  have facts : Ris S2 ∧ (∀ u, frS S2 u = frS S u) ∧ S2[0]? = S[0]? ∧ i < k ∧ k ≤ S2.length := by
    rcases hs2 with ⟨q1, q2⟩ | ⟨q1, rfl, rfl⟩
    · obtain ⟨sb, hsb, hfb⟩ := q2.at_
      have := q2.low i sa hsa (by omega)
      have hkl := get_lt hsb
      exact ⟨q2.ris, fun u => (q2.fr u).trans (hs1.fr u), q2.head.trans hs1.head, this.1, Nat.le_of_lt hkl⟩
    · have hil := get_lt hsa
      exact ⟨hs1.ris, hs1.fr, hs1.head, hil, Nat.le_refl _⟩
  obtain ⟨g1, g2, g3, g4, g5⟩ := facts
  obtain ⟨s0, hs0, hn0⟩ := h.head
  refine ⟨g4, g5, fun j s hs => ?_⟩
  have q1 : now ≤ s.at_ := by rw [← hn0]; exact g1.le (g3.trans hs0) hs (Nat.zero_le _)
  rw [← frS_self g1 hs, g2, h.fr _ q1]
  exact hr _ q1
theorem addR_self {S : List PStep} {i : Nat} {d : Int} : addR S i i d = S := by
  apply List.ext_getElem?
  intro k
  cases h : S[k]? with
  | none => rw [List.getElem?_eq_none (by rw [addR_len]; exact List.getElem?_eq_none_iff.1 h)]
  | some s => rw [addR_get h, if_neg (by omega)]
theorem addR_cur {S : List PStep} {a j : Nat} {n : Int} {x : PStep} (hx : S[j]? = some x) : (addR S a j n)[j]? = some x := by rw [addR_get hx, if_neg (by omega)]
theorem addR_succ {S : List PStep} {i j : Nat} {d : Int} {x : PStep} (hx : S[j]? = some x) (hij : i ≤ j) : addR S i (j + 1) d = (addR S i j d).set j ⟨x.at_, x.free + d⟩ := by
  apply List.ext_getElem?
  intro k
  rw [List.getElem?_set]
  by_cases e : j = k
  · subst e
    rw [if_pos rfl, if_pos (by rw [addR_len]; exact get_lt hx), addR_get hx, if_pos ⟨hij, by omega⟩]
  · rw [if_neg e]
    cases h : S[k]? with
    | none => rw [List.getElem?_eq_none (by rw [addR_len]; exact List.getElem?_eq_none_iff.1 h), List.getElem?_eq_none (by rw [addR_len]; exact List.getElem?_eq_none_iff.1 h)]
    | some s =>
      rw [addR_get h, addR_get h]
      by_cases q : i ≤ k ∧ k < j
      · rw [if_pos q, if_pos ⟨q.1, by omega⟩]
      · rw [if_neg q, if_neg (by omega)]
theorem spl_fldO {α : Type} {n : Nat} {enc : α → List Value} (hn : ∀ x, (enc x).length = n) {xs : List α} {pre post : List Value} {off i k : Nat} {x x' : α} {v : Value} (hpre : pre.length = off) (hx : xs[i]? = some x) (hk : Spl (enc x) k [v] (enc x')) : Spl (pre ++ (xs.flatMap enc ++ post)) (off + i * n + k) [v] (pre ++ ((xs.set i x').flatMap enc ++ post)) := by
  subst hpre
  rw [Nat.add_assoc]
  exact spl_skip (spl_fld hn hx hk)
theorem spl_addR {S : List PStep} {i j o : Nat} {d : Int} {x : PStep} {pre post : List Value} (hpre : pre.length = o) (hx : S[j]? = some x) (hij : i ≤ j) : Spl (pre ++ ((addR S i j d).flatMap PStep.cells ++ post)) (o + j * 2 + 1) [.int .i64 (x.free + d)] (pre ++ ((addR S i (j + 1) d).flatMap PStep.cells ++ post)) := by
  rw [addR_succ hx hij]
  exact spl_fldO (n := 2) (enc := PStep.cells) (fun _ => rfl) hpre (addR_cur hx) (x' := ⟨x.at_, x.free + d⟩) (.skip (.put .done))
theorem drop_blk {S : List PStep} {i o : Nat} {pre post : List Value} (hpre : pre.length = o) (hi : i ≤ S.length) : ∃ pre2 : List Value, pre2.length = o + i * 2 ∧ pre ++ (S.flatMap PStep.cells ++ post) = pre2 ++ ((S.drop i).flatMap PStep.cells ++ post) := by
  obtain ⟨h1, h2⟩ := flat_take (n := 2) (enc := PStep.cells) (fun _ => rfl) S hi
  refine ⟨pre ++ (S.take i).flatMap PStep.cells, by rw [List.length_append, hpre, flat_len (n := 2) (fun _ => rfl), List.length_take, Nat.min_eq_left hi], ?_⟩
  conv => lhs; rw [← List.take_append_drop i S]
  rw [List.flatMap_append]; simp
theorem spl_adv {S : List PStep} {i o : Nat} {t : Int} {s : PStep} {pre2 post : List Value} (hpre : pre2.length = o) (hs : S[i]? = some s) : Spl (pre2 ++ ((S.drop i).flatMap PStep.cells ++ post)) (o + 0 * 2 + 0) [.int .i64 t] (pre2 ++ (((S.drop i).set 0 ⟨t, s.free⟩).flatMap PStep.cells ++ post)) :=
  spl_fldO (n := 2) (enc := PStep.cells) (fun _ => rfl) hpre (x := s) (x' := ⟨t, s.free⟩) (by rw [List.getElem?_drop]; exact hs) (.put .done)
theorem zc_one {zv : Value} {n : Nat} (h : zv.cells.toList.all oneCell = true) (h0 : 0 < zv.cells.size) : (Builtin.zeroCells zv.cells n).toList.all oneCell = true := by
  rw [List.all_eq_true]
  intro v hv
  unfold Builtin.zeroCells at hv
  rw [Array.toList_map, List.mem_map] at hv
  obtain ⟨i, _, rfl⟩ := hv
  have hi : i % zv.cells.size < zv.cells.size := Nat.mod_lt _ h0
  rw [getElem!_pos zv.cells (i % zv.cells.size) hi]
  exact List.all_eq_true.1 h _ (by simp)
theorem clr_room {n cap k s : Nat} {Z post : List Value} (h1 : k ≤ n) (h2 : n ≤ cap) (hp : (cap - n) * s ≤ post.length) (hZ : Z.length = (n - k) * s) : (cap - k) * s ≤ (Z ++ post).length := by
  rw [List.length_append, hZ, show cap - k = (n - k) + (cap - n) by omega, Nat.add_mul]; omega
theorem cl125 : Callable Try.prog 125 := ⟨Try.f125, Try.func125, by kernel_rfl, by kernel_rfl⟩
theorem cl126 : Callable Try.prog 126 := ⟨Try.f126, Try.func126, by kernel_rfl, by kernel_rfl⟩
theorem cl127 : Callable Try.prog 127 := ⟨Try.f127, Try.func127, by kernel_rfl, by kernel_rfl⟩
theorem cl36 : Callable Try.prog 36 := ⟨Try.f36, Try.func36, by kernel_rfl, by kernel_rfl⟩
theorem cl38 : Callable Try.prog 38 := ⟨Try.f38, Try.func38, by kernel_rfl, by kernel_rfl⟩
theorem cl95 : Callable Try.prog 95 := ⟨Try.f95, Try.func95, by kernel_rfl, by kernel_rfl⟩
theorem cl96 : Callable Try.prog 96 := ⟨Try.f96, Try.func96, by kernel_rfl, by kernel_rfl⟩
theorem cl97 : Callable Try.prog 97 := ⟨Try.f97, Try.func97, by kernel_rfl, by kernel_rfl⟩
theorem exf143 : Extern.find Try.f143 = some (Extern.SlicesOverlaps.overlaps Try.f143.params Try.f143.resultTypes) := by kernel_rfl
theorem exn143 : Extern.findNext Try.f143 = none := by kernel_rfl
theorem fd55_0 : fldOf Try.prog 55 0 = some (0, 2, 1) := by kernel_rfl
theorem fd55_1 : fldOf Try.prog 55 1 = some (1, 2, 1) := by kernel_rfl
theorem fd55_2 : fldOf Try.prog 55 2 = some (2, 3, 1) := by kernel_rfl
theorem sz3 : szOf Try.prog 3 = some 1 := by kernel_rfl
theorem sz43 : szOf Try.prog 43 = some 1 := by kernel_rfl
section
variable {W0 : World}
set_option maxRecDepth 100000 in
set_option maxHeartbeats 400000 in
theorem peq_s (x y : PStep) (H : SHeap) : AC Try.prog W0 127 [PStep.v x, PStep.v y] H (fun v H' => v = .bool (eqF x y) ∧ H' = H) := by
  refine ac_of Try.func127 rfl rfl rfl ?_
  refine aw_seq_region ?_
  refine sr_new rfl (wtd_none rfl) rfl (x_box rfl rfl) ?_
  intro r0_0 hr0_0 gr0_0
  refine sr_new rfl (wtd_none rfl) rfl (x_box rfl rfl) ?_
  intro r0_1 hr0_1 gr0_1
  refine sr_as ?_
  refine sr_nil ?_
  refine aw_kp [2, 3, 4] ?_
  refine aw_seq_region ?_
  refine sr_rd (x_fieldAddr fd76_1 rfl) ?_
  refine sr_rd (x_load ag3 rfl (cells_ext mauto Ext.auto)) ?_
  refine sr_rd (x_fieldAddr fd76_1 rfl) ?_
  refine sr_rd (x_load ag3 rfl (cells_ext mauto Ext.auto)) ?_
  refine sr_c (x_eq rfl rfl) (fun h1 => ?_) (fun h1 => ?_)
  · refine sr_as ?_
    refine sr_nil ?_
    refine aw_kp [4] ?_
    refine aw_ret ?_
    show ∃ v H2, ResV _ _ _ _ _ _ v ∧ Sub H2 _ ∧ _
    exact ⟨_, H, resV rfl (.cons rfl .nil), Sub.autoR, ⟨congrArg Value.bool (by unfold eqF; first | exact (decide_eq_true (by assumption)).symm | exact (decide_eq_false (by assumption)).symm), rfl⟩⟩
  · refine sr_as ?_
    refine sr_nil ?_
    refine aw_kp [4] ?_
    refine aw_ret ?_
    show ∃ v H2, ResV _ _ _ _ _ _ v ∧ Sub H2 _ ∧ _
    exact ⟨_, H, resV rfl (.cons rfl .nil), Sub.autoR, ⟨congrArg Value.bool (by unfold eqF; first | exact (decide_eq_true (by assumption)).symm | exact (decide_eq_false (by assumption)).symm), rfl⟩⟩
set_option maxRecDepth 100000 in
set_option maxHeartbeats 2000000 in
theorem pcptM_s (b off n cap : Nat) (W : List PStep) (pre post : List Value) (G : SHeap) (hpre : pre.length = off) (hl : W.length = n) (hp : (cap - n) * 2 ≤ post.length) (hcap : n ≤ cap) (hcb : cap ≤ 9223372036854775807) (hn : n ≤ 1000000) : AC Try.prog W0 126 [.slice (some ⟨b, off, none⟩) n cap, .func (.func 127) #[] #[]] ((b, .cells (pre ++ ((W).flatMap PStep.cells ++ post)).toArray 76 (0, 0)) :: G) (fun v H' => ∃ k E', v = .slice (some ⟨b, off, none⟩) k cap ∧ k = (cpt eqF W).length ∧ OffVec 2 76 (.slice (some ⟨b, off, none⟩) k cap) k ((cpt eqF W).flatMap PStep.cells) E' ∧ H' = E' ++ G) := by
  refine ac_of Try.func126 rfl rfl rfl ?_
  refine aw_seq_region ?_
  refine sr_as ?_
  refine sr_nil ?_
  refine aw_kp [0, 1, 4] ?_
  refine aw_seq ?_
  refine aw_seq_region ?_
  refine sr_mv ?_
  refine sr_rd (x_lenSlice Try.underlying43 rfl) ?_
  refine sr_c (x_lt rfl rfl) (fun h1 => ?_) (fun h1 => ?_)
  · refine sr_nil ?_
    refine aw_kp [0, 1, 4, 10] ?_
    refine aw_true rfl ?_
    refine aw_seq_region ?_
    refine sr_mv ?_
    refine sr_as ?_
    refine sr_nil ?_
    refine aw_kp [0, 1, 4] ?_
    refine aw_ret ?_
    show ∃ v H2, ResV _ _ _ _ _ _ v ∧ Sub H2 _ ∧ _
    first | (have e9 : cpt eqF W = W := NE.cpt_ (k := 1) NE.one (by omega); exact ⟨_, (b, .cells (pre ++ ((W).flatMap PStep.cells ++ post)).toArray 76 (0, 0)) :: G, resV rfl (.cons rfl .nil), Sub.autoD, n, [(b, .cells (pre ++ ((W).flatMap PStep.cells ++ post)).toArray 76 (0, 0))], rfl, (by rw [e9, hl]), (by rw [e9]; exact .mk hpre (by rw [flat_len (n := 2) (enc := PStep.cells) (fun _ => rfl), hl]) hp hcap hcb), rfl⟩) | (have e9 : cpt eqF W = W := NE.cpt_ (k := k) hne (by omega); exact ⟨_, (b, .cells (pre ++ ((W).flatMap PStep.cells ++ post)).toArray 76 (0, 0)) :: G, resV rfl (.cons rfl .nil), Sub.autoD, n, [(b, .cells (pre ++ ((W).flatMap PStep.cells ++ post)).toArray 76 (0, 0))], rfl, (by rw [e9, hl]), (by rw [e9]; exact .mk hpre (by rw [flat_len (n := 2) (enc := PStep.cells) (fun _ => rfl), hl]) hp hcap hcb), rfl⟩) | (obtain ⟨e8, e9⟩ := hC.done (by omega); exact ⟨_, (b, .cells (pre ++ ((C.take k1).flatMap PStep.cells ++ ((Builtin.zeroCells (.agg #[.int .i64 0, .int .i64 0] : Value).cells (n - k1)).toList ++ post))).toArray 76 (0, 0)) :: G, resV rfl (.cons rfl .nil), Sub.autoD, k1, [(b, .cells (pre ++ ((C.take k1).flatMap PStep.cells ++ ((Builtin.zeroCells (.agg #[.int .i64 0, .int .i64 0] : Value).cells (n - k1)).toList ++ post))).toArray 76 (0, 0))], rfl, e9.symm, (by rw [← e8]; exact .mk hpre (by rw [flat_len (n := 2) (enc := PStep.cells) (fun _ => rfl), List.length_take, Nat.min_eq_left (by omega)]) (clr_room (n := n) (by omega) hcap hp (by rw [zeroCells_len]; rfl)) (by omega) hcb), rfl⟩)
  · refine sr_nil ?_
    refine aw_kp [0, 1, 4, 10] ?_
    refine aw_false rfl ?_
    refine aw_skip ?_
    show AW _ _ _ _ _ _ _
    refine aw_seq ?_
    refine aw_seq_region ?_
    refine sr_as ?_
    refine sr_nil ?_
    refine aw_kp [0, 1, 4, 5] ?_
    refine aw_block ?_
    refine aw_loop (ι := Nat) (fun k => 1 ≤ k ∧ k ≤ n ∧ NE eqF W k) (fun k => [(0, .slice (some ⟨b, off, none⟩) n cap), (1, .func (.func 127) #[] #[]), (5, .int .i64 k)]) (fun _ => (b, .cells (pre ++ ((W).flatMap PStep.cells ++ post)).toArray 76 (0, 0)) :: G) (fun k => n - k) 1 (⟨Nat.le_refl _, by omega, NE.one⟩) KeepF.auto Sub.autoP ?_
    intro k hk9
    obtain ⟨hk1, hk2, hne⟩ := hk9
    refine aw_seq ?_
    refine aw_seq_region ?_
    refine sr_mv ?_
    refine sr_mv ?_
    refine sr_rd (x_lenSlice Try.underlying43 rfl) ?_
    refine sr_c (x_lt rfl rfl) (fun h2 => ?_) (fun h2 => ?_)
    · refine sr_nil ?_
      refine aw_kp [0, 1, 5, 12, 13, 14, 15] ?_
      refine aw_true rfl ?_
      refine aw_skip ?_
      show AW _ _ _ _ _ _ _
      refine aw_seq ?_
      refine aw_block ?_
      refine aw_seq_dr ⟨_, 11, 66, [[], [], [], [1, 2], [1, 2, 3], [], [], [6], [5, 6, 7], [5, 6, 7, 8], [0, 1, 2, 3, 4, 5, 6, 7, 8, 9]], [.light, .light, .light, .light, .mem, .light, .light, .light, .light, .mem, .call]⟩ (by kernel_rfl) rfl rfl mix ?_
      obtain ⟨x, hx⟩ := get_ex (show k < W.length by omega)
      obtain ⟨y, hy⟩ := get_ex (show k - 1 < W.length by omega)
      refine dr_l (x_move rfl) ?_
      refine dr_l (x_move rfl) ?_
      refine dr_l (x_move rfl) ?_
      refine dr_l (x_indexAddrN (k) Try.underlying43 sz76 rfl rfl rfl (by omega) (by omega)) ?_
      refine dr_mem0 rfl rfl (wtd_none rfl) (x_loadN ag76 sz76 rfl (cells_flatO (n := 2) (enc := PStep.cells) (fun _ => rfl) hpre (xs := W) (post := post) (show (b, Obj.cells (pre ++ ((W).flatMap PStep.cells ++ post)).toArray 76 (0, 0)) ∈ _ from mauto) hx) rfl) ?_
      refine dr_l (x_move rfl) ?_
      refine dr_l (x_move rfl) ?_
      refine dr_l (x_cast (u := .int .i64 ((k - 1 : Nat) : Int)) (x_sub' rfl rfl (i64w (by omega) (by omega))) (by congr 1; omega)) ?_
      refine dr_l (x_indexAddrN (k - 1) Try.underlying43 sz76 rfl rfl rfl (by omega) (by omega)) ?_
      refine dr_mem0 rfl rfl (wtd_none rfl) (x_loadN ag76 sz76 rfl (cells_flatO (n := 2) (enc := PStep.cells) (fun _ => rfl) hpre (xs := W) (post := post) (show (b, Obj.cells (pre ++ ((W).flatMap PStep.cells ++ post)).toArray 76 (0, 0)) ∈ _ from mauto) hy) rfl) ?_
      refine dr_callq0 rfl rfl (wtd_none rfl) (opS_F rfl rfl rfl rfl cl127 ((peq_s x y _))) (⟨_, rfl⟩) ?_
      rintro _ rfl
      generalize hd1 : eqF x y = d1
      cases d1
      · refine dr_nil0 ?_
        refine aw_kp [0, 1, 5, 12, 13, 14, 15, 18, 19, 20, 21, 22, 23, 24, 25, 26, 27, 28] ?_
        refine aw_false rfl ?_
        refine aw_skip ?_
        show AW _ _ _ _ _ _ _
        refine aw_region ?_
        refine sr_mv ?_
        refine sr_rd (x_add' rfl rfl (i64w (by omega) (by omega))) ?_
        refine sr_as ?_
        refine sr_nil ?_
        show ∃ s', _ ∧ _ ∧ _ ∧ _
        exact ⟨k + 1, ⟨by omega, by omega, hne.step hk1 hx hy hd1⟩, by omega, KeepF.auto, Sub.autoP⟩
      · refine dr_nil0 ?_
        refine aw_kp [0, 1, 5, 12, 13, 14, 15, 18, 19, 20, 21, 22, 23, 24, 25, 26, 27, 28] ?_
        refine aw_true rfl ?_
        refine aw_seq_region ?_
        refine sr_mv ?_
        refine sr_mv ?_
        refine sr_rd (x_sliceLoK (k) Try.underlying43 sz76 rfl rfl rfl (by omega) (by omega) (by omega)) ?_
        refine sr_as ?_
        refine sr_nil ?_
        refine aw_kp [0, 1, 5, 6, 12, 13, 14, 15, 18, 19, 20, 21, 22, 23, 24, 25, 26, 27, 28, 29, 30, 31] ?_
        refine aw_seq ?_
        refine aw_seq_region ?_
        refine sr_as ?_
        refine sr_nil ?_
        refine aw_kp [0, 1, 5, 6, 7, 12, 13, 14, 15, 18, 19, 20, 21, 22, 23, 24, 25, 26, 27, 28, 29, 30, 31] ?_
        refine aw_block ?_
        refine aw_loop (ι := CpG PStep) (fun s => 1 ≤ s.m ∧ CmpI eqF W (k + s.m) s.k s.C) (fun s => [(0, .slice (some ⟨b, off, none⟩) n cap), (1, .func (.func 127) #[] #[]), (5, .int .i64 s.k), (6, .slice (some ⟨b, off + k * 2, none⟩) (n - k) (cap - k)), (7, .int .i64 s.m)]) (fun s => (b, .cells (pre ++ ((s.C).flatMap PStep.cells ++ post)).toArray 76 (0, 0)) :: G) (fun s => n - s.m) ⟨k, 1, W⟩ (⟨Nat.le_refl _, CmpI.start hne hk1 hx hy hd1⟩) KeepF.auto Sub.autoP ?_
        intro s hs9
        obtain ⟨k1, m, C⟩ := s
        dsimp only at hs9 ⊢
        obtain ⟨hm1, hC⟩ := hs9
        have hCl := hC.1
        have hC2 := hC.2.1
        have hC3 := hC.2.2.1
        refine aw_seq ?_
        refine aw_seq_region ?_
        refine sr_mv ?_
        refine sr_mv ?_
        refine sr_rd (x_lenSlice Try.underlying43 rfl) ?_
        refine sr_c (x_lt rfl rfl) (fun h3 => ?_) (fun h3 => ?_)
        · refine sr_nil ?_
          refine aw_kp [0, 1, 5, 6, 7, 32, 33, 34, 35] ?_
          refine aw_true rfl ?_
          refine aw_skip ?_
          show AW _ _ _ _ _ _ _
          refine aw_seq ?_
          refine aw_block ?_
          refine aw_seq_dr ⟨_, 12, 66, [[], [], [], [1, 2], [1, 2, 3], [], [], [6], [5, 6, 7], [5, 6, 7, 8], [0, 1, 2, 3, 4, 5, 6, 7, 8, 9], [0, 1, 2, 3, 4, 5, 6, 7, 8, 9, 10]], [.light, .light, .light, .light, .mem, .light, .light, .light, .light, .mem, .call, .light]⟩ (by kernel_rfl) rfl rfl mix ?_
          obtain ⟨x1, hx1⟩ := get_ex (show k + m < W.length by omega)
          obtain ⟨y1, hy1⟩ := get_ex (show k + m - 1 < W.length by omega)
          have hxC := (hC.2.2.2.2 (k + m) (by omega)).trans hx1
          have hyC : C[k + (m - 1)]? = some y1 := (hC.2.2.2.2 (k + (m - 1)) (by omega)).trans (by rw [show k + (m - 1) = k + m - 1 by omega]; exact hy1)
          refine dr_l (x_move rfl) ?_
          refine dr_l (x_move rfl) ?_
          refine dr_l (x_move rfl) ?_
          refine dr_l (x_indexAddrN (m) Try.underlying43 sz76 rfl rfl rfl (by omega) (by omega)) ?_
          refine dr_mem0 rfl rfl (wtd_none rfl) (x_loadN ag76 sz76 rfl (cells_flatO2 (n := 2) (enc := PStep.cells) (fun _ => rfl) hpre (xs := C) (post := post) (show (b, Obj.cells (pre ++ ((C).flatMap PStep.cells ++ post)).toArray 76 (0, 0)) ∈ _ from mauto) (k) (m) hxC) rfl) ?_
          refine dr_l (x_move rfl) ?_
          refine dr_l (x_move rfl) ?_
          refine dr_l (x_cast (u := .int .i64 ((m - 1 : Nat) : Int)) (x_sub' rfl rfl (i64w (by omega) (by omega))) (by congr 1; omega)) ?_
          refine dr_l (x_indexAddrN (m - 1) Try.underlying43 sz76 rfl rfl rfl (by omega) (by omega)) ?_
          refine dr_mem0 rfl rfl (wtd_none rfl) (x_loadN ag76 sz76 rfl (cells_flatO2 (n := 2) (enc := PStep.cells) (fun _ => rfl) hpre (xs := C) (post := post) (show (b, Obj.cells (pre ++ ((C).flatMap PStep.cells ++ post)).toArray 76 (0, 0)) ∈ _ from mauto) (k) (m - 1) hyC) rfl) ?_
          refine dr_callq0 rfl rfl (wtd_none rfl) (opS_F rfl rfl rfl rfl cl127 ((peq_s x1 y1 _))) (⟨_, rfl⟩) ?_
          rintro _ rfl
          generalize hd2 : eqF x1 y1 = d2
          cases d2
          · refine dr_l (x_not rfl) ?_
            refine dr_nil0 ?_
            refine aw_kp [0, 1, 5, 6, 7, 32, 33, 34, 35, 38, 39, 40, 41, 42, 43, 44, 45, 46, 47, 48, 49] ?_
            refine aw_true rfl ?_
            refine aw_seq_region ?_
            refine sr_mv ?_
            refine sr_mv ?_
            refine sr_mv ?_
            refine sr_mv ?_
            refine sr_rd (x_indexAddrN (m) Try.underlying43 sz76 rfl rfl rfl (by omega) (by omega)) ?_
            refine sr_rd (x_loadN ag76 sz76 rfl (cells_flatO2 (n := 2) (enc := PStep.cells) (fun _ => rfl) hpre (xs := C) (post := post) (show (b, Obj.cells (pre ++ ((C).flatMap PStep.cells ++ post)).toArray 76 (0, 0)) ∈ _ from mauto) (k) (m) hxC) rfl) ?_
            refine sr_rd (x_indexAddrN (k1) Try.underlying43 sz76 rfl rfl rfl (by omega) (by omega)) ?_
            refine sr_x0 rfl (wtd_none rfl) (x_store sz76 rfl rfl rfl rfl rfl Repl.auto (spl_flatO (n := 2) (enc := PStep.cells) (fun _ => rfl) hpre (x' := x1) (by omega))) ?_
            refine sr_nil ?_
            refine aw_kp [0, 1, 5, 6, 7, 32, 33, 34, 35, 38, 39, 40, 41, 42, 43, 44, 45, 46, 47, 48, 49, 50, 51, 52, 53, 54, 55, 56] ?_
            refine aw_region ?_
            refine sr_mv ?_
            refine sr_rd (x_add' rfl rfl (i64w (by omega) (by omega))) ?_
            refine sr_as ?_
            refine sr_nil ?_
            show AW _ _ _ _ _ _ _
            refine aw_region ?_
            refine sr_mv ?_
            refine sr_rd (x_add' rfl rfl (i64w (by omega) (by omega))) ?_
            refine sr_as ?_
            refine sr_nil ?_
            show ∃ s', _ ∧ _ ∧ _ ∧ _
            first | exact ⟨⟨k1 + 1, m + 1, C.set k1 x1⟩, ⟨by dsimp only; omega, by dsimp only; rw [← Nat.add_assoc]; exact hC.put hx1 hy1 hd2⟩, by dsimp only; omega, KeepF.auto, Sub.autoD⟩ | exact ⟨⟨k1, m + 1, C⟩, ⟨by dsimp only; omega, by dsimp only; rw [← Nat.add_assoc]; exact hC.skip hx1 hy1 hd2⟩, by dsimp only; omega, KeepF.auto, Sub.autoD⟩
          · refine dr_l (x_not rfl) ?_
            refine dr_nil0 ?_
            refine aw_kp [0, 1, 5, 6, 7, 32, 33, 34, 35, 38, 39, 40, 41, 42, 43, 44, 45, 46, 47, 48, 49] ?_
            refine aw_false rfl ?_
            refine aw_skip ?_
            show AW _ _ _ _ _ _ _
            refine aw_region ?_
            refine sr_mv ?_
            refine sr_rd (x_add' rfl rfl (i64w (by omega) (by omega))) ?_
            refine sr_as ?_
            refine sr_nil ?_
            show ∃ s', _ ∧ _ ∧ _ ∧ _
            first | exact ⟨⟨k1 + 1, m + 1, C.set k1 x1⟩, ⟨by dsimp only; omega, by dsimp only; rw [← Nat.add_assoc]; exact hC.put hx1 hy1 hd2⟩, by dsimp only; omega, KeepF.auto, Sub.autoD⟩ | exact ⟨⟨k1, m + 1, C⟩, ⟨by dsimp only; omega, by dsimp only; rw [← Nat.add_assoc]; exact hC.skip hx1 hy1 hd2⟩, by dsimp only; omega, KeepF.auto, Sub.autoD⟩
        · refine sr_nil ?_
          refine aw_kp [0, 1, 5, 6, 7, 32, 33, 34, 35] ?_
          refine aw_false rfl ?_
          refine aw_exit ?_
          show AW _ _ _ _ _ _ _
          refine aw_seq_region ?_
          refine sr_mv ?_
          refine sr_mv ?_
          refine sr_rd (x_sliceLoK (k1) Try.underlying43 sz76 rfl rfl rfl (by omega) (by omega) (by omega)) ?_
          refine sr_x0 rfl (wtd_none rfl) (x_clear Try.underlying43 zr76 rfl (by omega) rfl (zc_one (by decide) (by decide)) Repl.auto (spl_clrO (n := 2) (enc := PStep.cells) (fun _ => rfl) hpre (by omega) (by rw [zeroCells_len, hCl, hl]; rfl))) ?_
          refine sr_nil ?_
          refine aw_kp [0, 1, 5, 6, 7, 32, 33, 34, 35, 59, 60, 61] ?_
          refine aw_seq_region ?_
          refine sr_mv ?_
          refine sr_mv ?_
          refine sr_rd (x_sliceHi Try.underlying43 sz76 rfl rfl (by omega) (by omega)) ?_
          refine sr_as ?_
          refine sr_nil ?_
          refine aw_kp [0, 1, 4, 5, 6, 7, 32, 33, 34, 35, 59, 60, 61, 62, 63, 64] ?_
          refine aw_ret ?_
          show ∃ v H2, ResV _ _ _ _ _ _ v ∧ Sub H2 _ ∧ _
          first | (have e9 : cpt eqF W = W := NE.cpt_ (k := 1) NE.one (by omega); exact ⟨_, (b, .cells (pre ++ ((W).flatMap PStep.cells ++ post)).toArray 76 (0, 0)) :: G, resV rfl (.cons rfl .nil), Sub.autoD, n, [(b, .cells (pre ++ ((W).flatMap PStep.cells ++ post)).toArray 76 (0, 0))], rfl, (by rw [e9, hl]), (by rw [e9]; exact .mk hpre (by rw [flat_len (n := 2) (enc := PStep.cells) (fun _ => rfl), hl]) hp hcap hcb), rfl⟩) | (have e9 : cpt eqF W = W := NE.cpt_ (k := k) hne (by omega); exact ⟨_, (b, .cells (pre ++ ((W).flatMap PStep.cells ++ post)).toArray 76 (0, 0)) :: G, resV rfl (.cons rfl .nil), Sub.autoD, n, [(b, .cells (pre ++ ((W).flatMap PStep.cells ++ post)).toArray 76 (0, 0))], rfl, (by rw [e9, hl]), (by rw [e9]; exact .mk hpre (by rw [flat_len (n := 2) (enc := PStep.cells) (fun _ => rfl), hl]) hp hcap hcb), rfl⟩) | (obtain ⟨e8, e9⟩ := hC.done (by omega); exact ⟨_, (b, .cells (pre ++ ((C.take k1).flatMap PStep.cells ++ ((Builtin.zeroCells (.agg #[.int .i64 0, .int .i64 0] : Value).cells (n - k1)).toList ++ post))).toArray 76 (0, 0)) :: G, resV rfl (.cons rfl .nil), Sub.autoD, k1, [(b, .cells (pre ++ ((C.take k1).flatMap PStep.cells ++ ((Builtin.zeroCells (.agg #[.int .i64 0, .int .i64 0] : Value).cells (n - k1)).toList ++ post))).toArray 76 (0, 0))], rfl, e9.symm, (by rw [← e8]; exact .mk hpre (by rw [flat_len (n := 2) (enc := PStep.cells) (fun _ => rfl), List.length_take, Nat.min_eq_left (by omega)]) (clr_room (n := n) (by omega) hcap hp (by rw [zeroCells_len]; rfl)) (by omega) hcb), rfl⟩)
    · refine sr_nil ?_
      refine aw_kp [0, 1, 5, 12, 13, 14, 15] ?_
      refine aw_false rfl ?_
      refine aw_exit ?_
      show AW _ _ _ _ _ _ _
      refine aw_seq_region ?_
      refine sr_mv ?_
      refine sr_as ?_
      refine sr_nil ?_
      refine aw_kp [4] ?_
      refine aw_ret ?_
      show ∃ v H2, ResV _ _ _ _ _ _ v ∧ Sub H2 _ ∧ _
      first | (have e9 : cpt eqF W = W := NE.cpt_ (k := 1) NE.one (by omega); exact ⟨_, (b, .cells (pre ++ ((W).flatMap PStep.cells ++ post)).toArray 76 (0, 0)) :: G, resV rfl (.cons rfl .nil), Sub.autoD, n, [(b, .cells (pre ++ ((W).flatMap PStep.cells ++ post)).toArray 76 (0, 0))], rfl, (by rw [e9, hl]), (by rw [e9]; exact .mk hpre (by rw [flat_len (n := 2) (enc := PStep.cells) (fun _ => rfl), hl]) hp hcap hcb), rfl⟩) | (have e9 : cpt eqF W = W := NE.cpt_ (k := k) hne (by omega); exact ⟨_, (b, .cells (pre ++ ((W).flatMap PStep.cells ++ post)).toArray 76 (0, 0)) :: G, resV rfl (.cons rfl .nil), Sub.autoD, n, [(b, .cells (pre ++ ((W).flatMap PStep.cells ++ post)).toArray 76 (0, 0))], rfl, (by rw [e9, hl]), (by rw [e9]; exact .mk hpre (by rw [flat_len (n := 2) (enc := PStep.cells) (fun _ => rfl), hl]) hp hcap hcb), rfl⟩) | (obtain ⟨e8, e9⟩ := hC.done (by omega); exact ⟨_, (b, .cells (pre ++ ((C.take k1).flatMap PStep.cells ++ ((Builtin.zeroCells (.agg #[.int .i64 0, .int .i64 0] : Value).cells (n - k1)).toList ++ post))).toArray 76 (0, 0)) :: G, resV rfl (.cons rfl .nil), Sub.autoD, k1, [(b, .cells (pre ++ ((C.take k1).flatMap PStep.cells ++ ((Builtin.zeroCells (.agg #[.int .i64 0, .int .i64 0] : Value).cells (n - k1)).toList ++ post))).toArray 76 (0, 0))], rfl, e9.symm, (by rw [← e8]; exact .mk hpre (by rw [flat_len (n := 2) (enc := PStep.cells) (fun _ => rfl), List.length_take, Nat.min_eq_left (by omega)]) (clr_room (n := n) (by omega) hcap hp (by rw [zeroCells_len]; rfl)) (by omega) hcb), rfl⟩)
set_option maxRecDepth 100000 in
set_option maxHeartbeats 400000 in
theorem pcptN_s (G : SHeap) : AC Try.prog W0 126 [.slice none 0 0, .func (.func 127) #[] #[]] G (fun v H' => v = .slice none 0 0 ∧ H' = G) := by
  refine ac_of Try.func126 rfl rfl rfl ?_
  refine aw_seq_region ?_
  refine sr_as ?_
  refine sr_nil ?_
  refine aw_kp [0, 1, 4] ?_
  refine aw_seq ?_
  refine aw_seq_region ?_
  refine sr_mv ?_
  refine sr_rd (x_lenSlice Try.underlying43 rfl) ?_
  refine sr_c (x_lt rfl rfl) (fun h1 => ?_) (fun h1 => absurd (by first | omega | decide) h1)
  refine sr_nil ?_
  refine aw_kp [0, 1, 4, 10] ?_
  refine aw_true rfl ?_
  refine aw_seq_region ?_
  refine sr_mv ?_
  refine sr_as ?_
  refine sr_nil ?_
  refine aw_kp [0, 1, 4] ?_
  refine aw_ret ?_
  show ∃ v H2, ResV _ _ _ _ _ _ v ∧ Sub H2 _ ∧ _
  exact ⟨_, G, resV rfl (.cons rfl .nil), (by repeat (first | exact Sub.refl _ | apply Sub.drop)), ⟨rfl, rfl⟩⟩
theorem pcptV_s (a : Option Addr) (n cap : Nat) (W : List PStep) (E G : SHeap) (V : OffVec 2 76 (.slice a n cap) n (W.flatMap PStep.cells) E) (hl : W.length = n) (hn : n ≤ 1000000) :
    AC Try.prog W0 126 [.slice a n cap, .func (.func 127) #[] #[]] (E ++ G) (fun v H' => ∃ k E', v = .slice a k cap ∧ k = (cpt eqF W).length ∧ OffVec 2 76 (.slice a k cap) k ((cpt eqF W).flatMap PStep.cells) E' ∧ H' = E' ++ G) := by
  generalize hL : W.flatMap PStep.cells = L at V
  cases V with
  | nil =>
    obtain rfl : W = [] := List.length_eq_zero_iff.1 hl
    exact (pcptN_s G).mono fun v H' ⟨h1, h2⟩ => ⟨0, [], h1, rfl, .nil, h2⟩
  | mk hpre h1 h2 h3 h4 =>
    subst hL
    exact pcptM_s _ _ n cap W _ _ G hpre hl h2 h3 h4 hn
set_option maxRecDepth 100000 in
set_option maxHeartbeats 2000000 in
theorem pins_sM (r n cap i : Nat) (b off : Nat) (pre L N post : List Value) (G : SHeap) (hpre : pre.length = off) (hL : L.length = n * 2) (hp : (cap - n) * 2 ≤ post.length) (hnc : n ≤ cap) (hcap : cap ≤ 9223372036854775807) (hN : N.length = 2) (hN1 : N.all oneCell = true) (hL1 : L.all oneCell = true) (hi : i ≤ n) (hn : n ≤ 1000000) : AC Try.prog W0 125 [.slice (some ⟨b, off, none⟩) n cap, .int .i64 i, .slice (some ⟨r, 0, none⟩) 1 1] ((b, .cells (pre ++ (L ++ post)).toArray 76 (0, 0)) :: (r, .cells N.toArray 76 (0, 0)) :: G) (fun v H' => ∃ a' cap' E', v = .slice a' (n + 1) cap' ∧ OffVec 2 76 (.slice a' (n + 1) cap') (n + 1) (L.take (i * 2) ++ N ++ L.drop (i * 2)) E' ∧ H' = E' ++ G) := by
  refine ac_of Try.func125 rfl rfl rfl ?_
  refine aw_seq_region ?_
  refine sr_as ?_
  refine sr_nil ?_
  refine aw_kp [0, 1, 2, 6] ?_
  refine aw_seq_region ?_
  refine sr_mv ?_
  refine sr_mv ?_
  refine sr_rd (x_sliceLo Try.underlying43 sz76 rfl rfl (by omega) (by omega) (by omega)) ?_
  refine sr_nil ?_
  refine aw_kp [0, 1, 2, 6] ?_
  refine aw_seq_region ?_
  refine sr_mv ?_
  refine sr_rd (x_lenSlice Try.underlying43 rfl) ?_
  refine sr_as ?_
  refine sr_nil ?_
  refine aw_kp [0, 1, 2, 6, 7] ?_
  refine aw_seq ?_
  refine aw_seq_region ?_
  refine sr_mv ?_
  refine sr_c (x_eq rfl rfl) (fun h1 => absurd h1 (by first | omega | decide)) (fun h1 => ?_)
  refine sr_nil ?_
  refine aw_kp [0, 1, 2, 6, 7, 16] ?_
  refine aw_false rfl ?_
  refine aw_skip ?_
  show AW _ _ _ _ _ _ _
  refine aw_seq_region ?_
  refine sr_mv ?_
  refine sr_rd (x_lenSlice Try.underlying43 rfl) ?_
  refine sr_as ?_
  refine sr_nil ?_
  refine aw_kp [0, 1, 2, 6, 7, 8] ?_
  refine aw_seq ?_
  refine aw_seq_region ?_
  refine sr_mv ?_
  refine sr_mv ?_
  refine sr_c (x_eq rfl rfl) (fun h2 => ?_) (fun h2 => ?_)
  · refine sr_nil ?_
    refine aw_kp [0, 1, 2, 6, 7, 8, 22] ?_
    refine aw_true rfl ?_
    refine aw_seq_region ?_
    refine sr_mv ?_
    refine sr_mv ?_
    refine sr_d rfl (wtd_none rfl) rfl (opS_appendO (G := G) (N := N) (m := 1) Try.underlying43 sz76 zr76 rfl by76 rfl rfl (OffVec.mk hpre hL hp hnc hcap) Sub.autoP (by omega) ⟨_, _, rfl, (cells_ext mauto Ext.auto)⟩ (by rw [hN, Nat.one_mul]) hN1 (by omega) (by omega)) ?_
    rintro v25 _ ⟨E25, hV25, rfl⟩
    obtain ⟨a25, cap25, rfl⟩ := hV25.isSl
    refine sr_as ?_
    refine sr_nil ?_
    refine aw_kp [0, 1, 2, 6, 7, 8] ?_
    refine aw_ret ?_
    show ∃ v H2, ResV _ _ _ _ _ _ v ∧ Sub H2 _ ∧ _
    first | (rw [← ins_end (i := i) hL (by omega)] at hV25; exact ⟨_, E25 ++ G, resV rfl (.cons rfl .nil), Sub.autoD, a25, cap25, E25, rfl, hV25, rfl⟩) | exact ⟨_, (b2, .cells ((L.take (i * 2) ++ N ++ L.drop (i * 2)) ++ post2).toArray 76 (0, 0)) :: G, resV rfl (.cons rfl .nil), Sub.autoD, some ⟨b2, 0, none⟩, cap40, [(b2, .cells ((L.take (i * 2) ++ N ++ L.drop (i * 2)) ++ post2).toArray 76 (0, 0))], rfl, OwnVec.off (.mk (ins_len hL hN hi) hp2 hn2 hc2), rfl⟩ | exact ⟨_, (b, .cells (pre ++ ((L.take (i * 2) ++ N ++ L.drop (i * 2)) ++ post.drop 2)).toArray 76 (0, 0)) :: G, resV rfl (.cons rfl .nil), Sub.autoD, some ⟨b, off, none⟩, cap, [(b, .cells (pre ++ ((L.take (i * 2) ++ N ++ L.drop (i * 2)) ++ post.drop 2)).toArray 76 (0, 0))], rfl, .mk hpre (ins_len hL hN hi) (by have : (cap - (n + 1)) * 2 + 1 * 2 ≤ (cap - n) * 2 := (by rw [← Nat.add_mul]; exact Nat.mul_le_mul_right _ (by omega)); rw [List.length_drop]; omega) (by omega) hcap, rfl⟩
  · refine sr_nil ?_
    refine aw_kp [0, 1, 2, 6, 7, 8, 22] ?_
    refine aw_false rfl ?_
    refine aw_skip ?_
    show AW _ _ _ _ _ _ _
    refine aw_seq ?_
    refine aw_seq_region ?_
    refine sr_mv ?_
    refine sr_mv ?_
    refine sr_rd (x_add' rfl rfl (i64w (by omega) (by omega))) ?_
    refine sr_mv ?_
    refine sr_rd (x_capSlice Try.underlying43 rfl) ?_
    refine sr_c (x_gt rfl rfl) (fun h3 => ?_) (fun h3 => ?_)
    · refine sr_nil ?_
      refine aw_kp [0, 1, 2, 6, 7, 8, 31] ?_
      refine aw_true rfl ?_
      refine aw_seq_region ?_
      refine sr_mv ?_
      refine sr_mv ?_
      refine sr_rd (x_sliceHiK i Try.underlying43 sz76 rfl rfl rfl (by omega)) ?_
      refine sr_mv ?_
      refine sr_mv ?_
      refine sr_rd (x_add' rfl rfl (i64w (by omega) (by omega))) ?_
      refine sr_mv ?_
      refine sr_rd (x_sub' rfl rfl (i64w (by omega) (by omega))) ?_
      refine sr_d rfl (wtd_none rfl) rfl (opS_appendMake (m := n + 1 - i) (L := L.take (i * 2)) Try.underlying43 Try.underlying3 sz76 zr76 rfl by76 rfl rfl (by omega) (cells_ltO hpre mauto _) (by rw [List.length_take, hL]; exact Nat.min_eq_left (Nat.mul_le_mul_right _ hi)) (by omega) (by omega) (by omega) (by omega)) ?_
      rintro v40 _ ⟨E40, hV40, rfl⟩
      obtain ⟨a40, cap40, rfl⟩ := hV40.isSl
      rw [show i + (n + 1 - i) = n + 1 from by omega] at hV40 ⊢
      obtain ⟨b2, rfl, _⟩ := hV40.pos (by omega)
      obtain ⟨_, _, post2, rfl, hL2, hp2, hn2, hc2⟩ := hV40.blk
      rw [List.singleton_append]
      obtain ⟨cs1, hs1, hs2⟩ := ins_grow (post := post2) hL hN hi (Z := (Builtin.zeroCells (.agg #[.int .i64 0, .int .i64 0] : Value).cells (n + 1 - i)).toList) (by rw [zeroCells_len]; rfl)
      refine sr_as ?_
      refine sr_nil ?_
      refine aw_kp [0, 1, 2, 6, 7, 8, 9] ?_
      refine aw_seq_region ?_
      refine sr_mv ?_
      refine sr_mv ?_
      refine sr_rd (x_sliceLoK (i) Try.underlying43 sz76 rfl rfl (by omega) (by omega) (by omega) (by omega)) ?_
      refine sr_mv ?_
      refine sr_d rfl (wtd_none rfl) rfl ((x_copy (m := 1) (N := N) (cs' := cs1) Try.underlying43 sz76 rfl rfl (by show min _ _ = _; omega) (cells_ext mauto Ext.auto) (by rw [hN, Nat.one_mul]) (hN1) Repl.auto (by rw [Nat.zero_add]; exact hs1)).opS) ?_
      rintro _ _ ⟨rfl, rfl⟩
      refine sr_nil ?_
      refine aw_kp [0, 1, 2, 6, 7, 8, 9] ?_
      refine aw_seq_dr ⟨_, 9, 95, [[], [], [], [1, 2], [0, 1, 2, 3], [], [], [5, 6], [0, 1, 2, 3, 4, 5, 6, 7]], [.light, .light, .light, .light, .light, .light, .light, .light, .eff]⟩ (by kernel_rfl) rfl rfl mix ?_
      refine dr_l (x_move rfl) ?_
      refine dr_l (x_move rfl) ?_
      refine dr_l (x_move rfl) ?_
      refine dr_l (x_add' rfl rfl (i64w (by omega) (by omega))) ?_
      refine dr_l (x_sliceLoK (i + 1) Try.underlying43 sz76 rfl rfl (by omega) (by omega) (by omega) (by omega)) ?_
      refine dr_l (x_move rfl) ?_
      refine dr_l (x_move rfl) ?_
      refine dr_l (x_sliceLoK (i) Try.underlying43 sz76 rfl rfl (by omega) (by omega) (by omega) (by omega)) ?_
      refine dr_effE rfl rfl (wtd_none rfl) ((x_copy (m := n - i) (N := L.drop (i * 2)) (cs' := (L.take (i * 2) ++ N ++ L.drop (i * 2)) ++ post2) Try.underlying43 sz76 rfl rfl (by show min _ _ = _; omega) (cells_ldO hpre mauto _) (by rw [List.length_drop, hL, ← Nat.sub_mul]) (all_drop hL1) Repl.auto (by rw [Nat.zero_add]; exact hs2)).opSF) (by exact fun hw L => ⟨_, _, ⟨rfl, rfl⟩, hw.1, fun b hb => .inl hb⟩) ?_
      rintro _ _ ⟨rfl, rfl⟩
      refine dr_nil0 ?_
      refine aw_kp [0, 1, 2, 6, 7, 8, 9] ?_
      refine aw_seq_region ?_
      refine sr_mv ?_
      refine sr_as ?_
      refine sr_nil ?_
      refine aw_kp [0, 1, 2, 6, 7, 8] ?_
      refine aw_ret ?_
      show ∃ v H2, ResV _ _ _ _ _ _ v ∧ Sub H2 _ ∧ _
      first | (rw [← ins_end (i := i) hL (by omega)] at hV25; exact ⟨_, E25 ++ G, resV rfl (.cons rfl .nil), Sub.autoD, a25, cap25, E25, rfl, hV25, rfl⟩) | exact ⟨_, (b2, .cells ((L.take (i * 2) ++ N ++ L.drop (i * 2)) ++ post2).toArray 76 (0, 0)) :: G, resV rfl (.cons rfl .nil), Sub.autoD, some ⟨b2, 0, none⟩, cap40, [(b2, .cells ((L.take (i * 2) ++ N ++ L.drop (i * 2)) ++ post2).toArray 76 (0, 0))], rfl, OwnVec.off (.mk (ins_len hL hN hi) hp2 hn2 hc2), rfl⟩ | exact ⟨_, (b, .cells (pre ++ ((L.take (i * 2) ++ N ++ L.drop (i * 2)) ++ post.drop 2)).toArray 76 (0, 0)) :: G, resV rfl (.cons rfl .nil), Sub.autoD, some ⟨b, off, none⟩, cap, [(b, .cells (pre ++ ((L.take (i * 2) ++ N ++ L.drop (i * 2)) ++ post.drop 2)).toArray 76 (0, 0))], rfl, .mk hpre (ins_len hL hN hi) (by have : (cap - (n + 1)) * 2 + 1 * 2 ≤ (cap - n) * 2 := (by rw [← Nat.add_mul]; exact Nat.mul_le_mul_right _ (by omega)); rw [List.length_drop]; omega) (by omega) hcap, rfl⟩
    · refine sr_nil ?_
      refine aw_kp [0, 1, 2, 6, 7, 8, 31] ?_
      refine aw_false rfl ?_
      refine aw_skip ?_
      show AW _ _ _ _ _ _ _
      refine aw_seq_region ?_
      refine sr_mv ?_
      refine sr_mv ?_
      refine sr_mv ?_
      refine sr_rd (x_add' rfl rfl (i64w (by omega) (by omega))) ?_
      refine sr_rd (x_sliceHiK (n + 1) Try.underlying43 sz76 rfl rfl (by omega) (by omega)) ?_
      refine sr_as ?_
      refine sr_nil ?_
      refine aw_kp [0, 1, 2, 6, 7, 8] ?_
      refine aw_seq ?_
      refine aw_seq_region ?_
      refine sr_mv ?_
      refine sr_mv ?_
      refine sr_mv ?_
      refine sr_mv ?_
      refine sr_rd (x_add' rfl rfl (i64w (by omega) (by omega))) ?_
      refine sr_rd (x_sliceLoK (i + 1) Try.underlying43 sz76 rfl rfl (by omega) (by omega) (by omega) (by omega)) ?_
      refine sr_rd (x_extern (fn := Try.f143) (v := .bool false) rfl rfl rfl Try.func143 (by kernel_rfl) (by kernel_rfl) exn143 exf143 (fun hw => rd_overlaps (t := 43) rfl Try.underlying43 sz76 (wf_ne hw).symm (hw.obj mauto) (hw.obj mauto))) ?_
      refine sr_rd (x_not rfl) ?_
      refine sr_nil ?_
      refine aw_kp [0, 1, 2, 6, 7, 8, 68] ?_
      refine aw_true rfl ?_
      refine aw_seq_dr ⟨_, 9, 95, [[], [], [], [1, 2], [0, 1, 2, 3], [], [], [5, 6], [0, 1, 2, 3, 4, 5, 6, 7]], [.light, .light, .light, .light, .light, .light, .light, .light, .eff]⟩ (by kernel_rfl) rfl rfl mix ?_
      obtain ⟨cs1, hs1, hs2⟩ := ins_roomO (post := post) hpre hL hN hi (by have : 1 * 2 ≤ (cap - n) * 2 := Nat.mul_le_mul_right _ (by omega); omega)
      refine dr_l (x_move rfl) ?_
      refine dr_l (x_move rfl) ?_
      refine dr_l (x_move rfl) ?_
      refine dr_l (x_add' rfl rfl (i64w (by omega) (by omega))) ?_
      refine dr_l (x_sliceLoK (i + 1) Try.underlying43 sz76 rfl rfl (by omega) (by omega) (by omega) (by omega)) ?_
      refine dr_l (x_move rfl) ?_
      refine dr_l (x_move rfl) ?_
      refine dr_l (x_sliceLoK (i) Try.underlying43 sz76 rfl rfl (by omega) (by omega) (by omega) (by omega)) ?_
      refine dr_effE rfl rfl (wtd_none rfl) ((x_copy (m := n - i) (N := L.drop (i * 2)) (cs' := cs1) Try.underlying43 sz76 rfl rfl (by show min _ _ = _; omega) (cells_ldO hpre mauto _) (by rw [List.length_drop, hL, ← Nat.sub_mul]) (all_drop hL1) Repl.auto (by exact hs1)).opSF) (by exact fun hw L => ⟨_, _, ⟨rfl, rfl⟩, hw.1, fun b hb => .inl hb⟩) ?_
      rintro _ _ ⟨rfl, rfl⟩
      refine dr_nil0 ?_
      refine aw_kp [0, 1, 2, 6, 7, 8] ?_
      refine aw_seq_region ?_
      refine sr_mv ?_
      refine sr_mv ?_
      refine sr_rd (x_sliceLoK (i) Try.underlying43 sz76 rfl rfl (by omega) (by omega) (by omega) (by omega)) ?_
      refine sr_mv ?_
      refine sr_d rfl (wtd_none rfl) rfl ((x_copy (m := 1) (N := N) (cs' := pre ++ ((L.take (i * 2) ++ N ++ L.drop (i * 2)) ++ post.drop 2)) Try.underlying43 sz76 rfl rfl (by show min _ _ = _; omega) (cells_ext mauto Ext.auto) (by rw [hN, Nat.one_mul]) (hN1) Repl.auto (by exact hs2)).opS) ?_
      rintro _ _ ⟨rfl, rfl⟩
      refine sr_nil ?_
      refine aw_kp [0, 1, 2, 6, 7, 8] ?_
      refine aw_seq_region ?_
      refine sr_mv ?_
      refine sr_as ?_
      refine sr_nil ?_
      refine aw_kp [0, 1, 2, 6, 7, 8] ?_
      refine aw_ret ?_
      show ∃ v H2, ResV _ _ _ _ _ _ v ∧ Sub H2 _ ∧ _
      first | (rw [← ins_end (i := i) hL (by omega)] at hV25; exact ⟨_, E25 ++ G, resV rfl (.cons rfl .nil), Sub.autoD, a25, cap25, E25, rfl, hV25, rfl⟩) | exact ⟨_, (b2, .cells ((L.take (i * 2) ++ N ++ L.drop (i * 2)) ++ post2).toArray 76 (0, 0)) :: G, resV rfl (.cons rfl .nil), Sub.autoD, some ⟨b2, 0, none⟩, cap40, [(b2, .cells ((L.take (i * 2) ++ N ++ L.drop (i * 2)) ++ post2).toArray 76 (0, 0))], rfl, OwnVec.off (.mk (ins_len hL hN hi) hp2 hn2 hc2), rfl⟩ | exact ⟨_, (b, .cells (pre ++ ((L.take (i * 2) ++ N ++ L.drop (i * 2)) ++ post.drop 2)).toArray 76 (0, 0)) :: G, resV rfl (.cons rfl .nil), Sub.autoD, some ⟨b, off, none⟩, cap, [(b, .cells (pre ++ ((L.take (i * 2) ++ N ++ L.drop (i * 2)) ++ post.drop 2)).toArray 76 (0, 0))], rfl, .mk hpre (ins_len hL hN hi) (by have : (cap - (n + 1)) * 2 + 1 * 2 ≤ (cap - n) * 2 := (by rw [← Nat.add_mul]; exact Nat.mul_le_mul_right _ (by omega)); rw [List.length_drop]; omega) (by omega) hcap, rfl⟩
set_option maxRecDepth 100000 in
set_option maxHeartbeats 400000 in
theorem pins_sN (r : Nat) (N : List Value) (G : SHeap) (hN : N.length = 2) (hN1 : N.all oneCell = true) : AC Try.prog W0 125 [.slice none 0 0, .int .i64 ((0 : Nat) : Int), .slice (some ⟨r, 0, none⟩) 1 1] ((r, .cells N.toArray 76 (0, 0)) :: G) (fun v H' => ∃ a' cap' E', v = .slice a' 1 cap' ∧ OwnVec 2 76 (.slice a' 1 cap') 1 N E' ∧ H' = E' ++ G) := by
  refine ac_of Try.func125 rfl rfl rfl ?_
  refine aw_seq_region ?_
  refine sr_as ?_
  refine sr_nil ?_
  refine aw_kp [0, 1, 2, 6] ?_
  refine aw_seq_region ?_
  refine sr_mv ?_
  refine sr_mv ?_
  refine sr_rd (x_sliceLo0 Try.underlying43 sz76 rfl rfl rfl) ?_
  refine sr_nil ?_
  refine aw_kp [0, 1, 2, 6] ?_
  refine aw_seq_region ?_
  refine sr_mv ?_
  refine sr_rd (x_lenSlice Try.underlying43 rfl) ?_
  refine sr_as ?_
  refine sr_nil ?_
  refine aw_kp [0, 1, 2, 6, 7] ?_
  refine aw_seq ?_
  refine aw_seq_region ?_
  refine sr_mv ?_
  refine sr_c (x_eq rfl rfl) (fun h1 => absurd h1 (by first | omega | decide)) (fun h1 => ?_)
  refine sr_nil ?_
  refine aw_kp [0, 1, 2, 6, 7, 16] ?_
  refine aw_false rfl ?_
  refine aw_skip ?_
  show AW _ _ _ _ _ _ _
  refine aw_seq_region ?_
  refine sr_mv ?_
  refine sr_rd (x_lenSlice Try.underlying43 rfl) ?_
  refine sr_as ?_
  refine sr_nil ?_
  refine aw_kp [0, 1, 2, 6, 7, 8] ?_
  refine aw_seq ?_
  refine aw_seq_region ?_
  refine sr_mv ?_
  refine sr_mv ?_
  refine sr_c (x_eq rfl rfl) (fun h2 => ?_) (fun h2 => absurd (by first | omega | decide) h2)
  refine sr_nil ?_
  refine aw_kp [0, 1, 2, 6, 7, 8, 22] ?_
  refine aw_true rfl ?_
  refine aw_seq_region ?_
  refine sr_mv ?_
  refine sr_mv ?_
  refine sr_d rfl (wtd_none rfl) rfl (opS_append (G := G) (N := N) (m := 1) Try.underlying43 sz76 zr76 rfl by76 rfl rfl OwnVec.nil Sub.autoP (.inr ⟨_, _, rfl, (cells_ext mauto Ext.auto)⟩) (by rw [hN, Nat.one_mul]) hN1 (by omega) (by omega)) ?_
  rintro v25 _ ⟨E25, hV25, rfl⟩
  obtain ⟨a25, cap25, rfl⟩ := hV25.isSl
  refine sr_as ?_
  refine sr_nil ?_
  refine aw_kp [0, 1, 2, 6, 7, 8] ?_
  refine aw_ret ?_
  show ∃ v H2, ResV _ _ _ _ _ _ v ∧ Sub H2 _ ∧ _
  exact ⟨_, E25 ++ G, resV rfl (.cons rfl .nil), Sub.autoD, a25, cap25, E25, rfl, by simpa using hV25, rfl⟩
theorem pins_s (v : Value) (n i r : Nat) (L N : List Value) (Ev G : SHeap) (V : OffVec 2 76 v n L Ev) (hN : N.length = 2) (hN1 : N.all oneCell = true) (hL1 : L.all oneCell = true) (hi : i ≤ n) (hn : n ≤ 1000000) : AC Try.prog W0 125 [v, .int .i64 i, .slice (some ⟨r, 0, none⟩) 1 1] (Ev ++ ((r, .cells N.toArray 76 (0, 0)) :: G)) (fun v H' => ∃ a' cap' E', v = .slice a' (n + 1) cap' ∧ OffVec 2 76 (.slice a' (n + 1) cap') (n + 1) (L.take (i * 2) ++ N ++ L.drop (i * 2)) E' ∧ H' = E' ++ G) := by
  cases V with
  | nil =>
    have : i = 0 := by omega
    subst this
    refine (pins_sN (W0 := W0) r N G hN hN1).mono fun v H' h => ?_
    obtain ⟨a', cap', E', h1, h2, h3⟩ := h
    exact ⟨a', cap', E', h1, by simpa using h2.off, h3⟩
  | mk hpre hL hp hnc hcap => exact pins_sM r n _ i _ _ _ L N _ G hpre hL hp hnc hcap hN hN1 hL1 hi hn
set_option maxRecDepth 100000 in
set_option maxHeartbeats 1000000 in
theorem psplit_s (p : Nat) (a : Option Addr) (cap n : Nat) (S : List PStep) (ver : Int) (E G : SHeap) (V : OffVec 2 76 (.slice a n cap) n (S.flatMap PStep.cells) E) (hln : S.length = n) (hl : n ≤ 100000) (hr : Ris S) (s0 : PStep) (hs0 : S[0]? = some s0) (t : Int) (ht : s0.at_ ≤ t) : AC Try.prog W0 96 [.pointer (some ⟨p, 0, none⟩), .int .i64 t] (prB p (.slice a n cap) ver :: (E ++ G)) (fun v H' => ∃ (i : Nat) (S' : List PStep) (a' : Option Addr) (cap' : Nat) (E' : SHeap), v = .int .i64 i ∧ SplR S S' t i ∧ OffVec 2 76 (.slice a' S'.length cap') S'.length (S'.flatMap PStep.cells) E' ∧ H' = prB p (.slice a' S'.length cap') ver :: (E' ++ G)) := by
  subst hln
  have hs : SlV W0 E 2 PStep.cells a cap S := V.slv' (fun _ => rfl) rfl (Sub.refl _)
  have hle := hs.le
  have hcb := hs.capb
  have h0 := get_lt hs0
  refine ac_of Try.func96 rfl rfl rfl ?_
  refine aw_seq_region ?_
  refine sr_as ?_
  refine sr_nil ?_
  refine aw_kp [0, 1, 4] ?_
  refine aw_seq_region ?_
  refine sr_mv ?_
  refine sr_mv ?_
  refine sr_d rfl (wtd_none rfl) rfl (opS_call rfl rfl rfl rfl cl91 (pidx_s p a cap S ver _ (cells_ext mauto Ext.auto) (hs.mono Sub.autoE) t hr h0 (by omega))) ?_
  rintro _ H9 ⟨⟨i, rfl, hi⟩, rfl⟩
  have hiX := hi
  obtain ⟨⟨s, hs1, hs2⟩, hs3⟩ := hi
  have hil := get_lt hs1
  have hst := idx_le hs0 hs1 hs2 ht
  obtain ⟨bx, ox, hax, hcx⟩ := hs.at_ _ _ hs1
  refine sr_as ?_
  refine sr_nil ?_
  refine aw_kp [0, 1, 4, 5] ?_
  refine aw_seq ?_
  refine aw_seq_region ?_
  refine sr_mv ?_
  refine sr_rd (x_nilCheck rfl) ?_
  refine sr_rd (x_fieldAddr fd83_0 rfl) ?_
  refine sr_rd (x_load ag43 rfl (cells_ext mauto Ext.auto)) ?_
  refine sr_mv ?_
  refine sr_rd (x_indexAddrN (i) Try.underlying43 sz76 rfl hax rfl (by omega) (by omega)) ?_
  refine sr_rd (x_fieldAddr fd76_0 rfl) ?_
  refine sr_rd (x_load ag2 rfl (cells_get (Cells.mono hcx Sub.autoE) 0 rfl)) ?_
  refine sr_mv ?_
  refine sr_c (x_eq rfl rfl) (fun h1 => ?_) (fun h1 => ?_)
  · refine sr_nil ?_
    refine aw_kp [0, 1, 4, 5, 18] ?_
    refine aw_true rfl ?_
    refine aw_seq_region ?_
    refine sr_mv ?_
    refine sr_as ?_
    refine sr_nil ?_
    refine aw_kp [0, 1, 4, 5] ?_
    refine aw_ret ?_
    show ∃ v H2, ResV _ _ _ _ _ _ v ∧ Sub H2 _ ∧ _
    first | exact ⟨_, prB p (.slice a S.length cap) ver :: (E ++ G), resV rfl (.cons rfl .nil), Sub.autoD, i, S, a, cap, E, rfl, splR_same hr hs1 (by assumption), V, rfl⟩ | exact ⟨_, prB p (.slice a1 (S.length + 1) c1) ver :: (E1 ++ G), resV rfl (.cons rfl .nil), Sub.autoD, i + 1, spl S i t s.free, a1, c1, E1, rfl, splR_new hr hiX hs1 (by omega), (by rw [spl_len hil]; exact V1), (by rw [spl_len hil])⟩
  · refine sr_nil ?_
    refine aw_kp [0, 1, 4, 5, 18] ?_
    refine aw_false rfl ?_
    refine aw_skip ?_
    show AW _ _ _ _ _ _ _
    refine aw_seq_dr ⟨_, 22, 43, [[], [], [1], [1, 2], [1, 2, 3], [], [5], [], [], [8], [8, 9], [8, 9, 10], [], [8, 9, 10, 11, 12], [8, 9, 10, 11, 12, 13], [8, 9, 10, 11, 12, 13, 14], [7, 8, 9, 10, 11, 12, 13, 14, 15], [7, 8, 9, 10, 11, 12, 13, 14, 15, 16], [1, 2, 3, 4, 5, 6, 7, 8, 9, 10, 11, 12, 13, 14, 15, 16, 17], [0, 1, 2, 3, 4, 5, 6, 7, 8, 9, 10, 11, 12, 13, 14, 15, 16, 17, 18], [0, 1, 2, 3, 4, 5, 6, 7, 8, 9, 10, 11, 12, 13, 14, 15, 16, 17, 18, 19], [0, 1, 2, 3, 4, 5, 6, 7, 8, 9, 10, 11, 12, 13, 14, 15, 16, 17, 18, 19, 20]], [.light, .light, .light, .light, .mem, .light, .light, .light, .light, .light, .light, .mem, .light, .light, .light, .mem, .light, .alloc, .eff, .light, .light, .eff]⟩ (by kernel_rfl) rfl rfl mix ?_
    refine dr_l (x_move rfl) ?_
    refine dr_l (x_move rfl) ?_
    refine dr_l (x_nilCheck rfl) ?_
    refine dr_l (x_fieldAddr fd83_0 rfl) ?_
    refine dr_mem0 rfl rfl (wtd_none rfl) (x_load ag43 rfl (cells_ext mauto Ext.auto)) ?_
    refine dr_l (x_move rfl) ?_
    refine dr_l (x_cast (u := .int .i64 ((i + 1 : Nat) : Int)) (x_add' rfl rfl (i64w (by omega) (by omega))) (by congr 1)) ?_
    refine dr_l (x_move rfl) ?_
    refine dr_l (x_move rfl) ?_
    refine dr_l (x_nilCheck rfl) ?_
    refine dr_l (x_fieldAddr fd83_0 rfl) ?_
    refine dr_mem0 rfl rfl (wtd_none rfl) (x_load ag43 rfl (cells_ext mauto Ext.auto)) ?_
    refine dr_l (x_move rfl) ?_
    refine dr_l (x_indexAddrN (i) Try.underlying43 sz76 rfl hax rfl (by omega) (by omega)) ?_
    refine dr_l (x_fieldAddr fd76_1 rfl) ?_
    refine dr_mem0 rfl rfl (wtd_none rfl) (x_load ag3 rfl (cells_get (Cells.mono hcx Sub.autoE) 1 rfl)) ?_
    refine dr_l (x_build zr76 rfl fl76 Parts.auto Fill.auto) ?_
    refine dr_alloc rfl rfl (wtd_none rfl) (x_buildSlice Try.underlying43 sz76 zr76 rfl rfl rfl rfl Parts.auto Fill.auto) ?_
    intro r4_17 hr4_17 gr4_17
    refine dr_effC rfl (V := [(r4_17, _)]) rfl (L' := []) (clear_all rfl) rfl (wtd_none rfl) rfl rfl rfl rfl cl125 (AC.sub Sub.autoP (pins_s (.slice a S.length cap) S.length (i + 1) r4_17 (S.flatMap PStep.cells) (PStep.cells ⟨t, s.free⟩) E (prB p (.slice a S.length cap) ver :: G) V rfl rfl (all_oneS S) (by omega) (by omega))) ?_
    rintro _ _ ⟨a1, c1, E1, rfl, V1, rfl⟩
    rw [spl_cells] at V1
    refine dr_l (x_nilCheck rfl) ?_
    refine dr_l (x_fieldAddr fd83_0 rfl) ?_
    refine dr_store0 rfl rfl (wtd_none rfl) (x_store sz43 rfl rfl rfl rfl rfl Repl.auto Spl.auto) (by first | rfl | simp [keys_append, keys_cons]) ?_
    refine dr_nil0 ?_
    refine aw_kp [4, 5] ?_
    refine aw_seq_region ?_
    refine sr_mv ?_
    refine sr_rd (x_add' rfl rfl (i64w (by omega) (by omega))) ?_
    refine sr_as ?_
    refine sr_nil ?_
    refine aw_kp [4] ?_
    refine aw_ret ?_
    show ∃ v H2, ResV _ _ _ _ _ _ v ∧ Sub H2 _ ∧ _
    first | exact ⟨_, prB p (.slice a S.length cap) ver :: (E ++ G), resV rfl (.cons rfl .nil), Sub.autoD, i, S, a, cap, E, rfl, splR_same hr hs1 (by assumption), V, rfl⟩ | exact ⟨_, prB p (.slice a1 (S.length + 1) c1) ver :: (E1 ++ G), resV rfl (.cons rfl .nil), Sub.autoD, i + 1, spl S i t s.free, a1, c1, E1, rfl, splR_new hr hiX hs1 (by omega), (by rw [spl_len hil]; exact V1), (by rw [spl_len hil])⟩
set_option maxRecDepth 100000 in
set_option maxHeartbeats 400000 in
theorem pjoin_s (p : Nat) (a : Option Addr) (cap n : Nat) (S : List PStep) (ver : Int) (E G : SHeap) (V : OffVec 2 76 (.slice a n cap) n (S.flatMap PStep.cells) E) (hln : S.length = n) (hl : n ≤ 100000) : AC Try.prog W0 97 [.pointer (some ⟨p, 0, none⟩)] (prB p (.slice a n cap) ver :: (E ++ G)) (fun v H' => ∃ (a' : Option Addr) (cap' : Nat) (E' : SHeap), v = .tuple #[] ∧ OffVec 2 76 (.slice a' (cpt eqF S).length cap') (cpt eqF S).length ((cpt eqF S).flatMap PStep.cells) E' ∧ H' = prB p (.slice a' (cpt eqF S).length cap') ver :: (E' ++ G)) := by
  subst hln
  have hs : SlV W0 E 2 PStep.cells a cap S := V.slv' (fun _ => rfl) rfl (Sub.refl _)
  have hle := hs.le
  have hcb := hs.capb
  refine ac_of Try.func97 rfl rfl rfl ?_
  refine aw_region ?_
  refine sr_mv ?_
  refine sr_mv ?_
  refine sr_rd (x_nilCheck rfl) ?_
  refine sr_rd (x_fieldAddr fd83_0 rfl) ?_
  refine sr_rd (x_load ag43 rfl (cells_ext mauto Ext.auto)) ?_
  refine sr_d rfl (wtd_none rfl) rfl (opS_call rfl rfl rfl rfl cl126 (AC.sub Sub.autoP (pcptV_s a S.length cap S E (prB p (.slice a S.length cap) ver :: G) V rfl (by omega)))) ?_
  rintro _ _ ⟨k, E1, rfl, hk, V1, rfl⟩
  subst hk
  refine sr_rd (x_nilCheck rfl) ?_
  refine sr_rd (x_fieldAddr fd83_0 rfl) ?_
  refine sr_x0 rfl (wtd_none rfl) (x_store sz43 rfl rfl rfl rfl rfl Repl.auto Spl.auto) ?_
  refine sr_nil ?_
  show ∃ v H2, ResV _ _ _ _ _ _ v ∧ Sub H2 _ ∧ _
  exact ⟨_, (prB p (.slice a (cpt eqF S).length cap) ver :: (E1 ++ G)), resV rfl .nil, Sub.autoP, ⟨a, cap, E1, rfl, V1, rfl⟩⟩
set_option maxRecDepth 100000 in
set_option maxHeartbeats 4000000 in
theorem padd_s (p : Nat) (a : Option Addr) (cap n : Nat) (S : List PStep) (ver : Int) (E G : SHeap) (V : OffVec 2 76 (.slice a n cap) n (S.flatMap PStep.cells) E) (hln : S.length = n) (hl : n ≤ 100000) (now : Int) (f : Int → Int) (hrep : Rep S now f) (hrng : ∀ t, now ≤ t → 0 ≤ f t ∧ f t ≤ 64) (hv : 0 ≤ ver ∧ ver ≤ 1000000) (hl5 : n ≤ 50000) (from_ to_ d : Int) : AC Try.prog W0 38 [.pointer (some ⟨p, 0, none⟩), .int .i64 from_, .int .i64 to_, .int .i64 d] (prB p (.slice a n cap) ver :: (E ++ G)) (fun v H' => ∃ (e : Int) (ch : Bool) (S' : List PStep) (a' : Option Addr) (cap' : Nat) (E' : SHeap), v = .int .i64 e ∧ AddC f now from_ to_ d e ch ∧ Rep S' now (if ch = true then addF f now from_ to_ d else f) ∧ S'.length ≤ S.length + 2 ∧ OffVec 2 76 (.slice a' S'.length cap') S'.length (S'.flatMap PStep.cells) E' ∧ H' = prB p (.slice a' S'.length cap') (if ch = true then ver + 1 else ver) :: (E' ++ G)) := by
  subst hln
  have hs : SlV W0 E 2 PStep.cells a cap S := V.slv' (fun _ => rfl) rfl (Sub.refl _)
  have hle := hs.le
  have hcb := hs.capb
  obtain ⟨s0, hs0, hn0⟩ := hrep.head
  have h0 := get_lt hs0
  have hr := hrep.ris
  refine ac_of Try.func38 rfl rfl rfl ?_
  refine aw_seq_region ?_
  refine sr_as ?_
  refine sr_nil ?_
  refine aw_kp [0, 1, 2, 3, 8] ?_
  refine aw_seq ?_
  refine aw_block ?_
  refine aw_seq_region ?_
  refine sr_mv ?_
  refine sr_d rfl (wtd_none rfl) rfl (opS_call rfl rfl rfl rfl cl90 (pnone_s p a cap S ver _ (cells_ext mauto Ext.auto) (hs.mono Sub.autoE) h0)) ?_
  rintro _ H9 ⟨rfl, rfl⟩
  refine sr_as ?_
  refine sr_nil ?_
  refine aw_kp [0, 1, 2, 3, 8, 11] ?_
  refine aw_false rfl ?_
  refine aw_seq_region ?_
  refine sr_mv ?_
  refine sr_mv ?_
  refine sr_c (x_ge rfl rfl) (fun h1 => ?_) (fun h1 => ?_)
  · refine sr_mv ?_
    refine sr_sk ?_
    refine sr_sk ?_
    refine sr_rd (x_pick_t rfl rfl rfl) ?_
    refine sr_mv ?_
    refine sr_sk ?_
    refine sr_sk ?_
    refine sr_rd (x_pick_t rfl rfl rfl) ?_
    refine sr_mv ?_
    refine sr_sk ?_
    refine sr_sk ?_
    refine sr_rd (x_pick_t rfl rfl rfl) ?_
    refine sr_as ?_
    refine sr_nil ?_
    refine aw_kp [0, 1, 2, 3, 8, 14] ?_
    refine aw_true rfl ?_
    refine aw_seq_region ?_
    refine sr_as ?_
    refine sr_nil ?_
    refine aw_kp [0, 1, 2, 3, 8] ?_
    refine aw_ret ?_
    show ∃ v H2, ResV _ _ _ _ _ _ v ∧ Sub H2 _ ∧ _
    first | exact ⟨_, prB p (.slice a S.length cap) ver :: (E ++ G), resV rfl (.cons rfl .nil), Sub.autoD, 1, false, S, a, cap, E, rfl, .arg (by omega), hrep, by omega, V, rfl⟩ | exact ⟨_, prB p (.slice a S.length cap) ver :: (E ++ G), resV rfl (.cons rfl .nil), Sub.autoD, 0, false, S, a, cap, E, rfl, .zero (by omega) (by omega), hrep, by omega, V, rfl⟩ | exact ⟨_, prB p (.slice a S.length cap) ver :: (E ++ G), resV rfl (.cons rfl .nil), Sub.autoD, 5, false, S, a, cap, E, rfl, .range (by omega) (by omega) (rngMin hm1 (by assumption) (by omega)), hrep, by omega, V, rfl⟩ | exact ⟨_, prB p (.slice a S.length cap) ver :: (E ++ G), resV rfl (.cons rfl .nil), Sub.autoD, 5, false, S, a, cap, E, rfl, .range (by omega) (by omega) (rngMax hM1 (by assumption) (by omega)), hrep, by omega, V, rfl⟩ | (obtain rfl : j = k := (by omega); exact ⟨_, prB p (.slice a4 (cpt eqF (addR S2 i j d)).length c4) (ver + 1) :: (E4 ++ G), resV rfl (.cons rfl .nil), Sub.autoD, 0, true, cpt eqF (addR S2 i j d), a4, c4, E4, rfl, .ok (by omega) (by omega) hok, hRep, (by have h9 := (cpt_sub eqF (addR S2 i j d)).length_le; rw [addR_len] at h9; omega), V4, rfl⟩)
  · refine sr_mv ?_
    refine sr_ry (x_move rfl) ?_
    refine sr_cy (x_gt rfl rfl) (fun h2 => ?_) (fun h2 => ?_)
    · refine sr_rd (x_pick_f rfl rfl rfl) ?_
      refine sr_mv ?_
      refine sr_sk ?_
      refine sr_sk ?_
      refine sr_rd (x_pick_t rfl rfl rfl) ?_
      refine sr_mv ?_
      refine sr_sk ?_
      refine sr_sk ?_
      refine sr_rd (x_pick_t rfl rfl rfl) ?_
      refine sr_as ?_
      refine sr_nil ?_
      refine aw_kp [0, 1, 2, 3, 8, 14] ?_
      refine aw_true rfl ?_
      refine aw_seq_region ?_
      refine sr_as ?_
      refine sr_nil ?_
      refine aw_kp [0, 1, 2, 3, 8] ?_
      refine aw_ret ?_
      show ∃ v H2, ResV _ _ _ _ _ _ v ∧ Sub H2 _ ∧ _
      first | exact ⟨_, prB p (.slice a S.length cap) ver :: (E ++ G), resV rfl (.cons rfl .nil), Sub.autoD, 1, false, S, a, cap, E, rfl, .arg (by omega), hrep, by omega, V, rfl⟩ | exact ⟨_, prB p (.slice a S.length cap) ver :: (E ++ G), resV rfl (.cons rfl .nil), Sub.autoD, 0, false, S, a, cap, E, rfl, .zero (by omega) (by omega), hrep, by omega, V, rfl⟩ | exact ⟨_, prB p (.slice a S.length cap) ver :: (E ++ G), resV rfl (.cons rfl .nil), Sub.autoD, 5, false, S, a, cap, E, rfl, .range (by omega) (by omega) (rngMin hm1 (by assumption) (by omega)), hrep, by omega, V, rfl⟩ | exact ⟨_, prB p (.slice a S.length cap) ver :: (E ++ G), resV rfl (.cons rfl .nil), Sub.autoD, 5, false, S, a, cap, E, rfl, .range (by omega) (by omega) (rngMax hM1 (by assumption) (by omega)), hrep, by omega, V, rfl⟩ | (obtain rfl : j = k := (by omega); exact ⟨_, prB p (.slice a4 (cpt eqF (addR S2 i j d)).length c4) (ver + 1) :: (E4 ++ G), resV rfl (.cons rfl .nil), Sub.autoD, 0, true, cpt eqF (addR S2 i j d), a4, c4, E4, rfl, .ok (by omega) (by omega) hok, hRep, (by have h9 := (cpt_sub eqF (addR S2 i j d)).length_le; rw [addR_len] at h9; omega), V4, rfl⟩)
    · refine sr_rd (x_pick_f rfl rfl rfl) ?_
      refine sr_mv ?_
      refine sr_ry (x_move rfl) ?_
      refine sr_cy (x_lt rfl rfl) (fun h3 => ?_) (fun h3 => ?_)
      · refine sr_rd (x_pick_f rfl rfl rfl) ?_
        refine sr_mv ?_
        refine sr_sk ?_
        refine sr_sk ?_
        refine sr_rd (x_pick_t rfl rfl rfl) ?_
        refine sr_as ?_
        refine sr_nil ?_
        refine aw_kp [0, 1, 2, 3, 8, 14] ?_
        refine aw_true rfl ?_
        refine aw_seq_region ?_
        refine sr_as ?_
        refine sr_nil ?_
        refine aw_kp [0, 1, 2, 3, 8] ?_
        refine aw_ret ?_
        show ∃ v H2, ResV _ _ _ _ _ _ v ∧ Sub H2 _ ∧ _
        first | exact ⟨_, prB p (.slice a S.length cap) ver :: (E ++ G), resV rfl (.cons rfl .nil), Sub.autoD, 1, false, S, a, cap, E, rfl, .arg (by omega), hrep, by omega, V, rfl⟩ | exact ⟨_, prB p (.slice a S.length cap) ver :: (E ++ G), resV rfl (.cons rfl .nil), Sub.autoD, 0, false, S, a, cap, E, rfl, .zero (by omega) (by omega), hrep, by omega, V, rfl⟩ | exact ⟨_, prB p (.slice a S.length cap) ver :: (E ++ G), resV rfl (.cons rfl .nil), Sub.autoD, 5, false, S, a, cap, E, rfl, .range (by omega) (by omega) (rngMin hm1 (by assumption) (by omega)), hrep, by omega, V, rfl⟩ | exact ⟨_, prB p (.slice a S.length cap) ver :: (E ++ G), resV rfl (.cons rfl .nil), Sub.autoD, 5, false, S, a, cap, E, rfl, .range (by omega) (by omega) (rngMax hM1 (by assumption) (by omega)), hrep, by omega, V, rfl⟩ | (obtain rfl : j = k := (by omega); exact ⟨_, prB p (.slice a4 (cpt eqF (addR S2 i j d)).length c4) (ver + 1) :: (E4 ++ G), resV rfl (.cons rfl .nil), Sub.autoD, 0, true, cpt eqF (addR S2 i j d), a4, c4, E4, rfl, .ok (by omega) (by omega) hok, hRep, (by have h9 := (cpt_sub eqF (addR S2 i j d)).length_le; rw [addR_len] at h9; omega), V4, rfl⟩)
      · refine sr_rd (x_pick_f rfl rfl rfl) ?_
        refine sr_mv ?_
        refine sr_ry (x_move rfl) ?_
        refine sr_cy (x_gt rfl rfl) (fun h4 => ?_) (fun h4 => ?_)
        · refine sr_rd (x_pick_f rfl rfl rfl) ?_
          refine sr_as ?_
          refine sr_nil ?_
          refine aw_kp [0, 1, 2, 3, 8, 14] ?_
          refine aw_true rfl ?_
          refine aw_seq_region ?_
          refine sr_as ?_
          refine sr_nil ?_
          refine aw_kp [0, 1, 2, 3, 8] ?_
          refine aw_ret ?_
          show ∃ v H2, ResV _ _ _ _ _ _ v ∧ Sub H2 _ ∧ _
          first | exact ⟨_, prB p (.slice a S.length cap) ver :: (E ++ G), resV rfl (.cons rfl .nil), Sub.autoD, 1, false, S, a, cap, E, rfl, .arg (by omega), hrep, by omega, V, rfl⟩ | exact ⟨_, prB p (.slice a S.length cap) ver :: (E ++ G), resV rfl (.cons rfl .nil), Sub.autoD, 0, false, S, a, cap, E, rfl, .zero (by omega) (by omega), hrep, by omega, V, rfl⟩ | exact ⟨_, prB p (.slice a S.length cap) ver :: (E ++ G), resV rfl (.cons rfl .nil), Sub.autoD, 5, false, S, a, cap, E, rfl, .range (by omega) (by omega) (rngMin hm1 (by assumption) (by omega)), hrep, by omega, V, rfl⟩ | exact ⟨_, prB p (.slice a S.length cap) ver :: (E ++ G), resV rfl (.cons rfl .nil), Sub.autoD, 5, false, S, a, cap, E, rfl, .range (by omega) (by omega) (rngMax hM1 (by assumption) (by omega)), hrep, by omega, V, rfl⟩ | (obtain rfl : j = k := (by omega); exact ⟨_, prB p (.slice a4 (cpt eqF (addR S2 i j d)).length c4) (ver + 1) :: (E4 ++ G), resV rfl (.cons rfl .nil), Sub.autoD, 0, true, cpt eqF (addR S2 i j d), a4, c4, E4, rfl, .ok (by omega) (by omega) hok, hRep, (by have h9 := (cpt_sub eqF (addR S2 i j d)).length_le; rw [addR_len] at h9; omega), V4, rfl⟩)
        · refine sr_rd (x_pick_f rfl rfl rfl) ?_
          refine sr_as ?_
          refine sr_nil ?_
          refine aw_kp [0, 1, 2, 3, 8, 14] ?_
          refine aw_false rfl ?_
          refine aw_skip ?_
          show AW _ _ _ _ _ _ _
          refine aw_seq_region ?_
          refine sr_mv ?_
          refine sr_mv ?_
          refine sr_d rfl (wtd_none rfl) rfl (opS_call rfl rfl rfl rfl cl28 (pnow_s p a cap S ver _ (cells_ext mauto Ext.auto) (hs.mono Sub.autoE) s0 hs0)) ?_
          rintro _ H9 ⟨rfl, rfl⟩
          rw [hn0]
          refine sr_rd (x_max rfl rfl) ?_
          refine sr_as ?_
          refine sr_nil ?_
          refine aw_kp [0, 1, 2, 3, 8] ?_
          refine aw_seq ?_
          refine aw_seq_region ?_
          refine sr_mv ?_
          refine sr_mv ?_
          refine sr_c (x_ge rfl rfl) (fun h5 => ?_) (fun h5 => ?_)
          · refine sr_mv ?_
            refine sr_sk ?_
            refine sr_sk ?_
            refine sr_rd (x_pick_t rfl rfl rfl) ?_
            refine sr_nil ?_
            refine aw_kp [0, 1, 2, 3, 8, 40] ?_
            refine aw_true rfl ?_
            refine aw_seq_region ?_
            refine sr_as ?_
            refine sr_nil ?_
            refine aw_kp [0, 1, 2, 3, 8] ?_
            refine aw_ret ?_
            show ∃ v H2, ResV _ _ _ _ _ _ v ∧ Sub H2 _ ∧ _
            first | exact ⟨_, prB p (.slice a S.length cap) ver :: (E ++ G), resV rfl (.cons rfl .nil), Sub.autoD, 1, false, S, a, cap, E, rfl, .arg (by omega), hrep, by omega, V, rfl⟩ | exact ⟨_, prB p (.slice a S.length cap) ver :: (E ++ G), resV rfl (.cons rfl .nil), Sub.autoD, 0, false, S, a, cap, E, rfl, .zero (by omega) (by omega), hrep, by omega, V, rfl⟩ | exact ⟨_, prB p (.slice a S.length cap) ver :: (E ++ G), resV rfl (.cons rfl .nil), Sub.autoD, 5, false, S, a, cap, E, rfl, .range (by omega) (by omega) (rngMin hm1 (by assumption) (by omega)), hrep, by omega, V, rfl⟩ | exact ⟨_, prB p (.slice a S.length cap) ver :: (E ++ G), resV rfl (.cons rfl .nil), Sub.autoD, 5, false, S, a, cap, E, rfl, .range (by omega) (by omega) (rngMax hM1 (by assumption) (by omega)), hrep, by omega, V, rfl⟩ | (obtain rfl : j = k := (by omega); exact ⟨_, prB p (.slice a4 (cpt eqF (addR S2 i j d)).length c4) (ver + 1) :: (E4 ++ G), resV rfl (.cons rfl .nil), Sub.autoD, 0, true, cpt eqF (addR S2 i j d), a4, c4, E4, rfl, .ok (by omega) (by omega) hok, hRep, (by have h9 := (cpt_sub eqF (addR S2 i j d)).length_le; rw [addR_len] at h9; omega), V4, rfl⟩)
          · refine sr_mv ?_
            refine sr_ry (x_move rfl) ?_
            refine sr_cy (x_eq rfl rfl) (fun h6 => ?_) (fun h6 => ?_)
            · refine sr_rd (x_pick_f rfl rfl rfl) ?_
              refine sr_nil ?_
              refine aw_kp [0, 1, 2, 3, 8, 40] ?_
              refine aw_true rfl ?_
              refine aw_seq_region ?_
              refine sr_as ?_
              refine sr_nil ?_
              refine aw_kp [0, 1, 2, 3, 8] ?_
              refine aw_ret ?_
              show ∃ v H2, ResV _ _ _ _ _ _ v ∧ Sub H2 _ ∧ _
              first | exact ⟨_, prB p (.slice a S.length cap) ver :: (E ++ G), resV rfl (.cons rfl .nil), Sub.autoD, 1, false, S, a, cap, E, rfl, .arg (by omega), hrep, by omega, V, rfl⟩ | exact ⟨_, prB p (.slice a S.length cap) ver :: (E ++ G), resV rfl (.cons rfl .nil), Sub.autoD, 0, false, S, a, cap, E, rfl, .zero (by omega) (by omega), hrep, by omega, V, rfl⟩ | exact ⟨_, prB p (.slice a S.length cap) ver :: (E ++ G), resV rfl (.cons rfl .nil), Sub.autoD, 5, false, S, a, cap, E, rfl, .range (by omega) (by omega) (rngMin hm1 (by assumption) (by omega)), hrep, by omega, V, rfl⟩ | exact ⟨_, prB p (.slice a S.length cap) ver :: (E ++ G), resV rfl (.cons rfl .nil), Sub.autoD, 5, false, S, a, cap, E, rfl, .range (by omega) (by omega) (rngMax hM1 (by assumption) (by omega)), hrep, by omega, V, rfl⟩ | (obtain rfl : j = k := (by omega); exact ⟨_, prB p (.slice a4 (cpt eqF (addR S2 i j d)).length c4) (ver + 1) :: (E4 ++ G), resV rfl (.cons rfl .nil), Sub.autoD, 0, true, cpt eqF (addR S2 i j d), a4, c4, E4, rfl, .ok (by omega) (by omega) hok, hRep, (by have h9 := (cpt_sub eqF (addR S2 i j d)).length_le; rw [addR_len] at h9; omega), V4, rfl⟩)
            · refine sr_rd (x_pick_f rfl rfl rfl) ?_
              refine sr_nil ?_
              refine aw_kp [0, 1, 2, 3, 8, 40] ?_
              refine aw_false rfl ?_
              refine aw_skip ?_
              show AW _ _ _ _ _ _ _
              refine aw_seq ?_
              refine aw_seq_region ?_
              refine sr_mv ?_
              refine sr_c (x_lt rfl rfl) (fun h7 => ?_) (fun h7 => ?_)
              · refine sr_mv ?_
                refine sr_ry (x_move rfl) ?_
                refine sr_ry (x_move rfl) ?_
                refine sr_ry (x_move rfl) ?_
                refine sr_d rfl (wtd_yes rfl rfl rfl) rfl (opS_call rfl rfl rfl rfl cl36 (pleast_s p a cap S ver _ (cells_ext mauto Ext.auto) (hs.mono Sub.autoE) now f hrep (by omega) (max from_ now) to_)) ?_
                rintro _ H9 ⟨⟨m, rfl, hm1, -⟩, rfl⟩
                rw [show max (max from_ now) now = max from_ now by omega] at hm1
                have hm1 := hm1 (by omega)
                refine sr_ry (x_move rfl) ?_
                refine sr_ry (x_neg' rfl (i64w (by omega) (by omega))) ?_
                refine sr_cy (x_lt rfl rfl) (fun h8 => ?_) (fun h8 => ?_)
                · refine sr_rd (x_pick_t rfl rfl rfl) ?_
                  refine sr_mv ?_
                  refine sr_sk ?_
                  refine sr_sk ?_
                  refine sr_sk ?_
                  refine sr_skip rfl (wtd_un rfl rfl rfl) rfl ?_
                  refine sr_skip rfl (wtd_un rfl rfl rfl) rfl ?_
                  refine sr_skip rfl (wtd_un rfl rfl rfl) rfl ?_
                  refine sr_skip rfl (wtd_un rfl rfl rfl) rfl ?_
                  refine sr_skip rfl (wtd_un rfl rfl rfl) rfl ?_
                  refine sr_skip rfl (wtd_un rfl rfl rfl) rfl ?_
                  refine sr_skip rfl (wtd_un rfl rfl rfl) rfl ?_
                  refine sr_sk ?_
                  refine sr_rd (x_pick_t rfl rfl rfl) ?_
                  refine sr_nil ?_
                  refine aw_kp [0, 1, 2, 3, 8, 64] ?_
                  refine aw_true rfl ?_
                  refine aw_seq_region ?_
                  refine sr_as ?_
                  refine sr_nil ?_
                  refine aw_kp [0, 1, 2, 3, 8] ?_
                  refine aw_ret ?_
                  show ∃ v H2, ResV _ _ _ _ _ _ v ∧ Sub H2 _ ∧ _
                  first | exact ⟨_, prB p (.slice a S.length cap) ver :: (E ++ G), resV rfl (.cons rfl .nil), Sub.autoD, 1, false, S, a, cap, E, rfl, .arg (by omega), hrep, by omega, V, rfl⟩ | exact ⟨_, prB p (.slice a S.length cap) ver :: (E ++ G), resV rfl (.cons rfl .nil), Sub.autoD, 0, false, S, a, cap, E, rfl, .zero (by omega) (by omega), hrep, by omega, V, rfl⟩ | exact ⟨_, prB p (.slice a S.length cap) ver :: (E ++ G), resV rfl (.cons rfl .nil), Sub.autoD, 5, false, S, a, cap, E, rfl, .range (by omega) (by omega) (rngMin hm1 (by assumption) (by omega)), hrep, by omega, V, rfl⟩ | exact ⟨_, prB p (.slice a S.length cap) ver :: (E ++ G), resV rfl (.cons rfl .nil), Sub.autoD, 5, false, S, a, cap, E, rfl, .range (by omega) (by omega) (rngMax hM1 (by assumption) (by omega)), hrep, by omega, V, rfl⟩ | (obtain rfl : j = k := (by omega); exact ⟨_, prB p (.slice a4 (cpt eqF (addR S2 i j d)).length c4) (ver + 1) :: (E4 ++ G), resV rfl (.cons rfl .nil), Sub.autoD, 0, true, cpt eqF (addR S2 i j d), a4, c4, E4, rfl, .ok (by omega) (by omega) hok, hRep, (by have h9 := (cpt_sub eqF (addR S2 i j d)).length_le; rw [addR_len] at h9; omega), V4, rfl⟩)
                · refine sr_rd (x_pick_t rfl rfl rfl) ?_
                  refine sr_mv ?_
                  refine sr_ry (x_move rfl) ?_
                  refine sr_cy (x_gt rfl rfl) (fun h9 => absurd h9 (by first | omega | decide)) (fun h9 => ?_)
                  refine sr_ry (x_move rfl) ?_
                  refine sr_sk ?_
                  refine sr_sk ?_
                  refine sr_sk ?_
                  refine sr_sk ?_
                  refine sr_sk ?_
                  refine sr_sk ?_
                  refine sr_sk ?_
                  refine sr_ry (x_pick_f rfl rfl rfl) ?_
                  refine sr_rd (x_pick_f rfl rfl rfl) ?_
                  refine sr_nil ?_
                  refine aw_kp [0, 1, 2, 3, 8, 64] ?_
                  refine aw_false rfl ?_
                  refine aw_skip ?_
                  show AW _ _ _ _ _ _ _
                  refine aw_seq_region ?_
                  have hok : ∀ t, max from_ now ≤ t → t < to_ → 0 ≤ f t + d ∧ f t + d ≤ 64 := by first | exact okMin hm1 (by assumption) (by omega) (fun t q => hrng t (by omega)) | exact okMax hM1 (by assumption) (by omega) (fun t q => hrng t (by omega))
                  refine sr_mv ?_
                  refine sr_mv ?_
                  refine sr_d rfl (wtd_none rfl) rfl (opS_call rfl rfl rfl rfl cl96 (AC.sub Sub.autoP (psplit_s p a cap S.length S ver E G V rfl (by omega) hr s0 hs0 (max from_ now) (by omega)))) ?_
                  rintro _ _ ⟨i, S1, a1, c1, E1, rfl, hS1, V1, rfl⟩
                  have hl1 := hS1.len
                  refine sr_as ?_
                  refine sr_nil ?_
                  refine aw_kp [0, 2, 3, 8, 9] ?_
                  refine aw_seq_region ?_
                  refine sr_mv ?_
                  refine sr_rd (x_nilCheck rfl) ?_
                  refine sr_rd (x_fieldAddr fd83_0 rfl) ?_
                  refine sr_rd (x_load ag43 rfl (cells_ext mauto Ext.auto)) ?_
                  refine sr_rd (x_lenSlice Try.underlying43 rfl) ?_
                  refine sr_as ?_
                  refine sr_nil ?_
                  refine aw_kp [0, 2, 3, 8, 9, 10] ?_
                  refine aw_join (ι := SpG) (fun s => ((to_ < 1152921504606846976 ∧ SplR S1 s.S to_ s.k) ∨ (to_ = 1152921504606846976 ∧ s.S = S1 ∧ s.k = S1.length)) ∧ OffVec 2 76 (.slice s.a s.S.length s.c) s.S.length (s.S.flatMap PStep.cells) s.E ∧ s.S.length ≤ S1.length + 1) (fun s => [(0, .pointer (some ⟨p, 0, none⟩)), (3, .int .i64 d), (8, .int .i64 0), (9, .int .i64 i), (10, .int .i64 s.k)]) (fun s => prB p (.slice s.a s.S.length s.c) ver :: (s.E ++ G)) ?_ ?_
                  · refine aw_seq_region ?_
                    refine sr_mv ?_
                    refine sr_c (x_lt rfl rfl) (fun h10 => ?_) (fun h10 => ?_)
                    · refine sr_nil ?_
                      refine aw_kp [0, 2, 3, 8, 9, 10, 74] ?_
                      refine aw_true rfl ?_
                      refine aw_region ?_
                      refine sr_mv ?_
                      refine sr_mv ?_
                      refine sr_d rfl (wtd_none rfl) rfl (opS_call rfl rfl rfl rfl cl96 (AC.sub Sub.autoP (psplit_s p a1 c1 S1.length S1 ver E1 G V1 rfl (by omega) hS1.ris s0 (hS1.head.trans hs0) to_ (by omega)))) ?_
                      rintro _ _ ⟨k2, S3, a3, c3, E3, rfl, hS3, V3, rfl⟩
                      have hl3 := hS3.len
                      refine sr_as ?_
                      refine sr_nil ?_
                      show ∃ s', _ ∧ _ ∧ _
                      first | exact ⟨⟨k2, S3, a3, c3, E3⟩, ⟨.inl ⟨by omega, hS3⟩, V3, hl3⟩, KeepF.auto, Sub.autoD⟩ | exact ⟨⟨S1.length, S1, a1, c1, E1⟩, ⟨.inr ⟨by omega, rfl, rfl⟩, V1, by dsimp only; omega⟩, KeepF.auto, Sub.autoD⟩
                    · refine sr_nil ?_
                      refine aw_kp [0, 2, 3, 8, 9, 10, 74] ?_
                      refine aw_false rfl ?_
                      refine aw_skip ?_
                      show ∃ s', _ ∧ _ ∧ _
                      first | exact ⟨⟨k2, S3, a3, c3, E3⟩, ⟨.inl ⟨by omega, hS3⟩, V3, hl3⟩, KeepF.auto, Sub.autoD⟩ | exact ⟨⟨S1.length, S1, a1, c1, E1⟩, ⟨.inr ⟨by omega, rfl, rfl⟩, V1, by dsimp only; omega⟩, KeepF.auto, Sub.autoD⟩
                  · intro s9 hs9
                    obtain ⟨k, S2, a2, c2, E2⟩ := s9
                    dsimp only at hs9 ⊢
                    obtain ⟨hsp, V2, hl2⟩ := hs9
                    have hRep := add_rep (n := d) hrep (show now ≤ max from_ now by omega) (by omega) (by omega) hS1 hsp
                    obtain ⟨hik, hkl, hfr⟩ := spl_facts hrep hrng (show now ≤ max from_ now by omega) (by omega) (by omega) hS1 hsp
                    obtain ⟨b, o, rfl⟩ := V2.pos (by omega)
                    obtain ⟨pre, post, rfl, hpre, hL2, hp2, hn2, hc2⟩ := offBlk V2
                    refine aw_seq ?_
                    refine aw_block ?_
                    refine aw_loop (ι := Nat) (fun j => i ≤ j ∧ j ≤ k) (fun j => [(0, .pointer (some ⟨p, 0, none⟩)), (3, .int .i64 d), (8, .int .i64 0), (9, .int .i64 j), (10, .int .i64 k)]) (fun j => (b, .cells (pre ++ ((addR S2 i j d).flatMap PStep.cells ++ post)).toArray 76 (0, 0)) :: prB p (.slice (some ⟨b, o, none⟩) S2.length c2) ver :: G) (fun j => k - j) i (⟨Nat.le_refl _, by omega⟩) KeepF.auto (by (try dsimp only); rw [addR_self]; exact Sub.autoP) ?_
                    intro j hj9
                    obtain ⟨hj1, hj2⟩ := hj9
                    refine aw_seq ?_
                    refine aw_seq_region ?_
                    refine sr_mv ?_
                    refine sr_mv ?_
                    refine sr_c (x_lt rfl rfl) (fun h11 => ?_) (fun h11 => ?_)
                    · refine sr_nil ?_
                      refine aw_kp [0, 3, 8, 9, 10, 78, 79, 80] ?_
                      refine aw_true rfl ?_
                      refine aw_skip ?_
                      show AW _ _ _ _ _ _ _
                      refine aw_seq ?_
                      refine aw_block ?_
                      refine aw_region ?_
                      obtain ⟨x, hx⟩ := get_ex (show j < S2.length by omega)
                      have hy := addR_cur (a := i) (n := d) hx
                      have hxb := hfr _ _ hx
                      have hcx := cells_flatO (W0 := W0) (n := 2) (enc := PStep.cells) (fun _ => rfl) hpre (xs := addR S2 i j d) (post := post) (show (b, .cells (pre ++ ((addR S2 i j d).flatMap PStep.cells ++ post)).toArray 76 (0, 0)) ∈ ((b, .cells (pre ++ ((addR S2 i j d).flatMap PStep.cells ++ post)).toArray 76 (0, 0)) :: prB p (.slice (some ⟨b, o, none⟩) S2.length c2) ver :: G) from List.mem_cons_self) hy
                      refine sr_mv ?_
                      refine sr_rd (x_nilCheck rfl) ?_
                      refine sr_rd (x_fieldAddr fd83_0 rfl) ?_
                      refine sr_rd (x_load ag43 rfl (cells_ext mauto Ext.auto)) ?_
                      refine sr_mv ?_
                      refine sr_rd (x_indexAddrN (j) Try.underlying43 sz76 rfl rfl rfl (by omega) (by omega)) ?_
                      refine sr_rd (x_fieldAddr fd76_1 rfl) ?_
                      refine sr_rd (x_load ag3 rfl (cells_get (Cells.mono hcx (Sub.refl _)) 1 rfl)) ?_
                      refine sr_mv ?_
                      refine sr_rd (x_add' rfl rfl (i64w (by omega) (by omega))) ?_
                      refine sr_rd (x_indexAddrN (j) Try.underlying43 sz76 rfl rfl rfl (by omega) (by omega)) ?_
                      refine sr_rd (x_fieldAddr fd76_1 rfl) ?_
                      refine sr_x0 rfl (wtd_none rfl) (x_store sz3 rfl rfl rfl rfl rfl Repl.auto (spl_addR hpre hx hj1)) ?_
                      refine sr_nil ?_
                      show AW _ _ _ _ _ _ _
                      refine aw_region ?_
                      refine sr_mv ?_
                      refine sr_rd (x_add' rfl rfl (i64w (by omega) (by omega))) ?_
                      refine sr_as ?_
                      refine sr_nil ?_
                      show ∃ s', _ ∧ _ ∧ _ ∧ _
                      exact ⟨j + 1, ⟨by omega, by omega⟩, by omega, KeepF.auto, Sub.autoP⟩
                    · refine sr_nil ?_
                      refine aw_kp [0, 3, 8, 9, 10, 78, 79, 80] ?_
                      refine aw_false rfl ?_
                      refine aw_exit ?_
                      show AW _ _ _ _ _ _ _
                      refine aw_seq_region ?_
                      refine sr_mv ?_
                      refine sr_d rfl (wtd_none rfl) rfl (opS_call rfl rfl rfl rfl cl97 (AC.sub Sub.autoP (pjoin_s p (some ⟨b, o, none⟩) c2 S2.length (addR S2 i j d) ver [(b, .cells (pre ++ ((addR S2 i j d).flatMap PStep.cells ++ post)).toArray 76 (0, 0))] G (.mk hpre (by rw [flat_len (n := 2) (enc := PStep.cells) (fun _ => rfl), addR_len]) hp2 hn2 hc2) addR_len (by omega)))) ?_
                      rintro _ _ ⟨a4, c4, E4, rfl, V4, rfl⟩
                      refine sr_nil ?_
                      refine aw_kp [0, 8] ?_
                      refine aw_seq_region ?_
                      refine sr_mv ?_
                      refine sr_rd (x_nilCheck rfl) ?_
                      refine sr_rd (x_fieldAddr fd83_1 rfl) ?_
                      refine sr_rd (x_load ag3 rfl (cells_ext mauto Ext.auto)) ?_
                      refine sr_rd (x_add' rfl rfl (i64w (by omega) (by omega))) ?_
                      refine sr_rd (x_nilCheck rfl) ?_
                      refine sr_rd (x_fieldAddr fd83_1 rfl) ?_
                      refine sr_x0 rfl (wtd_none rfl) (x_store sz3 rfl rfl rfl rfl rfl Repl.auto Spl.auto) ?_
                      refine sr_nil ?_
                      refine aw_kp [8] ?_
                      refine aw_seq_region ?_
                      refine sr_as ?_
                      refine sr_nil ?_
                      refine aw_kp [8] ?_
                      refine aw_ret ?_
                      show ∃ v H2, ResV _ _ _ _ _ _ v ∧ Sub H2 _ ∧ _
                      first | exact ⟨_, prB p (.slice a S.length cap) ver :: (E ++ G), resV rfl (.cons rfl .nil), Sub.autoD, 1, false, S, a, cap, E, rfl, .arg (by omega), hrep, by omega, V, rfl⟩ | exact ⟨_, prB p (.slice a S.length cap) ver :: (E ++ G), resV rfl (.cons rfl .nil), Sub.autoD, 0, false, S, a, cap, E, rfl, .zero (by omega) (by omega), hrep, by omega, V, rfl⟩ | exact ⟨_, prB p (.slice a S.length cap) ver :: (E ++ G), resV rfl (.cons rfl .nil), Sub.autoD, 5, false, S, a, cap, E, rfl, .range (by omega) (by omega) (rngMin hm1 (by assumption) (by omega)), hrep, by omega, V, rfl⟩ | exact ⟨_, prB p (.slice a S.length cap) ver :: (E ++ G), resV rfl (.cons rfl .nil), Sub.autoD, 5, false, S, a, cap, E, rfl, .range (by omega) (by omega) (rngMax hM1 (by assumption) (by omega)), hrep, by omega, V, rfl⟩ | (obtain rfl : j = k := (by omega); exact ⟨_, prB p (.slice a4 (cpt eqF (addR S2 i j d)).length c4) (ver + 1) :: (E4 ++ G), resV rfl (.cons rfl .nil), Sub.autoD, 0, true, cpt eqF (addR S2 i j d), a4, c4, E4, rfl, .ok (by omega) (by omega) hok, hRep, (by have h9 := (cpt_sub eqF (addR S2 i j d)).length_le; rw [addR_len] at h9; omega), V4, rfl⟩)
              · refine sr_mv ?_
                refine sr_sk ?_
                refine sr_sk ?_
                refine sr_sk ?_
                refine sr_sk ?_
                refine sr_sk ?_
                refine sr_sk ?_
                refine sr_sk ?_
                refine sr_rd (x_pick_f rfl rfl rfl) ?_
                refine sr_mv ?_
                refine sr_ry (x_move rfl) ?_
                refine sr_cy (x_gt rfl rfl) (fun h12 => ?_) (fun h12 => absurd (by first | omega | decide) h12)
                refine sr_ry (x_move rfl) ?_
                refine sr_ry (x_move rfl) ?_
                refine sr_ry (x_move rfl) ?_
                refine sr_ry (x_move rfl) ?_
                refine sr_d rfl (wtd_yes rfl rfl rfl) rfl (opS_call rfl rfl rfl rfl cl95 (pmost_s p a cap S ver _ (cells_ext mauto Ext.auto) (hs.mono Sub.autoE) now f hrep (by omega) (max from_ now) to_ (by omega))) ?_
                rintro _ H9 ⟨⟨M, rfl, hM1⟩, rfl⟩
                have hM1 := hM1 (by omega)
                have hMb := maxOn_bd hM1 (fun t q => hrng t (by omega))
                refine sr_ry (x_move rfl) ?_
                refine sr_ry (x_sub' rfl rfl (i64w (by omega) (by omega))) ?_
                refine sr_cy (x_gt rfl rfl) (fun h13 => ?_) (fun h13 => ?_)
                · refine sr_ry (x_pick_t rfl rfl rfl) ?_
                  refine sr_rd (x_pick_f rfl rfl rfl) ?_
                  refine sr_nil ?_
                  refine aw_kp [0, 1, 2, 3, 8, 64] ?_
                  refine aw_true rfl ?_
                  refine aw_seq_region ?_
                  refine sr_as ?_
                  refine sr_nil ?_
                  refine aw_kp [0, 1, 2, 3, 8] ?_
                  refine aw_ret ?_
                  show ∃ v H2, ResV _ _ _ _ _ _ v ∧ Sub H2 _ ∧ _
                  first | exact ⟨_, prB p (.slice a S.length cap) ver :: (E ++ G), resV rfl (.cons rfl .nil), Sub.autoD, 1, false, S, a, cap, E, rfl, .arg (by omega), hrep, by omega, V, rfl⟩ | exact ⟨_, prB p (.slice a S.length cap) ver :: (E ++ G), resV rfl (.cons rfl .nil), Sub.autoD, 0, false, S, a, cap, E, rfl, .zero (by omega) (by omega), hrep, by omega, V, rfl⟩ | exact ⟨_, prB p (.slice a S.length cap) ver :: (E ++ G), resV rfl (.cons rfl .nil), Sub.autoD, 5, false, S, a, cap, E, rfl, .range (by omega) (by omega) (rngMin hm1 (by assumption) (by omega)), hrep, by omega, V, rfl⟩ | exact ⟨_, prB p (.slice a S.length cap) ver :: (E ++ G), resV rfl (.cons rfl .nil), Sub.autoD, 5, false, S, a, cap, E, rfl, .range (by omega) (by omega) (rngMax hM1 (by assumption) (by omega)), hrep, by omega, V, rfl⟩ | (obtain rfl : j = k := (by omega); exact ⟨_, prB p (.slice a4 (cpt eqF (addR S2 i j d)).length c4) (ver + 1) :: (E4 ++ G), resV rfl (.cons rfl .nil), Sub.autoD, 0, true, cpt eqF (addR S2 i j d), a4, c4, E4, rfl, .ok (by omega) (by omega) hok, hRep, (by have h9 := (cpt_sub eqF (addR S2 i j d)).length_le; rw [addR_len] at h9; omega), V4, rfl⟩)
                · refine sr_ry (x_pick_t rfl rfl rfl) ?_
                  refine sr_rd (x_pick_f rfl rfl rfl) ?_
                  refine sr_nil ?_
                  refine aw_kp [0, 1, 2, 3, 8, 64] ?_
                  refine aw_false rfl ?_
                  refine aw_skip ?_
                  show AW _ _ _ _ _ _ _
                  refine aw_seq_region ?_
                  have hok : ∀ t, max from_ now ≤ t → t < to_ → 0 ≤ f t + d ∧ f t + d ≤ 64 := by first | exact okMin hm1 (by assumption) (by omega) (fun t q => hrng t (by omega)) | exact okMax hM1 (by assumption) (by omega) (fun t q => hrng t (by omega))
                  refine sr_mv ?_
                  refine sr_mv ?_
                  refine sr_d rfl (wtd_none rfl) rfl (opS_call rfl rfl rfl rfl cl96 (AC.sub Sub.autoP (psplit_s p a cap S.length S ver E G V rfl (by omega) hr s0 hs0 (max from_ now) (by omega)))) ?_
                  rintro _ _ ⟨i, S1, a1, c1, E1, rfl, hS1, V1, rfl⟩
                  have hl1 := hS1.len
                  refine sr_as ?_
                  refine sr_nil ?_
                  refine aw_kp [0, 2, 3, 8, 9] ?_
                  refine aw_seq_region ?_
                  refine sr_mv ?_
                  refine sr_rd (x_nilCheck rfl) ?_
                  refine sr_rd (x_fieldAddr fd83_0 rfl) ?_
                  refine sr_rd (x_load ag43 rfl (cells_ext mauto Ext.auto)) ?_
                  refine sr_rd (x_lenSlice Try.underlying43 rfl) ?_
                  refine sr_as ?_
                  refine sr_nil ?_
                  refine aw_kp [0, 2, 3, 8, 9, 10] ?_
                  refine aw_join (ι := SpG) (fun s => ((to_ < 1152921504606846976 ∧ SplR S1 s.S to_ s.k) ∨ (to_ = 1152921504606846976 ∧ s.S = S1 ∧ s.k = S1.length)) ∧ OffVec 2 76 (.slice s.a s.S.length s.c) s.S.length (s.S.flatMap PStep.cells) s.E ∧ s.S.length ≤ S1.length + 1) (fun s => [(0, .pointer (some ⟨p, 0, none⟩)), (3, .int .i64 d), (8, .int .i64 0), (9, .int .i64 i), (10, .int .i64 s.k)]) (fun s => prB p (.slice s.a s.S.length s.c) ver :: (s.E ++ G)) ?_ ?_
                  · refine aw_seq_region ?_
                    refine sr_mv ?_
                    refine sr_c (x_lt rfl rfl) (fun h14 => ?_) (fun h14 => ?_)
                    · refine sr_nil ?_
                      refine aw_kp [0, 2, 3, 8, 9, 10, 74] ?_
                      refine aw_true rfl ?_
                      refine aw_region ?_
                      refine sr_mv ?_
                      refine sr_mv ?_
                      refine sr_d rfl (wtd_none rfl) rfl (opS_call rfl rfl rfl rfl cl96 (AC.sub Sub.autoP (psplit_s p a1 c1 S1.length S1 ver E1 G V1 rfl (by omega) hS1.ris s0 (hS1.head.trans hs0) to_ (by omega)))) ?_
                      rintro _ _ ⟨k2, S3, a3, c3, E3, rfl, hS3, V3, rfl⟩
                      have hl3 := hS3.len
                      refine sr_as ?_
                      refine sr_nil ?_
                      show ∃ s', _ ∧ _ ∧ _
                      first | exact ⟨⟨k2, S3, a3, c3, E3⟩, ⟨.inl ⟨by omega, hS3⟩, V3, hl3⟩, KeepF.auto, Sub.autoD⟩ | exact ⟨⟨S1.length, S1, a1, c1, E1⟩, ⟨.inr ⟨by omega, rfl, rfl⟩, V1, by dsimp only; omega⟩, KeepF.auto, Sub.autoD⟩
                    · refine sr_nil ?_
                      refine aw_kp [0, 2, 3, 8, 9, 10, 74] ?_
                      refine aw_false rfl ?_
                      refine aw_skip ?_
                      show ∃ s', _ ∧ _ ∧ _
                      first | exact ⟨⟨k2, S3, a3, c3, E3⟩, ⟨.inl ⟨by omega, hS3⟩, V3, hl3⟩, KeepF.auto, Sub.autoD⟩ | exact ⟨⟨S1.length, S1, a1, c1, E1⟩, ⟨.inr ⟨by omega, rfl, rfl⟩, V1, by dsimp only; omega⟩, KeepF.auto, Sub.autoD⟩
                  · intro s9 hs9
                    obtain ⟨k, S2, a2, c2, E2⟩ := s9
                    dsimp only at hs9 ⊢
                    obtain ⟨hsp, V2, hl2⟩ := hs9
                    have hRep := add_rep (n := d) hrep (show now ≤ max from_ now by omega) (by omega) (by omega) hS1 hsp
                    obtain ⟨hik, hkl, hfr⟩ := spl_facts hrep hrng (show now ≤ max from_ now by omega) (by omega) (by omega) hS1 hsp
                    obtain ⟨b, o, rfl⟩ := V2.pos (by omega)
                    obtain ⟨pre, post, rfl, hpre, hL2, hp2, hn2, hc2⟩ := offBlk V2
                    refine aw_seq ?_
                    refine aw_block ?_
                    refine aw_loop (ι := Nat) (fun j => i ≤ j ∧ j ≤ k) (fun j => [(0, .pointer (some ⟨p, 0, none⟩)), (3, .int .i64 d), (8, .int .i64 0), (9, .int .i64 j), (10, .int .i64 k)]) (fun j => (b, .cells (pre ++ ((addR S2 i j d).flatMap PStep.cells ++ post)).toArray 76 (0, 0)) :: prB p (.slice (some ⟨b, o, none⟩) S2.length c2) ver :: G) (fun j => k - j) i (⟨Nat.le_refl _, by omega⟩) KeepF.auto (by (try dsimp only); rw [addR_self]; exact Sub.autoP) ?_
                    intro j hj9
                    obtain ⟨hj1, hj2⟩ := hj9
                    refine aw_seq ?_
                    refine aw_seq_region ?_
                    refine sr_mv ?_
                    refine sr_mv ?_
                    refine sr_c (x_lt rfl rfl) (fun h15 => ?_) (fun h15 => ?_)
                    · refine sr_nil ?_
                      refine aw_kp [0, 3, 8, 9, 10, 78, 79, 80] ?_
                      refine aw_true rfl ?_
                      refine aw_skip ?_
                      show AW _ _ _ _ _ _ _
                      refine aw_seq ?_
                      refine aw_block ?_
                      refine aw_region ?_
                      obtain ⟨x, hx⟩ := get_ex (show j < S2.length by omega)
                      have hy := addR_cur (a := i) (n := d) hx
                      have hxb := hfr _ _ hx
                      have hcx := cells_flatO (W0 := W0) (n := 2) (enc := PStep.cells) (fun _ => rfl) hpre (xs := addR S2 i j d) (post := post) (show (b, .cells (pre ++ ((addR S2 i j d).flatMap PStep.cells ++ post)).toArray 76 (0, 0)) ∈ ((b, .cells (pre ++ ((addR S2 i j d).flatMap PStep.cells ++ post)).toArray 76 (0, 0)) :: prB p (.slice (some ⟨b, o, none⟩) S2.length c2) ver :: G) from List.mem_cons_self) hy
                      refine sr_mv ?_
                      refine sr_rd (x_nilCheck rfl) ?_
                      refine sr_rd (x_fieldAddr fd83_0 rfl) ?_
                      refine sr_rd (x_load ag43 rfl (cells_ext mauto Ext.auto)) ?_
                      refine sr_mv ?_
                      refine sr_rd (x_indexAddrN (j) Try.underlying43 sz76 rfl rfl rfl (by omega) (by omega)) ?_
                      refine sr_rd (x_fieldAddr fd76_1 rfl) ?_
                      refine sr_rd (x_load ag3 rfl (cells_get (Cells.mono hcx (Sub.refl _)) 1 rfl)) ?_
                      refine sr_mv ?_
                      refine sr_rd (x_add' rfl rfl (i64w (by omega) (by omega))) ?_
                      refine sr_rd (x_indexAddrN (j) Try.underlying43 sz76 rfl rfl rfl (by omega) (by omega)) ?_
                      refine sr_rd (x_fieldAddr fd76_1 rfl) ?_
                      refine sr_x0 rfl (wtd_none rfl) (x_store sz3 rfl rfl rfl rfl rfl Repl.auto (spl_addR hpre hx hj1)) ?_
                      refine sr_nil ?_
                      show AW _ _ _ _ _ _ _
                      refine aw_region ?_
                      refine sr_mv ?_
                      refine sr_rd (x_add' rfl rfl (i64w (by omega) (by omega))) ?_
                      refine sr_as ?_
                      refine sr_nil ?_
                      show ∃ s', _ ∧ _ ∧ _ ∧ _
                      exact ⟨j + 1, ⟨by omega, by omega⟩, by omega, KeepF.auto, Sub.autoP⟩
                    · refine sr_nil ?_
                      refine aw_kp [0, 3, 8, 9, 10, 78, 79, 80] ?_
                      refine aw_false rfl ?_
                      refine aw_exit ?_
                      show AW _ _ _ _ _ _ _
                      refine aw_seq_region ?_
                      refine sr_mv ?_
                      refine sr_d rfl (wtd_none rfl) rfl (opS_call rfl rfl rfl rfl cl97 (AC.sub Sub.autoP (pjoin_s p (some ⟨b, o, none⟩) c2 S2.length (addR S2 i j d) ver [(b, .cells (pre ++ ((addR S2 i j d).flatMap PStep.cells ++ post)).toArray 76 (0, 0))] G (.mk hpre (by rw [flat_len (n := 2) (enc := PStep.cells) (fun _ => rfl), addR_len]) hp2 hn2 hc2) addR_len (by omega)))) ?_
                      rintro _ _ ⟨a4, c4, E4, rfl, V4, rfl⟩
                      refine sr_nil ?_
                      refine aw_kp [0, 8] ?_
                      refine aw_seq_region ?_
                      refine sr_mv ?_
                      refine sr_rd (x_nilCheck rfl) ?_
                      refine sr_rd (x_fieldAddr fd83_1 rfl) ?_
                      refine sr_rd (x_load ag3 rfl (cells_ext mauto Ext.auto)) ?_
                      refine sr_rd (x_add' rfl rfl (i64w (by omega) (by omega))) ?_
                      refine sr_rd (x_nilCheck rfl) ?_
                      refine sr_rd (x_fieldAddr fd83_1 rfl) ?_
                      refine sr_x0 rfl (wtd_none rfl) (x_store sz3 rfl rfl rfl rfl rfl Repl.auto Spl.auto) ?_
                      refine sr_nil ?_
                      refine aw_kp [8] ?_
                      refine aw_seq_region ?_
                      refine sr_as ?_
                      refine sr_nil ?_
                      refine aw_kp [8] ?_
                      refine aw_ret ?_
                      show ∃ v H2, ResV _ _ _ _ _ _ v ∧ Sub H2 _ ∧ _
                      first | exact ⟨_, prB p (.slice a S.length cap) ver :: (E ++ G), resV rfl (.cons rfl .nil), Sub.autoD, 1, false, S, a, cap, E, rfl, .arg (by omega), hrep, by omega, V, rfl⟩ | exact ⟨_, prB p (.slice a S.length cap) ver :: (E ++ G), resV rfl (.cons rfl .nil), Sub.autoD, 0, false, S, a, cap, E, rfl, .zero (by omega) (by omega), hrep, by omega, V, rfl⟩ | exact ⟨_, prB p (.slice a S.length cap) ver :: (E ++ G), resV rfl (.cons rfl .nil), Sub.autoD, 5, false, S, a, cap, E, rfl, .range (by omega) (by omega) (rngMin hm1 (by assumption) (by omega)), hrep, by omega, V, rfl⟩ | exact ⟨_, prB p (.slice a S.length cap) ver :: (E ++ G), resV rfl (.cons rfl .nil), Sub.autoD, 5, false, S, a, cap, E, rfl, .range (by omega) (by omega) (rngMax hM1 (by assumption) (by omega)), hrep, by omega, V, rfl⟩ | (obtain rfl : j = k := (by omega); exact ⟨_, prB p (.slice a4 (cpt eqF (addR S2 i j d)).length c4) (ver + 1) :: (E4 ++ G), resV rfl (.cons rfl .nil), Sub.autoD, 0, true, cpt eqF (addR S2 i j d), a4, c4, E4, rfl, .ok (by omega) (by omega) hok, hRep, (by have h9 := (cpt_sub eqF (addR S2 i j d)).length_le; rw [addR_len] at h9; omega), V4, rfl⟩)
set_option maxRecDepth 100000 in
set_option maxHeartbeats 4000000 in
theorem pres_s (p : Nat) (a : Option Addr) (cap n : Nat) (S : List PStep) (ver : Int) (E G : SHeap) (V : OffVec 2 76 (.slice a n cap) n (S.flatMap PStep.cells) E) (hln : S.length = n) (hl : n ≤ 100000) (now : Int) (f : Int → Int) (hrep : Rep S now f) (hrng : ∀ t, now ≤ t → 0 ≤ f t ∧ f t ≤ 64) (hv : 0 ≤ ver ∧ ver ≤ 1000000) (hl5 : n ≤ 50000) (sp : PSpan) (hw : 0 ≤ sp.width ∧ sp.width ≤ 64) : AC Try.prog W0 40 [.pointer (some ⟨p, 0, none⟩), PSpan.v sp] (prB p (.slice a n cap) ver :: (E ++ G)) (fun v H' => ∃ (e : Int) (ch : Bool) (S' : List PStep) (a' : Option Addr) (cap' : Nat) (E' : SHeap), v = .int .i64 e ∧ AddC f now sp.from_ sp.to_ (0 - sp.width) e ch ∧ Rep S' now (if ch = true then addF f now sp.from_ sp.to_ (0 - sp.width) else f) ∧ S'.length ≤ S.length + 2 ∧ OffVec 2 76 (.slice a' S'.length cap') S'.length (S'.flatMap PStep.cells) E' ∧ H' = prB p (.slice a' S'.length cap') (if ch = true then ver + 1 else ver) :: (E' ++ G)) := by
  subst hln
  refine ac_of Try.func40 rfl rfl rfl ?_
  refine aw_seq_region ?_
  refine sr_new rfl (wtd_none rfl) rfl (x_box rfl rfl) ?_
  intro r0_0 hr0_0 gr0_0
  refine sr_as ?_
  refine sr_nil ?_
  refine aw_kp [0, 3, 4] ?_
  refine aw_seq_region ?_
  refine sr_mv ?_
  refine sr_rd (x_fieldAddr fd55_0 rfl) ?_
  refine sr_rd (x_load ag2 rfl (cells_ext mauto Ext.auto)) ?_
  refine sr_rd (x_fieldAddr fd55_1 rfl) ?_
  refine sr_rd (x_load ag2 rfl (cells_ext mauto Ext.auto)) ?_
  refine sr_rd (x_fieldAddr fd55_2 rfl) ?_
  refine sr_rd (x_load ag3 rfl (cells_ext mauto Ext.auto)) ?_
  refine sr_rd (x_neg' rfl (i64w (by omega) (by omega))) ?_
  refine sr_d rfl (wtd_none rfl) rfl (opS_call rfl rfl rfl rfl cl38 (AC.sub Sub.autoP (padd_s p a cap S.length S ver E ((r0_0, .cells (PSpan.cells sp).toArray 55 (0, 0)) :: G) V rfl hl now f hrep hrng hv hl5 sp.from_ sp.to_ (0 - sp.width)))) ?_
  rintro _ _ ⟨e, ch, S', a', cap', E', rfl, h1, h2, h3, h4, rfl⟩
  refine sr_as ?_
  refine sr_nil ?_
  refine aw_kp [4] ?_
  refine aw_ret ?_
  show ∃ v H2, ResV _ _ _ _ _ _ v ∧ Sub H2 _ ∧ _
  exact ⟨_, prB p (.slice a' S'.length cap') (if ch = true then ver + 1 else ver) :: (E' ++ G), resV rfl (.cons rfl .nil), Sub.autoD, e, ch, S', a', cap', E', rfl, h1, h2, h3, h4, rfl⟩
end
end Go.Proofs.Ytjkojdjjooangaa
