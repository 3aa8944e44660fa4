/- Graphs: layers. -/
import Derived.Test.YtonpnkekcipmlaaDpc
namespace Go.Proofs.Ytonpnkekcipmlaa
open Go.Proofs.Ytonpnkekcipmlaa.Sym
open Go.RowKit (Below)
set_option linter.unusedVariables false
set_option linter.unusedSimpArgs false
structure SlD where
  a : Option Addr
  n : Nat
  c : Nat
@[reducible] def slC (d : SlD) : List Value := [.slice d.a d.n d.c]
/-- Lists of one's own that a list of slices points to. -/
inductive Inn : List (List Int) → List SlD → SHeap → Prop
  | nil : Inn [] [] []
  | snoc {Ls : List (List Int)} {ds : List SlD} {E E1 : SHeap} {X : List Int} {a : Option Addr} {c : Nat} (h : Inn Ls ds E) (V : OwnVec 1 3 (.slice a X.length c) X.length (X.flatMap intC) E1) : Inn (Ls ++ [X]) (ds ++ [⟨a, X.length, c⟩]) (E1 ++ E)
theorem Inn.len {Ls : List (List Int)} {ds : List SlD} {E : SHeap} (h : Inn Ls ds E) : ds.length = Ls.length := by
  induction h with
  | nil => rfl
  | snoc _ _ ih => rw [List.length_append, List.length_append, ih]; rfl
theorem Inn.at_ {Ls : List (List Int)} {ds : List SlD} {E : SHeap} (h : Inn Ls ds E) {i : Nat} {X : List Int} (hX : Ls[i]? = some X) : ∃ a c E1, ds[i]? = some ⟨a, X.length, c⟩ ∧ OwnVec 1 3 (.slice a X.length c) X.length (X.flatMap intC) E1 ∧ Sub E1 E := by
  induction h with
  | nil => simp at hX
  | @snoc Ls ds E E1 Y a c h V ih =>
    have hl := h.len
    rcases Nat.lt_or_ge i Ls.length with q | q
    · rw [List.getElem?_append_left q] at hX
      obtain ⟨a2, c2, E2, h1, h2, h3⟩ := ih hX
      exact ⟨a2, c2, E2, by rw [List.getElem?_append_left (by omega)]; exact h1, h2, Sub.dropE h3⟩
    · rw [List.getElem?_append_right q] at hX
      have h0 : i - Ls.length = 0 := by have := get_lt hX; simp at this; omega
      rw [h0] at hX
      simp at hX; subst hX
      exact ⟨a, c, E1, by rw [List.getElem?_append_right (by omega), hl, h0]; rfl, V, Sub.takeE0 TakeE.here⟩
/-- Must a job wait for one of the list? -/
def mst (E : List DEdge) (L : List Int) (x : Int) : Bool := (outs E x).any (fun y => decide (y ∈ L))
def nowL (E : List DEdge) (L : List Int) : List Int := L.filter (fun x => !mst E L x)
def thnL (E : List DEdge) (L : List Int) : List Int := L.filter (mst E L)
theorem filter_take1 {p : Int → Bool} {L : List Int} {k : Nat} {x : Int} (hx : L[k]? = some x) : (L.take (k + 1)).filter p = (L.take k).filter p ++ if p x = true then [x] else [] := by
  rw [takeS hx, List.filter_append]
  cases h : p x with
  | true => rw [List.filter_cons_of_pos h, if_pos rfl]; rfl
  | false => rw [List.filter_cons_of_neg (by simp [h]), if_neg (by simp)]; rfl
theorem tms_any {E : List DEdge} {W L : List Int} {x : Int} (h : Tms (outs E x) W) : W.any (fun y => decide (y ∈ L)) = mst E L x := by
  unfold mst
  rw [Bool.eq_iff_iff, List.any_eq_true, List.any_eq_true]
  exact ⟨fun ⟨y, h1, h2⟩ => ⟨y, (h.2 y).1 h1, h2⟩, fun ⟨y, h1, h2⟩ => ⟨y, (h.2 y).2 h1, h2⟩⟩
theorem now_ne {E : List DEdge} (hD : DgI E) {L : List Int} (hne : 0 < L.length) : 0 < (nowL E L).length := by
  classical
  let R : Int → Nat := fun x => (L.filter (fun y => decide (Rch E x y))).length
  have key : ∀ n x, x ∈ L → R x ≤ n → ∃ z ∈ L, mst E L z = false := by
    intro n
    induction n with
    | zero =>
      intro x hx h
      exfalso
      have h0 : (L.filter (fun y => decide (Rch E x y))).length = 0 := by show R x = 0; omega
      have := List.length_eq_zero_iff.1 h0
      rw [List.filter_eq_nil_iff] at this
      exact this x hx (by simpa using Rch.refl x)
    | succ n ih =>
      intro x hx h
      cases hm : mst E L x with
      | false => exact ⟨x, hx, hm⟩
      | true =>
        unfold mst at hm
        rw [List.any_eq_true] at hm
        obtain ⟨y, hy, hyL⟩ := hm
        have hyL := of_decide_eq_true hyL
        obtain ⟨e, he, rfl, rfl⟩ := outs_mem.1 hy
        refine ih e.for_ hyL ?_
        have : R e.for_ < R e.job := filter_less (p := fun y => decide (Rch E e.for_ y)) (q := fun y => decide (Rch E e.job y)) (b := e.job) (fun x h => by simp at h ⊢; exact .step he h) (by simpa using Rch.refl _) (by simpa using hD.acy e he) hx
        omega
  obtain ⟨x, hx⟩ := List.exists_mem_of_length_pos hne
  obtain ⟨z, hz, hm⟩ := key (R x) x hx (Nat.le_refl _)
  exact List.length_pos_of_mem (List.mem_filter.2 ⟨hz, by simp [hm]⟩)
theorem now_thn (E : List DEdge) (L : List Int) : (nowL E L).length + (thnL E L).length = L.length := by
  unfold nowL thnL
  generalize mst E L = p
  induction L with
  | nil => rfl
  | cons x L ih =>
    cases h : p x with
    | true => rw [List.filter_cons_of_neg (by simp [h]), List.filter_cons_of_pos h, List.length_cons, List.length_cons]; omega
    | false => rw [List.filter_cons_of_pos (by simp [h]), List.filter_cons_of_neg (by simp [h]), List.length_cons, List.length_cons]; omega
inductive LayR (E : List DEdge) : List Int → List (List Int) → Prop
  | nil : LayR E [] []
  | cons {L : List Int} {Ls : List (List Int)} (hne : 0 < L.length) (h : LayR E (thnL E L) Ls) : LayR E L (nowL E L :: Ls)
theorem LayR.done {E : List DEdge} {L : List Int} {Ls : List (List Int)} (h : LayR E L Ls) (h0 : L.length = 0) : Ls = [] := by
  cases h with
  | nil => rfl
  | cons hne => omega
theorem LayR.go {E : List DEdge} {L : List Int} {Ls : List (List Int)} {n : Nat} (h : LayR E L (Ls.drop n)) (h0 : 0 < L.length) : Ls[n]? = some (nowL E L) ∧ LayR E (thnL E L) (Ls.drop (n + 1)) := by
  generalize hd : Ls.drop n = D at h
  cases h with
  | nil => simp at h0
  | @cons _ D hne h =>
    have h1 : (Ls.drop n)[0]? = some (nowL E L) := by rw [hd]; rfl
    rw [List.getElem?_drop] at h1
    refine ⟨by simpa using h1, ?_⟩
    have : Ls.drop (n + 1) = (Ls.drop n).drop 1 := by rw [List.drop_drop]
    rw [this, hd]; exact h
structure LyG where
  L : List Int
  a : Option Addr
  c : Nat
  E1 : SHeap
  Ls : List (List Int)
  ds : List SlD
  ao : Option Addr
  co : Nat
  Eo : SHeap
  Ei : SHeap
structure NtG where
  k : Nat
  A : List Int
  a1 : Option Addr
  c1 : Nat
  E1 : SHeap
  B : List Int
  a2 : Option Addr
  c2 : Nat
  E2 : SHeap
structure LwG where
  k : Nat
  n : Nat
  L : List Int
  a : Option Addr
  c : Nat
  E : SHeap
structure JmG where
  j : Nat
  m : Bool
theorem any_take1 {p : Int → Bool} {L : List Int} {k : Nat} {x : Int} (hx : L[k]? = some x) : (L.take (k + 1)).any p = ((L.take k).any p || p x) := by
  rw [takeS hx, List.any_append]; simp
theorem ag50 : aggOf Try.prog 50 = some false := by kernel_rfl
theorem by50 : bytesOf Try.prog 50 = some 24 := by kernel_rfl
theorem cl19 : Callable Try.prog 19 := ⟨Try.f19, Try.func19, by kernel_rfl, by kernel_rfl⟩
theorem cl35 : Callable Try.prog 35 := ⟨Try.f35, Try.func35, by kernel_rfl, by kernel_rfl⟩
theorem cl36 : Callable Try.prog 36 := ⟨Try.f36, Try.func36, by kernel_rfl, by kernel_rfl⟩
theorem cl37 : Callable Try.prog 37 := ⟨Try.f37, Try.func37, by kernel_rfl, by kernel_rfl⟩
theorem cl38 : Callable Try.prog 38 := ⟨Try.f38, Try.func38, by kernel_rfl, by kernel_rfl⟩
theorem cl39 : Callable Try.prog 39 := ⟨Try.f39, Try.func39, by kernel_rfl, by kernel_rfl⟩
theorem cl49 : Callable Try.prog 49 := ⟨Try.f49, Try.func49, by kernel_rfl, by kernel_rfl⟩
theorem cl50 : Callable Try.prog 50 := ⟨Try.f50, Try.func50, by kernel_rfl, by kernel_rfl⟩
theorem sz50 : szOf Try.prog 50 = some 1 := by kernel_rfl
theorem zr50 : zeroOf Try.prog 50 = some (.slice none 0 0) := by kernel_rfl
section
variable {W0 : World}
set_option maxRecDepth 100000 in
set_option maxHeartbeats 400000 in
theorem iidx_s (a : Option Addr) (cap : Nat) (X : List Int) (H : SHeap) (hs : SlV W0 H 1 intC a cap X) (n : Int) : AC Try.prog W0 50 [.slice a X.length cap, .int .i64 n] H (fun v H' => (∃ i : Int, v = .int .i64 i ∧ (0 ≤ i ↔ n ∈ X)) ∧ H' = H) := by
  have hle := hs.le
  have hcb := hs.capb
  refine ac_of Try.func50 rfl rfl rfl ?_
  refine aw_seq_region ?_
  refine sr_as ?_
  refine sr_nil ?_
  refine aw_kp [0, 1, 4] ?_
  refine aw_seq ?_
  refine aw_seq_region ?_
  refine sr_mv ?_
  refine sr_rd (x_lenSlice Try.underlying50 rfl) ?_
  refine sr_mv ?_
  refine sr_nil ?_
  refine aw_kp [0, 1, 4, 7, 8] ?_
  refine aw_block ?_
  refine aw_loop (ι := Nat) (fun k => k ≤ X.length ∧ n ∉ X.take k) (fun k => [(0, .slice a X.length cap), (1, .int .i64 n), (7, .int .i64 X.length), (8, .int .i64 k)]) (fun _ => H) (fun k => X.length - k) 0 (⟨Nat.zero_le _, by simp⟩) KeepF.auto Sub.autoP ?_
  intro k hk9
  obtain ⟨hk, hno⟩ := hk9
  refine aw_seq_region ?_
  refine sr_c (x_lt rfl rfl) (fun h1 => ?_) (fun h1 => ?_)
  · refine sr_nil ?_
    refine aw_kp [0, 1, 7, 8, 9] ?_
    refine aw_seq ?_
    refine aw_true rfl ?_
    refine aw_skip ?_
    show AW _ _ _ _ _ _ _
    refine aw_seq ?_
    refine aw_block ?_
    refine aw_seq_region ?_
    refine sr_mv ?_
    refine sr_as ?_
    refine sr_nil ?_
    refine aw_kp [0, 1, 5, 7, 8, 9, 10] ?_
    refine aw_seq_region ?_
    obtain ⟨x, hx⟩ := get_ex (show k < X.length by omega)
    obtain ⟨bi, oi, hai, hci⟩ := hs.at_ _ _ hx
    refine sr_mv ?_
    refine sr_mv ?_
    refine sr_mv ?_
    refine sr_rd (x_indexAddrN (k) Try.underlying50 sz3 rfl hai rfl (by omega) (by omega)) ?_
    refine sr_rd (x_load ag3 rfl (cells_get (Cells.mono hci Sub.autoR) 0 rfl)) ?_
    refine sr_c (x_eq rfl rfl) (fun h2 => ?_) (fun h2 => ?_)
    · refine sr_nil ?_
      refine aw_kp [0, 1, 5, 7, 8, 9, 10, 11, 12, 13, 14, 15, 16] ?_
      refine aw_true rfl ?_
      refine aw_seq_region ?_
      refine sr_mv ?_
      refine sr_as ?_
      refine sr_nil ?_
      refine aw_kp [0, 1, 4, 5, 7, 8, 9, 10, 11, 12, 13, 14, 15, 16, 17] ?_
      refine aw_ret ?_
      show ∃ v H2, ResV _ _ _ _ _ _ v ∧ Sub H2 _ ∧ _
      first | (rw [List.take_of_length_le (by omega)] at hno; exact ⟨_, H, resV rfl (.cons rfl .nil), Sub.refl _, ⟨_, rfl, ⟨fun h => by omega, fun h => absurd h hno⟩⟩, rfl⟩) | exact ⟨_, H, resV rfl (.cons rfl .nil), Sub.refl _, ⟨_, rfl, ⟨fun _ => by (have := List.mem_of_getElem? hx); (obtain rfl : n = x := by omega); exact this, fun _ => by omega⟩⟩, rfl⟩
    · refine sr_nil ?_
      refine aw_kp [0, 1, 5, 7, 8, 9, 10, 11, 12, 13, 14, 15, 16] ?_
      refine aw_false rfl ?_
      refine aw_skip ?_
      show AW _ _ _ _ _ _ _
      refine aw_region ?_
      refine sr_rd (x_add' rfl rfl (i64w (by omega) (by omega))) ?_
      refine sr_mv ?_
      refine sr_nil ?_
      show ∃ s', _ ∧ _ ∧ _ ∧ _
      exact ⟨k + 1, ⟨by omega, fun q => by rcases (mem_take1 hx).1 q with q | q; (exact hno q); omega⟩, by omega, KeepF.auto, Sub.autoR⟩
  · refine sr_nil ?_
    refine aw_kp [0, 1, 7, 8, 9] ?_
    refine aw_seq ?_
    refine aw_false rfl ?_
    refine aw_exit ?_
    show AW _ _ _ _ _ _ _
    refine aw_seq_region ?_
    refine sr_as ?_
    refine sr_nil ?_
    refine aw_kp [4] ?_
    refine aw_ret ?_
    show ∃ v H2, ResV _ _ _ _ _ _ v ∧ Sub H2 _ ∧ _
    first | (rw [List.take_of_length_le (by omega)] at hno; exact ⟨_, H, resV rfl (.cons rfl .nil), Sub.refl _, ⟨_, rfl, ⟨fun h => by omega, fun h => absurd h hno⟩⟩, rfl⟩) | exact ⟨_, H, resV rfl (.cons rfl .nil), Sub.refl _, ⟨_, rfl, ⟨fun _ => by (have := List.mem_of_getElem? hx); (obtain rfl : n = x := by omega); exact this, fun _ => by omega⟩⟩, rfl⟩
set_option maxRecDepth 100000 in
set_option maxHeartbeats 400000 in
theorem icon_s (a : Option Addr) (cap : Nat) (X : List Int) (H : SHeap) (hs : SlV W0 H 1 intC a cap X) (n : Int) : AC Try.prog W0 39 [.slice a X.length cap, .int .i64 n] H (fun v H' => v = .bool (decide (n ∈ X)) ∧ H' = H) := by
  refine ac_of Try.func39 rfl rfl rfl ?_
  refine aw_seq_region ?_
  refine sr_as ?_
  refine sr_nil ?_
  refine aw_kp [0, 1, 4] ?_
  refine aw_seq_region ?_
  refine sr_mv ?_
  refine sr_mv ?_
  refine sr_d rfl (wtd_none rfl) rfl (opS_call rfl rfl rfl rfl cl50 (iidx_s a cap X H hs n)) ?_
  rintro _ H ⟨⟨i, rfl, hi⟩, rfl⟩
  refine sr_c (x_ge rfl rfl) (fun h1 => ?_) (fun h1 => ?_)
  · refine sr_as ?_
    refine sr_nil ?_
    refine aw_kp [4] ?_
    refine aw_ret ?_
    show ∃ v H2, ResV _ _ _ _ _ _ v ∧ Sub H2 _ ∧ _
    exact ⟨_, H, resV rfl (.cons rfl .nil), (by repeat (first | exact Sub.refl _ | apply Sub.drop)), ⟨congrArg Value.bool (by first | exact (decide_eq_true (hi.1 (by omega))).symm | exact (decide_eq_false (fun h => by have := hi.2 h; omega)).symm), rfl⟩⟩
  · refine sr_as ?_
    refine sr_nil ?_
    refine aw_kp [4] ?_
    refine aw_ret ?_
    show ∃ v H2, ResV _ _ _ _ _ _ v ∧ Sub H2 _ ∧ _
    exact ⟨_, H, resV rfl (.cons rfl .nil), (by repeat (first | exact Sub.refl _ | apply Sub.drop)), ⟨congrArg Value.bool (by first | exact (decide_eq_true (hi.1 (by omega))).symm | exact (decide_eq_false (fun h => by have := hi.2 h; omega)).symm), rfl⟩⟩
set_option maxRecDepth 100000 in
set_option maxHeartbeats 400000 in
theorem llam_s (qn : Nat) (b : Option Addr) (d : Nat) (L : List Int) (H : SHeap) (hq : Cells W0 H qn 0 [.slice b L.length d]) (ht : SlV W0 H 1 intC b d L) (y : Int) : AC Try.prog W0 38 [.int .i64 y, .pointer (some ⟨qn, 0, none⟩)] H (fun v H' => v = .bool (decide (y ∈ L)) ∧ H' = H) := by
  refine ac_of Try.func38 rfl rfl rfl ?_
  refine aw_seq_region ?_
  refine sr_as ?_
  refine sr_nil ?_
  refine aw_kp [0, 1, 3] ?_
  refine aw_seq_region ?_
  refine sr_rd (x_load ag50 rfl (cells_get hq 0 rfl)) ?_
  refine sr_mv ?_
  refine sr_d rfl (wtd_none rfl) rfl (opS_call rfl rfl rfl rfl cl39 (icon_s b d L H ht y)) ?_
  rintro _ H ⟨rfl, rfl⟩
  refine sr_as ?_
  refine sr_nil ?_
  refine aw_kp [3] ?_
  refine aw_ret ?_
  show ∃ v H2, ResV _ _ _ _ _ _ v ∧ Sub H2 _ ∧ _
  exact ⟨_, H, resV rfl (.cons rfl .nil), (by repeat (first | exact Sub.refl _ | apply Sub.drop)), ⟨rfl, rfl⟩⟩
set_option maxRecDepth 100000 in
set_option maxHeartbeats 400000 in
theorem lidx_s (qn : Nat) (b : Option Addr) (d : Nat) (L : List Int) (H : SHeap) (hq : Cells W0 H qn 0 [.slice b L.length d]) (ht : SlV W0 H 1 intC b d L) (a : Option Addr) (cap : Nat) (X : List Int) (hs : SlV W0 H 1 intC a cap X) : AC Try.prog W0 49 [.slice a X.length cap, .func (.func 38) #[] #[.pointer (some ⟨qn, 0, none⟩)]] H (fun v H' => (∃ i : Int, v = .int .i64 i ∧ (0 ≤ i ↔ X.any (fun y => decide (y ∈ L)) = true)) ∧ H' = H) := by
  have hle := hs.le
  have hcb := hs.capb
  refine ac_of Try.func49 rfl rfl rfl ?_
  refine aw_seq_region ?_
  refine sr_as ?_
  refine sr_nil ?_
  refine aw_kp [0, 1, 4] ?_
  refine aw_seq ?_
  refine aw_seq_region ?_
  refine sr_mv ?_
  refine sr_rd (x_lenSlice Try.underlying50 rfl) ?_
  refine sr_mv ?_
  refine sr_nil ?_
  refine aw_kp [0, 1, 4, 7, 8] ?_
  refine aw_block ?_
  refine aw_loop (ι := Nat) (fun k => k ≤ X.length ∧ ∀ j x, j < k → X[j]? = some x → decide (x ∈ L) = false) (fun k => [(0, .slice a X.length cap), (1, .func (.func 38) #[] #[.pointer (some ⟨qn, 0, none⟩)]), (7, .int .i64 X.length), (8, .int .i64 k)]) (fun _ => H) (fun k => X.length - k) 0 (⟨Nat.zero_le _, fun j x h => by omega⟩) KeepF.auto Sub.autoP ?_
  intro k hk9
  obtain ⟨hk, hok⟩ := hk9
  refine aw_seq_region ?_
  refine sr_c (x_lt rfl rfl) (fun h1 => ?_) (fun h1 => ?_)
  · refine sr_nil ?_
    refine aw_kp [0, 1, 7, 8, 9] ?_
    refine aw_seq ?_
    refine aw_true rfl ?_
    refine aw_skip ?_
    show AW _ _ _ _ _ _ _
    refine aw_seq ?_
    refine aw_block ?_
    refine aw_seq_region ?_
    refine sr_mv ?_
    refine sr_as ?_
    refine sr_nil ?_
    refine aw_kp [0, 1, 5, 7, 8, 9, 10] ?_
    refine aw_seq_region ?_
    obtain ⟨x, hx⟩ := get_ex (show k < X.length by omega)
    obtain ⟨bi, oi, hai, hci⟩ := hs.at_ _ _ hx
    refine sr_mv ?_
    refine sr_mv ?_
    refine sr_mv ?_
    refine sr_rd (x_indexAddrN (k) Try.underlying50 sz3 rfl hai rfl (by omega) (by omega)) ?_
    refine sr_rd (x_load ag3 rfl (cells_get (Cells.mono hci Sub.autoR) 0 rfl)) ?_
    refine sr_d rfl (wtd_none rfl) rfl (opS_call rfl rfl rfl rfl cl38 (llam_s qn b d L H hq ht x)) ?_
    rintro _ H ⟨rfl, rfl⟩
    generalize hd : decide (x ∈ L) = d1
    cases d1
    · refine sr_nil ?_
      refine aw_kp [0, 1, 5, 7, 8, 9, 10, 11, 12, 13, 14, 15, 16] ?_
      refine aw_false rfl ?_
      refine aw_skip ?_
      show AW _ _ _ _ _ _ _
      refine aw_region ?_
      refine sr_rd (x_add' rfl rfl (i64w (by omega) (by omega))) ?_
      refine sr_mv ?_
      refine sr_nil ?_
      show ∃ s', _ ∧ _ ∧ _ ∧ _
      exact ⟨k + 1, ⟨by omega, fun j y2 h hy => by (rcases Nat.lt_or_eq_of_le (Nat.le_of_lt_succ h) with q | q); (exact hok j y2 q hy); (subst q; rw [hx] at hy; cases hy; exact hd)⟩, by omega, KeepF.auto, Sub.autoR⟩
    · refine sr_nil ?_
      refine aw_kp [0, 1, 5, 7, 8, 9, 10, 11, 12, 13, 14, 15, 16] ?_
      refine aw_true rfl ?_
      refine aw_seq_region ?_
      refine sr_mv ?_
      refine sr_as ?_
      refine sr_nil ?_
      refine aw_kp [0, 1, 4, 5, 7, 8, 9, 10, 11, 12, 13, 14, 15, 16, 17] ?_
      refine aw_ret ?_
      show ∃ v H2, ResV _ _ _ _ _ _ v ∧ Sub H2 _ ∧ _
      first | exact ⟨_, H, resV rfl (.cons rfl .nil), Sub.refl _, ⟨_, rfl, ⟨fun _ => List.any_eq_true.2 ⟨x, List.mem_of_getElem? hx, hd⟩, fun _ => by omega⟩⟩, rfl⟩ | exact ⟨_, H, resV rfl (.cons rfl .nil), Sub.refl _, ⟨_, rfl, ⟨fun h => by omega, fun h => by (obtain ⟨x, hx, hxq⟩ := List.any_eq_true.1 h); (obtain ⟨j, hj⟩ := List.getElem?_of_mem hx); (rw [hok j x (by have := get_lt hj; omega) hj] at hxq); cases hxq⟩⟩, rfl⟩
  · refine sr_nil ?_
    refine aw_kp [0, 1, 7, 8, 9] ?_
    refine aw_seq ?_
    refine aw_false rfl ?_
    refine aw_exit ?_
    show AW _ _ _ _ _ _ _
    refine aw_seq_region ?_
    refine sr_as ?_
    refine sr_nil ?_
    refine aw_kp [4] ?_
    refine aw_ret ?_
    show ∃ v H2, ResV _ _ _ _ _ _ v ∧ Sub H2 _ ∧ _
    first | exact ⟨_, H, resV rfl (.cons rfl .nil), Sub.refl _, ⟨_, rfl, ⟨fun _ => List.any_eq_true.2 ⟨x, List.mem_of_getElem? hx, hd⟩, fun _ => by omega⟩⟩, rfl⟩ | exact ⟨_, H, resV rfl (.cons rfl .nil), Sub.refl _, ⟨_, rfl, ⟨fun h => by omega, fun h => by (obtain ⟨x, hx, hxq⟩ := List.any_eq_true.1 h); (obtain ⟨j, hj⟩ := List.getElem?_of_mem hx); (rw [hok j x (by have := get_lt hj; omega) hj] at hxq); cases hxq⟩⟩, rfl⟩
set_option maxRecDepth 100000 in
set_option maxHeartbeats 400000 in
theorem lcon_s (qn : Nat) (b : Option Addr) (d : Nat) (L : List Int) (H : SHeap) (hq : Cells W0 H qn 0 [.slice b L.length d]) (ht : SlV W0 H 1 intC b d L) (a : Option Addr) (cap : Nat) (X : List Int) (hs : SlV W0 H 1 intC a cap X) : AC Try.prog W0 37 [.slice a X.length cap, .func (.func 38) #[] #[.pointer (some ⟨qn, 0, none⟩)]] H (fun v H' => v = .bool (X.any (fun y => decide (y ∈ L))) ∧ H' = H) := by
  refine ac_of Try.func37 rfl rfl rfl ?_
  refine aw_seq_region ?_
  refine sr_as ?_
  refine sr_nil ?_
  refine aw_kp [0, 1, 4] ?_
  refine aw_seq_region ?_
  refine sr_mv ?_
  refine sr_mv ?_
  refine sr_d rfl (wtd_none rfl) rfl (opS_call rfl rfl rfl rfl cl49 (lidx_s qn b d L H hq ht a cap X hs)) ?_
  rintro _ H ⟨⟨i, rfl, hi⟩, rfl⟩
  refine sr_c (x_ge rfl rfl) (fun h1 => ?_) (fun h1 => ?_)
  · refine sr_as ?_
    refine sr_nil ?_
    refine aw_kp [4] ?_
    refine aw_ret ?_
    show ∃ v H2, ResV _ _ _ _ _ _ v ∧ Sub H2 _ ∧ _
    exact ⟨_, H, resV rfl (.cons rfl .nil), (by repeat (first | exact Sub.refl _ | apply Sub.drop)), ⟨congrArg Value.bool (by first | exact (hi.1 (by omega)).symm | exact (Bool.eq_false_iff.2 (fun h => by have := hi.2 h; omega)).symm), rfl⟩⟩
  · refine sr_as ?_
    refine sr_nil ?_
    refine aw_kp [4] ?_
    refine aw_ret ?_
    show ∃ v H2, ResV _ _ _ _ _ _ v ∧ Sub H2 _ ∧ _
    exact ⟨_, H, resV rfl (.cons rfl .nil), (by repeat (first | exact Sub.refl _ | apply Sub.drop)), ⟨congrArg Value.bool (by first | exact (hi.1 (by omega)).symm | exact (Bool.eq_false_iff.2 (fun h => by have := hi.2 h; omega)).symm), rfl⟩⟩
set_option maxRecDepth 100000 in
set_option maxHeartbeats 400000 in
theorem iclone_s (a : Option Addr) (cap : Nat) (xs : List Int) (H : SHeap) (hs : SlV W0 H 1 intC a cap xs) (hjl : xs.length ≤ 1000000) : AC Try.prog W0 35 [.slice a xs.length cap] H (fun v H' => ∃ E2, (∃ a2 cap2, OwnVec 1 3 (.slice a2 xs.length cap2) xs.length (xs.flatMap intC) E2 ∧ v = .slice a2 xs.length cap2) ∧ H' = E2 ++ H) := by
  have hfl := flat_len (n := 1) (enc := intC) (fun _ => rfl) xs
  have hfn : a.isNone = true → xs.length = 0 := fun h => by rcases hs.flat (fun _ => rfl) (by omega) with ⟨q, _⟩ | ⟨b, off, rfl, _⟩ <;> first | exact q | cases h
  refine ac_of Try.func35 rfl rfl rfl ?_
  refine aw_seq_region ?_
  refine sr_as ?_
  refine sr_nil ?_
  refine aw_kp [0, 2] ?_
  refine aw_seq ?_
  refine aw_seq_region ?_
  refine sr_mv ?_
  refine sr_rd (x_eqnils Try.underlying50 rfl rfl) ?_
  refine sr_nil ?_
  refine aw_kp [0, 2, 4] ?_
  refine aw_cond rfl (fun hb1 => ?_) (fun hb1 => ?_)
  · refine aw_seq_region ?_
    refine sr_as ?_
    refine sr_nil ?_
    refine aw_kp [0, 2] ?_
    refine aw_ret ?_
    show ∃ v H2, ResV _ _ _ _ _ _ v ∧ Sub H2 _ ∧ _
    first | (rw [Nat.zero_add, List.nil_append] at hV7; obtain ⟨a7, cap7, rfl⟩ := hV7.isSl; exact ⟨_, E7 ++ H, resV rfl (.cons rfl .nil), (Sub.refl _), E7, ⟨a7, cap7, hV7, rfl⟩, rfl⟩) | (have hz := hfn (by assumption); have hj0 : xs = [] := List.length_eq_zero_iff.1 hz; subst hj0; exact ⟨_, [] ++ H, resV rfl (.cons rfl .nil), (Sub.refl _), [], ⟨none, 0, .nil, rfl⟩, rfl⟩)
  · refine aw_skip ?_
    show AW _ _ _ _ _ _ _
    refine aw_seq_region ?_
    refine sr_new rfl (wtd_none rfl) rfl (x_buildSlice0 Try.underlying50 sz3 rfl) ?_
    intro r3_0 hr3_0 gr3_0
    refine sr_mv ?_
    refine sr_d rfl (wtd_none rfl) rfl (opS_append (G := H) (N := xs.flatMap intC) (m := xs.length) Try.underlying50 sz3 zr3 rfl by3 rfl rfl (OwnVec.mk (r := r3_0) (n := 0) (cap := 0) (L := []) (post := []) rfl rfl (by omega) (by omega)) Sub.autoP (((hs.mono (by repeat (first | exact Sub.refl _ | apply Sub.drop))).flat (fun _ => rfl) (by omega))) (hfl) (all_oneI xs) (by omega) (by omega)) ?_
    rintro v7 _ ⟨E7, hV7, rfl⟩
    refine sr_as ?_
    refine sr_nil ?_
    refine aw_kp [2] ?_
    refine aw_ret ?_
    show ∃ v H2, ResV _ _ _ _ _ _ v ∧ Sub H2 _ ∧ _
    first | (rw [Nat.zero_add, List.nil_append] at hV7; obtain ⟨a7, cap7, rfl⟩ := hV7.isSl; exact ⟨_, E7 ++ H, resV rfl (.cons rfl .nil), (Sub.refl _), E7, ⟨a7, cap7, hV7, rfl⟩, rfl⟩) | (have hz := hfn (by assumption); have hj0 : xs = [] := List.length_eq_zero_iff.1 hz; subst hj0; exact ⟨_, [] ++ H, resV rfl (.cons rfl .nil), (Sub.refl _), [], ⟨none, 0, .nil, rfl⟩, rfl⟩)
set_option maxRecDepth 100000 in
set_option maxHeartbeats 4000000 in
theorem glayers_s (P : Value) (C : SHeap) (E : List DEdge) (hW : WtsK W0 C P E) (hD : DgI E) (a : Option Addr) (cap : Nat) (I : List Int) (H : SHeap) (hC : Sub C H) (hs : SlV W0 H 1 intC a cap I) (hl : I.length ≤ 30) : AC Try.prog W0 23 [P, .slice a I.length cap] H (fun v H' => ∃ (X : List Int) (Ls : List (List Int)) (ds : List SlD) (a' : Option Addr) (c' : Nat) (Eo Ei : SHeap), v = .slice a' ds.length c' ∧ Tms I X ∧ LayR E X Ls ∧ Ls.length ≤ 30 ∧ Inn Ls ds Ei ∧ OwnVec 1 50 (.slice a' ds.length c') ds.length (ds.flatMap slC) Eo ∧ H' = Eo ++ (Ei ++ H)) := by
  have hle := hs.le
  have hcb := hs.capb
  refine ac_of Try.func23 rfl rfl rfl ?_
  refine aw_seq_region ?_
  refine sr_as ?_
  refine sr_nil ?_
  refine aw_kp [0, 1, 4] ?_
  refine aw_seq_region ?_
  refine sr_mv ?_
  refine sr_d rfl (wtd_none rfl) rfl (opS_call rfl rfl rfl rfl cl35 (iclone_s a cap I _ hs (by omega))) ?_
  rintro _ _ ⟨E2, ⟨a2, c2, V2, rfl⟩, rfl⟩
  refine sr_new rfl (wtd_none rfl) rfl (x_alloc zr50 rfl) ?_
  intro r1_2 hr1_2 gr1_2
  refine sr_x0 rfl (wtd_none rfl) (x_store sz50 rfl rfl rfl rfl rfl Repl.auto Spl.auto) ?_
  refine sr_nil ?_
  refine aw_kp [0, 4, 5] ?_
  refine aw_seq_region ?_
  refine sr_rd (x_load ag50 rfl (cells_ext mauto Ext.auto)) ?_
  refine sr_d rfl (wtd_none rfl) rfl (opS_call rfl rfl rfl rfl cl34 (AC.sub Sub.autoP (mV_s a2 c2 I.length I E2 ((r1_2, .cells [.slice a2 I.length c2].toArray 50 (0, 0)) :: H) V2 rfl (by omega)))) ?_
  rintro _ _ ⟨W9, E9, ⟨hp9, hs9⟩, rfl, V9, rfl⟩
  refine sr_nil ?_
  refine aw_kp [0, 4, 5] ?_
  refine aw_seq_region ?_
  refine sr_rd (x_load ag50 rfl (cells_ext mauto Ext.auto)) ?_
  refine sr_d rfl (wtd_none rfl) rfl (opS_call rfl rfl rfl rfl cl36 (mCpt_s a2 I.length c2 W9 E9 ((r1_2, .cells [.slice a2 I.length c2].toArray 50 (0, 0)) :: H) V9.off hp9.length_eq (by omega))) ?_
  rintro _ _ ⟨k3, E3, rfl, rfl, V3, rfl⟩
  have hT := srt_tms0 hp9 (sri_pw hs9 hp9.length_eq)
  have hTl := hT.len
  generalize cpt eqI W9 = X at V3 hT hTl ⊢
  refine sr_x0 rfl (wtd_none rfl) (x_store sz50 rfl rfl rfl rfl rfl Repl.auto Spl.auto) ?_
  refine sr_nil ?_
  refine aw_kp [0, 4, 5] ?_
  refine aw_seq_region ?_
  refine sr_as ?_
  refine sr_nil ?_
  refine aw_kp [0, 4, 5, 6] ?_
  refine aw_seq ?_
  refine aw_block ?_
  refine aw_loop (ι := LyG) (fun s => (∀ Lt, LayR E s.L Lt → LayR E X (s.Ls ++ Lt)) ∧ s.Ls.length + s.L.length ≤ 30 ∧ Inn s.Ls s.ds s.Ei ∧ OffVec 1 3 (.slice s.a s.L.length s.c) s.L.length (s.L.flatMap intC) s.E1 ∧ OwnVec 1 50 (.slice s.ao s.ds.length s.co) s.ds.length (s.ds.flatMap slC) s.Eo) (fun s => [(0, P), (5, .pointer (some ⟨r1_2, 0, none⟩)), (6, .slice s.ao s.ds.length s.co)]) (fun s => (r1_2, .cells [.slice s.a s.L.length s.c].toArray 50 (0, 0)) :: (s.E1 ++ (s.Eo ++ (s.Ei ++ H)))) (fun s => s.L.length) ⟨X, a2, c2, E3, [], [], none, 0, [], []⟩ (⟨fun Lt h => h, by dsimp only [List.length_nil]; omega, .nil, V3, .nil⟩) KeepF.auto Sub.autoP ?_
  intro s hs9
  obtain ⟨L, a1, c1, E1, Ls, ds, ao, co, Eo, Ei⟩ := s
  dsimp only at hs9 ⊢
  obtain ⟨hY, hLl, hI, V1, Vo⟩ := hs9
  have hs1 := V1.slv' (W0 := W0) (fun _ => rfl) rfl (Sub.refl _)
  have hle1 := hs1.le
  have hcb1 := hs1.capb
  have hIl := hI.len
  refine aw_seq ?_
  refine aw_seq_region ?_
  refine sr_rd (x_load ag50 rfl (cells_ext mauto Ext.auto)) ?_
  refine sr_rd (x_lenSlice Try.underlying50 rfl) ?_
  refine sr_c (x_gt rfl rfl) (fun h1 => ?_) (fun h1 => ?_)
  · refine sr_nil ?_
    refine aw_kp [0, 5, 6, 17, 18, 19] ?_
    refine aw_true rfl ?_
    refine aw_skip ?_
    show AW _ _ _ _ _ _ _
    refine aw_block ?_
    refine aw_seq_region ?_
    refine sr_as ?_
    refine sr_as ?_
    refine sr_nil ?_
    refine aw_kp [0, 5, 6, 7, 8, 17, 18, 19] ?_
    refine aw_seq ?_
    refine aw_seq_region ?_
    refine sr_rd (x_load ag50 rfl (cells_ext mauto Ext.auto)) ?_
    refine sr_rd (x_lenSlice Try.underlying50 rfl) ?_
    refine sr_mv ?_
    refine sr_nil ?_
    refine aw_kp [0, 5, 6, 7, 8, 17, 18, 19, 20, 21, 22] ?_
    refine aw_block ?_
    refine aw_loop (ι := NtG) (fun s => s.k ≤ L.length ∧ s.A = (L.take s.k).filter (fun x => !mst E L x) ∧ s.B = (L.take s.k).filter (mst E L) ∧ OwnVec 1 3 (.slice s.a1 s.A.length s.c1) s.A.length (s.A.flatMap intC) s.E1 ∧ OwnVec 1 3 (.slice s.a2 s.B.length s.c2) s.B.length (s.B.flatMap intC) s.E2) (fun s => [(0, P), (5, .pointer (some ⟨r1_2, 0, none⟩)), (6, .slice ao ds.length co), (7, .slice s.a1 s.A.length s.c1), (8, .slice s.a2 s.B.length s.c2), (20, .slice a1 L.length c1), (21, .int .i64 L.length), (22, .int .i64 s.k)]) (fun s => s.E1 ++ (s.E2 ++ ((r1_2, .cells [.slice a1 L.length c1].toArray 50 (0, 0)) :: (E1 ++ (Eo ++ (Ei ++ H)))))) (fun s => L.length - s.k) ⟨0, [], none, 0, [], [], none, 0, []⟩ (⟨Nat.zero_le _, rfl, rfl, .nil, .nil⟩) KeepF.auto Sub.autoP ?_
    intro s hs9
    obtain ⟨k, A, b1, d1, F1, B, b2, d2, F2⟩ := s
    dsimp only at hs9 ⊢
    obtain ⟨hk, hA, hB, VA, VB⟩ := hs9
    have hAl : A.length ≤ k := by (rw [hA]; have := List.length_filter_le (fun x => !mst E L x) (L.take k); rw [List.length_take] at this; omega)
    have hBl : B.length ≤ k := by (rw [hB]; have := List.length_filter_le (mst E L) (L.take k); rw [List.length_take] at this; omega)
    refine aw_seq_region ?_
    refine sr_c (x_lt rfl rfl) (fun h2 => ?_) (fun h2 => ?_)
    · refine sr_nil ?_
      refine aw_kp [0, 5, 6, 7, 8, 20, 21, 22, 23] ?_
      refine aw_seq ?_
      refine aw_true rfl ?_
      refine aw_skip ?_
      show AW _ _ _ _ _ _ _
      refine aw_seq ?_
      refine aw_block ?_
      refine aw_seq_region ?_
      obtain ⟨x, hx⟩ := get_ex (show k < L.length by omega)
      obtain ⟨bi, oi, hai, hci⟩ := hs1.at_ _ _ hx
      refine sr_rd (x_indexAddrN (k) Try.underlying50 sz3 rfl hai rfl (by omega) (by omega)) ?_
      refine sr_rd (x_load ag3 rfl (cells_get (Cells.mono hci Sub.autoE) 0 rfl)) ?_
      refine sr_as ?_
      refine sr_nil ?_
      refine aw_kp [0, 5, 6, 7, 8, 10, 20, 21, 22, 23, 24, 25] ?_
      refine aw_seq_region ?_
      refine sr_mv ?_
      refine sr_mv ?_
      refine sr_d rfl (wtd_none rfl) rfl (opS_call rfl rfl rfl rfl cl19 (hW _ (hC.trans Sub.autoR) x)) ?_
      rintro _ _ ⟨W, a8, c8, E8, rfl, hT8, hl8, V8, rfl⟩
      refine sr_rd (x_makeFunc rfl rfl) ?_
      refine sr_d rfl (wtd_none rfl) rfl (opS_call rfl rfl rfl rfl cl37 (lcon_s r1_2 a1 c1 L _ (cells_ext mauto Ext.auto) (V1.slv' (fun _ => rfl) rfl Sub.autoE) a8 c8 W (V8.slv' (fun _ => rfl) rfl Sub.autoE))) ?_
      rintro _ _ ⟨rfl, rfl⟩
      rw [tms_any hT8]
      generalize hd : mst E L x = d1
      cases d1
      · refine sr_nil ?_
        refine aw_kp [0, 5, 6, 7, 8, 10, 20, 21, 22, 23, 24, 25, 26, 27, 28, 29, 30] ?_
        refine aw_false rfl ?_
        refine aw_region ?_
        refine sr_mv ?_
        refine sr_mv ?_
        refine sr_new rfl (wtd_none rfl) rfl (x_buildSlice Try.underlying50 sz3 zr3 rfl rfl rfl rfl Parts.auto Fill.auto) ?_
        intro r12_2 hr12_2 gr12_2
        refine sr_d rfl (wtd_none rfl) rfl (opS_append (G := (r12_2, .cells [.int .i64 x].toArray 3 (0, 0)) :: (E8 ++ (F2 ++ ((r1_2, .cells [.slice a1 L.length c1].toArray 50 (0, 0)) :: (E1 ++ (Eo ++ (Ei ++ H))))))) (N := (intC x)) (m := 1) Try.underlying50 sz3 zr3 rfl by3 rfl rfl VA Sub.autoP (.inr ⟨_, _, rfl, (cells_ext mauto Ext.auto)⟩) (rfl) rfl (by omega) (by omega)) ?_
        rintro v38 _ ⟨E38, hV38, rfl⟩
        obtain ⟨a38, cap38, rfl⟩ := hV38.isSl
        refine sr_as ?_
        refine sr_nil ?_
        show AW _ _ _ _ _ _ _
        refine aw_region ?_
        refine sr_rd (x_add' rfl rfl (i64w (by omega) (by omega))) ?_
        refine sr_mv ?_
        refine sr_nil ?_
        show ∃ s', _ ∧ _ ∧ _ ∧ _
        first | exact ⟨⟨k + 1, A ++ [x], a38, cap38, E38, B, b2, d2, F2⟩, ⟨by dsimp only; omega, (by dsimp only; rw [filter_take1 hx, if_pos (by rw [hd]; rfl), hA]), (by dsimp only; rw [filter_take1 hx, if_neg (by rw [hd]; simp), List.append_nil, hB]), OwnVec.snocS hV38, VB⟩, by dsimp only; omega, (by rw [List.length_append]; exact KeepF.auto), Sub.autoD⟩ | exact ⟨⟨k + 1, A, b1, d1, F1, B ++ [x], a34, cap34, E34⟩, ⟨by dsimp only; omega, (by dsimp only; rw [filter_take1 hx, if_neg (by rw [hd]; simp), List.append_nil, hA]), (by dsimp only; rw [filter_take1 hx, if_pos hd, hB]), VA, OwnVec.snocS hV34⟩, by dsimp only; omega, (by rw [List.length_append]; exact KeepF.auto), Sub.autoD⟩
      · refine sr_nil ?_
        refine aw_kp [0, 5, 6, 7, 8, 10, 20, 21, 22, 23, 24, 25, 26, 27, 28, 29, 30] ?_
        refine aw_true rfl ?_
        refine aw_region ?_
        refine sr_mv ?_
        refine sr_mv ?_
        refine sr_new rfl (wtd_none rfl) rfl (x_buildSlice Try.underlying50 sz3 zr3 rfl rfl rfl rfl Parts.auto Fill.auto) ?_
        intro r11_2 hr11_2 gr11_2
        refine sr_d rfl (wtd_none rfl) rfl (opS_append (G := (r11_2, .cells [.int .i64 x].toArray 3 (0, 0)) :: (E8 ++ (F1 ++ ((r1_2, .cells [.slice a1 L.length c1].toArray 50 (0, 0)) :: (E1 ++ (Eo ++ (Ei ++ H))))))) (N := (intC x)) (m := 1) Try.underlying50 sz3 zr3 rfl by3 rfl rfl VB Sub.autoP (.inr ⟨_, _, rfl, (cells_ext mauto Ext.auto)⟩) (rfl) rfl (by omega) (by omega)) ?_
        rintro v34 _ ⟨E34, hV34, rfl⟩
        obtain ⟨a34, cap34, rfl⟩ := hV34.isSl
        refine sr_as ?_
        refine sr_nil ?_
        show AW _ _ _ _ _ _ _
        refine aw_region ?_
        refine sr_rd (x_add' rfl rfl (i64w (by omega) (by omega))) ?_
        refine sr_mv ?_
        refine sr_nil ?_
        show ∃ s', _ ∧ _ ∧ _ ∧ _
        first | exact ⟨⟨k + 1, A ++ [x], a38, cap38, E38, B, b2, d2, F2⟩, ⟨by dsimp only; omega, (by dsimp only; rw [filter_take1 hx, if_pos (by rw [hd]; rfl), hA]), (by dsimp only; rw [filter_take1 hx, if_neg (by rw [hd]; simp), List.append_nil, hB]), OwnVec.snocS hV38, VB⟩, by dsimp only; omega, (by rw [List.length_append]; exact KeepF.auto), Sub.autoD⟩ | exact ⟨⟨k + 1, A, b1, d1, F1, B ++ [x], a34, cap34, E34⟩, ⟨by dsimp only; omega, (by dsimp only; rw [filter_take1 hx, if_neg (by rw [hd]; simp), List.append_nil, hA]), (by dsimp only; rw [filter_take1 hx, if_pos hd, hB]), VA, OwnVec.snocS hV34⟩, by dsimp only; omega, (by rw [List.length_append]; exact KeepF.auto), Sub.autoD⟩
    · refine sr_nil ?_
      refine aw_kp [0, 5, 6, 7, 8, 20, 21, 22, 23] ?_
      refine aw_seq ?_
      refine aw_false rfl ?_
      refine aw_exit ?_
      show AW _ _ _ _ _ _ _
      refine aw_region ?_
      rw [List.take_of_length_le (by omega)] at hA hB
      have hnn := now_ne hD (show 0 < L.length by omega)
      have hnt := now_thn E L
      have hA3 : A = nowL E L := hA
      have hB3 : B = thnL E L := hB
      have hA2 : A.length = (nowL E L).length := congrArg List.length hA
      have hB2 : B.length = (thnL E L).length := congrArg List.length hB
      refine sr_mv ?_
      refine sr_mv ?_
      refine sr_new rfl (wtd_none rfl) rfl (x_buildSlice Try.underlying57 sz50 zr50 rfl rfl rfl rfl Parts.auto Fill.auto) ?_
      intro r14_2 hr14_2 gr14_2
      refine sr_d rfl (wtd_none rfl) rfl (opS_append (G := (r14_2, .cells [.slice b1 A.length d1].toArray 50 (0, 0)) :: (F1 ++ (F2 ++ ((r1_2, .cells [.slice a1 L.length c1].toArray 50 (0, 0)) :: (E1 ++ (Ei ++ H)))))) (N := (slC ⟨b1, A.length, d1⟩)) (m := 1) Try.underlying57 sz50 zr50 rfl by50 rfl rfl Vo Sub.autoP (.inr ⟨_, _, rfl, (cells_ext mauto Ext.auto)⟩) (rfl) rfl (by omega) (by omega)) ?_
      rintro v43 _ ⟨E43, hV43, rfl⟩
      obtain ⟨a43, cap43, rfl⟩ := hV43.isSl
      refine sr_mv ?_
      refine sr_as ?_
      refine sr_x0 rfl (wtd_none rfl) (x_store sz50 rfl rfl rfl rfl rfl Repl.auto Spl.auto) ?_
      refine sr_nil ?_
      show ∃ s', _ ∧ _ ∧ _ ∧ _
      exact ⟨⟨B, b2, d2, F2, Ls ++ [A], ds ++ [⟨b1, A.length, d1⟩], a43, cap43, E43, F1 ++ Ei⟩, ⟨fun Lt h => by (have := hY (nowL E L :: Lt) (.cons (by omega) (by rw [← hB3]; exact h))); dsimp only; rw [List.append_assoc, hA3]; exact this, by dsimp only; rw [List.length_append]; dsimp only [List.length_cons, List.length_nil]; omega, hI.snoc VA, VB.off, OwnVec.snocS hV43⟩, by dsimp only; omega, (by rw [List.length_append]; exact KeepF.auto), (by dsimp only; rw [List.append_assoc F1 Ei H]; exact Sub.autoP)⟩
  · refine sr_nil ?_
    refine aw_kp [0, 5, 6, 17, 18, 19] ?_
    refine aw_false rfl ?_
    refine aw_exit ?_
    show AW _ _ _ _ _ _ _
    refine aw_seq_region ?_
    refine sr_mv ?_
    refine sr_as ?_
    refine sr_nil ?_
    refine aw_kp [4] ?_
    refine aw_ret ?_
    show ∃ v H2, ResV _ _ _ _ _ _ v ∧ Sub H2 _ ∧ _
    exact ⟨_, _, resV rfl (.cons rfl .nil), Sub.autoP, ⟨X, Ls, ds, ao, co, Eo, Ei, rfl, hT, (by have := hY [] (by rw [List.length_eq_zero_iff.1 (show L.length = 0 by omega)]; exact .nil); rwa [List.append_nil] at this), by omega, hI, Vo, rfl⟩⟩
end
end Go.Proofs.Ytonpnkekcipmlaa
