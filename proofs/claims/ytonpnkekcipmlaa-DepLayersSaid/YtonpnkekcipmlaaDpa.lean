/- Graphs: the law's own functions. -/
import Derived.Test.YtonpnkekcipmlaaPdmc
import Derived.Test.YtonpnkekcipmlaaDepLaw
namespace Go.Proofs.Ytonpnkekcipmlaa
open Go.Proofs.Ytonpnkekcipmlaa.Sym
open Go.RowKit (Below)
set_option linter.unusedVariables false
set_option linter.unusedSimpArgs false
structure IvG where
  k : Nat
  X : List Int
  a : Option Addr
  c : Nat
  E : SHeap
structure BvG where
  i : Nat
  best : Int
  is : Bool
structure EvG where
  k : Nat
  X : List DEdge
  a : Option Addr
  c : Nat
  E : SHeap
theorem all_oneE (xs : List DEdge) : (xs.flatMap DEdge.cells).all oneCell = true := all_flat (fun _ => rfl) xs
theorem all_oneI (xs : List Int) : (xs.flatMap intC).all oneCell = true := all_flat (fun _ => rfl) xs
/-- The least of those that are not yet in X. -/
def BsI (L X : List Int) (i : Nat) (b : Int) (is : Bool) : Prop := (is = false → ∀ y ∈ L.take i, y ∈ X) ∧ (is = true → b ∈ L.take i ∧ b ∉ X ∧ ∀ y ∈ L.take i, y ∉ X → b ≤ y)
theorem BsI.start {L X : List Int} : BsI L X 0 0 false := ⟨fun _ y h => (by simp at h), fun h => (by cases h)⟩
theorem mem_take1 {L : List Int} {i : Nat} {x y : Int} (hx : L[i]? = some x) : y ∈ L.take (i + 1) ↔ y ∈ L.take i ∨ y = x := by
  rw [takeS hx, List.mem_append, List.mem_singleton]
theorem BsI.skip {L X : List Int} {i : Nat} {b x : Int} {is : Bool} (h : BsI L X i b is) (hx : L[i]? = some x) (hn : x ∈ X ∨ (is = true ∧ ¬ x < b)) : BsI L X (i + 1) b is := by
  refine ⟨fun e y hy => ?_, fun e => ?_⟩
  · rcases (mem_take1 hx).1 hy with q | rfl
    · exact h.1 e y q
    · rcases hn with q | ⟨q, _⟩
      · exact q
      · rw [e] at q; cases q
  · obtain ⟨h1, h2, h3⟩ := h.2 e
    refine ⟨(mem_take1 hx).2 (.inl h1), h2, fun y hy hyX => ?_⟩
    rcases (mem_take1 hx).1 hy with q | rfl
    · exact h3 y q hyX
    · rcases hn with q | ⟨_, q⟩
      · exact absurd q hyX
      · omega
theorem BsI.put {L X : List Int} {i : Nat} {b x : Int} {is : Bool} (h : BsI L X i b is) (hx : L[i]? = some x) (h1 : x ∉ X) (h2 : is = false ∨ x < b) : BsI L X (i + 1) x true := by
  refine ⟨fun e => (by cases e), fun _ => ⟨(mem_take1 hx).2 (.inr rfl), h1, fun y hy hyX => ?_⟩⟩
  rcases (mem_take1 hx).1 hy with q | rfl
  · cases is with
    | false => exact absurd (h.1 rfl y q) hyX
    | true =>
      have := (h.2 rfl).2.2 y q hyX
      rcases h2 with h2 | h2
      · cases h2
      · omega
  · exact Int.le_refl _
theorem filter_less {p q : Int → Bool} {b : Int} (hpq : ∀ x, p x = true → q x = true) (hq : q b = true) (hp : p b = false) : ∀ {L : List Int}, b ∈ L → (L.filter p).length < (L.filter q).length
  | [], h => by cases h
  | x :: L, h => by
    have le : ∀ l : List Int, (l.filter p).length ≤ (l.filter q).length := by
      intro l
      induction l with
      | nil => exact Nat.le_refl _
      | cons y l ih =>
        cases hy : p y with
        | false => rw [List.filter_cons_of_neg (by simp [hy])]; cases hz : q y with
          | false => rw [List.filter_cons_of_neg (by simp [hz])]; exact ih
          | true => rw [List.filter_cons_of_pos hz, List.length_cons]; omega
        | true => rw [List.filter_cons_of_pos hy, List.filter_cons_of_pos (hpq y hy), List.length_cons, List.length_cons]; omega
    rw [List.mem_cons] at h
    rcases h with rfl | h
    · rw [List.filter_cons_of_neg (by simp [hp]), List.filter_cons_of_pos hq, List.length_cons]
      have := le L
      omega
    · have := filter_less hpq hq hp h
      cases hx : p x with
      | false => rw [List.filter_cons_of_neg (by simp [hx])]; cases hz : q x with
        | false => rw [List.filter_cons_of_neg (by simp [hz])]; exact this
        | true => rw [List.filter_cons_of_pos hz, List.length_cons]; omega
      | true => rw [List.filter_cons_of_pos hx, List.filter_cons_of_pos (hpq x hx), List.length_cons, List.length_cons]; omega
structure SdI (L X : List Int) (k : Nat) : Prop where
  asc : X.Pairwise (· < ·)
  sub : ∀ x ∈ X, x ∈ L
  lo : ∀ x ∈ X, ∀ y ∈ L, y ∉ X → x < y
  cnt : (∀ y ∈ L, y ∈ X) ∨ (L.filter (fun y => decide (y ∉ X))).length + k ≤ L.length
  len : X.length ≤ k
theorem SdI.start {L : List Int} : SdI L [] 0 := ⟨.nil, fun x h => (by cases h), fun x h => (by cases h), .inr (List.length_filter_le _ _), Nat.le_refl _⟩
theorem SdI.stop {L X : List Int} {k : Nat} {b : Int} (h : SdI L X k) (hb : BsI L X L.length b false) : SdI L X (k + 1) :=
  ⟨h.asc, h.sub, h.lo, .inl fun y hy => hb.1 rfl y (by rw [List.take_of_length_le (Nat.le_refl _)]; exact hy), by have := h.len; omega⟩
theorem SdI.push {L X : List Int} {k : Nat} {b : Int} (h : SdI L X k) (hb : BsI L X L.length b true) : SdI L (X ++ [b]) (k + 1) := by
  obtain ⟨h1, h2, h3⟩ := hb.2 rfl
  rw [List.take_of_length_le (Nat.le_refl _)] at h1 h3
  refine ⟨?_, ?_, ?_, ?_, by rw [List.length_append]; simp; exact h.len⟩
  · rw [List.pairwise_append]
    refine ⟨h.asc, by simp, fun x hx y hy => ?_⟩
    simp at hy; rw [hy]
    exact h.lo x hx b h1 h2
  · intro x hx
    rw [List.mem_append] at hx
    rcases hx with q | q
    · exact h.sub x q
    · simp at q; rw [q]; exact h1
  · intro x hx y hy hn
    rw [List.mem_append, not_or] at hn
    rw [List.mem_append] at hx
    rcases hx with q | q
    · exact h.lo x q y hy hn.1
    · simp at q hn; rw [q]
      have := h3 y hy hn.1
      have := hn.2
      omega
  · rcases h.cnt with q | q
    · exact absurd (q b h1) h2
    · right
      have := filter_less (p := fun y => decide (y ∉ X ++ [b])) (q := fun y => decide (y ∉ X)) (b := b) (fun x hx => by simp at hx ⊢; exact hx.1) (by simpa using h2) (by simp) h1
      omega
theorem SdI.done {L X : List Int} {k : Nat} (h : SdI L X k) (hk : L.length ≤ k) : Tms L X := by
  refine ⟨h.asc, fun t => ⟨h.sub t, fun ht => ?_⟩⟩
  rcases h.cnt with q | q
  · exact q t ht
  · have h0 : (L.filter (fun y => decide (y ∉ X))).length = 0 := by omega
    have := List.length_eq_zero_iff.1 h0
    rw [List.filter_eq_nil_iff] at this
    have := this t ht
    simpa using this
theorem nodup_ins {X : List Int} {v : Int} (h : v ∉ X) : v :: X ≠ X := fun e => by have := congrArg List.length e; simp at this
theorem ext_upto {X Y : List Int} (hl : X.length = Y.length) {k : Nat} (hk : X.length ≤ k) (h : ∀ j, j < k → X[j]? = Y[j]?) : X = Y := by
  apply List.ext_getElem?
  intro j
  rcases Nat.lt_or_ge j k with q | q
  · exact h j q
  · rw [List.getElem?_eq_none (by omega), List.getElem?_eq_none (by omega)]
theorem exI {P : Nat → Prop} {k : Nat} {p : Nat → Prop} (h : ∀ j, j < k → p j) (hk : p k) : ∀ j, j < k + 1 → p j := fun j hj => (Nat.lt_or_eq_of_le (Nat.le_of_lt_succ hj)).elim (h j) fun e => e ▸ hk
/-- What reach tells: a list of one's own. -/
def ReachV (E : List DEdge) (f : Int) (v : Value) (E' : SHeap) : Prop := ∃ (X : List Int) (a' : Option Addr) (c' : Nat), v = .slice a' X.length c' ∧ (∀ x, x ∈ X ↔ Rch E f x) ∧ X.length ≤ E.length + 1 ∧ OwnVec 1 3 (.slice a' X.length c') X.length (X.flatMap intC) E'
theorem rch_mem {E : List DEdge} {a b : Int} (h : Rch E a b) : b = a ∨ ∃ e ∈ E, e.for_ = b := by
  induction h with
  | refl => exact .inl rfl
  | step he _ ih =>
    right
    rcases ih with q | q
    · exact ⟨_, he, q.symm⟩
    · exact q
theorem reach_ex (E : List DEdge) (f : Int) : ∃ X : List Int, (∀ x, x ∈ X ↔ Rch E f x) ∧ X.length ≤ E.length + 1 := by
  classical
  refine ⟨(f :: E.map DEdge.for_).filter (fun x => decide (Rch E f x)), fun x => ?_, ?_⟩
  · rw [List.mem_filter]
    constructor
    · intro h; simpa using h.2
    · intro h
      refine ⟨?_, by simpa using h⟩
      rcases rch_mem h with q | ⟨e, he, q⟩
      · rw [q]; exact List.mem_cons_self
      · exact List.mem_cons_of_mem _ (List.mem_map.2 ⟨e, he, q⟩)
  · refine Nat.le_trans (List.length_filter_le _ _) ?_
    simp
theorem reach_fresh {W0 : World} {E : List DEdge} {f : Int} (hl : E.length ≤ 1000) : FreshE W0 (ReachV E f) := by
  intro Ls
  obtain ⟨X, h1, h2⟩ := reach_ex E f
  obtain ⟨v, E', ⟨a2, c2, V, rfl⟩, h4⟩ := ownvec_freshE (W0 := W0) (size := 1) (e := 3) (n := X.length) (L := X.flatMap intC) (by rw [flat_len (n := 1) (fun _ => rfl)]) (by omega) Ls
  exact ⟨_, E', ⟨X, a2, c2, rfl, h1, h2, V⟩, h4⟩
structure LdG where
  seen : List Int
  es : List MapEntry
  clk : Nat
  todo : List Int
  a : Option Addr
  c : Nat
  E : SHeap
/-- The map of those that were seen. -/
structure SnI (seen : List Int) (es : List MapEntry) : Prop where
  keys : IntKeys .i64 es
  mem : ∀ x, (mget x es).getD (.bool false) = .bool (decide (x ∈ seen))
theorem SnI.nil : SnI [] [] := ⟨.nil, fun x => rfl⟩
theorem SnI.put {seen : List Int} {es : List MapEntry} {x : Int} {clk : Nat} (h : SnI seen es) : SnI (x :: seen) (mset .i64 x (.bool true) clk es) := by
  refine ⟨h.keys.set, fun y => ?_⟩
  rw [mget_set]
  by_cases e : y = x
  · rw [if_pos e, e]; simp
  · rw [if_neg e, h.mem y]; simp [e]
theorem snoc_ex {α : Type} {l : List α} (h : 0 < l.length) : ∃ l' x, l = l' ++ [x] := ⟨l.dropLast, l.getLast (by intro e; subst e; simp at h), (List.dropLast_concat_getLast _).symm⟩
theorem ownPopI {X : List Int} {x : Int} {a : Option Addr} {c : Nat} {E : SHeap} (h : OwnVec 1 3 (.slice a (X ++ [x]).length c) (X ++ [x]).length ((X ++ [x]).flatMap intC) E) : OwnVec 1 3 (.slice a X.length c) X.length (X.flatMap intC) E := by
  obtain ⟨b, rfl, _⟩ := h.pos (by simp)
  obtain ⟨_, _, post, rfl, hL, hp, hn, hc⟩ := h.blk
  rw [List.length_append] at hn hp
  simp at hn hp
  rw [List.flatMap_append, List.append_assoc]
  exact .mk (flat_len (n := 1) (fun _ => rfl) _) (by simp [hp]; omega) (by omega) hc
def twE (y x : DEdge) : Bool := decide (x.job = y.job) && decide (x.for_ = y.for_)
theorem any_twE {E : List DEdge} {y : DEdge} : E.any (twE y) = true ↔ ∃ x ∈ E, x.job = y.job ∧ x.for_ = y.for_ := by
  simp [twE]
theorem not_any_twE {E : List DEdge} {y : DEdge} (h : E.any (twE y) = false) : ∀ x ∈ E, ¬ (x.job = y.job ∧ x.for_ = y.for_) := fun x hx q => by
  have := any_twE.2 ⟨x, hx, q⟩; rw [h] at this; cases this
@[reducible] def gB (p : Nat) (a : Option Addr) (n c : Nat) : Nat × Obj := (p, .cells [.slice a n c, .bool true].toArray 62 (0, 0))
theorem by3 : bytesOf Try.prog 3 = some 8 := by kernel_rfl
theorem cl16 : Callable Try.prog 16 := ⟨Try.f16, Try.func16, by kernel_rfl, by kernel_rfl⟩
theorem cl24 : Callable Try.prog 24 := ⟨Try.f24, Try.func24, by kernel_rfl, by kernel_rfl⟩
theorem fd46_0 : fldOf Try.prog 46 0 = some (0, 3, 1) := by kernel_rfl
theorem fd46_1 : fldOf Try.prog 46 1 = some (1, 3, 1) := by kernel_rfl
theorem sz46 : szOf Try.prog 46 = some 3 := by kernel_rfl
section
variable {W0 : World}
set_option maxRecDepth 100000 in
set_option maxHeartbeats 400000 in
theorem has_s (a : Option Addr) (cap : Nat) (X : List Int) (H : SHeap) (hs : SlV W0 H 1 intC a cap X) (n : Int) : AC Try.prog W0 16 [.slice a X.length cap, .int .i64 n] H (fun v H' => v = .bool (decide (n ∈ X)) ∧ H' = H) := by
  have hle := hs.le
  have hcb := hs.capb
  refine ac_of Try.func16 rfl rfl rfl ?_
  refine aw_seq_region ?_
  refine sr_as ?_
  refine sr_nil ?_
  refine aw_kp [0, 1, 4] ?_
  refine aw_seq ?_
  refine aw_seq_region ?_
  refine sr_as ?_
  refine sr_nil ?_
  refine aw_kp [0, 1, 4, 5] ?_
  refine aw_block ?_
  refine aw_loop (ι := Nat) (fun k => k ≤ X.length ∧ n ∉ X.take k) (fun k => [(0, .slice a X.length cap), (1, .int .i64 n), (5, .int .i64 k)]) (fun _ => H) (fun k => X.length - k) 0 (⟨Nat.zero_le _, by simp⟩) KeepF.auto Sub.autoP ?_
  intro k hk9
  obtain ⟨hk, hno⟩ := hk9
  refine aw_seq ?_
  refine aw_seq_region ?_
  refine sr_mv ?_
  refine sr_mv ?_
  refine sr_rd (x_lenSlice Try.underlying50 rfl) ?_
  refine sr_c (x_lt rfl rfl) (fun h1 => ?_) (fun h1 => ?_)
  · refine sr_nil ?_
    refine aw_kp [0, 1, 5, 6, 7, 8, 9] ?_
    refine aw_true rfl ?_
    refine aw_skip ?_
    show AW _ _ _ _ _ _ _
    refine aw_seq ?_
    refine aw_block ?_
    refine aw_seq_region ?_
    obtain ⟨x, hx⟩ := get_ex (show k < X.length by omega)
    obtain ⟨bi, oi, hai, hci⟩ := hs.at_ _ _ hx
    refine sr_mv ?_
    refine sr_mv ?_
    refine sr_rd (x_indexAddrN (k) Try.underlying50 sz3 rfl hai rfl (by omega) (by omega)) ?_
    refine sr_rd (x_load ag3 rfl (cells_get (Cells.mono hci Sub.autoR) 0 rfl)) ?_
    refine sr_mv ?_
    refine sr_c (x_eq rfl rfl) (fun h2 => ?_) (fun h2 => ?_)
    · refine sr_nil ?_
      refine aw_kp [0, 1, 5, 6, 7, 8, 9, 12, 13, 14, 15, 16, 17] ?_
      refine aw_true rfl ?_
      refine aw_seq_region ?_
      refine sr_as ?_
      refine sr_nil ?_
      refine aw_kp [0, 1, 4, 5, 6, 7, 8, 9, 12, 13, 14, 15, 16, 17] ?_
      refine aw_ret ?_
      show ∃ v H2, ResV _ _ _ _ _ _ v ∧ Sub H2 _ ∧ _
      first | (rw [List.take_of_length_le (by omega)] at hno; exact ⟨_, H, resV rfl (.cons rfl .nil), Sub.refl _, congrArg Value.bool (decide_eq_false hno).symm, rfl⟩) | exact ⟨_, H, resV rfl (.cons rfl .nil), Sub.refl _, congrArg Value.bool (decide_eq_true (by (have := List.mem_of_getElem? hx); (obtain rfl : x = n := by omega); exact this)).symm, rfl⟩
    · refine sr_nil ?_
      refine aw_kp [0, 1, 5, 6, 7, 8, 9, 12, 13, 14, 15, 16, 17] ?_
      refine aw_false rfl ?_
      refine aw_skip ?_
      show AW _ _ _ _ _ _ _
      refine aw_region ?_
      refine sr_mv ?_
      refine sr_rd (x_add' rfl rfl (i64w (by omega) (by omega))) ?_
      refine sr_as ?_
      refine sr_nil ?_
      show ∃ s', _ ∧ _ ∧ _ ∧ _
      exact ⟨k + 1, ⟨by omega, fun q => by rcases (mem_take1 hx).1 q with q | q; (exact hno q); omega⟩, by omega, KeepF.auto, Sub.autoR⟩
  · refine sr_nil ?_
    refine aw_kp [0, 1, 5, 6, 7, 8, 9] ?_
    refine aw_false rfl ?_
    refine aw_exit ?_
    show AW _ _ _ _ _ _ _
    refine aw_seq_region ?_
    refine sr_as ?_
    refine sr_nil ?_
    refine aw_kp [4] ?_
    refine aw_ret ?_
    show ∃ v H2, ResV _ _ _ _ _ _ v ∧ Sub H2 _ ∧ _
    first | (rw [List.take_of_length_le (by omega)] at hno; exact ⟨_, H, resV rfl (.cons rfl .nil), Sub.refl _, congrArg Value.bool (decide_eq_false hno).symm, rfl⟩) | exact ⟨_, H, resV rfl (.cons rfl .nil), Sub.refl _, congrArg Value.bool (decide_eq_true (by (have := List.mem_of_getElem? hx); (obtain rfl : x = n := by omega); exact this)).symm, rfl⟩
set_option maxRecDepth 100000 in
set_option maxHeartbeats 1000000 in
theorem reach_s (a : Option Addr) (cap : Nat) (E : List DEdge) (H : SHeap) (hs : SlV W0 H 3 DEdge.cells a cap E) (hl : E.length ≤ 1000) (f : Int) : AC Try.prog W0 17 [.slice a E.length cap, .int .i64 f] H (fun v H' => ∃ E' : SHeap, ReachV E f v E' ∧ H' = E' ++ H) := by
  have hle := hs.le
  have hcb := hs.capb
  refine ac_of Try.func17 rfl rfl rfl ?_
  refine aw_seq_region ?_
  refine sr_as ?_
  refine sr_nil ?_
  refine aw_kp [0, 1, 4] ?_
  refine aw_seq_region ?_
  refine sr_mv ?_
  refine sr_new rfl (wtd_none rfl) rfl (x_buildSlice Try.underlying50 sz3 zr3 rfl rfl rfl rfl Parts.auto Fill.auto) ?_
  intro r1_1 hr1_1 gr1_1
  refine sr_as ?_
  refine sr_nil ?_
  refine aw_kp [0, 4, 5] ?_
  refine aw_seq ?_
  refine aw_seq_region ?_
  refine sr_as ?_
  refine sr_nil ?_
  refine aw_kp [0, 4, 5, 6] ?_
  refine aw_block ?_
  refine aw_loop (ι := IvG) (fun s => s.k ≤ E.length + 1 ∧ RdI E f s.k s.X ∧ OwnVec 1 3 (.slice s.a s.X.length s.c) s.X.length (s.X.flatMap intC) s.E) (fun s => [(0, .slice a E.length cap), (5, .slice s.a s.X.length s.c), (6, .int .i64 s.k)]) (fun s => s.E ++ H) (fun s => E.length + 1 - s.k) ⟨0, [f], some ⟨r1_1, 0, none⟩, 1, [(r1_1, .cells [.int .i64 f].toArray 3 (0, 0))]⟩ (⟨Nat.zero_le _, RdI.init, .mk (L := [.int .i64 f]) (post := []) rfl rfl (Nat.le_refl 1) (by first | omega | (dsimp only; omega))⟩) KeepF.auto Sub.autoP ?_
  intro s hs9
  obtain ⟨k, X, a1, c1, E1⟩ := s
  dsimp only at hs9 ⊢
  obtain ⟨hk, hR, V1⟩ := hs9
  refine aw_seq ?_
  refine aw_seq_region ?_
  refine sr_mv ?_
  refine sr_mv ?_
  refine sr_rd (x_lenSlice Try.underlying39 rfl) ?_
  refine sr_c (x_le rfl rfl) (fun h1 => ?_) (fun h1 => ?_)
  · refine sr_nil ?_
    refine aw_kp [0, 5, 6, 10, 11, 12, 13] ?_
    refine aw_true rfl ?_
    refine aw_skip ?_
    show AW _ _ _ _ _ _ _
    refine aw_seq ?_
    refine aw_block ?_
    refine aw_seq_region ?_
    refine sr_as ?_
    refine sr_nil ?_
    refine aw_kp [0, 5, 6, 7, 10, 11, 12, 13] ?_
    refine aw_block ?_
    refine aw_loop (ι := IvG) (fun s => s.k ≤ E.length ∧ RnI E f k s.k s.X ∧ OwnVec 1 3 (.slice s.a s.X.length s.c) s.X.length (s.X.flatMap intC) s.E) (fun s => [(0, .slice a E.length cap), (5, .slice s.a s.X.length s.c), (6, .int .i64 k), (7, .int .i64 s.k)]) (fun s => s.E ++ H) (fun s => E.length - s.k) ⟨0, X, a1, c1, E1⟩ (⟨Nat.zero_le _, hR.round, V1⟩) KeepF.auto Sub.autoP ?_
    intro s hs9
    obtain ⟨i, X2, a2, c2, E2⟩ := s
    dsimp only at hs9 ⊢
    obtain ⟨hi, hN, V2⟩ := hs9
    have hs2 := V2.slv' (W0 := W0) (fun _ => rfl) rfl (Sub.refl _)
    have hlx := hN.len
    refine aw_seq ?_
    refine aw_seq_region ?_
    refine sr_mv ?_
    refine sr_mv ?_
    refine sr_rd (x_lenSlice Try.underlying39 rfl) ?_
    refine sr_c (x_lt rfl rfl) (fun h2 => ?_) (fun h2 => ?_)
    · refine sr_nil ?_
      refine aw_kp [0, 5, 6, 7, 16, 17, 18, 19] ?_
      refine aw_true rfl ?_
      refine aw_skip ?_
      show AW _ _ _ _ _ _ _
      refine aw_seq ?_
      refine aw_block ?_
      refine aw_seq_region ?_
      obtain ⟨e, he⟩ := get_ex (show i < E.length by omega)
      obtain ⟨be, oe, hae, hce⟩ := hs.at_ _ _ he
      refine sr_mv ?_
      refine sr_mv ?_
      refine sr_mv ?_
      refine sr_rd (x_indexAddrN (i) Try.underlying39 sz46 rfl hae rfl (by omega) (by omega)) ?_
      refine sr_rd (x_fieldAddr fd46_0 rfl) ?_
      refine sr_rd (x_load ag3 rfl (cells_get (Cells.mono hce Sub.autoR) 0 rfl)) ?_
      refine sr_d rfl (wtd_none rfl) rfl (opS_call rfl rfl rfl rfl cl16 (has_s _ _ X2 _ (hs2.mono Sub.autoE) (e.job))) ?_
      rintro _ H9 ⟨rfl, rfl⟩
      generalize hd1 : decide (e.job ∈ X2) = d1
      cases d1
      · refine sr_mv ?_
        refine sr_sk ?_
        refine sr_sk ?_
        refine sr_sk ?_
        refine sr_sk ?_
        refine sr_sk ?_
        refine sr_sk ?_
        refine sr_sk ?_
        refine sr_sk ?_
        refine sr_rd (x_pick_f rfl rfl rfl) ?_
        refine sr_nil ?_
        refine aw_kp [0, 5, 6, 7, 16, 17, 18, 19, 22, 23, 24, 25, 26, 27, 28, 29, 30, 31, 32, 33, 34, 35, 36, 37, 38] ?_
        refine aw_false rfl ?_
        refine aw_skip ?_
        show AW _ _ _ _ _ _ _
        refine aw_region ?_
        refine sr_mv ?_
        refine sr_rd (x_add' rfl rfl (i64w (by omega) (by omega))) ?_
        refine sr_as ?_
        refine sr_nil ?_
        show ∃ s', _ ∧ _ ∧ _ ∧ _
        first | exact ⟨⟨i + 1, X2 ++ [e.for_], a46, cap46, E46⟩, ⟨by dsimp only; omega, hN.push he (of_decide_eq_true hd1) (of_decide_eq_false hd2), OwnVec.snocS hV46⟩, by dsimp only; omega, (by rw [List.length_append]; exact KeepF.auto), Sub.autoD⟩ | exact ⟨⟨i + 1, X2, a2, c2, E2⟩, ⟨by dsimp only; omega, hN.skip he (fun q => by first | exact of_decide_eq_false hd1 q.1 | exact q.2 (of_decide_eq_true hd2)), V2⟩, by dsimp only; omega, KeepF.auto, Sub.autoD⟩
      · refine sr_mv ?_
        refine sr_ry (x_move rfl) ?_
        refine sr_ry (x_move rfl) ?_
        refine sr_ry (x_move rfl) ?_
        refine sr_ry (x_indexAddrN (i) Try.underlying39 sz46 rfl hae rfl (by omega) (by omega)) ?_
        refine sr_ry (x_fieldAddr fd46_1 rfl) ?_
        refine sr_ry (x_load ag3 rfl (cells_get (Cells.mono hce Sub.autoR) 1 rfl)) ?_
        refine sr_d rfl (wtd_yes rfl rfl rfl) rfl (opS_call rfl rfl rfl rfl cl16 (has_s _ _ X2 _ (hs2.mono Sub.autoE) (e.for_))) ?_
        rintro _ H9 ⟨rfl, rfl⟩
        generalize hd2 : decide (e.for_ ∈ X2) = d2
        cases d2
        · refine sr_ry (x_not rfl) ?_
          refine sr_rd (x_pick_t rfl rfl rfl) ?_
          refine sr_nil ?_
          refine aw_kp [0, 5, 6, 7, 16, 17, 18, 19, 22, 23, 24, 25, 26, 27, 28, 29, 30, 31, 32, 33, 34, 35, 36, 37, 38] ?_
          refine aw_true rfl ?_
          refine aw_region ?_
          refine sr_mv ?_
          refine sr_mv ?_
          refine sr_mv ?_
          refine sr_rd (x_indexAddrN (i) Try.underlying39 sz46 rfl hae rfl (by omega) (by omega)) ?_
          refine sr_rd (x_fieldAddr fd46_1 rfl) ?_
          refine sr_rd (x_load ag3 rfl (cells_get (Cells.mono hce Sub.autoR) 1 rfl)) ?_
          refine sr_new rfl (wtd_none rfl) rfl (x_buildSlice Try.underlying50 sz3 zr3 rfl rfl rfl rfl Parts.auto Fill.auto) ?_
          intro r9_6 hr9_6 gr9_6
          refine sr_d rfl (wtd_none rfl) rfl (opS_append (G := (r9_6, .cells [.int .i64 e.for_].toArray 3 (0, 0)) :: H) (N := (intC e.for_)) (m := 1) Try.underlying50 sz3 zr3 rfl by3 rfl rfl V2 Sub.autoP (.inr ⟨_, _, rfl, (cells_ext mauto Ext.auto)⟩) (rfl) rfl (by omega) (by omega)) ?_
          rintro v46 _ ⟨E46, hV46, rfl⟩
          obtain ⟨a46, cap46, rfl⟩ := hV46.isSl
          refine sr_as ?_
          refine sr_nil ?_
          show AW _ _ _ _ _ _ _
          refine aw_region ?_
          refine sr_mv ?_
          refine sr_rd (x_add' rfl rfl (i64w (by omega) (by omega))) ?_
          refine sr_as ?_
          refine sr_nil ?_
          show ∃ s', _ ∧ _ ∧ _ ∧ _
          first | exact ⟨⟨i + 1, X2 ++ [e.for_], a46, cap46, E46⟩, ⟨by dsimp only; omega, hN.push he (of_decide_eq_true hd1) (of_decide_eq_false hd2), OwnVec.snocS hV46⟩, by dsimp only; omega, (by rw [List.length_append]; exact KeepF.auto), Sub.autoD⟩ | exact ⟨⟨i + 1, X2, a2, c2, E2⟩, ⟨by dsimp only; omega, hN.skip he (fun q => by first | exact of_decide_eq_false hd1 q.1 | exact q.2 (of_decide_eq_true hd2)), V2⟩, by dsimp only; omega, KeepF.auto, Sub.autoD⟩
        · refine sr_ry (x_not rfl) ?_
          refine sr_rd (x_pick_t rfl rfl rfl) ?_
          refine sr_nil ?_
          refine aw_kp [0, 5, 6, 7, 16, 17, 18, 19, 22, 23, 24, 25, 26, 27, 28, 29, 30, 31, 32, 33, 34, 35, 36, 37, 38] ?_
          refine aw_false rfl ?_
          refine aw_skip ?_
          show AW _ _ _ _ _ _ _
          refine aw_region ?_
          refine sr_mv ?_
          refine sr_rd (x_add' rfl rfl (i64w (by omega) (by omega))) ?_
          refine sr_as ?_
          refine sr_nil ?_
          show ∃ s', _ ∧ _ ∧ _ ∧ _
          first | exact ⟨⟨i + 1, X2 ++ [e.for_], a46, cap46, E46⟩, ⟨by dsimp only; omega, hN.push he (of_decide_eq_true hd1) (of_decide_eq_false hd2), OwnVec.snocS hV46⟩, by dsimp only; omega, (by rw [List.length_append]; exact KeepF.auto), Sub.autoD⟩ | exact ⟨⟨i + 1, X2, a2, c2, E2⟩, ⟨by dsimp only; omega, hN.skip he (fun q => by first | exact of_decide_eq_false hd1 q.1 | exact q.2 (of_decide_eq_true hd2)), V2⟩, by dsimp only; omega, KeepF.auto, Sub.autoD⟩
    · refine sr_nil ?_
      refine aw_kp [0, 5, 6, 7, 16, 17, 18, 19] ?_
      refine aw_false rfl ?_
      refine aw_exit ?_
      show AW _ _ _ _ _ _ _
      refine aw_region ?_
      refine sr_mv ?_
      refine sr_rd (x_add' rfl rfl (i64w (by omega) (by omega))) ?_
      refine sr_as ?_
      refine sr_nil ?_
      show ∃ s', _ ∧ _ ∧ _ ∧ _
      exact ⟨⟨k + 1, X2, a2, c2, E2⟩, ⟨by dsimp only; omega, hN.fin (by omega), V2⟩, by dsimp only; omega, KeepF.auto, Sub.autoP⟩
  · refine sr_nil ?_
    refine aw_kp [0, 5, 6, 10, 11, 12, 13] ?_
    refine aw_false rfl ?_
    refine aw_exit ?_
    show AW _ _ _ _ _ _ _
    refine aw_seq_region ?_
    refine sr_mv ?_
    refine sr_as ?_
    refine sr_nil ?_
    refine aw_kp [4] ?_
    refine aw_ret ?_
    show ∃ v H2, ResV _ _ _ _ _ _ v ∧ Sub H2 _ ∧ _
    exact ⟨_, _, resV rfl (.cons rfl .nil), Sub.autoP, ⟨E1, ⟨X, a1, c1, rfl, hR.all (by omega), (by have := hR.len; omega), V1⟩, rfl⟩⟩
set_option maxRecDepth 100000 in
set_option maxHeartbeats 1000000 in
theorem sorted_s (a : Option Addr) (cap : Nat) (L : List Int) (H : SHeap) (hs : SlV W0 H 1 intC a cap L) (hl : L.length ≤ 1000) : AC Try.prog W0 24 [.slice a L.length cap] H (fun v H' => ∃ (X : List Int) (a' : Option Addr) (c' : Nat) (E' : SHeap), v = .slice a' X.length c' ∧ Tms L X ∧ X.length ≤ L.length ∧ OwnVec 1 3 (.slice a' X.length c') X.length (X.flatMap intC) E' ∧ H' = E' ++ H) := by
  have hle := hs.le
  have hcb := hs.capb
  refine ac_of Try.func24 rfl rfl rfl ?_
  refine aw_seq_region ?_
  refine sr_as ?_
  refine sr_nil ?_
  refine aw_kp [0, 2] ?_
  refine aw_seq_region ?_
  refine sr_as ?_
  refine sr_nil ?_
  refine aw_kp [0, 2, 3] ?_
  refine aw_seq ?_
  refine aw_seq_region ?_
  refine sr_as ?_
  refine sr_nil ?_
  refine aw_kp [0, 2, 3, 4] ?_
  refine aw_block ?_
  refine aw_loop (ι := IvG) (fun s => s.k ≤ L.length ∧ SdI L s.X s.k ∧ OwnVec 1 3 (.slice s.a s.X.length s.c) s.X.length (s.X.flatMap intC) s.E) (fun s => [(0, .slice a L.length cap), (3, .slice s.a s.X.length s.c), (4, .int .i64 s.k)]) (fun s => s.E ++ H) (fun s => L.length - s.k) ⟨0, [], none, 0, []⟩ (⟨Nat.zero_le _, SdI.start, .nil⟩) KeepF.auto Sub.autoP ?_
  intro s hs9
  obtain ⟨k, X, a1, c1, E1⟩ := s
  dsimp only at hs9 ⊢
  obtain ⟨hk, hS, V1⟩ := hs9
  have hs1 := V1.slv' (W0 := W0) (fun _ => rfl) rfl (Sub.refl _)
  have hlx := hS.len
  refine aw_seq ?_
  refine aw_seq_region ?_
  refine sr_mv ?_
  refine sr_mv ?_
  refine sr_rd (x_lenSlice Try.underlying50 rfl) ?_
  refine sr_c (x_lt rfl rfl) (fun h1 => ?_) (fun h1 => ?_)
  · refine sr_nil ?_
    refine aw_kp [0, 3, 4, 8, 9, 10, 11] ?_
    refine aw_true rfl ?_
    refine aw_skip ?_
    show AW _ _ _ _ _ _ _
    refine aw_seq ?_
    refine aw_block ?_
    refine aw_seq_region ?_
    refine sr_as ?_
    refine sr_nil ?_
    refine aw_kp [0, 3, 4, 5, 8, 9, 10, 11] ?_
    refine aw_seq_region ?_
    refine sr_as ?_
    refine sr_nil ?_
    refine aw_kp [0, 3, 4, 5, 6, 8, 9, 10, 11] ?_
    refine aw_seq ?_
    refine aw_seq_region ?_
    refine sr_as ?_
    refine sr_nil ?_
    refine aw_kp [0, 3, 4, 5, 6, 7, 8, 9, 10, 11] ?_
    refine aw_block ?_
    refine aw_loop (ι := BvG) (fun s => s.i ≤ L.length ∧ BsI L X s.i s.best s.is) (fun s => [(0, .slice a L.length cap), (3, .slice a1 X.length c1), (4, .int .i64 k), (5, .int .i64 s.best), (6, .bool s.is), (7, .int .i64 s.i)]) (fun s => E1 ++ H) (fun s => L.length - s.i) ⟨0, 0, false⟩ (⟨Nat.zero_le _, BsI.start⟩) KeepF.auto Sub.autoP ?_
    intro s hs9
    obtain ⟨i, b, is⟩ := s
    dsimp only at hs9 ⊢
    obtain ⟨hi, hB⟩ := hs9
    cases is
    · refine aw_seq ?_
      refine aw_seq_region ?_
      refine sr_mv ?_
      refine sr_mv ?_
      refine sr_rd (x_lenSlice Try.underlying50 rfl) ?_
      refine sr_c (x_lt rfl rfl) (fun h2 => ?_) (fun h2 => ?_)
      · refine sr_nil ?_
        refine aw_kp [0, 3, 4, 5, 6, 7, 14, 15, 16, 17] ?_
        refine aw_true rfl ?_
        refine aw_skip ?_
        show AW _ _ _ _ _ _ _
        refine aw_seq ?_
        refine aw_block ?_
        refine aw_seq_region ?_
        obtain ⟨x, hx⟩ := get_ex (show i < L.length by omega)
        obtain ⟨bi, oi, hai, hci⟩ := hs.at_ _ _ hx
        refine sr_mv ?_
        refine sr_mv ?_
        refine sr_mv ?_
        refine sr_rd (x_indexAddrN (i) Try.underlying50 sz3 rfl hai rfl (by omega) (by omega)) ?_
        refine sr_rd (x_load ag3 rfl (cells_get (Cells.mono hci Sub.autoR) 0 rfl)) ?_
        refine sr_d rfl (wtd_none rfl) rfl (opS_call rfl rfl rfl rfl cl16 (has_s _ _ X _ (hs1.mono Sub.autoE) (x))) ?_
        rintro _ H9 ⟨rfl, rfl⟩
        generalize hd1 : decide (x ∈ X) = d1
        cases d1
        · refine sr_rd (x_not rfl) ?_
          refine sr_mv ?_
          refine sr_ry (x_move rfl) ?_
          refine sr_ry (x_not rfl) ?_
          refine sr_ry (x_move rfl) ?_
          refine sr_sk ?_
          refine sr_sk ?_
          refine sr_sk ?_
          refine sr_sk ?_
          refine sr_sk ?_
          refine sr_sk ?_
          refine sr_ry (x_pick_t rfl rfl rfl) ?_
          refine sr_rd (x_pick_t rfl rfl rfl) ?_
          refine sr_nil ?_
          refine aw_kp [0, 3, 4, 5, 6, 7, 14, 15, 16, 17, 20, 21, 22, 23, 24, 25, 26, 27, 28, 29, 30, 31, 32, 33, 34, 35, 36, 37, 38] ?_
          refine aw_true rfl ?_
          refine aw_seq_region ?_
          refine sr_mv ?_
          refine sr_mv ?_
          refine sr_rd (x_indexAddrN (i) Try.underlying50 sz3 rfl hai rfl (by omega) (by omega)) ?_
          refine sr_rd (x_load ag3 rfl (cells_get (Cells.mono hci Sub.autoR) 0 rfl)) ?_
          refine sr_as ?_
          refine sr_nil ?_
          refine aw_kp [0, 3, 4, 5, 6, 7, 14, 15, 16, 17, 20, 21, 22, 23, 24, 25, 26, 27, 28, 29, 30, 31, 32, 33, 34, 35, 36, 37, 38, 39, 40, 41, 42] ?_
          refine aw_region ?_
          refine sr_as ?_
          refine sr_nil ?_
          show AW _ _ _ _ _ _ _
          refine aw_region ?_
          refine sr_mv ?_
          refine sr_rd (x_add' rfl rfl (i64w (by omega) (by omega))) ?_
          refine sr_as ?_
          refine sr_nil ?_
          show ∃ s', _ ∧ _ ∧ _ ∧ _
          first | exact ⟨⟨i + 1, x, true⟩, ⟨by dsimp only; omega, hB.put hx (of_decide_eq_false hd1) (by first | exact .inl rfl | exact .inr (by omega))⟩, by dsimp only; omega, KeepF.auto, Sub.autoD⟩ | exact ⟨⟨i + 1, b, _⟩, ⟨by dsimp only; omega, hB.skip hx (by first | exact .inl (of_decide_eq_true hd1) | exact .inr ⟨rfl, by omega⟩)⟩, by dsimp only; omega, KeepF.auto, Sub.autoD⟩
        · refine sr_rd (x_not rfl) ?_
          refine sr_mv ?_
          refine sr_sk ?_
          refine sr_sk ?_
          refine sr_sk ?_
          refine sr_skip rfl (wtd_un rfl rfl rfl) rfl ?_
          refine sr_skip rfl (wtd_un rfl rfl rfl) rfl ?_
          refine sr_skip rfl (wtd_un rfl rfl rfl) rfl ?_
          refine sr_skip rfl (wtd_un rfl rfl rfl) rfl ?_
          refine sr_skip rfl (wtd_un rfl rfl rfl) rfl ?_
          refine sr_skip rfl (wtd_un rfl rfl rfl) rfl ?_
          refine sr_sk ?_
          refine sr_rd (x_pick_f rfl rfl rfl) ?_
          refine sr_nil ?_
          refine aw_kp [0, 3, 4, 5, 6, 7, 14, 15, 16, 17, 20, 21, 22, 23, 24, 25, 26, 27, 28, 29, 30, 31, 32, 33, 34, 35, 36, 37, 38] ?_
          refine aw_false rfl ?_
          refine aw_skip ?_
          show AW _ _ _ _ _ _ _
          refine aw_region ?_
          refine sr_mv ?_
          refine sr_rd (x_add' rfl rfl (i64w (by omega) (by omega))) ?_
          refine sr_as ?_
          refine sr_nil ?_
          show ∃ s', _ ∧ _ ∧ _ ∧ _
          first | exact ⟨⟨i + 1, x, true⟩, ⟨by dsimp only; omega, hB.put hx (of_decide_eq_false hd1) (by first | exact .inl rfl | exact .inr (by omega))⟩, by dsimp only; omega, KeepF.auto, Sub.autoD⟩ | exact ⟨⟨i + 1, b, _⟩, ⟨by dsimp only; omega, hB.skip hx (by first | exact .inl (of_decide_eq_true hd1) | exact .inr ⟨rfl, by omega⟩)⟩, by dsimp only; omega, KeepF.auto, Sub.autoD⟩
      · refine sr_nil ?_
        refine aw_kp [0, 3, 4, 5, 6, 7, 14, 15, 16, 17] ?_
        refine aw_false rfl ?_
        refine aw_exit ?_
        show AW _ _ _ _ _ _ _
        refine aw_seq_region ?_
        obtain rfl : i = L.length := by omega
        refine sr_mv ?_
        refine sr_nil ?_
        refine aw_kp [0, 3, 4, 5, 6, 7, 14, 15, 16, 17, 43] ?_
        refine aw_false rfl ?_
        refine aw_skip ?_
        show AW _ _ _ _ _ _ _
        refine aw_region ?_
        refine sr_mv ?_
        refine sr_rd (x_add' rfl rfl (i64w (by omega) (by omega))) ?_
        refine sr_as ?_
        refine sr_nil ?_
        show ∃ s', _ ∧ _ ∧ _ ∧ _
        first | exact ⟨⟨k + 1, X ++ [b], a47, cap47, E47⟩, ⟨by dsimp only; omega, hS.push hB, OwnVec.snocS hV47⟩, by dsimp only; omega, (by rw [List.length_append]; exact KeepF.auto), Sub.autoD⟩ | exact ⟨⟨k + 1, X, a1, c1, E1⟩, ⟨by dsimp only; omega, hS.stop hB, V1⟩, by dsimp only; omega, KeepF.auto, Sub.autoD⟩
    · refine aw_seq ?_
      refine aw_seq_region ?_
      refine sr_mv ?_
      refine sr_mv ?_
      refine sr_rd (x_lenSlice Try.underlying50 rfl) ?_
      refine sr_c (x_lt rfl rfl) (fun h3 => ?_) (fun h3 => ?_)
      · refine sr_nil ?_
        refine aw_kp [0, 3, 4, 5, 6, 7, 14, 15, 16, 17] ?_
        refine aw_true rfl ?_
        refine aw_skip ?_
        show AW _ _ _ _ _ _ _
        refine aw_seq ?_
        refine aw_block ?_
        refine aw_seq_region ?_
        obtain ⟨x, hx⟩ := get_ex (show i < L.length by omega)
        obtain ⟨bi, oi, hai, hci⟩ := hs.at_ _ _ hx
        refine sr_mv ?_
        refine sr_mv ?_
        refine sr_mv ?_
        refine sr_rd (x_indexAddrN (i) Try.underlying50 sz3 rfl hai rfl (by omega) (by omega)) ?_
        refine sr_rd (x_load ag3 rfl (cells_get (Cells.mono hci Sub.autoR) 0 rfl)) ?_
        refine sr_d rfl (wtd_none rfl) rfl (opS_call rfl rfl rfl rfl cl16 (has_s _ _ X _ (hs1.mono Sub.autoE) (x))) ?_
        rintro _ H9 ⟨rfl, rfl⟩
        generalize hd1 : decide (x ∈ X) = d1
        cases d1
        · refine sr_rd (x_not rfl) ?_
          refine sr_mv ?_
          refine sr_ry (x_move rfl) ?_
          refine sr_ry (x_not rfl) ?_
          refine sr_ry (x_move rfl) ?_
          refine sr_ry (x_move rfl) ?_
          refine sr_ry (x_move rfl) ?_
          refine sr_ry (x_indexAddrN (i) Try.underlying50 sz3 rfl hai rfl (by omega) (by omega)) ?_
          refine sr_ry (x_load ag3 rfl (cells_get (Cells.mono hci Sub.autoR) 0 rfl)) ?_
          refine sr_ry (x_move rfl) ?_
          refine sr_cy (x_lt rfl rfl) (fun h4 => ?_) (fun h4 => ?_)
          · refine sr_ry (x_pick_f rfl rfl rfl) ?_
            refine sr_rd (x_pick_t rfl rfl rfl) ?_
            refine sr_nil ?_
            refine aw_kp [0, 3, 4, 5, 6, 7, 14, 15, 16, 17, 20, 21, 22, 23, 24, 25, 26, 27, 28, 29, 30, 31, 32, 33, 34, 35, 36, 37, 38] ?_
            refine aw_true rfl ?_
            refine aw_seq_region ?_
            refine sr_mv ?_
            refine sr_mv ?_
            refine sr_rd (x_indexAddrN (i) Try.underlying50 sz3 rfl hai rfl (by omega) (by omega)) ?_
            refine sr_rd (x_load ag3 rfl (cells_get (Cells.mono hci Sub.autoR) 0 rfl)) ?_
            refine sr_as ?_
            refine sr_nil ?_
            refine aw_kp [0, 3, 4, 5, 6, 7, 14, 15, 16, 17, 20, 21, 22, 23, 24, 25, 26, 27, 28, 29, 30, 31, 32, 33, 34, 35, 36, 37, 38, 39, 40, 41, 42] ?_
            refine aw_region ?_
            refine sr_as ?_
            refine sr_nil ?_
            show AW _ _ _ _ _ _ _
            refine aw_region ?_
            refine sr_mv ?_
            refine sr_rd (x_add' rfl rfl (i64w (by omega) (by omega))) ?_
            refine sr_as ?_
            refine sr_nil ?_
            show ∃ s', _ ∧ _ ∧ _ ∧ _
            first | exact ⟨⟨i + 1, x, true⟩, ⟨by dsimp only; omega, hB.put hx (of_decide_eq_false hd1) (by first | exact .inl rfl | exact .inr (by omega))⟩, by dsimp only; omega, KeepF.auto, Sub.autoD⟩ | exact ⟨⟨i + 1, b, _⟩, ⟨by dsimp only; omega, hB.skip hx (by first | exact .inl (of_decide_eq_true hd1) | exact .inr ⟨rfl, by omega⟩)⟩, by dsimp only; omega, KeepF.auto, Sub.autoD⟩
          · refine sr_ry (x_pick_f rfl rfl rfl) ?_
            refine sr_rd (x_pick_t rfl rfl rfl) ?_
            refine sr_nil ?_
            refine aw_kp [0, 3, 4, 5, 6, 7, 14, 15, 16, 17, 20, 21, 22, 23, 24, 25, 26, 27, 28, 29, 30, 31, 32, 33, 34, 35, 36, 37, 38] ?_
            refine aw_false rfl ?_
            refine aw_skip ?_
            show AW _ _ _ _ _ _ _
            refine aw_region ?_
            refine sr_mv ?_
            refine sr_rd (x_add' rfl rfl (i64w (by omega) (by omega))) ?_
            refine sr_as ?_
            refine sr_nil ?_
            show ∃ s', _ ∧ _ ∧ _ ∧ _
            first | exact ⟨⟨i + 1, x, true⟩, ⟨by dsimp only; omega, hB.put hx (of_decide_eq_false hd1) (by first | exact .inl rfl | exact .inr (by omega))⟩, by dsimp only; omega, KeepF.auto, Sub.autoD⟩ | exact ⟨⟨i + 1, b, _⟩, ⟨by dsimp only; omega, hB.skip hx (by first | exact .inl (of_decide_eq_true hd1) | exact .inr ⟨rfl, by omega⟩)⟩, by dsimp only; omega, KeepF.auto, Sub.autoD⟩
        · refine sr_rd (x_not rfl) ?_
          refine sr_mv ?_
          refine sr_sk ?_
          refine sr_sk ?_
          refine sr_sk ?_
          refine sr_skip rfl (wtd_un rfl rfl rfl) rfl ?_
          refine sr_skip rfl (wtd_un rfl rfl rfl) rfl ?_
          refine sr_skip rfl (wtd_un rfl rfl rfl) rfl ?_
          refine sr_skip rfl (wtd_un rfl rfl rfl) rfl ?_
          refine sr_skip rfl (wtd_un rfl rfl rfl) rfl ?_
          refine sr_skip rfl (wtd_un rfl rfl rfl) rfl ?_
          refine sr_sk ?_
          refine sr_rd (x_pick_f rfl rfl rfl) ?_
          refine sr_nil ?_
          refine aw_kp [0, 3, 4, 5, 6, 7, 14, 15, 16, 17, 20, 21, 22, 23, 24, 25, 26, 27, 28, 29, 30, 31, 32, 33, 34, 35, 36, 37, 38] ?_
          refine aw_false rfl ?_
          refine aw_skip ?_
          show AW _ _ _ _ _ _ _
          refine aw_region ?_
          refine sr_mv ?_
          refine sr_rd (x_add' rfl rfl (i64w (by omega) (by omega))) ?_
          refine sr_as ?_
          refine sr_nil ?_
          show ∃ s', _ ∧ _ ∧ _ ∧ _
          first | exact ⟨⟨i + 1, x, true⟩, ⟨by dsimp only; omega, hB.put hx (of_decide_eq_false hd1) (by first | exact .inl rfl | exact .inr (by omega))⟩, by dsimp only; omega, KeepF.auto, Sub.autoD⟩ | exact ⟨⟨i + 1, b, _⟩, ⟨by dsimp only; omega, hB.skip hx (by first | exact .inl (of_decide_eq_true hd1) | exact .inr ⟨rfl, by omega⟩)⟩, by dsimp only; omega, KeepF.auto, Sub.autoD⟩
      · refine sr_nil ?_
        refine aw_kp [0, 3, 4, 5, 6, 7, 14, 15, 16, 17] ?_
        refine aw_false rfl ?_
        refine aw_exit ?_
        show AW _ _ _ _ _ _ _
        refine aw_seq_region ?_
        obtain rfl : i = L.length := by omega
        refine sr_mv ?_
        refine sr_nil ?_
        refine aw_kp [0, 3, 4, 5, 6, 7, 14, 15, 16, 17, 43] ?_
        refine aw_true rfl ?_
        refine aw_region ?_
        refine sr_mv ?_
        refine sr_mv ?_
        refine sr_new rfl (wtd_none rfl) rfl (x_buildSlice Try.underlying50 sz3 zr3 rfl rfl rfl rfl Parts.auto Fill.auto) ?_
        intro r14_2 hr14_2 gr14_2
        refine sr_d rfl (wtd_none rfl) rfl (opS_append (G := (r14_2, .cells [.int .i64 b].toArray 3 (0, 0)) :: H) (N := (intC b)) (m := 1) Try.underlying50 sz3 zr3 rfl by3 rfl rfl V1 Sub.autoP (.inr ⟨_, _, rfl, (cells_ext mauto Ext.auto)⟩) (rfl) rfl (by omega) (by omega)) ?_
        rintro v47 _ ⟨E47, hV47, rfl⟩
        obtain ⟨a47, cap47, rfl⟩ := hV47.isSl
        refine sr_as ?_
        refine sr_nil ?_
        show AW _ _ _ _ _ _ _
        refine aw_region ?_
        refine sr_mv ?_
        refine sr_rd (x_add' rfl rfl (i64w (by omega) (by omega))) ?_
        refine sr_as ?_
        refine sr_nil ?_
        show ∃ s', _ ∧ _ ∧ _ ∧ _
        first | exact ⟨⟨k + 1, X ++ [b], a47, cap47, E47⟩, ⟨by dsimp only; omega, hS.push hB, OwnVec.snocS hV47⟩, by dsimp only; omega, (by rw [List.length_append]; exact KeepF.auto), Sub.autoD⟩ | exact ⟨⟨k + 1, X, a1, c1, E1⟩, ⟨by dsimp only; omega, hS.stop hB, V1⟩, by dsimp only; omega, KeepF.auto, Sub.autoD⟩
  · refine sr_nil ?_
    refine aw_kp [0, 3, 4, 8, 9, 10, 11] ?_
    refine aw_false rfl ?_
    refine aw_exit ?_
    show AW _ _ _ _ _ _ _
    refine aw_seq_region ?_
    refine sr_mv ?_
    refine sr_as ?_
    refine sr_nil ?_
    refine aw_kp [2] ?_
    refine aw_ret ?_
    show ∃ v H2, ResV _ _ _ _ _ _ v ∧ Sub H2 _ ∧ _
    exact ⟨_, _, resV rfl (.cons rfl .nil), Sub.autoP, ⟨X, a1, c1, E1, rfl, hS.done (by omega), (by omega), V1, rfl⟩⟩
set_option maxRecDepth 100000 in
set_option maxHeartbeats 1000000 in
theorem lwaits_s (a : Option Addr) (cap : Nat) (E : List DEdge) (H : SHeap) (hs : SlV W0 H 3 DEdge.cells a cap E) (hl : E.length ≤ 1000) (id : Int) : AC Try.prog W0 20 [.slice a E.length cap, .int .i64 id] H (fun v H' => ∃ (X : List Int) (a' : Option Addr) (c' : Nat) (E' : SHeap), v = .slice a' X.length c' ∧ Tms (outs E id) X ∧ X.length ≤ E.length ∧ OwnVec 1 3 (.slice a' X.length c') X.length (X.flatMap intC) E' ∧ H' = E' ++ H) := by
  have hle := hs.le
  have hcb := hs.capb
  refine ac_of Try.func20 rfl rfl rfl ?_
  refine aw_seq_region ?_
  refine sr_as ?_
  refine sr_nil ?_
  refine aw_kp [0, 1, 4] ?_
  refine aw_seq_region ?_
  refine sr_as ?_
  refine sr_nil ?_
  refine aw_kp [0, 1, 4, 5] ?_
  refine aw_seq ?_
  refine aw_seq_region ?_
  refine sr_as ?_
  refine sr_nil ?_
  refine aw_kp [0, 1, 4, 5, 6] ?_
  refine aw_block ?_
  refine aw_loop (ι := IvG) (fun s => s.k ≤ E.length ∧ s.X = outs (E.take s.k) id ∧ OwnVec 1 3 (.slice s.a s.X.length s.c) s.X.length (s.X.flatMap intC) s.E) (fun s => [(0, .slice a E.length cap), (1, .int .i64 id), (5, .slice s.a s.X.length s.c), (6, .int .i64 s.k)]) (fun s => s.E ++ H) (fun s => E.length - s.k) ⟨0, [], none, 0, []⟩ (⟨Nat.zero_le _, rfl, .nil⟩) KeepF.auto Sub.autoP ?_
  intro s hs9
  obtain ⟨k, X, a1, c1, E1⟩ := s
  dsimp only at hs9 ⊢
  obtain ⟨hk, hX, V1⟩ := hs9
  have hXl : X.length ≤ k := by (rw [hX]; have := outs_len (E.take k) id; rw [List.length_take] at this; omega)
  refine aw_seq ?_
  refine aw_seq_region ?_
  refine sr_mv ?_
  refine sr_mv ?_
  refine sr_rd (x_lenSlice Try.underlying39 rfl) ?_
  refine sr_c (x_lt rfl rfl) (fun h1 => ?_) (fun h1 => ?_)
  · refine sr_nil ?_
    refine aw_kp [0, 1, 5, 6, 7, 8, 9, 10] ?_
    refine aw_true rfl ?_
    refine aw_skip ?_
    show AW _ _ _ _ _ _ _
    refine aw_seq ?_
    refine aw_block ?_
    refine aw_seq_region ?_
    obtain ⟨e, he⟩ := get_ex (show k < E.length by omega)
    obtain ⟨be, oe, hae, hce⟩ := hs.at_ _ _ he
    refine sr_mv ?_
    refine sr_mv ?_
    refine sr_rd (x_indexAddrN (k) Try.underlying39 sz46 rfl hae rfl (by omega) (by omega)) ?_
    refine sr_rd (x_fieldAddr fd46_0 rfl) ?_
    refine sr_rd (x_load ag3 rfl (cells_get (Cells.mono hce Sub.autoR) 0 rfl)) ?_
    refine sr_mv ?_
    refine sr_c (x_eq rfl rfl) (fun h2 => ?_) (fun h2 => ?_)
    · refine sr_nil ?_
      refine aw_kp [0, 1, 5, 6, 7, 8, 9, 10, 13, 14, 15, 16, 17, 18, 19] ?_
      refine aw_true rfl ?_
      refine aw_region ?_
      refine sr_mv ?_
      refine sr_mv ?_
      refine sr_mv ?_
      refine sr_rd (x_indexAddrN (k) Try.underlying39 sz46 rfl hae rfl (by omega) (by omega)) ?_
      refine sr_rd (x_fieldAddr fd46_1 rfl) ?_
      refine sr_rd (x_load ag3 rfl (cells_get (Cells.mono hce Sub.autoR) 1 rfl)) ?_
      refine sr_new rfl (wtd_none rfl) rfl (x_buildSlice Try.underlying50 sz3 zr3 rfl rfl rfl rfl Parts.auto Fill.auto) ?_
      intro r6_6 hr6_6 gr6_6
      refine sr_d rfl (wtd_none rfl) rfl (opS_append (G := (r6_6, .cells [.int .i64 e.for_].toArray 3 (0, 0)) :: H) (N := (intC e.for_)) (m := 1) Try.underlying50 sz3 zr3 rfl by3 rfl rfl V1 Sub.autoP (.inr ⟨_, _, rfl, (cells_ext mauto Ext.auto)⟩) (rfl) rfl (by omega) (by omega)) ?_
      rintro v27 _ ⟨E27, hV27, rfl⟩
      obtain ⟨a27, cap27, rfl⟩ := hV27.isSl
      refine sr_as ?_
      refine sr_nil ?_
      show AW _ _ _ _ _ _ _
      refine aw_region ?_
      refine sr_mv ?_
      refine sr_rd (x_add' rfl rfl (i64w (by omega) (by omega))) ?_
      refine sr_as ?_
      refine sr_nil ?_
      show ∃ s', _ ∧ _ ∧ _ ∧ _
      first | exact ⟨⟨k + 1, X ++ [e.for_], a27, cap27, E27⟩, ⟨by dsimp only; omega, (by dsimp only; rw [outs_take he, if_pos (by omega), hX]), OwnVec.snocS hV27⟩, by dsimp only; omega, (by rw [List.length_append]; exact KeepF.auto), Sub.autoD⟩ | exact ⟨⟨k + 1, X, a1, c1, E1⟩, ⟨by dsimp only; omega, (by dsimp only; rw [outs_take he, if_neg (by omega), List.append_nil, hX]), V1⟩, by dsimp only; omega, KeepF.auto, Sub.autoD⟩
    · refine sr_nil ?_
      refine aw_kp [0, 1, 5, 6, 7, 8, 9, 10, 13, 14, 15, 16, 17, 18, 19] ?_
      refine aw_false rfl ?_
      refine aw_skip ?_
      show AW _ _ _ _ _ _ _
      refine aw_region ?_
      refine sr_mv ?_
      refine sr_rd (x_add' rfl rfl (i64w (by omega) (by omega))) ?_
      refine sr_as ?_
      refine sr_nil ?_
      show ∃ s', _ ∧ _ ∧ _ ∧ _
      first | exact ⟨⟨k + 1, X ++ [e.for_], a27, cap27, E27⟩, ⟨by dsimp only; omega, (by dsimp only; rw [outs_take he, if_pos (by omega), hX]), OwnVec.snocS hV27⟩, by dsimp only; omega, (by rw [List.length_append]; exact KeepF.auto), Sub.autoD⟩ | exact ⟨⟨k + 1, X, a1, c1, E1⟩, ⟨by dsimp only; omega, (by dsimp only; rw [outs_take he, if_neg (by omega), List.append_nil, hX]), V1⟩, by dsimp only; omega, KeepF.auto, Sub.autoD⟩
  · refine sr_nil ?_
    refine aw_kp [0, 1, 5, 6, 7, 8, 9, 10] ?_
    refine aw_false rfl ?_
    refine aw_exit ?_
    show AW _ _ _ _ _ _ _
    refine aw_seq_region ?_
    rw [List.take_of_length_le (by omega)] at hX
    refine sr_mv ?_
    refine sr_d rfl (wtd_none rfl) rfl (opS_call rfl rfl rfl rfl cl24 (sorted_s a1 c1 X _ (V1.slv' (fun _ => rfl) rfl Sub.autoE) (by omega))) ?_
    rintro _ _ ⟨X2, a2, c2, E2, rfl, hX2, hl2, V2, rfl⟩
    refine sr_as ?_
    refine sr_nil ?_
    refine aw_kp [4] ?_
    refine aw_ret ?_
    show ∃ v H2, ResV _ _ _ _ _ _ v ∧ Sub H2 _ ∧ _
    exact ⟨_, E2 ++ H, resV rfl (.cons rfl .nil), Sub.autoP, X2, a2, c2, E2, rfl, hX ▸ hX2, (by omega), V2, rfl⟩
set_option maxRecDepth 100000 in
set_option maxHeartbeats 400000 in
theorem dsame_s (a b : Option Addr) (c d : Nat) (X Y : List Int) (H : SHeap) (hs : SlV W0 H 1 intC a c X) (ht : SlV W0 H 1 intC b d Y) : AC Try.prog W0 18 [.slice a X.length c, .slice b Y.length d] H (fun v H' => v = .bool (decide (X = Y)) ∧ H' = H) := by
  have hle := hs.le
  have hcb := hs.capb
  have hle2 := ht.le
  have hcb2 := ht.capb
  refine ac_of Try.func18 rfl rfl rfl ?_
  refine aw_seq_region ?_
  refine sr_as ?_
  refine sr_nil ?_
  refine aw_kp [0, 1, 4] ?_
  refine aw_seq ?_
  refine aw_seq_region ?_
  refine sr_mv ?_
  refine sr_rd (x_lenSlice Try.underlying50 rfl) ?_
  refine sr_mv ?_
  refine sr_rd (x_lenSlice Try.underlying50 rfl) ?_
  refine sr_c (x_ne rfl rfl) (fun h1 => ?_) (fun h1 => ?_)
  · refine sr_nil ?_
    refine aw_kp [0, 1, 4, 10] ?_
    refine aw_true rfl ?_
    refine aw_seq_region ?_
    refine sr_as ?_
    refine sr_nil ?_
    refine aw_kp [0, 1, 4] ?_
    refine aw_ret ?_
    show ∃ v H2, ResV _ _ _ _ _ _ v ∧ Sub H2 _ ∧ _
    first | exact ⟨_, H, resV rfl (.cons rfl .nil), Sub.refl _, congrArg Value.bool (decide_eq_true (ext_upto (by omega) (by omega) hok)).symm, rfl⟩ | exact ⟨_, H, resV rfl (.cons rfl .nil), Sub.refl _, congrArg Value.bool (decide_eq_false (fun e9 => by (rw [← e9, hx] at hy; cases hy; omega))).symm, rfl⟩ | exact ⟨_, H, resV rfl (.cons rfl .nil), Sub.refl _, congrArg Value.bool (decide_eq_false (fun e9 => by (have := congrArg List.length e9; omega))).symm, rfl⟩
  · refine sr_nil ?_
    refine aw_kp [0, 1, 4, 10] ?_
    refine aw_false rfl ?_
    refine aw_skip ?_
    show AW _ _ _ _ _ _ _
    refine aw_seq ?_
    refine aw_seq_region ?_
    refine sr_as ?_
    refine sr_nil ?_
    refine aw_kp [0, 1, 4, 5] ?_
    refine aw_block ?_
    refine aw_loop (ι := Nat) (fun k => k ≤ X.length ∧ ∀ j, j < k → X[j]? = Y[j]?) (fun k => [(0, .slice a X.length c), (1, .slice b Y.length d), (5, .int .i64 k)]) (fun _ => H) (fun k => X.length - k) 0 (⟨Nat.zero_le _, fun j h => by omega⟩) KeepF.auto Sub.autoP ?_
    intro k hk9
    obtain ⟨hk, hok⟩ := hk9
    refine aw_seq ?_
    refine aw_seq_region ?_
    refine sr_mv ?_
    refine sr_mv ?_
    refine sr_rd (x_lenSlice Try.underlying50 rfl) ?_
    refine sr_c (x_lt rfl rfl) (fun h2 => ?_) (fun h2 => ?_)
    · refine sr_nil ?_
      refine aw_kp [0, 1, 5, 11, 12, 13, 14] ?_
      refine aw_true rfl ?_
      refine aw_skip ?_
      show AW _ _ _ _ _ _ _
      refine aw_seq ?_
      refine aw_block ?_
      refine aw_seq_dr ⟨_, 9, 26, [[], [], [0, 1], [0, 1, 2], [], [], [4, 5], [4, 5, 6], [0, 1, 2, 3, 4, 5, 6, 7]], [.light, .light, .light, .mem, .light, .light, .light, .mem, .light]⟩ (by kernel_rfl) rfl rfl mix ?_
      obtain ⟨x, hx⟩ := get_ex (show k < X.length by omega)
      obtain ⟨bi, oi, hai, hci⟩ := hs.at_ _ _ hx
      obtain ⟨y, hy⟩ := get_ex (show k < Y.length by omega)
      obtain ⟨bj, oj, haj, hcj⟩ := ht.at_ _ _ hy
      refine dr_l (x_move rfl) ?_
      refine dr_l (x_move rfl) ?_
      refine dr_l (x_indexAddrN (k) Try.underlying50 sz3 rfl hai rfl (by omega) (by omega)) ?_
      refine dr_mem0 rfl rfl (wtd_none rfl) (x_load ag3 rfl (cells_get (Cells.mono hci Sub.autoR) 0 rfl)) ?_
      refine dr_l (x_move rfl) ?_
      refine dr_l (x_move rfl) ?_
      refine dr_l (x_indexAddrN (k) Try.underlying50 sz3 rfl haj rfl (by omega) (by omega)) ?_
      refine dr_mem0 rfl rfl (wtd_none rfl) (x_load ag3 rfl (cells_get (Cells.mono hcj Sub.autoR) 0 rfl)) ?_
      refine dr_cmp rfl rfl (wtd_none rfl) (x_ne rfl rfl) (fun h3 => ?_) (fun h3 => ?_)
      · refine dr_nil0 ?_
        refine aw_kp [0, 1, 5, 11, 12, 13, 14, 17, 18, 19, 20, 21, 22, 23, 24, 25] ?_
        refine aw_true rfl ?_
        refine aw_seq_region ?_
        refine sr_as ?_
        refine sr_nil ?_
        refine aw_kp [0, 1, 4, 5, 11, 12, 13, 14, 17, 18, 19, 20, 21, 22, 23, 24, 25] ?_
        refine aw_ret ?_
        show ∃ v H2, ResV _ _ _ _ _ _ v ∧ Sub H2 _ ∧ _
        first | exact ⟨_, H, resV rfl (.cons rfl .nil), Sub.refl _, congrArg Value.bool (decide_eq_true (ext_upto (by omega) (by omega) hok)).symm, rfl⟩ | exact ⟨_, H, resV rfl (.cons rfl .nil), Sub.refl _, congrArg Value.bool (decide_eq_false (fun e9 => by (rw [← e9, hx] at hy; cases hy; omega))).symm, rfl⟩ | exact ⟨_, H, resV rfl (.cons rfl .nil), Sub.refl _, congrArg Value.bool (decide_eq_false (fun e9 => by (have := congrArg List.length e9; omega))).symm, rfl⟩
      · refine dr_nil0 ?_
        refine aw_kp [0, 1, 5, 11, 12, 13, 14, 17, 18, 19, 20, 21, 22, 23, 24, 25] ?_
        refine aw_false rfl ?_
        refine aw_skip ?_
        show AW _ _ _ _ _ _ _
        refine aw_region ?_
        refine sr_mv ?_
        refine sr_rd (x_add' rfl rfl (i64w (by omega) (by omega))) ?_
        refine sr_as ?_
        refine sr_nil ?_
        show ∃ s', _ ∧ _ ∧ _ ∧ _
        exact ⟨k + 1, ⟨by omega, fun j h => (Nat.lt_or_eq_of_le (Nat.le_of_lt_succ h)).elim (hok j) fun e9 => by (rw [e9, hx, hy]; exact congrArg some (by omega))⟩, by omega, KeepF.auto, Sub.autoR⟩
    · refine sr_nil ?_
      refine aw_kp [0, 1, 5, 11, 12, 13, 14] ?_
      refine aw_false rfl ?_
      refine aw_exit ?_
      show AW _ _ _ _ _ _ _
      refine aw_seq_region ?_
      refine sr_as ?_
      refine sr_nil ?_
      refine aw_kp [4] ?_
      refine aw_ret ?_
      show ∃ v H2, ResV _ _ _ _ _ _ v ∧ Sub H2 _ ∧ _
      first | exact ⟨_, H, resV rfl (.cons rfl .nil), Sub.refl _, congrArg Value.bool (decide_eq_true (ext_upto (by omega) (by omega) hok)).symm, rfl⟩ | exact ⟨_, H, resV rfl (.cons rfl .nil), Sub.refl _, congrArg Value.bool (decide_eq_false (fun e9 => by (rw [← e9, hx] at hy; cases hy; omega))).symm, rfl⟩ | exact ⟨_, H, resV rfl (.cons rfl .nil), Sub.refl _, congrArg Value.bool (decide_eq_false (fun e9 => by (have := congrArg List.length e9; omega))).symm, rfl⟩
end
end Go.Proofs.Ytonpnkekcipmlaa
