/- Pools: what their functions come to, for any entries. -/
import Derived.Test.YteilocpjikmmdaaRetB
namespace Go.Proofs.Yteilocpjikmmdaa
open Go.Proofs.Yteilocpjikmmdaa.Sym
open Go.RowKit (Below)
set_option linter.unusedVariables false
set_option linter.unusedSimpArgs false
structure Entry where
  at_ : Int
  tries : Int
  req : Request
@[reducible] def Entry.cells (j : Entry) : List Value := [.int .i64 j.at_, .int .i64 j.tries, .int .i64 j.req.kind, .int .i64 j.req.id, .int .i64 j.req.user, .int .i64 j.req.width, .int .i64 j.req.limit, .int .i64 j.req.prio, .bool j.req.held, .int .i64 j.req.node, .int .i64 j.req.by_]
@[reducible] def Entry.v (j : Entry) : Value := .agg (Entry.cells j).toArray
def Entry.Wf (j : Entry) : Prop := (IntKind.min .i64 ≤ j.at_ ∧ j.at_ ≤ IntKind.max .i64) ∧ (IntKind.min .i64 ≤ j.tries ∧ j.tries ≤ IntKind.max .i64) ∧ j.req.Wf
theorem all_drop {L : List Value} {k : Nat} (h : L.all oneCell = true) : (L.drop k).all oneCell = true := List.all_eq_true.2 fun v hv => List.all_eq_true.1 h v (List.mem_of_mem_drop hv)
theorem ins_len {L N : List Value} {i n s : Nat} (hL : L.length = n * s) (hN : N.length = s) (hi : i ≤ n) : (L.take (i * s) ++ N ++ L.drop (i * s)).length = (n + 1) * s := by
  have h1 : i * s ≤ n * s := Nat.mul_le_mul_right _ hi
  rw [List.length_append, List.length_append, List.length_take, List.length_drop, hL, hN, Nat.add_mul, Nat.one_mul]; omega
theorem wf_ne {W0 : World} {b r : Nat} {o p : Obj} {G : SHeap} (h : Wf W0 ((b, o) :: (r, p) :: G)) : b ≠ r := by
  have := h.1
  rw [keys_cons, keys_cons, List.nodup_cons] at this
  intro e; subst e; exact this.1 List.mem_cons_self
theorem cells_lt {W0 : World} {H : SHeap} {b : Nat} {L post : List Value} {e : TypeId} {fz : Nat × Nat} (hm : (b, Obj.cells (L ++ post).toArray e fz) ∈ H) (k : Nat) : Cells W0 H b 0 (L.take k) :=
  ⟨_, e, fz, fun hw => hw.obj hm, fun j v hv => by
    rw [List.getElem?_take] at hv
    split at hv
    · rw [List.getElem?_toArray, Nat.zero_add, List.getElem?_append_left (get_lt hv)]; exact hv
    · cases hv⟩
theorem cells_ld {W0 : World} {H : SHeap} {b : Nat} {L post : List Value} {e : TypeId} {fz : Nat × Nat} (hm : (b, Obj.cells (L ++ post).toArray e fz) ∈ H) (k : Nat) : Cells W0 H b (0 + k) (L.drop k) :=
  ⟨_, e, fz, fun hw => hw.obj hm, fun j v hv => by
    rw [List.getElem?_drop] at hv
    rw [List.getElem?_toArray, Nat.zero_add, List.getElem?_append_left (get_lt hv)]; exact hv⟩
theorem shr1 (i j : Nat) : Value.int .u64 (((i : Int) + j).fdiv (2 ^ (min (1 : Int).toNat (IntKind.bits .u64)))) = .int .u64 (((i + j) / 2 : Nat) : Int) := by
  congr 1
  rw [show (2 : Int) ^ (min (1 : Int).toNat (IntKind.bits .u64)) = 2 from rfl, Int.fdiv_eq_ediv_of_nonneg _ (by omega)]; omega
theorem bs_lo {α : Type} {xs : List α} {c : α → Int} {m : Nat} {x : α} (hx : xs[m]? = some x) (hmono : ∀ (i j : Nat) (x y : α), i ≤ j → xs[i]? = some x → xs[j]? = some y → 0 ≤ c x → 0 ≤ c y) (h : c x < 0) : ∀ k y, k < m + 1 → xs[k]? = some y → c y < 0 := by
  intro k y hk hy
  rcases Int.lt_or_le (c y) 0 with h1 | h1
  · exact h1
  · have := hmono k m y x (by omega) hy hx h1
    omega
theorem bs_hi {α : Type} {xs : List α} {c : α → Int} {m : Nat} {x : α} (hx : xs[m]? = some x) (hmono : ∀ (i j : Nat) (x y : α), i ≤ j → xs[i]? = some x → xs[j]? = some y → 0 ≤ c x → 0 ≤ c y) (h : 0 ≤ c x) : ∀ k y, m ≤ k → xs[k]? = some y → 0 ≤ c y :=
  fun k y hk hy => hmono m k x y hk hx hy h
@[reducible] def poolC (r : Rule) (sl : Value) (m : Nat) : List Value := [.int .i64 r.most, .bool r.timed, .bool r.cancel, .int .i64 r.wait, .int .i64 r.grow, sl, .map (some m), .bool true]
@[reducible] def pool (p : Nat) (r : Rule) (sl : Value) (m : Nat) : Nat × Obj := (p, .cells (poolC r sl m).toArray 107 (0, 0))
@[reducible] def rmap (m : Nat) (es : List MapEntry) (clk : Nat) : Nat × Obj := (m, .map es.toArray clk)
def nextL : List Entry → Int
  | [] => -1
  | e :: _ => e.at_
theorem nextL_nil {W : List Entry} (h : W.length = 0) : nextL W = -1 := by cases W with
  | nil => rfl
  | cons => simp at h
theorem nextL_cons {W : List Entry} {e : Entry} (h : W[0]? = some e) : nextL W = e.at_ := by cases W with
  | nil => simp at h
  | cons x W => have : x = e := by simpa using h
                subst this; rfl
theorem all_oneE (W : List Entry) : (W.flatMap Entry.cells).all oneCell = true := by
  induction W with
  | nil => rfl
  | cons j l ih => rw [List.flatMap_cons, List.all_append, ih]; rfl
def dueN : List Entry → Int → Nat
  | [], _ => 0
  | e :: W, t => if e.at_ ≤ t then dueN W t + 1 else 0
theorem dueN_eq : ∀ {W : List Entry} {t : Int} {k : Nat}, k ≤ W.length → (∀ i e, i < k → W[i]? = some e → e.at_ ≤ t) → (∀ e, W[k]? = some e → ¬ e.at_ ≤ t) → dueN W t = k
  | [], t, k, h, _, _ => by have : k = 0 := by simpa using h
                            subst this; rfl
  | e :: W, t, 0, _, _, h => by unfold dueN; rw [if_neg (h e rfl)]
  | e :: W, t, k + 1, h1, h2, h3 => by
    unfold dueN
    rw [if_pos (h2 0 e (by omega) rfl), dueN_eq (W := W) (k := k) (by simpa using h1) (fun i x hi hx => h2 (i + 1) x (by omega) (by simpa using hx)) (fun x hx => h3 x (by simpa using hx))]
def SrtE (W : List Entry) : Prop := W.Pairwise fun x y => x.at_ ≤ y.at_
theorem srtE_le {W : List Entry} (h : SrtE W) {i j : Nat} {x y : Entry} (hij : i ≤ j) (hx : W[i]? = some x) (hy : W[j]? = some y) : x.at_ ≤ y.at_ := by
  rcases Nat.lt_or_eq_of_le hij with h1 | rfl
  · have hi := get_lt hx
    have hj := get_lt hy
    have h2 := (List.pairwise_iff_getElem.1 h) i j hi hj h1
    rw [List.getElem?_eq_getElem hi] at hx
    rw [List.getElem?_eq_getElem hj] at hy
    cases hx; cases hy
    exact h2
  · rw [hx] at hy; cases hy; exact Int.le_refl _
def AtE (W : List Entry) (t : Int) (i : Nat) : Prop := i ≤ W.length ∧ (∀ k x, k < i → W[k]? = some x → x.at_ ≤ t) ∧ (∀ k x, i ≤ k → W[k]? = some x → t < x.at_)
theorem le_neg {a t : Int} (h : (if a ≤ t then (-1 : Int) else 1) < 0) : a ≤ t := by split at h <;> omega
theorem gt_pos {a t : Int} (h : 0 ≤ (if a ≤ t then (-1 : Int) else 1)) : t < a := by split at h <;> omega
theorem mono_le {W : List Entry} (h : SrtE W) {t : Int} {i j : Nat} {x y : Entry} (hij : i ≤ j) (hx : W[i]? = some x) (hy : W[j]? = some y) (h0 : 0 ≤ (if x.at_ ≤ t then (-1 : Int) else 1)) : 0 ≤ (if y.at_ ≤ t then (-1 : Int) else 1) := by
  have h1 := gt_pos h0
  have h2 := srtE_le h hij hx hy
  rw [if_neg (by omega)]; omega
def insE (W : List Entry) (i : Nat) (e : Entry) : List Entry := W.take i ++ e :: W.drop i
theorem insE_len {W : List Entry} {i : Nat} {e : Entry} (h : i ≤ W.length) : (insE W i e).length = W.length + 1 := by
  unfold insE; rw [List.length_append, List.length_take, List.length_cons, List.length_drop]; omega
theorem insE_cells (W : List Entry) (i : Nat) (e : Entry) : (W.flatMap Entry.cells).take (i * 11) ++ e.cells ++ (W.flatMap Entry.cells).drop (i * 11) = (insE W i e).flatMap Entry.cells := by
  unfold insE
  have h : ∀ (W : List Entry) (i : Nat), (W.flatMap Entry.cells).take (i * 11) = (W.take i).flatMap Entry.cells ∧ (W.flatMap Entry.cells).drop (i * 11) = (W.drop i).flatMap Entry.cells := by
    intro W
    induction W with
    | nil => intro i; simp
    | cons x W ih =>
      intro i
      cases i with
      | zero => simp
      | succ i =>
        have e : (i + 1) * 11 = x.cells.length + i * 11 := by rw [show x.cells.length = 11 from rfl]; omega
        rw [List.flatMap_cons, e, List.take_length_add_append, List.drop_length_add_append, (ih i).1, (ih i).2]
        simp
  rw [(h W i).1, (h W i).2, List.flatMap_append, List.flatMap_cons, List.append_assoc]
theorem ag104 : aggOf Try.prog 104 = some false := by kernel_rfl
theorem ag105 : aggOf Try.prog 105 = some false := by kernel_rfl
theorem ag113 : aggOf Try.prog 113 = some true := by kernel_rfl
theorem by113 : bytesOf Try.prog 113 = some 88 := by kernel_rfl
theorem cl115 : Callable Try.prog 115 := ⟨Try.f115, Try.func115, by kernel_rfl, by kernel_rfl⟩
theorem cl116 : Callable Try.prog 116 := ⟨Try.f116, Try.func116, by kernel_rfl, by kernel_rfl⟩
theorem cl118 : Callable Try.prog 118 := ⟨Try.f118, Try.func118, by kernel_rfl, by kernel_rfl⟩
theorem cl119 : Callable Try.prog 119 := ⟨Try.f119, Try.func119, by kernel_rfl, by kernel_rfl⟩
theorem cl120 : Callable Try.prog 120 := ⟨Try.f120, Try.func120, by kernel_rfl, by kernel_rfl⟩
theorem cl56 : Callable Try.prog 56 := ⟨Try.f56, Try.func56, by kernel_rfl, by kernel_rfl⟩
theorem cl71 : Callable Try.prog 71 := ⟨Try.f71, Try.func71, by kernel_rfl, by kernel_rfl⟩
theorem exf139 : Extern.find Try.f139 = some (Extern.SlicesOverlaps.overlaps Try.f139.params Try.f139.resultTypes) := by kernel_rfl
theorem exn139 : Extern.findNext Try.f139 = none := by kernel_rfl
theorem fd107_0 : fldOf Try.prog 107 0 = some (0, 89, 5) := by kernel_rfl
theorem fd107_1 : fldOf Try.prog 107 1 = some (5, 104, 1) := by kernel_rfl
theorem fd107_2 : fldOf Try.prog 107 2 = some (6, 105, 1) := by kernel_rfl
theorem fd107_3 : fldOf Try.prog 107 3 = some (7, 4, 1) := by kernel_rfl
theorem fd113_0 : fldOf Try.prog 113 0 = some (0, 2, 1) := by kernel_rfl
theorem fd113_1 : fldOf Try.prog 113 1 = some (1, 3, 1) := by kernel_rfl
theorem fd91_4 : fldOf Try.prog 91 4 = some (4, 3, 1) := by kernel_rfl
theorem fl107 : flds Try.prog 107 = some [(0, 5), (5, 1), (6, 1), (7, 1)] := by kernel_rfl
theorem fl113 : flds Try.prog 113 = some [(0, 1), (1, 1), (2, 9)] := by kernel_rfl
theorem fl36 : flds Try.prog 36 = some [(0, 1), (1, 1), (2, 1), (3, 1), (4, 1), (5, 1), (6, 1), (7, 1), (8, 1)] := by kernel_rfl
theorem sz104 : szOf Try.prog 104 = some 1 := by kernel_rfl
theorem sz113 : szOf Try.prog 113 = some 11 := by kernel_rfl
theorem zr107 : zeroOf Try.prog 107 = some (.agg #[.int .i64 0, .bool false, .bool false, .int .i64 0, .int .i64 0, .slice none 0 0, .map none, .bool false]) := by kernel_rfl
theorem zr113 : zeroOf Try.prog 113 = some (.agg #[.int .i64 0, .int .i64 0, .int .i64 0, .int .i64 0, .int .i64 0, .int .i64 0, .int .i64 0, .int .i64 0, .bool false, .int .i64 0, .int .i64 0]) := by kernel_rfl
theorem zr3 : zeroOf Try.prog 3 = some (.int .i64 0) := by kernel_rfl
theorem zr36 : zeroOf Try.prog 36 = some (.agg #[.int .i64 0, .int .i64 0, .int .i64 0, .int .i64 0, .int .i64 0, .int .i64 0, .bool false, .int .i64 0, .int .i64 0]) := by kernel_rfl
section
variable {W0 : World}
set_option maxRecDepth 100000 in
set_option maxHeartbeats 400000 in
theorem rnew_s (r : Rule) (H : SHeap) (hr : RRight r) : AC Try.prog W0 64 [r.v] H (fun v H' => ∃ p m, v = .tuple #[.pointer (some ⟨p, 0, none⟩), .int .i64 0] ∧ H' = pool p r (.slice none 0 0) m :: rmap m [] 0 :: H) := by
  refine ac_of Try.func64 rfl rfl rfl ?_
  refine aw_seq_region ?_
  refine sr_new rfl (wtd_none rfl) rfl (x_box rfl rfl) ?_
  intro r0_0 hr0_0 gr0_0
  refine sr_x rfl (wtd_none rfl) rfl (Rd.x (x_assign rfl)) ?_
  refine sr_x rfl (wtd_none rfl) rfl (Rd.x (x_assign rfl)) ?_
  refine sr_nil ?_
  refine aw_keep (keep_cons (t := 1) rfl (keep_cons (t := 2) rfl (keep_cons (t := 3) rfl keep_nil))) ?_
  refine aw_seq ?_
  refine aw_seq_region ?_
  refine sr_x rfl (wtd_none rfl) rfl (Rd.x (x_loadN ag89 sz89 rfl (cells_ext (by repeat (first | exact List.mem_cons_self | apply List.mem_cons_of_mem | apply List.mem_append_right)) (by repeat (first | exact Ext.all _ | exact Ext.done | apply Ext.take | apply Ext.skip))) rfl)) ?_
  refine sr_d rfl (wtd_none rfl) rfl (opS_call rfl rfl rfl rfl cl54 (rright54_s _ _)) ?_
  rintro _ H ⟨rfl, rfl⟩
  rw [decide_eq_true hr]
  refine sr_x rfl (wtd_none rfl) rfl (Rd.x (x_not rfl)) ?_
  refine sr_nil ?_
  refine aw_keep (keep_cons (t := 1) rfl (keep_cons (t := 2) rfl (keep_cons (t := 3) rfl (keep_cons (t := 6) rfl keep_nil)))) ?_
  refine aw_false rfl ?_
  refine aw_skip ?_
  show AW _ _ _ _ _ _ _
  refine aw_seq_region ?_
  refine sr_x rfl (wtd_none rfl) rfl (Rd.x (x_loadN ag89 sz89 rfl (cells_ext (by repeat (first | exact List.mem_cons_self | apply List.mem_cons_of_mem | apply List.mem_append_right)) (by repeat (first | exact Ext.all _ | exact Ext.done | apply Ext.take | apply Ext.skip))) rfl)) ?_
  refine sr_new rfl (wtd_none rfl) rfl (x_makeMap) ?_
  intro r3_1 hr3_1 gr3_1
  refine sr_x rfl (wtd_none rfl) rfl (Rd.x (x_build zr107 rfl fl107 (by repeat (first | exact Parts.nil | (apply Parts.cons; rfl))) (by repeat (first | exact Fill.done | (apply Fill.part; rfl; rfl; rfl; focus (repeat (first | exact Spl.done | exact Spl.all rfl | apply Spl.put | apply Spl.skip))))))) ?_
  refine sr_new rfl (wtd_none rfl) rfl (x_box rfl rfl) ?_
  intro r3_3 hr3_3 gr3_3
  refine sr_x rfl (wtd_none rfl) rfl (Rd.x (x_assign rfl)) ?_
  refine sr_x rfl (wtd_none rfl) rfl (Rd.x (x_assign rfl)) ?_
  refine sr_nil ?_
  refine aw_keep (keep_cons (t := 2) rfl (keep_cons (t := 3) rfl keep_nil)) ?_
  refine aw_ret ?_
  show ∃ v H2, ResV _ _ _ _ _ _ v ∧ Sub H2 _ ∧ _
  exact ⟨_, pool r3_3 r (.slice none 0 0) r3_1 :: rmap r3_1 [] 0 :: H, resV rfl (.cons rfl (.cons rfl .nil)), (by (repeat (first | exact Sub.refl _ | refine Sub.take (by repeat (first | exact Take.here | apply Take.there | apply Take.app)) ?_ | refine Sub.takeE (by repeat (first | exact TakeE.here | apply TakeE.there | apply TakeE.app)) ?_ | exact Sub.nil _ | apply Sub.drop | apply Sub.dropE)); first | done | fail), _, _, rfl, rfl⟩
set_option maxRecDepth 100000 in
set_option maxHeartbeats 400000 in
theorem rnewBad_s (r : Rule) (H : SHeap) (hr : ¬ RRight r) : AC Try.prog W0 64 [r.v] H (fun v H' => v = .tuple #[.pointer none, .int .i64 1] ∧ H' = H) := by
  refine ac_of Try.func64 rfl rfl rfl ?_
  refine aw_seq_region ?_
  refine sr_new rfl (wtd_none rfl) rfl (x_box rfl rfl) ?_
  intro r0_0 hr0_0 gr0_0
  refine sr_x rfl (wtd_none rfl) rfl (Rd.x (x_assign rfl)) ?_
  refine sr_x rfl (wtd_none rfl) rfl (Rd.x (x_assign rfl)) ?_
  refine sr_nil ?_
  refine aw_keep (keep_cons (t := 1) rfl (keep_cons (t := 2) rfl (keep_cons (t := 3) rfl keep_nil))) ?_
  refine aw_seq ?_
  refine aw_seq_region ?_
  refine sr_x rfl (wtd_none rfl) rfl (Rd.x (x_loadN ag89 sz89 rfl (cells_ext (by repeat (first | exact List.mem_cons_self | apply List.mem_cons_of_mem | apply List.mem_append_right)) (by repeat (first | exact Ext.all _ | exact Ext.done | apply Ext.take | apply Ext.skip))) rfl)) ?_
  refine sr_d rfl (wtd_none rfl) rfl (opS_call rfl rfl rfl rfl cl54 (rright54_s _ _)) ?_
  rintro _ H ⟨rfl, rfl⟩
  rw [decide_eq_false hr]
  refine sr_x rfl (wtd_none rfl) rfl (Rd.x (x_not rfl)) ?_
  refine sr_nil ?_
  refine aw_keep (keep_cons (t := 1) rfl (keep_cons (t := 2) rfl (keep_cons (t := 3) rfl (keep_cons (t := 6) rfl keep_nil)))) ?_
  refine aw_true rfl ?_
  refine aw_seq_region ?_
  refine sr_x rfl (wtd_none rfl) rfl (Rd.x (x_assign rfl)) ?_
  refine sr_x rfl (wtd_none rfl) rfl (Rd.x (x_assign rfl)) ?_
  refine sr_nil ?_
  refine aw_keep (keep_cons (t := 1) rfl (keep_cons (t := 2) rfl (keep_cons (t := 3) rfl keep_nil))) ?_
  refine aw_ret ?_
  show ∃ v H2, ResV _ _ _ _ _ _ v ∧ Sub H2 _ ∧ _
  exact ⟨_, H, resV rfl (.cons rfl (.cons rfl .nil)), (by repeat (first | exact Sub.refl _ | apply Sub.drop)), ⟨rfl, rfl⟩⟩
set_option maxRecDepth 100000 in
set_option maxHeartbeats 400000 in
theorem rnone_s (p : Nat) (r : Rule) (sl : Value) (m : Nat) (H : SHeap) (hc : Cells W0 H p 0 (poolC r sl m)) : AC Try.prog W0 115 [.pointer (some ⟨p, 0, none⟩)] H (fun v H' => v = .bool false ∧ H' = H) := by
  refine ac_of Try.func115 rfl rfl rfl ?_
  refine aw_seq_region ?_
  refine sr_x rfl (wtd_none rfl) rfl (Rd.x (x_assign rfl)) ?_
  refine sr_nil ?_
  refine aw_keep (keep_cons (t := 0) rfl (keep_cons (t := 2) rfl keep_nil)) ?_
  refine aw_seq_region ?_
  refine sr_x rfl (wtd_none rfl) rfl (Rd.x (x_move rfl)) ?_
  refine sr_x rfl (wtd_none rfl) rfl (Rd.x (x_eqnil Try.underlying101 rfl rfl)) ?_
  refine sr_x rfl (wtd_none rfl) rfl (Rd.x (x_move rfl)) ?_
  refine sr_x rfl (wtd_yes rfl rfl rfl) rfl (Rd.x (x_move rfl)) ?_
  refine sr_x rfl (wtd_yes rfl rfl rfl) rfl (Rd.x (x_nilCheck rfl)) ?_
  refine sr_x rfl (wtd_yes rfl rfl rfl) rfl (Rd.x (x_fieldAddr fd107_3 rfl)) ?_
  refine sr_x rfl (wtd_yes rfl rfl rfl) rfl (Rd.x (x_load ag4 rfl (cells_get (Cells.mono hc (by repeat (first | exact Sub.refl _ | apply Sub.drop))) 7 rfl))) ?_
  refine sr_x rfl (wtd_yes rfl rfl rfl) rfl (Rd.x (x_not rfl)) ?_
  refine sr_x rfl (wtd_none rfl) rfl (Rd.x (x_pick_f rfl rfl rfl)) ?_
  refine sr_x rfl (wtd_none rfl) rfl (Rd.x (x_assign rfl)) ?_
  refine sr_nil ?_
  refine aw_keep (keep_cons (t := 2) rfl keep_nil) ?_
  refine aw_ret ?_
  show ∃ v H2, ResV _ _ _ _ _ _ v ∧ Sub H2 _ ∧ _
  exact ⟨_, H, resV rfl (.cons rfl .nil), (by repeat (first | exact Sub.refl _ | apply Sub.drop)), ⟨rfl, rfl⟩⟩
set_option maxRecDepth 100000 in
set_option maxHeartbeats 400000 in
theorem rleft_s (p : Nat) (r : Rule) (a : Option Addr) (cap : Nat) (W : List Entry) (m : Nat) (H : SHeap) (hc : Cells W0 H p 0 (poolC r (.slice a W.length cap) m)) : AC Try.prog W0 71 [.pointer (some ⟨p, 0, none⟩)] H (fun v H' => v = .int .i64 W.length ∧ H' = H) := by
  refine ac_of Try.func71 rfl rfl rfl ?_
  refine aw_seq_region ?_
  refine sr_x rfl (wtd_none rfl) rfl (Rd.x (x_assign rfl)) ?_
  refine sr_nil ?_
  refine aw_keep (keep_cons (t := 0) rfl (keep_cons (t := 2) rfl keep_nil)) ?_
  refine aw_seq ?_
  refine aw_seq_region ?_
  refine sr_x rfl (wtd_none rfl) rfl (Rd.x (x_move rfl)) ?_
  refine sr_d rfl (wtd_none rfl) rfl (opS_call rfl rfl rfl rfl cl115 (rnone_s p r _ m _ (Cells.mono hc (by repeat (first | exact Sub.refl _ | apply Sub.drop))))) ?_
  rintro _ H ⟨rfl, rfl⟩
  refine sr_nil ?_
  refine aw_keep (keep_cons (t := 0) rfl (keep_cons (t := 2) rfl (keep_cons (t := 4) rfl keep_nil))) ?_
  refine aw_false rfl ?_
  refine aw_skip ?_
  show AW _ _ _ _ _ _ _
  refine aw_seq_region ?_
  refine sr_x rfl (wtd_none rfl) rfl (Rd.x (x_move rfl)) ?_
  refine sr_x rfl (wtd_none rfl) rfl (Rd.x (x_nilCheck rfl)) ?_
  refine sr_x rfl (wtd_none rfl) rfl (Rd.x (x_fieldAddr fd107_1 rfl)) ?_
  refine sr_x rfl (wtd_none rfl) rfl (Rd.x (x_load ag104 rfl (cells_get (Cells.mono hc (by repeat (first | exact Sub.refl _ | apply Sub.drop))) 5 rfl))) ?_
  refine sr_x rfl (wtd_none rfl) rfl (Rd.x (x_lenSlice Try.underlying104 rfl)) ?_
  refine sr_x rfl (wtd_none rfl) rfl (Rd.x (x_assign rfl)) ?_
  refine sr_nil ?_
  refine aw_keep (keep_cons (t := 2) rfl keep_nil) ?_
  refine aw_ret ?_
  show ∃ v H2, ResV _ _ _ _ _ _ v ∧ Sub H2 _ ∧ _
  exact ⟨_, H, resV rfl (.cons rfl .nil), (by repeat (first | exact Sub.refl _ | apply Sub.drop)), ⟨rfl, rfl⟩⟩
set_option maxRecDepth 100000 in
set_option maxHeartbeats 400000 in
theorem rnext_s (p : Nat) (r : Rule) (a : Option Addr) (cap : Nat) (W : List Entry) (m : Nat) (H : SHeap) (hc : Cells W0 H p 0 (poolC r (.slice a W.length cap) m)) (hs : SlV W0 H 11 Entry.cells a cap W) : AC Try.prog W0 72 [.pointer (some ⟨p, 0, none⟩)] H (fun v H' => v = .int .i64 (nextL W) ∧ H' = H) := by
  have hle := hs.le
  have hcb := hs.capb
  refine ac_of Try.func72 rfl rfl rfl ?_
  refine aw_seq_region ?_
  refine sr_x rfl (wtd_none rfl) rfl (Rd.x (x_assign rfl)) ?_
  refine sr_nil ?_
  refine aw_keep (keep_cons (t := 0) rfl (keep_cons (t := 2) rfl keep_nil)) ?_
  refine aw_seq ?_
  refine aw_seq_region ?_
  refine sr_x rfl (wtd_none rfl) rfl (Rd.x (x_move rfl)) ?_
  refine sr_d rfl (wtd_none rfl) rfl (opS_call rfl rfl rfl rfl cl71 (rleft_s p r a cap W m _ (Cells.mono hc (by repeat (first | exact Sub.refl _ | apply Sub.drop))))) ?_
  rintro _ H ⟨rfl, rfl⟩
  refine sr_cmp rfl (wtd_none rfl) rfl (Rd.x (x_eq rfl rfl)) (fun h1 => ?_) (fun h1 => ?_)
  · refine sr_nil ?_
    refine aw_keep (keep_cons (t := 0) rfl (keep_cons (t := 2) rfl (keep_cons (t := 5) rfl keep_nil))) ?_
    refine aw_true rfl ?_
    refine aw_seq_region ?_
    refine sr_x rfl (wtd_none rfl) rfl (Rd.x (x_assign rfl)) ?_
    refine sr_nil ?_
    refine aw_keep (keep_cons (t := 0) rfl (keep_cons (t := 2) rfl keep_nil)) ?_
    refine aw_ret ?_
    show ∃ v H2, ResV _ _ _ _ _ _ v ∧ Sub H2 _ ∧ _
    exact ⟨_, H, resV rfl (.cons rfl .nil), (by repeat (first | exact Sub.refl _ | apply Sub.drop)), (by first | exact ⟨congrArg (Value.int .i64) (nextL_nil (by omega)).symm, rfl⟩ | exact ⟨congrArg (Value.int .i64) (nextL_cons he).symm, rfl⟩)⟩
  · refine sr_nil ?_
    refine aw_keep (keep_cons (t := 0) rfl (keep_cons (t := 2) rfl (keep_cons (t := 5) rfl keep_nil))) ?_
    refine aw_false rfl ?_
    refine aw_skip ?_
    show AW _ _ _ _ _ _ _
    refine aw_seq_region ?_
    obtain ⟨e, he⟩ := get_ex (show 0 < W.length by omega)
    obtain ⟨be, oe, hae, hce⟩ := hs.at_ 0 _ he
    refine sr_x rfl (wtd_none rfl) rfl (Rd.x (x_move rfl)) ?_
    refine sr_x rfl (wtd_none rfl) rfl (Rd.x (x_nilCheck rfl)) ?_
    refine sr_x rfl (wtd_none rfl) rfl (Rd.x (x_fieldAddr fd107_1 rfl)) ?_
    refine sr_x rfl (wtd_none rfl) rfl (Rd.x (x_load ag104 rfl (cells_get (Cells.mono hc (by repeat (first | exact Sub.refl _ | apply Sub.drop))) 5 rfl))) ?_
    refine sr_x rfl (wtd_none rfl) rfl (Rd.x (x_indexAddrN 0 Try.underlying104 sz113 rfl hae rfl (by omega) (by omega))) ?_
    refine sr_x rfl (wtd_none rfl) rfl (Rd.x (x_fieldAddr fd113_0 rfl)) ?_
    refine sr_x rfl (wtd_none rfl) rfl (Rd.x (x_load ag2 rfl (cells_get (Cells.mono hce (by repeat (first | exact Sub.refl _ | apply Sub.drop))) 0 rfl))) ?_
    refine sr_x rfl (wtd_none rfl) rfl (Rd.x (x_assign rfl)) ?_
    refine sr_nil ?_
    refine aw_keep (keep_cons (t := 2) rfl keep_nil) ?_
    refine aw_ret ?_
    show ∃ v H2, ResV _ _ _ _ _ _ v ∧ Sub H2 _ ∧ _
    exact ⟨_, H, resV rfl (.cons rfl .nil), (by repeat (first | exact Sub.refl _ | apply Sub.drop)), (by first | exact ⟨congrArg (Value.int .i64) (nextL_nil (by omega)).symm, rfl⟩ | exact ⟨congrArg (Value.int .i64) (nextL_cons he).symm, rfl⟩)⟩
set_option maxRecDepth 100000 in
set_option maxHeartbeats 400000 in
theorem rcmp_s (e : Entry) (t : Int) (H : SHeap) : AC Try.prog W0 119 [e.v, .int .i64 t] H (fun v H' => v = .int .i64 (if e.at_ ≤ t then -1 else 1) ∧ H' = H) := by
  refine ac_of Try.func119 rfl rfl rfl ?_
  refine aw_seq_region ?_
  refine sr_new rfl (wtd_none rfl) rfl (x_box rfl rfl) ?_
  intro r0_0 hr0_0 gr0_0
  refine sr_x rfl (wtd_none rfl) rfl (Rd.x (x_assign rfl)) ?_
  refine sr_nil ?_
  refine aw_keep (keep_cons (t := 1) rfl (keep_cons (t := 2) rfl (keep_cons (t := 4) rfl keep_nil))) ?_
  refine aw_seq ?_
  refine aw_seq_region ?_
  refine sr_x rfl (wtd_none rfl) rfl (Rd.x (x_fieldAddr fd113_0 rfl)) ?_
  refine sr_x rfl (wtd_none rfl) rfl (Rd.x (x_load ag2 rfl (cells_ext (by repeat (first | exact List.mem_cons_self | apply List.mem_cons_of_mem | apply List.mem_append_right)) (by repeat (first | exact Ext.all _ | exact Ext.done | apply Ext.take | apply Ext.skip))))) ?_
  refine sr_x rfl (wtd_none rfl) rfl (Rd.x (x_move rfl)) ?_
  refine sr_cmp rfl (wtd_none rfl) rfl (Rd.x (x_le rfl rfl)) (fun h1 => ?_) (fun h1 => ?_)
  · refine sr_nil ?_
    refine aw_keep (keep_cons (t := 4) rfl (keep_cons (t := 8) rfl keep_nil)) ?_
    refine aw_true rfl ?_
    refine aw_seq_region ?_
    refine sr_x rfl (wtd_none rfl) rfl (Rd.x (x_assign rfl)) ?_
    refine sr_nil ?_
    refine aw_keep (keep_cons (t := 4) rfl keep_nil) ?_
    refine aw_ret ?_
    show ∃ v H2, ResV _ _ _ _ _ _ v ∧ Sub H2 _ ∧ _
    exact ⟨_, H, resV rfl (.cons rfl .nil), (by repeat (first | exact Sub.refl _ | apply Sub.drop)), ⟨congrArg (Value.int .i64) (by first | rw [if_pos (by omega)] | rw [if_neg (by omega)]), rfl⟩⟩
  · refine sr_nil ?_
    refine aw_keep (keep_cons (t := 4) rfl (keep_cons (t := 8) rfl keep_nil)) ?_
    refine aw_false rfl ?_
    refine aw_skip ?_
    show AW _ _ _ _ _ _ _
    refine aw_seq_region ?_
    refine sr_x rfl (wtd_none rfl) rfl (Rd.x (x_assign rfl)) ?_
    refine sr_nil ?_
    refine aw_keep (keep_cons (t := 4) rfl keep_nil) ?_
    refine aw_ret ?_
    show ∃ v H2, ResV _ _ _ _ _ _ v ∧ Sub H2 _ ∧ _
    exact ⟨_, H, resV rfl (.cons rfl .nil), (by repeat (first | exact Sub.refl _ | apply Sub.drop)), ⟨congrArg (Value.int .i64) (by first | rw [if_pos (by omega)] | rw [if_neg (by omega)]), rfl⟩⟩
set_option maxRecDepth 100000 in
set_option maxHeartbeats 2000000 in
theorem rinsert_sM (r n cap i : Nat) (b : Nat) (L N post : List Value) (G : SHeap) (hL : L.length = n * 11) (hp : post.length = (cap - n) * 11) (hnc : n ≤ cap) (hcap : cap ≤ 9223372036854775807) (hN : N.length = 11) (hN1 : N.all oneCell = true) (hL1 : L.all oneCell = true) (hi : i ≤ n) (hn : n ≤ 1000000) : AC Try.prog W0 120 [.slice (some ⟨b, 0, none⟩) n cap, .int .i64 i, .slice (some ⟨r, 0, none⟩) 1 1] ((b, .cells (L ++ post).toArray 113 (0, 0)) :: (r, .cells N.toArray 113 (0, 0)) :: G) (fun v H' => ∃ a' cap' E', v = .slice a' (n + 1) cap' ∧ OwnVec 11 113 (.slice a' (n + 1) cap') (n + 1) (L.take (i * 11) ++ N ++ L.drop (i * 11)) E' ∧ H' = E' ++ G) := by
  refine ac_of Try.func120 rfl rfl rfl ?_
  refine aw_seq_region ?_
  refine sr_x rfl (wtd_none rfl) rfl (Rd.x (x_assign rfl)) ?_
  refine sr_nil ?_
  refine aw_keep (keep_cons (t := 0) rfl (keep_cons (t := 1) rfl (keep_cons (t := 2) rfl (keep_cons (t := 6) rfl keep_nil)))) ?_
  refine aw_seq_region ?_
  refine sr_x rfl (wtd_none rfl) rfl (Rd.x (x_move rfl)) ?_
  refine sr_x rfl (wtd_none rfl) rfl (Rd.x (x_move rfl)) ?_
  refine sr_x rfl (wtd_none rfl) rfl (Rd.x (x_sliceLo Try.underlying104 sz113 rfl rfl (by omega) (by omega) (by omega))) ?_
  refine sr_nil ?_
  refine aw_keep (keep_cons (t := 0) rfl (keep_cons (t := 1) rfl (keep_cons (t := 2) rfl (keep_cons (t := 6) rfl keep_nil)))) ?_
  refine aw_seq_region ?_
  refine sr_x rfl (wtd_none rfl) rfl (Rd.x (x_move rfl)) ?_
  refine sr_x rfl (wtd_none rfl) rfl (Rd.x (x_lenSlice Try.underlying104 rfl)) ?_
  refine sr_x rfl (wtd_none rfl) rfl (Rd.x (x_assign rfl)) ?_
  refine sr_nil ?_
  refine aw_keep (keep_cons (t := 0) rfl (keep_cons (t := 1) rfl (keep_cons (t := 2) rfl (keep_cons (t := 6) rfl (keep_cons (t := 7) rfl keep_nil))))) ?_
  refine aw_seq ?_
  refine aw_seq_region ?_
  refine sr_x rfl (wtd_none rfl) rfl (Rd.x (x_move rfl)) ?_
  refine sr_cmp rfl (wtd_none rfl) rfl (Rd.x (x_eq rfl rfl)) (fun h1 => absurd h1 (by first | omega | decide)) (fun h1 => ?_)
  refine sr_nil ?_
  refine aw_keep (keep_cons (t := 0) rfl (keep_cons (t := 1) rfl (keep_cons (t := 2) rfl (keep_cons (t := 6) rfl (keep_cons (t := 7) rfl (keep_cons (t := 16) rfl keep_nil)))))) ?_
  refine aw_false rfl ?_
  refine aw_skip ?_
  show AW _ _ _ _ _ _ _
  refine aw_seq_region ?_
  refine sr_x rfl (wtd_none rfl) rfl (Rd.x (x_move rfl)) ?_
  refine sr_x rfl (wtd_none rfl) rfl (Rd.x (x_lenSlice Try.underlying104 rfl)) ?_
  refine sr_x rfl (wtd_none rfl) rfl (Rd.x (x_assign rfl)) ?_
  refine sr_nil ?_
  refine aw_keep (keep_cons (t := 0) rfl (keep_cons (t := 1) rfl (keep_cons (t := 2) rfl (keep_cons (t := 6) rfl (keep_cons (t := 7) rfl (keep_cons (t := 8) rfl keep_nil)))))) ?_
  refine aw_seq ?_
  refine aw_seq_region ?_
  refine sr_x rfl (wtd_none rfl) rfl (Rd.x (x_move rfl)) ?_
  refine sr_x rfl (wtd_none rfl) rfl (Rd.x (x_move rfl)) ?_
  refine sr_cmp rfl (wtd_none rfl) rfl (Rd.x (x_eq rfl rfl)) (fun h2 => ?_) (fun h2 => ?_)
  · refine sr_nil ?_
    refine aw_keep (keep_cons (t := 0) rfl (keep_cons (t := 1) rfl (keep_cons (t := 2) rfl (keep_cons (t := 6) rfl (keep_cons (t := 7) rfl (keep_cons (t := 8) rfl (keep_cons (t := 22) rfl keep_nil))))))) ?_
    refine aw_true rfl ?_
    refine aw_seq_region ?_
    refine sr_x rfl (wtd_none rfl) rfl (Rd.x (x_move rfl)) ?_
    refine sr_x rfl (wtd_none rfl) rfl (Rd.x (x_move rfl)) ?_
    refine sr_d rfl (wtd_none rfl) rfl (opS_append (G := G) (N := N) (m := 1) Try.underlying104 sz113 zr113 rfl by113 rfl rfl (OwnVec.mk hL hp hnc hcap) (by repeat (first | exact Sub.refl _ | refine Sub.take (by repeat (first | exact Take.here | apply Take.there | apply Take.app)) ?_ | refine Sub.takeE (by repeat (first | exact TakeE.here | apply TakeE.there | apply TakeE.app)) ?_ | exact Sub.nil _ | apply Sub.drop | apply Sub.dropE)) (.inr ⟨_, _, rfl, (cells_ext (by repeat (first | exact List.mem_cons_self | apply List.mem_cons_of_mem | apply List.mem_append_right)) (by repeat (first | exact Ext.all _ | exact Ext.done | apply Ext.take | apply Ext.skip)))⟩) (by rw [hN, Nat.one_mul]) hN1 (by omega) (by omega)) ?_
    rintro v25 _ ⟨E25, hV25, rfl⟩
    obtain ⟨a25, cap25, rfl⟩ := hV25.isSl
    refine sr_x rfl (wtd_none rfl) rfl (Rd.x (x_assign rfl)) ?_
    refine sr_nil ?_
    refine aw_keep (keep_cons (t := 0) rfl (keep_cons (t := 1) rfl (keep_cons (t := 2) rfl (keep_cons (t := 6) rfl (keep_cons (t := 7) rfl (keep_cons (t := 8) rfl keep_nil)))))) ?_
    refine aw_ret ?_
    show ∃ v H2, ResV _ _ _ _ _ _ v ∧ Sub H2 _ ∧ _
    first | (rw [← ins_end (i := i) hL (by omega)] at hV25; exact ⟨_, E25 ++ G, resV rfl (.cons rfl .nil), (by (repeat (first | exact Sub.refl _ | refine Sub.take (by repeat (first | exact Take.here | apply Take.there | apply Take.app)) ?_ | refine Sub.takeE (by repeat (first | exact TakeE.here | apply TakeE.there | apply TakeE.app)) ?_ | exact Sub.nil _ | apply Sub.drop | apply Sub.dropE)); first | done | fail), a25, cap25, E25, rfl, hV25, rfl⟩) | exact ⟨_, (b2, .cells ((L.take (i * 11) ++ N ++ L.drop (i * 11)) ++ post2).toArray 113 (0, 0)) :: G, resV rfl (.cons rfl .nil), (by (repeat (first | exact Sub.refl _ | refine Sub.take (by repeat (first | exact Take.here | apply Take.there | apply Take.app)) ?_ | refine Sub.takeE (by repeat (first | exact TakeE.here | apply TakeE.there | apply TakeE.app)) ?_ | exact Sub.nil _ | apply Sub.drop | apply Sub.dropE)); first | done | fail), some ⟨b2, 0, none⟩, cap40, [(b2, .cells ((L.take (i * 11) ++ N ++ L.drop (i * 11)) ++ post2).toArray 113 (0, 0))], rfl, .mk (ins_len hL hN hi) hp2 hn2 hc2, rfl⟩ | exact ⟨_, (b, .cells ((L.take (i * 11) ++ N ++ L.drop (i * 11)) ++ post.drop 11).toArray 113 (0, 0)) :: G, resV rfl (.cons rfl .nil), (by (repeat (first | exact Sub.refl _ | refine Sub.take (by repeat (first | exact Take.here | apply Take.there | apply Take.app)) ?_ | refine Sub.takeE (by repeat (first | exact TakeE.here | apply TakeE.there | apply TakeE.app)) ?_ | exact Sub.nil _ | apply Sub.drop | apply Sub.dropE)); first | done | fail), some ⟨b, 0, none⟩, cap, [(b, .cells ((L.take (i * 11) ++ N ++ L.drop (i * 11)) ++ post.drop 11).toArray 113 (0, 0))], rfl, .mk (ins_len hL hN hi) (by rw [List.length_drop, hp, show cap - n = (cap - (n + 1)) + 1 from by omega, Nat.add_mul]; omega) (by omega) hcap, rfl⟩
  · refine sr_nil ?_
    refine aw_keep (keep_cons (t := 0) rfl (keep_cons (t := 1) rfl (keep_cons (t := 2) rfl (keep_cons (t := 6) rfl (keep_cons (t := 7) rfl (keep_cons (t := 8) rfl (keep_cons (t := 22) rfl keep_nil))))))) ?_
    refine aw_false rfl ?_
    refine aw_skip ?_
    show AW _ _ _ _ _ _ _
    refine aw_seq ?_
    refine aw_seq_region ?_
    refine sr_x rfl (wtd_none rfl) rfl (Rd.x (x_move rfl)) ?_
    refine sr_x rfl (wtd_none rfl) rfl (Rd.x (x_move rfl)) ?_
    refine sr_x rfl (wtd_none rfl) rfl (Rd.x (x_add' rfl rfl (i64w (by omega) (by omega)))) ?_
    refine sr_x rfl (wtd_none rfl) rfl (Rd.x (x_move rfl)) ?_
    refine sr_x rfl (wtd_none rfl) rfl (Rd.x (x_capSlice Try.underlying104 rfl)) ?_
    refine sr_cmp rfl (wtd_none rfl) rfl (Rd.x (x_gt rfl rfl)) (fun h3 => ?_) (fun h3 => ?_)
    · refine sr_nil ?_
      refine aw_keep (keep_cons (t := 0) rfl (keep_cons (t := 1) rfl (keep_cons (t := 2) rfl (keep_cons (t := 6) rfl (keep_cons (t := 7) rfl (keep_cons (t := 8) rfl (keep_cons (t := 31) rfl keep_nil))))))) ?_
      refine aw_true rfl ?_
      refine aw_seq_region ?_
      refine sr_x rfl (wtd_none rfl) rfl (Rd.x (x_move rfl)) ?_
      refine sr_x rfl (wtd_none rfl) rfl (Rd.x (x_move rfl)) ?_
      refine sr_x rfl (wtd_none rfl) rfl (Rd.x (x_sliceHiK i Try.underlying104 sz113 rfl rfl rfl (by omega))) ?_
      refine sr_x rfl (wtd_none rfl) rfl (Rd.x (x_move rfl)) ?_
      refine sr_x rfl (wtd_none rfl) rfl (Rd.x (x_move rfl)) ?_
      refine sr_x rfl (wtd_none rfl) rfl (Rd.x (x_add' rfl rfl (i64w (by omega) (by omega)))) ?_
      refine sr_x rfl (wtd_none rfl) rfl (Rd.x (x_move rfl)) ?_
      refine sr_x rfl (wtd_none rfl) rfl (Rd.x (x_sub' rfl rfl (i64w (by omega) (by omega)))) ?_
      refine sr_d rfl (wtd_none rfl) rfl (opS_appendMake (m := n + 1 - i) (L := L.take (i * 11)) Try.underlying104 Try.underlying3 sz113 zr113 rfl by113 rfl rfl (by omega) (cells_lt (by repeat (first | exact List.mem_cons_self | apply List.mem_cons_of_mem | apply List.mem_append_right)) _) (by rw [List.length_take, hL]; exact Nat.min_eq_left (Nat.mul_le_mul_right _ hi)) (by omega) (by omega) (by omega) (by omega)) ?_
      rintro v40 _ ⟨E40, hV40, rfl⟩
      obtain ⟨a40, cap40, rfl⟩ := hV40.isSl
      rw [show i + (n + 1 - i) = n + 1 from by omega] at hV40 ⊢
      obtain ⟨b2, rfl, _⟩ := hV40.pos (by omega)
      obtain ⟨_, _, post2, rfl, hL2, hp2, hn2, hc2⟩ := hV40.blk
      rw [List.singleton_append]
      obtain ⟨cs1, hs1, hs2⟩ := ins_grow (post := post2) hL hN hi (Z := (Builtin.zeroCells (.agg #[.int .i64 0, .int .i64 0, .int .i64 0, .int .i64 0, .int .i64 0, .int .i64 0, .int .i64 0, .int .i64 0, .bool false, .int .i64 0, .int .i64 0] : Value).cells (n + 1 - i)).toList) (by rw [zeroCells_len]; rfl)
      refine sr_x rfl (wtd_none rfl) rfl (Rd.x (x_assign rfl)) ?_
      refine sr_nil ?_
      refine aw_keep (keep_cons (t := 0) rfl (keep_cons (t := 1) rfl (keep_cons (t := 2) rfl (keep_cons (t := 6) rfl (keep_cons (t := 7) rfl (keep_cons (t := 8) rfl (keep_cons (t := 9) rfl keep_nil))))))) ?_
      refine aw_seq_region ?_
      refine sr_x rfl (wtd_none rfl) rfl (Rd.x (x_move rfl)) ?_
      refine sr_x rfl (wtd_none rfl) rfl (Rd.x (x_move rfl)) ?_
      refine sr_x rfl (wtd_none rfl) rfl (Rd.x (x_sliceLoK (i) Try.underlying104 sz113 rfl rfl (by omega) (by omega) (by omega) (by omega))) ?_
      refine sr_x rfl (wtd_none rfl) rfl (Rd.x (x_move rfl)) ?_
      refine sr_d rfl (wtd_none rfl) rfl ((x_copy (m := 1) (N := N) (cs' := cs1) Try.underlying104 sz113 rfl rfl (by show min _ _ = _; omega) (cells_ext (by repeat (first | exact List.mem_cons_self | apply List.mem_cons_of_mem | apply List.mem_append_right)) (by repeat (first | exact Ext.all _ | exact Ext.done | apply Ext.take | apply Ext.skip))) (by rw [hN, Nat.one_mul]) (hN1) (by repeat (first | exact Repl.here | apply Repl.there | apply Repl.app)) (by rw [Nat.zero_add]; exact hs1)).opS) ?_
      rintro _ _ ⟨rfl, rfl⟩
      refine sr_nil ?_
      refine aw_keep (keep_cons (t := 0) rfl (keep_cons (t := 1) rfl (keep_cons (t := 2) rfl (keep_cons (t := 6) rfl (keep_cons (t := 7) rfl (keep_cons (t := 8) rfl (keep_cons (t := 9) rfl keep_nil))))))) ?_
      refine aw_seq_dr ⟨_, 9, 95, [[], [], [], [1, 2], [0, 1, 2, 3], [], [], [5, 6], [0, 1, 2, 3, 4, 5, 6, 7]], [.light, .light, .light, .light, .light, .light, .light, .light, .eff]⟩ (by kernel_rfl) rfl rfl mix ?_
      refine dr_light rfl rfl (wtd_none rfl) (x_move rfl) ?_
      refine dr_light rfl rfl (wtd_none rfl) (x_move rfl) ?_
      refine dr_light rfl rfl (wtd_none rfl) (x_move rfl) ?_
      refine dr_light rfl rfl (wtd_none rfl) (x_add' rfl rfl (i64w (by omega) (by omega))) ?_
      refine dr_light rfl rfl (wtd_none rfl) (x_sliceLoK (i + 1) Try.underlying104 sz113 rfl rfl (by omega) (by omega) (by omega) (by omega)) ?_
      refine dr_light rfl rfl (wtd_none rfl) (x_move rfl) ?_
      refine dr_light rfl rfl (wtd_none rfl) (x_move rfl) ?_
      refine dr_light rfl rfl (wtd_none rfl) (x_sliceLoK (i) Try.underlying104 sz113 rfl rfl (by omega) (by omega) (by omega) (by omega)) ?_
      refine dr_effE rfl rfl (wtd_none rfl) ((x_copy (m := n - i) (N := L.drop (i * 11)) (cs' := (L.take (i * 11) ++ N ++ L.drop (i * 11)) ++ post2) Try.underlying104 sz113 rfl rfl (by show min _ _ = _; omega) (cells_ld (by repeat (first | exact List.mem_cons_self | apply List.mem_cons_of_mem | apply List.mem_append_right)) _) (by rw [List.length_drop, hL, ← Nat.sub_mul]) (all_drop hL1) (by repeat (first | exact Repl.here | apply Repl.there | apply Repl.app)) (by rw [Nat.zero_add]; exact hs2)).opSF) (by exact fun hw L => ⟨_, _, ⟨rfl, rfl⟩, hw.1, fun b hb => .inl hb⟩) ?_
      rintro _ _ ⟨rfl, rfl⟩
      refine dr_nil0 ?_
      refine aw_keep (keep_cons (t := 0) rfl (keep_cons (t := 1) rfl (keep_cons (t := 2) rfl (keep_cons (t := 6) rfl (keep_cons (t := 7) rfl (keep_cons (t := 8) rfl (keep_cons (t := 9) rfl keep_nil))))))) ?_
      refine aw_seq_region ?_
      refine sr_x rfl (wtd_none rfl) rfl (Rd.x (x_move rfl)) ?_
      refine sr_x rfl (wtd_none rfl) rfl (Rd.x (x_assign rfl)) ?_
      refine sr_nil ?_
      refine aw_keep (keep_cons (t := 0) rfl (keep_cons (t := 1) rfl (keep_cons (t := 2) rfl (keep_cons (t := 6) rfl (keep_cons (t := 7) rfl (keep_cons (t := 8) rfl keep_nil)))))) ?_
      refine aw_ret ?_
      show ∃ v H2, ResV _ _ _ _ _ _ v ∧ Sub H2 _ ∧ _
      first | (rw [← ins_end (i := i) hL (by omega)] at hV25; exact ⟨_, E25 ++ G, resV rfl (.cons rfl .nil), (by (repeat (first | exact Sub.refl _ | refine Sub.take (by repeat (first | exact Take.here | apply Take.there | apply Take.app)) ?_ | refine Sub.takeE (by repeat (first | exact TakeE.here | apply TakeE.there | apply TakeE.app)) ?_ | exact Sub.nil _ | apply Sub.drop | apply Sub.dropE)); first | done | fail), a25, cap25, E25, rfl, hV25, rfl⟩) | exact ⟨_, (b2, .cells ((L.take (i * 11) ++ N ++ L.drop (i * 11)) ++ post2).toArray 113 (0, 0)) :: G, resV rfl (.cons rfl .nil), (by (repeat (first | exact Sub.refl _ | refine Sub.take (by repeat (first | exact Take.here | apply Take.there | apply Take.app)) ?_ | refine Sub.takeE (by repeat (first | exact TakeE.here | apply TakeE.there | apply TakeE.app)) ?_ | exact Sub.nil _ | apply Sub.drop | apply Sub.dropE)); first | done | fail), some ⟨b2, 0, none⟩, cap40, [(b2, .cells ((L.take (i * 11) ++ N ++ L.drop (i * 11)) ++ post2).toArray 113 (0, 0))], rfl, .mk (ins_len hL hN hi) hp2 hn2 hc2, rfl⟩ | exact ⟨_, (b, .cells ((L.take (i * 11) ++ N ++ L.drop (i * 11)) ++ post.drop 11).toArray 113 (0, 0)) :: G, resV rfl (.cons rfl .nil), (by (repeat (first | exact Sub.refl _ | refine Sub.take (by repeat (first | exact Take.here | apply Take.there | apply Take.app)) ?_ | refine Sub.takeE (by repeat (first | exact TakeE.here | apply TakeE.there | apply TakeE.app)) ?_ | exact Sub.nil _ | apply Sub.drop | apply Sub.dropE)); first | done | fail), some ⟨b, 0, none⟩, cap, [(b, .cells ((L.take (i * 11) ++ N ++ L.drop (i * 11)) ++ post.drop 11).toArray 113 (0, 0))], rfl, .mk (ins_len hL hN hi) (by rw [List.length_drop, hp, show cap - n = (cap - (n + 1)) + 1 from by omega, Nat.add_mul]; omega) (by omega) hcap, rfl⟩
    · refine sr_nil ?_
      refine aw_keep (keep_cons (t := 0) rfl (keep_cons (t := 1) rfl (keep_cons (t := 2) rfl (keep_cons (t := 6) rfl (keep_cons (t := 7) rfl (keep_cons (t := 8) rfl (keep_cons (t := 31) rfl keep_nil))))))) ?_
      refine aw_false rfl ?_
      refine aw_skip ?_
      show AW _ _ _ _ _ _ _
      refine aw_seq_region ?_
      refine sr_x rfl (wtd_none rfl) rfl (Rd.x (x_move rfl)) ?_
      refine sr_x rfl (wtd_none rfl) rfl (Rd.x (x_move rfl)) ?_
      refine sr_x rfl (wtd_none rfl) rfl (Rd.x (x_move rfl)) ?_
      refine sr_x rfl (wtd_none rfl) rfl (Rd.x (x_add' rfl rfl (i64w (by omega) (by omega)))) ?_
      refine sr_x rfl (wtd_none rfl) rfl (Rd.x (x_sliceHiK (n + 1) Try.underlying104 sz113 rfl rfl (by omega) (by omega))) ?_
      refine sr_x rfl (wtd_none rfl) rfl (Rd.x (x_assign rfl)) ?_
      refine sr_nil ?_
      refine aw_keep (keep_cons (t := 0) rfl (keep_cons (t := 1) rfl (keep_cons (t := 2) rfl (keep_cons (t := 6) rfl (keep_cons (t := 7) rfl (keep_cons (t := 8) rfl keep_nil)))))) ?_
      refine aw_seq ?_
      refine aw_seq_region ?_
      refine sr_x rfl (wtd_none rfl) rfl (Rd.x (x_move rfl)) ?_
      refine sr_x rfl (wtd_none rfl) rfl (Rd.x (x_move rfl)) ?_
      refine sr_x rfl (wtd_none rfl) rfl (Rd.x (x_move rfl)) ?_
      refine sr_x rfl (wtd_none rfl) rfl (Rd.x (x_move rfl)) ?_
      refine sr_x rfl (wtd_none rfl) rfl (Rd.x (x_add' rfl rfl (i64w (by omega) (by omega)))) ?_
      refine sr_x rfl (wtd_none rfl) rfl (Rd.x (x_sliceLoK (i + 1) Try.underlying104 sz113 rfl rfl (by omega) (by omega) (by omega) (by omega))) ?_
      refine sr_x rfl (wtd_none rfl) rfl (Rd.x (x_extern (fn := Try.f139) (v := .bool false) rfl rfl rfl Try.func139 (by kernel_rfl) (by kernel_rfl) exn139 exf139 (fun hw => rd_overlaps (t := 104) rfl Try.underlying104 sz113 (wf_ne hw).symm (hw.obj (by repeat (first | exact List.mem_cons_self | apply List.mem_cons_of_mem | apply List.mem_append_right))) (hw.obj (by repeat (first | exact List.mem_cons_self | apply List.mem_cons_of_mem | apply List.mem_append_right)))))) ?_
      refine sr_x rfl (wtd_none rfl) rfl (Rd.x (x_not rfl)) ?_
      refine sr_nil ?_
      refine aw_keep (keep_cons (t := 0) rfl (keep_cons (t := 1) rfl (keep_cons (t := 2) rfl (keep_cons (t := 6) rfl (keep_cons (t := 7) rfl (keep_cons (t := 8) rfl (keep_cons (t := 68) rfl keep_nil))))))) ?_
      refine aw_true rfl ?_
      refine aw_seq_dr ⟨_, 9, 95, [[], [], [], [1, 2], [0, 1, 2, 3], [], [], [5, 6], [0, 1, 2, 3, 4, 5, 6, 7]], [.light, .light, .light, .light, .light, .light, .light, .light, .eff]⟩ (by kernel_rfl) rfl rfl mix ?_
      obtain ⟨cs1, hs1, hs2⟩ := ins_room (post := post) hL hN hi (by have : 1 * 11 ≤ (cap - n) * 11 := Nat.mul_le_mul_right _ (by omega); omega)
      refine dr_light rfl rfl (wtd_none rfl) (x_move rfl) ?_
      refine dr_light rfl rfl (wtd_none rfl) (x_move rfl) ?_
      refine dr_light rfl rfl (wtd_none rfl) (x_move rfl) ?_
      refine dr_light rfl rfl (wtd_none rfl) (x_add' rfl rfl (i64w (by omega) (by omega))) ?_
      refine dr_light rfl rfl (wtd_none rfl) (x_sliceLoK (i + 1) Try.underlying104 sz113 rfl rfl (by omega) (by omega) (by omega) (by omega)) ?_
      refine dr_light rfl rfl (wtd_none rfl) (x_move rfl) ?_
      refine dr_light rfl rfl (wtd_none rfl) (x_move rfl) ?_
      refine dr_light rfl rfl (wtd_none rfl) (x_sliceLoK (i) Try.underlying104 sz113 rfl rfl (by omega) (by omega) (by omega) (by omega)) ?_
      refine dr_effE rfl rfl (wtd_none rfl) ((x_copy (m := n - i) (N := L.drop (i * 11)) (cs' := cs1) Try.underlying104 sz113 rfl rfl (by show min _ _ = _; omega) (cells_ld (by repeat (first | exact List.mem_cons_self | apply List.mem_cons_of_mem | apply List.mem_append_right)) _) (by rw [List.length_drop, hL, ← Nat.sub_mul]) (all_drop hL1) (by repeat (first | exact Repl.here | apply Repl.there | apply Repl.app)) (by rw [Nat.zero_add]; exact hs1)).opSF) (by exact fun hw L => ⟨_, _, ⟨rfl, rfl⟩, hw.1, fun b hb => .inl hb⟩) ?_
      rintro _ _ ⟨rfl, rfl⟩
      refine dr_nil0 ?_
      refine aw_keep (keep_cons (t := 0) rfl (keep_cons (t := 1) rfl (keep_cons (t := 2) rfl (keep_cons (t := 6) rfl (keep_cons (t := 7) rfl (keep_cons (t := 8) rfl keep_nil)))))) ?_
      refine aw_seq_region ?_
      refine sr_x rfl (wtd_none rfl) rfl (Rd.x (x_move rfl)) ?_
      refine sr_x rfl (wtd_none rfl) rfl (Rd.x (x_move rfl)) ?_
      refine sr_x rfl (wtd_none rfl) rfl (Rd.x (x_sliceLoK (i) Try.underlying104 sz113 rfl rfl (by omega) (by omega) (by omega) (by omega))) ?_
      refine sr_x rfl (wtd_none rfl) rfl (Rd.x (x_move rfl)) ?_
      refine sr_d rfl (wtd_none rfl) rfl ((x_copy (m := 1) (N := N) (cs' := (L.take (i * 11) ++ N ++ L.drop (i * 11)) ++ post.drop 11) Try.underlying104 sz113 rfl rfl (by show min _ _ = _; omega) (cells_ext (by repeat (first | exact List.mem_cons_self | apply List.mem_cons_of_mem | apply List.mem_append_right)) (by repeat (first | exact Ext.all _ | exact Ext.done | apply Ext.take | apply Ext.skip))) (by rw [hN, Nat.one_mul]) (hN1) (by repeat (first | exact Repl.here | apply Repl.there | apply Repl.app)) (by rw [Nat.zero_add]; exact hs2)).opS) ?_
      rintro _ _ ⟨rfl, rfl⟩
      refine sr_nil ?_
      refine aw_keep (keep_cons (t := 0) rfl (keep_cons (t := 1) rfl (keep_cons (t := 2) rfl (keep_cons (t := 6) rfl (keep_cons (t := 7) rfl (keep_cons (t := 8) rfl keep_nil)))))) ?_
      refine aw_seq_region ?_
      refine sr_x rfl (wtd_none rfl) rfl (Rd.x (x_move rfl)) ?_
      refine sr_x rfl (wtd_none rfl) rfl (Rd.x (x_assign rfl)) ?_
      refine sr_nil ?_
      refine aw_keep (keep_cons (t := 0) rfl (keep_cons (t := 1) rfl (keep_cons (t := 2) rfl (keep_cons (t := 6) rfl (keep_cons (t := 7) rfl (keep_cons (t := 8) rfl keep_nil)))))) ?_
      refine aw_ret ?_
      show ∃ v H2, ResV _ _ _ _ _ _ v ∧ Sub H2 _ ∧ _
      first | (rw [← ins_end (i := i) hL (by omega)] at hV25; exact ⟨_, E25 ++ G, resV rfl (.cons rfl .nil), (by (repeat (first | exact Sub.refl _ | refine Sub.take (by repeat (first | exact Take.here | apply Take.there | apply Take.app)) ?_ | refine Sub.takeE (by repeat (first | exact TakeE.here | apply TakeE.there | apply TakeE.app)) ?_ | exact Sub.nil _ | apply Sub.drop | apply Sub.dropE)); first | done | fail), a25, cap25, E25, rfl, hV25, rfl⟩) | exact ⟨_, (b2, .cells ((L.take (i * 11) ++ N ++ L.drop (i * 11)) ++ post2).toArray 113 (0, 0)) :: G, resV rfl (.cons rfl .nil), (by (repeat (first | exact Sub.refl _ | refine Sub.take (by repeat (first | exact Take.here | apply Take.there | apply Take.app)) ?_ | refine Sub.takeE (by repeat (first | exact TakeE.here | apply TakeE.there | apply TakeE.app)) ?_ | exact Sub.nil _ | apply Sub.drop | apply Sub.dropE)); first | done | fail), some ⟨b2, 0, none⟩, cap40, [(b2, .cells ((L.take (i * 11) ++ N ++ L.drop (i * 11)) ++ post2).toArray 113 (0, 0))], rfl, .mk (ins_len hL hN hi) hp2 hn2 hc2, rfl⟩ | exact ⟨_, (b, .cells ((L.take (i * 11) ++ N ++ L.drop (i * 11)) ++ post.drop 11).toArray 113 (0, 0)) :: G, resV rfl (.cons rfl .nil), (by (repeat (first | exact Sub.refl _ | refine Sub.take (by repeat (first | exact Take.here | apply Take.there | apply Take.app)) ?_ | refine Sub.takeE (by repeat (first | exact TakeE.here | apply TakeE.there | apply TakeE.app)) ?_ | exact Sub.nil _ | apply Sub.drop | apply Sub.dropE)); first | done | fail), some ⟨b, 0, none⟩, cap, [(b, .cells ((L.take (i * 11) ++ N ++ L.drop (i * 11)) ++ post.drop 11).toArray 113 (0, 0))], rfl, .mk (ins_len hL hN hi) (by rw [List.length_drop, hp, show cap - n = (cap - (n + 1)) + 1 from by omega, Nat.add_mul]; omega) (by omega) hcap, rfl⟩
set_option maxRecDepth 100000 in
set_option maxHeartbeats 400000 in
theorem rinsert_sN (r : Nat) (N : List Value) (G : SHeap) (hN : N.length = 11) (hN1 : N.all oneCell = true) : AC Try.prog W0 120 [.slice none 0 0, .int .i64 ((0 : Nat) : Int), .slice (some ⟨r, 0, none⟩) 1 1] ((r, .cells N.toArray 113 (0, 0)) :: G) (fun v H' => ∃ a' cap' E', v = .slice a' 1 cap' ∧ OwnVec 11 113 (.slice a' 1 cap') 1 N E' ∧ H' = E' ++ G) := by
  refine ac_of Try.func120 rfl rfl rfl ?_
  refine aw_seq_region ?_
  refine sr_x rfl (wtd_none rfl) rfl (Rd.x (x_assign rfl)) ?_
  refine sr_nil ?_
  refine aw_keep (keep_cons (t := 0) rfl (keep_cons (t := 1) rfl (keep_cons (t := 2) rfl (keep_cons (t := 6) rfl keep_nil)))) ?_
  refine aw_seq_region ?_
  refine sr_x rfl (wtd_none rfl) rfl (Rd.x (x_move rfl)) ?_
  refine sr_x rfl (wtd_none rfl) rfl (Rd.x (x_move rfl)) ?_
  refine sr_x rfl (wtd_none rfl) rfl (Rd.x (x_sliceLo0 Try.underlying104 sz113 rfl rfl rfl)) ?_
  refine sr_nil ?_
  refine aw_keep (keep_cons (t := 0) rfl (keep_cons (t := 1) rfl (keep_cons (t := 2) rfl (keep_cons (t := 6) rfl keep_nil)))) ?_
  refine aw_seq_region ?_
  refine sr_x rfl (wtd_none rfl) rfl (Rd.x (x_move rfl)) ?_
  refine sr_x rfl (wtd_none rfl) rfl (Rd.x (x_lenSlice Try.underlying104 rfl)) ?_
  refine sr_x rfl (wtd_none rfl) rfl (Rd.x (x_assign rfl)) ?_
  refine sr_nil ?_
  refine aw_keep (keep_cons (t := 0) rfl (keep_cons (t := 1) rfl (keep_cons (t := 2) rfl (keep_cons (t := 6) rfl (keep_cons (t := 7) rfl keep_nil))))) ?_
  refine aw_seq ?_
  refine aw_seq_region ?_
  refine sr_x rfl (wtd_none rfl) rfl (Rd.x (x_move rfl)) ?_
  refine sr_cmp rfl (wtd_none rfl) rfl (Rd.x (x_eq rfl rfl)) (fun h1 => absurd h1 (by first | omega | decide)) (fun h1 => ?_)
  refine sr_nil ?_
  refine aw_keep (keep_cons (t := 0) rfl (keep_cons (t := 1) rfl (keep_cons (t := 2) rfl (keep_cons (t := 6) rfl (keep_cons (t := 7) rfl (keep_cons (t := 16) rfl keep_nil)))))) ?_
  refine aw_false rfl ?_
  refine aw_skip ?_
  show AW _ _ _ _ _ _ _
  refine aw_seq_region ?_
  refine sr_x rfl (wtd_none rfl) rfl (Rd.x (x_move rfl)) ?_
  refine sr_x rfl (wtd_none rfl) rfl (Rd.x (x_lenSlice Try.underlying104 rfl)) ?_
  refine sr_x rfl (wtd_none rfl) rfl (Rd.x (x_assign rfl)) ?_
  refine sr_nil ?_
  refine aw_keep (keep_cons (t := 0) rfl (keep_cons (t := 1) rfl (keep_cons (t := 2) rfl (keep_cons (t := 6) rfl (keep_cons (t := 7) rfl (keep_cons (t := 8) rfl keep_nil)))))) ?_
  refine aw_seq ?_
  refine aw_seq_region ?_
  refine sr_x rfl (wtd_none rfl) rfl (Rd.x (x_move rfl)) ?_
  refine sr_x rfl (wtd_none rfl) rfl (Rd.x (x_move rfl)) ?_
  refine sr_cmp rfl (wtd_none rfl) rfl (Rd.x (x_eq rfl rfl)) (fun h2 => ?_) (fun h2 => absurd (by first | omega | decide) h2)
  refine sr_nil ?_
  refine aw_keep (keep_cons (t := 0) rfl (keep_cons (t := 1) rfl (keep_cons (t := 2) rfl (keep_cons (t := 6) rfl (keep_cons (t := 7) rfl (keep_cons (t := 8) rfl (keep_cons (t := 22) rfl keep_nil))))))) ?_
  refine aw_true rfl ?_
  refine aw_seq_region ?_
  refine sr_x rfl (wtd_none rfl) rfl (Rd.x (x_move rfl)) ?_
  refine sr_x rfl (wtd_none rfl) rfl (Rd.x (x_move rfl)) ?_
  refine sr_d rfl (wtd_none rfl) rfl (opS_append (G := G) (N := N) (m := 1) Try.underlying104 sz113 zr113 rfl by113 rfl rfl OwnVec.nil (by repeat (first | exact Sub.refl _ | refine Sub.take (by repeat (first | exact Take.here | apply Take.there | apply Take.app)) ?_ | refine Sub.takeE (by repeat (first | exact TakeE.here | apply TakeE.there | apply TakeE.app)) ?_ | exact Sub.nil _ | apply Sub.drop | apply Sub.dropE)) (.inr ⟨_, _, rfl, (cells_ext (by repeat (first | exact List.mem_cons_self | apply List.mem_cons_of_mem | apply List.mem_append_right)) (by repeat (first | exact Ext.all _ | exact Ext.done | apply Ext.take | apply Ext.skip)))⟩) (by rw [hN, Nat.one_mul]) hN1 (by omega) (by omega)) ?_
  rintro v25 _ ⟨E25, hV25, rfl⟩
  obtain ⟨a25, cap25, rfl⟩ := hV25.isSl
  refine sr_x rfl (wtd_none rfl) rfl (Rd.x (x_assign rfl)) ?_
  refine sr_nil ?_
  refine aw_keep (keep_cons (t := 0) rfl (keep_cons (t := 1) rfl (keep_cons (t := 2) rfl (keep_cons (t := 6) rfl (keep_cons (t := 7) rfl (keep_cons (t := 8) rfl keep_nil)))))) ?_
  refine aw_ret ?_
  show ∃ v H2, ResV _ _ _ _ _ _ v ∧ Sub H2 _ ∧ _
  exact ⟨_, E25 ++ G, resV rfl (.cons rfl .nil), (by (repeat (first | exact Sub.refl _ | refine Sub.take (by repeat (first | exact Take.here | apply Take.there | apply Take.app)) ?_ | refine Sub.takeE (by repeat (first | exact TakeE.here | apply TakeE.there | apply TakeE.app)) ?_ | exact Sub.nil _ | apply Sub.drop | apply Sub.dropE)); first | done | fail), a25, cap25, E25, rfl, by simpa using hV25, rfl⟩
theorem rinsert_s (v : Value) (n i r : Nat) (L N : List Value) (Ev G : SHeap) (V : OwnVec 11 113 v n L Ev) (hN : N.length = 11) (hN1 : N.all oneCell = true) (hL1 : L.all oneCell = true) (hi : i ≤ n) (hn : n ≤ 1000000) : AC Try.prog W0 120 [v, .int .i64 i, .slice (some ⟨r, 0, none⟩) 1 1] (Ev ++ ((r, .cells N.toArray 113 (0, 0)) :: G)) (fun v H' => ∃ a' cap' E', v = .slice a' (n + 1) cap' ∧ OwnVec 11 113 (.slice a' (n + 1) cap') (n + 1) (L.take (i * 11) ++ N ++ L.drop (i * 11)) E' ∧ H' = E' ++ G) := by
  cases V with
  | nil =>
    have : i = 0 := by omega
    subst this
    refine (rinsert_sN (W0 := W0) r N G hN hN1).mono fun v H' h => ?_
    simpa using h
  | mk hL hp hnc hcap => exact rinsert_sM r n _ i _ L N _ G hL hp hnc hcap hN hN1 hL1 hi hn
set_option maxRecDepth 100000 in
set_option maxHeartbeats 1000000 in
theorem rbsearch_s (a : Option Addr) (cap : Nat) (xs : List Entry) (t : Int) (c : Entry → Int) (H : SHeap) (hs : SlV W0 H 11 Entry.cells a cap xs) (hn : xs.length ≤ 1000000) (hf : ∀ x ∈ xs, ∀ H, AC Try.prog W0 119 [Entry.v x, .int .i64 t] H (fun v H' => v = .int .i64 (c x) ∧ H' = H)) (hmono : ∀ (i j : Nat) (x y : Entry), i ≤ j → xs[i]? = some x → xs[j]? = some y → 0 ≤ c x → 0 ≤ c y) : AC Try.prog W0 118 [.slice a xs.length cap, .int .i64 t, .func (.func 119) #[] #[]] H (fun v H' => (∃ (i : Nat) (ok : Bool), v = .tuple #[.int .i64 i, .bool ok] ∧ i ≤ xs.length ∧ (∀ k x, k < i → xs[k]? = some x → c x < 0) ∧ (∀ k x, i ≤ k → xs[k]? = some x → 0 ≤ c x) ∧ (ok = true ↔ ∃ x, xs[i]? = some x ∧ c x = 0)) ∧ H' = H) := by
  have hle := hs.le
  have hcb := hs.capb
  refine ac_of Try.func118 rfl rfl rfl ?_
  refine aw_seq_region ?_
  refine sr_x rfl (wtd_none rfl) rfl (Rd.x (x_assign rfl)) ?_
  refine sr_x rfl (wtd_none rfl) rfl (Rd.x (x_assign rfl)) ?_
  refine sr_nil ?_
  refine aw_keep (keep_cons (t := 0) rfl (keep_cons (t := 1) rfl (keep_cons (t := 2) rfl (keep_cons (t := 6) rfl (keep_cons (t := 7) rfl keep_nil))))) ?_
  refine aw_seq_region ?_
  refine sr_x rfl (wtd_none rfl) rfl (Rd.x (x_move rfl)) ?_
  refine sr_x rfl (wtd_none rfl) rfl (Rd.x (x_lenSlice Try.underlying104 rfl)) ?_
  refine sr_x rfl (wtd_none rfl) rfl (Rd.x (x_assign rfl)) ?_
  refine sr_nil ?_
  refine aw_keep (keep_cons (t := 0) rfl (keep_cons (t := 1) rfl (keep_cons (t := 2) rfl (keep_cons (t := 6) rfl (keep_cons (t := 7) rfl (keep_cons (t := 8) rfl keep_nil)))))) ?_
  refine aw_seq_region ?_
  refine sr_x rfl (wtd_none rfl) rfl (Rd.x (x_move rfl)) ?_
  refine sr_x rfl (wtd_none rfl) rfl (Rd.x (x_assign rfl)) ?_
  refine sr_x rfl (wtd_none rfl) rfl (Rd.x (x_assign rfl)) ?_
  refine sr_nil ?_
  refine aw_keep (keep_cons (t := 0) rfl (keep_cons (t := 1) rfl (keep_cons (t := 2) rfl (keep_cons (t := 6) rfl (keep_cons (t := 7) rfl (keep_cons (t := 8) rfl (keep_cons (t := 9) rfl (keep_cons (t := 10) rfl keep_nil)))))))) ?_
  refine aw_seq ?_
  refine aw_block ?_
  refine aw_loop (ι := Nat × Nat) (fun s => s.1 ≤ s.2 ∧ s.2 ≤ xs.length ∧ (∀ k x, k < s.1 → xs[k]? = some x → c x < 0) ∧ (∀ k x, s.2 ≤ k → xs[k]? = some x → 0 ≤ c x)) (fun s => [(0, .slice a xs.length cap), (1, .int .i64 t), (2, .func (.func 119) #[] #[]), (8, .int .i64 xs.length), (9, .int .i64 s.1), (10, .int .i64 s.2)]) (fun _ => H) (fun s => s.2 - s.1) (0, xs.length) (⟨Nat.zero_le _, Nat.le_refl _, fun k x h => by omega, fun k x h hx => by have := get_lt hx; simp only at h; omega⟩) (by repeat (first | exact keep_nil | refine keep_cons rfl ?_)) (by repeat (first | exact Sub.refl _ | apply Sub.drop)) ?_
  intro s hs9
  obtain ⟨i, j⟩ := s
  obtain ⟨h9a, h9b, h9c, h9d⟩ := hs9
  simp only at h9a h9b h9c h9d ⊢
  refine aw_seq ?_
  refine aw_seq_region ?_
  refine sr_x rfl (wtd_none rfl) rfl (Rd.x (x_move rfl)) ?_
  refine sr_x rfl (wtd_none rfl) rfl (Rd.x (x_move rfl)) ?_
  refine sr_cmp rfl (wtd_none rfl) rfl (Rd.x (x_lt rfl rfl)) (fun h1 => ?_) (fun h1 => ?_)
  · refine sr_nil ?_
    refine aw_keep (keep_cons (t := 0) rfl (keep_cons (t := 1) rfl (keep_cons (t := 2) rfl (keep_cons (t := 8) rfl (keep_cons (t := 9) rfl (keep_cons (t := 10) rfl (keep_cons (t := 15) rfl (keep_cons (t := 16) rfl (keep_cons (t := 17) rfl keep_nil))))))))) ?_
    refine aw_true rfl ?_
    refine aw_skip ?_
    show AW _ _ _ _ _ _ _
    refine aw_block ?_
    refine aw_seq_region ?_
    refine sr_x rfl (wtd_none rfl) rfl (Rd.x (x_move rfl)) ?_
    refine sr_x rfl (wtd_none rfl) rfl (Rd.x (x_move rfl)) ?_
    refine sr_x rfl (wtd_none rfl) rfl (Rd.x (x_add' rfl rfl (i64w (by omega) (by omega)))) ?_
    refine sr_x rfl (wtd_none rfl) rfl (Rd.x (x_conv' Try.underlying3 Try.underlying207 rfl (u64w (by omega) (by omega)))) ?_
    refine sr_x rfl (wtd_none rfl) rfl (Rd.x (x_cast (x_shr rfl rfl (by omega)) (shr1 i j))) ?_
    refine sr_x rfl (wtd_none rfl) rfl (Rd.x (x_conv' Try.underlying207 Try.underlying3 rfl (i64w (by omega) (by omega)))) ?_
    refine sr_x rfl (wtd_none rfl) rfl (Rd.x (x_assign rfl)) ?_
    refine sr_nil ?_
    refine aw_keep (keep_cons (t := 0) rfl (keep_cons (t := 1) rfl (keep_cons (t := 2) rfl (keep_cons (t := 8) rfl (keep_cons (t := 9) rfl (keep_cons (t := 10) rfl (keep_cons (t := 11) rfl (keep_cons (t := 15) rfl (keep_cons (t := 16) rfl (keep_cons (t := 17) rfl (keep_cons (t := 18) rfl (keep_cons (t := 19) rfl (keep_cons (t := 20) rfl (keep_cons (t := 21) rfl (keep_cons (t := 22) rfl (keep_cons (t := 23) rfl keep_nil)))))))))))))))) ?_
    refine aw_seq_region ?_
    obtain ⟨x, hx⟩ := get_ex (show (i + j) / 2 < xs.length by omega)
    obtain ⟨bx, ox, ha, hcx⟩ := hs.at_ _ _ hx
    refine sr_x rfl (wtd_none rfl) rfl (Rd.x (x_move rfl)) ?_
    refine sr_x rfl (wtd_none rfl) rfl (Rd.x (x_move rfl)) ?_
    refine sr_x rfl (wtd_none rfl) rfl (Rd.x (x_move rfl)) ?_
    refine sr_x rfl (wtd_none rfl) rfl (Rd.x (x_indexAddrN ((i + j) / 2) Try.underlying104 sz113 rfl ha rfl (by omega) (by omega))) ?_
    refine sr_x rfl (wtd_none rfl) rfl (Rd.x (x_loadN ag113 sz113 rfl (Cells.mono hcx (by repeat (first | exact Sub.refl _ | apply Sub.drop))) rfl)) ?_
    refine sr_x rfl (wtd_none rfl) rfl (Rd.x (x_move rfl)) ?_
    refine sr_d rfl (wtd_none rfl) rfl (opS_call rfl rfl rfl rfl cl119 (hf x (List.mem_of_getElem? hx) _)) ?_
    rintro _ H ⟨rfl, rfl⟩
    refine sr_cmp rfl (wtd_none rfl) rfl (Rd.x (x_lt rfl rfl)) (fun h2 => ?_) (fun h2 => ?_)
    · refine sr_nil ?_
      refine aw_keep (keep_cons (t := 0) rfl (keep_cons (t := 1) rfl (keep_cons (t := 2) rfl (keep_cons (t := 8) rfl (keep_cons (t := 9) rfl (keep_cons (t := 10) rfl (keep_cons (t := 11) rfl (keep_cons (t := 15) rfl (keep_cons (t := 16) rfl (keep_cons (t := 17) rfl (keep_cons (t := 18) rfl (keep_cons (t := 19) rfl (keep_cons (t := 20) rfl (keep_cons (t := 21) rfl (keep_cons (t := 22) rfl (keep_cons (t := 23) rfl (keep_cons (t := 24) rfl (keep_cons (t := 25) rfl (keep_cons (t := 26) rfl (keep_cons (t := 27) rfl (keep_cons (t := 28) rfl (keep_cons (t := 29) rfl (keep_cons (t := 30) rfl (keep_cons (t := 31) rfl keep_nil)))))))))))))))))))))))) ?_
      refine aw_true rfl ?_
      refine aw_region ?_
      refine sr_x rfl (wtd_none rfl) rfl (Rd.x (x_move rfl)) ?_
      refine sr_x rfl (wtd_none rfl) rfl (Rd.x (x_add' rfl rfl (i64w (by omega) (by omega)))) ?_
      refine sr_x rfl (wtd_none rfl) rfl (Rd.x (x_assign rfl)) ?_
      refine sr_nil ?_
      show ∃ s', _ ∧ _ ∧ _ ∧ _
      first | exact ⟨((i + j) / 2 + 1, j), ⟨by dsimp only; omega, h9b, bs_lo hx hmono (by omega), h9d⟩, by dsimp only; omega, (by repeat (first | exact keep_nil | refine keep_cons rfl ?_)), (by repeat (first | exact Sub.refl _ | apply Sub.drop))⟩ | exact ⟨(i, (i + j) / 2), ⟨by dsimp only; omega, by dsimp only; omega, h9c, bs_hi hx hmono (by omega)⟩, by dsimp only; omega, (by repeat (first | exact keep_nil | refine keep_cons rfl ?_)), (by repeat (first | exact Sub.refl _ | apply Sub.drop))⟩
    · refine sr_nil ?_
      refine aw_keep (keep_cons (t := 0) rfl (keep_cons (t := 1) rfl (keep_cons (t := 2) rfl (keep_cons (t := 8) rfl (keep_cons (t := 9) rfl (keep_cons (t := 10) rfl (keep_cons (t := 11) rfl (keep_cons (t := 15) rfl (keep_cons (t := 16) rfl (keep_cons (t := 17) rfl (keep_cons (t := 18) rfl (keep_cons (t := 19) rfl (keep_cons (t := 20) rfl (keep_cons (t := 21) rfl (keep_cons (t := 22) rfl (keep_cons (t := 23) rfl (keep_cons (t := 24) rfl (keep_cons (t := 25) rfl (keep_cons (t := 26) rfl (keep_cons (t := 27) rfl (keep_cons (t := 28) rfl (keep_cons (t := 29) rfl (keep_cons (t := 30) rfl (keep_cons (t := 31) rfl keep_nil)))))))))))))))))))))))) ?_
      refine aw_false rfl ?_
      refine aw_region ?_
      refine sr_x rfl (wtd_none rfl) rfl (Rd.x (x_move rfl)) ?_
      refine sr_x rfl (wtd_none rfl) rfl (Rd.x (x_assign rfl)) ?_
      refine sr_nil ?_
      show ∃ s', _ ∧ _ ∧ _ ∧ _
      first | exact ⟨((i + j) / 2 + 1, j), ⟨by dsimp only; omega, h9b, bs_lo hx hmono (by omega), h9d⟩, by dsimp only; omega, (by repeat (first | exact keep_nil | refine keep_cons rfl ?_)), (by repeat (first | exact Sub.refl _ | apply Sub.drop))⟩ | exact ⟨(i, (i + j) / 2), ⟨by dsimp only; omega, by dsimp only; omega, h9c, bs_hi hx hmono (by omega)⟩, by dsimp only; omega, (by repeat (first | exact keep_nil | refine keep_cons rfl ?_)), (by repeat (first | exact Sub.refl _ | apply Sub.drop))⟩
  · refine sr_nil ?_
    refine aw_keep (keep_cons (t := 0) rfl (keep_cons (t := 1) rfl (keep_cons (t := 2) rfl (keep_cons (t := 8) rfl (keep_cons (t := 9) rfl (keep_cons (t := 10) rfl (keep_cons (t := 15) rfl (keep_cons (t := 16) rfl (keep_cons (t := 17) rfl keep_nil))))))))) ?_
    refine aw_false rfl ?_
    refine aw_exit ?_
    show AW _ _ _ _ _ _ _
    refine aw_seq_region ?_
    refine sr_x rfl (wtd_none rfl) rfl (Rd.x (x_move rfl)) ?_
    refine sr_x rfl (wtd_none rfl) rfl (Rd.x (x_move rfl)) ?_
    refine sr_x rfl (wtd_none rfl) rfl (Rd.x (x_move rfl)) ?_
    refine sr_cmp rfl (wtd_none rfl) rfl (Rd.x (x_lt rfl rfl)) (fun h3 => ?_) (fun h3 => ?_)
    · refine sr_x rfl (wtd_none rfl) rfl (Rd.x (x_move rfl)) ?_
      obtain ⟨x, hx⟩ := get_ex (show i < xs.length by omega)
      obtain ⟨bx, ox, ha, hcx⟩ := hs.at_ _ _ hx
      refine sr_x rfl (wtd_yes rfl rfl rfl) rfl (Rd.x (x_move rfl)) ?_
      refine sr_x rfl (wtd_yes rfl rfl rfl) rfl (Rd.x (x_move rfl)) ?_
      refine sr_x rfl (wtd_yes rfl rfl rfl) rfl (Rd.x (x_move rfl)) ?_
      refine sr_x rfl (wtd_yes rfl rfl rfl) rfl (Rd.x (x_indexAddrN i Try.underlying104 sz113 rfl ha rfl (by omega) (by omega))) ?_
      refine sr_x rfl (wtd_yes rfl rfl rfl) rfl (Rd.x (x_loadN ag113 sz113 rfl (Cells.mono hcx (by repeat (first | exact Sub.refl _ | apply Sub.drop))) rfl)) ?_
      refine sr_x rfl (wtd_yes rfl rfl rfl) rfl (Rd.x (x_move rfl)) ?_
      refine sr_d rfl (wtd_yes rfl rfl rfl) rfl (opS_call rfl rfl rfl rfl cl119 (hf x (List.mem_of_getElem? hx) _)) ?_
      rintro _ H ⟨rfl, rfl⟩
      refine sr_cmp rfl (wtd_yes rfl rfl rfl) rfl (Rd.x (x_eq rfl rfl)) (fun h4 => ?_) (fun h4 => ?_)
      · refine sr_x rfl (wtd_none rfl) rfl (Rd.x (x_pick_t rfl rfl rfl)) ?_
        refine sr_x rfl (wtd_none rfl) rfl (Rd.x (x_assign rfl)) ?_
        refine sr_x rfl (wtd_none rfl) rfl (Rd.x (x_assign rfl)) ?_
        refine sr_nil ?_
        refine aw_keep (keep_cons (t := 6) rfl (keep_cons (t := 7) rfl keep_nil)) ?_
        refine aw_ret ?_
        show ∃ v H2, ResV _ _ _ _ _ _ v ∧ Sub H2 _ ∧ _
        exact ⟨_, H, resV rfl (.cons rfl (.cons rfl .nil)), (by repeat (first | exact Sub.refl _ | apply Sub.drop)), (by (have e9 : i = j := by omega); subst e9; first | exact ⟨⟨i, true, rfl, h9b, h9c, h9d, ⟨fun _ => ⟨x, hx, by assumption⟩, fun _ => rfl⟩⟩, rfl⟩ | exact ⟨⟨i, false, rfl, h9b, h9c, h9d, ⟨(fun h => nomatch h), fun ⟨y, hy, hy0⟩ => by first | (have := get_lt hy; exfalso; omega) | (rw [hx] at hy; cases hy; exact absurd hy0 (by assumption))⟩⟩, rfl⟩)⟩
      · refine sr_x rfl (wtd_none rfl) rfl (Rd.x (x_pick_t rfl rfl rfl)) ?_
        refine sr_x rfl (wtd_none rfl) rfl (Rd.x (x_assign rfl)) ?_
        refine sr_x rfl (wtd_none rfl) rfl (Rd.x (x_assign rfl)) ?_
        refine sr_nil ?_
        refine aw_keep (keep_cons (t := 6) rfl (keep_cons (t := 7) rfl keep_nil)) ?_
        refine aw_ret ?_
        show ∃ v H2, ResV _ _ _ _ _ _ v ∧ Sub H2 _ ∧ _
        exact ⟨_, H, resV rfl (.cons rfl (.cons rfl .nil)), (by repeat (first | exact Sub.refl _ | apply Sub.drop)), (by (have e9 : i = j := by omega); subst e9; first | exact ⟨⟨i, true, rfl, h9b, h9c, h9d, ⟨fun _ => ⟨x, hx, by assumption⟩, fun _ => rfl⟩⟩, rfl⟩ | exact ⟨⟨i, false, rfl, h9b, h9c, h9d, ⟨(fun h => nomatch h), fun ⟨y, hy, hy0⟩ => by first | (have := get_lt hy; exfalso; omega) | (rw [hx] at hy; cases hy; exact absurd hy0 (by assumption))⟩⟩, rfl⟩)⟩
    · refine sr_x rfl (wtd_none rfl) rfl (Rd.x (x_move rfl)) ?_
      refine sr_skip rfl (wtd_no rfl rfl rfl rfl) rfl ?_
      refine sr_skip rfl (wtd_no rfl rfl rfl rfl) rfl ?_
      refine sr_skip rfl (wtd_no rfl rfl rfl rfl) rfl ?_
      refine sr_skip rfl (wtd_no rfl rfl rfl rfl) rfl ?_
      refine sr_skip rfl (wtd_no rfl rfl rfl rfl) rfl ?_
      refine sr_skip rfl (wtd_no rfl rfl rfl rfl) rfl ?_
      refine sr_skip rfl (wtd_no rfl rfl rfl rfl) rfl ?_
      refine sr_skip rfl (wtd_no rfl rfl rfl rfl) rfl ?_
      refine sr_x rfl (wtd_none rfl) rfl (Rd.x (x_pick_f rfl rfl rfl)) ?_
      refine sr_x rfl (wtd_none rfl) rfl (Rd.x (x_assign rfl)) ?_
      refine sr_x rfl (wtd_none rfl) rfl (Rd.x (x_assign rfl)) ?_
      refine sr_nil ?_
      refine aw_keep (keep_cons (t := 6) rfl (keep_cons (t := 7) rfl keep_nil)) ?_
      refine aw_ret ?_
      show ∃ v H2, ResV _ _ _ _ _ _ v ∧ Sub H2 _ ∧ _
      exact ⟨_, H, resV rfl (.cons rfl (.cons rfl .nil)), (by repeat (first | exact Sub.refl _ | apply Sub.drop)), (by (have e9 : i = j := by omega); subst e9; first | exact ⟨⟨i, true, rfl, h9b, h9c, h9d, ⟨fun _ => ⟨x, hx, by assumption⟩, fun _ => rfl⟩⟩, rfl⟩ | exact ⟨⟨i, false, rfl, h9b, h9c, h9d, ⟨(fun h => nomatch h), fun ⟨y, hy, hy0⟩ => by first | (have := get_lt hy; exfalso; omega) | (rw [hx] at hy; cases hy; exact absurd hy0 (by assumption))⟩⟩, rfl⟩)⟩
set_option maxRecDepth 100000 in
set_option maxHeartbeats 400000 in
theorem rclone_s (a : Option Addr) (cap : Nat) (xs : List Entry) (H : SHeap) (hs : SlV W0 H 11 Entry.cells a cap xs) (hjl : xs.length ≤ 1000000) : AC Try.prog W0 116 [.slice a xs.length cap] H (fun v H' => ∃ E2, (∃ a2 cap2, OwnVec 11 113 (.slice a2 xs.length cap2) xs.length (xs.flatMap Entry.cells) E2 ∧ v = .slice a2 xs.length cap2) ∧ H' = E2 ++ H) := by
  have hfl := flat_len (n := 11) (enc := Entry.cells) (fun _ => rfl) xs
  have hfn : a.isNone = true → xs.length = 0 := fun h => by rcases hs.flat (fun _ => rfl) (by omega) with ⟨q, _⟩ | ⟨b, off, rfl, _⟩ <;> first | exact q | cases h
  refine ac_of Try.func116 rfl rfl rfl ?_
  refine aw_seq_region ?_
  refine sr_x rfl (wtd_none rfl) rfl (Rd.x (x_assign rfl)) ?_
  refine sr_nil ?_
  refine aw_keep (keep_cons (t := 0) rfl (keep_cons (t := 2) rfl keep_nil)) ?_
  refine aw_seq ?_
  refine aw_seq_region ?_
  refine sr_x rfl (wtd_none rfl) rfl (Rd.x (x_move rfl)) ?_
  refine sr_x rfl (wtd_none rfl) rfl (Rd.x (x_eqnils Try.underlying104 rfl rfl)) ?_
  refine sr_nil ?_
  refine aw_keep (keep_cons (t := 0) rfl (keep_cons (t := 2) rfl (keep_cons (t := 4) rfl keep_nil))) ?_
  refine aw_cond rfl (fun hb1 => ?_) (fun hb1 => ?_)
  · refine aw_seq_region ?_
    refine sr_x rfl (wtd_none rfl) rfl (Rd.x (x_assign rfl)) ?_
    refine sr_nil ?_
    refine aw_keep (keep_cons (t := 0) rfl (keep_cons (t := 2) rfl keep_nil)) ?_
    refine aw_ret ?_
    show ∃ v H2, ResV _ _ _ _ _ _ v ∧ Sub H2 _ ∧ _
    first | (rw [Nat.zero_add, List.nil_append] at hV7; obtain ⟨a7, cap7, rfl⟩ := hV7.isSl; exact ⟨_, E7 ++ H, resV rfl (.cons rfl .nil), (Sub.refl _), E7, ⟨a7, cap7, hV7, rfl⟩, rfl⟩) | (have hz := hfn (by assumption); have hj0 : xs = [] := List.length_eq_zero_iff.1 hz; subst hj0; exact ⟨_, [] ++ H, resV rfl (.cons rfl .nil), (Sub.refl _), [], ⟨none, 0, .nil, rfl⟩, rfl⟩)
  · refine aw_skip ?_
    show AW _ _ _ _ _ _ _
    refine aw_seq_region ?_
    refine sr_new rfl (wtd_none rfl) rfl (x_buildSlice0 Try.underlying104 sz113 rfl) ?_
    intro r3_0 hr3_0 gr3_0
    refine sr_x rfl (wtd_none rfl) rfl (Rd.x (x_move rfl)) ?_
    refine sr_d rfl (wtd_none rfl) rfl (opS_append (G := H) (N := xs.flatMap Entry.cells) (m := xs.length) Try.underlying104 sz113 zr113 rfl by113 rfl rfl (OwnVec.mk (r := r3_0) (n := 0) (cap := 0) (L := []) (post := []) rfl rfl (by omega) (by omega)) (by repeat (first | exact Sub.refl _ | refine Sub.take (by repeat (first | exact Take.here | apply Take.there | apply Take.app)) ?_ | refine Sub.takeE (by repeat (first | exact TakeE.here | apply TakeE.there | apply TakeE.app)) ?_ | exact Sub.nil _ | apply Sub.drop | apply Sub.dropE)) (((hs.mono (by repeat (first | exact Sub.refl _ | apply Sub.drop))).flat (fun _ => rfl) (by omega))) (hfl) (all_oneE xs) (by omega) (by omega)) ?_
    rintro v7 _ ⟨E7, hV7, rfl⟩
    refine sr_x rfl (wtd_none rfl) rfl (Rd.x (x_assign rfl)) ?_
    refine sr_nil ?_
    refine aw_keep (keep_cons (t := 2) rfl keep_nil) ?_
    refine aw_ret ?_
    show ∃ v H2, ResV _ _ _ _ _ _ v ∧ Sub H2 _ ∧ _
    first | (rw [Nat.zero_add, List.nil_append] at hV7; obtain ⟨a7, cap7, rfl⟩ := hV7.isSl; exact ⟨_, E7 ++ H, resV rfl (.cons rfl .nil), (Sub.refl _), E7, ⟨a7, cap7, hV7, rfl⟩, rfl⟩) | (have hz := hfn (by assumption); have hj0 : xs = [] := List.length_eq_zero_iff.1 hz; subst hj0; exact ⟨_, [] ++ H, resV rfl (.cons rfl .nil), (Sub.refl _), [], ⟨none, 0, .nil, rfl⟩, rfl⟩)
set_option maxRecDepth 100000 in
set_option maxHeartbeats 400000 in
theorem rtaken_s (p : Nat) (r : Rule) (sl : Value) (m : Nat) (es : List MapEntry) (clk : Nat) (G : SHeap) (hk : IntKeys .i64 es) (id : Int) (e : Entry) (he : 0 < e.tries) : AC Try.prog W0 67 [.pointer (some ⟨p, 0, none⟩), .int .i64 id, e.v] (pool p r sl m :: rmap m es clk :: G) (fun v H' => v = .tuple #[] ∧ H' = pool p r sl m :: rmap m (mset .i64 id (.int .i64 e.tries) clk es) (mclk id es clk) :: G) := by
  refine ac_of Try.func67 rfl rfl rfl ?_
  refine aw_seq_region ?_
  refine sr_new rfl (wtd_none rfl) rfl (x_box rfl rfl) ?_
  intro r0_0 hr0_0 gr0_0
  refine sr_nil ?_
  refine aw_keep (keep_cons (t := 0) rfl (keep_cons (t := 1) rfl (keep_cons (t := 5) rfl keep_nil))) ?_
  refine aw_seq_region ?_
  refine sr_x rfl (wtd_none rfl) rfl (Rd.x (x_move rfl)) ?_
  refine sr_d rfl (wtd_none rfl) rfl (opS_call rfl rfl rfl rfl cl115 (rnone_s p r _ m _ (cells_ext (by repeat (first | exact List.mem_cons_self | apply List.mem_cons_of_mem | apply List.mem_append_right)) (by repeat (first | exact Ext.all _ | exact Ext.done | apply Ext.take | apply Ext.skip))))) ?_
  rintro _ H9 ⟨rfl, rfl⟩
  refine sr_x rfl (wtd_none rfl) rfl (Rd.x (x_not rfl)) ?_
  refine sr_x rfl (wtd_none rfl) rfl (Rd.x (x_move rfl)) ?_
  refine sr_x rfl (wtd_yes rfl rfl rfl) rfl (Rd.x (x_fieldAddr fd113_1 rfl)) ?_
  refine sr_x rfl (wtd_yes rfl rfl rfl) rfl (Rd.x (x_load ag3 rfl (cells_ext (by repeat (first | exact List.mem_cons_self | apply List.mem_cons_of_mem | apply List.mem_append_right)) (by repeat (first | exact Ext.all _ | exact Ext.done | apply Ext.take | apply Ext.skip))))) ?_
  refine sr_cmp rfl (wtd_yes rfl rfl rfl) rfl (Rd.x (x_gt rfl rfl)) (fun h1 => ?_) (fun h1 => absurd (by first | omega | decide) h1)
  refine sr_x rfl (wtd_none rfl) rfl (Rd.x (x_pick_t rfl rfl rfl)) ?_
  refine sr_nil ?_
  refine aw_keep (keep_cons (t := 0) rfl (keep_cons (t := 1) rfl (keep_cons (t := 5) rfl (keep_cons (t := 13) rfl keep_nil)))) ?_
  refine aw_true rfl ?_
  refine aw_dr ⟨_, 8, 21, [[], [0], [0, 1], [0, 1, 2], [], [], [5], [0, 1, 2, 3, 4, 5, 6]], [.light, .light, .light, .mem, .light, .light, .mem, .eff]⟩ (by kernel_rfl) rfl rfl mix ?_
  refine dr_light rfl rfl (wtd_none rfl) (x_move rfl) ?_
  refine dr_light rfl rfl (wtd_none rfl) (x_nilCheck rfl) ?_
  refine dr_light rfl rfl (wtd_none rfl) (x_fieldAddr fd107_2 rfl) ?_
  refine dr_mem0 rfl rfl (wtd_none rfl) (x_load ag105 rfl (cells_ext (by repeat (first | exact List.mem_cons_self | apply List.mem_cons_of_mem | apply List.mem_append_right)) (by repeat (first | exact Ext.all _ | exact Ext.done | apply Ext.take | apply Ext.skip)))) ?_
  refine dr_light rfl rfl (wtd_none rfl) (x_move rfl) ?_
  refine dr_light rfl rfl (wtd_none rfl) (x_fieldAddr fd113_1 rfl) ?_
  refine dr_mem0 rfl rfl (wtd_none rfl) (x_load ag3 rfl (cells_ext (by repeat (first | exact List.mem_cons_self | apply List.mem_cons_of_mem | apply List.mem_append_right)) (by repeat (first | exact Ext.all _ | exact Ext.done | apply Ext.take | apply Ext.skip)))) ?_
  refine dr_store0 rfl rfl (wtd_none rfl) (x_mapUpdate Try.underlying105 Try.underlying3 rfl rfl rfl hk (by repeat (first | exact Repl.here | apply Repl.there | apply Repl.app))) (by first | rfl | simp [keys_append, keys_cons]) ?_
  refine dr_nil0 ?_
  show ∃ v H2, ResV _ _ _ _ _ _ v ∧ Sub H2 _ ∧ _
  exact ⟨_, _, resV rfl .nil, (by repeat (first | exact Sub.refl _ | refine Sub.take (by repeat (first | exact Take.here | apply Take.there | apply Take.app)) ?_ | refine Sub.takeE (by repeat (first | exact TakeE.here | apply TakeE.there | apply TakeE.app)) ?_ | exact Sub.nil _ | apply Sub.drop | apply Sub.dropE)), ⟨rfl, rfl⟩⟩
set_option maxRecDepth 100000 in
set_option maxHeartbeats 400000 in
theorem rtaken0_s (p : Nat) (r : Rule) (sl : Value) (m : Nat) (es : List MapEntry) (clk : Nat) (G : SHeap) (hk : IntKeys .i64 es) (id : Int) (e : Entry) (he : ¬ 0 < e.tries) : AC Try.prog W0 67 [.pointer (some ⟨p, 0, none⟩), .int .i64 id, e.v] (pool p r sl m :: rmap m es clk :: G) (fun v H' => v = .tuple #[] ∧ H' = pool p r sl m :: rmap m es clk :: G) := by
  refine ac_of Try.func67 rfl rfl rfl ?_
  refine aw_seq_region ?_
  refine sr_new rfl (wtd_none rfl) rfl (x_box rfl rfl) ?_
  intro r0_0 hr0_0 gr0_0
  refine sr_nil ?_
  refine aw_keep (keep_cons (t := 0) rfl (keep_cons (t := 1) rfl (keep_cons (t := 5) rfl keep_nil))) ?_
  refine aw_seq_region ?_
  refine sr_x rfl (wtd_none rfl) rfl (Rd.x (x_move rfl)) ?_
  refine sr_d rfl (wtd_none rfl) rfl (opS_call rfl rfl rfl rfl cl115 (rnone_s p r _ m _ (cells_ext (by repeat (first | exact List.mem_cons_self | apply List.mem_cons_of_mem | apply List.mem_append_right)) (by repeat (first | exact Ext.all _ | exact Ext.done | apply Ext.take | apply Ext.skip))))) ?_
  rintro _ H9 ⟨rfl, rfl⟩
  refine sr_x rfl (wtd_none rfl) rfl (Rd.x (x_not rfl)) ?_
  refine sr_x rfl (wtd_none rfl) rfl (Rd.x (x_move rfl)) ?_
  refine sr_x rfl (wtd_yes rfl rfl rfl) rfl (Rd.x (x_fieldAddr fd113_1 rfl)) ?_
  refine sr_x rfl (wtd_yes rfl rfl rfl) rfl (Rd.x (x_load ag3 rfl (cells_ext (by repeat (first | exact List.mem_cons_self | apply List.mem_cons_of_mem | apply List.mem_append_right)) (by repeat (first | exact Ext.all _ | exact Ext.done | apply Ext.take | apply Ext.skip))))) ?_
  refine sr_cmp rfl (wtd_yes rfl rfl rfl) rfl (Rd.x (x_gt rfl rfl)) (fun h1 => absurd h1 (by first | omega | decide)) (fun h1 => ?_)
  refine sr_x rfl (wtd_none rfl) rfl (Rd.x (x_pick_t rfl rfl rfl)) ?_
  refine sr_nil ?_
  refine aw_keep (keep_cons (t := 0) rfl (keep_cons (t := 1) rfl (keep_cons (t := 5) rfl (keep_cons (t := 13) rfl keep_nil)))) ?_
  refine aw_false rfl ?_
  refine aw_skip ?_
  show ∃ v H2, ResV _ _ _ _ _ _ v ∧ Sub H2 _ ∧ _
  exact ⟨_, _, resV rfl .nil, (by repeat (first | exact Sub.refl _ | refine Sub.take (by repeat (first | exact Take.here | apply Take.there | apply Take.app)) ?_ | refine Sub.takeE (by repeat (first | exact TakeE.here | apply TakeE.there | apply TakeE.app)) ?_ | exact Sub.nil _ | apply Sub.drop | apply Sub.dropE)), ⟨rfl, rfl⟩⟩
set_option maxRecDepth 100000 in
set_option maxHeartbeats 400000 in
theorem rdue_s (p : Nat) (r : Rule) (b o : Nat) (cap : Nat) (W : List Entry) (m : Nat) (G : SHeap) (t : Int) (hs : SlV W0 G 11 Entry.cells (some ⟨b, o, none⟩) cap W) (hn : W.length ≤ 1000000) : AC Try.prog W0 65 [.pointer (some ⟨p, 0, none⟩), .int .i64 t] (pool p r (.slice (some ⟨b, o, none⟩) W.length cap) m :: G) (fun v H' => ∃ E2 a2 cap2, OwnVec 11 113 (.slice a2 (dueN W t) cap2) (dueN W t) ((W.take (dueN W t)).flatMap Entry.cells) E2 ∧ v = .slice a2 (dueN W t) cap2 ∧ H' = E2 ++ (pool p r (.slice (some ⟨b, if cap = dueN W t then o else o + dueN W t * 11, none⟩) (W.length - dueN W t) (cap - dueN W t)) m :: G)) := by
  have hle := hs.le
  have hcb := hs.capb
  refine ac_of Try.func65 rfl rfl rfl ?_
  refine aw_seq_region ?_
  refine sr_x rfl (wtd_none rfl) rfl (Rd.x (x_assign rfl)) ?_
  refine sr_nil ?_
  refine aw_keep (keep_cons (t := 0) rfl (keep_cons (t := 1) rfl (keep_cons (t := 4) rfl keep_nil))) ?_
  refine aw_seq ?_
  refine aw_seq_region ?_
  refine sr_x rfl (wtd_none rfl) rfl (Rd.x (x_move rfl)) ?_
  refine sr_d rfl (wtd_none rfl) rfl (opS_call rfl rfl rfl rfl cl115 (rnone_s p r _ m _ (cells_ext (by repeat (first | exact List.mem_cons_self | apply List.mem_cons_of_mem | apply List.mem_append_right)) (by repeat (first | exact Ext.all _ | exact Ext.done | apply Ext.take | apply Ext.skip))))) ?_
  rintro _ H9 ⟨rfl, rfl⟩
  refine sr_nil ?_
  refine aw_keep (keep_cons (t := 0) rfl (keep_cons (t := 1) rfl (keep_cons (t := 4) rfl (keep_cons (t := 8) rfl keep_nil)))) ?_
  refine aw_false rfl ?_
  refine aw_skip ?_
  show AW _ _ _ _ _ _ _
  refine aw_seq_region ?_
  refine sr_x rfl (wtd_none rfl) rfl (Rd.x (x_assign rfl)) ?_
  refine sr_nil ?_
  refine aw_keep (keep_cons (t := 0) rfl (keep_cons (t := 1) rfl (keep_cons (t := 4) rfl (keep_cons (t := 5) rfl keep_nil)))) ?_
  refine aw_seq ?_
  refine aw_block ?_
  refine aw_loop (ι := Nat) (fun k => k ≤ W.length ∧ ∀ i e, i < k → W[i]? = some e → e.at_ ≤ t) (fun k => [(0, .pointer (some ⟨p, 0, none⟩)), (1, .int .i64 t), (5, .int .i64 k)]) (fun _ => pool p r (.slice (some ⟨b, o, none⟩) W.length cap) m :: G) (fun k => W.length - k) 0 (⟨Nat.zero_le _, fun i e h => absurd h (Nat.not_lt_zero i)⟩) (by repeat (first | exact keep_nil | refine keep_cons rfl ?_)) (by repeat (first | exact Sub.refl _ | apply Sub.drop)) ?_
  intro k hk9
  obtain ⟨hk, hall⟩ := hk9
  have hlk : (W.take k).length = k := by rw [List.length_take]; omega
  refine aw_seq ?_
  refine aw_seq_region ?_
  refine sr_x rfl (wtd_none rfl) rfl (Rd.x (x_move rfl)) ?_
  refine sr_x rfl (wtd_none rfl) rfl (Rd.x (x_move rfl)) ?_
  refine sr_x rfl (wtd_none rfl) rfl (Rd.x (x_nilCheck rfl)) ?_
  refine sr_x rfl (wtd_none rfl) rfl (Rd.x (x_fieldAddr fd107_1 rfl)) ?_
  refine sr_x rfl (wtd_none rfl) rfl (Rd.x (x_load ag104 rfl (cells_ext (by repeat (first | exact List.mem_cons_self | apply List.mem_cons_of_mem | apply List.mem_append_right)) (by repeat (first | exact Ext.all _ | exact Ext.done | apply Ext.take | apply Ext.skip))))) ?_
  refine sr_x rfl (wtd_none rfl) rfl (Rd.x (x_lenSlice Try.underlying104 rfl)) ?_
  refine sr_cmp rfl (wtd_none rfl) rfl (Rd.x (x_lt rfl rfl)) (fun h1 => ?_) (fun h1 => ?_)
  · refine sr_x rfl (wtd_none rfl) rfl (Rd.x (x_move rfl)) ?_
    obtain ⟨e, he⟩ := get_ex (show k < W.length by omega)
    obtain ⟨be, oe, hae, hce⟩ := hs.at_ k _ he
    refine sr_x rfl (wtd_yes rfl rfl rfl) rfl (Rd.x (x_move rfl)) ?_
    refine sr_x rfl (wtd_yes rfl rfl rfl) rfl (Rd.x (x_nilCheck rfl)) ?_
    refine sr_x rfl (wtd_yes rfl rfl rfl) rfl (Rd.x (x_fieldAddr fd107_1 rfl)) ?_
    refine sr_x rfl (wtd_yes rfl rfl rfl) rfl (Rd.x (x_load ag104 rfl (cells_ext (by repeat (first | exact List.mem_cons_self | apply List.mem_cons_of_mem | apply List.mem_append_right)) (by repeat (first | exact Ext.all _ | exact Ext.done | apply Ext.take | apply Ext.skip))))) ?_
    refine sr_x rfl (wtd_yes rfl rfl rfl) rfl (Rd.x (x_move rfl)) ?_
    refine sr_x rfl (wtd_yes rfl rfl rfl) rfl (Rd.x (x_indexAddrN k Try.underlying104 sz113 rfl hae rfl (by omega) (by omega))) ?_
    refine sr_x rfl (wtd_yes rfl rfl rfl) rfl (Rd.x (x_fieldAddr fd113_0 rfl)) ?_
    refine sr_x rfl (wtd_yes rfl rfl rfl) rfl (Rd.x (x_load ag2 rfl (cells_get (Cells.mono hce (by repeat (first | exact Sub.refl _ | apply Sub.drop))) 0 rfl))) ?_
    refine sr_x rfl (wtd_yes rfl rfl rfl) rfl (Rd.x (x_move rfl)) ?_
    refine sr_cmp rfl (wtd_yes rfl rfl rfl) rfl (Rd.x (x_le rfl rfl)) (fun h2 => ?_) (fun h2 => ?_)
    · refine sr_x rfl (wtd_none rfl) rfl (Rd.x (x_pick_t rfl rfl rfl)) ?_
      refine sr_nil ?_
      refine aw_keep (keep_cons (t := 0) rfl (keep_cons (t := 1) rfl (keep_cons (t := 5) rfl (keep_cons (t := 9) rfl (keep_cons (t := 10) rfl (keep_cons (t := 11) rfl (keep_cons (t := 12) rfl (keep_cons (t := 13) rfl (keep_cons (t := 14) rfl (keep_cons (t := 15) rfl (keep_cons (t := 16) rfl (keep_cons (t := 17) rfl (keep_cons (t := 18) rfl (keep_cons (t := 19) rfl (keep_cons (t := 20) rfl (keep_cons (t := 21) rfl (keep_cons (t := 22) rfl (keep_cons (t := 23) rfl (keep_cons (t := 24) rfl (keep_cons (t := 25) rfl (keep_cons (t := 26) rfl (keep_cons (t := 27) rfl keep_nil)))))))))))))))))))))) ?_
      refine aw_true rfl ?_
      refine aw_skip ?_
      show AW _ _ _ _ _ _ _
      refine aw_block ?_
      refine aw_region ?_
      refine sr_x rfl (wtd_none rfl) rfl (Rd.x (x_move rfl)) ?_
      refine sr_x rfl (wtd_none rfl) rfl (Rd.x (x_add' rfl rfl (i64w (by omega) (by omega)))) ?_
      refine sr_x rfl (wtd_none rfl) rfl (Rd.x (x_assign rfl)) ?_
      refine sr_nil ?_
      show ∃ s', _ ∧ _ ∧ _ ∧ _
      exact ⟨k + 1, ⟨by omega, fun i z h hz => (Nat.lt_or_eq_of_le (Nat.le_of_lt_succ h)).elim (fun h => hall i z h hz) fun e9 => by subst e9; rw [he] at hz; cases hz; assumption⟩, by omega, (by repeat (first | exact keep_nil | refine keep_cons rfl ?_)), (by repeat (first | exact Sub.refl _ | apply Sub.drop))⟩
    · refine sr_x rfl (wtd_none rfl) rfl (Rd.x (x_pick_t rfl rfl rfl)) ?_
      refine sr_nil ?_
      refine aw_keep (keep_cons (t := 0) rfl (keep_cons (t := 1) rfl (keep_cons (t := 5) rfl (keep_cons (t := 9) rfl (keep_cons (t := 10) rfl (keep_cons (t := 11) rfl (keep_cons (t := 12) rfl (keep_cons (t := 13) rfl (keep_cons (t := 14) rfl (keep_cons (t := 15) rfl (keep_cons (t := 16) rfl (keep_cons (t := 17) rfl (keep_cons (t := 18) rfl (keep_cons (t := 19) rfl (keep_cons (t := 20) rfl (keep_cons (t := 21) rfl (keep_cons (t := 22) rfl (keep_cons (t := 23) rfl (keep_cons (t := 24) rfl (keep_cons (t := 25) rfl (keep_cons (t := 26) rfl (keep_cons (t := 27) rfl keep_nil)))))))))))))))))))))) ?_
      refine aw_false rfl ?_
      refine aw_exit ?_
      show AW _ _ _ _ _ _ _
      refine aw_seq_region ?_
      have hkd : dueN W t = k := dueN_eq hk hall (by first | (intro e2 h2; rw [he] at h2; cases h2; omega) | (intro e2 h2; have := get_lt h2; omega))
      refine sr_x rfl (wtd_none rfl) rfl (Rd.x (x_move rfl)) ?_
      refine sr_x rfl (wtd_none rfl) rfl (Rd.x (x_nilCheck rfl)) ?_
      refine sr_x rfl (wtd_none rfl) rfl (Rd.x (x_fieldAddr fd107_1 rfl)) ?_
      refine sr_x rfl (wtd_none rfl) rfl (Rd.x (x_load ag104 rfl (cells_ext (by repeat (first | exact List.mem_cons_self | apply List.mem_cons_of_mem | apply List.mem_append_right)) (by repeat (first | exact Ext.all _ | exact Ext.done | apply Ext.take | apply Ext.skip))))) ?_
      refine sr_x rfl (wtd_none rfl) rfl (Rd.x (x_move rfl)) ?_
      refine sr_x rfl (wtd_none rfl) rfl (Rd.x (x_cast (u := .slice (some ⟨b, o, none⟩) (W.take k).length cap) (x_sliceHiK k Try.underlying104 sz113 rfl rfl rfl (by omega)) (by rw [hlk]))) ?_
      refine sr_d rfl (wtd_none rfl) rfl (opS_call rfl rfl rfl rfl cl116 (rclone_s (some ⟨b, o, none⟩) cap (W.take k) _ ((hs.mono (by repeat (first | exact Sub.refl _ | apply Sub.drop))).take k) (by rw [hlk]; omega))) ?_
      rintro _ _ ⟨E2, ⟨a2, cap2, V2, rfl⟩, rfl⟩
      rw [hlk] at V2
      refine sr_x rfl (wtd_none rfl) rfl (Rd.x (x_assign rfl)) ?_
      refine sr_nil ?_
      refine aw_keep (keep_cons (t := 0) rfl (keep_cons (t := 5) rfl (keep_cons (t := 6) rfl keep_nil))) ?_
      refine aw_seq_region ?_
      refine sr_x rfl (wtd_none rfl) rfl (Rd.x (x_move rfl)) ?_
      refine sr_x rfl (wtd_none rfl) rfl (Rd.x (x_move rfl)) ?_
      refine sr_x rfl (wtd_none rfl) rfl (Rd.x (x_nilCheck rfl)) ?_
      refine sr_x rfl (wtd_none rfl) rfl (Rd.x (x_fieldAddr fd107_1 rfl)) ?_
      refine sr_x rfl (wtd_none rfl) rfl (Rd.x (x_load ag104 rfl (cells_ext (by repeat (first | exact List.mem_cons_self | apply List.mem_cons_of_mem | apply List.mem_append_right)) (by repeat (first | exact Ext.all _ | exact Ext.done | apply Ext.take | apply Ext.skip))))) ?_
      refine sr_x rfl (wtd_none rfl) rfl (Rd.x (x_move rfl)) ?_
      refine sr_x rfl (wtd_none rfl) rfl (Rd.x (x_sliceLo Try.underlying104 sz113 rfl rfl (by omega) (by omega) (by omega))) ?_
      refine sr_x rfl (wtd_none rfl) rfl (Rd.x (x_nilCheck rfl)) ?_
      refine sr_x rfl (wtd_none rfl) rfl (Rd.x (x_fieldAddr fd107_1 rfl)) ?_
      refine sr_x0 rfl (wtd_none rfl) (x_store sz104 rfl rfl rfl rfl rfl (by repeat (first | exact Repl.here | apply Repl.there | apply Repl.app)) (by repeat (first | exact Spl.done | exact Spl.all rfl | apply Spl.put | apply Spl.skip))) ?_
      refine sr_nil ?_
      refine aw_keep (keep_cons (t := 6) rfl keep_nil) ?_
      refine aw_seq_region ?_
      refine sr_x rfl (wtd_none rfl) rfl (Rd.x (x_move rfl)) ?_
      refine sr_x rfl (wtd_none rfl) rfl (Rd.x (x_assign rfl)) ?_
      refine sr_nil ?_
      refine aw_keep (keep_cons (t := 4) rfl keep_nil) ?_
      refine aw_ret ?_
      show ∃ v H2, ResV _ _ _ _ _ _ v ∧ Sub H2 _ ∧ _
      exact ⟨_, _, resV rfl (.cons rfl .nil), Sub.refl _, E2, a2, cap2, by rw [hkd]; exact V2, by rw [hkd, hlk]; rfl, by rw [hkd]; rfl⟩
  · refine sr_x rfl (wtd_none rfl) rfl (Rd.x (x_move rfl)) ?_
    refine sr_skip rfl (wtd_no rfl rfl rfl rfl) rfl ?_
    refine sr_skip rfl (wtd_no rfl rfl rfl rfl) rfl ?_
    refine sr_skip rfl (wtd_no rfl rfl rfl rfl) rfl ?_
    refine sr_skip rfl (wtd_no rfl rfl rfl rfl) rfl ?_
    refine sr_skip rfl (wtd_no rfl rfl rfl rfl) rfl ?_
    refine sr_skip rfl (wtd_no rfl rfl rfl rfl) rfl ?_
    refine sr_skip rfl (wtd_no rfl rfl rfl rfl) rfl ?_
    refine sr_skip rfl (wtd_no rfl rfl rfl rfl) rfl ?_
    refine sr_skip rfl (wtd_no rfl rfl rfl rfl) rfl ?_
    refine sr_skip rfl (wtd_no rfl rfl rfl rfl) rfl ?_
    refine sr_x rfl (wtd_none rfl) rfl (Rd.x (x_pick_f rfl rfl rfl)) ?_
    refine sr_nil ?_
    refine aw_keep (keep_cons (t := 0) rfl (keep_cons (t := 1) rfl (keep_cons (t := 5) rfl (keep_cons (t := 9) rfl (keep_cons (t := 10) rfl (keep_cons (t := 11) rfl (keep_cons (t := 12) rfl (keep_cons (t := 13) rfl (keep_cons (t := 14) rfl (keep_cons (t := 15) rfl (keep_cons (t := 16) rfl (keep_cons (t := 17) rfl (keep_cons (t := 18) rfl (keep_cons (t := 19) rfl (keep_cons (t := 20) rfl (keep_cons (t := 21) rfl (keep_cons (t := 22) rfl (keep_cons (t := 23) rfl (keep_cons (t := 24) rfl (keep_cons (t := 25) rfl (keep_cons (t := 26) rfl (keep_cons (t := 27) rfl keep_nil)))))))))))))))))))))) ?_
    refine aw_false rfl ?_
    refine aw_exit ?_
    show AW _ _ _ _ _ _ _
    refine aw_seq_region ?_
    have hkd : dueN W t = k := dueN_eq hk hall (by first | (intro e2 h2; rw [he] at h2; cases h2; omega) | (intro e2 h2; have := get_lt h2; omega))
    refine sr_x rfl (wtd_none rfl) rfl (Rd.x (x_move rfl)) ?_
    refine sr_x rfl (wtd_none rfl) rfl (Rd.x (x_nilCheck rfl)) ?_
    refine sr_x rfl (wtd_none rfl) rfl (Rd.x (x_fieldAddr fd107_1 rfl)) ?_
    refine sr_x rfl (wtd_none rfl) rfl (Rd.x (x_load ag104 rfl (cells_ext (by repeat (first | exact List.mem_cons_self | apply List.mem_cons_of_mem | apply List.mem_append_right)) (by repeat (first | exact Ext.all _ | exact Ext.done | apply Ext.take | apply Ext.skip))))) ?_
    refine sr_x rfl (wtd_none rfl) rfl (Rd.x (x_move rfl)) ?_
    refine sr_x rfl (wtd_none rfl) rfl (Rd.x (x_cast (u := .slice (some ⟨b, o, none⟩) (W.take k).length cap) (x_sliceHiK k Try.underlying104 sz113 rfl rfl rfl (by omega)) (by rw [hlk]))) ?_
    refine sr_d rfl (wtd_none rfl) rfl (opS_call rfl rfl rfl rfl cl116 (rclone_s (some ⟨b, o, none⟩) cap (W.take k) _ ((hs.mono (by repeat (first | exact Sub.refl _ | apply Sub.drop))).take k) (by rw [hlk]; omega))) ?_
    rintro _ _ ⟨E2, ⟨a2, cap2, V2, rfl⟩, rfl⟩
    rw [hlk] at V2
    refine sr_x rfl (wtd_none rfl) rfl (Rd.x (x_assign rfl)) ?_
    refine sr_nil ?_
    refine aw_keep (keep_cons (t := 0) rfl (keep_cons (t := 5) rfl (keep_cons (t := 6) rfl keep_nil))) ?_
    refine aw_seq_region ?_
    refine sr_x rfl (wtd_none rfl) rfl (Rd.x (x_move rfl)) ?_
    refine sr_x rfl (wtd_none rfl) rfl (Rd.x (x_move rfl)) ?_
    refine sr_x rfl (wtd_none rfl) rfl (Rd.x (x_nilCheck rfl)) ?_
    refine sr_x rfl (wtd_none rfl) rfl (Rd.x (x_fieldAddr fd107_1 rfl)) ?_
    refine sr_x rfl (wtd_none rfl) rfl (Rd.x (x_load ag104 rfl (cells_ext (by repeat (first | exact List.mem_cons_self | apply List.mem_cons_of_mem | apply List.mem_append_right)) (by repeat (first | exact Ext.all _ | exact Ext.done | apply Ext.take | apply Ext.skip))))) ?_
    refine sr_x rfl (wtd_none rfl) rfl (Rd.x (x_move rfl)) ?_
    refine sr_x rfl (wtd_none rfl) rfl (Rd.x (x_sliceLo Try.underlying104 sz113 rfl rfl (by omega) (by omega) (by omega))) ?_
    refine sr_x rfl (wtd_none rfl) rfl (Rd.x (x_nilCheck rfl)) ?_
    refine sr_x rfl (wtd_none rfl) rfl (Rd.x (x_fieldAddr fd107_1 rfl)) ?_
    refine sr_x0 rfl (wtd_none rfl) (x_store sz104 rfl rfl rfl rfl rfl (by repeat (first | exact Repl.here | apply Repl.there | apply Repl.app)) (by repeat (first | exact Spl.done | exact Spl.all rfl | apply Spl.put | apply Spl.skip))) ?_
    refine sr_nil ?_
    refine aw_keep (keep_cons (t := 6) rfl keep_nil) ?_
    refine aw_seq_region ?_
    refine sr_x rfl (wtd_none rfl) rfl (Rd.x (x_move rfl)) ?_
    refine sr_x rfl (wtd_none rfl) rfl (Rd.x (x_assign rfl)) ?_
    refine sr_nil ?_
    refine aw_keep (keep_cons (t := 4) rfl keep_nil) ?_
    refine aw_ret ?_
    show ∃ v H2, ResV _ _ _ _ _ _ v ∧ Sub H2 _ ∧ _
    exact ⟨_, _, resV rfl (.cons rfl .nil), Sub.refl _, E2, a2, cap2, by rw [hkd]; exact V2, by rw [hkd, hlk]; rfl, by rw [hkd]; rfl⟩
set_option maxRecDepth 100000 in
set_option maxHeartbeats 400000 in
theorem rendedNo_s (p : Nat) (r : Rule) (m : Nat) (es : List MapEntry) (clk : Nat) (hk : IntKeys .i64 es) (j : Job) (n : Int) (hn : (mget j.id es).getD (.int .i64 0) = .int .i64 n) (sl : Value) (G : SHeap) (hno : ¬ AgainP r j n) : AC Try.prog W0 69 [.pointer (some ⟨p, 0, none⟩), j.v] (pool p r sl m :: rmap m es clk :: G) (fun v H' => v = .bool false ∧ H' = pool p r sl m :: rmap m (mdel j.id es) clk :: G) := by
  refine ac_of Try.func69 rfl rfl rfl ?_
  refine aw_seq_region ?_
  refine sr_new rfl (wtd_none rfl) rfl (x_box rfl rfl) ?_
  intro r0_0 hr0_0 gr0_0
  refine sr_x rfl (wtd_none rfl) rfl (Rd.x (x_assign rfl)) ?_
  refine sr_nil ?_
  refine aw_keep (keep_cons (t := 0) rfl (keep_cons (t := 3) rfl (keep_cons (t := 4) rfl keep_nil))) ?_
  refine aw_seq ?_
  refine aw_seq_region ?_
  refine sr_x rfl (wtd_none rfl) rfl (Rd.x (x_move rfl)) ?_
  refine sr_d rfl (wtd_none rfl) rfl (opS_call rfl rfl rfl rfl cl115 (rnone_s p r _ m _ (cells_ext (by repeat (first | exact List.mem_cons_self | apply List.mem_cons_of_mem | apply List.mem_append_right)) (by repeat (first | exact Ext.all _ | exact Ext.done | apply Ext.take | apply Ext.skip))))) ?_
  rintro _ H9 ⟨rfl, rfl⟩
  refine sr_nil ?_
  refine aw_keep (keep_cons (t := 0) rfl (keep_cons (t := 3) rfl (keep_cons (t := 4) rfl (keep_cons (t := 13) rfl keep_nil)))) ?_
  refine aw_false rfl ?_
  refine aw_skip ?_
  show AW _ _ _ _ _ _ _
  refine aw_seq_dr ⟨_, 8, 72, [[], [0], [0, 1], [0, 1, 2], [], [4], [0, 1, 2, 3, 4, 5], [0, 1, 2, 3, 4, 5, 6]], [.light, .light, .light, .mem, .light, .mem, .mem, .light]⟩ (by kernel_rfl) rfl rfl mix ?_
  refine dr_light rfl rfl (wtd_none rfl) (x_move rfl) ?_
  refine dr_light rfl rfl (wtd_none rfl) (x_nilCheck rfl) ?_
  refine dr_light rfl rfl (wtd_none rfl) (x_fieldAddr fd107_2 rfl) ?_
  refine dr_mem0 rfl rfl (wtd_none rfl) (x_load ag105 rfl (cells_ext (by repeat (first | exact List.mem_cons_self | apply List.mem_cons_of_mem | apply List.mem_append_right)) (by repeat (first | exact Ext.all _ | exact Ext.done | apply Ext.take | apply Ext.skip)))) ?_
  refine dr_light rfl rfl (wtd_none rfl) (x_fieldAddr fd91_0 rfl) ?_
  refine dr_mem0 rfl rfl (wtd_none rfl) (x_load ag3 rfl (cells_ext (by repeat (first | exact List.mem_cons_self | apply List.mem_cons_of_mem | apply List.mem_append_right)) (by repeat (first | exact Ext.all _ | exact Ext.done | apply Ext.take | apply Ext.skip)))) ?_
  refine dr_mem0 rfl rfl (wtd_none rfl) (x_cast (u := .int .i64 n) (x_lookup Try.underlying105 Try.underlying3 zr3 rfl rfl (map_at (by repeat (first | exact List.mem_cons_self | apply List.mem_cons_of_mem | apply List.mem_append_right))) hk) hn) ?_
  refine dr_light rfl rfl (wtd_none rfl) (x_assign rfl) ?_
  refine dr_nil0 ?_
  refine aw_keep (keep_cons (t := 0) rfl (keep_cons (t := 3) rfl (keep_cons (t := 4) rfl (keep_cons (t := 5) rfl keep_nil)))) ?_
  refine aw_seq_dr ⟨_, 7, 72, [[], [0], [0, 1], [0, 1, 2], [], [4], [0, 1, 2, 3, 4, 5]], [.light, .light, .light, .mem, .light, .mem, .eff]⟩ (by kernel_rfl) rfl rfl mix ?_
  refine dr_light rfl rfl (wtd_none rfl) (x_move rfl) ?_
  refine dr_light rfl rfl (wtd_none rfl) (x_nilCheck rfl) ?_
  refine dr_light rfl rfl (wtd_none rfl) (x_fieldAddr fd107_2 rfl) ?_
  refine dr_mem0 rfl rfl (wtd_none rfl) (x_load ag105 rfl (cells_ext (by repeat (first | exact List.mem_cons_self | apply List.mem_cons_of_mem | apply List.mem_append_right)) (by repeat (first | exact Ext.all _ | exact Ext.done | apply Ext.take | apply Ext.skip)))) ?_
  refine dr_light rfl rfl (wtd_none rfl) (x_fieldAddr fd91_0 rfl) ?_
  refine dr_mem0 rfl rfl (wtd_none rfl) (x_load ag3 rfl (cells_ext (by repeat (first | exact List.mem_cons_self | apply List.mem_cons_of_mem | apply List.mem_append_right)) (by repeat (first | exact Ext.all _ | exact Ext.done | apply Ext.take | apply Ext.skip)))) ?_
  refine dr_store0 rfl rfl (wtd_none rfl) (x_delete Try.underlying105 Try.underlying3 rfl rfl hk (by repeat (first | exact Repl.here | apply Repl.there | apply Repl.app))) (by first | rfl | simp [keys_append, keys_cons]) ?_
  refine dr_nil0 ?_
  refine aw_keep (keep_cons (t := 0) rfl (keep_cons (t := 3) rfl (keep_cons (t := 4) rfl (keep_cons (t := 5) rfl keep_nil)))) ?_
  refine aw_seq_dr ⟨_, 14, 72, [[], [0], [0, 1], [0, 1, 2], [], [], [0, 1, 2, 3, 4, 5], [0, 1, 2, 3, 4, 5, 6], [0, 1, 2, 3, 4, 5, 6, 7], [0, 1, 2, 3, 4, 5, 6, 7], [0, 1, 2, 3, 4, 5, 6, 7], [0, 1, 2, 3, 4, 5, 6, 7, 8], [0, 1, 2, 3, 4, 5, 6, 7, 8, 9, 11], [0, 1, 2, 3, 4, 5, 6, 7, 8, 9, 10, 11, 12]], [.light, .light, .light, .mem, .mem, .light, .call, .light, .light, .light, .light, .light, .light, .light]⟩ (by kernel_rfl) rfl rfl mix ?_
  refine dr_light rfl rfl (wtd_none rfl) (x_move rfl) ?_
  refine dr_light rfl rfl (wtd_none rfl) (x_nilCheck rfl) ?_
  refine dr_light rfl rfl (wtd_none rfl) (x_fieldAddr fd107_0 rfl) ?_
  refine dr_mem0 rfl rfl (wtd_none rfl) (x_loadN ag89 sz89 rfl (cells_ext (vs := r.cells) (n := 5) (by repeat (first | exact List.mem_cons_self | apply List.mem_cons_of_mem | apply List.mem_append_right)) (by repeat (first | exact Ext.done | apply Ext.take | apply Ext.skip))) rfl) ?_
  refine dr_mem0 rfl rfl (wtd_none rfl) (x_loadN ag91 sz91 rfl (cells_ext (by repeat (first | exact List.mem_cons_self | apply List.mem_cons_of_mem | apply List.mem_append_right)) (by repeat (first | exact Ext.all _ | exact Ext.done | apply Ext.take | apply Ext.skip))) rfl) ?_
  refine dr_light rfl rfl (wtd_none rfl) (x_move rfl) ?_
  refine dr_callq0 rfl rfl (wtd_none rfl) (opS_F rfl rfl rfl rfl cl56 ((again56_s _ _ _ _))) (⟨_, rfl⟩) ?_
  rintro _ rfl
  unfold againV
  rw [if_neg hno]
  refine dr_light rfl rfl (wtd_none rfl) (x_move rfl) ?_
  refine dr_light rfl rfl (wtd_none rfl) (x_extract rfl rfl) ?_
  refine dr_light rfl rfl (wtd_none rfl) (x_extract rfl rfl) ?_
  refine dr_light rfl rfl (wtd_none rfl) (x_extract rfl rfl) ?_
  refine dr_light rfl rfl (wtd_none rfl) (x_assign rfl) ?_
  refine dr_light rfl rfl (wtd_none rfl) (x_assign rfl) ?_
  refine dr_light rfl rfl (wtd_none rfl) (x_assign rfl) ?_
  refine dr_nil0 ?_
  refine aw_keep (keep_cons (t := 0) rfl (keep_cons (t := 3) rfl (keep_cons (t := 4) rfl (keep_cons (t := 5) rfl (keep_cons (t := 6) rfl (keep_cons (t := 7) rfl (keep_cons (t := 8) rfl keep_nil))))))) ?_
  refine aw_seq ?_
  refine aw_seq_region ?_
  refine sr_x rfl (wtd_none rfl) rfl (Rd.x (x_move rfl)) ?_
  refine sr_x rfl (wtd_none rfl) rfl (Rd.x (x_not rfl)) ?_
  refine sr_nil ?_
  refine aw_keep (keep_cons (t := 0) rfl (keep_cons (t := 3) rfl (keep_cons (t := 4) rfl (keep_cons (t := 5) rfl (keep_cons (t := 6) rfl (keep_cons (t := 7) rfl (keep_cons (t := 39) rfl keep_nil))))))) ?_
  refine aw_true rfl ?_
  refine aw_seq_region ?_
  refine sr_x rfl (wtd_none rfl) rfl (Rd.x (x_assign rfl)) ?_
  refine sr_nil ?_
  refine aw_keep (keep_cons (t := 0) rfl (keep_cons (t := 3) rfl (keep_cons (t := 4) rfl (keep_cons (t := 5) rfl (keep_cons (t := 6) rfl (keep_cons (t := 7) rfl keep_nil)))))) ?_
  refine aw_ret ?_
  show ∃ v H2, ResV _ _ _ _ _ _ v ∧ Sub H2 _ ∧ _
  exact ⟨_, _, resV rfl (.cons rfl .nil), (by repeat (first | exact Sub.refl _ | refine Sub.take (by repeat (first | exact Take.here | apply Take.there | apply Take.app)) ?_ | refine Sub.takeE (by repeat (first | exact TakeE.here | apply TakeE.there | apply TakeE.app)) ?_ | exact Sub.nil _ | apply Sub.drop | apply Sub.dropE)), ⟨rfl, rfl⟩⟩
set_option maxRecDepth 100000 in
set_option maxHeartbeats 2000000 in
theorem rendedOk_s (p : Nat) (r : Rule) (m : Nat) (es : List MapEntry) (clk : Nat) (hk : IntKeys .i64 es) (j : Job) (n : Int) (hn : (mget j.id es).getD (.int .i64 0) = .int .i64 n) (a : Option Addr) (cap : Nat) (W : List Entry) (E G : SHeap) (V : OwnVec 11 113 (.slice a W.length cap) W.length (W.flatMap Entry.cells) E) (hyes : AgainP r j n) (hnn : n ≤ 1000) (hW : W.length ≤ 1000) (hsrt : SrtE W) : AC Try.prog W0 69 [.pointer (some ⟨p, 0, none⟩), j.v] (pool p r (.slice a W.length cap) m :: rmap m es clk :: (E ++ G)) (fun v H' => ∃ i a1 c1 E1, AtE W (satAdd [j.fin, waitL r n]) i ∧ OwnVec 11 113 (.slice a1 (W.length + 1) c1) (W.length + 1) ((insE W i (⟨(satAdd [j.fin, waitL r n]), n + 1, ⟨1, 0, j.user, j.width, limitL r j.limit n, j.prio, false, 0, 0⟩⟩ : Entry)).flatMap Entry.cells) E1 ∧ v = .bool true ∧ H' = pool p r (.slice a1 (W.length + 1) c1) m :: rmap m (mdel j.id es) clk :: (E1 ++ G)) := by
  refine ac_of Try.func69 rfl rfl rfl ?_
  refine aw_seq_region ?_
  refine sr_new rfl (wtd_none rfl) rfl (x_box rfl rfl) ?_
  intro r0_0 hr0_0 gr0_0
  refine sr_x rfl (wtd_none rfl) rfl (Rd.x (x_assign rfl)) ?_
  refine sr_nil ?_
  refine aw_keep (keep_cons (t := 0) rfl (keep_cons (t := 3) rfl (keep_cons (t := 4) rfl keep_nil))) ?_
  refine aw_seq ?_
  refine aw_seq_region ?_
  refine sr_x rfl (wtd_none rfl) rfl (Rd.x (x_move rfl)) ?_
  refine sr_d rfl (wtd_none rfl) rfl (opS_call rfl rfl rfl rfl cl115 (rnone_s p r _ m _ (cells_ext (by repeat (first | exact List.mem_cons_self | apply List.mem_cons_of_mem | apply List.mem_append_right)) (by repeat (first | exact Ext.all _ | exact Ext.done | apply Ext.take | apply Ext.skip))))) ?_
  rintro _ H9 ⟨rfl, rfl⟩
  refine sr_nil ?_
  refine aw_keep (keep_cons (t := 0) rfl (keep_cons (t := 3) rfl (keep_cons (t := 4) rfl (keep_cons (t := 13) rfl keep_nil)))) ?_
  refine aw_false rfl ?_
  refine aw_skip ?_
  show AW _ _ _ _ _ _ _
  refine aw_seq_dr ⟨_, 8, 72, [[], [0], [0, 1], [0, 1, 2], [], [4], [0, 1, 2, 3, 4, 5], [0, 1, 2, 3, 4, 5, 6]], [.light, .light, .light, .mem, .light, .mem, .mem, .light]⟩ (by kernel_rfl) rfl rfl mix ?_
  refine dr_light rfl rfl (wtd_none rfl) (x_move rfl) ?_
  refine dr_light rfl rfl (wtd_none rfl) (x_nilCheck rfl) ?_
  refine dr_light rfl rfl (wtd_none rfl) (x_fieldAddr fd107_2 rfl) ?_
  refine dr_mem0 rfl rfl (wtd_none rfl) (x_load ag105 rfl (cells_ext (by repeat (first | exact List.mem_cons_self | apply List.mem_cons_of_mem | apply List.mem_append_right)) (by repeat (first | exact Ext.all _ | exact Ext.done | apply Ext.take | apply Ext.skip)))) ?_
  refine dr_light rfl rfl (wtd_none rfl) (x_fieldAddr fd91_0 rfl) ?_
  refine dr_mem0 rfl rfl (wtd_none rfl) (x_load ag3 rfl (cells_ext (by repeat (first | exact List.mem_cons_self | apply List.mem_cons_of_mem | apply List.mem_append_right)) (by repeat (first | exact Ext.all _ | exact Ext.done | apply Ext.take | apply Ext.skip)))) ?_
  refine dr_mem0 rfl rfl (wtd_none rfl) (x_cast (u := .int .i64 n) (x_lookup Try.underlying105 Try.underlying3 zr3 rfl rfl (map_at (by repeat (first | exact List.mem_cons_self | apply List.mem_cons_of_mem | apply List.mem_append_right))) hk) hn) ?_
  refine dr_light rfl rfl (wtd_none rfl) (x_assign rfl) ?_
  refine dr_nil0 ?_
  refine aw_keep (keep_cons (t := 0) rfl (keep_cons (t := 3) rfl (keep_cons (t := 4) rfl (keep_cons (t := 5) rfl keep_nil)))) ?_
  refine aw_seq_dr ⟨_, 7, 72, [[], [0], [0, 1], [0, 1, 2], [], [4], [0, 1, 2, 3, 4, 5]], [.light, .light, .light, .mem, .light, .mem, .eff]⟩ (by kernel_rfl) rfl rfl mix ?_
  refine dr_light rfl rfl (wtd_none rfl) (x_move rfl) ?_
  refine dr_light rfl rfl (wtd_none rfl) (x_nilCheck rfl) ?_
  refine dr_light rfl rfl (wtd_none rfl) (x_fieldAddr fd107_2 rfl) ?_
  refine dr_mem0 rfl rfl (wtd_none rfl) (x_load ag105 rfl (cells_ext (by repeat (first | exact List.mem_cons_self | apply List.mem_cons_of_mem | apply List.mem_append_right)) (by repeat (first | exact Ext.all _ | exact Ext.done | apply Ext.take | apply Ext.skip)))) ?_
  refine dr_light rfl rfl (wtd_none rfl) (x_fieldAddr fd91_0 rfl) ?_
  refine dr_mem0 rfl rfl (wtd_none rfl) (x_load ag3 rfl (cells_ext (by repeat (first | exact List.mem_cons_self | apply List.mem_cons_of_mem | apply List.mem_append_right)) (by repeat (first | exact Ext.all _ | exact Ext.done | apply Ext.take | apply Ext.skip)))) ?_
  refine dr_store0 rfl rfl (wtd_none rfl) (x_delete Try.underlying105 Try.underlying3 rfl rfl hk (by repeat (first | exact Repl.here | apply Repl.there | apply Repl.app))) (by first | rfl | simp [keys_append, keys_cons]) ?_
  refine dr_nil0 ?_
  refine aw_keep (keep_cons (t := 0) rfl (keep_cons (t := 3) rfl (keep_cons (t := 4) rfl (keep_cons (t := 5) rfl keep_nil)))) ?_
  refine aw_seq_dr ⟨_, 14, 72, [[], [0], [0, 1], [0, 1, 2], [], [], [0, 1, 2, 3, 4, 5], [0, 1, 2, 3, 4, 5, 6], [0, 1, 2, 3, 4, 5, 6, 7], [0, 1, 2, 3, 4, 5, 6, 7], [0, 1, 2, 3, 4, 5, 6, 7], [0, 1, 2, 3, 4, 5, 6, 7, 8], [0, 1, 2, 3, 4, 5, 6, 7, 8, 9, 11], [0, 1, 2, 3, 4, 5, 6, 7, 8, 9, 10, 11, 12]], [.light, .light, .light, .mem, .mem, .light, .call, .light, .light, .light, .light, .light, .light, .light]⟩ (by kernel_rfl) rfl rfl mix ?_
  refine dr_light rfl rfl (wtd_none rfl) (x_move rfl) ?_
  refine dr_light rfl rfl (wtd_none rfl) (x_nilCheck rfl) ?_
  refine dr_light rfl rfl (wtd_none rfl) (x_fieldAddr fd107_0 rfl) ?_
  refine dr_mem0 rfl rfl (wtd_none rfl) (x_loadN ag89 sz89 rfl (cells_ext (vs := r.cells) (n := 5) (by repeat (first | exact List.mem_cons_self | apply List.mem_cons_of_mem | apply List.mem_append_right)) (by repeat (first | exact Ext.done | apply Ext.take | apply Ext.skip))) rfl) ?_
  refine dr_mem0 rfl rfl (wtd_none rfl) (x_loadN ag91 sz91 rfl (cells_ext (by repeat (first | exact List.mem_cons_self | apply List.mem_cons_of_mem | apply List.mem_append_right)) (by repeat (first | exact Ext.all _ | exact Ext.done | apply Ext.take | apply Ext.skip))) rfl) ?_
  refine dr_light rfl rfl (wtd_none rfl) (x_move rfl) ?_
  refine dr_callq0 rfl rfl (wtd_none rfl) (opS_F rfl rfl rfl rfl cl56 ((again56_s _ _ _ _))) (⟨_, rfl⟩) ?_
  rintro _ rfl
  unfold againV
  rw [if_pos hyes]
  refine dr_light rfl rfl (wtd_none rfl) (x_move rfl) ?_
  refine dr_light rfl rfl (wtd_none rfl) (x_extract rfl rfl) ?_
  refine dr_light rfl rfl (wtd_none rfl) (x_extract rfl rfl) ?_
  refine dr_light rfl rfl (wtd_none rfl) (x_extract rfl rfl) ?_
  refine dr_light rfl rfl (wtd_none rfl) (x_assign rfl) ?_
  refine dr_light rfl rfl (wtd_none rfl) (x_assign rfl) ?_
  refine dr_light rfl rfl (wtd_none rfl) (x_assign rfl) ?_
  refine dr_nil0 ?_
  refine aw_keep (keep_cons (t := 0) rfl (keep_cons (t := 3) rfl (keep_cons (t := 4) rfl (keep_cons (t := 5) rfl (keep_cons (t := 6) rfl (keep_cons (t := 7) rfl (keep_cons (t := 8) rfl keep_nil))))))) ?_
  refine aw_seq ?_
  refine aw_seq_region ?_
  refine sr_x rfl (wtd_none rfl) rfl (Rd.x (x_move rfl)) ?_
  refine sr_x rfl (wtd_none rfl) rfl (Rd.x (x_not rfl)) ?_
  refine sr_nil ?_
  refine aw_keep (keep_cons (t := 0) rfl (keep_cons (t := 3) rfl (keep_cons (t := 4) rfl (keep_cons (t := 5) rfl (keep_cons (t := 6) rfl (keep_cons (t := 7) rfl (keep_cons (t := 39) rfl keep_nil))))))) ?_
  refine aw_false rfl ?_
  refine aw_skip ?_
  show AW _ _ _ _ _ _ _
  refine aw_seq_region ?_
  have hnb := hyes.2.1
  refine sr_x rfl (wtd_none rfl) rfl (Rd.x (x_move rfl)) ?_
  refine sr_x rfl (wtd_none rfl) rfl (Rd.x (x_move rfl)) ?_
  refine sr_x rfl (wtd_none rfl) rfl (Rd.x (x_add' rfl rfl (i64w (by omega) (by omega)))) ?_
  refine sr_x rfl (wtd_none rfl) rfl (Rd.x (x_fieldAddr fd91_1 rfl)) ?_
  refine sr_x rfl (wtd_none rfl) rfl (Rd.x (x_load ag3 rfl (cells_ext (by repeat (first | exact List.mem_cons_self | apply List.mem_cons_of_mem | apply List.mem_append_right)) (by repeat (first | exact Ext.all _ | exact Ext.done | apply Ext.take | apply Ext.skip))))) ?_
  refine sr_x rfl (wtd_none rfl) rfl (Rd.x (x_fieldAddr fd91_2 rfl)) ?_
  refine sr_x rfl (wtd_none rfl) rfl (Rd.x (x_load ag3 rfl (cells_ext (by repeat (first | exact List.mem_cons_self | apply List.mem_cons_of_mem | apply List.mem_append_right)) (by repeat (first | exact Ext.all _ | exact Ext.done | apply Ext.take | apply Ext.skip))))) ?_
  refine sr_x rfl (wtd_none rfl) rfl (Rd.x (x_move rfl)) ?_
  refine sr_x rfl (wtd_none rfl) rfl (Rd.x (x_fieldAddr fd91_4 rfl)) ?_
  refine sr_x rfl (wtd_none rfl) rfl (Rd.x (x_load ag3 rfl (cells_ext (by repeat (first | exact List.mem_cons_self | apply List.mem_cons_of_mem | apply List.mem_append_right)) (by repeat (first | exact Ext.all _ | exact Ext.done | apply Ext.take | apply Ext.skip))))) ?_
  refine sr_x rfl (wtd_none rfl) rfl (Rd.x (x_build zr36 rfl fl36 (by repeat (first | exact Parts.nil | (apply Parts.cons; rfl))) (by repeat (first | exact Fill.done | (apply Fill.part; rfl; rfl; rfl; focus (repeat (first | exact Spl.done | exact Spl.all rfl | apply Spl.put | apply Spl.skip))))))) ?_
  refine sr_x rfl (wtd_none rfl) rfl (Rd.x (x_build zr113 rfl fl113 (by repeat (first | exact Parts.nil | (apply Parts.cons; rfl))) (by repeat (first | exact Fill.done | (apply Fill.part; rfl; rfl; rfl; focus (repeat (first | exact Spl.done | exact Spl.all rfl | apply Spl.put | apply Spl.skip))))))) ?_
  refine sr_new rfl (wtd_none rfl) rfl (x_alloc zr113 rfl) ?_
  intro r8_12 hr8_12 gr8_12
  refine sr_x0 rfl (wtd_none rfl) (x_store sz113 rfl rfl rfl rfl rfl (by repeat (first | exact Repl.here | apply Repl.there | apply Repl.app)) (by repeat (first | exact Spl.done | exact Spl.all rfl | apply Spl.put | apply Spl.skip))) ?_
  refine sr_nil ?_
  refine aw_keep (keep_cons (t := 0) rfl (keep_cons (t := 4) rfl (keep_cons (t := 6) rfl (keep_cons (t := 9) rfl keep_nil)))) ?_
  refine aw_seq_region ?_
  refine sr_x rfl (wtd_none rfl) rfl (Rd.x (x_move rfl)) ?_
  refine sr_x rfl (wtd_none rfl) rfl (Rd.x (x_nilCheck rfl)) ?_
  refine sr_x rfl (wtd_none rfl) rfl (Rd.x (x_fieldAddr fd107_1 rfl)) ?_
  refine sr_x rfl (wtd_none rfl) rfl (Rd.x (x_load ag104 rfl (cells_ext (by repeat (first | exact List.mem_cons_self | apply List.mem_cons_of_mem | apply List.mem_append_right)) (by repeat (first | exact Ext.all _ | exact Ext.done | apply Ext.take | apply Ext.skip))))) ?_
  refine sr_x rfl (wtd_none rfl) rfl (Rd.x (x_move rfl)) ?_
  refine sr_d rfl (wtd_none rfl) rfl (opS_call rfl rfl rfl rfl cl118 (rbsearch_s a cap W (satAdd [j.fin, waitL r n]) (fun e => if e.at_ ≤ (satAdd [j.fin, waitL r n]) then -1 else 1) _ (V.slv' (fun _ => rfl) rfl (Sub.takeE0 (by repeat (first | exact TakeE.here | apply TakeE.there | apply TakeE.app)))) (by omega) (fun x _ H => rcmp_s x _ H) (fun i j x y hij hx hy h => mono_le hsrt hij hx hy h))) ?_
  rintro _ H9 ⟨⟨i, ok, rfl, hi1, hi2, hi3, hok⟩, rfl⟩
  refine sr_x rfl (wtd_none rfl) rfl (Rd.x (x_move rfl)) ?_
  refine sr_x rfl (wtd_none rfl) rfl (Rd.x (x_extract rfl rfl)) ?_
  refine sr_x rfl (wtd_none rfl) rfl (Rd.x (x_extract rfl rfl)) ?_
  refine sr_x rfl (wtd_none rfl) rfl (Rd.x (x_assign rfl)) ?_
  refine sr_x rfl (wtd_none rfl) rfl (Rd.x (x_assign rfl)) ?_
  refine sr_nil ?_
  refine aw_keep (keep_cons (t := 0) rfl (keep_cons (t := 4) rfl (keep_cons (t := 9) rfl (keep_cons (t := 10) rfl keep_nil)))) ?_
  refine aw_seq_dr ⟨_, 12, 72, [[], [], [1], [1, 2], [1, 2, 3], [], [], [6], [1, 2, 3, 4, 5, 6, 7], [0, 1, 2, 3, 4, 5, 6, 7, 8], [0, 1, 2, 3, 4, 5, 6, 7, 8, 9], [0, 1, 2, 3, 4, 5, 6, 7, 8, 9, 10]], [.light, .light, .light, .light, .mem, .light, .mem, .alloc, .eff, .light, .light, .eff]⟩ (by kernel_rfl) rfl rfl mix ?_
  refine dr_light rfl rfl (wtd_none rfl) (x_move rfl) ?_
  refine dr_light rfl rfl (wtd_none rfl) (x_move rfl) ?_
  refine dr_light rfl rfl (wtd_none rfl) (x_nilCheck rfl) ?_
  refine dr_light rfl rfl (wtd_none rfl) (x_fieldAddr fd107_1 rfl) ?_
  refine dr_mem0 rfl rfl (wtd_none rfl) (x_load ag104 rfl (cells_ext (by repeat (first | exact List.mem_cons_self | apply List.mem_cons_of_mem | apply List.mem_append_right)) (by repeat (first | exact Ext.all _ | exact Ext.done | apply Ext.take | apply Ext.skip)))) ?_
  refine dr_light rfl rfl (wtd_none rfl) (x_move rfl) ?_
  refine dr_mem0 rfl rfl (wtd_none rfl) (x_loadN ag113 sz113 rfl (cells_ext (by repeat (first | exact List.mem_cons_self | apply List.mem_cons_of_mem | apply List.mem_append_right)) (by repeat (first | exact Ext.all _ | exact Ext.done | apply Ext.take | apply Ext.skip))) rfl) ?_
  refine dr_alloc rfl rfl (wtd_none rfl) (x_buildSlice Try.underlying104 sz113 zr113 rfl rfl rfl rfl (by repeat (first | exact Parts.nil | (apply Parts.cons; rfl))) (by repeat (first | exact Fill.done | (apply Fill.part; rfl; rfl; rfl; focus (repeat (first | exact Spl.done | exact Spl.all rfl | apply Spl.put | apply Spl.skip)))))) ?_
  intro r10_7 hr10_7 gr10_7
  refine dr_eff rfl (V := [(r10_7, _)]) rfl (L' := []) (clear_all rfl) rfl (wtd_none rfl) (opS_F rfl rfl rfl rfl cl120 (AC.sub (by repeat (first | exact Sub.refl _ | refine Sub.take (by repeat (first | exact Take.here | apply Take.there | apply Take.app)) ?_ | refine Sub.takeE (by repeat (first | exact TakeE.here | apply TakeE.there | apply TakeE.app)) ?_ | exact Sub.nil _ | apply Sub.drop | apply Sub.dropE)) (rinsert_s (.slice a W.length cap) W.length i r10_7 (W.flatMap Entry.cells) (Entry.cells (⟨(satAdd [j.fin, waitL r n]), n + 1, ⟨1, 0, j.user, j.width, limitL r j.limit n, j.prio, false, 0, 0⟩⟩ : Entry)) E (pool p r (.slice a W.length cap) m :: rmap m (mdel j.id es) clk :: G) V rfl rfl (all_oneE W) hi1 (by omega)))) (vec_fresh (by rw [insE_cells, flat_len (n := 11) (fun _ => rfl), insE_len hi1]) (by omega) (by repeat (first | exact Sub.refl _ | refine Sub.take (by repeat (first | exact Take.here | apply Take.there | apply Take.app)) ?_ | refine Sub.takeE (by repeat (first | exact TakeE.here | apply TakeE.there | apply TakeE.app)) ?_ | exact Sub.nil _ | apply Sub.drop | apply Sub.dropE))) ?_
  rintro _ _ ⟨a1, c1, E1, rfl, V1, rfl⟩
  rw [insE_cells] at V1
  refine dr_light rfl rfl (wtd_none rfl) (x_nilCheck rfl) ?_
  refine dr_light rfl rfl (wtd_none rfl) (x_fieldAddr fd107_1 rfl) ?_
  refine dr_store0 rfl rfl (wtd_none rfl) (x_store sz104 rfl rfl rfl rfl rfl (by repeat (first | exact Repl.here | apply Repl.there | apply Repl.app)) (by repeat (first | exact Spl.done | exact Spl.all rfl | apply Spl.put | apply Spl.skip))) (by first | rfl | simp [keys_append, keys_cons]) ?_
  refine dr_nil0 ?_
  refine aw_keep (keep_cons (t := 4) rfl keep_nil) ?_
  refine aw_seq_region ?_
  refine sr_x rfl (wtd_none rfl) rfl (Rd.x (x_assign rfl)) ?_
  refine sr_nil ?_
  refine aw_keep (keep_cons (t := 4) rfl keep_nil) ?_
  refine aw_ret ?_
  show ∃ v H2, ResV _ _ _ _ _ _ v ∧ Sub H2 _ ∧ _
  exact ⟨_, pool p r (.slice a1 (W.length + 1) c1) m :: rmap m (mdel j.id es) clk :: (E1 ++ G), resV rfl (.cons rfl .nil), (by (repeat (first | exact Sub.refl _ | refine Sub.take (by repeat (first | exact Take.here | apply Take.there | apply Take.app)) ?_ | refine Sub.takeE (by repeat (first | exact TakeE.here | apply TakeE.there | apply TakeE.app)) ?_ | exact Sub.nil _ | apply Sub.drop | apply Sub.dropE)); first | done | fail), i, a1, c1, E1, ⟨hi1, fun k x hk hx => le_neg (hi2 k x hk hx), fun k x hk hx => gt_pos (hi3 k x hk hx)⟩, V1, rfl, rfl⟩
end
end Go.Proofs.Yteilocpjikmmdaa
